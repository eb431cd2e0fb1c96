/- Functions of the program, and what they come to. -/
import Derived.Test.YtfpjmijaiekbgaaGreatExactBuildStepF6
namespace Go.Tf
open Go.Proofs
set_option synthInstance.maxHeartbeats 400000
set_option synthInstance.maxSize 10000
set_option linter.unusedVariables false
set_option linter.unusedSimpArgs false
set_option maxRecDepth 100000
/-! spec_SecOk -/
section
noncomputable def B_spec_SecOk : Code := (Tryz.f249.body).getD .skip
noncomputable def E_spec_SecOk : Env := envOf TT [(200, con_spec_l1Words)] []
theorem fr_spec_SecOk_0 : FrOk Tryz.prog ⟨E_spec_SecOk, 10, fun _ => none⟩ B_spec_SecOk := frOk_base mixed tt_ok ⟨ok_spec_l1Words, trivial⟩
noncomputable def D_spec_SecOk_0 : Nat → Option Seg := fun _ => none
abbrev I_spec_SecOk : List Par := [.rd tL]
abbrev U_spec_SecOk : List OT := [⟨false, tB, .fz⟩]
noncomputable def raw_spec_SecOk (a0 : List Int) : Option (ResD U_spec_SecOk × MutD I_spec_SecOk) :=
  bif (leb (a0.length : Int) 12) then
    let r1 := n_spec_l1Words a0
    some ((r1, ()), ())
  else
    some ((false, ()), ())
theorem e_spec_SecOk (x : InD I_spec_SecOk) : execF ⟨E_spec_SecOk, 10, D_spec_SecOk_0⟩ Tryz.f249.results.toList B_spec_SecOk I_spec_SecOk U_spec_SecOk x = raw_spec_SecOk x.1 := by kernel_rfl
theorem ok0_spec_SecOk : ConOk Tryz.prog 249 ⟨I_spec_SecOk, U_spec_SecOk, fun x => raw_spec_SecOk x.1⟩ := conOk_exec (fr_spec_SecOk_0) Tryz.func249 (by kernel_rfl) (by kernel_rfl) Tryz.ntmps249.symm (by decide) (fun x r h => (e_spec_SecOk x).trans h)
noncomputable def n_spec_SecOk (a0 : List Int) : Bool :=
  bif (leb (a0.length : Int) 12) then
    let r1 := n_spec_l1Words a0
    r1
  else
    false
noncomputable def con_spec_SecOk : Con := ⟨I_spec_SecOk, U_spec_SecOk, fun x => (fun n => some ((n, ()), ())) (n_spec_SecOk x.1)⟩
theorem nn_spec_SecOk (a0 : List Int) : raw_spec_SecOk a0 = (fun n => some ((n, ()), ())) (n_spec_SecOk a0) := bif_ty (p := fun (n : Bool) => ((n, ()), ())) (bif_some (p := fun (n : Bool) => ((n, ()), ())) rfl rfl)
theorem ok_spec_SecOk : ConOk Tryz.prog 249 con_spec_SecOk := (ok0_spec_SecOk).mono (fun x r _ h => (nn_spec_SecOk x.1).trans h)
theorem spec_sec_eq : n_spec_SecOk = secOk := funext fun s => by
  unfold n_spec_SecOk secOk n_spec_l1Words
  rw [show n_spec_l1Word = isW from funext fun x => by unfold n_spec_l1Word; rw [in_eq]; rfl]
  cases leb (s.length : Int) 12 <;> rfl
end

/-! spec_MemOk -/
section
noncomputable def B_spec_MemOk : Code := (Tryz.f218.body).getD .skip
noncomputable def E_spec_MemOk : Env := envOf TT [(98, con_spec_l1In), (249, con_spec_SecOk)] []
theorem fr_spec_MemOk_0 : FrOk Tryz.prog ⟨E_spec_MemOk, 91, fun _ => none⟩ B_spec_MemOk := frOk_base mixed tt_ok ⟨ok_spec_l1In, ok_spec_SecOk, trivial⟩
noncomputable def D_spec_MemOk_0 : Nat → Option Seg := fun _ => none
def L_spec_MemOk_29 : Shape := ⟨[(1, false, [.ptr 0 0]), (3, false, [.int .i64]), (4, false, [.int .i64])], [(0, [.br tL, .br tW, .bool, .br tI])], []⟩
def S_spec_MemOk_29 : Shape := ⟨[(1, false, [.ptr 0 0]), (3, false, [.int .i64]), (4, false, [.ci .i64 0])], [(0, [.br tL, .br tW, .bool, .br tI])], []⟩
def O_spec_MemOk_29 : Shape := ⟨[(1, false, [.ptr 0 0]), (3, false, [.int .i64])], [(0, [.br tL, .br tW, .bool, .br tI])], []⟩
def Z_spec_MemOk_29 : Shape := ⟨[(2, false, [.bool])], [], []⟩
abbrev mk_spec_MemOk_29 (v0 : Int) (v1 : Int) (v2 : dM) : (L_spec_MemOk_29).X := ((((), ()), (v0, ()), (v1, ()), ()), ((v2.1, v2.2.1, v2.2.2.1, v2.2.2.2, ()), ()), ())
abbrev ms_spec_MemOk_29 (v0 : Int) (v1 : dM) : (S_spec_MemOk_29).X := ((((), ()), (v0, ()), ((), ()), ()), ((v1.1, v1.2.1, v1.2.2.1, v1.2.2.2, ()), ()), ())
abbrev mo_spec_MemOk_29 (v0 : Int) (v1 : dM) : (O_spec_MemOk_29).X := ((((), ()), (v0, ()), ()), ((v1.1, v1.2.1, v1.2.2.1, v1.2.2.2, ()), ()), ())
abbrev mz_spec_MemOk_29 (v0 : Bool) : (Z_spec_MemOk_29).X := (((v0, ()), ()), (), ())
noncomputable def st_spec_MemOk_29 (v0 : Int) (v1 : Int) (v2 : List (List Int)) (v3 : List dW) (v4 : Bool) (v5 : List Int) : Option ((L_spec_MemOk_29).X ⊕ ((O_spec_MemOk_29).X ⊕ (Z_spec_MemOk_29).X)) :=
  bif (ltb v1 v0) then
    bif (inb v1 v2.length) then
      let r2 := n_spec_SecOk (nth v2 v1 [])
      bif (!r2) then
        some (.inr (.inr (((false, ()), ()), (), ())))
      else
        some (.inl ((((), ()), (v0, ()), ((IntKind.i64.wrap (v1 + 1)), ()), ()), ((v2, v3, v4, v5, ()), ()), ()))
    else none
  else
    some (.inr (.inl ((((), ()), (v0, ()), ()), ((v2, v3, v4, v5, ()), ()), ())))
noncomputable def stx_spec_MemOk_29 (x : (L_spec_MemOk_29).X) := st_spec_MemOk_29 x.1.2.1.1 x.1.2.2.1.1 x.2.1.1.1 x.2.1.1.2.1 x.2.1.1.2.2.1 x.2.1.1.2.2.2.1
def em_spec_MemOk_29 (x : (S_spec_MemOk_29).X) : (L_spec_MemOk_29).X := ((((), ()), (x.1.2.1.1, ()), (0, ()), ()), ((x.2.1.1.1, x.2.1.1.2.1, x.2.1.1.2.2.1, x.2.1.1.2.2.2.1, ()), ()), ())
noncomputable def c_spec_MemOk_29 : Code := (subN B_spec_MemOk 64 116).getD .skip
theorem a_spec_MemOk_29 : subN B_spec_MemOk 64 29 = some (.block 0 (.loop c_spec_MemOk_29)) := by kernel_rfl
theorem r_spec_MemOk_29 (x : (L_spec_MemOk_29).X) : roundT ⟨E_spec_MemOk, 91, D_spec_MemOk_0⟩ 0 c_spec_MemOk_29 116 L_spec_MemOk_29 O_spec_MemOk_29 Z_spec_MemOk_29 x = stx_spec_MemOk_29 x := by kernel_rfl
noncomputable def fu_spec_MemOk_29 (x : (S_spec_MemOk_29).X) : Nat := (fun (u0 : Int) (u1 : List (List Int)) (u2 : List dW) (u3 : Bool) (u4 : List Int) => 18446744073709551616) x.1.2.1.1 x.2.1.1.1 x.2.1.1.2.1 x.2.1.1.2.2.1 x.2.1.1.2.2.2.1
noncomputable def F_spec_MemOk_29 (x : (S_spec_MemOk_29).X) : Option ((O_spec_MemOk_29).X ⊕ (Z_spec_MemOk_29).X) := loopN stx_spec_MemOk_29 (fu_spec_MemOk_29 x) (em_spec_MemOk_29 x)
noncomputable def sg_spec_MemOk_29 : Seg := ⟨S_spec_MemOk_29, O_spec_MemOk_29, Z_spec_MemOk_29, F_spec_MemOk_29⟩
noncomputable def D_spec_MemOk_1 : Nat → Option Seg := fun q => bif Nat.beq q 29 then some sg_spec_MemOk_29 else D_spec_MemOk_0 q
theorem fr_spec_MemOk_1 : FrOk Tryz.prog ⟨E_spec_MemOk, 91, D_spec_MemOk_1⟩ B_spec_MemOk := (fr_spec_MemOk_0).loop (sg := sg_spec_MemOk_29) L_spec_MemOk_29 em_spec_MemOk_29 (by decide) a_spec_MemOk_29 stx_spec_MemOk_29 fu_spec_MemOk_29 (by decide) (fun _ => rfl) (fun x r _ h => h) r_spec_MemOk_29
def L_spec_MemOk_61 : Shape := ⟨[(1, false, [.ptr 0 0]), (3, false, [.int .i64]), (5, false, [.int .i64])], [(0, [.br tL, .br tW, .bool, .br tI])], []⟩
def S_spec_MemOk_61 : Shape := ⟨[(1, false, [.ptr 0 0]), (3, false, [.int .i64]), (5, false, [.ci .i64 0])], [(0, [.br tL, .br tW, .bool, .br tI])], []⟩
def O_spec_MemOk_61 : Shape := ⟨[(1, false, [.ptr 0 0]), (3, false, [.int .i64])], [(0, [.br tL, .br tW, .bool, .br tI])], []⟩
def Z_spec_MemOk_61 : Shape := ⟨[(2, false, [.bool])], [], []⟩
abbrev mk_spec_MemOk_61 (v0 : Int) (v1 : Int) (v2 : dM) : (L_spec_MemOk_61).X := ((((), ()), (v0, ()), (v1, ()), ()), ((v2.1, v2.2.1, v2.2.2.1, v2.2.2.2, ()), ()), ())
abbrev ms_spec_MemOk_61 (v0 : Int) (v1 : dM) : (S_spec_MemOk_61).X := ((((), ()), (v0, ()), ((), ()), ()), ((v1.1, v1.2.1, v1.2.2.1, v1.2.2.2, ()), ()), ())
abbrev mo_spec_MemOk_61 (v0 : Int) (v1 : dM) : (O_spec_MemOk_61).X := ((((), ()), (v0, ()), ()), ((v1.1, v1.2.1, v1.2.2.1, v1.2.2.2, ()), ()), ())
abbrev mz_spec_MemOk_61 (v0 : Bool) : (Z_spec_MemOk_61).X := (((v0, ()), ()), (), ())
noncomputable def st_spec_MemOk_61 (v0 : Int) (v1 : Int) (v2 : List (List Int)) (v3 : List dW) (v4 : Bool) (v5 : List Int) : Option ((L_spec_MemOk_61).X ⊕ ((O_spec_MemOk_61).X ⊕ (Z_spec_MemOk_61).X)) :=
  bif (ltb v1 (v3.length : Int)) then
    bif (inb v1 v3.length) then
      let r6 := n_spec_l1In ((nth v3 v1 (0, [])).1) 0 (IntKind.i64.wrap (v0 - 1))
      bif (!(!r6)) then
        bif (inb v1 v3.length) then
          let r7 := n_spec_SecOk ((nth v3 v1 (0, [])).2)
          bif (!r7) then
            some (.inr (.inr (((false, ()), ()), (), ())))
          else
            some (.inl ((((), ()), (v0, ()), ((IntKind.i64.wrap (v1 + 1)), ()), ()), ((v2, v3, v4, v5, ()), ()), ()))
        else none
      else
        some (.inr (.inr (((false, ()), ()), (), ())))
    else none
  else
    some (.inr (.inl ((((), ()), (v0, ()), ()), ((v2, v3, v4, v5, ()), ()), ())))
noncomputable def stx_spec_MemOk_61 (x : (L_spec_MemOk_61).X) := st_spec_MemOk_61 x.1.2.1.1 x.1.2.2.1.1 x.2.1.1.1 x.2.1.1.2.1 x.2.1.1.2.2.1 x.2.1.1.2.2.2.1
def em_spec_MemOk_61 (x : (S_spec_MemOk_61).X) : (L_spec_MemOk_61).X := ((((), ()), (x.1.2.1.1, ()), (0, ()), ()), ((x.2.1.1.1, x.2.1.1.2.1, x.2.1.1.2.2.1, x.2.1.1.2.2.2.1, ()), ()), ())
noncomputable def c_spec_MemOk_61 : Code := (subN B_spec_MemOk 64 244).getD .skip
theorem a_spec_MemOk_61 : subN B_spec_MemOk 64 61 = some (.block 2 (.loop c_spec_MemOk_61)) := by kernel_rfl
theorem r_spec_MemOk_61 (x : (L_spec_MemOk_61).X) : roundT ⟨E_spec_MemOk, 91, D_spec_MemOk_1⟩ 2 c_spec_MemOk_61 244 L_spec_MemOk_61 O_spec_MemOk_61 Z_spec_MemOk_61 x = stx_spec_MemOk_61 x := by kernel_rfl
noncomputable def fu_spec_MemOk_61 (x : (S_spec_MemOk_61).X) : Nat := (fun (u0 : Int) (u1 : List (List Int)) (u2 : List dW) (u3 : Bool) (u4 : List Int) => 18446744073709551616) x.1.2.1.1 x.2.1.1.1 x.2.1.1.2.1 x.2.1.1.2.2.1 x.2.1.1.2.2.2.1
noncomputable def F_spec_MemOk_61 (x : (S_spec_MemOk_61).X) : Option ((O_spec_MemOk_61).X ⊕ (Z_spec_MemOk_61).X) := loopN stx_spec_MemOk_61 (fu_spec_MemOk_61 x) (em_spec_MemOk_61 x)
noncomputable def sg_spec_MemOk_61 : Seg := ⟨S_spec_MemOk_61, O_spec_MemOk_61, Z_spec_MemOk_61, F_spec_MemOk_61⟩
noncomputable def D_spec_MemOk_2 : Nat → Option Seg := fun q => bif Nat.beq q 61 then some sg_spec_MemOk_61 else D_spec_MemOk_1 q
theorem fr_spec_MemOk_2 : FrOk Tryz.prog ⟨E_spec_MemOk, 91, D_spec_MemOk_2⟩ B_spec_MemOk := (fr_spec_MemOk_1).loop (sg := sg_spec_MemOk_61) L_spec_MemOk_61 em_spec_MemOk_61 (by decide) a_spec_MemOk_61 stx_spec_MemOk_61 fu_spec_MemOk_61 (by decide) (fun _ => rfl) (fun x r _ h => h) r_spec_MemOk_61
def L_spec_MemOk_125 : Shape := ⟨[(1, false, [.ptr 0 0]), (3, false, [.int .i64]), (6, false, [.int .i64])], [(0, [.br tL, .br tW, .bool, .br tI])], []⟩
def S_spec_MemOk_125 : Shape := ⟨[(1, false, [.ptr 0 0]), (3, false, [.int .i64]), (6, false, [.ci .i64 0])], [(0, [.br tL, .br tW, .bool, .br tI])], []⟩
def O_spec_MemOk_125 : Shape := ⟨[(1, false, [.ptr 0 0]), (3, false, [.int .i64])], [(0, [.br tL, .br tW, .bool, .br tI])], []⟩
def Z_spec_MemOk_125 : Shape := ⟨[(2, false, [.bool])], [], []⟩
abbrev mk_spec_MemOk_125 (v0 : Int) (v1 : Int) (v2 : dM) : (L_spec_MemOk_125).X := ((((), ()), (v0, ()), (v1, ()), ()), ((v2.1, v2.2.1, v2.2.2.1, v2.2.2.2, ()), ()), ())
abbrev ms_spec_MemOk_125 (v0 : Int) (v1 : dM) : (S_spec_MemOk_125).X := ((((), ()), (v0, ()), ((), ()), ()), ((v1.1, v1.2.1, v1.2.2.1, v1.2.2.2, ()), ()), ())
abbrev mo_spec_MemOk_125 (v0 : Int) (v1 : dM) : (O_spec_MemOk_125).X := ((((), ()), (v0, ()), ()), ((v1.1, v1.2.1, v1.2.2.1, v1.2.2.2, ()), ()), ())
abbrev mz_spec_MemOk_125 (v0 : Bool) : (Z_spec_MemOk_125).X := (((v0, ()), ()), (), ())
noncomputable def st_spec_MemOk_125 (v0 : Int) (v1 : Int) (v2 : List (List Int)) (v3 : List dW) (v4 : Bool) (v5 : List Int) : Option ((L_spec_MemOk_125).X ⊕ ((O_spec_MemOk_125).X ⊕ (Z_spec_MemOk_125).X)) :=
  bif (ltb v1 (v5.length : Int)) then
    bif (inb v1 v5.length) then
      let r10 := n_spec_l1In (nth v5 v1 0) 0 (IntKind.i64.wrap (v0 - 1))
      bif (!(!r10)) then
        bif (ltb 0 v1) then
          bif (inb (IntKind.i64.wrap (v1 - 1)) v5.length) then
            bif (inb v1 v5.length) then
              bif (leb (nth v5 v1 0) (nth v5 (IntKind.i64.wrap (v1 - 1)) 0)) then
                some (.inr (.inr (((false, ()), ()), (), ())))
              else
                some (.inl ((((), ()), (v0, ()), ((IntKind.i64.wrap (v1 + 1)), ()), ()), ((v2, v3, v4, v5, ()), ()), ()))
            else none
          else none
        else
          some (.inl ((((), ()), (v0, ()), ((IntKind.i64.wrap (v1 + 1)), ()), ()), ((v2, v3, v4, v5, ()), ()), ()))
      else
        some (.inr (.inr (((false, ()), ()), (), ())))
    else none
  else
    some (.inr (.inl ((((), ()), (v0, ()), ()), ((v2, v3, v4, v5, ()), ()), ())))
noncomputable def stx_spec_MemOk_125 (x : (L_spec_MemOk_125).X) := st_spec_MemOk_125 x.1.2.1.1 x.1.2.2.1.1 x.2.1.1.1 x.2.1.1.2.1 x.2.1.1.2.2.1 x.2.1.1.2.2.2.1
def em_spec_MemOk_125 (x : (S_spec_MemOk_125).X) : (L_spec_MemOk_125).X := ((((), ()), (x.1.2.1.1, ()), (0, ()), ()), ((x.2.1.1.1, x.2.1.1.2.1, x.2.1.1.2.2.1, x.2.1.1.2.2.2.1, ()), ()), ())
noncomputable def c_spec_MemOk_125 : Code := (subN B_spec_MemOk 64 500).getD .skip
theorem a_spec_MemOk_125 : subN B_spec_MemOk 64 125 = some (.block 4 (.loop c_spec_MemOk_125)) := by kernel_rfl
theorem r_spec_MemOk_125 (x : (L_spec_MemOk_125).X) : roundT ⟨E_spec_MemOk, 91, D_spec_MemOk_2⟩ 4 c_spec_MemOk_125 500 L_spec_MemOk_125 O_spec_MemOk_125 Z_spec_MemOk_125 x = stx_spec_MemOk_125 x := by kernel_rfl
noncomputable def fu_spec_MemOk_125 (x : (S_spec_MemOk_125).X) : Nat := (fun (u0 : Int) (u1 : List (List Int)) (u2 : List dW) (u3 : Bool) (u4 : List Int) => 18446744073709551616) x.1.2.1.1 x.2.1.1.1 x.2.1.1.2.1 x.2.1.1.2.2.1 x.2.1.1.2.2.2.1
noncomputable def F_spec_MemOk_125 (x : (S_spec_MemOk_125).X) : Option ((O_spec_MemOk_125).X ⊕ (Z_spec_MemOk_125).X) := loopN stx_spec_MemOk_125 (fu_spec_MemOk_125 x) (em_spec_MemOk_125 x)
noncomputable def sg_spec_MemOk_125 : Seg := ⟨S_spec_MemOk_125, O_spec_MemOk_125, Z_spec_MemOk_125, F_spec_MemOk_125⟩
noncomputable def D_spec_MemOk_3 : Nat → Option Seg := fun q => bif Nat.beq q 125 then some sg_spec_MemOk_125 else D_spec_MemOk_2 q
theorem fr_spec_MemOk_3 : FrOk Tryz.prog ⟨E_spec_MemOk, 91, D_spec_MemOk_3⟩ B_spec_MemOk := (fr_spec_MemOk_2).loop (sg := sg_spec_MemOk_125) L_spec_MemOk_125 em_spec_MemOk_125 (by decide) a_spec_MemOk_125 stx_spec_MemOk_125 fu_spec_MemOk_125 (by decide) (fun _ => rfl) (fun x r _ h => h) r_spec_MemOk_125
abbrev I_spec_MemOk : List Par := [.rd tM]
abbrev U_spec_MemOk : List OT := [⟨false, tB, .fz⟩]
noncomputable def raw_spec_MemOk (a0 : dM) : Option (ResD U_spec_MemOk × MutD I_spec_MemOk) :=
  segM (F_spec_MemOk_29 ((((), ()), ((a0.1.length : Int), ()), ((), ()), ()), ((a0.1, a0.2.1, a0.2.2.1, a0.2.2.2, ()), ()), ())) (fun y2 =>
    segM (F_spec_MemOk_61 ((((), ()), (y2.1.2.1.1, ()), ((), ()), ()), ((y2.2.1.1.1, y2.2.1.1.2.1, y2.2.1.1.2.2.1, y2.2.1.1.2.2.2.1, ()), ()), ())) (fun y7 =>
      segM (F_spec_MemOk_125 ((((), ()), (y7.1.2.1.1, ()), ((), ()), ()), ((y7.2.1.1.1, y7.2.1.1.2.1, y7.2.1.1.2.2.1, y7.2.1.1.2.2.2.1, ()), ()), ())) (fun y10 =>
        let r12 := n_spec_l1In y10.1.2.1.1 1 20
        bif r12 then
          some (((leb (y10.2.1.1.2.1.length : Int) 60), ()), ())
        else
          some ((false, ()), ())) (fun y10 =>
        some ((y10.1.1.1, ()), ()))) (fun y7 =>
      some ((y7.1.1.1, ()), ()))) (fun y2 =>
    some ((y2.1.1.1, ()), ()))
theorem e_spec_MemOk (x : InD I_spec_MemOk) : execF ⟨E_spec_MemOk, 91, D_spec_MemOk_3⟩ Tryz.f218.results.toList B_spec_MemOk I_spec_MemOk U_spec_MemOk x = raw_spec_MemOk x.1 := by kernel_rfl
theorem ok0_spec_MemOk : ConOk Tryz.prog 218 ⟨I_spec_MemOk, U_spec_MemOk, fun x => raw_spec_MemOk x.1⟩ := conOk_exec (fr_spec_MemOk_3) Tryz.func218 (by kernel_rfl) (by kernel_rfl) Tryz.ntmps218.symm (by decide) (fun x r h => (e_spec_MemOk x).trans h)
noncomputable def n_spec_MemOk (a0 : dM) : Bool := memOk a0
theorem nn_spec_MemOk (a0 : dM) (hk : InOk I_spec_MemOk (a0, ())) : raw_spec_MemOk a0 = (fun n => some ((n, ()), ())) (n_spec_MemOk a0) := by
  have hb1 : a0.1.length * 24 ≤ 2 ^ 47 := hk.1.1.1
  have hb2 : a0.2.1.length * 32 ≤ 2 ^ 47 := hk.1.2.1.1
  have hb3 : a0.2.2.2.length * 8 ≤ 2 ^ 47 := hk.1.2.2.2.1
  have h1 : F_spec_MemOk_29 (ms_spec_MemOk_29 a0.1.length a0) = some (bif a0.1.all secOk then .inl (mo_spec_MemOk_29 a0.1.length a0) else .inr (mz_spec_MemOk_29 false)) :=
    loopN_list_all (step := stx_spec_MemOk_29) a0.1 [] (fun i => mk_spec_MemOk_29 a0.1.length i a0) secOk _ _ (fun i hi => by
      simp only [stx_spec_MemOk_29, mk_spec_MemOk_29, st_spec_MemOk_29, ltb_t (show (i : Int) < a0.1.length by omega), cond_true, wr (show -9223372036854775808 ≤ (i : Int) + 1 by omega) (by omega), Int.natCast_add, Int.natCast_one, Int.toNat_natCast, inb_nat hi, nth_nat, spec_sec_eq]
      cases secOk (a0.1.getD i []) <;> rfl) (by simp only [stx_spec_MemOk_29, mk_spec_MemOk_29, st_spec_MemOk_29, ltb_f (Int.le_refl _), cond_false]) _ (by show _ < 18446744073709551616; omega)
  have h2 : F_spec_MemOk_61 (ms_spec_MemOk_61 a0.1.length a0) = some (bif a0.2.1.all (wrOk a0.1.length) then .inl (mo_spec_MemOk_61 a0.1.length a0) else .inr (mz_spec_MemOk_61 false)) :=
    loopN_list_all (step := stx_spec_MemOk_61) a0.2.1 (0, []) (fun i => mk_spec_MemOk_61 a0.1.length i a0) (wrOk a0.1.length) _ _ (fun i hi => by
      simp only [stx_spec_MemOk_61, mk_spec_MemOk_61, st_spec_MemOk_61, ltb_t (show (i : Int) < a0.2.1.length by omega), cond_true, wr (show -9223372036854775808 ≤ (i : Int) + 1 by omega) (by omega), Int.natCast_add, Int.natCast_one, Int.toNat_natCast, inb_nat hi, nth_nat, spec_sec_eq, in_len (show a0.1.length ≤ 1152921504606846976 by omega), wrOk]
      cases inb (a0.2.1.getD i (0, [])).1 a0.1.length <;> cases secOk (a0.2.1.getD i (0, [])).2 <;> rfl) (by simp only [stx_spec_MemOk_61, mk_spec_MemOk_61, st_spec_MemOk_61, ltb_f (Int.le_refl _), cond_false]) _ (by show _ < 18446744073709551616; omega)
  have h3 : F_spec_MemOk_125 (ms_spec_MemOk_125 a0.1.length a0) = some (bif (List.range a0.2.2.2.length).any (badAt a0.1.length a0.2.2.2) then .inr (mz_spec_MemOk_125 false) else .inl (mo_spec_MemOk_125 a0.1.length a0)) :=
    loopN_all (step := stx_spec_MemOk_125) (fun i => mk_spec_MemOk_125 a0.1.length i a0) a0.2.2.2.length (badAt a0.1.length a0.2.2.2) _ _ (fun i hi => by
      simp only [stx_spec_MemOk_125, mk_spec_MemOk_125, st_spec_MemOk_125, ltb_t (show (i : Int) < a0.2.2.2.length by omega), cond_true, wr (show -9223372036854775808 ≤ (i : Int) + 1 by omega) (by omega), Int.natCast_add, Int.natCast_one, Int.toNat_natCast, inb_nat hi, nth_nat, in_len (show a0.1.length ≤ 1152921504606846976 by omega), badAt]
      rcases Nat.eq_zero_or_pos i with rfl | h0
      · cases inb (a0.2.2.2.getD 0 0) a0.1.length <;> rfl
      · rw [show IntKind.i64.wrap ((i : Int) - 1) = ((i - 1 : Nat) : Int) by rw [wr (by omega) (by omega)]; omega, inb_nat (show i - 1 < a0.2.2.2.length by omega), nth_nat, ltb_t (show (0 : Int) < i by omega), decide_eq_true h0]
        cases inb (a0.2.2.2.getD i 0) a0.1.length <;> cases leb (a0.2.2.2.getD i 0) (a0.2.2.2.getD (i - 1) 0) <;> rfl) (by simp only [stx_spec_MemOk_125, mk_spec_MemOk_125, st_spec_MemOk_125, ltb_f (Int.le_refl _), cond_false]) _ (by show _ < 18446744073709551616; omega)
  unfold raw_spec_MemOk n_spec_MemOk memOk
  rw [h1]
  cases a0.1.all secOk
  · rfl
  simp only [cond_true, segM_inl, h2]
  cases a0.2.1.all (wrOk a0.1.length)
  · rfl
  simp only [cond_true, segM_inl, h3, badAt_any, in_eq]
  cases badOk a0.1.length a0.2.2.2
  · rfl
  simp only [Bool.not_true, cond_false, segM_inl]
  cases leb 1 (a0.1.length : Int) <;> cases leb (a0.1.length : Int) 20 <;> rfl
noncomputable def con_spec_MemOk : Con := ⟨I_spec_MemOk, U_spec_MemOk, fun x => (fun n => some ((n, ()), ())) (n_spec_MemOk x.1)⟩
theorem ok_spec_MemOk : ConOk Tryz.prog 218 con_spec_MemOk := (ok0_spec_MemOk).mono (fun x r hk h => (nn_spec_MemOk x.1 hk).trans h)
end

/-! spec_l6Secs -/
section
noncomputable def B_spec_l6Secs : Code := (Tryz.f219.body).getD .skip
noncomputable def E_spec_l6Secs : Env := envOf TT [] []
theorem fr_spec_l6Secs_0 : FrOk Tryz.prog ⟨E_spec_l6Secs, 6, fun _ => none⟩ B_spec_l6Secs := frOk_base mixed tt_ok trivial
noncomputable def D_spec_l6Secs_0 : Nat → Option Seg := fun _ => none
abbrev I_spec_l6Secs : List Par := [.rd tG]
abbrev U_spec_l6Secs : List OT := [⟨false, tI, .fz⟩]
noncomputable def raw_spec_l6Secs (a0 : dG) : Option (ResD U_spec_l6Secs × MutD I_spec_l6Secs) :=
  some (((IntKind.i64.wrap (6 + a0.2)), ()), ())
theorem e_spec_l6Secs (x : InD I_spec_l6Secs) : execF ⟨E_spec_l6Secs, 6, D_spec_l6Secs_0⟩ Tryz.f219.results.toList B_spec_l6Secs I_spec_l6Secs U_spec_l6Secs x = raw_spec_l6Secs x.1 := by kernel_rfl
theorem ok0_spec_l6Secs : ConOk Tryz.prog 219 ⟨I_spec_l6Secs, U_spec_l6Secs, fun x => raw_spec_l6Secs x.1⟩ := conOk_exec (fr_spec_l6Secs_0) Tryz.func219 (by kernel_rfl) (by kernel_rfl) Tryz.ntmps219.symm (by decide) (fun x r h => (e_spec_l6Secs x).trans h)
noncomputable def n_spec_l6Secs (a0 : dG) : Int :=
  (IntKind.i64.wrap (6 + a0.2))
noncomputable def con_spec_l6Secs : Con := ⟨I_spec_l6Secs, U_spec_l6Secs, fun x => (fun n => some ((n, ()), ())) (n_spec_l6Secs x.1)⟩
theorem nn_spec_l6Secs (a0 : dG) : raw_spec_l6Secs a0 = (fun n => some ((n, ()), ())) (n_spec_l6Secs a0) := bif_ty (p := fun (n : Int) => ((n, ()), ())) rfl
theorem ok_spec_l6Secs : ConOk Tryz.prog 219 con_spec_l6Secs := (ok0_spec_l6Secs).mono (fun x r _ h => (nn_spec_l6Secs x.1).trans h)
end

/-! spec_l6Mems -/
section
noncomputable def B_spec_l6Mems : Code := (Tryz.f158.body).getD .skip
noncomputable def E_spec_l6Mems : Env := envOf TT [(218, con_spec_MemOk), (219, con_spec_l6Secs)] []
theorem fr_spec_l6Mems_0 : FrOk Tryz.prog ⟨E_spec_l6Mems, 51, fun _ => none⟩ B_spec_l6Mems := frOk_base mixed tt_ok ⟨ok_spec_MemOk, ok_spec_l6Secs, trivial⟩
noncomputable def D_spec_l6Mems_0 : Nat → Option Seg := fun _ => none
def L_spec_l6Mems_13 : Shape := ⟨[(1, false, [.ptr 0 0]), (3, false, [.int .i64])], [(0, [.int .i64, .int .i64, .int .i64, .br tM, .int .i64, .int .i64, .int .i64, .int .i64, .int .i64, .br tW, .int .i64, .bool, .bool])], []⟩
def S_spec_l6Mems_13 : Shape := ⟨[(1, false, [.ptr 0 0]), (3, false, [.ci .i64 0])], [(0, [.int .i64, .int .i64, .int .i64, .br tM, .int .i64, .int .i64, .int .i64, .int .i64, .int .i64, .br tW, .int .i64, .bool, .bool])], []⟩
def O_spec_l6Mems_13 : Shape := ⟨[(1, false, [.ptr 0 0])], [(0, [.int .i64, .int .i64, .int .i64, .br tM, .int .i64, .int .i64, .int .i64, .int .i64, .int .i64, .br tW, .int .i64, .bool, .bool])], []⟩
def Z_spec_l6Mems_13 : Shape := ⟨[(2, false, [.bool])], [], []⟩
abbrev mk_spec_l6Mems_13 (v0 : Int) (v1 : dA) : (L_spec_l6Mems_13).X := ((((), ()), (v0, ()), ()), ((v1.1, v1.2.1.1, v1.2.1.2, v1.2.2.1, v1.2.2.2.1, v1.2.2.2.2.1, v1.2.2.2.2.2.1, v1.2.2.2.2.2.2.1, v1.2.2.2.2.2.2.2.1, v1.2.2.2.2.2.2.2.2.1, v1.2.2.2.2.2.2.2.2.2.1, v1.2.2.2.2.2.2.2.2.2.2.1, v1.2.2.2.2.2.2.2.2.2.2.2, ()), ()), ())
abbrev ms_spec_l6Mems_13 (v0 : dA) : (S_spec_l6Mems_13).X := ((((), ()), ((), ()), ()), ((v0.1, v0.2.1.1, v0.2.1.2, v0.2.2.1, v0.2.2.2.1, v0.2.2.2.2.1, v0.2.2.2.2.2.1, v0.2.2.2.2.2.2.1, v0.2.2.2.2.2.2.2.1, v0.2.2.2.2.2.2.2.2.1, v0.2.2.2.2.2.2.2.2.2.1, v0.2.2.2.2.2.2.2.2.2.2.1, v0.2.2.2.2.2.2.2.2.2.2.2, ()), ()), ())
abbrev mo_spec_l6Mems_13 (v0 : dA) : (O_spec_l6Mems_13).X := ((((), ()), ()), ((v0.1, v0.2.1.1, v0.2.1.2, v0.2.2.1, v0.2.2.2.1, v0.2.2.2.2.1, v0.2.2.2.2.2.1, v0.2.2.2.2.2.2.1, v0.2.2.2.2.2.2.2.1, v0.2.2.2.2.2.2.2.2.1, v0.2.2.2.2.2.2.2.2.2.1, v0.2.2.2.2.2.2.2.2.2.2.1, v0.2.2.2.2.2.2.2.2.2.2.2, ()), ()), ())
abbrev mz_spec_l6Mems_13 (v0 : Bool) : (Z_spec_l6Mems_13).X := (((v0, ()), ()), (), ())
noncomputable def st_spec_l6Mems_13 (v0 : Int) (v1 : Int) (v2 : Int) (v3 : Int) (v4 : List dM) (v5 : Int) (v6 : Int) (v7 : Int) (v8 : Int) (v9 : Int) (v10 : List dW) (v11 : Int) (v12 : Bool) (v13 : Bool) : Option ((L_spec_l6Mems_13).X ⊕ ((O_spec_l6Mems_13).X ⊕ (Z_spec_l6Mems_13).X)) :=
  bif (ltb v0 (v4.length : Int)) then
    bif (inb v0 v4.length) then
      let r3 := n_spec_MemOk ((nth v4 v0 ([], [], false, [])).1, ((nth v4 v0 ([], [], false, [])).2).1, (((nth v4 v0 ([], [], false, [])).2).2))
      bif (!(!r3)) then
        let r4 := n_spec_l6Secs (v2, v3)
        bif (!((((nth v4 v0 ([], [], false, [])).1).length : Int) != r4)) then
          bif (((nth v4 v0 ([], [], false, [])).2).2).1 then
            bif (v0 != v5) then
              bif (!v13) then
                some (.inr (.inr (((false, ()), ()), (), ())))
              else
                some (.inl ((((), ()), ((IntKind.i64.wrap (v0 + 1)), ()), ()), ((v1, v2, v3, v4, v5, v6, v7, v8, v9, v10, v11, v12, v13, ()), ()), ()))
            else
              some (.inl ((((), ()), ((IntKind.i64.wrap (v0 + 1)), ()), ()), ((v1, v2, v3, v4, v5, v6, v7, v8, v9, v10, v11, v12, v13, ()), ()), ()))
          else
            some (.inl ((((), ()), ((IntKind.i64.wrap (v0 + 1)), ()), ()), ((v1, v2, v3, v4, v5, v6, v7, v8, v9, v10, v11, v12, v13, ()), ()), ()))
        else
          some (.inr (.inr (((false, ()), ()), (), ())))
      else
        some (.inr (.inr (((false, ()), ()), (), ())))
    else none
  else
    some (.inr (.inl ((((), ()), ()), ((v1, v2, v3, v4, v5, v6, v7, v8, v9, v10, v11, v12, v13, ()), ()), ())))
noncomputable def stx_spec_l6Mems_13 (x : (L_spec_l6Mems_13).X) := st_spec_l6Mems_13 x.1.2.1.1 x.2.1.1.1 x.2.1.1.2.1 x.2.1.1.2.2.1 x.2.1.1.2.2.2.1 x.2.1.1.2.2.2.2.1 x.2.1.1.2.2.2.2.2.1 x.2.1.1.2.2.2.2.2.2.1 x.2.1.1.2.2.2.2.2.2.2.1 x.2.1.1.2.2.2.2.2.2.2.2.1 x.2.1.1.2.2.2.2.2.2.2.2.2.1 x.2.1.1.2.2.2.2.2.2.2.2.2.2.1 x.2.1.1.2.2.2.2.2.2.2.2.2.2.2.1 x.2.1.1.2.2.2.2.2.2.2.2.2.2.2.2.1
def em_spec_l6Mems_13 (x : (S_spec_l6Mems_13).X) : (L_spec_l6Mems_13).X := ((((), ()), (0, ()), ()), ((x.2.1.1.1, x.2.1.1.2.1, x.2.1.1.2.2.1, x.2.1.1.2.2.2.1, x.2.1.1.2.2.2.2.1, x.2.1.1.2.2.2.2.2.1, x.2.1.1.2.2.2.2.2.2.1, x.2.1.1.2.2.2.2.2.2.2.1, x.2.1.1.2.2.2.2.2.2.2.2.1, x.2.1.1.2.2.2.2.2.2.2.2.2.1, x.2.1.1.2.2.2.2.2.2.2.2.2.2.1, x.2.1.1.2.2.2.2.2.2.2.2.2.2.2.1, x.2.1.1.2.2.2.2.2.2.2.2.2.2.2.2.1, ()), ()), ())
noncomputable def c_spec_l6Mems_13 : Code := (subN B_spec_l6Mems 64 52).getD .skip
theorem a_spec_l6Mems_13 : subN B_spec_l6Mems 64 13 = some (.block 0 (.loop c_spec_l6Mems_13)) := by kernel_rfl
theorem r_spec_l6Mems_13 (x : (L_spec_l6Mems_13).X) : roundT ⟨E_spec_l6Mems, 51, D_spec_l6Mems_0⟩ 0 c_spec_l6Mems_13 52 L_spec_l6Mems_13 O_spec_l6Mems_13 Z_spec_l6Mems_13 x = stx_spec_l6Mems_13 x := by kernel_rfl
noncomputable def fu_spec_l6Mems_13 (x : (S_spec_l6Mems_13).X) : Nat := (fun (u0 : Int) (u1 : Int) (u2 : Int) (u3 : List dM) (u4 : Int) (u5 : Int) (u6 : Int) (u7 : Int) (u8 : Int) (u9 : List dW) (u10 : Int) (u11 : Bool) (u12 : Bool) => 18446744073709551616) x.2.1.1.1 x.2.1.1.2.1 x.2.1.1.2.2.1 x.2.1.1.2.2.2.1 x.2.1.1.2.2.2.2.1 x.2.1.1.2.2.2.2.2.1 x.2.1.1.2.2.2.2.2.2.1 x.2.1.1.2.2.2.2.2.2.2.1 x.2.1.1.2.2.2.2.2.2.2.2.1 x.2.1.1.2.2.2.2.2.2.2.2.2.1 x.2.1.1.2.2.2.2.2.2.2.2.2.2.1 x.2.1.1.2.2.2.2.2.2.2.2.2.2.2.1 x.2.1.1.2.2.2.2.2.2.2.2.2.2.2.2.1
noncomputable def F_spec_l6Mems_13 (x : (S_spec_l6Mems_13).X) : Option ((O_spec_l6Mems_13).X ⊕ (Z_spec_l6Mems_13).X) := loopN stx_spec_l6Mems_13 (fu_spec_l6Mems_13 x) (em_spec_l6Mems_13 x)
noncomputable def sg_spec_l6Mems_13 : Seg := ⟨S_spec_l6Mems_13, O_spec_l6Mems_13, Z_spec_l6Mems_13, F_spec_l6Mems_13⟩
noncomputable def D_spec_l6Mems_1 : Nat → Option Seg := fun q => bif Nat.beq q 13 then some sg_spec_l6Mems_13 else D_spec_l6Mems_0 q
theorem fr_spec_l6Mems_1 : FrOk Tryz.prog ⟨E_spec_l6Mems, 51, D_spec_l6Mems_1⟩ B_spec_l6Mems := (fr_spec_l6Mems_0).loop (sg := sg_spec_l6Mems_13) L_spec_l6Mems_13 em_spec_l6Mems_13 (by decide) a_spec_l6Mems_13 stx_spec_l6Mems_13 fu_spec_l6Mems_13 (by decide) (fun _ => rfl) (fun x r _ h => h) r_spec_l6Mems_13
abbrev I_spec_l6Mems : List Par := [.rd tA]
abbrev U_spec_l6Mems : List OT := [⟨false, tB, .fz⟩]
noncomputable def raw_spec_l6Mems (a0 : dA) : Option (ResD U_spec_l6Mems × MutD I_spec_l6Mems) :=
  segM (F_spec_l6Mems_13 ((((), ()), ((), ()), ()), ((a0.1, a0.2.1.1, a0.2.1.2, a0.2.2.1, a0.2.2.2.1, a0.2.2.2.2.1, a0.2.2.2.2.2.1, a0.2.2.2.2.2.2.1, a0.2.2.2.2.2.2.2.1, a0.2.2.2.2.2.2.2.2.1, a0.2.2.2.2.2.2.2.2.2.1, a0.2.2.2.2.2.2.2.2.2.2.1, a0.2.2.2.2.2.2.2.2.2.2.2, ()), ()), ())) (fun y4 =>
    some ((((y4.2.1.1.2.2.2.1.length : Int) == y4.2.1.1.2.1), ()), ())) (fun y4 =>
    some ((y4.1.1.1, ()), ()))
theorem e_spec_l6Mems (x : InD I_spec_l6Mems) : execF ⟨E_spec_l6Mems, 51, D_spec_l6Mems_1⟩ Tryz.f158.results.toList B_spec_l6Mems I_spec_l6Mems U_spec_l6Mems x = raw_spec_l6Mems x.1 := by kernel_rfl
theorem ok0_spec_l6Mems : ConOk Tryz.prog 158 ⟨I_spec_l6Mems, U_spec_l6Mems, fun x => raw_spec_l6Mems x.1⟩ := conOk_exec (fr_spec_l6Mems_1) Tryz.func158 (by kernel_rfl) (by kernel_rfl) Tryz.ntmps158.symm (by decide) (fun x r h => (e_spec_l6Mems x).trans h)
noncomputable def n_spec_l6Mems (a0 : dA) : Bool := memsOk a0
noncomputable def q_spec_l6Mems (a0 : dA) : Bool := n_spec_GeoOk a0.2.1
theorem nn_spec_l6Mems (a0 : dA) (hk : InOk I_spec_l6Mems (a0, ())) (hq : q_spec_l6Mems a0 = true) : raw_spec_l6Mems a0 = (fun n => some ((n, ()), ())) (n_spec_l6Mems a0) := by
  have hb : a0.2.2.1.length * 80 ≤ 2 ^ 47 := hk.1.2.2.1.1
  have hg := geo_iff.1 hq
  have h1 : F_spec_l6Mems_13 (ms_spec_l6Mems_13 a0) = some (bif (List.range a0.2.2.1.length).any (memBad a0) then .inr (mz_spec_l6Mems_13 false) else .inl (mo_spec_l6Mems_13 a0)) :=
    loopN_all (step := stx_spec_l6Mems_13) (fun i => mk_spec_l6Mems_13 i a0) a0.2.2.1.length (memBad a0) _ _ (fun i hi => by
      simp only [stx_spec_l6Mems_13, mk_spec_l6Mems_13, st_spec_l6Mems_13, ltb_t (show (i : Int) < a0.2.2.1.length by omega), cond_true, wr (show -9223372036854775808 ≤ (i : Int) + 1 by omega) (by omega), Int.natCast_add, Int.natCast_one, Int.toNat_natCast, inb_nat hi, pr_eta, n_spec_MemOk, memBad, n_spec_l6Secs, wr (show -9223372036854775808 ≤ 6 + a0.2.1.2 by omega) (by omega), noMem]
      cases memOk (nth a0.2.2.1 i ([], [], false, [])) <;> cases (((nth a0.2.2.1 i ([], [], false, [])).1.length : Int) != 6 + a0.2.1.2) <;> cases (nth a0.2.2.1 i ([], [], false, [])).2.2.1 <;> cases ((i : Int) != a0.2.2.2.1) <;> cases a0.2.2.2.2.2.2.2.2.2.2.2 <;> rfl) (by simp only [stx_spec_l6Mems_13, mk_spec_l6Mems_13, st_spec_l6Mems_13, ltb_f (Int.le_refl _), cond_false]) _ (by show _ < 18446744073709551616; omega)
  unfold raw_spec_l6Mems n_spec_l6Mems memsOk
  rw [h1]
  cases (List.range a0.2.2.1.length).any (memBad a0) <;> rfl
noncomputable def o_spec_l6Mems (a0 : dA) : Option (ResD U_spec_l6Mems × MutD I_spec_l6Mems) := bif q_spec_l6Mems a0 then (fun n => some ((n, ()), ())) (n_spec_l6Mems a0) else none
theorem ot_spec_l6Mems (a0 : dA) (h : q_spec_l6Mems a0 = true) : o_spec_l6Mems a0 = (fun n => some ((n, ()), ())) (n_spec_l6Mems a0) := by unfold o_spec_l6Mems; rw [h]; rfl
noncomputable def con_spec_l6Mems : Con := ⟨I_spec_l6Mems, U_spec_l6Mems, fun x => o_spec_l6Mems x.1⟩
theorem ok_spec_l6Mems : ConOk Tryz.prog 158 con_spec_l6Mems := (ok0_spec_l6Mems).mono (fun x r hk h => pre_ok h (fun hq => nn_spec_l6Mems x.1 hk hq))
end

/-! spec_l6Dirty -/
section
noncomputable def B_spec_l6Dirty : Code := (Tryz.f159.body).getD .skip
noncomputable def E_spec_l6Dirty : Env := envOf TT [(98, con_spec_l1In), (200, con_spec_l1Words)] []
theorem fr_spec_l6Dirty_0 : FrOk Tryz.prog ⟨E_spec_l6Dirty, 57, fun _ => none⟩ B_spec_l6Dirty := frOk_base mixed tt_ok ⟨ok_spec_l1In, ok_spec_l1Words, trivial⟩
noncomputable def D_spec_l6Dirty_0 : Nat → Option Seg := fun _ => none
def L_spec_l6Dirty_13 : Shape := ⟨[(1, false, [.ptr 0 0]), (3, false, [.int .i64])], [(0, [.int .i64, .int .i64, .int .i64, .br tM, .int .i64, .int .i64, .int .i64, .int .i64, .int .i64, .br tW, .int .i64, .bool, .bool])], []⟩
def S_spec_l6Dirty_13 : Shape := ⟨[(1, false, [.ptr 0 0]), (3, false, [.ci .i64 0])], [(0, [.int .i64, .int .i64, .int .i64, .br tM, .int .i64, .int .i64, .int .i64, .int .i64, .int .i64, .br tW, .int .i64, .bool, .bool])], []⟩
def O_spec_l6Dirty_13 : Shape := ⟨[], [], []⟩
def Z_spec_l6Dirty_13 : Shape := ⟨[(2, false, [.bool])], [], []⟩
abbrev mk_spec_l6Dirty_13 (v0 : Int) (v1 : dA) : (L_spec_l6Dirty_13).X := ((((), ()), (v0, ()), ()), ((v1.1, v1.2.1.1, v1.2.1.2, v1.2.2.1, v1.2.2.2.1, v1.2.2.2.2.1, v1.2.2.2.2.2.1, v1.2.2.2.2.2.2.1, v1.2.2.2.2.2.2.2.1, v1.2.2.2.2.2.2.2.2.1, v1.2.2.2.2.2.2.2.2.2.1, v1.2.2.2.2.2.2.2.2.2.2.1, v1.2.2.2.2.2.2.2.2.2.2.2, ()), ()), ())
abbrev ms_spec_l6Dirty_13 (v0 : dA) : (S_spec_l6Dirty_13).X := ((((), ()), ((), ()), ()), ((v0.1, v0.2.1.1, v0.2.1.2, v0.2.2.1, v0.2.2.2.1, v0.2.2.2.2.1, v0.2.2.2.2.2.1, v0.2.2.2.2.2.2.1, v0.2.2.2.2.2.2.2.1, v0.2.2.2.2.2.2.2.2.1, v0.2.2.2.2.2.2.2.2.2.1, v0.2.2.2.2.2.2.2.2.2.2.1, v0.2.2.2.2.2.2.2.2.2.2.2, ()), ()), ())
abbrev mo_spec_l6Dirty_13  : (O_spec_l6Dirty_13).X := ((), (), ())
abbrev mz_spec_l6Dirty_13 (v0 : Bool) : (Z_spec_l6Dirty_13).X := (((v0, ()), ()), (), ())
noncomputable def st_spec_l6Dirty_13 (v0 : Int) (v1 : Int) (v2 : Int) (v3 : Int) (v4 : List dM) (v5 : Int) (v6 : Int) (v7 : Int) (v8 : Int) (v9 : Int) (v10 : List dW) (v11 : Int) (v12 : Bool) (v13 : Bool) : Option ((L_spec_l6Dirty_13).X ⊕ ((O_spec_l6Dirty_13).X ⊕ (Z_spec_l6Dirty_13).X)) :=
  bif (ltb v0 (v10.length : Int)) then
    bif (inb v0 v10.length) then
      let r3 := n_spec_l1In ((nth v10 v0 (0, [])).1) 0 (IntKind.i64.wrap (v3 - 1))
      bif (!(!r3)) then
        bif (!((((nth v10 v0 (0, [])).2).length : Int) != (IntKind.i64.wrap (v2 - 1)))) then
          let r4 := n_spec_l1Words ((nth v10 v0 (0, [])).2)
          bif (!(!r4)) then
            bif (ltb 0 v0) then
              bif (inb (IntKind.i64.wrap (v0 - 1)) v10.length) then
                bif (leb ((nth v10 v0 (0, [])).1) ((nth v10 (IntKind.i64.wrap (v0 - 1)) (0, [])).1)) then
                  some (.inr (.inr (((false, ()), ()), (), ())))
                else
                  some (.inl ((((), ()), ((IntKind.i64.wrap (v0 + 1)), ()), ()), ((v1, v2, v3, v4, v5, v6, v7, v8, v9, v10, v11, v12, v13, ()), ()), ()))
              else none
            else
              some (.inl ((((), ()), ((IntKind.i64.wrap (v0 + 1)), ()), ()), ((v1, v2, v3, v4, v5, v6, v7, v8, v9, v10, v11, v12, v13, ()), ()), ()))
          else
            some (.inr (.inr (((false, ()), ()), (), ())))
        else
          some (.inr (.inr (((false, ()), ()), (), ())))
      else
        some (.inr (.inr (((false, ()), ()), (), ())))
    else none
  else
    some (.inr (.inl ((), (), ())))
noncomputable def stx_spec_l6Dirty_13 (x : (L_spec_l6Dirty_13).X) := st_spec_l6Dirty_13 x.1.2.1.1 x.2.1.1.1 x.2.1.1.2.1 x.2.1.1.2.2.1 x.2.1.1.2.2.2.1 x.2.1.1.2.2.2.2.1 x.2.1.1.2.2.2.2.2.1 x.2.1.1.2.2.2.2.2.2.1 x.2.1.1.2.2.2.2.2.2.2.1 x.2.1.1.2.2.2.2.2.2.2.2.1 x.2.1.1.2.2.2.2.2.2.2.2.2.1 x.2.1.1.2.2.2.2.2.2.2.2.2.2.1 x.2.1.1.2.2.2.2.2.2.2.2.2.2.2.1 x.2.1.1.2.2.2.2.2.2.2.2.2.2.2.2.1
def em_spec_l6Dirty_13 (x : (S_spec_l6Dirty_13).X) : (L_spec_l6Dirty_13).X := ((((), ()), (0, ()), ()), ((x.2.1.1.1, x.2.1.1.2.1, x.2.1.1.2.2.1, x.2.1.1.2.2.2.1, x.2.1.1.2.2.2.2.1, x.2.1.1.2.2.2.2.2.1, x.2.1.1.2.2.2.2.2.2.1, x.2.1.1.2.2.2.2.2.2.2.1, x.2.1.1.2.2.2.2.2.2.2.2.1, x.2.1.1.2.2.2.2.2.2.2.2.2.1, x.2.1.1.2.2.2.2.2.2.2.2.2.2.1, x.2.1.1.2.2.2.2.2.2.2.2.2.2.2.1, x.2.1.1.2.2.2.2.2.2.2.2.2.2.2.2.1, ()), ()), ())
noncomputable def c_spec_l6Dirty_13 : Code := (subN B_spec_l6Dirty 64 52).getD .skip
theorem a_spec_l6Dirty_13 : subN B_spec_l6Dirty 64 13 = some (.block 0 (.loop c_spec_l6Dirty_13)) := by kernel_rfl
theorem r_spec_l6Dirty_13 (x : (L_spec_l6Dirty_13).X) : roundT ⟨E_spec_l6Dirty, 57, D_spec_l6Dirty_0⟩ 0 c_spec_l6Dirty_13 52 L_spec_l6Dirty_13 O_spec_l6Dirty_13 Z_spec_l6Dirty_13 x = stx_spec_l6Dirty_13 x := by kernel_rfl
noncomputable def fu_spec_l6Dirty_13 (x : (S_spec_l6Dirty_13).X) : Nat := (fun (u0 : Int) (u1 : Int) (u2 : Int) (u3 : List dM) (u4 : Int) (u5 : Int) (u6 : Int) (u7 : Int) (u8 : Int) (u9 : List dW) (u10 : Int) (u11 : Bool) (u12 : Bool) => 18446744073709551616) x.2.1.1.1 x.2.1.1.2.1 x.2.1.1.2.2.1 x.2.1.1.2.2.2.1 x.2.1.1.2.2.2.2.1 x.2.1.1.2.2.2.2.2.1 x.2.1.1.2.2.2.2.2.2.1 x.2.1.1.2.2.2.2.2.2.2.1 x.2.1.1.2.2.2.2.2.2.2.2.1 x.2.1.1.2.2.2.2.2.2.2.2.2.1 x.2.1.1.2.2.2.2.2.2.2.2.2.2.1 x.2.1.1.2.2.2.2.2.2.2.2.2.2.2.1 x.2.1.1.2.2.2.2.2.2.2.2.2.2.2.2.1
noncomputable def F_spec_l6Dirty_13 (x : (S_spec_l6Dirty_13).X) : Option ((O_spec_l6Dirty_13).X ⊕ (Z_spec_l6Dirty_13).X) := loopN stx_spec_l6Dirty_13 (fu_spec_l6Dirty_13 x) (em_spec_l6Dirty_13 x)
noncomputable def sg_spec_l6Dirty_13 : Seg := ⟨S_spec_l6Dirty_13, O_spec_l6Dirty_13, Z_spec_l6Dirty_13, F_spec_l6Dirty_13⟩
noncomputable def D_spec_l6Dirty_1 : Nat → Option Seg := fun q => bif Nat.beq q 13 then some sg_spec_l6Dirty_13 else D_spec_l6Dirty_0 q
theorem fr_spec_l6Dirty_1 : FrOk Tryz.prog ⟨E_spec_l6Dirty, 57, D_spec_l6Dirty_1⟩ B_spec_l6Dirty := (fr_spec_l6Dirty_0).loop (sg := sg_spec_l6Dirty_13) L_spec_l6Dirty_13 em_spec_l6Dirty_13 (by decide) a_spec_l6Dirty_13 stx_spec_l6Dirty_13 fu_spec_l6Dirty_13 (by decide) (fun _ => rfl) (fun x r _ h => h) r_spec_l6Dirty_13
abbrev I_spec_l6Dirty : List Par := [.rd tA]
abbrev U_spec_l6Dirty : List OT := [⟨false, tB, .fz⟩]
noncomputable def raw_spec_l6Dirty (a0 : dA) : Option (ResD U_spec_l6Dirty × MutD I_spec_l6Dirty) :=
  segM (F_spec_l6Dirty_13 ((((), ()), ((), ()), ()), ((a0.1, a0.2.1.1, a0.2.1.2, a0.2.2.1, a0.2.2.2.1, a0.2.2.2.2.1, a0.2.2.2.2.2.1, a0.2.2.2.2.2.2.1, a0.2.2.2.2.2.2.2.1, a0.2.2.2.2.2.2.2.2.1, a0.2.2.2.2.2.2.2.2.2.1, a0.2.2.2.2.2.2.2.2.2.2.1, a0.2.2.2.2.2.2.2.2.2.2.2, ()), ()), ())) (fun y4 =>
    some ((true, ()), ())) (fun y4 =>
    some ((y4.1.1.1, ()), ()))
theorem e_spec_l6Dirty (x : InD I_spec_l6Dirty) : execF ⟨E_spec_l6Dirty, 57, D_spec_l6Dirty_1⟩ Tryz.f159.results.toList B_spec_l6Dirty I_spec_l6Dirty U_spec_l6Dirty x = raw_spec_l6Dirty x.1 := by kernel_rfl
theorem ok0_spec_l6Dirty : ConOk Tryz.prog 159 ⟨I_spec_l6Dirty, U_spec_l6Dirty, fun x => raw_spec_l6Dirty x.1⟩ := conOk_exec (fr_spec_l6Dirty_1) Tryz.func159 (by kernel_rfl) (by kernel_rfl) Tryz.ntmps159.symm (by decide) (fun x r h => (e_spec_l6Dirty x).trans h)
noncomputable def n_spec_l6Dirty (a0 : dA) : Bool := dirtyOk a0.2.1 a0.2.2.2.2.2.2.2.2.1
noncomputable def q_spec_l6Dirty (a0 : dA) : Bool := n_spec_GeoOk a0.2.1
theorem spec_words_eq (l : List Int) : n_spec_l1Words l = l.all isW := by
  unfold n_spec_l1Words
  rw [show n_spec_l1Word = isW from funext fun x => by unfold n_spec_l1Word; rw [in_eq]; rfl]
theorem nn_spec_l6Dirty (a0 : dA) (hk : InOk I_spec_l6Dirty (a0, ())) (hq : q_spec_l6Dirty a0 = true) : raw_spec_l6Dirty a0 = (fun n => some ((n, ()), ())) (n_spec_l6Dirty a0) := by
  have hb : a0.2.2.2.2.2.2.2.2.1.length * 32 ≤ 2 ^ 47 := hk.1.2.2.2.2.2.2.2.2.1.1
  have hg := geo_iff.1 hq
  have h1 : F_spec_l6Dirty_13 (ms_spec_l6Dirty_13 a0) = some (bif (List.range a0.2.2.2.2.2.2.2.2.1.length).any (dirtBad a0.2.1 a0.2.2.2.2.2.2.2.2.1) then .inr (mz_spec_l6Dirty_13 false) else .inl mo_spec_l6Dirty_13) :=
    loopN_all (step := stx_spec_l6Dirty_13) (fun i => mk_spec_l6Dirty_13 i a0) a0.2.2.2.2.2.2.2.2.1.length (dirtBad a0.2.1 a0.2.2.2.2.2.2.2.2.1) _ _ (fun i hi => by
      simp only [stx_spec_l6Dirty_13, mk_spec_l6Dirty_13, st_spec_l6Dirty_13, ltb_t (show (i : Int) < a0.2.2.2.2.2.2.2.2.1.length by omega), cond_true, wr (show -9223372036854775808 ≤ (i : Int) + 1 by omega) (by omega), Int.natCast_add, Int.natCast_one, Int.toNat_natCast, inb_nat hi, in_eq, spec_words_eq, wr (show -9223372036854775808 ≤ a0.2.1.2 - 1 by omega) (by omega), wr (show -9223372036854775808 ≤ a0.2.1.1 - 1 by omega) (by omega), dirtBad]
      rcases Nat.eq_zero_or_pos i with rfl | h0
      · cases (leb 0 (nth a0.2.2.2.2.2.2.2.2.1 ((0 : Nat) : Int) (0, [])).1 && leb (nth a0.2.2.2.2.2.2.2.2.1 ((0 : Nat) : Int) (0, [])).1 (a0.2.1.2 - 1)) <;> cases (((nth a0.2.2.2.2.2.2.2.2.1 ((0 : Nat) : Int) (0, [])).2.length : Int) != a0.2.1.1 - 1) <;> cases ((nth a0.2.2.2.2.2.2.2.2.1 ((0 : Nat) : Int) (0, [])).2.all isW) <;> rfl
      · rw [show IntKind.i64.wrap ((i : Int) - 1) = ((i - 1 : Nat) : Int) by rw [wr (by omega) (by omega)]; omega, inb_nat (show i - 1 < a0.2.2.2.2.2.2.2.2.1.length by omega), ltb_t (show (0 : Int) < i by omega), decide_eq_true h0]
        cases (leb 0 (nth a0.2.2.2.2.2.2.2.2.1 (i : Int) (0, [])).1 && leb (nth a0.2.2.2.2.2.2.2.2.1 (i : Int) (0, [])).1 (a0.2.1.2 - 1)) <;> cases (((nth a0.2.2.2.2.2.2.2.2.1 (i : Int) (0, [])).2.length : Int) != a0.2.1.1 - 1) <;> cases ((nth a0.2.2.2.2.2.2.2.2.1 (i : Int) (0, [])).2.all isW) <;> cases leb (nth a0.2.2.2.2.2.2.2.2.1 (i : Int) (0, [])).1 (nth a0.2.2.2.2.2.2.2.2.1 ((i - 1 : Nat) : Int) (0, [])).1 <;> rfl) (by simp only [stx_spec_l6Dirty_13, mk_spec_l6Dirty_13, st_spec_l6Dirty_13, ltb_f (Int.le_refl _), cond_false]) _ (by show _ < 18446744073709551616; omega)
  unfold raw_spec_l6Dirty n_spec_l6Dirty dirtyOk
  rw [h1]
  cases (List.range a0.2.2.2.2.2.2.2.2.1.length).any (dirtBad a0.2.1 a0.2.2.2.2.2.2.2.2.1) <;> rfl
noncomputable def o_spec_l6Dirty (a0 : dA) : Option (ResD U_spec_l6Dirty × MutD I_spec_l6Dirty) := bif q_spec_l6Dirty a0 then (fun n => some ((n, ()), ())) (n_spec_l6Dirty a0) else none
theorem ot_spec_l6Dirty (a0 : dA) (h : q_spec_l6Dirty a0 = true) : o_spec_l6Dirty a0 = (fun n => some ((n, ()), ())) (n_spec_l6Dirty a0) := by unfold o_spec_l6Dirty; rw [h]; rfl
noncomputable def con_spec_l6Dirty : Con := ⟨I_spec_l6Dirty, U_spec_l6Dirty, fun x => o_spec_l6Dirty x.1⟩
theorem ok_spec_l6Dirty : ConOk Tryz.prog 159 con_spec_l6Dirty := (ok0_spec_l6Dirty).mono (fun x r hk h => pre_ok h (fun hq => nn_spec_l6Dirty x.1 hk hq))
end

/-! spec_ArrOk -/
section
noncomputable def B_spec_ArrOk : Code := (Tryz.f82.body).getD .skip
noncomputable def E_spec_ArrOk : Env := envOf TT [(98, con_spec_l1In), (141, con_spec_GeoOk), (158, con_spec_l6Mems), (159, con_spec_l6Dirty)] []
theorem fr_spec_ArrOk_0 : FrOk Tryz.prog ⟨E_spec_ArrOk, 78, fun _ => none⟩ B_spec_ArrOk := frOk_base mixed tt_ok ⟨ok_spec_l1In, ok_spec_GeoOk, ok_spec_l6Mems, ok_spec_l6Dirty, trivial⟩
noncomputable def D_spec_ArrOk_0 : Nat → Option Seg := fun _ => none
abbrev I_spec_ArrOk : List Par := [.rd tA]
abbrev U_spec_ArrOk : List OT := [⟨false, tB, .fz⟩]
noncomputable def raw_spec_ArrOk (a0 : dA) : Option (ResD U_spec_ArrOk × MutD I_spec_ArrOk) :=
  let r1 := n_spec_GeoOk a0.2.1
  bif (!(!r1)) then
    let r2 := n_spec_l1In a0.1 1 60000
    bif (!(!r2)) then
      bnd (o_spec_l6Mems a0) fun r3 =>
      bif (!(!r3.1.1)) then
        bnd (o_spec_l6Dirty a0) fun r4 =>
        bif (!r4.1.1) then
          some ((false, ()), ())
        else
          let r5 := n_spec_l1In a0.2.2.2.1 (-1) (IntKind.i64.wrap (a0.2.1.1 - 1))
          bif (!(!r5)) then
            let r6 := n_spec_l1In a0.2.2.2.2.1 0 a0.2.1.2
            bif (!(!r6)) then
              bif (a0.2.2.2.1 == (-1)) then
                bif (a0.2.2.2.2.1 != 0) then
                  some ((false, ()), ())
                else
                  let r7 := n_spec_l1In a0.2.2.2.2.2.2.1 0 60000
                  bif r7 then
                    let r8 := n_spec_l1In a0.2.2.2.2.2.1 a0.2.2.2.2.2.2.1 60000
                    bif r8 then
                      bif (leb a0.2.2.2.2.2.1 (IntKind.i64.wrap (a0.2.2.2.2.2.2.1 + 4))) then
                        let r9 := n_spec_l1In a0.2.2.2.2.2.2.2.1 0 60000
                        bif r9 then
                          let r10 := n_spec_l1In a0.2.2.2.2.2.2.2.2.2.1 (-1) 1000
                          some ((r10, ()), ())
                        else
                          some ((false, ()), ())
                      else
                        some ((false, ()), ())
                    else
                      some ((false, ()), ())
                  else
                    some ((false, ()), ())
              else
                let r11 := n_spec_l1In a0.2.2.2.2.2.2.1 0 60000
                bif r11 then
                  let r12 := n_spec_l1In a0.2.2.2.2.2.1 a0.2.2.2.2.2.2.1 60000
                  bif r12 then
                    bif (leb a0.2.2.2.2.2.1 (IntKind.i64.wrap (a0.2.2.2.2.2.2.1 + 4))) then
                      let r13 := n_spec_l1In a0.2.2.2.2.2.2.2.1 0 60000
                      bif r13 then
                        let r14 := n_spec_l1In a0.2.2.2.2.2.2.2.2.2.1 (-1) 1000
                        some ((r14, ()), ())
                      else
                        some ((false, ()), ())
                    else
                      some ((false, ()), ())
                  else
                    some ((false, ()), ())
                else
                  some ((false, ()), ())
            else
              some ((false, ()), ())
          else
            some ((false, ()), ())
      else
        some ((false, ()), ())
    else
      some ((false, ()), ())
  else
    some ((false, ()), ())
theorem e_spec_ArrOk (x : InD I_spec_ArrOk) : execF ⟨E_spec_ArrOk, 78, D_spec_ArrOk_0⟩ Tryz.f82.results.toList B_spec_ArrOk I_spec_ArrOk U_spec_ArrOk x = raw_spec_ArrOk x.1 := by kernel_rfl
theorem ok0_spec_ArrOk : ConOk Tryz.prog 82 ⟨I_spec_ArrOk, U_spec_ArrOk, fun x => raw_spec_ArrOk x.1⟩ := conOk_exec (fr_spec_ArrOk_0) Tryz.func82 (by kernel_rfl) (by kernel_rfl) Tryz.ntmps82.symm (by decide) (fun x r h => (e_spec_ArrOk x).trans h)
noncomputable def n_spec_ArrOk (a0 : dA) : Bool := arrOk a0
theorem nn_spec_ArrOk (a0 : dA) (hk : InOk I_spec_ArrOk (a0, ())) : raw_spec_ArrOk a0 = (fun n => some ((n, ()), ())) (n_spec_ArrOk a0) := by
  unfold raw_spec_ArrOk n_spec_ArrOk arrOk
  simp only [in_eq]
  cases hg : n_spec_GeoOk a0.2.1
  · rfl
  have hg2 := geo_iff.1 hg
  rw [ot_spec_l6Mems a0 hg, ot_spec_l6Dirty a0 hg, wr (show -9223372036854775808 ≤ a0.2.1.1 - 1 by omega) (by omega)]
  simp only [bnd_some, n_spec_l6Mems, n_spec_l6Dirty, Bool.not_not, cond_true]
  cases (leb 1 a0.1 && leb a0.1 60000)
  · rfl
  cases memsOk a0
  · rfl
  cases dirtyOk a0.2.1 a0.2.2.2.2.2.2.2.2.1
  · rfl
  cases (leb (-1) a0.2.2.2.1 && leb a0.2.2.2.1 (a0.2.1.1 - 1))
  · rfl
  cases (leb 0 a0.2.2.2.2.1 && leb a0.2.2.2.2.1 a0.2.1.2)
  · rfl
  have ht : (leb 0 a0.2.2.2.2.2.2.1 && leb a0.2.2.2.2.2.2.1 60000) = true → IntKind.i64.wrap (a0.2.2.2.2.2.2.1 + 4) = a0.2.2.2.2.2.2.1 + 4 := fun h => by
    rw [Bool.and_eq_true, leb_iff, leb_iff] at h
    exact wr (by omega) (by omega)
  cases hT : (leb 0 a0.2.2.2.2.2.2.1 && leb a0.2.2.2.2.2.2.1 60000)
  · cases (a0.2.2.2.1 == -1) <;> cases (a0.2.2.2.2.1 != 0) <;> rfl
  rw [ht hT]
  cases (leb a0.2.2.2.2.2.2.1 a0.2.2.2.2.2.1 && leb a0.2.2.2.2.2.1 60000)
  · cases (a0.2.2.2.1 == -1) <;> cases (a0.2.2.2.2.1 != 0) <;> rfl
  cases leb a0.2.2.2.2.2.1 (a0.2.2.2.2.2.2.1 + 4)
  · cases (a0.2.2.2.1 == -1) <;> cases (a0.2.2.2.2.1 != 0) <;> rfl
  cases (leb 0 a0.2.2.2.2.2.2.2.1 && leb a0.2.2.2.2.2.2.2.1 60000) <;> cases (a0.2.2.2.1 == -1) <;> cases (a0.2.2.2.2.1 != 0) <;> rfl
noncomputable def con_spec_ArrOk : Con := ⟨I_spec_ArrOk, U_spec_ArrOk, fun x => (fun n => some ((n, ()), ())) (n_spec_ArrOk x.1)⟩
theorem ok_spec_ArrOk : ConOk Tryz.prog 82 con_spec_ArrOk := (ok0_spec_ArrOk).mono (fun x r hk h => (nn_spec_ArrOk x.1 hk).trans h)
end
end Go.Tf
