/- Functions of the program, and what they come to. -/
import Derived.Test.YtfpjmijaiekbgaaGreatExactBuildStepF11
namespace Go.Tf
open Go.Proofs
set_option synthInstance.maxHeartbeats 400000
set_option synthInstance.maxSize 10000
set_option linter.unusedVariables false
set_option linter.unusedSimpArgs false
set_option maxRecDepth 100000
/-! impl_SecOk -/
section
noncomputable def B_impl_SecOk : Code := (Tryz.f203.body).getD .skip
noncomputable def E_impl_SecOk : Env := envOf TT [(199, con_impl_wordsOk)] []
theorem fr_impl_SecOk_0 : FrOk Tryz.prog ⟨E_impl_SecOk, 10, fun _ => none⟩ B_impl_SecOk := frOk_base mixed tt_ok ⟨ok_impl_wordsOk, trivial⟩
noncomputable def D_impl_SecOk_0 : Nat → Option Seg := fun _ => none
abbrev I_impl_SecOk : List Par := [.rd tL]
abbrev U_impl_SecOk : List OT := [⟨false, tB, .fz⟩]
noncomputable def raw_impl_SecOk (a0 : List Int) : Option (ResD U_impl_SecOk × MutD I_impl_SecOk) :=
  bif (leb (a0.length : Int) 12) then
    let r1 := n_impl_wordsOk a0
    some ((r1, ()), ())
  else
    some ((false, ()), ())
theorem e_impl_SecOk (x : InD I_impl_SecOk) : execF ⟨E_impl_SecOk, 10, D_impl_SecOk_0⟩ Tryz.f203.results.toList B_impl_SecOk I_impl_SecOk U_impl_SecOk x = raw_impl_SecOk x.1 := by kernel_rfl
theorem ok0_impl_SecOk : ConOk Tryz.prog 203 ⟨I_impl_SecOk, U_impl_SecOk, fun x => raw_impl_SecOk x.1⟩ := conOk_exec (fr_impl_SecOk_0) Tryz.func203 (by kernel_rfl) (by kernel_rfl) Tryz.ntmps203.symm (by decide) (fun x r h => (e_impl_SecOk x).trans h)
noncomputable def n_impl_SecOk (a0 : List Int) : Bool :=
  bif (leb (a0.length : Int) 12) then
    let r1 := n_impl_wordsOk a0
    r1
  else
    false
noncomputable def con_impl_SecOk : Con := ⟨I_impl_SecOk, U_impl_SecOk, fun x => (fun n => some ((n, ()), ())) (n_impl_SecOk x.1)⟩
theorem nn_impl_SecOk (a0 : List Int) : raw_impl_SecOk a0 = (fun n => some ((n, ()), ())) (n_impl_SecOk a0) := bif_ty (p := fun (n : Bool) => ((n, ()), ())) (bif_some (p := fun (n : Bool) => ((n, ()), ())) rfl rfl)
theorem ok_impl_SecOk : ConOk Tryz.prog 203 con_impl_SecOk := (ok0_impl_SecOk).mono (fun x r _ h => (nn_impl_SecOk x.1).trans h)
theorem impl_sec_eq : n_impl_SecOk = secOk := funext fun s => by
  unfold n_impl_SecOk secOk n_impl_wordsOk
  rw [show n_impl_isWord = isW from funext fun x => by unfold n_impl_isWord; rw [impl_in_eq, in_eq]; rfl]
  cases leb (s.length : Int) 12 <;> rfl
end

/-! impl_hasSec -/
section
noncomputable def B_impl_hasSec : Code := (Tryz.f204.body).getD .skip
noncomputable def E_impl_hasSec : Env := envOf TT [(114, con_impl_within)] []
theorem fr_impl_hasSec_0 : FrOk Tryz.prog ⟨E_impl_hasSec, 11, fun _ => none⟩ B_impl_hasSec := frOk_base mixed tt_ok ⟨ok_impl_within, trivial⟩
noncomputable def D_impl_hasSec_0 : Nat → Option Seg := fun _ => none
abbrev I_impl_hasSec : List Par := [.rd tM, .rd tI]
abbrev U_impl_hasSec : List OT := [⟨false, tB, .fz⟩]
noncomputable def raw_impl_hasSec (a0 : dM) (a1 : Int) : Option (ResD U_impl_hasSec × MutD I_impl_hasSec) :=
  let r1 := n_impl_within a1 0 (IntKind.i64.wrap ((a0.1.length : Int) - 1))
  some ((r1, ()), ())
theorem e_impl_hasSec (x : InD I_impl_hasSec) : execF ⟨E_impl_hasSec, 11, D_impl_hasSec_0⟩ Tryz.f204.results.toList B_impl_hasSec I_impl_hasSec U_impl_hasSec x = raw_impl_hasSec x.1 x.2.1 := by kernel_rfl
theorem ok0_impl_hasSec : ConOk Tryz.prog 204 ⟨I_impl_hasSec, U_impl_hasSec, fun x => raw_impl_hasSec x.1 x.2.1⟩ := conOk_exec (fr_impl_hasSec_0) Tryz.func204 (by kernel_rfl) (by kernel_rfl) Tryz.ntmps204.symm (by decide) (fun x r h => (e_impl_hasSec x).trans h)
noncomputable def n_impl_hasSec (a0 : dM) (a1 : Int) : Bool :=
  let r1 := n_impl_within a1 0 (IntKind.i64.wrap ((a0.1.length : Int) - 1))
  r1
noncomputable def con_impl_hasSec : Con := ⟨I_impl_hasSec, U_impl_hasSec, fun x => (fun n => some ((n, ()), ())) (n_impl_hasSec x.1 x.2.1)⟩
theorem nn_impl_hasSec (a0 : dM) (a1 : Int) : raw_impl_hasSec a0 a1 = (fun n => some ((n, ()), ())) (n_impl_hasSec a0 a1) := bif_ty (p := fun (n : Bool) => ((n, ()), ())) rfl
theorem ok_impl_hasSec : ConOk Tryz.prog 204 con_impl_hasSec := (ok0_impl_hasSec).mono (fun x r _ h => (nn_impl_hasSec x.1 x.2.1).trans h)
end

/-! impl_MemOk -/
section
noncomputable def B_impl_MemOk : Code := (Tryz.f132.body).getD .skip
noncomputable def E_impl_MemOk : Env := envOf TT [(114, con_impl_within), (203, con_impl_SecOk), (204, con_impl_hasSec)] []
theorem fr_impl_MemOk_0 : FrOk Tryz.prog ⟨E_impl_MemOk, 76, fun _ => none⟩ B_impl_MemOk := frOk_base mixed tt_ok ⟨ok_impl_within, ok_impl_SecOk, ok_impl_hasSec, trivial⟩
noncomputable def D_impl_MemOk_0 : Nat → Option Seg := fun _ => none
def L_impl_MemOk_13 : Shape := ⟨[(1, false, [.ptr 0 0]), (10, false, [.br tL]), (11, false, [.int .i64]), (12, false, [.int .i64])], [(0, [.br tL, .br tW, .bool, .br tI])], []⟩
def S_impl_MemOk_13 : Shape := ⟨[(1, false, [.ptr 0 0]), (10, false, [.br tL]), (11, false, [.int .i64]), (12, false, [.ci .i64 0])], [(0, [.br tL, .br tW, .bool, .br tI])], []⟩
def O_impl_MemOk_13 : Shape := ⟨[(1, false, [.ptr 0 0])], [(0, [.br tL, .br tW, .bool, .br tI])], []⟩
def Z_impl_MemOk_13 : Shape := ⟨[(2, false, [.bool])], [], []⟩
abbrev mk_impl_MemOk_13 (v0 : List (List Int)) (v1 : Int) (v2 : Int) (v3 : dM) : (L_impl_MemOk_13).X := ((((), ()), (v0, ()), (v1, ()), (v2, ()), ()), ((v3.1, v3.2.1, v3.2.2.1, v3.2.2.2, ()), ()), ())
abbrev ms_impl_MemOk_13 (v0 : List (List Int)) (v1 : Int) (v2 : dM) : (S_impl_MemOk_13).X := ((((), ()), (v0, ()), (v1, ()), ((), ()), ()), ((v2.1, v2.2.1, v2.2.2.1, v2.2.2.2, ()), ()), ())
abbrev mo_impl_MemOk_13 (v0 : dM) : (O_impl_MemOk_13).X := ((((), ()), ()), ((v0.1, v0.2.1, v0.2.2.1, v0.2.2.2, ()), ()), ())
abbrev mz_impl_MemOk_13 (v0 : Bool) : (Z_impl_MemOk_13).X := (((v0, ()), ()), (), ())
noncomputable def st_impl_MemOk_13 (v0 : List (List Int)) (v1 : Int) (v2 : Int) (v3 : List (List Int)) (v4 : List dW) (v5 : Bool) (v6 : List Int) : Option ((L_impl_MemOk_13).X ⊕ ((O_impl_MemOk_13).X ⊕ (Z_impl_MemOk_13).X)) :=
  bif (ltb v2 v1) then
    bif (inb v2 v0.length) then
      let r2 := n_impl_SecOk (nth v0 v2 [])
      bif (!r2) then
        some (.inr (.inr (((false, ()), ()), (), ())))
      else
        some (.inl ((((), ()), (v0, ()), (v1, ()), ((IntKind.i64.wrap (v2 + 1)), ()), ()), ((v3, v4, v5, v6, ()), ()), ()))
    else none
  else
    some (.inr (.inl ((((), ()), ()), ((v3, v4, v5, v6, ()), ()), ())))
noncomputable def stx_impl_MemOk_13 (x : (L_impl_MemOk_13).X) := st_impl_MemOk_13 x.1.2.1.1 x.1.2.2.1.1 x.1.2.2.2.1.1 x.2.1.1.1 x.2.1.1.2.1 x.2.1.1.2.2.1 x.2.1.1.2.2.2.1
def em_impl_MemOk_13 (x : (S_impl_MemOk_13).X) : (L_impl_MemOk_13).X := ((((), ()), (x.1.2.1.1, ()), (x.1.2.2.1.1, ()), (0, ()), ()), ((x.2.1.1.1, x.2.1.1.2.1, x.2.1.1.2.2.1, x.2.1.1.2.2.2.1, ()), ()), ())
noncomputable def c_impl_MemOk_13 : Code := (subN B_impl_MemOk 64 52).getD .skip
theorem a_impl_MemOk_13 : subN B_impl_MemOk 64 13 = some (.block 0 (.loop c_impl_MemOk_13)) := by kernel_rfl
theorem r_impl_MemOk_13 (x : (L_impl_MemOk_13).X) : roundT ⟨E_impl_MemOk, 76, D_impl_MemOk_0⟩ 0 c_impl_MemOk_13 52 L_impl_MemOk_13 O_impl_MemOk_13 Z_impl_MemOk_13 x = stx_impl_MemOk_13 x := by kernel_rfl
noncomputable def fu_impl_MemOk_13 (x : (S_impl_MemOk_13).X) : Nat := (fun (u0 : List (List Int)) (u1 : Int) (u2 : List (List Int)) (u3 : List dW) (u4 : Bool) (u5 : List Int) => 18446744073709551616) x.1.2.1.1 x.1.2.2.1.1 x.2.1.1.1 x.2.1.1.2.1 x.2.1.1.2.2.1 x.2.1.1.2.2.2.1
noncomputable def F_impl_MemOk_13 (x : (S_impl_MemOk_13).X) : Option ((O_impl_MemOk_13).X ⊕ (Z_impl_MemOk_13).X) := loopN stx_impl_MemOk_13 (fu_impl_MemOk_13 x) (em_impl_MemOk_13 x)
noncomputable def sg_impl_MemOk_13 : Seg := ⟨S_impl_MemOk_13, O_impl_MemOk_13, Z_impl_MemOk_13, F_impl_MemOk_13⟩
noncomputable def D_impl_MemOk_1 : Nat → Option Seg := fun q => bif Nat.beq q 13 then some sg_impl_MemOk_13 else D_impl_MemOk_0 q
theorem fr_impl_MemOk_1 : FrOk Tryz.prog ⟨E_impl_MemOk, 76, D_impl_MemOk_1⟩ B_impl_MemOk := (fr_impl_MemOk_0).loop (sg := sg_impl_MemOk_13) L_impl_MemOk_13 em_impl_MemOk_13 (by decide) a_impl_MemOk_13 stx_impl_MemOk_13 fu_impl_MemOk_13 (by decide) (fun _ => rfl) (fun x r _ h => h) r_impl_MemOk_13
def L_impl_MemOk_29 : Shape := ⟨[(1, false, [.ptr 0 0]), (21, false, [.br tW]), (22, false, [.int .i64]), (23, false, [.int .i64])], [(0, [.br tL, .br tW, .bool, .br tI])], []⟩
def S_impl_MemOk_29 : Shape := ⟨[(1, false, [.ptr 0 0]), (21, false, [.br tW]), (22, false, [.int .i64]), (23, false, [.ci .i64 0])], [(0, [.br tL, .br tW, .bool, .br tI])], []⟩
def O_impl_MemOk_29 : Shape := ⟨[(1, false, [.ptr 0 0])], [(0, [.br tL, .br tW, .bool, .br tI])], []⟩
def Z_impl_MemOk_29 : Shape := ⟨[(2, false, [.bool])], [], []⟩
abbrev mk_impl_MemOk_29 (v0 : List dW) (v1 : Int) (v2 : Int) (v3 : dM) : (L_impl_MemOk_29).X := ((((), ()), (v0, ()), (v1, ()), (v2, ()), ()), ((v3.1, v3.2.1, v3.2.2.1, v3.2.2.2, ()), ()), ())
abbrev ms_impl_MemOk_29 (v0 : List dW) (v1 : Int) (v2 : dM) : (S_impl_MemOk_29).X := ((((), ()), (v0, ()), (v1, ()), ((), ()), ()), ((v2.1, v2.2.1, v2.2.2.1, v2.2.2.2, ()), ()), ())
abbrev mo_impl_MemOk_29 (v0 : dM) : (O_impl_MemOk_29).X := ((((), ()), ()), ((v0.1, v0.2.1, v0.2.2.1, v0.2.2.2, ()), ()), ())
abbrev mz_impl_MemOk_29 (v0 : Bool) : (Z_impl_MemOk_29).X := (((v0, ()), ()), (), ())
noncomputable def st_impl_MemOk_29 (v0 : List dW) (v1 : Int) (v2 : Int) (v3 : List (List Int)) (v4 : List dW) (v5 : Bool) (v6 : List Int) : Option ((L_impl_MemOk_29).X ⊕ ((O_impl_MemOk_29).X ⊕ (Z_impl_MemOk_29).X)) :=
  bif (ltb v2 v1) then
    bif (inb v2 v0.length) then
      let r6 := n_impl_hasSec (v3, v4, v5, v6) ((nth v0 v2 (0, [])).1)
      bif (!(!r6)) then
        let r7 := n_impl_SecOk ((nth v0 v2 (0, [])).2)
        bif (!r7) then
          some (.inr (.inr (((false, ()), ()), (), ())))
        else
          some (.inl ((((), ()), (v0, ()), (v1, ()), ((IntKind.i64.wrap (v2 + 1)), ()), ()), ((v3, v4, v5, v6, ()), ()), ()))
      else
        some (.inr (.inr (((false, ()), ()), (), ())))
    else none
  else
    some (.inr (.inl ((((), ()), ()), ((v3, v4, v5, v6, ()), ()), ())))
noncomputable def stx_impl_MemOk_29 (x : (L_impl_MemOk_29).X) := st_impl_MemOk_29 x.1.2.1.1 x.1.2.2.1.1 x.1.2.2.2.1.1 x.2.1.1.1 x.2.1.1.2.1 x.2.1.1.2.2.1 x.2.1.1.2.2.2.1
def em_impl_MemOk_29 (x : (S_impl_MemOk_29).X) : (L_impl_MemOk_29).X := ((((), ()), (x.1.2.1.1, ()), (x.1.2.2.1.1, ()), (0, ()), ()), ((x.2.1.1.1, x.2.1.1.2.1, x.2.1.1.2.2.1, x.2.1.1.2.2.2.1, ()), ()), ())
noncomputable def c_impl_MemOk_29 : Code := (subN B_impl_MemOk 64 116).getD .skip
theorem a_impl_MemOk_29 : subN B_impl_MemOk 64 29 = some (.block 2 (.loop c_impl_MemOk_29)) := by kernel_rfl
theorem r_impl_MemOk_29 (x : (L_impl_MemOk_29).X) : roundT ⟨E_impl_MemOk, 76, D_impl_MemOk_1⟩ 2 c_impl_MemOk_29 116 L_impl_MemOk_29 O_impl_MemOk_29 Z_impl_MemOk_29 x = stx_impl_MemOk_29 x := by kernel_rfl
noncomputable def fu_impl_MemOk_29 (x : (S_impl_MemOk_29).X) : Nat := (fun (u0 : List dW) (u1 : Int) (u2 : List (List Int)) (u3 : List dW) (u4 : Bool) (u5 : List Int) => 18446744073709551616) x.1.2.1.1 x.1.2.2.1.1 x.2.1.1.1 x.2.1.1.2.1 x.2.1.1.2.2.1 x.2.1.1.2.2.2.1
noncomputable def F_impl_MemOk_29 (x : (S_impl_MemOk_29).X) : Option ((O_impl_MemOk_29).X ⊕ (Z_impl_MemOk_29).X) := loopN stx_impl_MemOk_29 (fu_impl_MemOk_29 x) (em_impl_MemOk_29 x)
noncomputable def sg_impl_MemOk_29 : Seg := ⟨S_impl_MemOk_29, O_impl_MemOk_29, Z_impl_MemOk_29, F_impl_MemOk_29⟩
noncomputable def D_impl_MemOk_2 : Nat → Option Seg := fun q => bif Nat.beq q 29 then some sg_impl_MemOk_29 else D_impl_MemOk_1 q
theorem fr_impl_MemOk_2 : FrOk Tryz.prog ⟨E_impl_MemOk, 76, D_impl_MemOk_2⟩ B_impl_MemOk := (fr_impl_MemOk_1).loop (sg := sg_impl_MemOk_29) L_impl_MemOk_29 em_impl_MemOk_29 (by decide) a_impl_MemOk_29 stx_impl_MemOk_29 fu_impl_MemOk_29 (by decide) (fun _ => rfl) (fun x r _ h => h) r_impl_MemOk_29
def L_impl_MemOk_61 : Shape := ⟨[(1, false, [.ptr 0 0]), (40, false, [.br tI]), (41, false, [.int .i64]), (42, false, [.int .i64])], [(0, [.br tL, .br tW, .bool, .br tI])], []⟩
def S_impl_MemOk_61 : Shape := ⟨[(1, false, [.ptr 0 0]), (40, false, [.br tI]), (41, false, [.int .i64]), (42, false, [.ci .i64 0])], [(0, [.br tL, .br tW, .bool, .br tI])], []⟩
def O_impl_MemOk_61 : Shape := ⟨[(1, false, [.ptr 0 0])], [(0, [.br tL, .br tW, .bool, .br tI])], []⟩
def Z_impl_MemOk_61 : Shape := ⟨[(2, false, [.bool])], [], []⟩
abbrev mk_impl_MemOk_61 (v0 : List Int) (v1 : Int) (v2 : Int) (v3 : dM) : (L_impl_MemOk_61).X := ((((), ()), (v0, ()), (v1, ()), (v2, ()), ()), ((v3.1, v3.2.1, v3.2.2.1, v3.2.2.2, ()), ()), ())
abbrev ms_impl_MemOk_61 (v0 : List Int) (v1 : Int) (v2 : dM) : (S_impl_MemOk_61).X := ((((), ()), (v0, ()), (v1, ()), ((), ()), ()), ((v2.1, v2.2.1, v2.2.2.1, v2.2.2.2, ()), ()), ())
abbrev mo_impl_MemOk_61 (v0 : dM) : (O_impl_MemOk_61).X := ((((), ()), ()), ((v0.1, v0.2.1, v0.2.2.1, v0.2.2.2, ()), ()), ())
abbrev mz_impl_MemOk_61 (v0 : Bool) : (Z_impl_MemOk_61).X := (((v0, ()), ()), (), ())
noncomputable def st_impl_MemOk_61 (v0 : List Int) (v1 : Int) (v2 : Int) (v3 : List (List Int)) (v4 : List dW) (v5 : Bool) (v6 : List Int) : Option ((L_impl_MemOk_61).X ⊕ ((O_impl_MemOk_61).X ⊕ (Z_impl_MemOk_61).X)) :=
  bif (ltb v2 v1) then
    bif (inb v2 v0.length) then
      let r10 := n_impl_hasSec (v3, v4, v5, v6) (nth v0 v2 0)
      bif (!(!r10)) then
        bif (ltb 0 v2) then
          bif (inb (IntKind.i64.wrap (v2 - 1)) v6.length) then
            bif (leb (nth v0 v2 0) (nth v6 (IntKind.i64.wrap (v2 - 1)) 0)) then
              some (.inr (.inr (((false, ()), ()), (), ())))
            else
              some (.inl ((((), ()), (v0, ()), (v1, ()), ((IntKind.i64.wrap (v2 + 1)), ()), ()), ((v3, v4, v5, v6, ()), ()), ()))
          else none
        else
          some (.inl ((((), ()), (v0, ()), (v1, ()), ((IntKind.i64.wrap (v2 + 1)), ()), ()), ((v3, v4, v5, v6, ()), ()), ()))
      else
        some (.inr (.inr (((false, ()), ()), (), ())))
    else none
  else
    some (.inr (.inl ((((), ()), ()), ((v3, v4, v5, v6, ()), ()), ())))
noncomputable def stx_impl_MemOk_61 (x : (L_impl_MemOk_61).X) := st_impl_MemOk_61 x.1.2.1.1 x.1.2.2.1.1 x.1.2.2.2.1.1 x.2.1.1.1 x.2.1.1.2.1 x.2.1.1.2.2.1 x.2.1.1.2.2.2.1
def em_impl_MemOk_61 (x : (S_impl_MemOk_61).X) : (L_impl_MemOk_61).X := ((((), ()), (x.1.2.1.1, ()), (x.1.2.2.1.1, ()), (0, ()), ()), ((x.2.1.1.1, x.2.1.1.2.1, x.2.1.1.2.2.1, x.2.1.1.2.2.2.1, ()), ()), ())
noncomputable def c_impl_MemOk_61 : Code := (subN B_impl_MemOk 64 244).getD .skip
theorem a_impl_MemOk_61 : subN B_impl_MemOk 64 61 = some (.block 4 (.loop c_impl_MemOk_61)) := by kernel_rfl
theorem r_impl_MemOk_61 (x : (L_impl_MemOk_61).X) : roundT ⟨E_impl_MemOk, 76, D_impl_MemOk_2⟩ 4 c_impl_MemOk_61 244 L_impl_MemOk_61 O_impl_MemOk_61 Z_impl_MemOk_61 x = stx_impl_MemOk_61 x := by kernel_rfl
noncomputable def fu_impl_MemOk_61 (x : (S_impl_MemOk_61).X) : Nat := (fun (u0 : List Int) (u1 : Int) (u2 : List (List Int)) (u3 : List dW) (u4 : Bool) (u5 : List Int) => 18446744073709551616) x.1.2.1.1 x.1.2.2.1.1 x.2.1.1.1 x.2.1.1.2.1 x.2.1.1.2.2.1 x.2.1.1.2.2.2.1
noncomputable def F_impl_MemOk_61 (x : (S_impl_MemOk_61).X) : Option ((O_impl_MemOk_61).X ⊕ (Z_impl_MemOk_61).X) := loopN stx_impl_MemOk_61 (fu_impl_MemOk_61 x) (em_impl_MemOk_61 x)
noncomputable def sg_impl_MemOk_61 : Seg := ⟨S_impl_MemOk_61, O_impl_MemOk_61, Z_impl_MemOk_61, F_impl_MemOk_61⟩
noncomputable def D_impl_MemOk_3 : Nat → Option Seg := fun q => bif Nat.beq q 61 then some sg_impl_MemOk_61 else D_impl_MemOk_2 q
theorem fr_impl_MemOk_3 : FrOk Tryz.prog ⟨E_impl_MemOk, 76, D_impl_MemOk_3⟩ B_impl_MemOk := (fr_impl_MemOk_2).loop (sg := sg_impl_MemOk_61) L_impl_MemOk_61 em_impl_MemOk_61 (by decide) a_impl_MemOk_61 stx_impl_MemOk_61 fu_impl_MemOk_61 (by decide) (fun _ => rfl) (fun x r _ h => h) r_impl_MemOk_61
abbrev I_impl_MemOk : List Par := [.rd tM]
abbrev U_impl_MemOk : List OT := [⟨false, tB, .fz⟩]
noncomputable def raw_impl_MemOk (a0 : dM) : Option (ResD U_impl_MemOk × MutD I_impl_MemOk) :=
  segM (F_impl_MemOk_13 ((((), ()), (a0.1, ()), ((a0.1.length : Int), ()), ((), ()), ()), ((a0.1, a0.2.1, a0.2.2.1, a0.2.2.2, ()), ()), ())) (fun y2 =>
    segM (F_impl_MemOk_29 ((((), ()), (y2.2.1.1.2.1, ()), ((y2.2.1.1.2.1.length : Int), ()), ((), ()), ()), ((y2.2.1.1.1, y2.2.1.1.2.1, y2.2.1.1.2.2.1, y2.2.1.1.2.2.2.1, ()), ()), ())) (fun y7 =>
      segM (F_impl_MemOk_61 ((((), ()), (y7.2.1.1.2.2.2.1, ()), ((y7.2.1.1.2.2.2.1.length : Int), ()), ((), ()), ()), ((y7.2.1.1.1, y7.2.1.1.2.1, y7.2.1.1.2.2.1, y7.2.1.1.2.2.2.1, ()), ()), ())) (fun y10 =>
        let r12 := n_impl_within (y10.2.1.1.1.length : Int) 1 20
        bif r12 then
          some (((leb (y10.2.1.1.2.1.length : Int) 60), ()), ())
        else
          some ((false, ()), ())) (fun y10 =>
        some ((y10.1.1.1, ()), ()))) (fun y7 =>
      some ((y7.1.1.1, ()), ()))) (fun y2 =>
    some ((y2.1.1.1, ()), ()))
theorem e_impl_MemOk (x : InD I_impl_MemOk) : execF ⟨E_impl_MemOk, 76, D_impl_MemOk_3⟩ Tryz.f132.results.toList B_impl_MemOk I_impl_MemOk U_impl_MemOk x = raw_impl_MemOk x.1 := by kernel_rfl
theorem ok0_impl_MemOk : ConOk Tryz.prog 132 ⟨I_impl_MemOk, U_impl_MemOk, fun x => raw_impl_MemOk x.1⟩ := conOk_exec (fr_impl_MemOk_3) Tryz.func132 (by kernel_rfl) (by kernel_rfl) Tryz.ntmps132.symm (by decide) (fun x r h => (e_impl_MemOk x).trans h)
noncomputable def n_impl_MemOk (a0 : dM) : Bool := memOk a0
theorem nn_impl_MemOk (a0 : dM) (hk : InOk I_impl_MemOk (a0, ())) : raw_impl_MemOk a0 = (fun n => some ((n, ()), ())) (n_impl_MemOk a0) := by
  have hb1 : a0.1.length * 24 ≤ 2 ^ 47 := hk.1.1.1
  have hb2 : a0.2.1.length * 32 ≤ 2 ^ 47 := hk.1.2.1.1
  have hb3 : a0.2.2.2.length * 8 ≤ 2 ^ 47 := hk.1.2.2.2.1
  have h1 : F_impl_MemOk_13 (ms_impl_MemOk_13 a0.1 a0.1.length a0) = some (bif a0.1.all secOk then .inl (mo_impl_MemOk_13 a0) else .inr (mz_impl_MemOk_13 false)) :=
    loopN_list_all (step := stx_impl_MemOk_13) a0.1 [] (fun i => mk_impl_MemOk_13 a0.1 a0.1.length i a0) secOk _ _ (fun i hi => by
      simp only [stx_impl_MemOk_13, mk_impl_MemOk_13, st_impl_MemOk_13, ltb_t (show (i : Int) < a0.1.length by omega), cond_true, wr (show -9223372036854775808 ≤ (i : Int) + 1 by omega) (by omega), Int.natCast_add, Int.natCast_one, Int.toNat_natCast, inb_nat hi, nth_nat, impl_sec_eq]
      cases secOk (a0.1.getD i []) <;> rfl) (by simp only [stx_impl_MemOk_13, mk_impl_MemOk_13, st_impl_MemOk_13, ltb_f (Int.le_refl _), cond_false]) _ (by show _ < 18446744073709551616; omega)
  have h2 : F_impl_MemOk_29 (ms_impl_MemOk_29 a0.2.1 a0.2.1.length a0) = some (bif a0.2.1.all (wrOk a0.1.length) then .inl (mo_impl_MemOk_29 a0) else .inr (mz_impl_MemOk_29 false)) :=
    loopN_list_all (step := stx_impl_MemOk_29) a0.2.1 (0, []) (fun i => mk_impl_MemOk_29 a0.2.1 a0.2.1.length i a0) (wrOk a0.1.length) _ _ (fun i hi => by
      simp only [stx_impl_MemOk_29, mk_impl_MemOk_29, st_impl_MemOk_29, ltb_t (show (i : Int) < a0.2.1.length by omega), cond_true, wr (show -9223372036854775808 ≤ (i : Int) + 1 by omega) (by omega), Int.natCast_add, Int.natCast_one, Int.toNat_natCast, inb_nat hi, nth_nat, impl_sec_eq, n_impl_hasSec, impl_in_eq, in_len (show a0.1.length ≤ 1152921504606846976 by omega), wrOk]
      cases inb (a0.2.1.getD i (0, [])).1 a0.1.length <;> cases secOk (a0.2.1.getD i (0, [])).2 <;> rfl) (by simp only [stx_impl_MemOk_29, mk_impl_MemOk_29, st_impl_MemOk_29, ltb_f (Int.le_refl _), cond_false]) _ (by show _ < 18446744073709551616; omega)
  have h3 : F_impl_MemOk_61 (ms_impl_MemOk_61 a0.2.2.2 a0.2.2.2.length a0) = some (bif (List.range a0.2.2.2.length).any (badAt a0.1.length a0.2.2.2) then .inr (mz_impl_MemOk_61 false) else .inl (mo_impl_MemOk_61 a0)) :=
    loopN_all (step := stx_impl_MemOk_61) (fun i => mk_impl_MemOk_61 a0.2.2.2 a0.2.2.2.length i a0) a0.2.2.2.length (badAt a0.1.length a0.2.2.2) _ _ (fun i hi => by
      simp only [stx_impl_MemOk_61, mk_impl_MemOk_61, st_impl_MemOk_61, ltb_t (show (i : Int) < a0.2.2.2.length by omega), cond_true, wr (show -9223372036854775808 ≤ (i : Int) + 1 by omega) (by omega), Int.natCast_add, Int.natCast_one, Int.toNat_natCast, inb_nat hi, nth_nat, n_impl_hasSec, impl_in_eq, in_len (show a0.1.length ≤ 1152921504606846976 by omega), badAt]
      rcases Nat.eq_zero_or_pos i with rfl | h0
      · cases inb (a0.2.2.2.getD 0 0) a0.1.length <;> rfl
      · rw [show IntKind.i64.wrap ((i : Int) - 1) = ((i - 1 : Nat) : Int) by rw [wr (by omega) (by omega)]; omega, inb_nat (show i - 1 < a0.2.2.2.length by omega), nth_nat, ltb_t (show (0 : Int) < i by omega), decide_eq_true h0]
        cases inb (a0.2.2.2.getD i 0) a0.1.length <;> cases leb (a0.2.2.2.getD i 0) (a0.2.2.2.getD (i - 1) 0) <;> rfl) (by simp only [stx_impl_MemOk_61, mk_impl_MemOk_61, st_impl_MemOk_61, ltb_f (Int.le_refl _), cond_false]) _ (by show _ < 18446744073709551616; omega)
  unfold raw_impl_MemOk n_impl_MemOk memOk
  rw [h1]
  cases a0.1.all secOk
  · rfl
  simp only [cond_true, segM_inl, h2]
  cases a0.2.1.all (wrOk a0.1.length)
  · rfl
  simp only [cond_true, segM_inl, h3, badAt_any, impl_in_eq, in_eq]
  cases badOk a0.1.length a0.2.2.2
  · rfl
  simp only [Bool.not_true, cond_false, segM_inl]
  cases leb 1 (a0.1.length : Int) <;> cases leb (a0.1.length : Int) 20 <;> rfl
noncomputable def con_impl_MemOk : Con := ⟨I_impl_MemOk, U_impl_MemOk, fun x => (fun n => some ((n, ()), ())) (n_impl_MemOk x.1)⟩
theorem ok_impl_MemOk : ConOk Tryz.prog 132 con_impl_MemOk := (ok0_impl_MemOk).mono (fun x r hk h => (nn_impl_MemOk x.1 hk).trans h)
end

/-! impl_sectors -/
section
noncomputable def B_impl_sectors : Code := (Tryz.f133.body).getD .skip
noncomputable def E_impl_sectors : Env := envOf TT [] []
theorem fr_impl_sectors_0 : FrOk Tryz.prog ⟨E_impl_sectors, 6, fun _ => none⟩ B_impl_sectors := frOk_base mixed tt_ok trivial
noncomputable def D_impl_sectors_0 : Nat → Option Seg := fun _ => none
abbrev I_impl_sectors : List Par := [.rd tG]
abbrev U_impl_sectors : List OT := [⟨false, tI, .fz⟩]
noncomputable def raw_impl_sectors (a0 : dG) : Option (ResD U_impl_sectors × MutD I_impl_sectors) :=
  some (((IntKind.i64.wrap (6 + a0.2)), ()), ())
theorem e_impl_sectors (x : InD I_impl_sectors) : execF ⟨E_impl_sectors, 6, D_impl_sectors_0⟩ Tryz.f133.results.toList B_impl_sectors I_impl_sectors U_impl_sectors x = raw_impl_sectors x.1 := by kernel_rfl
theorem ok0_impl_sectors : ConOk Tryz.prog 133 ⟨I_impl_sectors, U_impl_sectors, fun x => raw_impl_sectors x.1⟩ := conOk_exec (fr_impl_sectors_0) Tryz.func133 (by kernel_rfl) (by kernel_rfl) Tryz.ntmps133.symm (by decide) (fun x r h => (e_impl_sectors x).trans h)
noncomputable def n_impl_sectors (a0 : dG) : Int :=
  (IntKind.i64.wrap (6 + a0.2))
noncomputable def con_impl_sectors : Con := ⟨I_impl_sectors, U_impl_sectors, fun x => (fun n => some ((n, ()), ())) (n_impl_sectors x.1)⟩
theorem nn_impl_sectors (a0 : dG) : raw_impl_sectors a0 = (fun n => some ((n, ()), ())) (n_impl_sectors a0) := bif_ty (p := fun (n : Int) => ((n, ()), ())) rfl
theorem ok_impl_sectors : ConOk Tryz.prog 133 con_impl_sectors := (ok0_impl_sectors).mono (fun x r _ h => (nn_impl_sectors x.1).trans h)
end

/-! impl_ArrOk -/
section
noncomputable def B_impl_ArrOk : Code := (Tryz.f51.body).getD .skip
noncomputable def E_impl_ArrOk : Env := envOf TT [(114, con_impl_within), (129, con_impl_GeoOk), (130, con_impl_lostOk), (131, con_impl_dirtyOk), (132, con_impl_MemOk), (133, con_impl_sectors)] []
theorem fr_impl_ArrOk_0 : FrOk Tryz.prog ⟨E_impl_ArrOk, 103, fun _ => none⟩ B_impl_ArrOk := frOk_base mixed tt_ok ⟨ok_impl_within, ok_impl_GeoOk, ok_impl_lostOk, ok_impl_dirtyOk, ok_impl_MemOk, ok_impl_sectors, trivial⟩
noncomputable def D_impl_ArrOk_0 : Nat → Option Seg := fun _ => none
def L_impl_ArrOk_29 : Shape := ⟨[(1, false, [.ptr 0 0]), (41, false, [.br tM]), (42, false, [.int .i64]), (43, false, [.int .i64])], [(0, [.int .i64, .int .i64, .int .i64, .br tM, .int .i64, .int .i64, .int .i64, .int .i64, .int .i64, .br tW, .int .i64, .bool, .bool])], []⟩
def S_impl_ArrOk_29 : Shape := ⟨[(1, false, [.ptr 0 0]), (41, false, [.br tM]), (42, false, [.int .i64]), (43, false, [.ci .i64 0])], [(0, [.int .i64, .int .i64, .int .i64, .br tM, .int .i64, .int .i64, .int .i64, .int .i64, .int .i64, .br tW, .int .i64, .bool, .bool])], []⟩
def O_impl_ArrOk_29 : Shape := ⟨[(1, false, [.ptr 0 0])], [(0, [.int .i64, .int .i64, .int .i64, .br tM, .int .i64, .int .i64, .int .i64, .int .i64, .int .i64, .br tW, .int .i64, .bool, .bool])], []⟩
def Z_impl_ArrOk_29 : Shape := ⟨[(2, false, [.bool])], [], []⟩
abbrev mk_impl_ArrOk_29 (v0 : List dM) (v1 : Int) (v2 : Int) (v3 : dA) : (L_impl_ArrOk_29).X := ((((), ()), (v0, ()), (v1, ()), (v2, ()), ()), ((v3.1, v3.2.1.1, v3.2.1.2, v3.2.2.1, v3.2.2.2.1, v3.2.2.2.2.1, v3.2.2.2.2.2.1, v3.2.2.2.2.2.2.1, v3.2.2.2.2.2.2.2.1, v3.2.2.2.2.2.2.2.2.1, v3.2.2.2.2.2.2.2.2.2.1, v3.2.2.2.2.2.2.2.2.2.2.1, v3.2.2.2.2.2.2.2.2.2.2.2, ()), ()), ())
abbrev ms_impl_ArrOk_29 (v0 : List dM) (v1 : Int) (v2 : dA) : (S_impl_ArrOk_29).X := ((((), ()), (v0, ()), (v1, ()), ((), ()), ()), ((v2.1, v2.2.1.1, v2.2.1.2, v2.2.2.1, v2.2.2.2.1, v2.2.2.2.2.1, v2.2.2.2.2.2.1, v2.2.2.2.2.2.2.1, v2.2.2.2.2.2.2.2.1, v2.2.2.2.2.2.2.2.2.1, v2.2.2.2.2.2.2.2.2.2.1, v2.2.2.2.2.2.2.2.2.2.2.1, v2.2.2.2.2.2.2.2.2.2.2.2, ()), ()), ())
abbrev mo_impl_ArrOk_29 (v0 : dA) : (O_impl_ArrOk_29).X := ((((), ()), ()), ((v0.1, v0.2.1.1, v0.2.1.2, v0.2.2.1, v0.2.2.2.1, v0.2.2.2.2.1, v0.2.2.2.2.2.1, v0.2.2.2.2.2.2.1, v0.2.2.2.2.2.2.2.1, v0.2.2.2.2.2.2.2.2.1, v0.2.2.2.2.2.2.2.2.2.1, v0.2.2.2.2.2.2.2.2.2.2.1, v0.2.2.2.2.2.2.2.2.2.2.2, ()), ()), ())
abbrev mz_impl_ArrOk_29 (v0 : Bool) : (Z_impl_ArrOk_29).X := (((v0, ()), ()), (), ())
noncomputable def st_impl_ArrOk_29 (v0 : List dM) (v1 : Int) (v2 : Int) (v3 : Int) (v4 : Int) (v5 : Int) (v6 : List dM) (v7 : Int) (v8 : Int) (v9 : Int) (v10 : Int) (v11 : Int) (v12 : List dW) (v13 : Int) (v14 : Bool) (v15 : Bool) : Option ((L_impl_ArrOk_29).X ⊕ ((O_impl_ArrOk_29).X ⊕ (Z_impl_ArrOk_29).X)) :=
  bif (ltb v2 v1) then
    bif (inb v2 v0.length) then
      let r7 := n_impl_MemOk ((nth v0 v2 ([], [], false, [])).1, ((nth v0 v2 ([], [], false, [])).2).1, (((nth v0 v2 ([], [], false, [])).2).2))
      bif (!(!r7)) then
        let r8 := n_impl_sectors (v4, v5)
        bif (!((((nth v0 v2 ([], [], false, [])).1).length : Int) != r8)) then
          bif (((nth v0 v2 ([], [], false, [])).2).2).1 then
            bif (v7 != v2) then
              bif (!v15) then
                some (.inr (.inr (((false, ()), ()), (), ())))
              else
                some (.inl ((((), ()), (v0, ()), (v1, ()), ((IntKind.i64.wrap (v2 + 1)), ()), ()), ((v3, v4, v5, v6, v7, v8, v9, v10, v11, v12, v13, v14, v15, ()), ()), ()))
            else
              some (.inl ((((), ()), (v0, ()), (v1, ()), ((IntKind.i64.wrap (v2 + 1)), ()), ()), ((v3, v4, v5, v6, v7, v8, v9, v10, v11, v12, v13, v14, v15, ()), ()), ()))
          else
            some (.inl ((((), ()), (v0, ()), (v1, ()), ((IntKind.i64.wrap (v2 + 1)), ()), ()), ((v3, v4, v5, v6, v7, v8, v9, v10, v11, v12, v13, v14, v15, ()), ()), ()))
        else
          some (.inr (.inr (((false, ()), ()), (), ())))
      else
        some (.inr (.inr (((false, ()), ()), (), ())))
    else none
  else
    some (.inr (.inl ((((), ()), ()), ((v3, v4, v5, v6, v7, v8, v9, v10, v11, v12, v13, v14, v15, ()), ()), ())))
noncomputable def stx_impl_ArrOk_29 (x : (L_impl_ArrOk_29).X) := st_impl_ArrOk_29 x.1.2.1.1 x.1.2.2.1.1 x.1.2.2.2.1.1 x.2.1.1.1 x.2.1.1.2.1 x.2.1.1.2.2.1 x.2.1.1.2.2.2.1 x.2.1.1.2.2.2.2.1 x.2.1.1.2.2.2.2.2.1 x.2.1.1.2.2.2.2.2.2.1 x.2.1.1.2.2.2.2.2.2.2.1 x.2.1.1.2.2.2.2.2.2.2.2.1 x.2.1.1.2.2.2.2.2.2.2.2.2.1 x.2.1.1.2.2.2.2.2.2.2.2.2.2.1 x.2.1.1.2.2.2.2.2.2.2.2.2.2.2.1 x.2.1.1.2.2.2.2.2.2.2.2.2.2.2.2.1
def em_impl_ArrOk_29 (x : (S_impl_ArrOk_29).X) : (L_impl_ArrOk_29).X := ((((), ()), (x.1.2.1.1, ()), (x.1.2.2.1.1, ()), (0, ()), ()), ((x.2.1.1.1, x.2.1.1.2.1, x.2.1.1.2.2.1, x.2.1.1.2.2.2.1, x.2.1.1.2.2.2.2.1, x.2.1.1.2.2.2.2.2.1, x.2.1.1.2.2.2.2.2.2.1, x.2.1.1.2.2.2.2.2.2.2.1, x.2.1.1.2.2.2.2.2.2.2.2.1, x.2.1.1.2.2.2.2.2.2.2.2.2.1, x.2.1.1.2.2.2.2.2.2.2.2.2.2.1, x.2.1.1.2.2.2.2.2.2.2.2.2.2.2.1, x.2.1.1.2.2.2.2.2.2.2.2.2.2.2.2.1, ()), ()), ())
noncomputable def c_impl_ArrOk_29 : Code := (subN B_impl_ArrOk 64 116).getD .skip
theorem a_impl_ArrOk_29 : subN B_impl_ArrOk 64 29 = some (.block 0 (.loop c_impl_ArrOk_29)) := by kernel_rfl
theorem r_impl_ArrOk_29 (x : (L_impl_ArrOk_29).X) : roundT ⟨E_impl_ArrOk, 103, D_impl_ArrOk_0⟩ 0 c_impl_ArrOk_29 116 L_impl_ArrOk_29 O_impl_ArrOk_29 Z_impl_ArrOk_29 x = stx_impl_ArrOk_29 x := by kernel_rfl
noncomputable def fu_impl_ArrOk_29 (x : (S_impl_ArrOk_29).X) : Nat := (fun (u0 : List dM) (u1 : Int) (u2 : Int) (u3 : Int) (u4 : Int) (u5 : List dM) (u6 : Int) (u7 : Int) (u8 : Int) (u9 : Int) (u10 : Int) (u11 : List dW) (u12 : Int) (u13 : Bool) (u14 : Bool) => 18446744073709551616) x.1.2.1.1 x.1.2.2.1.1 x.2.1.1.1 x.2.1.1.2.1 x.2.1.1.2.2.1 x.2.1.1.2.2.2.1 x.2.1.1.2.2.2.2.1 x.2.1.1.2.2.2.2.2.1 x.2.1.1.2.2.2.2.2.2.1 x.2.1.1.2.2.2.2.2.2.2.1 x.2.1.1.2.2.2.2.2.2.2.2.1 x.2.1.1.2.2.2.2.2.2.2.2.2.1 x.2.1.1.2.2.2.2.2.2.2.2.2.2.1 x.2.1.1.2.2.2.2.2.2.2.2.2.2.2.1 x.2.1.1.2.2.2.2.2.2.2.2.2.2.2.2.1
noncomputable def F_impl_ArrOk_29 (x : (S_impl_ArrOk_29).X) : Option ((O_impl_ArrOk_29).X ⊕ (Z_impl_ArrOk_29).X) := loopN stx_impl_ArrOk_29 (fu_impl_ArrOk_29 x) (em_impl_ArrOk_29 x)
noncomputable def sg_impl_ArrOk_29 : Seg := ⟨S_impl_ArrOk_29, O_impl_ArrOk_29, Z_impl_ArrOk_29, F_impl_ArrOk_29⟩
noncomputable def D_impl_ArrOk_1 : Nat → Option Seg := fun q => bif Nat.beq q 29 then some sg_impl_ArrOk_29 else D_impl_ArrOk_0 q
theorem fr_impl_ArrOk_1 : FrOk Tryz.prog ⟨E_impl_ArrOk, 103, D_impl_ArrOk_1⟩ B_impl_ArrOk := (fr_impl_ArrOk_0).loop (sg := sg_impl_ArrOk_29) L_impl_ArrOk_29 em_impl_ArrOk_29 (by decide) a_impl_ArrOk_29 stx_impl_ArrOk_29 fu_impl_ArrOk_29 (by decide) (fun _ => rfl) (fun x r _ h => h) r_impl_ArrOk_29
abbrev I_impl_ArrOk : List Par := [.rd tA]
abbrev U_impl_ArrOk : List OT := [⟨false, tB, .fz⟩]
noncomputable def raw_impl_ArrOk (a0 : dA) : Option (ResD U_impl_ArrOk × MutD I_impl_ArrOk) :=
  let r1 := n_impl_GeoOk a0.2.1
  bif (!(!r1)) then
    bif (!((a0.2.2.1.length : Int) != a0.2.1.1)) then
      let r2 := n_impl_within a0.1 1 60000
      bif (!(!r2)) then
        let r3 := n_impl_lostOk a0.2.1 a0.2.2.2.1 a0.2.2.2.2.1
        bif (!(!r3)) then
          bnd (o_impl_dirtyOk a0) fun r4 =>
          bif (!r4.1.1) then
            some ((false, ()), ())
          else
            segM (F_impl_ArrOk_29 ((((), ()), (a0.2.2.1, ()), ((a0.2.2.1.length : Int), ()), ((), ()), ()), ((a0.1, a0.2.1.1, a0.2.1.2, a0.2.2.1, a0.2.2.2.1, a0.2.2.2.2.1, a0.2.2.2.2.2.1, a0.2.2.2.2.2.2.1, a0.2.2.2.2.2.2.2.1, a0.2.2.2.2.2.2.2.2.1, a0.2.2.2.2.2.2.2.2.2.1, a0.2.2.2.2.2.2.2.2.2.2.1, a0.2.2.2.2.2.2.2.2.2.2.2, ()), ()), ())) (fun y8 =>
              let r10 := n_impl_within y8.2.1.1.2.2.2.2.2.2.1 0 60000
              bif r10 then
                let r11 := n_impl_within y8.2.1.1.2.2.2.2.2.2.2.1 0 60000
                bif r11 then
                  let r12 := n_impl_within y8.2.1.1.2.2.2.2.2.2.2.2.1 0 60000
                  bif r12 then
                    let r13 := n_impl_within (IntKind.i64.wrap (y8.2.1.1.2.2.2.2.2.2.1 - y8.2.1.1.2.2.2.2.2.2.2.1)) 0 4
                    bif r13 then
                      let r14 := n_impl_within y8.2.1.1.2.2.2.2.2.2.2.2.2.2.1 (-1) 1000
                      some ((r14, ()), ())
                    else
                      some ((false, ()), ())
                  else
                    some ((false, ()), ())
                else
                  some ((false, ()), ())
              else
                some ((false, ()), ())) (fun y8 =>
              some ((y8.1.1.1, ()), ()))
        else
          some ((false, ()), ())
      else
        some ((false, ()), ())
    else
      some ((false, ()), ())
  else
    some ((false, ()), ())
theorem e_impl_ArrOk (x : InD I_impl_ArrOk) : execF ⟨E_impl_ArrOk, 103, D_impl_ArrOk_1⟩ Tryz.f51.results.toList B_impl_ArrOk I_impl_ArrOk U_impl_ArrOk x = raw_impl_ArrOk x.1 := by kernel_rfl
theorem ok0_impl_ArrOk : ConOk Tryz.prog 51 ⟨I_impl_ArrOk, U_impl_ArrOk, fun x => raw_impl_ArrOk x.1⟩ := conOk_exec (fr_impl_ArrOk_1) Tryz.func51 (by kernel_rfl) (by kernel_rfl) Tryz.ntmps51.symm (by decide) (fun x r h => (e_impl_ArrOk x).trans h)
theorem seq_fin {S T G F z TS le : Bool} (h1 : T = true → TS = true → S = true) (h2 : S = true → T = true → z = (TS && le)) :
    (bif S then bif T then bif G then bif z then some ((F, ()), ()) else some ((false, ()), ()) else some ((false, ()), ()) else some ((false, ()), ()) else some ((false, ()), ())) = some (((T && (TS && (le && (G && F)))), ()), ()) := by
  cases S
  · cases T
    · rfl
    · cases TS
      · rfl
      · exact absurd (h1 rfl rfl) Bool.false_ne_true
  · cases T
    · cases G <;> rfl
    · rw [h2 rfl rfl]
      cases TS <;> cases le <;> cases G <;> rfl
noncomputable def n_impl_ArrOk (a0 : dA) : Bool := arrOk a0
theorem nn_impl_ArrOk (a0 : dA) (hk : InOk I_impl_ArrOk (a0, ())) : raw_impl_ArrOk a0 = (fun n => some ((n, ()), ())) (n_impl_ArrOk a0) := by
  have hb : a0.2.2.1.length * 80 ≤ 2 ^ 47 := hk.1.2.2.1.1
  unfold raw_impl_ArrOk n_impl_ArrOk arrOk
  simp only [geo_eq, impl_in_eq, in_eq]
  cases hg : n_spec_GeoOk a0.2.1
  · rfl
  have hg2 := geo_iff.1 hg
  have h1 : F_impl_ArrOk_29 (ms_impl_ArrOk_29 a0.2.2.1 a0.2.2.1.length a0) = some (bif (List.range a0.2.2.1.length).any (memBad a0) then .inr (mz_impl_ArrOk_29 false) else .inl (mo_impl_ArrOk_29 a0)) :=
    loopN_all (step := stx_impl_ArrOk_29) (fun i => mk_impl_ArrOk_29 a0.2.2.1 a0.2.2.1.length i a0) a0.2.2.1.length (memBad a0) _ _ (fun i hi => by
      simp only [stx_impl_ArrOk_29, mk_impl_ArrOk_29, st_impl_ArrOk_29, ltb_t (show (i : Int) < a0.2.2.1.length by omega), cond_true, wr (show -9223372036854775808 ≤ (i : Int) + 1 by omega) (by omega), Int.natCast_add, Int.natCast_one, Int.toNat_natCast, inb_nat hi, pr_eta, n_impl_MemOk, memBad, n_impl_sectors, wr (show -9223372036854775808 ≤ 6 + a0.2.1.2 by omega) (by omega), noMem]
      rw [show (a0.2.2.2.1 != (i : Int)) = ((i : Int) != a0.2.2.2.1) from bne_comm]
      cases memOk (nth a0.2.2.1 i ([], [], false, [])) <;> cases (((nth a0.2.2.1 i ([], [], false, [])).1.length : Int) != 6 + a0.2.1.2) <;> cases (nth a0.2.2.1 i ([], [], false, [])).2.2.1 <;> cases ((i : Int) != a0.2.2.2.1) <;> cases a0.2.2.2.2.2.2.2.2.2.2.2 <;> rfl) (by simp only [stx_impl_ArrOk_29, mk_impl_ArrOk_29, st_impl_ArrOk_29, ltb_f (Int.le_refl _), cond_false]) _ (by show _ < 18446744073709551616; omega)
  rw [ot_impl_dirtyOk a0 hg, h1]
  simp only [bnd_some, n_impl_dirtyOk, n_impl_lostOk, impl_in_eq, in_eq, wr (show -9223372036854775808 ≤ a0.2.1.1 - 1 by omega) (by omega), memsOk]
  have hw : (leb 0 a0.2.2.2.2.2.1 && leb a0.2.2.2.2.2.1 60000) = true → (leb 0 a0.2.2.2.2.2.2.1 && leb a0.2.2.2.2.2.2.1 60000) = true → IntKind.i64.wrap (a0.2.2.2.2.2.1 - a0.2.2.2.2.2.2.1) = a0.2.2.2.2.2.1 - a0.2.2.2.2.2.2.1 := fun h h' => by
    rw [Bool.and_eq_true, leb_iff, leb_iff] at h h'
    exact wr (by omega) (by omega)
  simp only [bne, Bool.not_not, cond_true, Bool.true_and]
  have h2 : (leb 0 a0.2.2.2.2.2.1 && leb a0.2.2.2.2.2.1 60000) = true → (leb 0 a0.2.2.2.2.2.2.1 && leb a0.2.2.2.2.2.2.1 60000) = true → (leb 0 (IntKind.i64.wrap (a0.2.2.2.2.2.1 - a0.2.2.2.2.2.2.1)) && leb (IntKind.i64.wrap (a0.2.2.2.2.2.1 - a0.2.2.2.2.2.2.1)) 4) = ((leb a0.2.2.2.2.2.2.1 a0.2.2.2.2.2.1 && leb a0.2.2.2.2.2.1 60000) && leb a0.2.2.2.2.2.1 (a0.2.2.2.2.2.2.1 + 4)) := fun h h' => by
    rw [hw h h', Bool.eq_iff_iff]
    simp only [Bool.and_eq_true, leb_iff] at h h' ⊢
    omega
  have h3 : (leb 0 a0.2.2.2.2.2.2.1 && leb a0.2.2.2.2.2.2.1 60000) = true → (leb a0.2.2.2.2.2.2.1 a0.2.2.2.2.2.1 && leb a0.2.2.2.2.2.1 60000) = true → (leb 0 a0.2.2.2.2.2.1 && leb a0.2.2.2.2.2.1 60000) = true := fun h h' => by
    simp only [Bool.and_eq_true, leb_iff] at h h' ⊢
    omega
  cases ((a0.2.2.1.length : Int) == a0.2.1.1)
  · cases (leb 1 a0.1 && leb a0.1 60000) <;> cases (List.range a0.2.2.1.length).any (memBad a0) <;> rfl
  cases (leb 1 a0.1 && leb a0.1 60000)
  · rfl
  cases (leb (-1) a0.2.2.2.1 && leb a0.2.2.2.1 (a0.2.1.1 - 1))
  · cases (List.range a0.2.2.1.length).any (memBad a0) <;> cases dirtyOk a0.2.1 a0.2.2.2.2.2.2.2.2.1 <;> rfl
  cases (leb 0 a0.2.2.2.2.1 && leb a0.2.2.2.2.1 a0.2.1.2)
  · cases (List.range a0.2.2.1.length).any (memBad a0) <;> cases dirtyOk a0.2.1 a0.2.2.2.2.2.2.2.2.1 <;> rfl
  cases dirtyOk a0.2.1 a0.2.2.2.2.2.2.2.2.1
  · cases (List.range a0.2.2.1.length).any (memBad a0) <;> cases (a0.2.2.2.1 == -1) <;> cases (a0.2.2.2.2.1 == 0) <;> rfl
  cases (List.range a0.2.2.1.length).any (memBad a0)
  · cases (a0.2.2.2.1 == -1) <;> cases (a0.2.2.2.2.1 == 0)
    case true.false => rfl
    all_goals exact seq_fin h3 h2
  · cases (a0.2.2.2.1 == -1) <;> cases (a0.2.2.2.2.1 == 0) <;> rfl
noncomputable def con_impl_ArrOk : Con := ⟨I_impl_ArrOk, U_impl_ArrOk, fun x => (fun n => some ((n, ()), ())) (n_impl_ArrOk x.1)⟩
theorem ok_impl_ArrOk : ConOk Tryz.prog 51 con_impl_ArrOk := (ok0_impl_ArrOk).mono (fun x r hk h => (nn_impl_ArrOk x.1 hk).trans h)
end

/-! impl_copyInts -/
section
noncomputable def B_impl_copyInts : Code := (Tryz.f151.body).getD .skip
noncomputable def E_impl_copyInts : Env := envOf TT [] []
theorem fr_impl_copyInts_0 : FrOk Tryz.prog ⟨E_impl_copyInts, 6, fun _ => none⟩ B_impl_copyInts := frOk_base mixed tt_ok trivial
noncomputable def D_impl_copyInts_0 : Nat → Option Seg := fun _ => none
abbrev I_impl_copyInts : List Par := [.rd tL]
abbrev U_impl_copyInts : List OT := [⟨false, tL, (.ow .fz)⟩]
noncomputable def raw_impl_copyInts (a0 : List Int) : Option (ResD U_impl_copyInts × MutD I_impl_copyInts) :=
  bif (apok ([] : List Int).length a0.length 8) then
    some (((([] : List Int) ++ a0), ()), ())
  else none
theorem e_impl_copyInts (x : InD I_impl_copyInts) : execF ⟨E_impl_copyInts, 6, D_impl_copyInts_0⟩ Tryz.f151.results.toList B_impl_copyInts I_impl_copyInts U_impl_copyInts x = raw_impl_copyInts x.1 := by kernel_rfl
theorem ok0_impl_copyInts : ConOk Tryz.prog 151 ⟨I_impl_copyInts, U_impl_copyInts, fun x => raw_impl_copyInts x.1⟩ := conOk_exec (fr_impl_copyInts_0) Tryz.func151 (by kernel_rfl) (by kernel_rfl) Tryz.ntmps151.symm (by decide) (fun x r h => (e_impl_copyInts x).trans h)
noncomputable def n_impl_copyInts (a0 : List Int) : List Int := a0
theorem nn_impl_copyInts (a0 : List Int) (hk : InOk I_impl_copyInts (a0, ())) : raw_impl_copyInts a0 = (fun n => some ((n, ()), ())) (n_impl_copyInts a0) := by
  have hb : a0.length * 8 ≤ 2 ^ 47 := hk.1.1
  unfold raw_impl_copyInts n_impl_copyInts
  rw [show apok ([] : List Int).length a0.length 8 = true by rw [apok_iff, List.length_nil]; omega]
  rfl
noncomputable def con_impl_copyInts : Con := ⟨I_impl_copyInts, U_impl_copyInts, fun x => (fun n => some ((n, ()), ())) (n_impl_copyInts x.1)⟩
theorem ok_impl_copyInts : ConOk Tryz.prog 151 con_impl_copyInts := (ok0_impl_copyInts).mono (fun x r hk h => (nn_impl_copyInts x.1 hk).trans h)
end
end Go.Tf
