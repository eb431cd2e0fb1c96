/- Functions of the program, and what they come to. -/
import Derived.Test.YtmamkjioahnecaaExactFallF3
namespace Go.Tf
open Go.Proofs
set_option synthInstance.maxHeartbeats 400000
set_option synthInstance.maxSize 10000
set_option linter.unusedVariables false
set_option linter.unusedSimpArgs false
set_option maxRecDepth 100000
/-! impl_wordsOk -/
section
noncomputable def B_impl_wordsOk : Code := (Try.f182.body).getD .skip
noncomputable def E_impl_wordsOk : Env := envOf TT [(198, con_impl_isWord)] []
theorem fr_impl_wordsOk_0 : FrOk Try.prog ⟨E_impl_wordsOk, 15, fun _ => none⟩ B_impl_wordsOk := frOk_base mixed tt_ok ⟨ok_impl_isWord, trivial⟩
noncomputable def D_impl_wordsOk_0 : Nat → Option Seg := fun _ => none
def L_impl_wordsOk_13 : Shape := ⟨[(5, false, [.br tI]), (6, false, [.int .i64]), (7, false, [.int .i64])], [], []⟩
def S_impl_wordsOk_13 : Shape := ⟨[(5, false, [.br tI]), (6, false, [.int .i64]), (7, false, [.ci .i64 0])], [], []⟩
def O_impl_wordsOk_13 : Shape := ⟨[], [], []⟩
def Z_impl_wordsOk_13 : Shape := ⟨[(2, false, [.bool])], [], []⟩
noncomputable def st_impl_wordsOk_13 (v0 : List Int) (v1 : Int) (v2 : Int) : Option ((L_impl_wordsOk_13).X ⊕ ((O_impl_wordsOk_13).X ⊕ (Z_impl_wordsOk_13).X)) :=
  bif (ltb v2 v1) then
    bif (inb v2 v0.length) then
      let r2 := n_impl_isWord (nth v0 v2 0)
      bif (!r2) then
        some (.inr (.inr (((false, ()), ()), (), ())))
      else
        some (.inl (((v0, ()), (v1, ()), ((IntKind.i64.wrap (v2 + 1)), ()), ()), (), ()))
    else none
  else
    some (.inr (.inl ((), (), ())))
noncomputable def stx_impl_wordsOk_13 (x : (L_impl_wordsOk_13).X) := st_impl_wordsOk_13 x.1.1.1 x.1.2.1.1 x.1.2.2.1.1
def em_impl_wordsOk_13 (x : (S_impl_wordsOk_13).X) : (L_impl_wordsOk_13).X := (((x.1.1.1, ()), (x.1.2.1.1, ()), (0, ()), ()), (), ())
noncomputable def c_impl_wordsOk_13 : Code := (subN B_impl_wordsOk 64 52).getD .skip
theorem a_impl_wordsOk_13 : subN B_impl_wordsOk 64 13 = some (.block 0 (.loop c_impl_wordsOk_13)) := by kernel_rfl
theorem r_impl_wordsOk_13 (x : (L_impl_wordsOk_13).X) : roundT ⟨E_impl_wordsOk, 15, D_impl_wordsOk_0⟩ 0 c_impl_wordsOk_13 52 L_impl_wordsOk_13 O_impl_wordsOk_13 Z_impl_wordsOk_13 x = stx_impl_wordsOk_13 x := by kernel_rfl
noncomputable def fu_impl_wordsOk_13 (x : (S_impl_wordsOk_13).X) : Nat := (fun (u0 : List Int) (u1 : Int) => 18446744073709551616) x.1.1.1 x.1.2.1.1
noncomputable def F_impl_wordsOk_13 (x : (S_impl_wordsOk_13).X) : Option ((O_impl_wordsOk_13).X ⊕ (Z_impl_wordsOk_13).X) := loopN stx_impl_wordsOk_13 (fu_impl_wordsOk_13 x) (em_impl_wordsOk_13 x)
noncomputable def sg_impl_wordsOk_13 : Seg := ⟨S_impl_wordsOk_13, O_impl_wordsOk_13, Z_impl_wordsOk_13, F_impl_wordsOk_13⟩
noncomputable def D_impl_wordsOk_1 : Nat → Option Seg := fun q => bif Nat.beq q 13 then some sg_impl_wordsOk_13 else D_impl_wordsOk_0 q
theorem fr_impl_wordsOk_1 : FrOk Try.prog ⟨E_impl_wordsOk, 15, D_impl_wordsOk_1⟩ B_impl_wordsOk := (fr_impl_wordsOk_0).loop (sg := sg_impl_wordsOk_13) L_impl_wordsOk_13 em_impl_wordsOk_13 (by decide) a_impl_wordsOk_13 stx_impl_wordsOk_13 fu_impl_wordsOk_13 (by decide) (fun _ => rfl) (fun x r _ h => h) r_impl_wordsOk_13
abbrev I_impl_wordsOk : List Par := [.rd tL]
abbrev U_impl_wordsOk : List OT := [⟨false, tB, .fz⟩]
noncomputable def raw_impl_wordsOk (a0 : List Int) : Option (ResD U_impl_wordsOk × MutD I_impl_wordsOk) :=
  segM (F_impl_wordsOk_13 (((a0, ()), ((a0.length : Int), ()), ((), ()), ()), (), ())) (fun y2 =>
    some ((true, ()), ())) (fun y2 =>
    some ((y2.1.1.1, ()), ()))
theorem e_impl_wordsOk (x : InD I_impl_wordsOk) : execF ⟨E_impl_wordsOk, 15, D_impl_wordsOk_1⟩ Try.f182.results.toList B_impl_wordsOk I_impl_wordsOk U_impl_wordsOk x = raw_impl_wordsOk x.1 := by kernel_rfl
theorem ok0_impl_wordsOk : ConOk Try.prog 182 ⟨I_impl_wordsOk, U_impl_wordsOk, fun x => raw_impl_wordsOk x.1⟩ := conOk_exec (fr_impl_wordsOk_1) Try.func182 (by kernel_rfl) (by kernel_rfl) Try.ntmps182.symm (by decide) (fun x r h => (e_impl_wordsOk x).trans h)
noncomputable def n_impl_wordsOk (a0 : List Int) : Bool := a0.all n_impl_isWord
theorem nn_impl_wordsOk (a0 : List Int) (hk : InOk I_impl_wordsOk (a0, ())) : raw_impl_wordsOk a0 = (fun n => some ((n, ()), ())) (n_impl_wordsOk a0) := by
  have hb : a0.length * 8 ≤ 2 ^ 47 := hk.1.1
  have hl : F_impl_wordsOk_13 (((a0, ()), ((a0.length : Int), ()), ((), ()), ()), (), ()) = some (bif a0.all n_impl_isWord then .inl ((), (), ()) else .inr (((false, ()), ()), (), ())) :=
    loopN_list_all (step := stx_impl_wordsOk_13) a0 0 (fun i => (((a0, ()), ((a0.length : Int), ()), ((i : Int), ()), ()), (), ())) n_impl_isWord _ _ (fun i hi => by
      simp only [stx_impl_wordsOk_13, st_impl_wordsOk_13, inb_nat hi, nth_nat, ltb_t (show (i : Int) < a0.length by omega), cond_true, wr (show -9223372036854775808 ≤ (i : Int) + 1 by omega) (by omega), Int.natCast_add, Int.natCast_one]
      cases n_impl_isWord (a0.getD i 0) <;> rfl) (by simp only [stx_impl_wordsOk_13, st_impl_wordsOk_13, ltb_f (Int.le_refl _), cond_false]) _ (by show _ < 18446744073709551616; omega)
  unfold raw_impl_wordsOk n_impl_wordsOk
  rw [hl]
  cases a0.all n_impl_isWord <;> rfl
noncomputable def con_impl_wordsOk : Con := ⟨I_impl_wordsOk, U_impl_wordsOk, fun x => (fun n => some ((n, ()), ())) (n_impl_wordsOk x.1)⟩
theorem ok_impl_wordsOk : ConOk Try.prog 182 con_impl_wordsOk := (ok0_impl_wordsOk).mono (fun x r hk h => (nn_impl_wordsOk x.1 hk).trans h)
end

/-! impl_SecOk -/
section
noncomputable def B_impl_SecOk : Code := (Try.f170.body).getD .skip
noncomputable def E_impl_SecOk : Env := envOf TT [(182, con_impl_wordsOk)] []
theorem fr_impl_SecOk_0 : FrOk Try.prog ⟨E_impl_SecOk, 10, fun _ => none⟩ B_impl_SecOk := frOk_base mixed tt_ok ⟨ok_impl_wordsOk, trivial⟩
noncomputable def D_impl_SecOk_0 : Nat → Option Seg := fun _ => none
abbrev I_impl_SecOk : List Par := [.rd tL]
abbrev U_impl_SecOk : List OT := [⟨false, tB, .fz⟩]
noncomputable def raw_impl_SecOk (a0 : List Int) : Option (ResD U_impl_SecOk × MutD I_impl_SecOk) :=
  bif (leb (a0.length : Int) 12) then
    let r1 := n_impl_wordsOk a0
    some ((r1, ()), ())
  else
    some ((false, ()), ())
theorem e_impl_SecOk (x : InD I_impl_SecOk) : execF ⟨E_impl_SecOk, 10, D_impl_SecOk_0⟩ Try.f170.results.toList B_impl_SecOk I_impl_SecOk U_impl_SecOk x = raw_impl_SecOk x.1 := by kernel_rfl
theorem ok0_impl_SecOk : ConOk Try.prog 170 ⟨I_impl_SecOk, U_impl_SecOk, fun x => raw_impl_SecOk x.1⟩ := conOk_exec (fr_impl_SecOk_0) Try.func170 (by kernel_rfl) (by kernel_rfl) Try.ntmps170.symm (by decide) (fun x r h => (e_impl_SecOk x).trans h)
noncomputable def n_impl_SecOk (a0 : List Int) : Bool :=
  bif (leb (a0.length : Int) 12) then
    let r1 := n_impl_wordsOk a0
    r1
  else
    false
noncomputable def con_impl_SecOk : Con := ⟨I_impl_SecOk, U_impl_SecOk, fun x => (fun n => some ((n, ()), ())) (n_impl_SecOk x.1)⟩
theorem nn_impl_SecOk (a0 : List Int) : raw_impl_SecOk a0 = (fun n => some ((n, ()), ())) (n_impl_SecOk a0) := bif_ty (p := fun (n : Bool) => ((n, ()), ())) (bif_some (p := fun (n : Bool) => ((n, ()), ())) rfl rfl)
theorem ok_impl_SecOk : ConOk Try.prog 170 con_impl_SecOk := (ok0_impl_SecOk).mono (fun x r _ h => (nn_impl_SecOk x.1).trans h)
theorem impl_sec_eq : n_impl_SecOk = secOk := funext fun s => by
  unfold n_impl_SecOk secOk n_impl_wordsOk
  rw [show n_impl_isWord = isW from funext fun x => by unfold n_impl_isWord; rw [impl_in_eq, in_eq]; rfl]
  cases leb (s.length : Int) 12 <;> rfl
end

/-! impl_MemOk -/
section
noncomputable def B_impl_MemOk : Code := (Try.f128.body).getD .skip
noncomputable def E_impl_MemOk : Env := envOf TT [(125, con_impl_within), (160, con_impl_hasSec), (170, con_impl_SecOk)] []
theorem fr_impl_MemOk_0 : FrOk Try.prog ⟨E_impl_MemOk, 76, fun _ => none⟩ B_impl_MemOk := frOk_base mixed tt_ok ⟨ok_impl_within, ok_impl_hasSec, ok_impl_SecOk, trivial⟩
noncomputable def D_impl_MemOk_0 : Nat → Option Seg := fun _ => none
def L_impl_MemOk_13 : Shape := ⟨[(1, false, [.ptr 0 0]), (10, false, [.br tL]), (11, false, [.int .i64]), (12, false, [.int .i64])], [(0, [.br tL, .br tW, .bool, .br tI])], []⟩
def S_impl_MemOk_13 : Shape := ⟨[(1, false, [.ptr 0 0]), (10, false, [.br tL]), (11, false, [.int .i64]), (12, false, [.ci .i64 0])], [(0, [.br tL, .br tW, .bool, .br tI])], []⟩
def O_impl_MemOk_13 : Shape := ⟨[(1, false, [.ptr 0 0])], [(0, [.br tL, .br tW, .bool, .br tI])], []⟩
def Z_impl_MemOk_13 : Shape := ⟨[(2, false, [.bool])], [], []⟩
abbrev mk_impl_MemOk_13 (v0 : List (List Int)) (v1 : Int) (v2 : Int) (v3 : dM) : (L_impl_MemOk_13).X := ((((), ()), (v0, ()), (v1, ()), (v2, ()), ()), ((v3.1, v3.2.1, v3.2.2.1, v3.2.2.2, ()), ()), ())
abbrev ms_impl_MemOk_13 (v0 : List (List Int)) (v1 : Int) (v2 : dM) : (S_impl_MemOk_13).X := ((((), ()), (v0, ()), (v1, ()), ((), ()), ()), ((v2.1, v2.2.1, v2.2.2.1, v2.2.2.2, ()), ()), ())
abbrev mo_impl_MemOk_13 (v0 : dM) : (O_impl_MemOk_13).X := ((((), ()), ()), ((v0.1, v0.2.1, v0.2.2.1, v0.2.2.2, ()), ()), ())
abbrev mz_impl_MemOk_13 (v0 : Bool) : (Z_impl_MemOk_13).X := (((v0, ()), ()), (), ())
noncomputable def st_impl_MemOk_13 (v0 : List (List Int)) (v1 : Int) (v2 : Int) (v3 : List (List Int)) (v4 : List dW) (v5 : Bool) (v6 : List Int) : Option ((L_impl_MemOk_13).X ⊕ ((O_impl_MemOk_13).X ⊕ (Z_impl_MemOk_13).X)) :=
  bif (ltb v2 v1) then
    bif (inb v2 v0.length) then
      let r2 := n_impl_SecOk (nth v0 v2 [])
      bif (!r2) then
        some (.inr (.inr (((false, ()), ()), (), ())))
      else
        some (.inl ((((), ()), (v0, ()), (v1, ()), ((IntKind.i64.wrap (v2 + 1)), ()), ()), ((v3, v4, v5, v6, ()), ()), ()))
    else none
  else
    some (.inr (.inl ((((), ()), ()), ((v3, v4, v5, v6, ()), ()), ())))
noncomputable def stx_impl_MemOk_13 (x : (L_impl_MemOk_13).X) := st_impl_MemOk_13 x.1.2.1.1 x.1.2.2.1.1 x.1.2.2.2.1.1 x.2.1.1.1 x.2.1.1.2.1 x.2.1.1.2.2.1 x.2.1.1.2.2.2.1
def em_impl_MemOk_13 (x : (S_impl_MemOk_13).X) : (L_impl_MemOk_13).X := ((((), ()), (x.1.2.1.1, ()), (x.1.2.2.1.1, ()), (0, ()), ()), ((x.2.1.1.1, x.2.1.1.2.1, x.2.1.1.2.2.1, x.2.1.1.2.2.2.1, ()), ()), ())
noncomputable def c_impl_MemOk_13 : Code := (subN B_impl_MemOk 64 52).getD .skip
theorem a_impl_MemOk_13 : subN B_impl_MemOk 64 13 = some (.block 0 (.loop c_impl_MemOk_13)) := by kernel_rfl
theorem r_impl_MemOk_13 (x : (L_impl_MemOk_13).X) : roundT ⟨E_impl_MemOk, 76, D_impl_MemOk_0⟩ 0 c_impl_MemOk_13 52 L_impl_MemOk_13 O_impl_MemOk_13 Z_impl_MemOk_13 x = stx_impl_MemOk_13 x := by kernel_rfl
noncomputable def fu_impl_MemOk_13 (x : (S_impl_MemOk_13).X) : Nat := (fun (u0 : List (List Int)) (u1 : Int) (u2 : List (List Int)) (u3 : List dW) (u4 : Bool) (u5 : List Int) => 18446744073709551616) x.1.2.1.1 x.1.2.2.1.1 x.2.1.1.1 x.2.1.1.2.1 x.2.1.1.2.2.1 x.2.1.1.2.2.2.1
noncomputable def F_impl_MemOk_13 (x : (S_impl_MemOk_13).X) : Option ((O_impl_MemOk_13).X ⊕ (Z_impl_MemOk_13).X) := loopN stx_impl_MemOk_13 (fu_impl_MemOk_13 x) (em_impl_MemOk_13 x)
noncomputable def sg_impl_MemOk_13 : Seg := ⟨S_impl_MemOk_13, O_impl_MemOk_13, Z_impl_MemOk_13, F_impl_MemOk_13⟩
noncomputable def D_impl_MemOk_1 : Nat → Option Seg := fun q => bif Nat.beq q 13 then some sg_impl_MemOk_13 else D_impl_MemOk_0 q
theorem fr_impl_MemOk_1 : FrOk Try.prog ⟨E_impl_MemOk, 76, D_impl_MemOk_1⟩ B_impl_MemOk := (fr_impl_MemOk_0).loop (sg := sg_impl_MemOk_13) L_impl_MemOk_13 em_impl_MemOk_13 (by decide) a_impl_MemOk_13 stx_impl_MemOk_13 fu_impl_MemOk_13 (by decide) (fun _ => rfl) (fun x r _ h => h) r_impl_MemOk_13
def L_impl_MemOk_29 : Shape := ⟨[(1, false, [.ptr 0 0]), (21, false, [.br tW]), (22, false, [.int .i64]), (23, false, [.int .i64])], [(0, [.br tL, .br tW, .bool, .br tI])], []⟩
def S_impl_MemOk_29 : Shape := ⟨[(1, false, [.ptr 0 0]), (21, false, [.br tW]), (22, false, [.int .i64]), (23, false, [.ci .i64 0])], [(0, [.br tL, .br tW, .bool, .br tI])], []⟩
def O_impl_MemOk_29 : Shape := ⟨[(1, false, [.ptr 0 0])], [(0, [.br tL, .br tW, .bool, .br tI])], []⟩
def Z_impl_MemOk_29 : Shape := ⟨[(2, false, [.bool])], [], []⟩
abbrev mk_impl_MemOk_29 (v0 : List dW) (v1 : Int) (v2 : Int) (v3 : dM) : (L_impl_MemOk_29).X := ((((), ()), (v0, ()), (v1, ()), (v2, ()), ()), ((v3.1, v3.2.1, v3.2.2.1, v3.2.2.2, ()), ()), ())
abbrev ms_impl_MemOk_29 (v0 : List dW) (v1 : Int) (v2 : dM) : (S_impl_MemOk_29).X := ((((), ()), (v0, ()), (v1, ()), ((), ()), ()), ((v2.1, v2.2.1, v2.2.2.1, v2.2.2.2, ()), ()), ())
abbrev mo_impl_MemOk_29 (v0 : dM) : (O_impl_MemOk_29).X := ((((), ()), ()), ((v0.1, v0.2.1, v0.2.2.1, v0.2.2.2, ()), ()), ())
abbrev mz_impl_MemOk_29 (v0 : Bool) : (Z_impl_MemOk_29).X := (((v0, ()), ()), (), ())
noncomputable def st_impl_MemOk_29 (v0 : List dW) (v1 : Int) (v2 : Int) (v3 : List (List Int)) (v4 : List dW) (v5 : Bool) (v6 : List Int) : Option ((L_impl_MemOk_29).X ⊕ ((O_impl_MemOk_29).X ⊕ (Z_impl_MemOk_29).X)) :=
  bif (ltb v2 v1) then
    bif (inb v2 v0.length) then
      let r6 := n_impl_hasSec (v3, v4, v5, v6) ((nth v0 v2 (0, [])).1)
      bif (!(!r6)) then
        let r7 := n_impl_SecOk ((nth v0 v2 (0, [])).2)
        bif (!r7) then
          some (.inr (.inr (((false, ()), ()), (), ())))
        else
          some (.inl ((((), ()), (v0, ()), (v1, ()), ((IntKind.i64.wrap (v2 + 1)), ()), ()), ((v3, v4, v5, v6, ()), ()), ()))
      else
        some (.inr (.inr (((false, ()), ()), (), ())))
    else none
  else
    some (.inr (.inl ((((), ()), ()), ((v3, v4, v5, v6, ()), ()), ())))
noncomputable def stx_impl_MemOk_29 (x : (L_impl_MemOk_29).X) := st_impl_MemOk_29 x.1.2.1.1 x.1.2.2.1.1 x.1.2.2.2.1.1 x.2.1.1.1 x.2.1.1.2.1 x.2.1.1.2.2.1 x.2.1.1.2.2.2.1
def em_impl_MemOk_29 (x : (S_impl_MemOk_29).X) : (L_impl_MemOk_29).X := ((((), ()), (x.1.2.1.1, ()), (x.1.2.2.1.1, ()), (0, ()), ()), ((x.2.1.1.1, x.2.1.1.2.1, x.2.1.1.2.2.1, x.2.1.1.2.2.2.1, ()), ()), ())
noncomputable def c_impl_MemOk_29 : Code := (subN B_impl_MemOk 64 116).getD .skip
theorem a_impl_MemOk_29 : subN B_impl_MemOk 64 29 = some (.block 2 (.loop c_impl_MemOk_29)) := by kernel_rfl
theorem r_impl_MemOk_29 (x : (L_impl_MemOk_29).X) : roundT ⟨E_impl_MemOk, 76, D_impl_MemOk_1⟩ 2 c_impl_MemOk_29 116 L_impl_MemOk_29 O_impl_MemOk_29 Z_impl_MemOk_29 x = stx_impl_MemOk_29 x := by kernel_rfl
noncomputable def fu_impl_MemOk_29 (x : (S_impl_MemOk_29).X) : Nat := (fun (u0 : List dW) (u1 : Int) (u2 : List (List Int)) (u3 : List dW) (u4 : Bool) (u5 : List Int) => 18446744073709551616) x.1.2.1.1 x.1.2.2.1.1 x.2.1.1.1 x.2.1.1.2.1 x.2.1.1.2.2.1 x.2.1.1.2.2.2.1
noncomputable def F_impl_MemOk_29 (x : (S_impl_MemOk_29).X) : Option ((O_impl_MemOk_29).X ⊕ (Z_impl_MemOk_29).X) := loopN stx_impl_MemOk_29 (fu_impl_MemOk_29 x) (em_impl_MemOk_29 x)
noncomputable def sg_impl_MemOk_29 : Seg := ⟨S_impl_MemOk_29, O_impl_MemOk_29, Z_impl_MemOk_29, F_impl_MemOk_29⟩
noncomputable def D_impl_MemOk_2 : Nat → Option Seg := fun q => bif Nat.beq q 29 then some sg_impl_MemOk_29 else D_impl_MemOk_1 q
theorem fr_impl_MemOk_2 : FrOk Try.prog ⟨E_impl_MemOk, 76, D_impl_MemOk_2⟩ B_impl_MemOk := (fr_impl_MemOk_1).loop (sg := sg_impl_MemOk_29) L_impl_MemOk_29 em_impl_MemOk_29 (by decide) a_impl_MemOk_29 stx_impl_MemOk_29 fu_impl_MemOk_29 (by decide) (fun _ => rfl) (fun x r _ h => h) r_impl_MemOk_29
def L_impl_MemOk_61 : Shape := ⟨[(1, false, [.ptr 0 0]), (40, false, [.br tI]), (41, false, [.int .i64]), (42, false, [.int .i64])], [(0, [.br tL, .br tW, .bool, .br tI])], []⟩
def S_impl_MemOk_61 : Shape := ⟨[(1, false, [.ptr 0 0]), (40, false, [.br tI]), (41, false, [.int .i64]), (42, false, [.ci .i64 0])], [(0, [.br tL, .br tW, .bool, .br tI])], []⟩
def O_impl_MemOk_61 : Shape := ⟨[(1, false, [.ptr 0 0])], [(0, [.br tL, .br tW, .bool, .br tI])], []⟩
def Z_impl_MemOk_61 : Shape := ⟨[(2, false, [.bool])], [], []⟩
abbrev mk_impl_MemOk_61 (v0 : List Int) (v1 : Int) (v2 : Int) (v3 : dM) : (L_impl_MemOk_61).X := ((((), ()), (v0, ()), (v1, ()), (v2, ()), ()), ((v3.1, v3.2.1, v3.2.2.1, v3.2.2.2, ()), ()), ())
abbrev ms_impl_MemOk_61 (v0 : List Int) (v1 : Int) (v2 : dM) : (S_impl_MemOk_61).X := ((((), ()), (v0, ()), (v1, ()), ((), ()), ()), ((v2.1, v2.2.1, v2.2.2.1, v2.2.2.2, ()), ()), ())
abbrev mo_impl_MemOk_61 (v0 : dM) : (O_impl_MemOk_61).X := ((((), ()), ()), ((v0.1, v0.2.1, v0.2.2.1, v0.2.2.2, ()), ()), ())
abbrev mz_impl_MemOk_61 (v0 : Bool) : (Z_impl_MemOk_61).X := (((v0, ()), ()), (), ())
noncomputable def st_impl_MemOk_61 (v0 : List Int) (v1 : Int) (v2 : Int) (v3 : List (List Int)) (v4 : List dW) (v5 : Bool) (v6 : List Int) : Option ((L_impl_MemOk_61).X ⊕ ((O_impl_MemOk_61).X ⊕ (Z_impl_MemOk_61).X)) :=
  bif (ltb v2 v1) then
    bif (inb v2 v0.length) then
      let r10 := n_impl_hasSec (v3, v4, v5, v6) (nth v0 v2 0)
      bif (!(!r10)) then
        bif (ltb 0 v2) then
          bif (inb (IntKind.i64.wrap (v2 - 1)) v6.length) then
            bif (leb (nth v0 v2 0) (nth v6 (IntKind.i64.wrap (v2 - 1)) 0)) then
              some (.inr (.inr (((false, ()), ()), (), ())))
            else
              some (.inl ((((), ()), (v0, ()), (v1, ()), ((IntKind.i64.wrap (v2 + 1)), ()), ()), ((v3, v4, v5, v6, ()), ()), ()))
          else none
        else
          some (.inl ((((), ()), (v0, ()), (v1, ()), ((IntKind.i64.wrap (v2 + 1)), ()), ()), ((v3, v4, v5, v6, ()), ()), ()))
      else
        some (.inr (.inr (((false, ()), ()), (), ())))
    else none
  else
    some (.inr (.inl ((((), ()), ()), ((v3, v4, v5, v6, ()), ()), ())))
noncomputable def stx_impl_MemOk_61 (x : (L_impl_MemOk_61).X) := st_impl_MemOk_61 x.1.2.1.1 x.1.2.2.1.1 x.1.2.2.2.1.1 x.2.1.1.1 x.2.1.1.2.1 x.2.1.1.2.2.1 x.2.1.1.2.2.2.1
def em_impl_MemOk_61 (x : (S_impl_MemOk_61).X) : (L_impl_MemOk_61).X := ((((), ()), (x.1.2.1.1, ()), (x.1.2.2.1.1, ()), (0, ()), ()), ((x.2.1.1.1, x.2.1.1.2.1, x.2.1.1.2.2.1, x.2.1.1.2.2.2.1, ()), ()), ())
noncomputable def c_impl_MemOk_61 : Code := (subN B_impl_MemOk 64 244).getD .skip
theorem a_impl_MemOk_61 : subN B_impl_MemOk 64 61 = some (.block 4 (.loop c_impl_MemOk_61)) := by kernel_rfl
theorem r_impl_MemOk_61 (x : (L_impl_MemOk_61).X) : roundT ⟨E_impl_MemOk, 76, D_impl_MemOk_2⟩ 4 c_impl_MemOk_61 244 L_impl_MemOk_61 O_impl_MemOk_61 Z_impl_MemOk_61 x = stx_impl_MemOk_61 x := by kernel_rfl
noncomputable def fu_impl_MemOk_61 (x : (S_impl_MemOk_61).X) : Nat := (fun (u0 : List Int) (u1 : Int) (u2 : List (List Int)) (u3 : List dW) (u4 : Bool) (u5 : List Int) => 18446744073709551616) x.1.2.1.1 x.1.2.2.1.1 x.2.1.1.1 x.2.1.1.2.1 x.2.1.1.2.2.1 x.2.1.1.2.2.2.1
noncomputable def F_impl_MemOk_61 (x : (S_impl_MemOk_61).X) : Option ((O_impl_MemOk_61).X ⊕ (Z_impl_MemOk_61).X) := loopN stx_impl_MemOk_61 (fu_impl_MemOk_61 x) (em_impl_MemOk_61 x)
noncomputable def sg_impl_MemOk_61 : Seg := ⟨S_impl_MemOk_61, O_impl_MemOk_61, Z_impl_MemOk_61, F_impl_MemOk_61⟩
noncomputable def D_impl_MemOk_3 : Nat → Option Seg := fun q => bif Nat.beq q 61 then some sg_impl_MemOk_61 else D_impl_MemOk_2 q
theorem fr_impl_MemOk_3 : FrOk Try.prog ⟨E_impl_MemOk, 76, D_impl_MemOk_3⟩ B_impl_MemOk := (fr_impl_MemOk_2).loop (sg := sg_impl_MemOk_61) L_impl_MemOk_61 em_impl_MemOk_61 (by decide) a_impl_MemOk_61 stx_impl_MemOk_61 fu_impl_MemOk_61 (by decide) (fun _ => rfl) (fun x r _ h => h) r_impl_MemOk_61
abbrev I_impl_MemOk : List Par := [.rd tM]
abbrev U_impl_MemOk : List OT := [⟨false, tB, .fz⟩]
noncomputable def raw_impl_MemOk (a0 : dM) : Option (ResD U_impl_MemOk × MutD I_impl_MemOk) :=
  segM (F_impl_MemOk_13 ((((), ()), (a0.1, ()), ((a0.1.length : Int), ()), ((), ()), ()), ((a0.1, a0.2.1, a0.2.2.1, a0.2.2.2, ()), ()), ())) (fun y2 =>
    segM (F_impl_MemOk_29 ((((), ()), (y2.2.1.1.2.1, ()), ((y2.2.1.1.2.1.length : Int), ()), ((), ()), ()), ((y2.2.1.1.1, y2.2.1.1.2.1, y2.2.1.1.2.2.1, y2.2.1.1.2.2.2.1, ()), ()), ())) (fun y7 =>
      segM (F_impl_MemOk_61 ((((), ()), (y7.2.1.1.2.2.2.1, ()), ((y7.2.1.1.2.2.2.1.length : Int), ()), ((), ()), ()), ((y7.2.1.1.1, y7.2.1.1.2.1, y7.2.1.1.2.2.1, y7.2.1.1.2.2.2.1, ()), ()), ())) (fun y10 =>
        let r12 := n_impl_within (y10.2.1.1.1.length : Int) 1 20
        bif r12 then
          some (((leb (y10.2.1.1.2.1.length : Int) 60), ()), ())
        else
          some ((false, ()), ())) (fun y10 =>
        some ((y10.1.1.1, ()), ()))) (fun y7 =>
      some ((y7.1.1.1, ()), ()))) (fun y2 =>
    some ((y2.1.1.1, ()), ()))
theorem e_impl_MemOk (x : InD I_impl_MemOk) : execF ⟨E_impl_MemOk, 76, D_impl_MemOk_3⟩ Try.f128.results.toList B_impl_MemOk I_impl_MemOk U_impl_MemOk x = raw_impl_MemOk x.1 := by kernel_rfl
theorem ok0_impl_MemOk : ConOk Try.prog 128 ⟨I_impl_MemOk, U_impl_MemOk, fun x => raw_impl_MemOk x.1⟩ := conOk_exec (fr_impl_MemOk_3) Try.func128 (by kernel_rfl) (by kernel_rfl) Try.ntmps128.symm (by decide) (fun x r h => (e_impl_MemOk x).trans h)
noncomputable def n_impl_MemOk (a0 : dM) : Bool := memOk a0
theorem nn_impl_MemOk (a0 : dM) (hk : InOk I_impl_MemOk (a0, ())) : raw_impl_MemOk a0 = (fun n => some ((n, ()), ())) (n_impl_MemOk a0) := by
  have hb1 : a0.1.length * 24 ≤ 2 ^ 47 := hk.1.1.1
  have hb2 : a0.2.1.length * 32 ≤ 2 ^ 47 := hk.1.2.1.1
  have hb3 : a0.2.2.2.length * 8 ≤ 2 ^ 47 := hk.1.2.2.2.1
  have h1 : F_impl_MemOk_13 (ms_impl_MemOk_13 a0.1 a0.1.length a0) = some (bif a0.1.all secOk then .inl (mo_impl_MemOk_13 a0) else .inr (mz_impl_MemOk_13 false)) :=
    loopN_list_all (step := stx_impl_MemOk_13) a0.1 [] (fun i => mk_impl_MemOk_13 a0.1 a0.1.length i a0) secOk _ _ (fun i hi => by
      simp only [stx_impl_MemOk_13, mk_impl_MemOk_13, st_impl_MemOk_13, ltb_t (show (i : Int) < a0.1.length by omega), cond_true, wr (show -9223372036854775808 ≤ (i : Int) + 1 by omega) (by omega), Int.natCast_add, Int.natCast_one, Int.toNat_natCast, inb_nat hi, nth_nat, impl_sec_eq]
      cases secOk (a0.1.getD i []) <;> rfl) (by simp only [stx_impl_MemOk_13, mk_impl_MemOk_13, st_impl_MemOk_13, ltb_f (Int.le_refl _), cond_false]) _ (by show _ < 18446744073709551616; omega)
  have h2 : F_impl_MemOk_29 (ms_impl_MemOk_29 a0.2.1 a0.2.1.length a0) = some (bif a0.2.1.all (wrOk a0.1.length) then .inl (mo_impl_MemOk_29 a0) else .inr (mz_impl_MemOk_29 false)) :=
    loopN_list_all (step := stx_impl_MemOk_29) a0.2.1 (0, []) (fun i => mk_impl_MemOk_29 a0.2.1 a0.2.1.length i a0) (wrOk a0.1.length) _ _ (fun i hi => by
      simp only [stx_impl_MemOk_29, mk_impl_MemOk_29, st_impl_MemOk_29, ltb_t (show (i : Int) < a0.2.1.length by omega), cond_true, wr (show -9223372036854775808 ≤ (i : Int) + 1 by omega) (by omega), Int.natCast_add, Int.natCast_one, Int.toNat_natCast, inb_nat hi, nth_nat, impl_sec_eq, n_impl_hasSec, impl_in_eq, in_len (show a0.1.length ≤ 1152921504606846976 by omega), wrOk]
      cases inb (a0.2.1.getD i (0, [])).1 a0.1.length <;> cases secOk (a0.2.1.getD i (0, [])).2 <;> rfl) (by simp only [stx_impl_MemOk_29, mk_impl_MemOk_29, st_impl_MemOk_29, ltb_f (Int.le_refl _), cond_false]) _ (by show _ < 18446744073709551616; omega)
  have h3 : F_impl_MemOk_61 (ms_impl_MemOk_61 a0.2.2.2 a0.2.2.2.length a0) = some (bif (List.range a0.2.2.2.length).any (badAt a0.1.length a0.2.2.2) then .inr (mz_impl_MemOk_61 false) else .inl (mo_impl_MemOk_61 a0)) :=
    loopN_all (step := stx_impl_MemOk_61) (fun i => mk_impl_MemOk_61 a0.2.2.2 a0.2.2.2.length i a0) a0.2.2.2.length (badAt a0.1.length a0.2.2.2) _ _ (fun i hi => by
      simp only [stx_impl_MemOk_61, mk_impl_MemOk_61, st_impl_MemOk_61, ltb_t (show (i : Int) < a0.2.2.2.length by omega), cond_true, wr (show -9223372036854775808 ≤ (i : Int) + 1 by omega) (by omega), Int.natCast_add, Int.natCast_one, Int.toNat_natCast, inb_nat hi, nth_nat, n_impl_hasSec, impl_in_eq, in_len (show a0.1.length ≤ 1152921504606846976 by omega), badAt]
      rcases Nat.eq_zero_or_pos i with rfl | h0
      · cases inb (a0.2.2.2.getD 0 0) a0.1.length <;> rfl
      · rw [show IntKind.i64.wrap ((i : Int) - 1) = ((i - 1 : Nat) : Int) by rw [wr (by omega) (by omega)]; omega, inb_nat (show i - 1 < a0.2.2.2.length by omega), nth_nat, ltb_t (show (0 : Int) < i by omega), decide_eq_true h0]
        cases inb (a0.2.2.2.getD i 0) a0.1.length <;> cases leb (a0.2.2.2.getD i 0) (a0.2.2.2.getD (i - 1) 0) <;> rfl) (by simp only [stx_impl_MemOk_61, mk_impl_MemOk_61, st_impl_MemOk_61, ltb_f (Int.le_refl _), cond_false]) _ (by show _ < 18446744073709551616; omega)
  unfold raw_impl_MemOk n_impl_MemOk memOk
  rw [h1]
  cases a0.1.all secOk
  · rfl
  simp only [cond_true, segM_inl, h2]
  cases a0.2.1.all (wrOk a0.1.length)
  · rfl
  simp only [cond_true, segM_inl, h3, badAt_any, impl_in_eq, in_eq]
  cases badOk a0.1.length a0.2.2.2
  · rfl
  simp only [Bool.not_true, cond_false, segM_inl]
  cases leb 1 (a0.1.length : Int) <;> cases leb (a0.1.length : Int) 20 <;> rfl
noncomputable def con_impl_MemOk : Con := ⟨I_impl_MemOk, U_impl_MemOk, fun x => (fun n => some ((n, ()), ())) (n_impl_MemOk x.1)⟩
theorem ok_impl_MemOk : ConOk Try.prog 128 con_impl_MemOk := (ok0_impl_MemOk).mono (fun x r hk h => (nn_impl_MemOk x.1 hk).trans h)
end

/-! impl_copyMem -/
section
noncomputable def B_impl_copyMem : Code := (Try.f136.body).getD .skip
noncomputable def E_impl_copyMem : Env := envOf TT [(97, con_impl_copyInts)] []
theorem fr_impl_copyMem_0 : FrOk Try.prog ⟨E_impl_copyMem, 49, fun _ => none⟩ B_impl_copyMem := frOk_base mixed tt_ok ⟨ok_impl_copyInts, trivial⟩
noncomputable def D_impl_copyMem_0 : Nat → Option Seg := fun _ => none
def L_impl_copyMem_29 : Shape := ⟨[(1, false, [.ptr 0 0]), (2, false, [.ptr 64 0]), (3, false, [.ptr 4480 0]), (15, false, [.br tL]), (16, false, [.int .i64]), (17, false, [.int .i64])], [(0, [.br tL, .br tW, .bool, .br tI]), (64, [.nil, .nil, .bool, .nil]), (4480, [.at 800000001, .nil, .bool, .at 800000000])], [(800000001, tL, (.ow .fz)), (800000000, tI, .fz)]⟩
def S_impl_copyMem_29 : Shape := ⟨[(1, false, [.ptr 0 0]), (2, false, [.ptr 64 0]), (3, false, [.ptr 4480 0]), (15, false, [.br tL]), (16, false, [.int .i64]), (17, false, [.ci .i64 0])], [(0, [.br tL, .br tW, .bool, .br tI]), (64, [.nil, .nil, .bool, .nil]), (4480, [.at 800000001, .nil, .bool, .at 800000000])], [(800000001, tL, (.ow .fz)), (800000000, tI, .fz)]⟩
def O_impl_copyMem_29 : Shape := ⟨[(1, false, [.ptr 0 0]), (2, false, [.ptr 64 0]), (3, false, [.ptr 4480 0])], [(0, [.br tL, .br tW, .bool, .br tI]), (64, [.nil, .nil, .bool, .nil]), (4480, [.at 800000000, .nil, .bool, .at 800000001])], [(800000000, tL, (.ow .fz)), (800000001, tI, .fz)]⟩
def Z_impl_copyMem_29 : Shape := ⟨[], [], []⟩
abbrev mk_impl_copyMem_29 (v0 : List (List Int)) (v1 : Int) (v2 : Int) (v3 : dM) (v4 : dM) (v5 : dM) : (L_impl_copyMem_29).X := ((((), ()), ((), ()), ((), ()), (v0, ()), (v1, ()), (v2, ()), ()), ((v3.1, v3.2.1, v3.2.2.1, v3.2.2.2, ()), ((), (), v4.2.2.1, (), ()), ((), (), v5.2.2.1, (), ()), ()), (v5.1, v5.2.2.2, ()))
abbrev ms_impl_copyMem_29 (v0 : List (List Int)) (v1 : Int) (v2 : dM) (v3 : dM) (v4 : dM) : (S_impl_copyMem_29).X := ((((), ()), ((), ()), ((), ()), (v0, ()), (v1, ()), ((), ()), ()), ((v2.1, v2.2.1, v2.2.2.1, v2.2.2.2, ()), ((), (), v3.2.2.1, (), ()), ((), (), v4.2.2.1, (), ()), ()), (v4.1, v4.2.2.2, ()))
abbrev mo_impl_copyMem_29 (v0 : dM) (v1 : dM) (v2 : dM) : (O_impl_copyMem_29).X := ((((), ()), ((), ()), ((), ()), ()), ((v0.1, v0.2.1, v0.2.2.1, v0.2.2.2, ()), ((), (), v1.2.2.1, (), ()), ((), (), v2.2.2.1, (), ()), ()), (v2.1, v2.2.2.2, ()))
noncomputable def st_impl_copyMem_29 (v0 : List (List Int)) (v1 : Int) (v2 : Int) (v3 : List (List Int)) (v4 : List dW) (v5 : Bool) (v6 : List Int) (v7 : Bool) (v8 : Bool) (v9 : List (List Int)) (v10 : List Int) : Option ((L_impl_copyMem_29).X ⊕ ((O_impl_copyMem_29).X ⊕ (Z_impl_copyMem_29).X)) :=
  bif (ltb v2 v1) then
    bif (inb v2 v0.length) then
      let r4 := n_impl_copyInts (nth v0 v2 [])
      bif (apok v9.length ([r4] : List (List Int)).length 24) then
        some (.inl ((((), ()), ((), ()), ((), ()), (v0, ()), (v1, ()), ((IntKind.i64.wrap (v2 + 1)), ()), ()), ((v3, v4, v5, v6, ()), ((), (), v7, (), ()), ((), (), v8, (), ()), ()), ((v9 ++ ([r4] : List (List Int))), v10, ())))
      else none
    else none
  else
    some (.inr (.inl ((((), ()), ((), ()), ((), ()), ()), ((v3, v4, v5, v6, ()), ((), (), v7, (), ()), ((), (), v8, (), ()), ()), (v9, v10, ()))))
noncomputable def stx_impl_copyMem_29 (x : (L_impl_copyMem_29).X) := st_impl_copyMem_29 x.1.2.2.2.1.1 x.1.2.2.2.2.1.1 x.1.2.2.2.2.2.1.1 x.2.1.1.1 x.2.1.1.2.1 x.2.1.1.2.2.1 x.2.1.1.2.2.2.1 x.2.1.2.1.2.2.1 x.2.1.2.2.1.2.2.1 x.2.2.1 x.2.2.2.1
def em_impl_copyMem_29 (x : (S_impl_copyMem_29).X) : (L_impl_copyMem_29).X := ((((), ()), ((), ()), ((), ()), (x.1.2.2.2.1.1, ()), (x.1.2.2.2.2.1.1, ()), (0, ()), ()), ((x.2.1.1.1, x.2.1.1.2.1, x.2.1.1.2.2.1, x.2.1.1.2.2.2.1, ()), ((), (), x.2.1.2.1.2.2.1, (), ()), ((), (), x.2.1.2.2.1.2.2.1, (), ()), ()), (x.2.2.1, x.2.2.2.1, ()))
noncomputable def c_impl_copyMem_29 : Code := (subN B_impl_copyMem 64 116).getD .skip
theorem a_impl_copyMem_29 : subN B_impl_copyMem 64 29 = some (.block 0 (.loop c_impl_copyMem_29)) := by kernel_rfl
theorem r_impl_copyMem_29 (x : (L_impl_copyMem_29).X) : roundT ⟨E_impl_copyMem, 49, D_impl_copyMem_0⟩ 0 c_impl_copyMem_29 116 L_impl_copyMem_29 O_impl_copyMem_29 Z_impl_copyMem_29 x = stx_impl_copyMem_29 x := by kernel_rfl
noncomputable def fu_impl_copyMem_29 (x : (S_impl_copyMem_29).X) : Nat := (fun (u0 : List (List Int)) (u1 : Int) (u2 : List (List Int)) (u3 : List dW) (u4 : Bool) (u5 : List Int) (u6 : Bool) (u7 : Bool) (u8 : List (List Int)) (u9 : List Int) => 18446744073709551616) x.1.2.2.2.1.1 x.1.2.2.2.2.1.1 x.2.1.1.1 x.2.1.1.2.1 x.2.1.1.2.2.1 x.2.1.1.2.2.2.1 x.2.1.2.1.2.2.1 x.2.1.2.2.1.2.2.1 x.2.2.1 x.2.2.2.1
noncomputable def F_impl_copyMem_29 (x : (S_impl_copyMem_29).X) : Option ((O_impl_copyMem_29).X ⊕ (Z_impl_copyMem_29).X) := loopN stx_impl_copyMem_29 (fu_impl_copyMem_29 x) (em_impl_copyMem_29 x)
noncomputable def sg_impl_copyMem_29 : Seg := ⟨S_impl_copyMem_29, O_impl_copyMem_29, Z_impl_copyMem_29, F_impl_copyMem_29⟩
noncomputable def D_impl_copyMem_1 : Nat → Option Seg := fun q => bif Nat.beq q 29 then some sg_impl_copyMem_29 else D_impl_copyMem_0 q
theorem fr_impl_copyMem_1 : FrOk Try.prog ⟨E_impl_copyMem, 49, D_impl_copyMem_1⟩ B_impl_copyMem := (fr_impl_copyMem_0).loop (sg := sg_impl_copyMem_29) L_impl_copyMem_29 em_impl_copyMem_29 (by decide) a_impl_copyMem_29 stx_impl_copyMem_29 fu_impl_copyMem_29 (by decide) (fun _ => rfl) (fun x r _ h => h) r_impl_copyMem_29
def L_impl_copyMem_61 : Shape := ⟨[(2, false, [.ptr 64 0]), (3, false, [.ptr 4480 0]), (30, false, [.br tW]), (31, false, [.int .i64]), (32, false, [.int .i64])], [(64, [.nil, .nil, .bool, .nil]), (4480, [.at 800000000, .at 800000002, .bool, .at 800000001])], [(800000000, tL, (.ow .fz)), (800000002, tW, (.pr .fz (.ow .fz))), (800000001, tI, .fz)]⟩
def S_impl_copyMem_61 : Shape := ⟨[(2, false, [.ptr 64 0]), (3, false, [.ptr 4480 0]), (30, false, [.br tW]), (31, false, [.int .i64]), (32, false, [.ci .i64 0])], [(64, [.nil, .nil, .bool, .nil]), (4480, [.at 800000000, .at 800000002, .bool, .at 800000001])], [(800000000, tL, (.ow .fz)), (800000002, tW, (.pr .fz (.ow .fz))), (800000001, tI, .fz)]⟩
def O_impl_copyMem_61 : Shape := ⟨[(2, false, [.ptr 64 0]), (3, false, [.ptr 4480 0])], [(64, [.nil, .nil, .bool, .nil]), (4480, [.at 800000000, .at 800000001, .bool, .at 800000002])], [(800000000, tL, (.ow .fz)), (800000001, tW, (.pr .fz (.ow .fz))), (800000002, tI, .fz)]⟩
def Z_impl_copyMem_61 : Shape := ⟨[], [], []⟩
abbrev mk_impl_copyMem_61 (v0 : List dW) (v1 : Int) (v2 : Int) (v3 : dM) (v4 : dM) : (L_impl_copyMem_61).X := ((((), ()), ((), ()), (v0, ()), (v1, ()), (v2, ()), ()), (((), (), v3.2.2.1, (), ()), ((), (), v4.2.2.1, (), ()), ()), (v4.1, v4.2.1, v4.2.2.2, ()))
abbrev ms_impl_copyMem_61 (v0 : List dW) (v1 : Int) (v2 : dM) (v3 : dM) : (S_impl_copyMem_61).X := ((((), ()), ((), ()), (v0, ()), (v1, ()), ((), ()), ()), (((), (), v2.2.2.1, (), ()), ((), (), v3.2.2.1, (), ()), ()), (v3.1, v3.2.1, v3.2.2.2, ()))
abbrev mo_impl_copyMem_61 (v0 : dM) (v1 : dM) : (O_impl_copyMem_61).X := ((((), ()), ((), ()), ()), (((), (), v0.2.2.1, (), ()), ((), (), v1.2.2.1, (), ()), ()), (v1.1, v1.2.1, v1.2.2.2, ()))
noncomputable def st_impl_copyMem_61 (v0 : List dW) (v1 : Int) (v2 : Int) (v3 : Bool) (v4 : Bool) (v5 : List (List Int)) (v6 : List dW) (v7 : List Int) : Option ((L_impl_copyMem_61).X ⊕ ((O_impl_copyMem_61).X ⊕ (Z_impl_copyMem_61).X)) :=
  bif (ltb v2 v1) then
    bif (inb v2 v0.length) then
      let r8 := n_impl_copyInts ((nth v0 v2 (0, [])).2)
      bif (apok v6.length ([((nth v0 v2 (0, [])).1, r8)] : List dW).length 32) then
        some (.inl ((((), ()), ((), ()), (v0, ()), (v1, ()), ((IntKind.i64.wrap (v2 + 1)), ()), ()), (((), (), v3, (), ()), ((), (), v4, (), ()), ()), (v5, (v6 ++ ([((nth v0 v2 (0, [])).1, r8)] : List dW)), v7, ())))
      else none
    else none
  else
    some (.inr (.inl ((((), ()), ((), ()), ()), (((), (), v3, (), ()), ((), (), v4, (), ()), ()), (v5, v6, v7, ()))))
noncomputable def stx_impl_copyMem_61 (x : (L_impl_copyMem_61).X) := st_impl_copyMem_61 x.1.2.2.1.1 x.1.2.2.2.1.1 x.1.2.2.2.2.1.1 x.2.1.1.2.2.1 x.2.1.2.1.2.2.1 x.2.2.1 x.2.2.2.1 x.2.2.2.2.1
def em_impl_copyMem_61 (x : (S_impl_copyMem_61).X) : (L_impl_copyMem_61).X := ((((), ()), ((), ()), (x.1.2.2.1.1, ()), (x.1.2.2.2.1.1, ()), (0, ()), ()), (((), (), x.2.1.1.2.2.1, (), ()), ((), (), x.2.1.2.1.2.2.1, (), ()), ()), (x.2.2.1, x.2.2.2.1, x.2.2.2.2.1, ()))
noncomputable def c_impl_copyMem_61 : Code := (subN B_impl_copyMem 64 244).getD .skip
theorem a_impl_copyMem_61 : subN B_impl_copyMem 64 61 = some (.block 2 (.loop c_impl_copyMem_61)) := by kernel_rfl
theorem r_impl_copyMem_61 (x : (L_impl_copyMem_61).X) : roundT ⟨E_impl_copyMem, 49, D_impl_copyMem_1⟩ 2 c_impl_copyMem_61 244 L_impl_copyMem_61 O_impl_copyMem_61 Z_impl_copyMem_61 x = stx_impl_copyMem_61 x := by kernel_rfl
noncomputable def fu_impl_copyMem_61 (x : (S_impl_copyMem_61).X) : Nat := (fun (u0 : List dW) (u1 : Int) (u2 : Bool) (u3 : Bool) (u4 : List (List Int)) (u5 : List dW) (u6 : List Int) => 18446744073709551616) x.1.2.2.1.1 x.1.2.2.2.1.1 x.2.1.1.2.2.1 x.2.1.2.1.2.2.1 x.2.2.1 x.2.2.2.1 x.2.2.2.2.1
noncomputable def F_impl_copyMem_61 (x : (S_impl_copyMem_61).X) : Option ((O_impl_copyMem_61).X ⊕ (Z_impl_copyMem_61).X) := loopN stx_impl_copyMem_61 (fu_impl_copyMem_61 x) (em_impl_copyMem_61 x)
noncomputable def sg_impl_copyMem_61 : Seg := ⟨S_impl_copyMem_61, O_impl_copyMem_61, Z_impl_copyMem_61, F_impl_copyMem_61⟩
noncomputable def D_impl_copyMem_2 : Nat → Option Seg := fun q => bif Nat.beq q 61 then some sg_impl_copyMem_61 else D_impl_copyMem_1 q
theorem fr_impl_copyMem_2 : FrOk Try.prog ⟨E_impl_copyMem, 49, D_impl_copyMem_2⟩ B_impl_copyMem := (fr_impl_copyMem_1).loop (sg := sg_impl_copyMem_61) L_impl_copyMem_61 em_impl_copyMem_61 (by decide) a_impl_copyMem_61 stx_impl_copyMem_61 fu_impl_copyMem_61 (by decide) (fun _ => rfl) (fun x r _ h => h) r_impl_copyMem_61
abbrev I_impl_copyMem : List Par := [.rd tM]
abbrev U_impl_copyMem : List OT := [⟨false, tM, (.pr (.ow (.ow .fz)) (.pr (.ow (.pr .fz (.ow .fz))) (.pr .fz (.ow .fz))))⟩]
noncomputable def raw_impl_copyMem (a0 : dM) : Option (ResD U_impl_copyMem × MutD I_impl_copyMem) :=
  let r1 := n_impl_copyInts a0.2.2.2
  segM (F_impl_copyMem_29 ((((), ()), ((), ()), ((), ()), (a0.1, ()), ((a0.1.length : Int), ()), ((), ()), ()), ((a0.1, a0.2.1, a0.2.2.1, a0.2.2.2, ()), ((), (), false, (), ()), ((), (), a0.2.2.1, (), ()), ()), ([], r1, ()))) (fun y4 =>
    segM (F_impl_copyMem_61 ((((), ()), ((), ()), (y4.2.1.1.2.1, ()), ((y4.2.1.1.2.1.length : Int), ()), ((), ()), ()), (((), (), y4.2.1.2.1.2.2.1, (), ()), ((), (), y4.2.1.2.2.1.2.2.1, (), ()), ()), (y4.2.2.1, [], y4.2.2.2.1, ()))) (fun y8 =>
      some (((y8.2.2.1, y8.2.2.2.1, y8.2.1.2.1.2.2.1, y8.2.2.2.2.1), ()), ())) (fun y8 =>
      none)) (fun y4 =>
    none)
theorem e_impl_copyMem (x : InD I_impl_copyMem) : execF ⟨E_impl_copyMem, 49, D_impl_copyMem_2⟩ Try.f136.results.toList B_impl_copyMem I_impl_copyMem U_impl_copyMem x = raw_impl_copyMem x.1 := by kernel_rfl
theorem ok0_impl_copyMem : ConOk Try.prog 136 ⟨I_impl_copyMem, U_impl_copyMem, fun x => raw_impl_copyMem x.1⟩ := conOk_exec (fr_impl_copyMem_2) Try.func136 (by kernel_rfl) (by kernel_rfl) Try.ntmps136.symm (by decide) (fun x r h => (e_impl_copyMem x).trans h)
noncomputable def n_impl_copyMem (a0 : dM) : dM := a0
theorem nn_impl_copyMem (a0 : dM) (hk : InOk I_impl_copyMem (a0, ())) : raw_impl_copyMem a0 = (fun n => some ((n, ()), ())) (n_impl_copyMem a0) := by
  have hb1 : a0.1.length * 24 ≤ 2 ^ 47 := hk.1.1.1
  have hb2 : a0.2.1.length * 32 ≤ 2 ^ 47 := hk.1.2.1.1
  have h1 : F_impl_copyMem_29 (ms_impl_copyMem_29 a0.1 a0.1.length a0 noMem ([], [], a0.2.2.1, a0.2.2.2)) = some (.inl (mo_impl_copyMem_29 a0 noMem (a0.1, [], a0.2.2.1, a0.2.2.2))) := by
    have := loopN_fold (step := stx_impl_copyMem_29) a0.1 [] (fun i s => mk_impl_copyMem_29 a0.1 a0.1.length i a0 noMem (s, [], a0.2.2.1, a0.2.2.2)) (fun s x => s ++ [x]) (fun i s => s.length = i) (fun s => .inl (mo_impl_copyMem_29 a0 noMem (s, [], a0.2.2.1, a0.2.2.2))) (fun i s hi hs2 => ⟨by
      simp only [stx_impl_copyMem_29, mk_impl_copyMem_29, st_impl_copyMem_29, ltb_t (show (i : Int) < a0.1.length by omega), cond_true, wr (show -9223372036854775808 ≤ (i : Int) + 1 by omega) (by omega), Int.natCast_add, Int.natCast_one, Int.toNat_natCast, inb_nat hi, nth_nat, n_impl_copyInts]
      rw [apok_iff.2 (show (s.length + [a0.1.getD i []].length) * 24 ≤ 140737488355328 by simp only [List.length_cons, List.length_nil]; omega)]; rfl, by simp [hs2]⟩) (fun s _ => by simp only [stx_impl_copyMem_29, mk_impl_copyMem_29, st_impl_copyMem_29, ltb_f (Int.le_refl _), cond_false]) [] rfl 18446744073709551616 (by omega)
    rw [foldl_id] at this
    exact this
  have h2 : F_impl_copyMem_61 (ms_impl_copyMem_61 a0.2.1 a0.2.1.length noMem (a0.1, [], a0.2.2.1, a0.2.2.2)) = some (.inl (mo_impl_copyMem_61 noMem a0)) := by
    have := loopN_fold (step := stx_impl_copyMem_61) a0.2.1 (0, []) (fun i s => mk_impl_copyMem_61 a0.2.1 a0.2.1.length i noMem (a0.1, s, a0.2.2.1, a0.2.2.2)) (fun s x => s ++ [x]) (fun i s => s.length = i) (fun s => .inl (mo_impl_copyMem_61 noMem (a0.1, s, a0.2.2.1, a0.2.2.2))) (fun i s hi hs2 => ⟨by
      simp only [stx_impl_copyMem_61, mk_impl_copyMem_61, st_impl_copyMem_61, ltb_t (show (i : Int) < a0.2.1.length by omega), cond_true, wr (show -9223372036854775808 ≤ (i : Int) + 1 by omega) (by omega), Int.natCast_add, Int.natCast_one, Int.toNat_natCast, inb_nat hi, nth_nat, n_impl_copyInts, pr_eta]
      rw [apok_iff.2 (show (s.length + [a0.2.1.getD i (0, [])].length) * 32 ≤ 140737488355328 by simp only [List.length_cons, List.length_nil]; omega)]; rfl, by simp [hs2]⟩) (fun s _ => by simp only [stx_impl_copyMem_61, mk_impl_copyMem_61, st_impl_copyMem_61, ltb_f (Int.le_refl _), cond_false]) [] rfl 18446744073709551616 (by omega)
    rw [foldl_id] at this
    exact this
  unfold raw_impl_copyMem n_impl_copyMem
  simp only [n_impl_copyInts, h1, segM_inl, h2]
noncomputable def con_impl_copyMem : Con := ⟨I_impl_copyMem, U_impl_copyMem, fun x => (fun n => some ((n, ()), ())) (n_impl_copyMem x.1)⟩
theorem ok_impl_copyMem : ConOk Try.prog 136 con_impl_copyMem := (ok0_impl_copyMem).mono (fun x r hk h => (nn_impl_copyMem x.1 hk).trans h)
end

/-! impl_FallMem -/
section
noncomputable def B_impl_FallMem : Code := (Try.f74.body).getD .skip
noncomputable def E_impl_FallMem : Env := envOf TT [(97, con_impl_copyInts), (125, con_impl_within), (128, con_impl_MemOk), (136, con_impl_copyMem)] []
theorem fr_impl_FallMem_0 : FrOk Try.prog ⟨E_impl_FallMem, 45, fun _ => none⟩ B_impl_FallMem := frOk_base mixed tt_ok ⟨ok_impl_copyInts, ok_impl_within, ok_impl_MemOk, ok_impl_copyMem, trivial⟩
noncomputable def D_impl_FallMem_0 : Nat → Option Seg := fun _ => none
def L_impl_FallMem_125 : Shape := ⟨[(1, false, [.int .i64]), (4, false, [.ptr 64 0]), (5, false, [.ptr 4224 0]), (18, false, [.br tW]), (19, false, [.int .i64]), (20, false, [.int .i64])], [(64, [.nil, .nil, .bool, .nil]), (4224, [.at 800000000, .at 800000001, .bool, .at 800000002])], [(800000000, tL, (.ow .fz)), (800000001, tW, (.pr .fz (.ow .fz))), (800000002, tI, .fz)]⟩
def S_impl_FallMem_125 : Shape := ⟨[(1, false, [.int .i64]), (4, false, [.ptr 64 0]), (5, false, [.ptr 4224 0]), (18, false, [.br tW]), (19, false, [.int .i64]), (20, false, [.int .i64])], [(64, [.nil, .nil, .bool, .nil]), (4224, [.at 800000000, .at 800000001, .bool, .at 800000002])], [(800000000, tL, (.ow .fz)), (800000001, tW, (.pr .fz (.ow .fz))), (800000002, tI, .fz)]⟩
def O_impl_FallMem_125 : Shape := ⟨[(4, false, [.ptr 64 0]), (5, false, [.ptr 4224 0])], [(64, [.nil, .nil, .bool, .nil]), (4224, [.at 800000000, .at 800000001, .bool, .at 800000002])], [(800000000, tL, (.ow .fz)), (800000001, tW, (.pr .fz (.ow .fz))), (800000002, tI, .fz)]⟩
def Z_impl_FallMem_125 : Shape := ⟨[], [], []⟩
abbrev mk_impl_FallMem_125 (v0 : Int) (v1 : List dW) (v2 : Int) (v3 : Int) (v4 : dM) (v5 : dM) : (L_impl_FallMem_125).X := (((v0, ()), ((), ()), ((), ()), (v1, ()), (v2, ()), (v3, ()), ()), (((), (), v4.2.2.1, (), ()), ((), (), v5.2.2.1, (), ()), ()), (v5.1, v5.2.1, v5.2.2.2, ()))
abbrev ms_impl_FallMem_125 (v0 : Int) (v1 : List dW) (v2 : Int) (v3 : Int) (v4 : dM) (v5 : dM) : (S_impl_FallMem_125).X := (((v0, ()), ((), ()), ((), ()), (v1, ()), (v2, ()), (v3, ()), ()), (((), (), v4.2.2.1, (), ()), ((), (), v5.2.2.1, (), ()), ()), (v5.1, v5.2.1, v5.2.2.2, ()))
abbrev mo_impl_FallMem_125 (v0 : dM) (v1 : dM) : (O_impl_FallMem_125).X := ((((), ()), ((), ()), ()), (((), (), v0.2.2.1, (), ()), ((), (), v1.2.2.1, (), ()), ()), (v1.1, v1.2.1, v1.2.2.2, ()))
noncomputable def st_impl_FallMem_125 (v0 : Int) (v1 : List dW) (v2 : Int) (v3 : Int) (v4 : Bool) (v5 : Bool) (v6 : List (List Int)) (v7 : List dW) (v8 : List Int) : Option ((L_impl_FallMem_125).X ⊕ ((O_impl_FallMem_125).X ⊕ (Z_impl_FallMem_125).X)) :=
  bif (ltb v3 v2) then
    bif (inb v3 v1.length) then
      bif (ltb v3 20) then
        bif (leb 0 v3) then
          bif ((IntKind.i64.wrap ((BitVec.ofInt IntKind.i64.bits (v0.fdiv (2 ^ (min (v3).toNat IntKind.i64.bits))) &&& BitVec.ofInt IntKind.i64.bits 1).toNat : Int)) == 1) then
            let r5 := n_impl_copyInts ((nth v1 v3 (0, [])).2)
            bif (inb ((nth v1 v3 (0, [])).1) v6.length) then
              some (.inl (((v0, ()), ((), ()), ((), ()), (v1, ()), (v2, ()), ((IntKind.i64.wrap (v3 + 1)), ()), ()), (((), (), v4, (), ()), ((), (), v5, (), ()), ()), ((v6.set ((nth v1 v3 (0, [])).1).toNat r5), v7, v8, ())))
            else none
          else
            some (.inl (((v0, ()), ((), ()), ((), ()), (v1, ()), (v2, ()), ((IntKind.i64.wrap (v3 + 1)), ()), ()), (((), (), v4, (), ()), ((), (), v5, (), ()), ()), (v6, v7, v8, ())))
        else none
      else
        some (.inl (((v0, ()), ((), ()), ((), ()), (v1, ()), (v2, ()), ((IntKind.i64.wrap (v3 + 1)), ()), ()), (((), (), v4, (), ()), ((), (), v5, (), ()), ()), (v6, v7, v8, ())))
    else none
  else
    some (.inr (.inl ((((), ()), ((), ()), ()), (((), (), v4, (), ()), ((), (), v5, (), ()), ()), (v6, v7, v8, ()))))
noncomputable def stx_impl_FallMem_125 (x : (L_impl_FallMem_125).X) := st_impl_FallMem_125 x.1.1.1 x.1.2.2.2.1.1 x.1.2.2.2.2.1.1 x.1.2.2.2.2.2.1.1 x.2.1.1.2.2.1 x.2.1.2.1.2.2.1 x.2.2.1 x.2.2.2.1 x.2.2.2.2.1
def em_impl_FallMem_125 (x : (S_impl_FallMem_125).X) : (L_impl_FallMem_125).X := (((x.1.1.1, ()), ((), ()), ((), ()), (x.1.2.2.2.1.1, ()), (x.1.2.2.2.2.1.1, ()), (x.1.2.2.2.2.2.1.1, ()), ()), (((), (), x.2.1.1.2.2.1, (), ()), ((), (), x.2.1.2.1.2.2.1, (), ()), ()), (x.2.2.1, x.2.2.2.1, x.2.2.2.2.1, ()))
noncomputable def c_impl_FallMem_125 : Code := (subN B_impl_FallMem 64 500).getD .skip
theorem a_impl_FallMem_125 : subN B_impl_FallMem 64 125 = some (.block 0 (.loop c_impl_FallMem_125)) := by kernel_rfl
theorem r_impl_FallMem_125 (x : (L_impl_FallMem_125).X) : roundT ⟨E_impl_FallMem, 45, D_impl_FallMem_0⟩ 0 c_impl_FallMem_125 500 L_impl_FallMem_125 O_impl_FallMem_125 Z_impl_FallMem_125 x = stx_impl_FallMem_125 x := by kernel_rfl
noncomputable def fu_impl_FallMem_125 (x : (S_impl_FallMem_125).X) : Nat := (fun (u0 : Int) (u1 : List dW) (u2 : Int) (u3 : Int) (u4 : Bool) (u5 : Bool) (u6 : List (List Int)) (u7 : List dW) (u8 : List Int) => 18446744073709551616) x.1.1.1 x.1.2.2.2.1.1 x.1.2.2.2.2.1.1 x.1.2.2.2.2.2.1.1 x.2.1.1.2.2.1 x.2.1.2.1.2.2.1 x.2.2.1 x.2.2.2.1 x.2.2.2.2.1
noncomputable def F_impl_FallMem_125 (x : (S_impl_FallMem_125).X) : Option ((O_impl_FallMem_125).X ⊕ (Z_impl_FallMem_125).X) := loopN stx_impl_FallMem_125 (fu_impl_FallMem_125 x) (em_impl_FallMem_125 x)
noncomputable def sg_impl_FallMem_125 : Seg := ⟨S_impl_FallMem_125, O_impl_FallMem_125, Z_impl_FallMem_125, F_impl_FallMem_125⟩
noncomputable def D_impl_FallMem_1 : Nat → Option Seg := fun q => bif Nat.beq q 125 then some sg_impl_FallMem_125 else D_impl_FallMem_0 q
theorem fr_impl_FallMem_1 : FrOk Try.prog ⟨E_impl_FallMem, 45, D_impl_FallMem_1⟩ B_impl_FallMem := (fr_impl_FallMem_0).loop (sg := sg_impl_FallMem_125) L_impl_FallMem_125 em_impl_FallMem_125 (by decide) a_impl_FallMem_125 stx_impl_FallMem_125 fu_impl_FallMem_125 (by decide) (fun _ => rfl) (fun x r _ h => h) r_impl_FallMem_125
abbrev I_impl_FallMem : List Par := [.rd tM, .rd tI]
abbrev U_impl_FallMem : List OT := [⟨false, tM, (.pr (.ow (.ow .fz)) (.pr (.ow (.pr .fz (.ow .fz))) (.pr .fz (.ow .fz))))⟩]
noncomputable def raw_impl_FallMem (a0 : dM) (a1 : Int) : Option (ResD U_impl_FallMem × MutD I_impl_FallMem) :=
  let r1 := n_impl_copyMem a0
  let r2 := n_impl_MemOk a0
  bif (!r2) then
    some ((r1, ()), ())
  else
    let r3 := n_impl_within a1 0 1048575
    bif (!r3) then
      segM (F_impl_FallMem_125 (((0, ()), ((), ()), ((), ()), (a0.2.1, ()), ((a0.2.1.length : Int), ()), (0, ()), ()), (((), (), false, (), ()), ((), (), r1.2.2.1, (), ()), ()), (r1.1, r1.2.1, r1.2.2.2, ()))) (fun y5 =>
        some (((y5.2.2.1, [], y5.2.1.2.1.2.2.1, y5.2.2.2.2.1), ()), ())) (fun y5 =>
        none)
    else
      segM (F_impl_FallMem_125 (((a1, ()), ((), ()), ((), ()), (a0.2.1, ()), ((a0.2.1.length : Int), ()), (0, ()), ()), (((), (), false, (), ()), ((), (), r1.2.2.1, (), ()), ()), (r1.1, r1.2.1, r1.2.2.2, ()))) (fun y6 =>
        some (((y6.2.2.1, [], y6.2.1.2.1.2.2.1, y6.2.2.2.2.1), ()), ())) (fun y6 =>
        none)
theorem e_impl_FallMem (x : InD I_impl_FallMem) : execF ⟨E_impl_FallMem, 45, D_impl_FallMem_1⟩ Try.f74.results.toList B_impl_FallMem I_impl_FallMem U_impl_FallMem x = raw_impl_FallMem x.1 x.2.1 := by kernel_rfl
theorem ok0_impl_FallMem : ConOk Try.prog 74 ⟨I_impl_FallMem, U_impl_FallMem, fun x => raw_impl_FallMem x.1 x.2.1⟩ := conOk_exec (fr_impl_FallMem_1) Try.func74 (by kernel_rfl) (by kernel_rfl) Try.ntmps74.symm (by decide) (fun x r h => (e_impl_FallMem x).trans h)
noncomputable def n_impl_FallMem (a0 : dM) (a1 : Int) : dM := fallMem a0 a1
theorem nn_impl_FallMem (a0 : dM) (a1 : Int) (hk : InOk I_impl_FallMem (a0, a1, ())) : raw_impl_FallMem a0 a1 = (fun n => some ((n, ()), ())) (n_impl_FallMem a0 a1) := by
  have hb2 : a0.2.1.length * 32 ≤ 2 ^ 47 := hk.1.2.1.1
  unfold raw_impl_FallMem n_impl_FallMem fallMem
  simp only [n_impl_copyMem, n_impl_MemOk, impl_in_eq, in_eq]
  cases hm : memOk a0
  · rfl
  have h1 : ∀ k, F_impl_FallMem_125 (ms_impl_FallMem_125 k a0.2.1 a0.2.1.length 0 noMem a0) = some (.inl (mo_impl_FallMem_125 noMem (layKept (fun i => decide (i < 20) && bitAt k i) a0.2.1 a0.1, a0.2))) := fun k =>
    loopN_rng (step := stx_impl_FallMem_125) a0.2.1.length (fun i s => mk_impl_FallMem_125 k a0.2.1 a0.2.1.length i noMem (s, a0.2)) (layOne (fun i => decide (i < 20) && bitAt k i) a0.2.1) (fun i s => s.length = a0.1.length) (fun s => .inl (mo_impl_FallMem_125 noMem (s, a0.2))) (fun i s hi hs => by
      have hw := (memOk_wr hm hi).1
      refine ⟨?_, layOne_len.trans hs⟩
      simp only [stx_impl_FallMem_125, mk_impl_FallMem_125, st_impl_FallMem_125, ltb_t (show (i : Int) < a0.2.1.length by omega), cond_true, wr (show -9223372036854775808 ≤ (i : Int) + 1 by omega) (by omega), Int.natCast_add, Int.natCast_one, Int.toNat_natCast, leb_t (show (0 : Int) ≤ i by omega), inb_nat hi, hs, hw, layOne, n_impl_copyInts]
      rw [show bitAt k i = (IntKind.i64.wrap ((BitVec.ofInt IntKind.i64.bits (k.fdiv (2 ^ (min i IntKind.i64.bits))) &&& BitVec.ofInt IntKind.i64.bits 1).toNat : Int) == 1) from rfl]
      by_cases h20 : i < 20
      · rw [ltb_t (show (i : Int) < 20 by omega), decide_eq_true h20]
        cases (IntKind.i64.wrap ((BitVec.ofInt IntKind.i64.bits (k.fdiv (2 ^ (min i IntKind.i64.bits))) &&& BitVec.ofInt IntKind.i64.bits 1).toNat : Int) == 1) <;> rfl
      · rw [ltb_f (show (20 : Int) ≤ i by omega), decide_eq_false h20]; rfl) (fun s hs => by simp only [stx_impl_FallMem_125, mk_impl_FallMem_125, st_impl_FallMem_125, ltb_f (Int.le_refl _), cond_false]) a0.1 rfl _ (by show _ < 18446744073709551616; omega)
  unfold keepOf
  rw [h1 0, h1 a1]
  cases (leb 0 a1 && leb a1 1048575) <;> rfl
noncomputable def con_impl_FallMem : Con := ⟨I_impl_FallMem, U_impl_FallMem, fun x => (fun n => some ((n, ()), ())) (n_impl_FallMem x.1 x.2.1)⟩
theorem ok_impl_FallMem : ConOk Try.prog 74 con_impl_FallMem := (ok0_impl_FallMem).mono (fun x r hk h => (nn_impl_FallMem x.1 x.2.1 hk).trans h)
end

/-! impl_Fall -/
section
noncomputable def B_impl_Fall : Code := (Try.f19.body).getD .skip
noncomputable def E_impl_Fall : Env := envOf TT [(74, con_impl_FallMem)] []
theorem fr_impl_Fall_0 : FrOk Try.prog ⟨E_impl_Fall, 33, fun _ => none⟩ B_impl_Fall := frOk_base mixed tt_ok ⟨ok_impl_FallMem, trivial⟩
noncomputable def D_impl_Fall_0 : Nat → Option Seg := fun _ => none
def L_impl_Fall_29 : Shape := ⟨[(1, false, [.br tI]), (5, false, [.at 800000000]), (10, false, [.br tM]), (11, false, [.int .i64]), (12, false, [.int .i64])], [], [(800000000, tM, (.pr (.ow (.ow .fz)) (.pr (.ow (.pr .fz (.ow .fz))) (.pr .fz (.ow .fz)))))]⟩
def S_impl_Fall_29 : Shape := ⟨[(1, false, [.br tI]), (5, false, [.at 800000000]), (10, false, [.br tM]), (11, false, [.int .i64]), (12, false, [.ci .i64 0])], [], [(800000000, tM, (.pr (.ow (.ow .fz)) (.pr (.ow (.pr .fz (.ow .fz))) (.pr .fz (.ow .fz)))))]⟩
def O_impl_Fall_29 : Shape := ⟨[(5, false, [.at 800000000])], [], [(800000000, tM, (.pr (.ow (.ow .fz)) (.pr (.ow (.pr .fz (.ow .fz))) (.pr .fz (.ow .fz)))))]⟩
def Z_impl_Fall_29 : Shape := ⟨[], [], []⟩
abbrev mk_impl_Fall_29 (v0 : List Int) (v1 : List dM) (v2 : Int) (v3 : Int) (v4 : List dM) : (L_impl_Fall_29).X := (((v0, ()), ((), ()), (v1, ()), (v2, ()), (v3, ()), ()), (), (v4, ()))
abbrev ms_impl_Fall_29 (v0 : List Int) (v1 : List dM) (v2 : Int) (v3 : List dM) : (S_impl_Fall_29).X := (((v0, ()), ((), ()), (v1, ()), (v2, ()), ((), ()), ()), (), (v3, ()))
abbrev mo_impl_Fall_29 (v0 : List dM) : (O_impl_Fall_29).X := ((((), ()), ()), (), (v0, ()))
noncomputable def st_impl_Fall_29 (v0 : List Int) (v1 : List dM) (v2 : Int) (v3 : Int) (v4 : List dM) : Option ((L_impl_Fall_29).X ⊕ ((O_impl_Fall_29).X ⊕ (Z_impl_Fall_29).X)) :=
  bif (ltb v3 v2) then
    bif (inb v3 v1.length) then
      bif (ltb v3 (v0.length : Int)) then
        bif (inb v3 v0.length) then
          let r3 := n_impl_FallMem ((nth v1 v3 ([], [], false, [])).1, ((nth v1 v3 ([], [], false, [])).2).1, (((nth v1 v3 ([], [], false, [])).2).2)) (nth v0 v3 0)
          bif (apok v4.length ([r3] : List dM).length 80) then
            some (.inl (((v0, ()), ((), ()), (v1, ()), (v2, ()), ((IntKind.i64.wrap (v3 + 1)), ()), ()), (), ((v4 ++ ([r3] : List dM)), ())))
          else none
        else none
      else
        let r4 := n_impl_FallMem ((nth v1 v3 ([], [], false, [])).1, ((nth v1 v3 ([], [], false, [])).2).1, (((nth v1 v3 ([], [], false, [])).2).2)) 0
        bif (apok v4.length ([r4] : List dM).length 80) then
          some (.inl (((v0, ()), ((), ()), (v1, ()), (v2, ()), ((IntKind.i64.wrap (v3 + 1)), ()), ()), (), ((v4 ++ ([r4] : List dM)), ())))
        else none
    else none
  else
    some (.inr (.inl ((((), ()), ()), (), (v4, ()))))
noncomputable def stx_impl_Fall_29 (x : (L_impl_Fall_29).X) := st_impl_Fall_29 x.1.1.1 x.1.2.2.1.1 x.1.2.2.2.1.1 x.1.2.2.2.2.1.1 x.2.2.1
def em_impl_Fall_29 (x : (S_impl_Fall_29).X) : (L_impl_Fall_29).X := (((x.1.1.1, ()), ((), ()), (x.1.2.2.1.1, ()), (x.1.2.2.2.1.1, ()), (0, ()), ()), (), (x.2.2.1, ()))
noncomputable def c_impl_Fall_29 : Code := (subN B_impl_Fall 64 116).getD .skip
theorem a_impl_Fall_29 : subN B_impl_Fall 64 29 = some (.block 0 (.loop c_impl_Fall_29)) := by kernel_rfl
theorem r_impl_Fall_29 (x : (L_impl_Fall_29).X) : roundT ⟨E_impl_Fall, 33, D_impl_Fall_0⟩ 0 c_impl_Fall_29 116 L_impl_Fall_29 O_impl_Fall_29 Z_impl_Fall_29 x = stx_impl_Fall_29 x := by kernel_rfl
noncomputable def fu_impl_Fall_29 (x : (S_impl_Fall_29).X) : Nat := (fun (u0 : List Int) (u1 : List dM) (u2 : Int) (u3 : List dM) => 18446744073709551616) x.1.1.1 x.1.2.2.1.1 x.1.2.2.2.1.1 x.2.2.1
noncomputable def F_impl_Fall_29 (x : (S_impl_Fall_29).X) : Option ((O_impl_Fall_29).X ⊕ (Z_impl_Fall_29).X) := loopN stx_impl_Fall_29 (fu_impl_Fall_29 x) (em_impl_Fall_29 x)
noncomputable def sg_impl_Fall_29 : Seg := ⟨S_impl_Fall_29, O_impl_Fall_29, Z_impl_Fall_29, F_impl_Fall_29⟩
noncomputable def D_impl_Fall_1 : Nat → Option Seg := fun q => bif Nat.beq q 29 then some sg_impl_Fall_29 else D_impl_Fall_0 q
theorem fr_impl_Fall_1 : FrOk Try.prog ⟨E_impl_Fall, 33, D_impl_Fall_1⟩ B_impl_Fall := (fr_impl_Fall_0).loop (sg := sg_impl_Fall_29) L_impl_Fall_29 em_impl_Fall_29 (by decide) a_impl_Fall_29 stx_impl_Fall_29 fu_impl_Fall_29 (by decide) (fun _ => rfl) (fun x r _ h => h) r_impl_Fall_29
abbrev I_impl_Fall : List Par := [.rd tMs, .rd tL]
abbrev U_impl_Fall : List OT := [⟨false, tMs, (.ow (.pr (.ow (.ow .fz)) (.pr (.ow (.pr .fz (.ow .fz))) (.pr .fz (.ow .fz)))))⟩]
noncomputable def raw_impl_Fall (a0 : List dM) (a1 : List Int) : Option (ResD U_impl_Fall × MutD I_impl_Fall) :=
  segM (F_impl_Fall_29 (((a1, ()), ((), ()), (a0, ()), ((a0.length : Int), ()), ((), ()), ()), (), (([] : List dM), ()))) (fun y4 =>
    some ((y4.2.2.1, ()), ())) (fun y4 =>
    none)
theorem e_impl_Fall (x : InD I_impl_Fall) : execF ⟨E_impl_Fall, 33, D_impl_Fall_1⟩ Try.f19.results.toList B_impl_Fall I_impl_Fall U_impl_Fall x = raw_impl_Fall x.1 x.2.1 := by kernel_rfl
theorem ok0_impl_Fall : ConOk Try.prog 19 ⟨I_impl_Fall, U_impl_Fall, fun x => raw_impl_Fall x.1 x.2.1⟩ := conOk_exec (fr_impl_Fall_1) Try.func19 (by kernel_rfl) (by kernel_rfl) Try.ntmps19.symm (by decide) (fun x r h => (e_impl_Fall x).trans h)
noncomputable def n_impl_Fall (a0 : List dM) (a1 : List Int) : List dM := fallAll a0 a1
theorem nn_impl_Fall (a0 : List dM) (a1 : List Int) (hk : InOk I_impl_Fall (a0, a1, ())) : raw_impl_Fall a0 a1 = (fun n => some ((n, ()), ())) (n_impl_Fall a0 a1) := by
  have hb : a0.length * 80 ≤ 2 ^ 47 := hk.1.1
  have h1 : F_impl_Fall_29 (ms_impl_Fall_29 a1 a0 a0.length []) = some (.inl (mo_impl_Fall_29 ((List.range a0.length).foldl (fun s (i : Nat) => s ++ [fallMem (nth a0 i noMem) (keepAt a1 i)]) []))) :=
    loopN_rng (step := stx_impl_Fall_29) a0.length (fun i s => mk_impl_Fall_29 a1 a0 a0.length i s) (fun s (i : Nat) => s ++ [fallMem (nth a0 i noMem) (keepAt a1 i)]) (fun i s => s.length = i) (fun s => .inl (mo_impl_Fall_29 s)) (fun i s hi hs => ⟨by
      simp only [stx_impl_Fall_29, mk_impl_Fall_29, st_impl_Fall_29, ltb_t (show (i : Int) < a0.length by omega), cond_true, wr (show -9223372036854775808 ≤ (i : Int) + 1 by omega) (by omega), Int.natCast_add, Int.natCast_one, Int.toNat_natCast, inb_nat hi, pr_eta, n_impl_FallMem, keepAt]
      rw [apok_iff.2 (show (s.length + [fallMem (nth a0 i ([], [], false, [])) (nth a1 i 0)].length) * 80 ≤ 140737488355328 by simp only [List.length_cons, List.length_nil]; omega), apok_iff.2 (show (s.length + [fallMem (nth a0 i ([], [], false, [])) 0].length) * 80 ≤ 140737488355328 by simp only [List.length_cons, List.length_nil]; omega)]
      by_cases h : i < a1.length
      · rw [ltb_t (show (i : Int) < a1.length by omega), inb_nat h, decide_eq_true h]; rfl
      · rw [ltb_f (show (a1.length : Int) ≤ i by omega), decide_eq_false h]; rfl, by simp [hs]⟩) (fun s hs => by simp only [stx_impl_Fall_29, mk_impl_Fall_29, st_impl_Fall_29, ltb_f (Int.le_refl _), cond_false]) [] rfl _ (by show _ < 18446744073709551616; omega)
  unfold raw_impl_Fall n_impl_Fall fallAll
  rw [h1, foldl_snoc]; rfl
noncomputable def con_impl_Fall : Con := ⟨I_impl_Fall, U_impl_Fall, fun x => (fun n => some ((n, ()), ())) (n_impl_Fall x.1 x.2.1)⟩
theorem ok_impl_Fall : ConOk Try.prog 19 con_impl_Fall := (ok0_impl_Fall).mono (fun x r hk h => (nn_impl_Fall x.1 x.2.1 hk).trans h)
end
end Go.Tf
