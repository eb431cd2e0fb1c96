/- Functions of the program, and what they come to. -/
import Derived.Test.YtmamkjioahnecabExactFailDiskF3
namespace Go.Tf
open Go.Proofs
set_option synthInstance.maxHeartbeats 400000
set_option synthInstance.maxSize 10000
set_option linter.unusedVariables false
set_option linter.unusedSimpArgs false
set_option maxRecDepth 100000
/-! laws_eqMem -/
section
noncomputable def B_laws_eqMem : Code := (Try.f62.body).getD .skip
noncomputable def E_laws_eqMem : Env := envOf TT [(102, con_laws_eqIntSS), (103, con_laws_eqWrS), (104, con_laws_eqIntS)] []
theorem fr_laws_eqMem_0 : FrOk Try.prog ⟨E_laws_eqMem, 28, fun _ => none⟩ B_laws_eqMem := frOk_base mixed tt_ok ⟨ok_laws_eqIntSS, ok_laws_eqWrS, ok_laws_eqIntS, trivial⟩
noncomputable def D_laws_eqMem_0 : Nat → Option Seg := fun _ => none
abbrev I_laws_eqMem : List Par := [.rd tM, .rd tM]
abbrev U_laws_eqMem : List OT := [⟨false, tB, .fz⟩]
noncomputable def raw_laws_eqMem (a0 : dM) (a1 : dM) : Option (ResD U_laws_eqMem × MutD I_laws_eqMem) :=
  let r1 := n_laws_eqIntSS a0.1 a1.1
  bif (!r1) then
    some ((false, ()), ())
  else
    let r2 := n_laws_eqWrS a0.2.1 a1.2.1
    bif (!r2) then
      some ((false, ()), ())
    else
      bif (!(a0.2.2.1 == a1.2.2.1)) then
        some ((false, ()), ())
      else
        let r3 := n_laws_eqIntS a0.2.2.2 a1.2.2.2
        bif (!r3) then
          some ((false, ()), ())
        else
          some ((true, ()), ())
theorem e_laws_eqMem (x : InD I_laws_eqMem) : execF ⟨E_laws_eqMem, 28, D_laws_eqMem_0⟩ Try.f62.results.toList B_laws_eqMem I_laws_eqMem U_laws_eqMem x = raw_laws_eqMem x.1 x.2.1 := by kernel_rfl
theorem ok0_laws_eqMem : ConOk Try.prog 62 ⟨I_laws_eqMem, U_laws_eqMem, fun x => raw_laws_eqMem x.1 x.2.1⟩ := conOk_exec (fr_laws_eqMem_0) Try.func62 (by kernel_rfl) (by kernel_rfl) Try.ntmps62.symm (by decide) (fun x r h => (e_laws_eqMem x).trans h)
noncomputable def n_laws_eqMem (a0 : dM) (a1 : dM) : Bool :=
  let r1 := n_laws_eqIntSS a0.1 a1.1
  bif (!r1) then
    false
  else
    let r2 := n_laws_eqWrS a0.2.1 a1.2.1
    bif (!r2) then
      false
    else
      bif (!(a0.2.2.1 == a1.2.2.1)) then
        false
      else
        let r3 := n_laws_eqIntS a0.2.2.2 a1.2.2.2
        bif (!r3) then
          false
        else
          true
noncomputable def con_laws_eqMem : Con := ⟨I_laws_eqMem, U_laws_eqMem, fun x => (fun n => some ((n, ()), ())) (n_laws_eqMem x.1 x.2.1)⟩
theorem nn_laws_eqMem (a0 : dM) (a1 : dM) : raw_laws_eqMem a0 a1 = (fun n => some ((n, ()), ())) (n_laws_eqMem a0 a1) := bif_ty (p := fun (n : Bool) => ((n, ()), ())) (bif_some (p := fun (n : Bool) => ((n, ()), ())) rfl (bif_some (p := fun (n : Bool) => ((n, ()), ())) rfl (bif_some (p := fun (n : Bool) => ((n, ()), ())) rfl (bif_some (p := fun (n : Bool) => ((n, ()), ())) rfl rfl))))
theorem ok_laws_eqMem : ConOk Try.prog 62 con_laws_eqMem := (ok0_laws_eqMem).mono (fun x r _ h => (nn_laws_eqMem x.1 x.2.1).trans h)
theorem eqd_laws_eqMem (a b : dM) : n_laws_eqMem a b = decide (a = b) := by
  unfold n_laws_eqMem
  simp only [eq_step1, eq_step2, eq_step3, eq_step4, eq_step5, eqd_laws_eqIntSS, eqd_laws_eqWrS, eqd_laws_eqIntS, Prod.ext_iff, Bool.decide_and, Bool.and_true]
theorem eqr_laws_eqMem (a : dM) : n_laws_eqMem a a = true := by rw [eqd_laws_eqMem]; exact decide_eq_true rfl
end

/-! laws_eqMemS -/
section
noncomputable def B_laws_eqMemS : Code := (Try.f31.body).getD .skip
noncomputable def E_laws_eqMemS : Env := envOf TT [(62, con_laws_eqMem)] []
theorem fr_laws_eqMemS_0 : FrOk Try.prog ⟨E_laws_eqMemS, 27, fun _ => none⟩ B_laws_eqMemS := frOk_base mixed tt_ok ⟨ok_laws_eqMem, trivial⟩
noncomputable def D_laws_eqMemS_0 : Nat → Option Seg := fun _ => none
def L_laws_eqMemS_29 : Shape := ⟨[(0, false, [.br tM]), (1, false, [.br tM]), (5, false, [.int .i64])], [], []⟩
def S_laws_eqMemS_29 : Shape := ⟨[(0, false, [.br tM]), (1, false, [.br tM]), (5, false, [.ci .i64 0])], [], []⟩
def O_laws_eqMemS_29 : Shape := ⟨[], [], []⟩
def Z_laws_eqMemS_29 : Shape := ⟨[(4, false, [.bool])], [], []⟩
noncomputable def st_laws_eqMemS_29 (v0 : List dM) (v1 : List dM) (v2 : Int) : Option ((L_laws_eqMemS_29).X ⊕ ((O_laws_eqMemS_29).X ⊕ (Z_laws_eqMemS_29).X)) :=
  bif (ltb v2 (v0.length : Int)) then
    bif (inb v2 v0.length) then
      bif (inb v2 v1.length) then
        let r2 := n_laws_eqMem ((nth v0 v2 ([], [], false, [])).1, ((nth v0 v2 ([], [], false, [])).2).1, (((nth v0 v2 ([], [], false, [])).2).2)) ((nth v1 v2 ([], [], false, [])).1, ((nth v1 v2 ([], [], false, [])).2).1, (((nth v1 v2 ([], [], false, [])).2).2))
        bif (!r2) then
          some (.inr (.inr (((false, ()), ()), (), ())))
        else
          some (.inl (((v0, ()), (v1, ()), ((IntKind.i64.wrap (v2 + 1)), ()), ()), (), ()))
      else none
    else none
  else
    some (.inr (.inl ((), (), ())))
noncomputable def stx_laws_eqMemS_29 (x : (L_laws_eqMemS_29).X) := st_laws_eqMemS_29 x.1.1.1 x.1.2.1.1 x.1.2.2.1.1
def em_laws_eqMemS_29 (x : (S_laws_eqMemS_29).X) : (L_laws_eqMemS_29).X := (((x.1.1.1, ()), (x.1.2.1.1, ()), (0, ()), ()), (), ())
noncomputable def c_laws_eqMemS_29 : Code := (subN B_laws_eqMemS 64 116).getD .skip
theorem a_laws_eqMemS_29 : subN B_laws_eqMemS 64 29 = some (.block 0 (.loop c_laws_eqMemS_29)) := by kernel_rfl
theorem r_laws_eqMemS_29 (x : (L_laws_eqMemS_29).X) : roundT ⟨E_laws_eqMemS, 27, D_laws_eqMemS_0⟩ 0 c_laws_eqMemS_29 116 L_laws_eqMemS_29 O_laws_eqMemS_29 Z_laws_eqMemS_29 x = stx_laws_eqMemS_29 x := by kernel_rfl
noncomputable def fu_laws_eqMemS_29 (x : (S_laws_eqMemS_29).X) : Nat := (fun (u0 : List dM) (u1 : List dM) => 18446744073709551616) x.1.1.1 x.1.2.1.1
noncomputable def F_laws_eqMemS_29 (x : (S_laws_eqMemS_29).X) : Option ((O_laws_eqMemS_29).X ⊕ (Z_laws_eqMemS_29).X) := loopN stx_laws_eqMemS_29 (fu_laws_eqMemS_29 x) (em_laws_eqMemS_29 x)
noncomputable def sg_laws_eqMemS_29 : Seg := ⟨S_laws_eqMemS_29, O_laws_eqMemS_29, Z_laws_eqMemS_29, F_laws_eqMemS_29⟩
noncomputable def D_laws_eqMemS_1 : Nat → Option Seg := fun q => bif Nat.beq q 29 then some sg_laws_eqMemS_29 else D_laws_eqMemS_0 q
theorem fr_laws_eqMemS_1 : FrOk Try.prog ⟨E_laws_eqMemS, 27, D_laws_eqMemS_1⟩ B_laws_eqMemS := (fr_laws_eqMemS_0).loop (sg := sg_laws_eqMemS_29) L_laws_eqMemS_29 em_laws_eqMemS_29 (by decide) a_laws_eqMemS_29 stx_laws_eqMemS_29 fu_laws_eqMemS_29 (by decide) (fun _ => rfl) (fun x r _ h => h) r_laws_eqMemS_29
abbrev I_laws_eqMemS : List Par := [.rd tMs, .rd tMs]
abbrev U_laws_eqMemS : List OT := [⟨false, tB, .fz⟩]
noncomputable def raw_laws_eqMemS (a0 : List dM) (a1 : List dM) : Option (ResD U_laws_eqMemS × MutD I_laws_eqMemS) :=
  bif ((a0.length : Int) != (a1.length : Int)) then
    some ((false, ()), ())
  else
    segM (F_laws_eqMemS_29 (((a0, ()), (a1, ()), ((), ()), ()), (), ())) (fun y2 =>
      some ((true, ()), ())) (fun y2 =>
      some ((y2.1.1.1, ()), ()))
theorem e_laws_eqMemS (x : InD I_laws_eqMemS) : execF ⟨E_laws_eqMemS, 27, D_laws_eqMemS_1⟩ Try.f31.results.toList B_laws_eqMemS I_laws_eqMemS U_laws_eqMemS x = raw_laws_eqMemS x.1 x.2.1 := by kernel_rfl
theorem ok0_laws_eqMemS : ConOk Try.prog 31 ⟨I_laws_eqMemS, U_laws_eqMemS, fun x => raw_laws_eqMemS x.1 x.2.1⟩ := conOk_exec (fr_laws_eqMemS_1) Try.func31 (by kernel_rfl) (by kernel_rfl) Try.ntmps31.symm (by decide) (fun x r h => (e_laws_eqMemS x).trans h)
noncomputable def n_laws_eqMemS (a0 a1 : List (dM)) : Bool := decide (a0 = a1)
theorem nn_laws_eqMemS (a0 a1 : List (dM)) (hk : InOk I_laws_eqMemS (a0, a1, ())) : raw_laws_eqMemS a0 a1 = (fun n => some ((n, ()), ())) (n_laws_eqMemS a0 a1) := by
  have hb : a0.length * 80 ≤ 2 ^ 47 := hk.1.1
  unfold raw_laws_eqMemS n_laws_eqMemS
  by_cases h : a0.length = a1.length
  · have hl : F_laws_eqMemS_29 (((a0, ()), (a1, ()), ((), ()), ()), (), ()) = some (bif decide (a0 = a1) then .inl ((), (), ()) else .inr (((false, ()), ()), (), ())) :=
      loopN_eq (step := stx_laws_eqMemS_29) a0 a1 (([], [], false, []) : dM) (fun i => (((a0, ()), (a1, ()), ((i : Int), ()), ()), (), ())) n_laws_eqMem eqd_laws_eqMem _ _ h (fun i hi => by
        simp only [stx_laws_eqMemS_29, st_laws_eqMemS_29, inb_nat (h ▸ hi), inb_nat hi, nth_nat, Int.toNat_natCast, ltb_t (show (i : Int) < a0.length by omega), cond_true, wr (show -9223372036854775808 ≤ (i : Int) + 1 by omega) (by omega), Int.natCast_add, Int.natCast_one, pr_eta]
        cases n_laws_eqMem (a0.getD i ([], [], false, [])) (a1.getD i ([], [], false, [])) <;> rfl) (by simp only [stx_laws_eqMemS_29, st_laws_eqMemS_29, ltb_f (Int.le_refl _), cond_false]) _ (by show _ < 18446744073709551616; omega)
    rw [show ((a0.length : Int) != (a1.length : Int)) = false by simp [h], bif_f, hl]
    cases decide (a0 = a1) <;> rfl
  · rw [show ((a0.length : Int) != (a1.length : Int)) = true from bne_iff_ne.2 (by omega), bif_t, decide_eq_false (fun e => h (congrArg _ e))]
theorem eqd_laws_eqMemS (a0 a1 : List (dM)) : n_laws_eqMemS a0 a1 = decide (a0 = a1) := rfl
noncomputable def con_laws_eqMemS : Con := ⟨I_laws_eqMemS, U_laws_eqMemS, fun x => (fun n => some ((n, ()), ())) (n_laws_eqMemS x.1 x.2.1)⟩
theorem ok_laws_eqMemS : ConOk Try.prog 31 con_laws_eqMemS := (ok0_laws_eqMemS).mono (fun x r hk h => (nn_laws_eqMemS x.1 x.2.1 hk).trans h)
theorem eqr_laws_eqMemS (a : List dM) : n_laws_eqMemS a a = true := by rw [eqd_laws_eqMemS]; exact decide_eq_true rfl
end

/-! laws_eqEnt -/
section
noncomputable def B_laws_eqEnt : Code := (Try.f63.body).getD .skip
noncomputable def E_laws_eqEnt : Env := envOf TT [(104, con_laws_eqIntS)] []
theorem fr_laws_eqEnt_0 : FrOk Try.prog ⟨E_laws_eqEnt, 16, fun _ => none⟩ B_laws_eqEnt := frOk_base mixed tt_ok ⟨ok_laws_eqIntS, trivial⟩
noncomputable def D_laws_eqEnt_0 : Nat → Option Seg := fun _ => none
abbrev I_laws_eqEnt : List Par := [.rd tW, .rd tW]
abbrev U_laws_eqEnt : List OT := [⟨false, tB, .fz⟩]
noncomputable def raw_laws_eqEnt (a0 : dW) (a1 : dW) : Option (ResD U_laws_eqEnt × MutD I_laws_eqEnt) :=
  bif (a0.1 != a1.1) then
    some ((false, ()), ())
  else
    let r1 := n_laws_eqIntS a0.2 a1.2
    bif (!r1) then
      some ((false, ()), ())
    else
      some ((true, ()), ())
theorem e_laws_eqEnt (x : InD I_laws_eqEnt) : execF ⟨E_laws_eqEnt, 16, D_laws_eqEnt_0⟩ Try.f63.results.toList B_laws_eqEnt I_laws_eqEnt U_laws_eqEnt x = raw_laws_eqEnt x.1 x.2.1 := by kernel_rfl
theorem ok0_laws_eqEnt : ConOk Try.prog 63 ⟨I_laws_eqEnt, U_laws_eqEnt, fun x => raw_laws_eqEnt x.1 x.2.1⟩ := conOk_exec (fr_laws_eqEnt_0) Try.func63 (by kernel_rfl) (by kernel_rfl) Try.ntmps63.symm (by decide) (fun x r h => (e_laws_eqEnt x).trans h)
noncomputable def n_laws_eqEnt (a0 : dW) (a1 : dW) : Bool :=
  bif (a0.1 != a1.1) then
    false
  else
    let r1 := n_laws_eqIntS a0.2 a1.2
    bif (!r1) then
      false
    else
      true
noncomputable def con_laws_eqEnt : Con := ⟨I_laws_eqEnt, U_laws_eqEnt, fun x => (fun n => some ((n, ()), ())) (n_laws_eqEnt x.1 x.2.1)⟩
theorem nn_laws_eqEnt (a0 : dW) (a1 : dW) : raw_laws_eqEnt a0 a1 = (fun n => some ((n, ()), ())) (n_laws_eqEnt a0 a1) := bif_ty (p := fun (n : Bool) => ((n, ()), ())) (bif_some (p := fun (n : Bool) => ((n, ()), ())) rfl (bif_some (p := fun (n : Bool) => ((n, ()), ())) rfl rfl))
theorem ok_laws_eqEnt : ConOk Try.prog 63 con_laws_eqEnt := (ok0_laws_eqEnt).mono (fun x r _ h => (nn_laws_eqEnt x.1 x.2.1).trans h)
theorem eqd_laws_eqEnt (a b : dW) : n_laws_eqEnt a b = decide (a = b) := by
  unfold n_laws_eqEnt
  simp only [eq_step1, eq_step2, eq_step3, eq_step4, eq_step5, eqd_laws_eqIntS, Prod.ext_iff, Bool.decide_and, Bool.and_true]
theorem eqr_laws_eqEnt (a : dW) : n_laws_eqEnt a a = true := by rw [eqd_laws_eqEnt]; exact decide_eq_true rfl
end

/-! laws_eqEntS -/
section
noncomputable def B_laws_eqEntS : Code := (Try.f32.body).getD .skip
noncomputable def E_laws_eqEntS : Env := envOf TT [(63, con_laws_eqEnt)] []
theorem fr_laws_eqEntS_0 : FrOk Try.prog ⟨E_laws_eqEntS, 27, fun _ => none⟩ B_laws_eqEntS := frOk_base mixed tt_ok ⟨ok_laws_eqEnt, trivial⟩
noncomputable def D_laws_eqEntS_0 : Nat → Option Seg := fun _ => none
def L_laws_eqEntS_29 : Shape := ⟨[(0, false, [.br tW]), (1, false, [.br tW]), (5, false, [.int .i64])], [], []⟩
def S_laws_eqEntS_29 : Shape := ⟨[(0, false, [.br tW]), (1, false, [.br tW]), (5, false, [.ci .i64 0])], [], []⟩
def O_laws_eqEntS_29 : Shape := ⟨[], [], []⟩
def Z_laws_eqEntS_29 : Shape := ⟨[(4, false, [.bool])], [], []⟩
noncomputable def st_laws_eqEntS_29 (v0 : List dW) (v1 : List dW) (v2 : Int) : Option ((L_laws_eqEntS_29).X ⊕ ((O_laws_eqEntS_29).X ⊕ (Z_laws_eqEntS_29).X)) :=
  bif (ltb v2 (v0.length : Int)) then
    bif (inb v2 v0.length) then
      bif (inb v2 v1.length) then
        let r2 := n_laws_eqEnt (nth v0 v2 (0, [])) (nth v1 v2 (0, []))
        bif (!r2) then
          some (.inr (.inr (((false, ()), ()), (), ())))
        else
          some (.inl (((v0, ()), (v1, ()), ((IntKind.i64.wrap (v2 + 1)), ()), ()), (), ()))
      else none
    else none
  else
    some (.inr (.inl ((), (), ())))
noncomputable def stx_laws_eqEntS_29 (x : (L_laws_eqEntS_29).X) := st_laws_eqEntS_29 x.1.1.1 x.1.2.1.1 x.1.2.2.1.1
def em_laws_eqEntS_29 (x : (S_laws_eqEntS_29).X) : (L_laws_eqEntS_29).X := (((x.1.1.1, ()), (x.1.2.1.1, ()), (0, ()), ()), (), ())
noncomputable def c_laws_eqEntS_29 : Code := (subN B_laws_eqEntS 64 116).getD .skip
theorem a_laws_eqEntS_29 : subN B_laws_eqEntS 64 29 = some (.block 0 (.loop c_laws_eqEntS_29)) := by kernel_rfl
theorem r_laws_eqEntS_29 (x : (L_laws_eqEntS_29).X) : roundT ⟨E_laws_eqEntS, 27, D_laws_eqEntS_0⟩ 0 c_laws_eqEntS_29 116 L_laws_eqEntS_29 O_laws_eqEntS_29 Z_laws_eqEntS_29 x = stx_laws_eqEntS_29 x := by kernel_rfl
noncomputable def fu_laws_eqEntS_29 (x : (S_laws_eqEntS_29).X) : Nat := (fun (u0 : List dW) (u1 : List dW) => 18446744073709551616) x.1.1.1 x.1.2.1.1
noncomputable def F_laws_eqEntS_29 (x : (S_laws_eqEntS_29).X) : Option ((O_laws_eqEntS_29).X ⊕ (Z_laws_eqEntS_29).X) := loopN stx_laws_eqEntS_29 (fu_laws_eqEntS_29 x) (em_laws_eqEntS_29 x)
noncomputable def sg_laws_eqEntS_29 : Seg := ⟨S_laws_eqEntS_29, O_laws_eqEntS_29, Z_laws_eqEntS_29, F_laws_eqEntS_29⟩
noncomputable def D_laws_eqEntS_1 : Nat → Option Seg := fun q => bif Nat.beq q 29 then some sg_laws_eqEntS_29 else D_laws_eqEntS_0 q
theorem fr_laws_eqEntS_1 : FrOk Try.prog ⟨E_laws_eqEntS, 27, D_laws_eqEntS_1⟩ B_laws_eqEntS := (fr_laws_eqEntS_0).loop (sg := sg_laws_eqEntS_29) L_laws_eqEntS_29 em_laws_eqEntS_29 (by decide) a_laws_eqEntS_29 stx_laws_eqEntS_29 fu_laws_eqEntS_29 (by decide) (fun _ => rfl) (fun x r _ h => h) r_laws_eqEntS_29
abbrev I_laws_eqEntS : List Par := [.rd tWs, .rd tWs]
abbrev U_laws_eqEntS : List OT := [⟨false, tB, .fz⟩]
noncomputable def raw_laws_eqEntS (a0 : List dW) (a1 : List dW) : Option (ResD U_laws_eqEntS × MutD I_laws_eqEntS) :=
  bif ((a0.length : Int) != (a1.length : Int)) then
    some ((false, ()), ())
  else
    segM (F_laws_eqEntS_29 (((a0, ()), (a1, ()), ((), ()), ()), (), ())) (fun y2 =>
      some ((true, ()), ())) (fun y2 =>
      some ((y2.1.1.1, ()), ()))
theorem e_laws_eqEntS (x : InD I_laws_eqEntS) : execF ⟨E_laws_eqEntS, 27, D_laws_eqEntS_1⟩ Try.f32.results.toList B_laws_eqEntS I_laws_eqEntS U_laws_eqEntS x = raw_laws_eqEntS x.1 x.2.1 := by kernel_rfl
theorem ok0_laws_eqEntS : ConOk Try.prog 32 ⟨I_laws_eqEntS, U_laws_eqEntS, fun x => raw_laws_eqEntS x.1 x.2.1⟩ := conOk_exec (fr_laws_eqEntS_1) Try.func32 (by kernel_rfl) (by kernel_rfl) Try.ntmps32.symm (by decide) (fun x r h => (e_laws_eqEntS x).trans h)
noncomputable def n_laws_eqEntS (a0 a1 : List (dW)) : Bool := decide (a0 = a1)
theorem nn_laws_eqEntS (a0 a1 : List (dW)) (hk : InOk I_laws_eqEntS (a0, a1, ())) : raw_laws_eqEntS a0 a1 = (fun n => some ((n, ()), ())) (n_laws_eqEntS a0 a1) := by
  have hb : a0.length * 32 ≤ 2 ^ 47 := hk.1.1
  unfold raw_laws_eqEntS n_laws_eqEntS
  by_cases h : a0.length = a1.length
  · have hl : F_laws_eqEntS_29 (((a0, ()), (a1, ()), ((), ()), ()), (), ()) = some (bif decide (a0 = a1) then .inl ((), (), ()) else .inr (((false, ()), ()), (), ())) :=
      loopN_eq (step := stx_laws_eqEntS_29) a0 a1 ((0, []) : dW) (fun i => (((a0, ()), (a1, ()), ((i : Int), ()), ()), (), ())) n_laws_eqEnt eqd_laws_eqEnt _ _ h (fun i hi => by
        simp only [stx_laws_eqEntS_29, st_laws_eqEntS_29, inb_nat (h ▸ hi), inb_nat hi, nth_nat, Int.toNat_natCast, ltb_t (show (i : Int) < a0.length by omega), cond_true, wr (show -9223372036854775808 ≤ (i : Int) + 1 by omega) (by omega), Int.natCast_add, Int.natCast_one, pr_eta]
        cases n_laws_eqEnt (a0.getD i (0, [])) (a1.getD i (0, [])) <;> rfl) (by simp only [stx_laws_eqEntS_29, st_laws_eqEntS_29, ltb_f (Int.le_refl _), cond_false]) _ (by show _ < 18446744073709551616; omega)
    rw [show ((a0.length : Int) != (a1.length : Int)) = false by simp [h], bif_f, hl]
    cases decide (a0 = a1) <;> rfl
  · rw [show ((a0.length : Int) != (a1.length : Int)) = true from bne_iff_ne.2 (by omega), bif_t, decide_eq_false (fun e => h (congrArg _ e))]
theorem eqd_laws_eqEntS (a0 a1 : List (dW)) : n_laws_eqEntS a0 a1 = decide (a0 = a1) := rfl
noncomputable def con_laws_eqEntS : Con := ⟨I_laws_eqEntS, U_laws_eqEntS, fun x => (fun n => some ((n, ()), ())) (n_laws_eqEntS x.1 x.2.1)⟩
theorem ok_laws_eqEntS : ConOk Try.prog 32 con_laws_eqEntS := (ok0_laws_eqEntS).mono (fun x r hk h => (nn_laws_eqEntS x.1 x.2.1 hk).trans h)
theorem eqr_laws_eqEntS (a : List dW) : n_laws_eqEntS a a = true := by rw [eqd_laws_eqEntS]; exact decide_eq_true rfl
end

/-! laws_eqArr -/
section
noncomputable def B_laws_eqArr : Code := (Try.f10.body).getD .skip
noncomputable def E_laws_eqArr : Env := envOf TT [(30, con_laws_eqGeo), (31, con_laws_eqMemS), (32, con_laws_eqEntS)] []
theorem fr_laws_eqArr_0 : FrOk Try.prog ⟨E_laws_eqArr, 68, fun _ => none⟩ B_laws_eqArr := frOk_base mixed tt_ok ⟨ok_laws_eqGeo, ok_laws_eqMemS, ok_laws_eqEntS, trivial⟩
noncomputable def D_laws_eqArr_0 : Nat → Option Seg := fun _ => none
abbrev I_laws_eqArr : List Par := [.rd tA, .rd tA]
abbrev U_laws_eqArr : List OT := [⟨false, tB, .fz⟩]
noncomputable def raw_laws_eqArr (a0 : dA) (a1 : dA) : Option (ResD U_laws_eqArr × MutD I_laws_eqArr) :=
  bif (a0.1 != a1.1) then
    some ((false, ()), ())
  else
    let r1 := n_laws_eqGeo a0.2.1 a1.2.1
    bif (!r1) then
      some ((false, ()), ())
    else
      let r2 := n_laws_eqMemS a0.2.2.1 a1.2.2.1
      bif (!r2) then
        some ((false, ()), ())
      else
        bif (a0.2.2.2.1 != a1.2.2.2.1) then
          some ((false, ()), ())
        else
          bif (a0.2.2.2.2.1 != a1.2.2.2.2.1) then
            some ((false, ()), ())
          else
            bif (a0.2.2.2.2.2.1 != a1.2.2.2.2.2.1) then
              some ((false, ()), ())
            else
              bif (a0.2.2.2.2.2.2.1 != a1.2.2.2.2.2.2.1) then
                some ((false, ()), ())
              else
                bif (a0.2.2.2.2.2.2.2.1 != a1.2.2.2.2.2.2.2.1) then
                  some ((false, ()), ())
                else
                  let r3 := n_laws_eqEntS a0.2.2.2.2.2.2.2.2.1 a1.2.2.2.2.2.2.2.2.1
                  bif (!r3) then
                    some ((false, ()), ())
                  else
                    bif (a0.2.2.2.2.2.2.2.2.2.1 != a1.2.2.2.2.2.2.2.2.2.1) then
                      some ((false, ()), ())
                    else
                      bif (!(a0.2.2.2.2.2.2.2.2.2.2.1 == a1.2.2.2.2.2.2.2.2.2.2.1)) then
                        some ((false, ()), ())
                      else
                        bif (!(a0.2.2.2.2.2.2.2.2.2.2.2 == a1.2.2.2.2.2.2.2.2.2.2.2)) then
                          some ((false, ()), ())
                        else
                          some ((true, ()), ())
theorem e_laws_eqArr (x : InD I_laws_eqArr) : execF ⟨E_laws_eqArr, 68, D_laws_eqArr_0⟩ Try.f10.results.toList B_laws_eqArr I_laws_eqArr U_laws_eqArr x = raw_laws_eqArr x.1 x.2.1 := by kernel_rfl
theorem ok0_laws_eqArr : ConOk Try.prog 10 ⟨I_laws_eqArr, U_laws_eqArr, fun x => raw_laws_eqArr x.1 x.2.1⟩ := conOk_exec (fr_laws_eqArr_0) Try.func10 (by kernel_rfl) (by kernel_rfl) Try.ntmps10.symm (by decide) (fun x r h => (e_laws_eqArr x).trans h)
noncomputable def n_laws_eqArr (a0 : dA) (a1 : dA) : Bool :=
  bif (a0.1 != a1.1) then
    false
  else
    let r1 := n_laws_eqGeo a0.2.1 a1.2.1
    bif (!r1) then
      false
    else
      let r2 := n_laws_eqMemS a0.2.2.1 a1.2.2.1
      bif (!r2) then
        false
      else
        bif (a0.2.2.2.1 != a1.2.2.2.1) then
          false
        else
          bif (a0.2.2.2.2.1 != a1.2.2.2.2.1) then
            false
          else
            bif (a0.2.2.2.2.2.1 != a1.2.2.2.2.2.1) then
              false
            else
              bif (a0.2.2.2.2.2.2.1 != a1.2.2.2.2.2.2.1) then
                false
              else
                bif (a0.2.2.2.2.2.2.2.1 != a1.2.2.2.2.2.2.2.1) then
                  false
                else
                  let r3 := n_laws_eqEntS a0.2.2.2.2.2.2.2.2.1 a1.2.2.2.2.2.2.2.2.1
                  bif (!r3) then
                    false
                  else
                    bif (a0.2.2.2.2.2.2.2.2.2.1 != a1.2.2.2.2.2.2.2.2.2.1) then
                      false
                    else
                      bif (!(a0.2.2.2.2.2.2.2.2.2.2.1 == a1.2.2.2.2.2.2.2.2.2.2.1)) then
                        false
                      else
                        bif (!(a0.2.2.2.2.2.2.2.2.2.2.2 == a1.2.2.2.2.2.2.2.2.2.2.2)) then
                          false
                        else
                          true
noncomputable def con_laws_eqArr : Con := ⟨I_laws_eqArr, U_laws_eqArr, fun x => (fun n => some ((n, ()), ())) (n_laws_eqArr x.1 x.2.1)⟩
theorem nn_laws_eqArr (a0 : dA) (a1 : dA) : raw_laws_eqArr a0 a1 = (fun n => some ((n, ()), ())) (n_laws_eqArr a0 a1) := bif_ty (p := fun (n : Bool) => ((n, ()), ())) (bif_some (p := fun (n : Bool) => ((n, ()), ())) rfl (bif_some (p := fun (n : Bool) => ((n, ()), ())) rfl (bif_some (p := fun (n : Bool) => ((n, ()), ())) rfl (bif_some (p := fun (n : Bool) => ((n, ()), ())) rfl (bif_some (p := fun (n : Bool) => ((n, ()), ())) rfl (bif_some (p := fun (n : Bool) => ((n, ()), ())) rfl (bif_some (p := fun (n : Bool) => ((n, ()), ())) rfl (bif_some (p := fun (n : Bool) => ((n, ()), ())) rfl (bif_some (p := fun (n : Bool) => ((n, ()), ())) rfl (bif_some (p := fun (n : Bool) => ((n, ()), ())) rfl (bif_some (p := fun (n : Bool) => ((n, ()), ())) rfl (bif_some (p := fun (n : Bool) => ((n, ()), ())) rfl rfl))))))))))))
theorem ok_laws_eqArr : ConOk Try.prog 10 con_laws_eqArr := (ok0_laws_eqArr).mono (fun x r _ h => (nn_laws_eqArr x.1 x.2.1).trans h)
theorem eqd_laws_eqArr (a b : dA) : n_laws_eqArr a b = decide (a = b) := by
  unfold n_laws_eqArr
  simp only [eq_step1, eq_step2, eq_step3, eq_step4, eq_step5, eqd_laws_eqGeo, eqd_laws_eqMemS, eqd_laws_eqEntS, Prod.ext_iff, Bool.decide_and, Bool.and_true]
theorem eqr_laws_eqArr (a : dA) : n_laws_eqArr a a = true := by rw [eqd_laws_eqArr]; exact decide_eq_true rfl
end

/-! spec_l2Copy -/
section
noncomputable def B_spec_l2Copy : Code := (Try.f64.body).getD .skip
noncomputable def E_spec_l2Copy : Env := envOf TT [] [(21056, .fz), (21120, .fz), (37952, (.pr .fz .fz)), (38016, (.pr .fz .fz))]
theorem fr_spec_l2Copy_0 : FrOk Try.prog ⟨E_spec_l2Copy, 60, fun _ => none⟩ B_spec_l2Copy := frOk_base mixed tt_ok trivial
noncomputable def D_spec_l2Copy_0 : Nat → Option Seg := fun _ => none
def L_spec_l2Copy_29 : Shape := ⟨[(1, false, [.ptr 0 0]), (2, false, [.ptr 64 0]), (3, false, [.ptr 4544 0]), (4, false, [.int .i64])], [(0, [.br tL, .br tW, .bool, .br tI]), (64, [.nil, .nil, .bool, .nil]), (4544, [.at 800000001, .nil, .bool, .at 800000000])], [(800000001, tL, .fz), (800000000, tI, .fz)]⟩
def S_spec_l2Copy_29 : Shape := ⟨[(1, false, [.ptr 0 0]), (2, false, [.ptr 64 0]), (3, false, [.ptr 4544 0]), (4, false, [.ci .i64 0])], [(0, [.br tL, .br tW, .bool, .br tI]), (64, [.nil, .nil, .bool, .nil]), (4544, [.at 800000001, .nil, .bool, .at 800000000])], [(800000001, tL, .fz), (800000000, tI, .fz)]⟩
def O_spec_l2Copy_29 : Shape := ⟨[(1, false, [.ptr 0 0]), (2, false, [.ptr 64 0]), (3, false, [.ptr 4544 0])], [(0, [.br tL, .br tW, .bool, .br tI]), (64, [.nil, .nil, .bool, .nil]), (4544, [.at 800000000, .nil, .bool, .at 800000001])], [(800000000, tL, .fz), (800000001, tI, .fz)]⟩
def Z_spec_l2Copy_29 : Shape := ⟨[], [], []⟩
abbrev mk_spec_l2Copy_29 (v0 : Int) (v1 : dM) (v2 : dM) (v3 : dM) : (L_spec_l2Copy_29).X := ((((), ()), ((), ()), ((), ()), (v0, ()), ()), ((v1.1, v1.2.1, v1.2.2.1, v1.2.2.2, ()), ((), (), v2.2.2.1, (), ()), ((), (), v3.2.2.1, (), ()), ()), (v3.1, v3.2.2.2, ()))
abbrev ms_spec_l2Copy_29 (v0 : dM) (v1 : dM) (v2 : dM) : (S_spec_l2Copy_29).X := ((((), ()), ((), ()), ((), ()), ((), ()), ()), ((v0.1, v0.2.1, v0.2.2.1, v0.2.2.2, ()), ((), (), v1.2.2.1, (), ()), ((), (), v2.2.2.1, (), ()), ()), (v2.1, v2.2.2.2, ()))
abbrev mo_spec_l2Copy_29 (v0 : dM) (v1 : dM) (v2 : dM) : (O_spec_l2Copy_29).X := ((((), ()), ((), ()), ((), ()), ()), ((v0.1, v0.2.1, v0.2.2.1, v0.2.2.2, ()), ((), (), v1.2.2.1, (), ()), ((), (), v2.2.2.1, (), ()), ()), (v2.1, v2.2.2.2, ()))
noncomputable def st_spec_l2Copy_29 (v0 : Int) (v1 : List (List Int)) (v2 : List dW) (v3 : Bool) (v4 : List Int) (v5 : Bool) (v6 : Bool) (v7 : List (List Int)) (v8 : List Int) : Option ((L_spec_l2Copy_29).X ⊕ ((O_spec_l2Copy_29).X ⊕ (Z_spec_l2Copy_29).X)) :=
  bif (ltb v0 (v1.length : Int)) then
    bif (inb v0 v1.length) then
      bif (apok ([] : List Int).length (nth v1 v0 []).length 8) then
        bif (apok v7.length ([(([] : List Int) ++ (nth v1 v0 []))] : List (List Int)).length 24) then
          some (.inl ((((), ()), ((), ()), ((), ()), ((IntKind.i64.wrap (v0 + 1)), ()), ()), ((v1, v2, v3, v4, ()), ((), (), v5, (), ()), ((), (), v6, (), ()), ()), ((v7 ++ ([(([] : List Int) ++ (nth v1 v0 []))] : List (List Int))), v8, ())))
        else none
      else none
    else none
  else
    some (.inr (.inl ((((), ()), ((), ()), ((), ()), ()), ((v1, v2, v3, v4, ()), ((), (), v5, (), ()), ((), (), v6, (), ()), ()), (v7, v8, ()))))
noncomputable def stx_spec_l2Copy_29 (x : (L_spec_l2Copy_29).X) := st_spec_l2Copy_29 x.1.2.2.2.1.1 x.2.1.1.1 x.2.1.1.2.1 x.2.1.1.2.2.1 x.2.1.1.2.2.2.1 x.2.1.2.1.2.2.1 x.2.1.2.2.1.2.2.1 x.2.2.1 x.2.2.2.1
def em_spec_l2Copy_29 (x : (S_spec_l2Copy_29).X) : (L_spec_l2Copy_29).X := ((((), ()), ((), ()), ((), ()), (0, ()), ()), ((x.2.1.1.1, x.2.1.1.2.1, x.2.1.1.2.2.1, x.2.1.1.2.2.2.1, ()), ((), (), x.2.1.2.1.2.2.1, (), ()), ((), (), x.2.1.2.2.1.2.2.1, (), ()), ()), (x.2.2.1, x.2.2.2.1, ()))
noncomputable def c_spec_l2Copy_29 : Code := (subN B_spec_l2Copy 64 116).getD .skip
theorem a_spec_l2Copy_29 : subN B_spec_l2Copy 64 29 = some (.block 0 (.loop c_spec_l2Copy_29)) := by kernel_rfl
theorem r_spec_l2Copy_29 (x : (L_spec_l2Copy_29).X) : roundT ⟨E_spec_l2Copy, 60, D_spec_l2Copy_0⟩ 0 c_spec_l2Copy_29 116 L_spec_l2Copy_29 O_spec_l2Copy_29 Z_spec_l2Copy_29 x = stx_spec_l2Copy_29 x := by kernel_rfl
noncomputable def fu_spec_l2Copy_29 (x : (S_spec_l2Copy_29).X) : Nat := (fun (u0 : List (List Int)) (u1 : List dW) (u2 : Bool) (u3 : List Int) (u4 : Bool) (u5 : Bool) (u6 : List (List Int)) (u7 : List Int) => 18446744073709551616) x.2.1.1.1 x.2.1.1.2.1 x.2.1.1.2.2.1 x.2.1.1.2.2.2.1 x.2.1.2.1.2.2.1 x.2.1.2.2.1.2.2.1 x.2.2.1 x.2.2.2.1
noncomputable def F_spec_l2Copy_29 (x : (S_spec_l2Copy_29).X) : Option ((O_spec_l2Copy_29).X ⊕ (Z_spec_l2Copy_29).X) := loopN stx_spec_l2Copy_29 (fu_spec_l2Copy_29 x) (em_spec_l2Copy_29 x)
noncomputable def sg_spec_l2Copy_29 : Seg := ⟨S_spec_l2Copy_29, O_spec_l2Copy_29, Z_spec_l2Copy_29, F_spec_l2Copy_29⟩
noncomputable def D_spec_l2Copy_1 : Nat → Option Seg := fun q => bif Nat.beq q 29 then some sg_spec_l2Copy_29 else D_spec_l2Copy_0 q
theorem fr_spec_l2Copy_1 : FrOk Try.prog ⟨E_spec_l2Copy, 60, D_spec_l2Copy_1⟩ B_spec_l2Copy := (fr_spec_l2Copy_0).loop (sg := sg_spec_l2Copy_29) L_spec_l2Copy_29 em_spec_l2Copy_29 (by decide) a_spec_l2Copy_29 stx_spec_l2Copy_29 fu_spec_l2Copy_29 (by decide) (fun _ => rfl) (fun x r _ h => h) r_spec_l2Copy_29
def L_spec_l2Copy_61 : Shape := ⟨[(1, false, [.ptr 0 0]), (2, false, [.ptr 64 0]), (3, false, [.ptr 4544 0]), (5, false, [.int .i64])], [(0, [.br tL, .br tW, .bool, .br tI]), (64, [.nil, .nil, .bool, .nil]), (4544, [.at 800000000, .at 800000002, .bool, .at 800000001])], [(800000000, tL, .fz), (800000002, tW, (.pr .fz .fz)), (800000001, tI, .fz)]⟩
def S_spec_l2Copy_61 : Shape := ⟨[(1, false, [.ptr 0 0]), (2, false, [.ptr 64 0]), (3, false, [.ptr 4544 0]), (5, false, [.ci .i64 0])], [(0, [.br tL, .br tW, .bool, .br tI]), (64, [.nil, .nil, .bool, .nil]), (4544, [.at 800000000, .at 800000002, .bool, .at 800000001])], [(800000000, tL, .fz), (800000002, tW, (.pr .fz .fz)), (800000001, tI, .fz)]⟩
def O_spec_l2Copy_61 : Shape := ⟨[(2, false, [.ptr 64 0]), (3, false, [.ptr 4544 0])], [(64, [.nil, .nil, .bool, .nil]), (4544, [.at 800000000, .at 800000001, .bool, .at 800000002])], [(800000000, tL, .fz), (800000001, tW, (.pr .fz .fz)), (800000002, tI, .fz)]⟩
def Z_spec_l2Copy_61 : Shape := ⟨[], [], []⟩
abbrev mk_spec_l2Copy_61 (v0 : Int) (v1 : dM) (v2 : dM) (v3 : dM) : (L_spec_l2Copy_61).X := ((((), ()), ((), ()), ((), ()), (v0, ()), ()), ((v1.1, v1.2.1, v1.2.2.1, v1.2.2.2, ()), ((), (), v2.2.2.1, (), ()), ((), (), v3.2.2.1, (), ()), ()), (v3.1, v3.2.1, v3.2.2.2, ()))
abbrev ms_spec_l2Copy_61 (v0 : dM) (v1 : dM) (v2 : dM) : (S_spec_l2Copy_61).X := ((((), ()), ((), ()), ((), ()), ((), ()), ()), ((v0.1, v0.2.1, v0.2.2.1, v0.2.2.2, ()), ((), (), v1.2.2.1, (), ()), ((), (), v2.2.2.1, (), ()), ()), (v2.1, v2.2.1, v2.2.2.2, ()))
abbrev mo_spec_l2Copy_61 (v0 : dM) (v1 : dM) : (O_spec_l2Copy_61).X := ((((), ()), ((), ()), ()), (((), (), v0.2.2.1, (), ()), ((), (), v1.2.2.1, (), ()), ()), (v1.1, v1.2.1, v1.2.2.2, ()))
noncomputable def st_spec_l2Copy_61 (v0 : Int) (v1 : List (List Int)) (v2 : List dW) (v3 : Bool) (v4 : List Int) (v5 : Bool) (v6 : Bool) (v7 : List (List Int)) (v8 : List dW) (v9 : List Int) : Option ((L_spec_l2Copy_61).X ⊕ ((O_spec_l2Copy_61).X ⊕ (Z_spec_l2Copy_61).X)) :=
  bif (ltb v0 (v2.length : Int)) then
    bif (inb v0 v2.length) then
      bif (inb v0 v2.length) then
        bif (apok ([] : List Int).length ((nth v2 v0 (0, [])).2).length 8) then
          bif (apok v8.length ([((nth v2 v0 (0, [])).1, (([] : List Int) ++ ((nth v2 v0 (0, [])).2)))] : List dW).length 32) then
            some (.inl ((((), ()), ((), ()), ((), ()), ((IntKind.i64.wrap (v0 + 1)), ()), ()), ((v1, v2, v3, v4, ()), ((), (), v5, (), ()), ((), (), v6, (), ()), ()), (v7, (v8 ++ ([((nth v2 v0 (0, [])).1, (([] : List Int) ++ ((nth v2 v0 (0, [])).2)))] : List dW)), v9, ())))
          else none
        else none
      else none
    else none
  else
    some (.inr (.inl ((((), ()), ((), ()), ()), (((), (), v5, (), ()), ((), (), v6, (), ()), ()), (v7, v8, v9, ()))))
noncomputable def stx_spec_l2Copy_61 (x : (L_spec_l2Copy_61).X) := st_spec_l2Copy_61 x.1.2.2.2.1.1 x.2.1.1.1 x.2.1.1.2.1 x.2.1.1.2.2.1 x.2.1.1.2.2.2.1 x.2.1.2.1.2.2.1 x.2.1.2.2.1.2.2.1 x.2.2.1 x.2.2.2.1 x.2.2.2.2.1
def em_spec_l2Copy_61 (x : (S_spec_l2Copy_61).X) : (L_spec_l2Copy_61).X := ((((), ()), ((), ()), ((), ()), (0, ()), ()), ((x.2.1.1.1, x.2.1.1.2.1, x.2.1.1.2.2.1, x.2.1.1.2.2.2.1, ()), ((), (), x.2.1.2.1.2.2.1, (), ()), ((), (), x.2.1.2.2.1.2.2.1, (), ()), ()), (x.2.2.1, x.2.2.2.1, x.2.2.2.2.1, ()))
noncomputable def c_spec_l2Copy_61 : Code := (subN B_spec_l2Copy 64 244).getD .skip
theorem a_spec_l2Copy_61 : subN B_spec_l2Copy 64 61 = some (.block 2 (.loop c_spec_l2Copy_61)) := by kernel_rfl
theorem r_spec_l2Copy_61 (x : (L_spec_l2Copy_61).X) : roundT ⟨E_spec_l2Copy, 60, D_spec_l2Copy_1⟩ 2 c_spec_l2Copy_61 244 L_spec_l2Copy_61 O_spec_l2Copy_61 Z_spec_l2Copy_61 x = stx_spec_l2Copy_61 x := by kernel_rfl
noncomputable def fu_spec_l2Copy_61 (x : (S_spec_l2Copy_61).X) : Nat := (fun (u0 : List (List Int)) (u1 : List dW) (u2 : Bool) (u3 : List Int) (u4 : Bool) (u5 : Bool) (u6 : List (List Int)) (u7 : List dW) (u8 : List Int) => 18446744073709551616) x.2.1.1.1 x.2.1.1.2.1 x.2.1.1.2.2.1 x.2.1.1.2.2.2.1 x.2.1.2.1.2.2.1 x.2.1.2.2.1.2.2.1 x.2.2.1 x.2.2.2.1 x.2.2.2.2.1
noncomputable def F_spec_l2Copy_61 (x : (S_spec_l2Copy_61).X) : Option ((O_spec_l2Copy_61).X ⊕ (Z_spec_l2Copy_61).X) := loopN stx_spec_l2Copy_61 (fu_spec_l2Copy_61 x) (em_spec_l2Copy_61 x)
noncomputable def sg_spec_l2Copy_61 : Seg := ⟨S_spec_l2Copy_61, O_spec_l2Copy_61, Z_spec_l2Copy_61, F_spec_l2Copy_61⟩
noncomputable def D_spec_l2Copy_2 : Nat → Option Seg := fun q => bif Nat.beq q 61 then some sg_spec_l2Copy_61 else D_spec_l2Copy_1 q
theorem fr_spec_l2Copy_2 : FrOk Try.prog ⟨E_spec_l2Copy, 60, D_spec_l2Copy_2⟩ B_spec_l2Copy := (fr_spec_l2Copy_1).loop (sg := sg_spec_l2Copy_61) L_spec_l2Copy_61 em_spec_l2Copy_61 (by decide) a_spec_l2Copy_61 stx_spec_l2Copy_61 fu_spec_l2Copy_61 (by decide) (fun _ => rfl) (fun x r _ h => h) r_spec_l2Copy_61
abbrev I_spec_l2Copy : List Par := [.rd tM]
abbrev U_spec_l2Copy : List OT := [⟨false, tM, (.pr (.ow .fz) (.pr (.ow (.pr .fz .fz)) (.pr .fz (.ow .fz))))⟩]
noncomputable def raw_spec_l2Copy (a0 : dM) : Option (ResD U_spec_l2Copy × MutD I_spec_l2Copy) :=
  bif (apok ([] : List Int).length a0.2.2.2.length 8) then
    segM (F_spec_l2Copy_29 ((((), ()), ((), ()), ((), ()), ((), ()), ()), ((a0.1, a0.2.1, a0.2.2.1, a0.2.2.2, ()), ((), (), false, (), ()), ((), (), a0.2.2.1, (), ()), ()), ([], (([] : List Int) ++ a0.2.2.2), ()))) (fun y0 =>
      segM (F_spec_l2Copy_61 ((((), ()), ((), ()), ((), ()), ((), ()), ()), ((y0.2.1.1.1, y0.2.1.1.2.1, y0.2.1.1.2.2.1, y0.2.1.1.2.2.2.1, ()), ((), (), y0.2.1.2.1.2.2.1, (), ()), ((), (), y0.2.1.2.2.1.2.2.1, (), ()), ()), (y0.2.2.1, [], y0.2.2.2.1, ()))) (fun y1 =>
        some (((y1.2.2.1, y1.2.2.2.1, y1.2.1.2.1.2.2.1, y1.2.2.2.2.1), ()), ())) (fun y1 =>
        none)) (fun y0 =>
      none)
  else none
theorem e_spec_l2Copy (x : InD I_spec_l2Copy) : execF ⟨E_spec_l2Copy, 60, D_spec_l2Copy_2⟩ Try.f64.results.toList B_spec_l2Copy I_spec_l2Copy U_spec_l2Copy x = raw_spec_l2Copy x.1 := by kernel_rfl
theorem ok0_spec_l2Copy : ConOk Try.prog 64 ⟨I_spec_l2Copy, U_spec_l2Copy, fun x => raw_spec_l2Copy x.1⟩ := conOk_exec (fr_spec_l2Copy_2) Try.func64 (by kernel_rfl) (by kernel_rfl) Try.ntmps64.symm (by decide) (fun x r h => (e_spec_l2Copy x).trans h)
noncomputable def n_spec_l2Copy (a0 : dM) : dM := a0
theorem nn_spec_l2Copy (a0 : dM) (hk : InOk I_spec_l2Copy (a0, ())) : raw_spec_l2Copy a0 = (fun n => some ((n, ()), ())) (n_spec_l2Copy a0) := by
  have hb1 : a0.1.length * 24 ≤ 2 ^ 47 := hk.1.1.1
  have hb2 : a0.2.1.length * 32 ≤ 2 ^ 47 := hk.1.2.1.1
  have hb3 : a0.2.2.2.length * 8 ≤ 2 ^ 47 := hk.1.2.2.2.1
  have hs : ∀ i, i < a0.1.length → (a0.1.getD i []).length * 8 ≤ 2 ^ 47 := fun i hi => by rw [getD_get hi]; exact (hk.1.1.2 _ (List.getElem_mem hi)).1
  have hc : ∀ i, i < a0.2.1.length → (a0.2.1.getD i (0, [])).2.length * 8 ≤ 2 ^ 47 := fun i hi => by rw [getD_get hi]; exact (hk.1.2.1.2 _ (List.getElem_mem hi)).2.1
  have h1 : F_spec_l2Copy_29 (ms_spec_l2Copy_29 a0 noMem ([], [], a0.2.2.1, a0.2.2.2)) = some (.inl (mo_spec_l2Copy_29 a0 noMem (a0.1, [], a0.2.2.1, a0.2.2.2))) := by
    have := loopN_fold (step := stx_spec_l2Copy_29) a0.1 [] (fun i s => mk_spec_l2Copy_29 i a0 noMem (s, [], a0.2.2.1, a0.2.2.2)) (fun s x => s ++ [x]) (fun i s => s.length = i) (fun s => .inl (mo_spec_l2Copy_29 a0 noMem (s, [], a0.2.2.1, a0.2.2.2))) (fun i s hi hs2 => ⟨by
      have := hs i hi
      simp only [stx_spec_l2Copy_29, mk_spec_l2Copy_29, st_spec_l2Copy_29, ltb_t (show (i : Int) < a0.1.length by omega), cond_true, wr (show -9223372036854775808 ≤ (i : Int) + 1 by omega) (by omega), Int.natCast_add, Int.natCast_one, Int.toNat_natCast, inb_nat hi, nth_nat, List.nil_append]
      rw [apok_iff.2 (show (([] : List Int).length + (a0.1.getD i []).length) * 8 ≤ 140737488355328 by rw [List.length_nil]; omega), apok_iff.2 (show (s.length + [a0.1.getD i []].length) * 24 ≤ 140737488355328 by simp only [List.length_cons, List.length_nil]; omega)]; rfl, by simp [hs2]⟩) (fun s _ => by simp only [stx_spec_l2Copy_29, mk_spec_l2Copy_29, st_spec_l2Copy_29, ltb_f (Int.le_refl _), cond_false]) [] rfl 18446744073709551616 (by omega)
    rw [foldl_id] at this
    exact this
  have h2 : F_spec_l2Copy_61 (ms_spec_l2Copy_61 a0 noMem (a0.1, [], a0.2.2.1, a0.2.2.2)) = some (.inl (mo_spec_l2Copy_61 noMem a0)) := by
    have := loopN_fold (step := stx_spec_l2Copy_61) a0.2.1 (0, []) (fun i s => mk_spec_l2Copy_61 i a0 noMem (a0.1, s, a0.2.2.1, a0.2.2.2)) (fun s x => s ++ [x]) (fun i s => s.length = i) (fun s => .inl (mo_spec_l2Copy_61 noMem (a0.1, s, a0.2.2.1, a0.2.2.2))) (fun i s hi hs2 => ⟨by
      have := hc i hi
      simp only [stx_spec_l2Copy_61, mk_spec_l2Copy_61, st_spec_l2Copy_61, ltb_t (show (i : Int) < a0.2.1.length by omega), cond_true, wr (show -9223372036854775808 ≤ (i : Int) + 1 by omega) (by omega), Int.natCast_add, Int.natCast_one, Int.toNat_natCast, inb_nat hi, nth_nat, List.nil_append, pr_eta]
      rw [apok_iff.2 (show (([] : List Int).length + (a0.2.1.getD i (0, [])).2.length) * 8 ≤ 140737488355328 by rw [List.length_nil]; omega), apok_iff.2 (show (s.length + [a0.2.1.getD i (0, [])].length) * 32 ≤ 140737488355328 by simp only [List.length_cons, List.length_nil]; omega)]; rfl, by simp [hs2]⟩) (fun s _ => by simp only [stx_spec_l2Copy_61, mk_spec_l2Copy_61, st_spec_l2Copy_61, ltb_f (Int.le_refl _), cond_false]) [] rfl 18446744073709551616 (by omega)
    rw [foldl_id] at this
    exact this
  unfold raw_spec_l2Copy n_spec_l2Copy
  rw [apok_iff.2 (show (([] : List Int).length + a0.2.2.2.length) * 8 ≤ 140737488355328 by rw [List.length_nil]; omega)]
  simp only [cond_true, List.nil_append, h1, segM_inl, h2]
noncomputable def con_spec_l2Copy : Con := ⟨I_spec_l2Copy, U_spec_l2Copy, fun x => (fun n => some ((n, ()), ())) (n_spec_l2Copy x.1)⟩
theorem ok_spec_l2Copy : ConOk Try.prog 64 con_spec_l2Copy := (ok0_spec_l2Copy).mono (fun x r hk h => (nn_spec_l2Copy x.1 hk).trans h)
end
end Go.Tf
