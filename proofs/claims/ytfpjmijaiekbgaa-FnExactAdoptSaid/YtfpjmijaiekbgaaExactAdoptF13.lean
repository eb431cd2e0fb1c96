/- Functions of the program, and what they come to. -/
import Derived.Test.YtfpjmijaiekbgaaExactAdoptF12
namespace Go.Tf
open Go.Proofs
set_option synthInstance.maxHeartbeats 400000
set_option synthInstance.maxSize 10000
set_option linter.unusedVariables false
set_option linter.unusedSimpArgs false
set_option maxRecDepth 100000
/-! laws_eqIntSS -/
section
noncomputable def B_laws_eqIntSS : Code := (Try.f93.body).getD .skip
noncomputable def E_laws_eqIntSS : Env := envOf TT [(95, con_laws_eqIntS)] []
theorem fr_laws_eqIntSS_0 : FrOk Try.prog ⟨E_laws_eqIntSS, 27, fun _ => none⟩ B_laws_eqIntSS := frOk_base mixed tt_ok ⟨ok_laws_eqIntS, trivial⟩
noncomputable def D_laws_eqIntSS_0 : Nat → Option Seg := fun _ => none
def L_laws_eqIntSS_29 : Shape := ⟨[(0, false, [.br tL]), (1, false, [.br tL]), (5, false, [.int .i64])], [], []⟩
def S_laws_eqIntSS_29 : Shape := ⟨[(0, false, [.br tL]), (1, false, [.br tL]), (5, false, [.ci .i64 0])], [], []⟩
def O_laws_eqIntSS_29 : Shape := ⟨[], [], []⟩
def Z_laws_eqIntSS_29 : Shape := ⟨[(4, false, [.bool])], [], []⟩
noncomputable def st_laws_eqIntSS_29 (v0 : List (List Int)) (v1 : List (List Int)) (v2 : Int) : Option ((L_laws_eqIntSS_29).X ⊕ ((O_laws_eqIntSS_29).X ⊕ (Z_laws_eqIntSS_29).X)) :=
  bif (ltb v2 (v0.length : Int)) then
    bif (inb v2 v0.length) then
      bif (inb v2 v1.length) then
        let r2 := n_laws_eqIntS (nth v0 v2 []) (nth v1 v2 [])
        bif (!r2) then
          some (.inr (.inr (((false, ()), ()), (), ())))
        else
          some (.inl (((v0, ()), (v1, ()), ((IntKind.i64.wrap (v2 + 1)), ()), ()), (), ()))
      else none
    else none
  else
    some (.inr (.inl ((), (), ())))
noncomputable def stx_laws_eqIntSS_29 (x : (L_laws_eqIntSS_29).X) := st_laws_eqIntSS_29 x.1.1.1 x.1.2.1.1 x.1.2.2.1.1
def em_laws_eqIntSS_29 (x : (S_laws_eqIntSS_29).X) : (L_laws_eqIntSS_29).X := (((x.1.1.1, ()), (x.1.2.1.1, ()), (0, ()), ()), (), ())
noncomputable def c_laws_eqIntSS_29 : Code := (subN B_laws_eqIntSS 64 116).getD .skip
theorem a_laws_eqIntSS_29 : subN B_laws_eqIntSS 64 29 = some (.block 0 (.loop c_laws_eqIntSS_29)) := by kernel_rfl
theorem r_laws_eqIntSS_29 (x : (L_laws_eqIntSS_29).X) : roundT ⟨E_laws_eqIntSS, 27, D_laws_eqIntSS_0⟩ 0 c_laws_eqIntSS_29 116 L_laws_eqIntSS_29 O_laws_eqIntSS_29 Z_laws_eqIntSS_29 x = stx_laws_eqIntSS_29 x := by kernel_rfl
noncomputable def fu_laws_eqIntSS_29 (x : (S_laws_eqIntSS_29).X) : Nat := (fun (u0 : List (List Int)) (u1 : List (List Int)) => 18446744073709551616) x.1.1.1 x.1.2.1.1
noncomputable def F_laws_eqIntSS_29 (x : (S_laws_eqIntSS_29).X) : Option ((O_laws_eqIntSS_29).X ⊕ (Z_laws_eqIntSS_29).X) := loopN stx_laws_eqIntSS_29 (fu_laws_eqIntSS_29 x) (em_laws_eqIntSS_29 x)
noncomputable def sg_laws_eqIntSS_29 : Seg := ⟨S_laws_eqIntSS_29, O_laws_eqIntSS_29, Z_laws_eqIntSS_29, F_laws_eqIntSS_29⟩
noncomputable def D_laws_eqIntSS_1 : Nat → Option Seg := fun q => bif Nat.beq q 29 then some sg_laws_eqIntSS_29 else D_laws_eqIntSS_0 q
theorem fr_laws_eqIntSS_1 : FrOk Try.prog ⟨E_laws_eqIntSS, 27, D_laws_eqIntSS_1⟩ B_laws_eqIntSS := (fr_laws_eqIntSS_0).loop (sg := sg_laws_eqIntSS_29) L_laws_eqIntSS_29 em_laws_eqIntSS_29 (by decide) a_laws_eqIntSS_29 stx_laws_eqIntSS_29 fu_laws_eqIntSS_29 (by decide) (fun _ => rfl) (fun x r _ h => h) r_laws_eqIntSS_29
abbrev I_laws_eqIntSS : List Par := [.rd tLL, .rd tLL]
abbrev U_laws_eqIntSS : List OT := [⟨false, tB, .fz⟩]
noncomputable def raw_laws_eqIntSS (a0 : List (List Int)) (a1 : List (List Int)) : Option (ResD U_laws_eqIntSS × MutD I_laws_eqIntSS) :=
  bif ((a0.length : Int) != (a1.length : Int)) then
    some ((false, ()), ())
  else
    segM (F_laws_eqIntSS_29 (((a0, ()), (a1, ()), ((), ()), ()), (), ())) (fun y2 =>
      some ((true, ()), ())) (fun y2 =>
      some ((y2.1.1.1, ()), ()))
theorem e_laws_eqIntSS (x : InD I_laws_eqIntSS) : execF ⟨E_laws_eqIntSS, 27, D_laws_eqIntSS_1⟩ Try.f93.results.toList B_laws_eqIntSS I_laws_eqIntSS U_laws_eqIntSS x = raw_laws_eqIntSS x.1 x.2.1 := by kernel_rfl
theorem ok0_laws_eqIntSS : ConOk Try.prog 93 ⟨I_laws_eqIntSS, U_laws_eqIntSS, fun x => raw_laws_eqIntSS x.1 x.2.1⟩ := conOk_exec (fr_laws_eqIntSS_1) Try.func93 (by kernel_rfl) (by kernel_rfl) Try.ntmps93.symm (by decide) (fun x r h => (e_laws_eqIntSS x).trans h)
noncomputable def n_laws_eqIntSS (a0 a1 : List (List Int)) : Bool := decide (a0 = a1)
theorem nn_laws_eqIntSS (a0 a1 : List (List Int)) (hk : InOk I_laws_eqIntSS (a0, a1, ())) : raw_laws_eqIntSS a0 a1 = (fun n => some ((n, ()), ())) (n_laws_eqIntSS a0 a1) := by
  have hb : a0.length * 24 ≤ 2 ^ 47 := hk.1.1
  unfold raw_laws_eqIntSS n_laws_eqIntSS
  by_cases h : a0.length = a1.length
  · have hl : F_laws_eqIntSS_29 (((a0, ()), (a1, ()), ((), ()), ()), (), ()) = some (bif decide (a0 = a1) then .inl ((), (), ()) else .inr (((false, ()), ()), (), ())) :=
      loopN_eq (step := stx_laws_eqIntSS_29) a0 a1 ([] : List Int) (fun i => (((a0, ()), (a1, ()), ((i : Int), ()), ()), (), ())) n_laws_eqIntS eqd_laws_eqIntS _ _ h (fun i hi => by
        simp only [stx_laws_eqIntSS_29, st_laws_eqIntSS_29, inb_nat (h ▸ hi), inb_nat hi, nth_nat, Int.toNat_natCast, ltb_t (show (i : Int) < a0.length by omega), cond_true, wr (show -9223372036854775808 ≤ (i : Int) + 1 by omega) (by omega), Int.natCast_add, Int.natCast_one, pr_eta]
        cases n_laws_eqIntS (a0.getD i []) (a1.getD i []) <;> rfl) (by simp only [stx_laws_eqIntSS_29, st_laws_eqIntSS_29, ltb_f (Int.le_refl _), cond_false]) _ (by show _ < 18446744073709551616; omega)
    rw [show ((a0.length : Int) != (a1.length : Int)) = false by simp [h], bif_f, hl]
    cases decide (a0 = a1) <;> rfl
  · rw [show ((a0.length : Int) != (a1.length : Int)) = true from bne_iff_ne.2 (by omega), bif_t, decide_eq_false (fun e => h (congrArg _ e))]
theorem eqd_laws_eqIntSS (a0 a1 : List (List Int)) : n_laws_eqIntSS a0 a1 = decide (a0 = a1) := rfl
noncomputable def con_laws_eqIntSS : Con := ⟨I_laws_eqIntSS, U_laws_eqIntSS, fun x => (fun n => some ((n, ()), ())) (n_laws_eqIntSS x.1 x.2.1)⟩
theorem ok_laws_eqIntSS : ConOk Try.prog 93 con_laws_eqIntSS := (ok0_laws_eqIntSS).mono (fun x r hk h => (nn_laws_eqIntSS x.1 x.2.1 hk).trans h)
theorem eqr_laws_eqIntSS (a : List (List Int)) : n_laws_eqIntSS a a = true := by rw [eqd_laws_eqIntSS]; exact decide_eq_true rfl
end

/-! laws_eqWr -/
section
noncomputable def B_laws_eqWr : Code := (Try.f110.body).getD .skip
noncomputable def E_laws_eqWr : Env := envOf TT [(95, con_laws_eqIntS)] []
theorem fr_laws_eqWr_0 : FrOk Try.prog ⟨E_laws_eqWr, 16, fun _ => none⟩ B_laws_eqWr := frOk_base mixed tt_ok ⟨ok_laws_eqIntS, trivial⟩
noncomputable def D_laws_eqWr_0 : Nat → Option Seg := fun _ => none
abbrev I_laws_eqWr : List Par := [.rd tW, .rd tW]
abbrev U_laws_eqWr : List OT := [⟨false, tB, .fz⟩]
noncomputable def raw_laws_eqWr (a0 : dW) (a1 : dW) : Option (ResD U_laws_eqWr × MutD I_laws_eqWr) :=
  bif (a0.1 != a1.1) then
    some ((false, ()), ())
  else
    let r1 := n_laws_eqIntS a0.2 a1.2
    bif (!r1) then
      some ((false, ()), ())
    else
      some ((true, ()), ())
theorem e_laws_eqWr (x : InD I_laws_eqWr) : execF ⟨E_laws_eqWr, 16, D_laws_eqWr_0⟩ Try.f110.results.toList B_laws_eqWr I_laws_eqWr U_laws_eqWr x = raw_laws_eqWr x.1 x.2.1 := by kernel_rfl
theorem ok0_laws_eqWr : ConOk Try.prog 110 ⟨I_laws_eqWr, U_laws_eqWr, fun x => raw_laws_eqWr x.1 x.2.1⟩ := conOk_exec (fr_laws_eqWr_0) Try.func110 (by kernel_rfl) (by kernel_rfl) Try.ntmps110.symm (by decide) (fun x r h => (e_laws_eqWr x).trans h)
noncomputable def n_laws_eqWr (a0 : dW) (a1 : dW) : Bool :=
  bif (a0.1 != a1.1) then
    false
  else
    let r1 := n_laws_eqIntS a0.2 a1.2
    bif (!r1) then
      false
    else
      true
noncomputable def con_laws_eqWr : Con := ⟨I_laws_eqWr, U_laws_eqWr, fun x => (fun n => some ((n, ()), ())) (n_laws_eqWr x.1 x.2.1)⟩
theorem nn_laws_eqWr (a0 : dW) (a1 : dW) : raw_laws_eqWr a0 a1 = (fun n => some ((n, ()), ())) (n_laws_eqWr a0 a1) := bif_ty (p := fun (n : Bool) => ((n, ()), ())) (bif_some (p := fun (n : Bool) => ((n, ()), ())) rfl (bif_some (p := fun (n : Bool) => ((n, ()), ())) rfl rfl))
theorem ok_laws_eqWr : ConOk Try.prog 110 con_laws_eqWr := (ok0_laws_eqWr).mono (fun x r _ h => (nn_laws_eqWr x.1 x.2.1).trans h)
theorem eqd_laws_eqWr (a b : dW) : n_laws_eqWr a b = decide (a = b) := by
  unfold n_laws_eqWr
  simp only [eq_step1, eq_step2, eq_step3, eq_step4, eq_step5, eqd_laws_eqIntS, Prod.ext_iff, Bool.decide_and, Bool.and_true]
theorem eqr_laws_eqWr (a : dW) : n_laws_eqWr a a = true := by rw [eqd_laws_eqWr]; exact decide_eq_true rfl
end

/-! laws_eqWrS -/
section
noncomputable def B_laws_eqWrS : Code := (Try.f94.body).getD .skip
noncomputable def E_laws_eqWrS : Env := envOf TT [(110, con_laws_eqWr)] []
theorem fr_laws_eqWrS_0 : FrOk Try.prog ⟨E_laws_eqWrS, 27, fun _ => none⟩ B_laws_eqWrS := frOk_base mixed tt_ok ⟨ok_laws_eqWr, trivial⟩
noncomputable def D_laws_eqWrS_0 : Nat → Option Seg := fun _ => none
def L_laws_eqWrS_29 : Shape := ⟨[(0, false, [.br tW]), (1, false, [.br tW]), (5, false, [.int .i64])], [], []⟩
def S_laws_eqWrS_29 : Shape := ⟨[(0, false, [.br tW]), (1, false, [.br tW]), (5, false, [.ci .i64 0])], [], []⟩
def O_laws_eqWrS_29 : Shape := ⟨[], [], []⟩
def Z_laws_eqWrS_29 : Shape := ⟨[(4, false, [.bool])], [], []⟩
noncomputable def st_laws_eqWrS_29 (v0 : List dW) (v1 : List dW) (v2 : Int) : Option ((L_laws_eqWrS_29).X ⊕ ((O_laws_eqWrS_29).X ⊕ (Z_laws_eqWrS_29).X)) :=
  bif (ltb v2 (v0.length : Int)) then
    bif (inb v2 v0.length) then
      bif (inb v2 v1.length) then
        let r2 := n_laws_eqWr (nth v0 v2 (0, [])) (nth v1 v2 (0, []))
        bif (!r2) then
          some (.inr (.inr (((false, ()), ()), (), ())))
        else
          some (.inl (((v0, ()), (v1, ()), ((IntKind.i64.wrap (v2 + 1)), ()), ()), (), ()))
      else none
    else none
  else
    some (.inr (.inl ((), (), ())))
noncomputable def stx_laws_eqWrS_29 (x : (L_laws_eqWrS_29).X) := st_laws_eqWrS_29 x.1.1.1 x.1.2.1.1 x.1.2.2.1.1
def em_laws_eqWrS_29 (x : (S_laws_eqWrS_29).X) : (L_laws_eqWrS_29).X := (((x.1.1.1, ()), (x.1.2.1.1, ()), (0, ()), ()), (), ())
noncomputable def c_laws_eqWrS_29 : Code := (subN B_laws_eqWrS 64 116).getD .skip
theorem a_laws_eqWrS_29 : subN B_laws_eqWrS 64 29 = some (.block 0 (.loop c_laws_eqWrS_29)) := by kernel_rfl
theorem r_laws_eqWrS_29 (x : (L_laws_eqWrS_29).X) : roundT ⟨E_laws_eqWrS, 27, D_laws_eqWrS_0⟩ 0 c_laws_eqWrS_29 116 L_laws_eqWrS_29 O_laws_eqWrS_29 Z_laws_eqWrS_29 x = stx_laws_eqWrS_29 x := by kernel_rfl
noncomputable def fu_laws_eqWrS_29 (x : (S_laws_eqWrS_29).X) : Nat := (fun (u0 : List dW) (u1 : List dW) => 18446744073709551616) x.1.1.1 x.1.2.1.1
noncomputable def F_laws_eqWrS_29 (x : (S_laws_eqWrS_29).X) : Option ((O_laws_eqWrS_29).X ⊕ (Z_laws_eqWrS_29).X) := loopN stx_laws_eqWrS_29 (fu_laws_eqWrS_29 x) (em_laws_eqWrS_29 x)
noncomputable def sg_laws_eqWrS_29 : Seg := ⟨S_laws_eqWrS_29, O_laws_eqWrS_29, Z_laws_eqWrS_29, F_laws_eqWrS_29⟩
noncomputable def D_laws_eqWrS_1 : Nat → Option Seg := fun q => bif Nat.beq q 29 then some sg_laws_eqWrS_29 else D_laws_eqWrS_0 q
theorem fr_laws_eqWrS_1 : FrOk Try.prog ⟨E_laws_eqWrS, 27, D_laws_eqWrS_1⟩ B_laws_eqWrS := (fr_laws_eqWrS_0).loop (sg := sg_laws_eqWrS_29) L_laws_eqWrS_29 em_laws_eqWrS_29 (by decide) a_laws_eqWrS_29 stx_laws_eqWrS_29 fu_laws_eqWrS_29 (by decide) (fun _ => rfl) (fun x r _ h => h) r_laws_eqWrS_29
abbrev I_laws_eqWrS : List Par := [.rd tWs, .rd tWs]
abbrev U_laws_eqWrS : List OT := [⟨false, tB, .fz⟩]
noncomputable def raw_laws_eqWrS (a0 : List dW) (a1 : List dW) : Option (ResD U_laws_eqWrS × MutD I_laws_eqWrS) :=
  bif ((a0.length : Int) != (a1.length : Int)) then
    some ((false, ()), ())
  else
    segM (F_laws_eqWrS_29 (((a0, ()), (a1, ()), ((), ()), ()), (), ())) (fun y2 =>
      some ((true, ()), ())) (fun y2 =>
      some ((y2.1.1.1, ()), ()))
theorem e_laws_eqWrS (x : InD I_laws_eqWrS) : execF ⟨E_laws_eqWrS, 27, D_laws_eqWrS_1⟩ Try.f94.results.toList B_laws_eqWrS I_laws_eqWrS U_laws_eqWrS x = raw_laws_eqWrS x.1 x.2.1 := by kernel_rfl
theorem ok0_laws_eqWrS : ConOk Try.prog 94 ⟨I_laws_eqWrS, U_laws_eqWrS, fun x => raw_laws_eqWrS x.1 x.2.1⟩ := conOk_exec (fr_laws_eqWrS_1) Try.func94 (by kernel_rfl) (by kernel_rfl) Try.ntmps94.symm (by decide) (fun x r h => (e_laws_eqWrS x).trans h)
noncomputable def n_laws_eqWrS (a0 a1 : List (dW)) : Bool := decide (a0 = a1)
theorem nn_laws_eqWrS (a0 a1 : List (dW)) (hk : InOk I_laws_eqWrS (a0, a1, ())) : raw_laws_eqWrS a0 a1 = (fun n => some ((n, ()), ())) (n_laws_eqWrS a0 a1) := by
  have hb : a0.length * 32 ≤ 2 ^ 47 := hk.1.1
  unfold raw_laws_eqWrS n_laws_eqWrS
  by_cases h : a0.length = a1.length
  · have hl : F_laws_eqWrS_29 (((a0, ()), (a1, ()), ((), ()), ()), (), ()) = some (bif decide (a0 = a1) then .inl ((), (), ()) else .inr (((false, ()), ()), (), ())) :=
      loopN_eq (step := stx_laws_eqWrS_29) a0 a1 ((0, []) : dW) (fun i => (((a0, ()), (a1, ()), ((i : Int), ()), ()), (), ())) n_laws_eqWr eqd_laws_eqWr _ _ h (fun i hi => by
        simp only [stx_laws_eqWrS_29, st_laws_eqWrS_29, inb_nat (h ▸ hi), inb_nat hi, nth_nat, Int.toNat_natCast, ltb_t (show (i : Int) < a0.length by omega), cond_true, wr (show -9223372036854775808 ≤ (i : Int) + 1 by omega) (by omega), Int.natCast_add, Int.natCast_one, pr_eta]
        cases n_laws_eqWr (a0.getD i (0, [])) (a1.getD i (0, [])) <;> rfl) (by simp only [stx_laws_eqWrS_29, st_laws_eqWrS_29, ltb_f (Int.le_refl _), cond_false]) _ (by show _ < 18446744073709551616; omega)
    rw [show ((a0.length : Int) != (a1.length : Int)) = false by simp [h], bif_f, hl]
    cases decide (a0 = a1) <;> rfl
  · rw [show ((a0.length : Int) != (a1.length : Int)) = true from bne_iff_ne.2 (by omega), bif_t, decide_eq_false (fun e => h (congrArg _ e))]
theorem eqd_laws_eqWrS (a0 a1 : List (dW)) : n_laws_eqWrS a0 a1 = decide (a0 = a1) := rfl
noncomputable def con_laws_eqWrS : Con := ⟨I_laws_eqWrS, U_laws_eqWrS, fun x => (fun n => some ((n, ()), ())) (n_laws_eqWrS x.1 x.2.1)⟩
theorem ok_laws_eqWrS : ConOk Try.prog 94 con_laws_eqWrS := (ok0_laws_eqWrS).mono (fun x r hk h => (nn_laws_eqWrS x.1 x.2.1 hk).trans h)
theorem eqr_laws_eqWrS (a : List dW) : n_laws_eqWrS a a = true := by rw [eqd_laws_eqWrS]; exact decide_eq_true rfl
end

/-! laws_eqMem -/
section
noncomputable def B_laws_eqMem : Code := (Try.f61.body).getD .skip
noncomputable def E_laws_eqMem : Env := envOf TT [(93, con_laws_eqIntSS), (94, con_laws_eqWrS), (95, con_laws_eqIntS)] []
theorem fr_laws_eqMem_0 : FrOk Try.prog ⟨E_laws_eqMem, 28, fun _ => none⟩ B_laws_eqMem := frOk_base mixed tt_ok ⟨ok_laws_eqIntSS, ok_laws_eqWrS, ok_laws_eqIntS, trivial⟩
noncomputable def D_laws_eqMem_0 : Nat → Option Seg := fun _ => none
abbrev I_laws_eqMem : List Par := [.rd tM, .rd tM]
abbrev U_laws_eqMem : List OT := [⟨false, tB, .fz⟩]
noncomputable def raw_laws_eqMem (a0 : dM) (a1 : dM) : Option (ResD U_laws_eqMem × MutD I_laws_eqMem) :=
  let r1 := n_laws_eqIntSS a0.1 a1.1
  bif (!r1) then
    some ((false, ()), ())
  else
    let r2 := n_laws_eqWrS a0.2.1 a1.2.1
    bif (!r2) then
      some ((false, ()), ())
    else
      bif (!(a0.2.2.1 == a1.2.2.1)) then
        some ((false, ()), ())
      else
        let r3 := n_laws_eqIntS a0.2.2.2 a1.2.2.2
        bif (!r3) then
          some ((false, ()), ())
        else
          some ((true, ()), ())
theorem e_laws_eqMem (x : InD I_laws_eqMem) : execF ⟨E_laws_eqMem, 28, D_laws_eqMem_0⟩ Try.f61.results.toList B_laws_eqMem I_laws_eqMem U_laws_eqMem x = raw_laws_eqMem x.1 x.2.1 := by kernel_rfl
theorem ok0_laws_eqMem : ConOk Try.prog 61 ⟨I_laws_eqMem, U_laws_eqMem, fun x => raw_laws_eqMem x.1 x.2.1⟩ := conOk_exec (fr_laws_eqMem_0) Try.func61 (by kernel_rfl) (by kernel_rfl) Try.ntmps61.symm (by decide) (fun x r h => (e_laws_eqMem x).trans h)
noncomputable def n_laws_eqMem (a0 : dM) (a1 : dM) : Bool :=
  let r1 := n_laws_eqIntSS a0.1 a1.1
  bif (!r1) then
    false
  else
    let r2 := n_laws_eqWrS a0.2.1 a1.2.1
    bif (!r2) then
      false
    else
      bif (!(a0.2.2.1 == a1.2.2.1)) then
        false
      else
        let r3 := n_laws_eqIntS a0.2.2.2 a1.2.2.2
        bif (!r3) then
          false
        else
          true
noncomputable def con_laws_eqMem : Con := ⟨I_laws_eqMem, U_laws_eqMem, fun x => (fun n => some ((n, ()), ())) (n_laws_eqMem x.1 x.2.1)⟩
theorem nn_laws_eqMem (a0 : dM) (a1 : dM) : raw_laws_eqMem a0 a1 = (fun n => some ((n, ()), ())) (n_laws_eqMem a0 a1) := bif_ty (p := fun (n : Bool) => ((n, ()), ())) (bif_some (p := fun (n : Bool) => ((n, ()), ())) rfl (bif_some (p := fun (n : Bool) => ((n, ()), ())) rfl (bif_some (p := fun (n : Bool) => ((n, ()), ())) rfl (bif_some (p := fun (n : Bool) => ((n, ()), ())) rfl rfl))))
theorem ok_laws_eqMem : ConOk Try.prog 61 con_laws_eqMem := (ok0_laws_eqMem).mono (fun x r _ h => (nn_laws_eqMem x.1 x.2.1).trans h)
theorem eqd_laws_eqMem (a b : dM) : n_laws_eqMem a b = decide (a = b) := by
  unfold n_laws_eqMem
  simp only [eq_step1, eq_step2, eq_step3, eq_step4, eq_step5, eqd_laws_eqIntSS, eqd_laws_eqWrS, eqd_laws_eqIntS, Prod.ext_iff, Bool.decide_and, Bool.and_true]
theorem eqr_laws_eqMem (a : dM) : n_laws_eqMem a a = true := by rw [eqd_laws_eqMem]; exact decide_eq_true rfl
end

/-! laws_eqMemS -/
section
noncomputable def B_laws_eqMemS : Code := (Try.f28.body).getD .skip
noncomputable def E_laws_eqMemS : Env := envOf TT [(61, con_laws_eqMem)] []
theorem fr_laws_eqMemS_0 : FrOk Try.prog ⟨E_laws_eqMemS, 27, fun _ => none⟩ B_laws_eqMemS := frOk_base mixed tt_ok ⟨ok_laws_eqMem, trivial⟩
noncomputable def D_laws_eqMemS_0 : Nat → Option Seg := fun _ => none
def L_laws_eqMemS_29 : Shape := ⟨[(0, false, [.br tM]), (1, false, [.br tM]), (5, false, [.int .i64])], [], []⟩
def S_laws_eqMemS_29 : Shape := ⟨[(0, false, [.br tM]), (1, false, [.br tM]), (5, false, [.ci .i64 0])], [], []⟩
def O_laws_eqMemS_29 : Shape := ⟨[], [], []⟩
def Z_laws_eqMemS_29 : Shape := ⟨[(4, false, [.bool])], [], []⟩
noncomputable def st_laws_eqMemS_29 (v0 : List dM) (v1 : List dM) (v2 : Int) : Option ((L_laws_eqMemS_29).X ⊕ ((O_laws_eqMemS_29).X ⊕ (Z_laws_eqMemS_29).X)) :=
  bif (ltb v2 (v0.length : Int)) then
    bif (inb v2 v0.length) then
      bif (inb v2 v1.length) then
        let r2 := n_laws_eqMem ((nth v0 v2 ([], [], false, [])).1, ((nth v0 v2 ([], [], false, [])).2).1, (((nth v0 v2 ([], [], false, [])).2).2)) ((nth v1 v2 ([], [], false, [])).1, ((nth v1 v2 ([], [], false, [])).2).1, (((nth v1 v2 ([], [], false, [])).2).2))
        bif (!r2) then
          some (.inr (.inr (((false, ()), ()), (), ())))
        else
          some (.inl (((v0, ()), (v1, ()), ((IntKind.i64.wrap (v2 + 1)), ()), ()), (), ()))
      else none
    else none
  else
    some (.inr (.inl ((), (), ())))
noncomputable def stx_laws_eqMemS_29 (x : (L_laws_eqMemS_29).X) := st_laws_eqMemS_29 x.1.1.1 x.1.2.1.1 x.1.2.2.1.1
def em_laws_eqMemS_29 (x : (S_laws_eqMemS_29).X) : (L_laws_eqMemS_29).X := (((x.1.1.1, ()), (x.1.2.1.1, ()), (0, ()), ()), (), ())
noncomputable def c_laws_eqMemS_29 : Code := (subN B_laws_eqMemS 64 116).getD .skip
theorem a_laws_eqMemS_29 : subN B_laws_eqMemS 64 29 = some (.block 0 (.loop c_laws_eqMemS_29)) := by kernel_rfl
theorem r_laws_eqMemS_29 (x : (L_laws_eqMemS_29).X) : roundT ⟨E_laws_eqMemS, 27, D_laws_eqMemS_0⟩ 0 c_laws_eqMemS_29 116 L_laws_eqMemS_29 O_laws_eqMemS_29 Z_laws_eqMemS_29 x = stx_laws_eqMemS_29 x := by kernel_rfl
noncomputable def fu_laws_eqMemS_29 (x : (S_laws_eqMemS_29).X) : Nat := (fun (u0 : List dM) (u1 : List dM) => 18446744073709551616) x.1.1.1 x.1.2.1.1
noncomputable def F_laws_eqMemS_29 (x : (S_laws_eqMemS_29).X) : Option ((O_laws_eqMemS_29).X ⊕ (Z_laws_eqMemS_29).X) := loopN stx_laws_eqMemS_29 (fu_laws_eqMemS_29 x) (em_laws_eqMemS_29 x)
noncomputable def sg_laws_eqMemS_29 : Seg := ⟨S_laws_eqMemS_29, O_laws_eqMemS_29, Z_laws_eqMemS_29, F_laws_eqMemS_29⟩
noncomputable def D_laws_eqMemS_1 : Nat → Option Seg := fun q => bif Nat.beq q 29 then some sg_laws_eqMemS_29 else D_laws_eqMemS_0 q
theorem fr_laws_eqMemS_1 : FrOk Try.prog ⟨E_laws_eqMemS, 27, D_laws_eqMemS_1⟩ B_laws_eqMemS := (fr_laws_eqMemS_0).loop (sg := sg_laws_eqMemS_29) L_laws_eqMemS_29 em_laws_eqMemS_29 (by decide) a_laws_eqMemS_29 stx_laws_eqMemS_29 fu_laws_eqMemS_29 (by decide) (fun _ => rfl) (fun x r _ h => h) r_laws_eqMemS_29
abbrev I_laws_eqMemS : List Par := [.rd tMs, .rd tMs]
abbrev U_laws_eqMemS : List OT := [⟨false, tB, .fz⟩]
noncomputable def raw_laws_eqMemS (a0 : List dM) (a1 : List dM) : Option (ResD U_laws_eqMemS × MutD I_laws_eqMemS) :=
  bif ((a0.length : Int) != (a1.length : Int)) then
    some ((false, ()), ())
  else
    segM (F_laws_eqMemS_29 (((a0, ()), (a1, ()), ((), ()), ()), (), ())) (fun y2 =>
      some ((true, ()), ())) (fun y2 =>
      some ((y2.1.1.1, ()), ()))
theorem e_laws_eqMemS (x : InD I_laws_eqMemS) : execF ⟨E_laws_eqMemS, 27, D_laws_eqMemS_1⟩ Try.f28.results.toList B_laws_eqMemS I_laws_eqMemS U_laws_eqMemS x = raw_laws_eqMemS x.1 x.2.1 := by kernel_rfl
theorem ok0_laws_eqMemS : ConOk Try.prog 28 ⟨I_laws_eqMemS, U_laws_eqMemS, fun x => raw_laws_eqMemS x.1 x.2.1⟩ := conOk_exec (fr_laws_eqMemS_1) Try.func28 (by kernel_rfl) (by kernel_rfl) Try.ntmps28.symm (by decide) (fun x r h => (e_laws_eqMemS x).trans h)
noncomputable def n_laws_eqMemS (a0 a1 : List (dM)) : Bool := decide (a0 = a1)
theorem nn_laws_eqMemS (a0 a1 : List (dM)) (hk : InOk I_laws_eqMemS (a0, a1, ())) : raw_laws_eqMemS a0 a1 = (fun n => some ((n, ()), ())) (n_laws_eqMemS a0 a1) := by
  have hb : a0.length * 80 ≤ 2 ^ 47 := hk.1.1
  unfold raw_laws_eqMemS n_laws_eqMemS
  by_cases h : a0.length = a1.length
  · have hl : F_laws_eqMemS_29 (((a0, ()), (a1, ()), ((), ()), ()), (), ()) = some (bif decide (a0 = a1) then .inl ((), (), ()) else .inr (((false, ()), ()), (), ())) :=
      loopN_eq (step := stx_laws_eqMemS_29) a0 a1 (([], [], false, []) : dM) (fun i => (((a0, ()), (a1, ()), ((i : Int), ()), ()), (), ())) n_laws_eqMem eqd_laws_eqMem _ _ h (fun i hi => by
        simp only [stx_laws_eqMemS_29, st_laws_eqMemS_29, inb_nat (h ▸ hi), inb_nat hi, nth_nat, Int.toNat_natCast, ltb_t (show (i : Int) < a0.length by omega), cond_true, wr (show -9223372036854775808 ≤ (i : Int) + 1 by omega) (by omega), Int.natCast_add, Int.natCast_one, pr_eta]
        cases n_laws_eqMem (a0.getD i ([], [], false, [])) (a1.getD i ([], [], false, [])) <;> rfl) (by simp only [stx_laws_eqMemS_29, st_laws_eqMemS_29, ltb_f (Int.le_refl _), cond_false]) _ (by show _ < 18446744073709551616; omega)
    rw [show ((a0.length : Int) != (a1.length : Int)) = false by simp [h], bif_f, hl]
    cases decide (a0 = a1) <;> rfl
  · rw [show ((a0.length : Int) != (a1.length : Int)) = true from bne_iff_ne.2 (by omega), bif_t, decide_eq_false (fun e => h (congrArg _ e))]
theorem eqd_laws_eqMemS (a0 a1 : List (dM)) : n_laws_eqMemS a0 a1 = decide (a0 = a1) := rfl
noncomputable def con_laws_eqMemS : Con := ⟨I_laws_eqMemS, U_laws_eqMemS, fun x => (fun n => some ((n, ()), ())) (n_laws_eqMemS x.1 x.2.1)⟩
theorem ok_laws_eqMemS : ConOk Try.prog 28 con_laws_eqMemS := (ok0_laws_eqMemS).mono (fun x r hk h => (nn_laws_eqMemS x.1 x.2.1 hk).trans h)
theorem eqr_laws_eqMemS (a : List dM) : n_laws_eqMemS a a = true := by rw [eqd_laws_eqMemS]; exact decide_eq_true rfl
end

/-! laws_eqEnt -/
section
noncomputable def B_laws_eqEnt : Code := (Try.f62.body).getD .skip
noncomputable def E_laws_eqEnt : Env := envOf TT [(95, con_laws_eqIntS)] []
theorem fr_laws_eqEnt_0 : FrOk Try.prog ⟨E_laws_eqEnt, 16, fun _ => none⟩ B_laws_eqEnt := frOk_base mixed tt_ok ⟨ok_laws_eqIntS, trivial⟩
noncomputable def D_laws_eqEnt_0 : Nat → Option Seg := fun _ => none
abbrev I_laws_eqEnt : List Par := [.rd tW, .rd tW]
abbrev U_laws_eqEnt : List OT := [⟨false, tB, .fz⟩]
noncomputable def raw_laws_eqEnt (a0 : dW) (a1 : dW) : Option (ResD U_laws_eqEnt × MutD I_laws_eqEnt) :=
  bif (a0.1 != a1.1) then
    some ((false, ()), ())
  else
    let r1 := n_laws_eqIntS a0.2 a1.2
    bif (!r1) then
      some ((false, ()), ())
    else
      some ((true, ()), ())
theorem e_laws_eqEnt (x : InD I_laws_eqEnt) : execF ⟨E_laws_eqEnt, 16, D_laws_eqEnt_0⟩ Try.f62.results.toList B_laws_eqEnt I_laws_eqEnt U_laws_eqEnt x = raw_laws_eqEnt x.1 x.2.1 := by kernel_rfl
theorem ok0_laws_eqEnt : ConOk Try.prog 62 ⟨I_laws_eqEnt, U_laws_eqEnt, fun x => raw_laws_eqEnt x.1 x.2.1⟩ := conOk_exec (fr_laws_eqEnt_0) Try.func62 (by kernel_rfl) (by kernel_rfl) Try.ntmps62.symm (by decide) (fun x r h => (e_laws_eqEnt x).trans h)
noncomputable def n_laws_eqEnt (a0 : dW) (a1 : dW) : Bool :=
  bif (a0.1 != a1.1) then
    false
  else
    let r1 := n_laws_eqIntS a0.2 a1.2
    bif (!r1) then
      false
    else
      true
noncomputable def con_laws_eqEnt : Con := ⟨I_laws_eqEnt, U_laws_eqEnt, fun x => (fun n => some ((n, ()), ())) (n_laws_eqEnt x.1 x.2.1)⟩
theorem nn_laws_eqEnt (a0 : dW) (a1 : dW) : raw_laws_eqEnt a0 a1 = (fun n => some ((n, ()), ())) (n_laws_eqEnt a0 a1) := bif_ty (p := fun (n : Bool) => ((n, ()), ())) (bif_some (p := fun (n : Bool) => ((n, ()), ())) rfl (bif_some (p := fun (n : Bool) => ((n, ()), ())) rfl rfl))
theorem ok_laws_eqEnt : ConOk Try.prog 62 con_laws_eqEnt := (ok0_laws_eqEnt).mono (fun x r _ h => (nn_laws_eqEnt x.1 x.2.1).trans h)
theorem eqd_laws_eqEnt (a b : dW) : n_laws_eqEnt a b = decide (a = b) := by
  unfold n_laws_eqEnt
  simp only [eq_step1, eq_step2, eq_step3, eq_step4, eq_step5, eqd_laws_eqIntS, Prod.ext_iff, Bool.decide_and, Bool.and_true]
theorem eqr_laws_eqEnt (a : dW) : n_laws_eqEnt a a = true := by rw [eqd_laws_eqEnt]; exact decide_eq_true rfl
end
end Go.Tf
