/- Functions of the program, and what they come to. -/
import Derived.Test.YtgmadfpnljibhaaExactSpoilAtF9
namespace Go.Tf
open Go.Proofs
set_option synthInstance.maxHeartbeats 400000
set_option synthInstance.maxSize 10000
set_option linter.unusedVariables false
set_option linter.unusedSimpArgs false
set_option maxRecDepth 100000
/-! laws_eqGeo -/
section
noncomputable def B_laws_eqGeo : Code := (Try.f70.body).getD .skip
noncomputable def E_laws_eqGeo : Env := envOf TT [] []
theorem fr_laws_eqGeo_0 : FrOk Try.prog ⟨E_laws_eqGeo, 15, fun _ => none⟩ B_laws_eqGeo := frOk_base mixed tt_ok trivial
noncomputable def D_laws_eqGeo_0 : Nat → Option Seg := fun _ => none
abbrev I_laws_eqGeo : List Par := [.rd tG, .rd tG]
abbrev U_laws_eqGeo : List OT := [⟨false, tB, .fz⟩]
noncomputable def raw_laws_eqGeo (a0 a1 : dG) : Option (ResD U_laws_eqGeo × MutD I_laws_eqGeo) :=
  bif (a0.1 != a1.1) then
    some ((false, ()), ())
  else
    bif (a0.2 != a1.2) then
      some ((false, ()), ())
    else
      some ((true, ()), ())
theorem e_laws_eqGeo (x : InD I_laws_eqGeo) : execF ⟨E_laws_eqGeo, 15, D_laws_eqGeo_0⟩ Try.f70.results.toList B_laws_eqGeo I_laws_eqGeo U_laws_eqGeo x = raw_laws_eqGeo x.1 x.2.1 := by kernel_rfl
theorem ok0_laws_eqGeo : ConOk Try.prog 70 ⟨I_laws_eqGeo, U_laws_eqGeo, fun x => raw_laws_eqGeo x.1 x.2.1⟩ := conOk_exec (fr_laws_eqGeo_0) Try.func70 (by kernel_rfl) (by kernel_rfl) Try.ntmps70.symm (by decide) (fun x r h => (e_laws_eqGeo x).trans h)
noncomputable def n_laws_eqGeo (a0 a1 : dG) : Bool :=
  bif (a0.1 != a1.1) then
    false
  else
    bif (a0.2 != a1.2) then
      false
    else
      true
noncomputable def con_laws_eqGeo : Con := ⟨I_laws_eqGeo, U_laws_eqGeo, fun x => (fun n => some ((n, ()), ())) (n_laws_eqGeo x.1 x.2.1)⟩
theorem nn_laws_eqGeo (a0 a1 : dG) : raw_laws_eqGeo a0 a1 = (fun n => some ((n, ()), ())) (n_laws_eqGeo a0 a1) := bif_ty (p := fun (n : Bool) => ((n, ()), ())) (bif_some (p := fun (n : Bool) => ((n, ()), ())) rfl (bif_some (p := fun (n : Bool) => ((n, ()), ())) rfl rfl))
theorem ok_laws_eqGeo : ConOk Try.prog 70 con_laws_eqGeo := (ok0_laws_eqGeo).mono (fun x r _ h => (nn_laws_eqGeo x.1 x.2.1).trans h)
theorem eqd_laws_eqGeo (a b : dG) : n_laws_eqGeo a b = decide (a = b) := by
  unfold n_laws_eqGeo
  simp only [eq_step1, eq_step2, eq_step3, eq_step4, eq_step5, Prod.ext_iff, Bool.decide_and, Bool.and_true]
theorem eqr_laws_eqGeo (a : dG) : n_laws_eqGeo a a = true := by rw [eqd_laws_eqGeo]; exact decide_eq_true rfl
end

/-! laws_eqIntS -/
section
noncomputable def B_laws_eqIntS : Code := (Try.f145.body).getD .skip
noncomputable def E_laws_eqIntS : Env := envOf TT [] []
theorem fr_laws_eqIntS_0 : FrOk Try.prog ⟨E_laws_eqIntS, 26, fun _ => none⟩ B_laws_eqIntS := frOk_base mixed tt_ok trivial
noncomputable def D_laws_eqIntS_0 : Nat → Option Seg := fun _ => none
def L_laws_eqIntS_29 : Shape := ⟨[(0, false, [.br tI]), (1, false, [.br tI]), (5, false, [.int .i64])], [], []⟩
def S_laws_eqIntS_29 : Shape := ⟨[(0, false, [.br tI]), (1, false, [.br tI]), (5, false, [.ci .i64 0])], [], []⟩
def O_laws_eqIntS_29 : Shape := ⟨[], [], []⟩
def Z_laws_eqIntS_29 : Shape := ⟨[(4, false, [.bool])], [], []⟩
noncomputable def st_laws_eqIntS_29 (v0 v1 : List Int) (v2 : Int) : Option ((L_laws_eqIntS_29).X ⊕ ((O_laws_eqIntS_29).X ⊕ (Z_laws_eqIntS_29).X)) :=
  bif (ltb v2 (v0.length : Int)) then
    bif (inb v2 v0.length) then
      bif (inb v2 v1.length) then
        bif ((nth v0 v2 0) != (nth v1 v2 0)) then
          some (.inr (.inr (((false, ()), ()), (), ())))
        else
          some (.inl (((v0, ()), (v1, ()), ((IntKind.i64.wrap (v2 + 1)), ()), ()), (), ()))
      else none
    else none
  else
    some (.inr (.inl ((), (), ())))
noncomputable def stx_laws_eqIntS_29 (x : (L_laws_eqIntS_29).X) := st_laws_eqIntS_29 x.1.1.1 x.1.2.1.1 x.1.2.2.1.1
def em_laws_eqIntS_29 (x : (S_laws_eqIntS_29).X) : (L_laws_eqIntS_29).X := (((x.1.1.1, ()), (x.1.2.1.1, ()), (0, ()), ()), (), ())
noncomputable def c_laws_eqIntS_29 : Code := (subN B_laws_eqIntS 64 116).getD .skip
theorem a_laws_eqIntS_29 : subN B_laws_eqIntS 64 29 = some (.block 0 (.loop c_laws_eqIntS_29)) := by kernel_rfl
theorem r_laws_eqIntS_29 (x : (L_laws_eqIntS_29).X) : roundT ⟨E_laws_eqIntS, 26, D_laws_eqIntS_0⟩ 0 c_laws_eqIntS_29 116 L_laws_eqIntS_29 O_laws_eqIntS_29 Z_laws_eqIntS_29 x = stx_laws_eqIntS_29 x := by kernel_rfl
def fu_laws_eqIntS_29 (x : (S_laws_eqIntS_29).X) : Nat := 18446744073709551616
noncomputable def F_laws_eqIntS_29 (x : (S_laws_eqIntS_29).X) : Option ((O_laws_eqIntS_29).X ⊕ (Z_laws_eqIntS_29).X) := loopN stx_laws_eqIntS_29 (fu_laws_eqIntS_29 x) (em_laws_eqIntS_29 x)
noncomputable def sg_laws_eqIntS_29 : Seg := ⟨S_laws_eqIntS_29, O_laws_eqIntS_29, Z_laws_eqIntS_29, F_laws_eqIntS_29⟩
noncomputable def D_laws_eqIntS_1 : Nat → Option Seg := fun q => bif Nat.beq q 29 then some sg_laws_eqIntS_29 else D_laws_eqIntS_0 q
theorem fr_laws_eqIntS_1 : FrOk Try.prog ⟨E_laws_eqIntS, 26, D_laws_eqIntS_1⟩ B_laws_eqIntS := (fr_laws_eqIntS_0).loop (sg := sg_laws_eqIntS_29) L_laws_eqIntS_29 em_laws_eqIntS_29 (by decide) a_laws_eqIntS_29 stx_laws_eqIntS_29 fu_laws_eqIntS_29 (by decide) (fun _ => rfl) (fun x r _ h => h) r_laws_eqIntS_29
abbrev I_laws_eqIntS : List Par := [.rd tL, .rd tL]
abbrev U_laws_eqIntS : List OT := [⟨false, tB, .fz⟩]
noncomputable def raw_laws_eqIntS (a0 a1 : List Int) : Option (ResD U_laws_eqIntS × MutD I_laws_eqIntS) :=
  bif ((a0.length : Int) != (a1.length : Int)) then
    some ((false, ()), ())
  else
    segM (F_laws_eqIntS_29 (((a0, ()), (a1, ()), ((), ()), ()), (), ())) (fun y0 =>
      some ((true, ()), ())) (fun y0 =>
      some ((y0.1.1.1, ()), ()))
theorem e_laws_eqIntS (x : InD I_laws_eqIntS) : execF ⟨E_laws_eqIntS, 26, D_laws_eqIntS_1⟩ Try.f145.results.toList B_laws_eqIntS I_laws_eqIntS U_laws_eqIntS x = raw_laws_eqIntS x.1 x.2.1 := by kernel_rfl
theorem ok0_laws_eqIntS : ConOk Try.prog 145 ⟨I_laws_eqIntS, U_laws_eqIntS, fun x => raw_laws_eqIntS x.1 x.2.1⟩ := conOk_exec (fr_laws_eqIntS_1) Try.func145 (by kernel_rfl) (by kernel_rfl) Try.ntmps145.symm (by decide) (fun x r h => (e_laws_eqIntS x).trans h)
noncomputable def n_laws_eqIntS (a0 a1 : List Int) : Bool := decide (a0 = a1)
theorem nn_laws_eqIntS (a0 a1 : List Int) (hk : InOk I_laws_eqIntS (a0, a1, ())) : raw_laws_eqIntS a0 a1 = (fun n => some ((n, ()), ())) (n_laws_eqIntS a0 a1) := by
  have hb : a0.length * 8 ≤ 2 ^ 47 := hk.1.1
  have hl : a0.length = a1.length → F_laws_eqIntS_29 (((a0, ()), (a1, ()), ((), ()), ()), (), ()) = some (bif (List.range a0.length).any (fun i => a0.getD i 0 != a1.getD i 0) then .inr (((false, ()), ()), (), ()) else .inl ((), (), ())) := fun hL =>
    loopN_all (step := stx_laws_eqIntS_29) (fun i => (((a0, ()), (a1, ()), ((i : Int), ()), ()), (), ())) a0.length (fun i => a0.getD i 0 != a1.getD i 0) _ _ (fun i hi => by
      simp only [stx_laws_eqIntS_29, st_laws_eqIntS_29, inb_nat hi, inb_nat (hL ▸ hi), nth_nat, ltb_t (show (i : Int) < a0.length by omega), cond_true, wr (show -9223372036854775808 ≤ (i : Int) + 1 by omega) (by omega), Int.natCast_add, Int.natCast_one]
      cases (a0.getD i 0 != a1.getD i 0) <;> rfl) (by simp only [stx_laws_eqIntS_29, st_laws_eqIntS_29, ltb_f (Int.le_refl _), cond_false]) _ (by show _ < 18446744073709551616; omega)
  unfold raw_laws_eqIntS n_laws_eqIntS
  by_cases h : a0.length = a1.length
  · rw [show ((a0.length : Int) != (a1.length : Int)) = false by simp [h], bif_f, hl h]
    by_cases e : a0 = a1
    · subst e
      have : (List.range a0.length).any (fun i => a0.getD i 0 != a0.getD i 0) = false := by simp
      rw [this, decide_eq_true rfl]
      rfl
    · have : (List.range a0.length).any (fun i => a0.getD i 0 != a1.getD i 0) = true := by
        rcases Bool.eq_false_or_eq_true ((List.range a0.length).any (fun i => a0.getD i 0 != a1.getD i 0)) with h2 | h2
        · exact h2
        · refine absurd (List.ext_getElem h fun i h3 h4 => ?_) e
          rw [List.any_eq_false] at h2
          have := h2 i (List.mem_range.2 h3)
          simpa [h3, h4] using this
      rw [this, decide_eq_false e]
      rfl
  · rw [show ((a0.length : Int) != (a1.length : Int)) = true from bne_iff_ne.2 (by omega), bif_t, decide_eq_false (fun e => h (congrArg _ e))]
theorem eqd_laws_eqIntS (a b : List Int) : n_laws_eqIntS a b = decide (a = b) := rfl
noncomputable def con_laws_eqIntS : Con := ⟨I_laws_eqIntS, U_laws_eqIntS, fun x => (fun n => some ((n, ()), ())) (n_laws_eqIntS x.1 x.2.1)⟩
theorem ok_laws_eqIntS : ConOk Try.prog 145 con_laws_eqIntS := (ok0_laws_eqIntS).mono (fun x r hk h => (nn_laws_eqIntS x.1 x.2.1 hk).trans h)
theorem eqr_laws_eqIntS (a : List Int) : n_laws_eqIntS a a = true := by rw [eqd_laws_eqIntS]; exact decide_eq_true rfl
end

/-! laws_eqIntSS -/
section
noncomputable def B_laws_eqIntSS : Code := (Try.f143.body).getD .skip
noncomputable def E_laws_eqIntSS : Env := envOf TT [(145, con_laws_eqIntS)] []
theorem fr_laws_eqIntSS_0 : FrOk Try.prog ⟨E_laws_eqIntSS, 27, fun _ => none⟩ B_laws_eqIntSS := frOk_base mixed tt_ok ⟨ok_laws_eqIntS, trivial⟩
noncomputable def D_laws_eqIntSS_0 : Nat → Option Seg := fun _ => none
def L_laws_eqIntSS_29 : Shape := ⟨[(0, false, [.br tL]), (1, false, [.br tL]), (5, false, [.int .i64])], [], []⟩
def S_laws_eqIntSS_29 : Shape := ⟨[(0, false, [.br tL]), (1, false, [.br tL]), (5, false, [.ci .i64 0])], [], []⟩
def O_laws_eqIntSS_29 : Shape := ⟨[], [], []⟩
def Z_laws_eqIntSS_29 : Shape := ⟨[(4, false, [.bool])], [], []⟩
noncomputable def st_laws_eqIntSS_29 (v0 v1 : List (List Int)) (v2 : Int) : Option ((L_laws_eqIntSS_29).X ⊕ ((O_laws_eqIntSS_29).X ⊕ (Z_laws_eqIntSS_29).X)) :=
  bif (ltb v2 (v0.length : Int)) then
    bif (inb v2 v0.length) then
      bif (inb v2 v1.length) then
        let r2 := n_laws_eqIntS (nth v0 v2 []) (nth v1 v2 [])
        bif (!r2) then
          some (.inr (.inr (((false, ()), ()), (), ())))
        else
          some (.inl (((v0, ()), (v1, ()), ((IntKind.i64.wrap (v2 + 1)), ()), ()), (), ()))
      else none
    else none
  else
    some (.inr (.inl ((), (), ())))
noncomputable def stx_laws_eqIntSS_29 (x : (L_laws_eqIntSS_29).X) := st_laws_eqIntSS_29 x.1.1.1 x.1.2.1.1 x.1.2.2.1.1
def em_laws_eqIntSS_29 (x : (S_laws_eqIntSS_29).X) : (L_laws_eqIntSS_29).X := (((x.1.1.1, ()), (x.1.2.1.1, ()), (0, ()), ()), (), ())
noncomputable def c_laws_eqIntSS_29 : Code := (subN B_laws_eqIntSS 64 116).getD .skip
theorem a_laws_eqIntSS_29 : subN B_laws_eqIntSS 64 29 = some (.block 0 (.loop c_laws_eqIntSS_29)) := by kernel_rfl
theorem r_laws_eqIntSS_29 (x : (L_laws_eqIntSS_29).X) : roundT ⟨E_laws_eqIntSS, 27, D_laws_eqIntSS_0⟩ 0 c_laws_eqIntSS_29 116 L_laws_eqIntSS_29 O_laws_eqIntSS_29 Z_laws_eqIntSS_29 x = stx_laws_eqIntSS_29 x := by kernel_rfl
def fu_laws_eqIntSS_29 (x : (S_laws_eqIntSS_29).X) : Nat := 18446744073709551616
noncomputable def F_laws_eqIntSS_29 (x : (S_laws_eqIntSS_29).X) : Option ((O_laws_eqIntSS_29).X ⊕ (Z_laws_eqIntSS_29).X) := loopN stx_laws_eqIntSS_29 (fu_laws_eqIntSS_29 x) (em_laws_eqIntSS_29 x)
noncomputable def sg_laws_eqIntSS_29 : Seg := ⟨S_laws_eqIntSS_29, O_laws_eqIntSS_29, Z_laws_eqIntSS_29, F_laws_eqIntSS_29⟩
noncomputable def D_laws_eqIntSS_1 : Nat → Option Seg := fun q => bif Nat.beq q 29 then some sg_laws_eqIntSS_29 else D_laws_eqIntSS_0 q
theorem fr_laws_eqIntSS_1 : FrOk Try.prog ⟨E_laws_eqIntSS, 27, D_laws_eqIntSS_1⟩ B_laws_eqIntSS := (fr_laws_eqIntSS_0).loop (sg := sg_laws_eqIntSS_29) L_laws_eqIntSS_29 em_laws_eqIntSS_29 (by decide) a_laws_eqIntSS_29 stx_laws_eqIntSS_29 fu_laws_eqIntSS_29 (by decide) (fun _ => rfl) (fun x r _ h => h) r_laws_eqIntSS_29
abbrev I_laws_eqIntSS : List Par := [.rd tLL, .rd tLL]
abbrev U_laws_eqIntSS : List OT := [⟨false, tB, .fz⟩]
noncomputable def raw_laws_eqIntSS (a0 a1 : List (List Int)) : Option (ResD U_laws_eqIntSS × MutD I_laws_eqIntSS) :=
  bif ((a0.length : Int) != (a1.length : Int)) then
    some ((false, ()), ())
  else
    segM (F_laws_eqIntSS_29 (((a0, ()), (a1, ()), ((), ()), ()), (), ())) (fun y2 =>
      some ((true, ()), ())) (fun y2 =>
      some ((y2.1.1.1, ()), ()))
theorem e_laws_eqIntSS (x : InD I_laws_eqIntSS) : execF ⟨E_laws_eqIntSS, 27, D_laws_eqIntSS_1⟩ Try.f143.results.toList B_laws_eqIntSS I_laws_eqIntSS U_laws_eqIntSS x = raw_laws_eqIntSS x.1 x.2.1 := by kernel_rfl
theorem ok0_laws_eqIntSS : ConOk Try.prog 143 ⟨I_laws_eqIntSS, U_laws_eqIntSS, fun x => raw_laws_eqIntSS x.1 x.2.1⟩ := conOk_exec (fr_laws_eqIntSS_1) Try.func143 (by kernel_rfl) (by kernel_rfl) Try.ntmps143.symm (by decide) (fun x r h => (e_laws_eqIntSS x).trans h)
noncomputable def n_laws_eqIntSS (a0 a1 : List (List Int)) : Bool := decide (a0 = a1)
theorem nn_laws_eqIntSS (a0 a1 : List (List Int)) (hk : InOk I_laws_eqIntSS (a0, a1, ())) : raw_laws_eqIntSS a0 a1 = (fun n => some ((n, ()), ())) (n_laws_eqIntSS a0 a1) := by
  have hb : a0.length * 24 ≤ 2 ^ 47 := hk.1.1
  unfold raw_laws_eqIntSS n_laws_eqIntSS
  by_cases h : a0.length = a1.length
  · have hl : F_laws_eqIntSS_29 (((a0, ()), (a1, ()), ((), ()), ()), (), ()) = some (bif decide (a0 = a1) then .inl ((), (), ()) else .inr (((false, ()), ()), (), ())) :=
      loopN_eq (step := stx_laws_eqIntSS_29) a0 a1 ([] : List Int) (fun i => (((a0, ()), (a1, ()), ((i : Int), ()), ()), (), ())) n_laws_eqIntS eqd_laws_eqIntS _ _ h (fun i hi => by
        simp only [stx_laws_eqIntSS_29, st_laws_eqIntSS_29, inb_nat (h ▸ hi), inb_nat hi, nth_nat, Int.toNat_natCast, ltb_t (show (i : Int) < a0.length by omega), cond_true, wr (show -9223372036854775808 ≤ (i : Int) + 1 by omega) (by omega), Int.natCast_add, Int.natCast_one, pr_eta]
        cases n_laws_eqIntS (a0.getD i []) (a1.getD i []) <;> rfl) (by simp only [stx_laws_eqIntSS_29, st_laws_eqIntSS_29, ltb_f (Int.le_refl _), cond_false]) _ (by show _ < 18446744073709551616; omega)
    rw [show ((a0.length : Int) != (a1.length : Int)) = false by simp [h], bif_f, hl]
    cases decide (a0 = a1) <;> rfl
  · rw [show ((a0.length : Int) != (a1.length : Int)) = true from bne_iff_ne.2 (by omega), bif_t, decide_eq_false (fun e => h (congrArg _ e))]
theorem eqd_laws_eqIntSS (a0 a1 : List (List Int)) : n_laws_eqIntSS a0 a1 = decide (a0 = a1) := rfl
noncomputable def con_laws_eqIntSS : Con := ⟨I_laws_eqIntSS, U_laws_eqIntSS, fun x => (fun n => some ((n, ()), ())) (n_laws_eqIntSS x.1 x.2.1)⟩
theorem ok_laws_eqIntSS : ConOk Try.prog 143 con_laws_eqIntSS := (ok0_laws_eqIntSS).mono (fun x r hk h => (nn_laws_eqIntSS x.1 x.2.1 hk).trans h)
theorem eqr_laws_eqIntSS (a : List (List Int)) : n_laws_eqIntSS a a = true := by rw [eqd_laws_eqIntSS]; exact decide_eq_true rfl
end

/-! laws_eqWr -/
section
noncomputable def B_laws_eqWr : Code := (Try.f175.body).getD .skip
noncomputable def E_laws_eqWr : Env := envOf TT [(145, con_laws_eqIntS)] []
theorem fr_laws_eqWr_0 : FrOk Try.prog ⟨E_laws_eqWr, 16, fun _ => none⟩ B_laws_eqWr := frOk_base mixed tt_ok ⟨ok_laws_eqIntS, trivial⟩
noncomputable def D_laws_eqWr_0 : Nat → Option Seg := fun _ => none
abbrev I_laws_eqWr : List Par := [.rd tW, .rd tW]
abbrev U_laws_eqWr : List OT := [⟨false, tB, .fz⟩]
noncomputable def raw_laws_eqWr (a0 a1 : dW) : Option (ResD U_laws_eqWr × MutD I_laws_eqWr) :=
  bif (a0.1 != a1.1) then
    some ((false, ()), ())
  else
    let r1 := n_laws_eqIntS a0.2 a1.2
    bif (!r1) then
      some ((false, ()), ())
    else
      some ((true, ()), ())
theorem e_laws_eqWr (x : InD I_laws_eqWr) : execF ⟨E_laws_eqWr, 16, D_laws_eqWr_0⟩ Try.f175.results.toList B_laws_eqWr I_laws_eqWr U_laws_eqWr x = raw_laws_eqWr x.1 x.2.1 := by kernel_rfl
theorem ok0_laws_eqWr : ConOk Try.prog 175 ⟨I_laws_eqWr, U_laws_eqWr, fun x => raw_laws_eqWr x.1 x.2.1⟩ := conOk_exec (fr_laws_eqWr_0) Try.func175 (by kernel_rfl) (by kernel_rfl) Try.ntmps175.symm (by decide) (fun x r h => (e_laws_eqWr x).trans h)
noncomputable def n_laws_eqWr (a0 a1 : dW) : Bool :=
  bif (a0.1 != a1.1) then
    false
  else
    let r1 := n_laws_eqIntS a0.2 a1.2
    bif (!r1) then
      false
    else
      true
noncomputable def con_laws_eqWr : Con := ⟨I_laws_eqWr, U_laws_eqWr, fun x => (fun n => some ((n, ()), ())) (n_laws_eqWr x.1 x.2.1)⟩
theorem nn_laws_eqWr (a0 a1 : dW) : raw_laws_eqWr a0 a1 = (fun n => some ((n, ()), ())) (n_laws_eqWr a0 a1) := bif_ty (p := fun (n : Bool) => ((n, ()), ())) (bif_some (p := fun (n : Bool) => ((n, ()), ())) rfl (bif_some (p := fun (n : Bool) => ((n, ()), ())) rfl rfl))
theorem ok_laws_eqWr : ConOk Try.prog 175 con_laws_eqWr := (ok0_laws_eqWr).mono (fun x r _ h => (nn_laws_eqWr x.1 x.2.1).trans h)
theorem eqd_laws_eqWr (a b : dW) : n_laws_eqWr a b = decide (a = b) := by
  unfold n_laws_eqWr
  simp only [eq_step1, eq_step2, eq_step3, eq_step4, eq_step5, eqd_laws_eqIntS, Prod.ext_iff, Bool.decide_and, Bool.and_true]
theorem eqr_laws_eqWr (a : dW) : n_laws_eqWr a a = true := by rw [eqd_laws_eqWr]; exact decide_eq_true rfl
end

/-! laws_eqWrS -/
section
noncomputable def B_laws_eqWrS : Code := (Try.f144.body).getD .skip
noncomputable def E_laws_eqWrS : Env := envOf TT [(175, con_laws_eqWr)] []
theorem fr_laws_eqWrS_0 : FrOk Try.prog ⟨E_laws_eqWrS, 27, fun _ => none⟩ B_laws_eqWrS := frOk_base mixed tt_ok ⟨ok_laws_eqWr, trivial⟩
noncomputable def D_laws_eqWrS_0 : Nat → Option Seg := fun _ => none
def L_laws_eqWrS_29 : Shape := ⟨[(0, false, [.br tW]), (1, false, [.br tW]), (5, false, [.int .i64])], [], []⟩
def S_laws_eqWrS_29 : Shape := ⟨[(0, false, [.br tW]), (1, false, [.br tW]), (5, false, [.ci .i64 0])], [], []⟩
def O_laws_eqWrS_29 : Shape := ⟨[], [], []⟩
def Z_laws_eqWrS_29 : Shape := ⟨[(4, false, [.bool])], [], []⟩
noncomputable def st_laws_eqWrS_29 (v0 v1 : List dW) (v2 : Int) : Option ((L_laws_eqWrS_29).X ⊕ ((O_laws_eqWrS_29).X ⊕ (Z_laws_eqWrS_29).X)) :=
  bif (ltb v2 (v0.length : Int)) then
    bif (inb v2 v0.length) then
      bif (inb v2 v1.length) then
        let r2 := n_laws_eqWr (nth v0 v2 (0, [])) (nth v1 v2 (0, []))
        bif (!r2) then
          some (.inr (.inr (((false, ()), ()), (), ())))
        else
          some (.inl (((v0, ()), (v1, ()), ((IntKind.i64.wrap (v2 + 1)), ()), ()), (), ()))
      else none
    else none
  else
    some (.inr (.inl ((), (), ())))
noncomputable def stx_laws_eqWrS_29 (x : (L_laws_eqWrS_29).X) := st_laws_eqWrS_29 x.1.1.1 x.1.2.1.1 x.1.2.2.1.1
def em_laws_eqWrS_29 (x : (S_laws_eqWrS_29).X) : (L_laws_eqWrS_29).X := (((x.1.1.1, ()), (x.1.2.1.1, ()), (0, ()), ()), (), ())
noncomputable def c_laws_eqWrS_29 : Code := (subN B_laws_eqWrS 64 116).getD .skip
theorem a_laws_eqWrS_29 : subN B_laws_eqWrS 64 29 = some (.block 0 (.loop c_laws_eqWrS_29)) := by kernel_rfl
theorem r_laws_eqWrS_29 (x : (L_laws_eqWrS_29).X) : roundT ⟨E_laws_eqWrS, 27, D_laws_eqWrS_0⟩ 0 c_laws_eqWrS_29 116 L_laws_eqWrS_29 O_laws_eqWrS_29 Z_laws_eqWrS_29 x = stx_laws_eqWrS_29 x := by kernel_rfl
def fu_laws_eqWrS_29 (x : (S_laws_eqWrS_29).X) : Nat := 18446744073709551616
noncomputable def F_laws_eqWrS_29 (x : (S_laws_eqWrS_29).X) : Option ((O_laws_eqWrS_29).X ⊕ (Z_laws_eqWrS_29).X) := loopN stx_laws_eqWrS_29 (fu_laws_eqWrS_29 x) (em_laws_eqWrS_29 x)
noncomputable def sg_laws_eqWrS_29 : Seg := ⟨S_laws_eqWrS_29, O_laws_eqWrS_29, Z_laws_eqWrS_29, F_laws_eqWrS_29⟩
noncomputable def D_laws_eqWrS_1 : Nat → Option Seg := fun q => bif Nat.beq q 29 then some sg_laws_eqWrS_29 else D_laws_eqWrS_0 q
theorem fr_laws_eqWrS_1 : FrOk Try.prog ⟨E_laws_eqWrS, 27, D_laws_eqWrS_1⟩ B_laws_eqWrS := (fr_laws_eqWrS_0).loop (sg := sg_laws_eqWrS_29) L_laws_eqWrS_29 em_laws_eqWrS_29 (by decide) a_laws_eqWrS_29 stx_laws_eqWrS_29 fu_laws_eqWrS_29 (by decide) (fun _ => rfl) (fun x r _ h => h) r_laws_eqWrS_29
abbrev I_laws_eqWrS : List Par := [.rd tWs, .rd tWs]
abbrev U_laws_eqWrS : List OT := [⟨false, tB, .fz⟩]
noncomputable def raw_laws_eqWrS (a0 a1 : List dW) : Option (ResD U_laws_eqWrS × MutD I_laws_eqWrS) :=
  bif ((a0.length : Int) != (a1.length : Int)) then
    some ((false, ()), ())
  else
    segM (F_laws_eqWrS_29 (((a0, ()), (a1, ()), ((), ()), ()), (), ())) (fun y2 =>
      some ((true, ()), ())) (fun y2 =>
      some ((y2.1.1.1, ()), ()))
theorem e_laws_eqWrS (x : InD I_laws_eqWrS) : execF ⟨E_laws_eqWrS, 27, D_laws_eqWrS_1⟩ Try.f144.results.toList B_laws_eqWrS I_laws_eqWrS U_laws_eqWrS x = raw_laws_eqWrS x.1 x.2.1 := by kernel_rfl
theorem ok0_laws_eqWrS : ConOk Try.prog 144 ⟨I_laws_eqWrS, U_laws_eqWrS, fun x => raw_laws_eqWrS x.1 x.2.1⟩ := conOk_exec (fr_laws_eqWrS_1) Try.func144 (by kernel_rfl) (by kernel_rfl) Try.ntmps144.symm (by decide) (fun x r h => (e_laws_eqWrS x).trans h)
noncomputable def n_laws_eqWrS (a0 a1 : List (dW)) : Bool := decide (a0 = a1)
theorem nn_laws_eqWrS (a0 a1 : List (dW)) (hk : InOk I_laws_eqWrS (a0, a1, ())) : raw_laws_eqWrS a0 a1 = (fun n => some ((n, ()), ())) (n_laws_eqWrS a0 a1) := by
  have hb : a0.length * 32 ≤ 2 ^ 47 := hk.1.1
  unfold raw_laws_eqWrS n_laws_eqWrS
  by_cases h : a0.length = a1.length
  · have hl : F_laws_eqWrS_29 (((a0, ()), (a1, ()), ((), ()), ()), (), ()) = some (bif decide (a0 = a1) then .inl ((), (), ()) else .inr (((false, ()), ()), (), ())) :=
      loopN_eq (step := stx_laws_eqWrS_29) a0 a1 ((0, []) : dW) (fun i => (((a0, ()), (a1, ()), ((i : Int), ()), ()), (), ())) n_laws_eqWr eqd_laws_eqWr _ _ h (fun i hi => by
        simp only [stx_laws_eqWrS_29, st_laws_eqWrS_29, inb_nat (h ▸ hi), inb_nat hi, nth_nat, Int.toNat_natCast, ltb_t (show (i : Int) < a0.length by omega), cond_true, wr (show -9223372036854775808 ≤ (i : Int) + 1 by omega) (by omega), Int.natCast_add, Int.natCast_one, pr_eta]
        cases n_laws_eqWr (a0.getD i (0, [])) (a1.getD i (0, [])) <;> rfl) (by simp only [stx_laws_eqWrS_29, st_laws_eqWrS_29, ltb_f (Int.le_refl _), cond_false]) _ (by show _ < 18446744073709551616; omega)
    rw [show ((a0.length : Int) != (a1.length : Int)) = false by simp [h], bif_f, hl]
    cases decide (a0 = a1) <;> rfl
  · rw [show ((a0.length : Int) != (a1.length : Int)) = true from bne_iff_ne.2 (by omega), bif_t, decide_eq_false (fun e => h (congrArg _ e))]
theorem eqd_laws_eqWrS (a0 a1 : List (dW)) : n_laws_eqWrS a0 a1 = decide (a0 = a1) := rfl
noncomputable def con_laws_eqWrS : Con := ⟨I_laws_eqWrS, U_laws_eqWrS, fun x => (fun n => some ((n, ()), ())) (n_laws_eqWrS x.1 x.2.1)⟩
theorem ok_laws_eqWrS : ConOk Try.prog 144 con_laws_eqWrS := (ok0_laws_eqWrS).mono (fun x r hk h => (nn_laws_eqWrS x.1 x.2.1 hk).trans h)
theorem eqr_laws_eqWrS (a : List dW) : n_laws_eqWrS a a = true := by rw [eqd_laws_eqWrS]; exact decide_eq_true rfl
end

/-! laws_eqMem -/
section
noncomputable def B_laws_eqMem : Code := (Try.f109.body).getD .skip
noncomputable def E_laws_eqMem : Env := envOf TT [(143, con_laws_eqIntSS), (144, con_laws_eqWrS), (145, con_laws_eqIntS)] []
theorem fr_laws_eqMem_0 : FrOk Try.prog ⟨E_laws_eqMem, 28, fun _ => none⟩ B_laws_eqMem := frOk_base mixed tt_ok ⟨ok_laws_eqIntSS, ok_laws_eqWrS, ok_laws_eqIntS, trivial⟩
noncomputable def D_laws_eqMem_0 : Nat → Option Seg := fun _ => none
abbrev I_laws_eqMem : List Par := [.rd tM, .rd tM]
abbrev U_laws_eqMem : List OT := [⟨false, tB, .fz⟩]
noncomputable def raw_laws_eqMem (a0 a1 : dM) : Option (ResD U_laws_eqMem × MutD I_laws_eqMem) :=
  let r1 := n_laws_eqIntSS a0.1 a1.1
  bif (!r1) then
    some ((false, ()), ())
  else
    let r2 := n_laws_eqWrS a0.2.1 a1.2.1
    bif (!r2) then
      some ((false, ()), ())
    else
      bif (!(a0.2.2.1 == a1.2.2.1)) then
        some ((false, ()), ())
      else
        let r3 := n_laws_eqIntS a0.2.2.2 a1.2.2.2
        bif (!r3) then
          some ((false, ()), ())
        else
          some ((true, ()), ())
theorem e_laws_eqMem (x : InD I_laws_eqMem) : execF ⟨E_laws_eqMem, 28, D_laws_eqMem_0⟩ Try.f109.results.toList B_laws_eqMem I_laws_eqMem U_laws_eqMem x = raw_laws_eqMem x.1 x.2.1 := by kernel_rfl
theorem ok0_laws_eqMem : ConOk Try.prog 109 ⟨I_laws_eqMem, U_laws_eqMem, fun x => raw_laws_eqMem x.1 x.2.1⟩ := conOk_exec (fr_laws_eqMem_0) Try.func109 (by kernel_rfl) (by kernel_rfl) Try.ntmps109.symm (by decide) (fun x r h => (e_laws_eqMem x).trans h)
noncomputable def n_laws_eqMem (a0 a1 : dM) : Bool :=
  let r1 := n_laws_eqIntSS a0.1 a1.1
  bif (!r1) then
    false
  else
    let r2 := n_laws_eqWrS a0.2.1 a1.2.1
    bif (!r2) then
      false
    else
      bif (!(a0.2.2.1 == a1.2.2.1)) then
        false
      else
        let r3 := n_laws_eqIntS a0.2.2.2 a1.2.2.2
        bif (!r3) then
          false
        else
          true
noncomputable def con_laws_eqMem : Con := ⟨I_laws_eqMem, U_laws_eqMem, fun x => (fun n => some ((n, ()), ())) (n_laws_eqMem x.1 x.2.1)⟩
theorem nn_laws_eqMem (a0 a1 : dM) : raw_laws_eqMem a0 a1 = (fun n => some ((n, ()), ())) (n_laws_eqMem a0 a1) := bif_ty (p := fun (n : Bool) => ((n, ()), ())) (bif_some (p := fun (n : Bool) => ((n, ()), ())) rfl (bif_some (p := fun (n : Bool) => ((n, ()), ())) rfl (bif_some (p := fun (n : Bool) => ((n, ()), ())) rfl (bif_some (p := fun (n : Bool) => ((n, ()), ())) rfl rfl))))
theorem ok_laws_eqMem : ConOk Try.prog 109 con_laws_eqMem := (ok0_laws_eqMem).mono (fun x r _ h => (nn_laws_eqMem x.1 x.2.1).trans h)
theorem eqd_laws_eqMem (a b : dM) : n_laws_eqMem a b = decide (a = b) := by
  unfold n_laws_eqMem
  simp only [eq_step1, eq_step2, eq_step3, eq_step4, eq_step5, eqd_laws_eqIntSS, eqd_laws_eqWrS, eqd_laws_eqIntS, Prod.ext_iff, Bool.decide_and, Bool.and_true]
theorem eqr_laws_eqMem (a : dM) : n_laws_eqMem a a = true := by rw [eqd_laws_eqMem]; exact decide_eq_true rfl
end
end Go.Tf
