/- Functions of the program, and what they come to. -/
import Derived.Test.YtfpfaanblbakkaaExactClashF3
namespace Go.Tf
open Go.Proofs
set_option synthInstance.maxHeartbeats 400000
set_option synthInstance.maxSize 10000
set_option linter.unusedVariables false
set_option linter.unusedSimpArgs false
set_option maxRecDepth 100000
/-! laws_eqCmd -/
section
noncomputable def B_laws_eqCmd : Code := (Try.f18.body).getD .skip
noncomputable def E_laws_eqCmd : Env := envOf TT [(24, con_laws_eqIntS)] []
theorem fr_laws_eqCmd_0 : FrOk Try.prog ⟨E_laws_eqCmd, 31, fun _ => none⟩ B_laws_eqCmd := frOk_base mixed tt_ok ⟨ok_laws_eqIntS, trivial⟩
noncomputable def D_laws_eqCmd_0 : Nat → Option Seg := fun _ => none
abbrev I_laws_eqCmd : List Par := [.rd tC, .rd tC]
abbrev U_laws_eqCmd : List OT := [⟨false, tB, .fz⟩]
noncomputable def raw_laws_eqCmd (a0 : Int × Int × Int × Int × (List Int)) (a1 : Int × Int × Int × Int × (List Int)) : Option (ResD U_laws_eqCmd × MutD I_laws_eqCmd) :=
  bif (a0.1 != a1.1) then
    some ((false, ()), ())
  else
    bif (a0.2.1 != a1.2.1) then
      some ((false, ()), ())
    else
      bif (a0.2.2.1 != a1.2.2.1) then
        some ((false, ()), ())
      else
        bif (a0.2.2.2.1 != a1.2.2.2.1) then
          some ((false, ()), ())
        else
          let r1 := n_laws_eqIntS a0.2.2.2.2 a1.2.2.2.2
          bif (!r1) then
            some ((false, ()), ())
          else
            some ((true, ()), ())
theorem e_laws_eqCmd (x : InD I_laws_eqCmd) : execF ⟨E_laws_eqCmd, 31, D_laws_eqCmd_0⟩ Try.f18.results.toList B_laws_eqCmd I_laws_eqCmd U_laws_eqCmd x = raw_laws_eqCmd x.1 x.2.1 := by kernel_rfl
theorem ok0_laws_eqCmd : ConOk Try.prog 18 ⟨I_laws_eqCmd, U_laws_eqCmd, fun x => raw_laws_eqCmd x.1 x.2.1⟩ := conOk_exec (fr_laws_eqCmd_0) Try.func18 (by kernel_rfl) (by kernel_rfl) Try.ntmps18.symm (by decide) (fun x r h => (e_laws_eqCmd x).trans h)
noncomputable def n_laws_eqCmd (a0 : Int × Int × Int × Int × (List Int)) (a1 : Int × Int × Int × Int × (List Int)) : Bool :=
  bif (a0.1 != a1.1) then
    false
  else
    bif (a0.2.1 != a1.2.1) then
      false
    else
      bif (a0.2.2.1 != a1.2.2.1) then
        false
      else
        bif (a0.2.2.2.1 != a1.2.2.2.1) then
          false
        else
          let r1 := n_laws_eqIntS a0.2.2.2.2 a1.2.2.2.2
          bif (!r1) then
            false
          else
            true
noncomputable def con_laws_eqCmd : Con := ⟨I_laws_eqCmd, U_laws_eqCmd, fun x => (fun n => some ((n, ()), ())) (n_laws_eqCmd x.1 x.2.1)⟩
theorem nn_laws_eqCmd (a0 : Int × Int × Int × Int × (List Int)) (a1 : Int × Int × Int × Int × (List Int)) : raw_laws_eqCmd a0 a1 = (fun n => some ((n, ()), ())) (n_laws_eqCmd a0 a1) := bif_ty (p := fun (n : Bool) => ((n, ()), ())) (bif_some (p := fun (n : Bool) => ((n, ()), ())) rfl (bif_some (p := fun (n : Bool) => ((n, ()), ())) rfl (bif_some (p := fun (n : Bool) => ((n, ()), ())) rfl (bif_some (p := fun (n : Bool) => ((n, ()), ())) rfl (bif_some (p := fun (n : Bool) => ((n, ()), ())) rfl rfl)))))
theorem ok_laws_eqCmd : ConOk Try.prog 18 con_laws_eqCmd := (ok0_laws_eqCmd).mono (fun x r _ h => (nn_laws_eqCmd x.1 x.2.1).trans h)
theorem eqd_laws_eqCmd (a b : Int × Int × Int × Int × (List Int)) : n_laws_eqCmd a b = decide (a = b) := by
  unfold n_laws_eqCmd
  simp only [eq_step1, eq_step2, eq_step3, eq_step4, eq_step5, eqd_laws_eqIntS, Prod.ext_iff, Bool.decide_and, Bool.and_true]
theorem eqr_laws_eqCmd (a : Int × Int × Int × Int × (List Int)) : n_laws_eqCmd a a = true := by rw [eqd_laws_eqCmd]; exact decide_eq_true rfl
theorem eqInt_refl (a : List Int) : n_laws_eqIntS a a = true := by unfold n_laws_eqIntS; simp
theorem eqCmd_refl (a : Int × Int × Int × Int × List Int) : n_laws_eqCmd a a = true := by unfold n_laws_eqCmd; simp only [bne_self_eq_false, cond_false, eqInt_refl, Bool.not_true]
end

/-! spec_Clash -/
section
noncomputable def B_spec_Clash : Code := (Try.f19.body).getD .skip
noncomputable def E_spec_Clash : Env := envOf TT [(14, con_spec_SpanOf)] []
theorem fr_spec_Clash_0 : FrOk Try.prog ⟨E_spec_Clash, 31, fun _ => none⟩ B_spec_Clash := frOk_base mixed tt_ok ⟨ok_spec_SpanOf, trivial⟩
noncomputable def D_spec_Clash_0 : Nat → Option Seg := fun _ => none
abbrev I_spec_Clash : List Par := [.rd tG, .rd tC, .rd tC]
abbrev U_spec_Clash : List OT := [⟨false, tB, .fz⟩]
noncomputable def raw_spec_Clash (a0 : Int × Int) (a1 : Int × Int × Int × Int × (List Int)) (a2 : Int × Int × Int × Int × (List Int)) : Option (ResD U_spec_Clash × MutD I_spec_Clash) :=
  let r1 := n_spec_SpanOf a0 a1
  let r2 := n_spec_SpanOf a0 a2
  bif (ltb r1.1 r2.2) then
    some (((ltb r2.1 r1.2), ()), ())
  else
    some ((false, ()), ())
theorem e_spec_Clash (x : InD I_spec_Clash) : execF ⟨E_spec_Clash, 31, D_spec_Clash_0⟩ Try.f19.results.toList B_spec_Clash I_spec_Clash U_spec_Clash x = raw_spec_Clash x.1 x.2.1 x.2.2.1 := by kernel_rfl
theorem ok0_spec_Clash : ConOk Try.prog 19 ⟨I_spec_Clash, U_spec_Clash, fun x => raw_spec_Clash x.1 x.2.1 x.2.2.1⟩ := conOk_exec (fr_spec_Clash_0) Try.func19 (by kernel_rfl) (by kernel_rfl) Try.ntmps19.symm (by decide) (fun x r h => (e_spec_Clash x).trans h)
noncomputable def n_spec_Clash (a0 : Int × Int) (a1 : Int × Int × Int × Int × (List Int)) (a2 : Int × Int × Int × Int × (List Int)) : Bool :=
  let r1 := n_spec_SpanOf a0 a1
  let r2 := n_spec_SpanOf a0 a2
  bif (ltb r1.1 r2.2) then
    (ltb r2.1 r1.2)
  else
    false
noncomputable def con_spec_Clash : Con := ⟨I_spec_Clash, U_spec_Clash, fun x => (fun n => some ((n, ()), ())) (n_spec_Clash x.1 x.2.1 x.2.2.1)⟩
theorem nn_spec_Clash (a0 : Int × Int) (a1 : Int × Int × Int × Int × (List Int)) (a2 : Int × Int × Int × Int × (List Int)) : raw_spec_Clash a0 a1 a2 = (fun n => some ((n, ()), ())) (n_spec_Clash a0 a1 a2) := bif_ty (p := fun (n : Bool) => ((n, ()), ())) (bif_some (p := fun (n : Bool) => ((n, ()), ())) rfl rfl)
theorem ok_spec_Clash : ConOk Try.prog 19 con_spec_Clash := (ok0_spec_Clash).mono (fun x r _ h => (nn_spec_Clash x.1 x.2.1 x.2.2.1).trans h)
end

/-! impl_Clash -/
section
noncomputable def B_impl_Clash : Code := (Try.f20.body).getD .skip
noncomputable def E_impl_Clash : Env := envOf TT [(17, con_impl_SpanOf)] []
theorem fr_impl_Clash_0 : FrOk Try.prog ⟨E_impl_Clash, 30, fun _ => none⟩ B_impl_Clash := frOk_base mixed tt_ok ⟨ok_impl_SpanOf, trivial⟩
noncomputable def D_impl_Clash_0 : Nat → Option Seg := fun _ => none
abbrev I_impl_Clash : List Par := [.rd tG, .rd tC, .rd tC]
abbrev U_impl_Clash : List OT := [⟨false, tB, .fz⟩]
noncomputable def raw_impl_Clash (a0 : Int × Int) (a1 : Int × Int × Int × Int × (List Int)) (a2 : Int × Int × Int × Int × (List Int)) : Option (ResD U_impl_Clash × MutD I_impl_Clash) :=
  let r1 := n_impl_SpanOf a0 a1
  let r2 := n_impl_SpanOf a0 a2
  some (((ltb (bif (ltb r1.1 r2.1) then r2.1 else r1.1) (bif (ltb r2.2 r1.2) then r2.2 else r1.2)), ()), ())
theorem e_impl_Clash (x : InD I_impl_Clash) : execF ⟨E_impl_Clash, 30, D_impl_Clash_0⟩ Try.f20.results.toList B_impl_Clash I_impl_Clash U_impl_Clash x = raw_impl_Clash x.1 x.2.1 x.2.2.1 := by kernel_rfl
theorem ok0_impl_Clash : ConOk Try.prog 20 ⟨I_impl_Clash, U_impl_Clash, fun x => raw_impl_Clash x.1 x.2.1 x.2.2.1⟩ := conOk_exec (fr_impl_Clash_0) Try.func20 (by kernel_rfl) (by kernel_rfl) Try.ntmps20.symm (by decide) (fun x r h => (e_impl_Clash x).trans h)
noncomputable def n_impl_Clash (a0 : Int × Int) (a1 : Int × Int × Int × Int × (List Int)) (a2 : Int × Int × Int × Int × (List Int)) : Bool :=
  let r1 := n_impl_SpanOf a0 a1
  let r2 := n_impl_SpanOf a0 a2
  (ltb (bif (ltb r1.1 r2.1) then r2.1 else r1.1) (bif (ltb r2.2 r1.2) then r2.2 else r1.2))
noncomputable def con_impl_Clash : Con := ⟨I_impl_Clash, U_impl_Clash, fun x => (fun n => some ((n, ()), ())) (n_impl_Clash x.1 x.2.1 x.2.2.1)⟩
theorem nn_impl_Clash (a0 : Int × Int) (a1 : Int × Int × Int × Int × (List Int)) (a2 : Int × Int × Int × Int × (List Int)) : raw_impl_Clash a0 a1 a2 = (fun n => some ((n, ()), ())) (n_impl_Clash a0 a1 a2) := bif_ty (p := fun (n : Bool) => ((n, ()), ())) rfl
theorem ok_impl_Clash : ConOk Try.prog 20 con_impl_Clash := (ok0_impl_Clash).mono (fun x r _ h => (nn_impl_Clash x.1 x.2.1 x.2.2.1).trans h)
theorem clash_iff {g : Int × Int} {a b : Int × Int × Int × Int × List Int} : n_impl_Clash g a b = true ↔ (n_impl_SpanOf g a).1 < (n_impl_SpanOf g a).2 ∧ (n_impl_SpanOf g b).1 < (n_impl_SpanOf g a).2 ∧ (n_impl_SpanOf g a).1 < (n_impl_SpanOf g b).2 ∧ (n_impl_SpanOf g b).1 < (n_impl_SpanOf g b).2 := by
  unfold n_impl_Clash
  simp only
  generalize (n_impl_SpanOf g a).1 = x
  generalize (n_impl_SpanOf g a).2 = y
  generalize (n_impl_SpanOf g b).1 = u
  generalize (n_impl_SpanOf g b).2 = v
  by_cases h1 : x < u <;> by_cases h2 : v < y
  · rw [ltb_t h1, ltb_t h2, bif_t, bif_t, ltb_iff]; omega
  · rw [ltb_t h1, ltb_f (show y ≤ v by omega), bif_t, bif_f, ltb_iff]; omega
  · rw [ltb_f (show u ≤ x by omega), ltb_t h2, bif_t, bif_f, ltb_iff]; omega
  · rw [ltb_f (show u ≤ x by omega), ltb_f (show y ≤ v by omega), bif_f, bif_f, ltb_iff]; omega
theorem clash_eq (g : dG) (a b : dC) : n_impl_Clash g a b = n_spec_Clash g a b := by
  rw [Bool.eq_iff_iff, clash_iff, span_eq, span_eq]
  unfold n_spec_Clash
  have ha := span_cases g a
  have hb := span_cases g b
  by_cases h : (n_spec_SpanOf g a).1 < (n_spec_SpanOf g b).2
  · simp only [ltb_t h, cond_true, ltb_iff]; omega
  · simp only [ltb_f (Int.not_lt.1 h), cond_false, Bool.false_eq_true, iff_false]
    rintro ⟨_, _, h3, _⟩
    exact h h3
end

/-! laws_FnExactClash -/
section
noncomputable def B_laws_FnExactClash : Code := (Try.f4.body).getD .skip
noncomputable def E_laws_FnExactClash : Env := envOf TT [(13, con_laws_szCmd), (15, con_laws_toGeo), (16, con_laws_toCmd), (18, con_laws_eqCmd), (19, con_spec_Clash), (20, con_impl_Clash)] []
theorem fr_laws_FnExactClash_0 : FrOk Try.prog ⟨E_laws_FnExactClash, 51, fun _ => none⟩ B_laws_FnExactClash := frOk_base mixed tt_ok ⟨ok_laws_szCmd, ok_laws_toGeo, ok_laws_toCmd, ok_laws_eqCmd, ok_spec_Clash, ok_impl_Clash, trivial⟩
noncomputable def D_laws_FnExactClash_0 : Nat → Option Seg := fun _ => none
abbrev I_laws_FnExactClash : List Par := [.rd tG, .rd tC, .rd tC]
abbrev U_laws_FnExactClash : List OT := [⟨false, tB, .fz⟩]
noncomputable def raw_laws_FnExactClash (a0 : Int × Int) (a1 : Int × Int × Int × Int × (List Int)) (a2 : Int × Int × Int × Int × (List Int)) : Option (ResD U_laws_FnExactClash × MutD I_laws_FnExactClash) :=
  let r1 := n_laws_szCmd a1 1048576
  bif (ltb r1 0) then
    some ((true, ()), ())
  else
    let r2 := n_laws_szCmd a2 r1
    bif (ltb r2 0) then
      some ((true, ()), ())
    else
      let r3 := n_laws_toGeo a0
      let r4 := n_laws_toCmd a1
      let r5 := n_laws_toCmd a2
      let r6 := n_spec_Clash r3 r4 r5
      let r7 := n_laws_toCmd a1
      let r8 := n_laws_toCmd a2
      let r9 := n_laws_toGeo a0
      let r10 := n_impl_Clash r9 r7 r8
      bif (!(r10 == r6)) then
        some ((false, ()), ())
      else
        let r11 := n_laws_toCmd a1
        let r12 := n_laws_eqCmd r7 r11
        bif (!r12) then
          some ((false, ()), ())
        else
          let r13 := n_laws_toCmd a2
          let r14 := n_laws_eqCmd r8 r13
          bif (!r14) then
            some ((false, ()), ())
          else
            some ((true, ()), ())
theorem e_laws_FnExactClash (x : InD I_laws_FnExactClash) : execF ⟨E_laws_FnExactClash, 51, D_laws_FnExactClash_0⟩ Try.f4.results.toList B_laws_FnExactClash I_laws_FnExactClash U_laws_FnExactClash x = raw_laws_FnExactClash x.1 x.2.1 x.2.2.1 := by kernel_rfl
theorem ok0_laws_FnExactClash : ConOk Try.prog 4 ⟨I_laws_FnExactClash, U_laws_FnExactClash, fun x => raw_laws_FnExactClash x.1 x.2.1 x.2.2.1⟩ := conOk_exec (fr_laws_FnExactClash_0) Try.func4 (by kernel_rfl) (by kernel_rfl) Try.ntmps4.symm (by decide) (fun x r h => (e_laws_FnExactClash x).trans h)
noncomputable def n_laws_FnExactClash (a0 : dG) (a1 a2 : dC) : Bool := true
theorem nn_laws_FnExactClash (a0 : dG) (a1 a2 : dC) (hk : InOk I_laws_FnExactClash (a0, a1, a2, ())) : raw_laws_FnExactClash a0 a1 a2 = (fun n => some ((n, ()), ())) (n_laws_FnExactClash a0 a1 a2) := by
  unfold raw_laws_FnExactClash n_laws_FnExactClash
  simp only [clash_eq, beq_self_eq_true, Bool.not_true, cond_false, eqr_laws_eqCmd]
  cases ltb (n_laws_szCmd a1 1048576) 0
  · cases ltb (n_laws_szCmd a2 (n_laws_szCmd a1 1048576)) 0 <;> rfl
  · rfl
noncomputable def con_laws_FnExactClash : Con := ⟨I_laws_FnExactClash, U_laws_FnExactClash, fun x => (fun n => some ((n, ()), ())) (n_laws_FnExactClash x.1 x.2.1 x.2.2.1)⟩
theorem ok_laws_FnExactClash : ConOk Try.prog 4 con_laws_FnExactClash := (ok0_laws_FnExactClash).mono (fun x r hk h => (nn_laws_FnExactClash x.1 x.2.1 x.2.2.1 hk).trans h)
end
end Go.Tf
