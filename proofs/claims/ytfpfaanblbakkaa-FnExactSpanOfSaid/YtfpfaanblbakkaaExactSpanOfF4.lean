/- Functions of the program, and what they come to. -/
import Derived.Test.YtfpfaanblbakkaaExactSpanOfF3
namespace Go.Tf
open Go.Proofs
set_option synthInstance.maxHeartbeats 400000
set_option synthInstance.maxSize 10000
set_option linter.unusedVariables false
set_option linter.unusedSimpArgs false
set_option maxRecDepth 100000
/-! laws_eqCmd -/
section
noncomputable def B_laws_eqCmd : Code := (Try.f18.body).getD .skip
noncomputable def E_laws_eqCmd : Env := envOf TT [(24, con_laws_eqIntS)] []
theorem fr_laws_eqCmd_0 : FrOk Try.prog ⟨E_laws_eqCmd, 31, fun _ => none⟩ B_laws_eqCmd := frOk_base mixed tt_ok ⟨ok_laws_eqIntS, trivial⟩
noncomputable def D_laws_eqCmd_0 : Nat → Option Seg := fun _ => none
abbrev I_laws_eqCmd : List Par := [.rd tC, .rd tC]
abbrev U_laws_eqCmd : List OT := [⟨false, tB, .fz⟩]
noncomputable def raw_laws_eqCmd (a0 : Int × Int × Int × Int × (List Int)) (a1 : Int × Int × Int × Int × (List Int)) : Option (ResD U_laws_eqCmd × MutD I_laws_eqCmd) :=
  bif (a0.1 != a1.1) then
    some ((false, ()), ())
  else
    bif (a0.2.1 != a1.2.1) then
      some ((false, ()), ())
    else
      bif (a0.2.2.1 != a1.2.2.1) then
        some ((false, ()), ())
      else
        bif (a0.2.2.2.1 != a1.2.2.2.1) then
          some ((false, ()), ())
        else
          let r1 := n_laws_eqIntS a0.2.2.2.2 a1.2.2.2.2
          bif (!r1) then
            some ((false, ()), ())
          else
            some ((true, ()), ())
theorem e_laws_eqCmd (x : InD I_laws_eqCmd) : execF ⟨E_laws_eqCmd, 31, D_laws_eqCmd_0⟩ Try.f18.results.toList B_laws_eqCmd I_laws_eqCmd U_laws_eqCmd x = raw_laws_eqCmd x.1 x.2.1 := by kernel_rfl
theorem ok0_laws_eqCmd : ConOk Try.prog 18 ⟨I_laws_eqCmd, U_laws_eqCmd, fun x => raw_laws_eqCmd x.1 x.2.1⟩ := conOk_exec (fr_laws_eqCmd_0) Try.func18 (by kernel_rfl) (by kernel_rfl) Try.ntmps18.symm (by decide) (fun x r h => (e_laws_eqCmd x).trans h)
noncomputable def n_laws_eqCmd (a0 : Int × Int × Int × Int × (List Int)) (a1 : Int × Int × Int × Int × (List Int)) : Bool :=
  bif (a0.1 != a1.1) then
    false
  else
    bif (a0.2.1 != a1.2.1) then
      false
    else
      bif (a0.2.2.1 != a1.2.2.1) then
        false
      else
        bif (a0.2.2.2.1 != a1.2.2.2.1) then
          false
        else
          let r1 := n_laws_eqIntS a0.2.2.2.2 a1.2.2.2.2
          bif (!r1) then
            false
          else
            true
noncomputable def con_laws_eqCmd : Con := ⟨I_laws_eqCmd, U_laws_eqCmd, fun x => (fun n => some ((n, ()), ())) (n_laws_eqCmd x.1 x.2.1)⟩
theorem nn_laws_eqCmd (a0 : Int × Int × Int × Int × (List Int)) (a1 : Int × Int × Int × Int × (List Int)) : raw_laws_eqCmd a0 a1 = (fun n => some ((n, ()), ())) (n_laws_eqCmd a0 a1) := bif_ty (p := fun (n : Bool) => ((n, ()), ())) (bif_some (p := fun (n : Bool) => ((n, ()), ())) rfl (bif_some (p := fun (n : Bool) => ((n, ()), ())) rfl (bif_some (p := fun (n : Bool) => ((n, ()), ())) rfl (bif_some (p := fun (n : Bool) => ((n, ()), ())) rfl (bif_some (p := fun (n : Bool) => ((n, ()), ())) rfl rfl)))))
theorem ok_laws_eqCmd : ConOk Try.prog 18 con_laws_eqCmd := (ok0_laws_eqCmd).mono (fun x r _ h => (nn_laws_eqCmd x.1 x.2.1).trans h)
theorem eqd_laws_eqCmd (a b : Int × Int × Int × Int × (List Int)) : n_laws_eqCmd a b = decide (a = b) := by
  unfold n_laws_eqCmd
  simp only [eq_step1, eq_step2, eq_step3, eq_step4, eq_step5, eqd_laws_eqIntS, Prod.ext_iff, Bool.decide_and, Bool.and_true]
theorem eqr_laws_eqCmd (a : Int × Int × Int × Int × (List Int)) : n_laws_eqCmd a a = true := by rw [eqd_laws_eqCmd]; exact decide_eq_true rfl
theorem eqInt_refl (a : List Int) : n_laws_eqIntS a a = true := by unfold n_laws_eqIntS; simp
theorem eqCmd_refl (a : Int × Int × Int × Int × List Int) : n_laws_eqCmd a a = true := by unfold n_laws_eqCmd; simp only [bne_self_eq_false, cond_false, eqInt_refl, Bool.not_true]
end

/-! laws_FnExactSpanOf -/
section
noncomputable def B_laws_FnExactSpanOf : Code := (Try.f3.body).getD .skip
noncomputable def E_laws_FnExactSpanOf : Env := envOf TT [(13, con_laws_szCmd), (14, con_spec_SpanOf), (15, con_laws_toGeo), (16, con_laws_toCmd), (17, con_impl_SpanOf), (18, con_laws_eqCmd)] []
theorem fr_laws_FnExactSpanOf_0 : FrOk Try.prog ⟨E_laws_FnExactSpanOf, 46, fun _ => none⟩ B_laws_FnExactSpanOf := frOk_base mixed tt_ok ⟨ok_laws_szCmd, ok_spec_SpanOf, ok_laws_toGeo, ok_laws_toCmd, ok_impl_SpanOf, ok_laws_eqCmd, trivial⟩
noncomputable def D_laws_FnExactSpanOf_0 : Nat → Option Seg := fun _ => none
abbrev I_laws_FnExactSpanOf : List Par := [.rd tG, .rd tC]
abbrev U_laws_FnExactSpanOf : List OT := [⟨false, tB, .fz⟩]
noncomputable def raw_laws_FnExactSpanOf (a0 : Int × Int) (a1 : Int × Int × Int × Int × (List Int)) : Option (ResD U_laws_FnExactSpanOf × MutD I_laws_FnExactSpanOf) :=
  let r1 := n_laws_szCmd a1 1048576
  bif (ltb r1 0) then
    some ((true, ()), ())
  else
    let r2 := n_laws_toGeo a0
    let r3 := n_laws_toCmd a1
    let r4 := n_spec_SpanOf r2 r3
    let r5 := n_laws_toCmd a1
    let r6 := n_laws_toGeo a0
    let r7 := n_impl_SpanOf r6 r5
    bif (!(r7.1 != r4.1)) then
      bif (r7.2 != r4.2) then
        some ((false, ()), ())
      else
        let r8 := n_laws_toCmd a1
        let r9 := n_laws_eqCmd r5 r8
        bif (!r9) then
          some ((false, ()), ())
        else
          some ((true, ()), ())
    else
      some ((false, ()), ())
theorem e_laws_FnExactSpanOf (x : InD I_laws_FnExactSpanOf) : execF ⟨E_laws_FnExactSpanOf, 46, D_laws_FnExactSpanOf_0⟩ Try.f3.results.toList B_laws_FnExactSpanOf I_laws_FnExactSpanOf U_laws_FnExactSpanOf x = raw_laws_FnExactSpanOf x.1 x.2.1 := by kernel_rfl
theorem ok0_laws_FnExactSpanOf : ConOk Try.prog 3 ⟨I_laws_FnExactSpanOf, U_laws_FnExactSpanOf, fun x => raw_laws_FnExactSpanOf x.1 x.2.1⟩ := conOk_exec (fr_laws_FnExactSpanOf_0) Try.func3 (by kernel_rfl) (by kernel_rfl) Try.ntmps3.symm (by decide) (fun x r h => (e_laws_FnExactSpanOf x).trans h)
noncomputable def n_laws_FnExactSpanOf (a0 : dG) (a1 : dC) : Bool := true
theorem nn_laws_FnExactSpanOf (a0 : dG) (a1 : dC) (hk : InOk I_laws_FnExactSpanOf (a0, a1, ())) : raw_laws_FnExactSpanOf a0 a1 = (fun n => some ((n, ()), ())) (n_laws_FnExactSpanOf a0 a1) := by
  unfold raw_laws_FnExactSpanOf n_laws_FnExactSpanOf
  simp only [span_eq, bne_self_eq_false, Bool.not_false, Bool.not_true, cond_true, cond_false, eqr_laws_eqCmd]
  cases ltb (n_laws_szCmd a1 1048576) 0 <;> rfl
noncomputable def con_laws_FnExactSpanOf : Con := ⟨I_laws_FnExactSpanOf, U_laws_FnExactSpanOf, fun x => (fun n => some ((n, ()), ())) (n_laws_FnExactSpanOf x.1 x.2.1)⟩
theorem ok_laws_FnExactSpanOf : ConOk Try.prog 3 con_laws_FnExactSpanOf := (ok0_laws_FnExactSpanOf).mono (fun x r hk h => (nn_laws_FnExactSpanOf x.1 x.2.1 hk).trans h)
end
end Go.Tf
