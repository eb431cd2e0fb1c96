/- Functions of the program, and what they come to. -/
import Derived.Test.YtfpjmijaiekbgaaGreatExactBuildStepF16
namespace Go.Tf
open Go.Proofs
set_option synthInstance.maxHeartbeats 400000
set_option synthInstance.maxSize 10000
set_option linter.unusedVariables false
set_option linter.unusedSimpArgs false
set_option maxRecDepth 100000
/-! laws_FnExactBuildStep -/
section
noncomputable def B_laws_FnExactBuildStep : Code := (Tryz.f4.body).getD .skip
noncomputable def E_laws_FnExactBuildStep : Env := envOf TT [(13, con_laws_szArr), (15, con_laws_toArr), (18, con_laws_eqArr), (19, con_laws_markArr), (22, con_spec_BuildStep), (23, con_impl_BuildStep), (24, con_laws_heldArr)] []
theorem fr_laws_FnExactBuildStep_0 : FrOk Tryz.prog ⟨E_laws_FnExactBuildStep, 96, fun _ => none⟩ B_laws_FnExactBuildStep := frOk_base mixed tt_ok ⟨ok_laws_szArr, ok_laws_toArr, ok_laws_eqArr, ok_laws_markArr, ok_spec_BuildStep, ok_impl_BuildStep, ok_laws_heldArr, trivial⟩
noncomputable def D_laws_FnExactBuildStep_0 : Nat → Option Seg := fun _ => none
abbrev I_laws_FnExactBuildStep : List Par := [.rd tA]
abbrev U_laws_FnExactBuildStep : List OT := [⟨false, tB, .fz⟩]
noncomputable def raw_laws_FnExactBuildStep (a0 : dA) : Option (ResD U_laws_FnExactBuildStep × MutD I_laws_FnExactBuildStep) :=
  let r1 := n_laws_szArr a0 1048576
  bif (ltb r1 0) then
    some ((true, ()), ())
  else
    let r2 := n_laws_toArr a0
    let r3 := n_spec_BuildStep r2
    let r4 := n_laws_toArr a0
    let r5 := n_impl_BuildStep r4
    let r6 := n_laws_eqArr r5.1 r3.1
    bif (!(!r6)) then
      bif (r5.2 != r3.2) then
        some ((false, ()), ())
      else
        let r7 := n_laws_toArr a0
        let r8 := n_laws_eqArr r4 r7
        bif (!r8) then
          some ((false, ()), ())
        else
          let r9 := n_laws_markArr r4 1
          bif (!(ltb r9.1 0)) then
            let r10 := n_laws_eqArr r5.1 r3.1
            bif (!(!r10)) then
              bif (r5.2 != r3.2) then
                some ((false, ()), ())
              else
                let r11 := n_laws_markArr r5.1 1
                let r12 := n_laws_heldArr (r5.1.1, r5.1.2.1, r11.2.2.2.1, r5.1.2.2.2.1, r5.1.2.2.2.2.1, r5.1.2.2.2.2.2.1, r5.1.2.2.2.2.2.2.1, r5.1.2.2.2.2.2.2.2.1, r11.2.2.2.2.2.2.2.2.2.1, r5.1.2.2.2.2.2.2.2.2.2) 1
                bif (ltb r12 0) then
                  some ((false, ()), ())
                else
                  bif (r12 != r11.1) then
                    some ((false, ()), ())
                  else
                    let r13 := n_laws_toArr a0
                    let r14 := n_impl_BuildStep r13
                    let r15 := n_laws_eqArr r14.1 r3.1
                    bif (!(!r15)) then
                      bif (r14.2 != r3.2) then
                        some ((false, ()), ())
                      else
                        let r16 := n_laws_heldArr (r5.1.1, r5.1.2.1, r11.2.2.2.1, r5.1.2.2.2.1, r5.1.2.2.2.2.1, r5.1.2.2.2.2.2.1, r5.1.2.2.2.2.2.2.1, r5.1.2.2.2.2.2.2.2.1, r11.2.2.2.2.2.2.2.2.2.1, r5.1.2.2.2.2.2.2.2.2.2) 1
                        bif (ltb r16 0) then
                          some ((false, ()), ())
                        else
                          bif (r16 != r11.1) then
                            some ((false, ()), ())
                          else
                            some ((true, ()), ())
                    else
                      some ((false, ()), ())
            else
              some ((false, ()), ())
          else
            some ((false, ()), ())
    else
      some ((false, ()), ())
theorem e_laws_FnExactBuildStep (x : InD I_laws_FnExactBuildStep) : execF ⟨E_laws_FnExactBuildStep, 96, D_laws_FnExactBuildStep_0⟩ Tryz.f4.results.toList B_laws_FnExactBuildStep I_laws_FnExactBuildStep U_laws_FnExactBuildStep x = raw_laws_FnExactBuildStep x.1 := by kernel_rfl
theorem ok0_laws_FnExactBuildStep : ConOk Tryz.prog 4 ⟨I_laws_FnExactBuildStep, U_laws_FnExactBuildStep, fun x => raw_laws_FnExactBuildStep x.1⟩ := conOk_exec (fr_laws_FnExactBuildStep_0) Tryz.func4 (by kernel_rfl) (by kernel_rfl) Tryz.ntmps4.symm (by decide) (fun x r h => (e_laws_FnExactBuildStep x).trans h)
noncomputable def n_laws_FnExactBuildStep (a0 : dA) : Bool := true
theorem buildStep_small {a : dA} (ha : mArr a ≤ 2097152) : mArr (buildStep a).1 ≤ 2105000 := by
  cases h : arrOk a
  · unfold buildStep; rw [h]; show mArr a ≤ _; omega
  · exact arr_near ha (near_buildStep (near_arr h))
theorem nn_laws_FnExactBuildStep (a0 : dA) (hk : InOk I_laws_FnExactBuildStep (a0, ())) : raw_laws_FnExactBuildStep a0 = (fun n => some ((n, ()), ())) (n_laws_FnExactBuildStep a0) := by
  unfold raw_laws_FnExactBuildStep n_laws_FnExactBuildStep n_impl_BuildStep n_spec_BuildStep
  cases h : ltb (n_laws_szArr a0 1048576) 0
  · have hs := szArr_le (a := a0) hk.1 h
    have hf := buildStep_small hs
    obtain ⟨f1, f2, f3⟩ := mk_arr3 (x := a0) (by omega)
    obtain ⟨g1, g2, g3⟩ := mk_arr3 (x := (buildStep a0).1) (by omega)
    simp only [h, id_laws_toArr, eqr_laws_eqArr, bne_self_eq_false, Bool.not_true, Bool.not_false, cond_true, cond_false, f1, g2, g3]
  · simp only [h, cond_true]
noncomputable def con_laws_FnExactBuildStep : Con := ⟨I_laws_FnExactBuildStep, U_laws_FnExactBuildStep, fun x => (fun n => some ((n, ()), ())) (n_laws_FnExactBuildStep x.1)⟩
theorem ok_laws_FnExactBuildStep : ConOk Tryz.prog 4 con_laws_FnExactBuildStep := (ok0_laws_FnExactBuildStep).mono (fun x r hk h => (nn_laws_FnExactBuildStep x.1 hk).trans h)
end
end Go.Tf
