/- Functions of the program, and what they come to. -/
import Derived.Test.YtmamkjioahnecaaExactPowerOffF11
namespace Go.Tf
open Go.Proofs
set_option synthInstance.maxHeartbeats 400000
set_option synthInstance.maxSize 10000
set_option linter.unusedVariables false
set_option linter.unusedSimpArgs false
set_option maxRecDepth 100000
/-! laws_FnExactPowerOff -/
section
noncomputable def B_laws_FnExactPowerOff : Code := (Try.f11.body).getD .skip
noncomputable def E_laws_FnExactPowerOff : Env := envOf TT [(25, con_laws_szArr), (27, con_laws_toArr), (29, con_laws_eqArr), (50, con_laws_markArr), (55, con_spec_PowerOff), (56, con_impl_PowerOff), (57, con_laws_heldArr)] []
theorem fr_laws_FnExactPowerOff_0 : FrOk Try.prog ⟨E_laws_FnExactPowerOff, 69, fun _ => none⟩ B_laws_FnExactPowerOff := frOk_base mixed tt_ok ⟨ok_laws_szArr, ok_laws_toArr, ok_laws_eqArr, ok_laws_markArr, ok_spec_PowerOff, ok_impl_PowerOff, ok_laws_heldArr, trivial⟩
noncomputable def D_laws_FnExactPowerOff_0 : Nat → Option Seg := fun _ => none
abbrev I_laws_FnExactPowerOff : List Par := [.rd tA]
abbrev U_laws_FnExactPowerOff : List OT := [⟨false, tB, .fz⟩]
noncomputable def raw_laws_FnExactPowerOff (a0 : dA) : Option (ResD U_laws_FnExactPowerOff × MutD I_laws_FnExactPowerOff) :=
  let r1 := n_laws_szArr a0 1048576
  bif (ltb r1 0) then
    some ((true, ()), ())
  else
    let r2 := n_laws_toArr a0
    let r3 := n_spec_PowerOff r2
    let r4 := n_laws_toArr a0
    let r5 := n_impl_PowerOff r4
    let r6 := n_laws_eqArr r5 r3
    bif (!r6) then
      some ((false, ()), ())
    else
      let r7 := n_laws_toArr a0
      let r8 := n_laws_eqArr r4 r7
      bif (!r8) then
        some ((false, ()), ())
      else
        let r9 := n_laws_markArr r4 1
        bif (!(ltb r9.1 0)) then
          let r10 := n_laws_eqArr r5 r3
          bif (!r10) then
            some ((false, ()), ())
          else
            let r11 := n_laws_markArr r5 1
            let r12 := n_laws_heldArr (r5.1, r5.2.1, r11.2.2.2.1, r5.2.2.2.1, r5.2.2.2.2.1, r5.2.2.2.2.2.1, r5.2.2.2.2.2.2.1, r5.2.2.2.2.2.2.2.1, r11.2.2.2.2.2.2.2.2.2.1, r5.2.2.2.2.2.2.2.2.2) 1
            bif (ltb r12 0) then
              some ((false, ()), ())
            else
              bif (r12 != r11.1) then
                some ((false, ()), ())
              else
                let r13 := n_laws_toArr a0
                let r14 := n_impl_PowerOff r13
                let r15 := n_laws_eqArr r14 r3
                bif (!r15) then
                  some ((false, ()), ())
                else
                  let r16 := n_laws_heldArr (r5.1, r5.2.1, r11.2.2.2.1, r5.2.2.2.1, r5.2.2.2.2.1, r5.2.2.2.2.2.1, r5.2.2.2.2.2.2.1, r5.2.2.2.2.2.2.2.1, r11.2.2.2.2.2.2.2.2.2.1, r5.2.2.2.2.2.2.2.2.2) 1
                  bif (ltb r16 0) then
                    some ((false, ()), ())
                  else
                    bif (r16 != r11.1) then
                      some ((false, ()), ())
                    else
                      some ((true, ()), ())
        else
          some ((false, ()), ())
theorem e_laws_FnExactPowerOff (x : InD I_laws_FnExactPowerOff) : execF ⟨E_laws_FnExactPowerOff, 69, D_laws_FnExactPowerOff_0⟩ Try.f11.results.toList B_laws_FnExactPowerOff I_laws_FnExactPowerOff U_laws_FnExactPowerOff x = raw_laws_FnExactPowerOff x.1 := by kernel_rfl
theorem ok0_laws_FnExactPowerOff : ConOk Try.prog 11 ⟨I_laws_FnExactPowerOff, U_laws_FnExactPowerOff, fun x => raw_laws_FnExactPowerOff x.1⟩ := conOk_exec (fr_laws_FnExactPowerOff_0) Try.func11 (by kernel_rfl) (by kernel_rfl) Try.ntmps11.symm (by decide) (fun x r h => (e_laws_FnExactPowerOff x).trans h)
noncomputable def n_laws_FnExactPowerOff (a0 : dA) : Bool := true
theorem nn_laws_FnExactPowerOff (a0 : dA) (hk : InOk I_laws_FnExactPowerOff (a0, ())) : raw_laws_FnExactPowerOff a0 = (fun n => some ((n, ()), ())) (n_laws_FnExactPowerOff a0) := by
  unfold raw_laws_FnExactPowerOff n_laws_FnExactPowerOff n_impl_PowerOff n_spec_PowerOff
  cases h : ltb (n_laws_szArr a0 1048576) 0
  · have hs := szArr_le (a := a0) hk.1 h
    have hm : mArr (bif arrOk a0 then offA a0 else a0) = mArr a0 := by cases arrOk a0 <;> rfl
    obtain ⟨f1, f2, f3⟩ := mk_arr3 (x := a0) (by omega)
    obtain ⟨g1, g2, g3⟩ := mk_arr3 (x := bif arrOk a0 then offA a0 else a0) (by omega)
    simp only [h, id_laws_toArr, eqr_laws_eqArr, Bool.not_true, Bool.not_false, cond_true, cond_false, f1, g2, g3]
  · simp only [h, cond_true]
noncomputable def con_laws_FnExactPowerOff : Con := ⟨I_laws_FnExactPowerOff, U_laws_FnExactPowerOff, fun x => (fun n => some ((n, ()), ())) (n_laws_FnExactPowerOff x.1)⟩
theorem ok_laws_FnExactPowerOff : ConOk Try.prog 11 con_laws_FnExactPowerOff := (ok0_laws_FnExactPowerOff).mono (fun x r hk h => (nn_laws_FnExactPowerOff x.1 hk).trans h)
end
end Go.Tf
