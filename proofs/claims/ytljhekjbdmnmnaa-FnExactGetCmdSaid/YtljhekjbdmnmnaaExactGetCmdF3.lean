/- Functions of the program, and what they come to. -/
import Derived.Test.YtljhekjbdmnmnaaExactGetCmdF2
namespace Go.Tf
open Go.Proofs
set_option linter.unusedVariables false
set_option linter.unusedSimpArgs false
set_option maxRecDepth 100000
/-! laws_FnExactGetCmd -/
section
noncomputable def B_laws_FnExactGetCmd : Code := (Try.f5.body).getD .skip
noncomputable def E_laws_FnExactGetCmd : Env := envOf TT [(12, con_laws_eqIntS), (13, con_laws_markIntS), (19, con_laws_eqCmd), (20, con_laws_markCmd), (21, con_spec_GetCmd), (22, con_laws_toIntS), (23, con_impl_GetCmd), (24, con_laws_heldCmd)] []
theorem fr_laws_FnExactGetCmd_0 : FrOk Try.prog ⟨E_laws_FnExactGetCmd, 93, fun _ => none⟩ B_laws_FnExactGetCmd := frOk_base mixed tt_ok ⟨ok_laws_eqIntS, ok_laws_markIntS, ok_laws_eqCmd, ok_laws_markCmd, ok_spec_GetCmd, ok_laws_toIntS, ok_impl_GetCmd, ok_laws_heldCmd, trivial⟩
noncomputable def D_laws_FnExactGetCmd_0 : Nat → Option Seg := fun _ => none
abbrev I_laws_FnExactGetCmd : List Par := [.rd tL]
abbrev U_laws_FnExactGetCmd : List OT := [⟨false, tB, .fz⟩]
noncomputable def raw_laws_FnExactGetCmd (a0 : List Int) : Option (ResD U_laws_FnExactGetCmd × MutD I_laws_FnExactGetCmd) :=
  bif (ltb 1048576 (a0.length : Int)) then
    some ((true, ()), ())
  else
    let r1 := n_laws_toIntS a0
    let r2 := n_spec_GetCmd r1
    let r3 := n_laws_toIntS a0
    let r4 := n_impl_GetCmd r3
    let r5 := n_laws_eqCmd r4.1 r2.1
    bif (!(!r5)) then
      bif (!(r4.2 == r2.2)) then
        some ((false, ()), ())
      else
        let r6 := n_laws_toIntS a0
        let r7 := n_laws_eqIntS r3 r6
        bif (!r7) then
          some ((false, ()), ())
        else
          let r8 := n_laws_markIntS r3 1
          bif (!(ltb r8.1 0)) then
            let r9 := n_laws_eqCmd r4.1 r2.1
            bif (!(!r9)) then
              bif (!(r4.2 == r2.2)) then
                some ((false, ()), ())
              else
                let r10 := n_laws_markCmd r4.1 1
                let r11 := n_laws_heldCmd (r4.1.1, r4.1.2.1, r4.1.2.2.1, r4.1.2.2.2.1, r10.2.2.2.2.2) 1
                bif (ltb r11 0) then
                  some ((false, ()), ())
                else
                  bif (r11 != r10.1) then
                    some ((false, ()), ())
                  else
                    let r12 := n_laws_toIntS a0
                    let r13 := n_impl_GetCmd r12
                    let r14 := n_laws_eqCmd r13.1 r2.1
                    bif (!(!r14)) then
                      bif (!(r13.2 == r2.2)) then
                        some ((false, ()), ())
                      else
                        let r15 := n_laws_heldCmd (r4.1.1, r4.1.2.1, r4.1.2.2.1, r4.1.2.2.2.1, r10.2.2.2.2.2) 1
                        bif (ltb r15 0) then
                          some ((false, ()), ())
                        else
                          bif (r15 != r10.1) then
                            some ((false, ()), ())
                          else
                            some ((true, ()), ())
                    else
                      some ((false, ()), ())
            else
              some ((false, ()), ())
          else
            some ((false, ()), ())
    else
      some ((false, ()), ())
theorem e_laws_FnExactGetCmd (x : InD I_laws_FnExactGetCmd) : execF ⟨E_laws_FnExactGetCmd, 93, D_laws_FnExactGetCmd_0⟩ Try.f5.results.toList B_laws_FnExactGetCmd I_laws_FnExactGetCmd U_laws_FnExactGetCmd x = raw_laws_FnExactGetCmd x.1 := by kernel_rfl
theorem ok0_laws_FnExactGetCmd : ConOk Try.prog 5 ⟨I_laws_FnExactGetCmd, U_laws_FnExactGetCmd, fun x => raw_laws_FnExactGetCmd x.1⟩ := conOk_exec (fr_laws_FnExactGetCmd_0) Try.func5 (by kernel_rfl) (by kernel_rfl) Try.ntmps5.symm (by decide) (fun x r h => (e_laws_FnExactGetCmd x).trans h)
noncomputable def n_laws_FnExactGetCmd (a0 : List Int) : Bool := true
theorem nn_laws_FnExactGetCmd (a0 : List Int) (hk : InOk I_laws_FnExactGetCmd (a0, ())) : raw_laws_FnExactGetCmd a0 = (fun n => some ((n, ()), ())) (n_laws_FnExactGetCmd a0) := by
  have hb : a0.length * 8 ≤ 2 ^ 47 := hk.1.1
  have hg : (n_spec_GetCmd a0).1.2.2.2.2.length ≤ 4611686018427387903 := by
    unfold n_spec_GetCmd
    exact bif_ind (P := fun r : (Int × Int × Int × Int × List Int) × Bool => r.1.2.2.2.2.length ≤ 4611686018427387903) (by show (a0.drop 5).length ≤ _; rw [List.length_drop]; omega) (by simp)
  unfold raw_laws_FnExactGetCmd n_laws_FnExactGetCmd
  by_cases h : 1048576 < (a0.length : Int)
  · simp only [ltb_t h, cond_true]
  · simp only [ltb_f (Int.not_lt.1 h), cond_false, n_laws_toIntS, n_impl_GetCmd, eqInt_refl, eqCmd_refl, Bool.not_true, Bool.not_false, cond_true, beq_self_eq_true, n_laws_markCmd, n_laws_markIntS, held_cmd hg, dmark hg, dmark (show a0.length ≤ 4611686018427387903 by omega), bne_self_eq_false]
noncomputable def con_laws_FnExactGetCmd : Con := ⟨I_laws_FnExactGetCmd, U_laws_FnExactGetCmd, fun x => (fun n => some ((n, ()), ())) (n_laws_FnExactGetCmd x.1)⟩
theorem ok_laws_FnExactGetCmd : ConOk Try.prog 5 con_laws_FnExactGetCmd := (ok0_laws_FnExactGetCmd).mono (fun x r hk h => (nn_laws_FnExactGetCmd x.1 hk).trans h)
end
end Go.Tf
