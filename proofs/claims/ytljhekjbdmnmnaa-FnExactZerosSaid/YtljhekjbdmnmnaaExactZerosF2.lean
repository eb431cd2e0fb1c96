/- Functions of the program, and what they come to. -/
import Derived.Test.YtljhekjbdmnmnaaExactZerosF1
namespace Go.Tf
open Go.Proofs
set_option linter.unusedVariables false
set_option linter.unusedSimpArgs false
set_option maxRecDepth 100000
/-! laws_FnExactZeros -/
section
noncomputable def B_laws_FnExactZeros : Code := (Try.f3.body).getD .skip
noncomputable def E_laws_FnExactZeros : Env := envOf TT [(9, con_spec_Zeros), (10, con_laws_toGeo), (11, con_impl_Zeros), (12, con_laws_eqIntS), (13, con_laws_markIntS), (14, con_laws_heldIntS)] []
theorem fr_laws_FnExactZeros_0 : FrOk Try.prog ⟨E_laws_FnExactZeros, 44, fun _ => none⟩ B_laws_FnExactZeros := frOk_base mixed tt_ok ⟨ok_spec_Zeros, ok_laws_toGeo, ok_impl_Zeros, ok_laws_eqIntS, ok_laws_markIntS, ok_laws_heldIntS, trivial⟩
noncomputable def D_laws_FnExactZeros_0 : Nat → Option Seg := fun _ => none
abbrev I_laws_FnExactZeros : List Par := [.rd tG]
abbrev U_laws_FnExactZeros : List OT := [⟨false, tB, .fz⟩]
noncomputable def raw_laws_FnExactZeros (a0 : Int × Int) : Option (ResD U_laws_FnExactZeros × MutD I_laws_FnExactZeros) :=
  let r1 := n_laws_toGeo a0
  let r2 := n_spec_Zeros r1
  let r3 := n_laws_toGeo a0
  let r4 := n_impl_Zeros r3
  let r5 := n_laws_eqIntS r4 r2
  bif (!r5) then
    some ((false, ()), ())
  else
    let r6 := n_laws_markIntS r4 1
    let r7 := n_laws_heldIntS r6.2 1
    bif (decide (r7 < 0)) then
      some ((false, ()), ())
    else
      bif (r7 != r6.1) then
        some ((false, ()), ())
      else
        let r8 := n_laws_toGeo a0
        let r9 := n_impl_Zeros r8
        let r10 := n_laws_eqIntS r9 r2
        bif (!r10) then
          some ((false, ()), ())
        else
          let r11 := n_laws_heldIntS r6.2 1
          bif (decide (r11 < 0)) then
            some ((false, ()), ())
          else
            bif (r11 != r6.1) then
              some ((false, ()), ())
            else
              some ((true, ()), ())
theorem e_laws_FnExactZeros (x : InD I_laws_FnExactZeros) : execF ⟨E_laws_FnExactZeros, 44, D_laws_FnExactZeros_0⟩ Try.f3.results.toList B_laws_FnExactZeros I_laws_FnExactZeros U_laws_FnExactZeros x = raw_laws_FnExactZeros x.1 := by kernel_rfl
theorem ok0_laws_FnExactZeros : ConOk Try.prog 3 ⟨I_laws_FnExactZeros, U_laws_FnExactZeros, fun x => raw_laws_FnExactZeros x.1⟩ := conOk_exec (fr_laws_FnExactZeros_0) Try.func3 (by kernel_rfl) (by kernel_rfl) Try.ntmps3.symm (by decide) (fun x r h => (e_laws_FnExactZeros x).trans h)
noncomputable def n_laws_FnExactZeros (a0 : Int × Int) : Bool := true
theorem nn_laws_FnExactZeros (a0 : Int × Int) (hk : InOk I_laws_FnExactZeros (a0, ())) : raw_laws_FnExactZeros a0 = (fun n => some ((n, ()), ())) (n_laws_FnExactZeros a0) := by
  have hb := spec_Blocks_le (n_laws_toGeo a0)
  have hm : 0 ≤ markEnd 1 (n_spec_Blocks (n_laws_toGeo a0)).toNat := by
    have : ∀ n, n ≤ 32 → markEnd 1 n = n + 1 := by
      intro n
      induction n with
      | zero => intro _; rfl
      | succ n ih => intro h; rw [markEnd_succ, ih (by omega), wr (by omega) (by omega)]; omega
    rw [this _ (by omega)]; omega
  unfold raw_laws_FnExactZeros n_laws_FnExactZeros
  have he : n_laws_eqIntS (n_impl_Zeros (n_laws_toGeo a0)) (n_spec_Zeros (n_laws_toGeo a0)) = true := by unfold n_laws_eqIntS n_impl_Zeros n_spec_Zeros; simp
  simp only [he, Bool.not_true, cond_false, n_laws_markIntS, held_marks, decide_eq_false (show ¬ (markEnd 1 (n_impl_Zeros (n_laws_toGeo a0)).length < 0) by rw [n_impl_Zeros, List.length_replicate]; omega), bne_self_eq_false]
noncomputable def con_laws_FnExactZeros : Con := ⟨I_laws_FnExactZeros, U_laws_FnExactZeros, fun x => (fun n => some ((n, ()), ())) (n_laws_FnExactZeros x.1)⟩
theorem ok_laws_FnExactZeros : ConOk Try.prog 3 con_laws_FnExactZeros := (ok0_laws_FnExactZeros).mono (fun x r hk h => (nn_laws_FnExactZeros x.1 hk).trans h)
end
end Go.Tf
