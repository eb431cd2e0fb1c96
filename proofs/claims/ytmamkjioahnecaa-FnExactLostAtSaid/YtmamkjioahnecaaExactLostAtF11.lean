/- Functions of the program, and what they come to. -/
import Derived.Test.YtmamkjioahnecaaExactLostAtF10
namespace Go.Tf
open Go.Proofs
set_option synthInstance.maxHeartbeats 400000
set_option synthInstance.maxSize 10000
set_option linter.unusedVariables false
set_option linter.unusedSimpArgs false
set_option maxRecDepth 100000
/-! laws_FnExactLostAt -/
section
noncomputable def B_laws_FnExactLostAt : Code := (Try.f8.body).getD .skip
noncomputable def E_laws_FnExactLostAt : Env := envOf TT [(25, con_laws_szArr), (27, con_laws_toArr), (29, con_laws_eqArr), (45, con_spec_LostAt), (46, con_impl_LostAt)] []
theorem fr_laws_FnExactLostAt_0 : FrOk Try.prog ⟨E_laws_FnExactLostAt, 31, fun _ => none⟩ B_laws_FnExactLostAt := frOk_base mixed tt_ok ⟨ok_laws_szArr, ok_laws_toArr, ok_laws_eqArr, ok_spec_LostAt, ok_impl_LostAt, trivial⟩
noncomputable def D_laws_FnExactLostAt_0 : Nat → Option Seg := fun _ => none
abbrev I_laws_FnExactLostAt : List Par := [.rd tA, .rd tI]
abbrev U_laws_FnExactLostAt : List OT := [⟨false, tB, .fz⟩]
noncomputable def raw_laws_FnExactLostAt (a0 : dA) (a1 : Int) : Option (ResD U_laws_FnExactLostAt × MutD I_laws_FnExactLostAt) :=
  let r1 := n_laws_szArr a0 1048576
  bif (ltb r1 0) then
    some ((true, ()), ())
  else
    let r2 := n_laws_toArr a0
    let r3 := n_spec_LostAt r2 a1
    let r4 := n_laws_toArr a0
    let r5 := n_impl_LostAt r4 a1
    bif (r5 != r3) then
      some ((false, ()), ())
    else
      let r6 := n_laws_toArr a0
      let r7 := n_laws_eqArr r4 r6
      bif (!r7) then
        some ((false, ()), ())
      else
        some ((true, ()), ())
theorem e_laws_FnExactLostAt (x : InD I_laws_FnExactLostAt) : execF ⟨E_laws_FnExactLostAt, 31, D_laws_FnExactLostAt_0⟩ Try.f8.results.toList B_laws_FnExactLostAt I_laws_FnExactLostAt U_laws_FnExactLostAt x = raw_laws_FnExactLostAt x.1 x.2.1 := by kernel_rfl
theorem ok0_laws_FnExactLostAt : ConOk Try.prog 8 ⟨I_laws_FnExactLostAt, U_laws_FnExactLostAt, fun x => raw_laws_FnExactLostAt x.1 x.2.1⟩ := conOk_exec (fr_laws_FnExactLostAt_0) Try.func8 (by kernel_rfl) (by kernel_rfl) Try.ntmps8.symm (by decide) (fun x r h => (e_laws_FnExactLostAt x).trans h)
noncomputable def n_laws_FnExactLostAt (a0 : dA) (a1 : Int) : Bool := true
theorem nn_laws_FnExactLostAt (a0 : dA) (a1 : Int) (hk : InOk I_laws_FnExactLostAt (a0, a1, ())) : raw_laws_FnExactLostAt a0 a1 = (fun n => some ((n, ()), ())) (n_laws_FnExactLostAt a0 a1) := by
  unfold raw_laws_FnExactLostAt n_laws_FnExactLostAt n_impl_LostAt n_spec_LostAt
  simp only [id_laws_toArr, bne_self_eq_false, Bool.not_true, cond_false, eqr_laws_eqArr]
  cases ltb (n_laws_szArr a0 1048576) 0 <;> rfl
noncomputable def con_laws_FnExactLostAt : Con := ⟨I_laws_FnExactLostAt, U_laws_FnExactLostAt, fun x => (fun n => some ((n, ()), ())) (n_laws_FnExactLostAt x.1 x.2.1)⟩
theorem ok_laws_FnExactLostAt : ConOk Try.prog 8 con_laws_FnExactLostAt := (ok0_laws_FnExactLostAt).mono (fun x r hk h => (nn_laws_FnExactLostAt x.1 x.2.1 hk).trans h)
end
end Go.Tf
