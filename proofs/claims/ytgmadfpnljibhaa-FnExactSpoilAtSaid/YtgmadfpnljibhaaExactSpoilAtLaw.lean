/-
  laws.FnExactSpoilAt returns true at every input that the row describes, and leaves its arguments as they were. No condition: the statement is the row's own.
-/
import Derived.Test.YtgmadfpnljibhaaRows
import Derived.Test.YtgmadfpnljibhaaTfR
import Derived.Test.YtgmadfpnljibhaaExactSpoilAtF13
namespace Go.Proofs.Ytgmadfpnljibhaa
open Go.Tf
set_option maxRecDepth 100000

theorem lifted (os : Os) (started : os.Started) (H : Type) (enc : TypeId × Value → H) :
    ReturnsInHanded {} Try.checked os 5 .any (Rows.fnExactSpoilAtSpec.pre6 enc Try.prog Try.f5 Rows.fnExactSpoilAtRow.domain false) (Rows.fnExactSpoilAtSpec.post enc Try.prog Try.f5 false true false false) := by
  refine returnsInHanded_of_change_sized (C := Try.checked) (by kernel_rfl) started (by kernel_rfl) Try.func5
    (ChangeSpec.witness6 (enc := enc) (C := Try.checked) false ⟨#[], #[.agg #[.int .i64 0, .int .i64 0, .int .i64 0, .slice none 0 0, .int .i64 0, .int .i64 0, .int .i64 0, .int .i64 0, .int .i64 0, .slice none 0 0, .int .i64 0, .bool false, .bool false], .int .i64 0, .int .i64 0], []⟩ 8 (by kernel_rfl) (by kernel_rfl) (by kernel_rfl) (by kernel_rfl)) ?_
  intro W base args ds gs before hval hW _ hsz _
  exact law_calls (P := Try.prog) (Ts := [tA, tI, tI]) (tb := Try.f5.resultTypes.getD 0 0) ok_laws_FnExactSpoilAt (fun _ => ⟨_, rfl⟩) (by kernel_rfl) (by kernel_rfl) (by kernel_rfl) rfl (fun ds h => by match ds, h with | [d0, d1, d2], _ => rfl)
    (fun j t v h1 h2 => ⟨base, hval j t v h1 h2⟩) hW hsz

theorem joined : joinedFacts Try.pinned.checked.prog 5 Try.f5 Rows.fnExactSpoilAtSpec Rows.fnExactSpoilAtRow = true := by kernel_rfl

theorem proved : Rows.FnExactSpoilAtSaid :=
  OpenClaim.holds_of_wide 5 Try.f5 rfl rfl rfl rfl rfl rfl rfl ⟨rfl, rfl, rfl, rfl, rfl⟩ rfl rfl rfl rfl rfl (by kernel_rfl) Try.func5 joined
    (of_decide_eq_true (by kernel_rfl)) (by unfold Func.isWrapper; first | (rw [if_pos (by decide +kernel)]; kernel_rfl) | (rw [if_neg (by decide +kernel)]; exact ⟨rfl, rfl⟩))
    (fun os started H enc _ => lifted os started H enc)

end Go.Proofs.Ytgmadfpnljibhaa
