/-
  laws.FnModels returns true at every input that the row describes, and leaves its arguments as they were. No condition: the statement is the row's own.
-/
import Derived.Test.YtgmadfpnljibhaaRows
import Derived.Test.YtgmadfpnljibhaaTfR
import Derived.Test.YtgmadfpnljibhaaModelsF7
namespace Go.Proofs.Ytgmadfpnljibhaa
open Go.Tf
set_option maxRecDepth 100000

theorem lifted (os : Os) (started : os.Started) (H : Type) (enc : TypeId × Value → H) :
    ReturnsInHanded {} Try.checked os 4 .any (Rows.fnModelsSpec.pre6 enc Try.prog Try.f4 Rows.fnModelsRow.domain false) (Rows.fnModelsSpec.post enc Try.prog Try.f4 false true false false) := by
  refine returnsInHanded_of_change_sized (C := Try.checked) (by kernel_rfl) started (by kernel_rfl) Try.func4
    (ChangeSpec.witness6 (enc := enc) (C := Try.checked) false ⟨#[], #[.slice none 0 0], []⟩ 8 (by kernel_rfl) (by kernel_rfl) (by kernel_rfl) (by kernel_rfl)) ?_
  intro W base args ds gs before hval hW _ hsz _
  exact law_code (P := Try.prog)  (tb := Try.f4.resultTypes.getD 0 0) ok_laws_FnModels (fun _ => ⟨_, rfl⟩) (by kernel_rfl) (by kernel_rfl) (by kernel_rfl) rfl (fun ds h => by match ds, h with | [d0], _ => rfl)
    (fun j t v h1 h2 => ⟨base, hval j t v h1 h2⟩) hW hsz

theorem joined : joinedFacts Try.pinned.checked.prog 4 Try.f4 Rows.fnModelsSpec Rows.fnModelsRow = true := by kernel_rfl

theorem proved : Rows.FnModelsSaid :=
  OpenClaim.holds_of_wide 4 Try.f4 rfl rfl rfl rfl rfl rfl rfl ⟨rfl, rfl, rfl, rfl, rfl⟩ rfl rfl rfl rfl rfl (by kernel_rfl) Try.func4 joined
    (of_decide_eq_true (by kernel_rfl)) (by unfold Func.isWrapper; first | (rw [if_pos (by decide +kernel)]; kernel_rfl) | (rw [if_neg (by decide +kernel)]; exact ⟨rfl, rfl⟩))
    (fun os started H enc _ => lifted os started H enc)

end Go.Proofs.Ytgmadfpnljibhaa
