/-
  laws.FnBorne returns true at every input that the row describes, and leaves its arguments as they were. No condition: the statement is the row's own.
-/
import Derived.Test.YtolmneojjjpnjaaGreatRows
import Derived.Test.YtolmneojjjpnjaaGreatTfR
import Derived.Test.YtolmneojjjpnjaaGreatBorneF5
namespace Go.Proofs.YtolmneojjjpnjaaGreat
open Go.Tf
set_option maxRecDepth 100000
theorem lifted (os:Os) (started:os.Started) (H:Type) (enc:TypeId×Value→H) :
  ReturnsInHanded {} Tryz.checked os 10 .any (Rows.fnBorneSpec.pre6 enc Tryz.prog Tryz.f10 Rows.fnBorneRow.domain false) (Rows.fnBorneSpec.post enc Tryz.prog Tryz.f10 false true false false):=by
 refine returnsInHanded_of_change_sized (C:=Tryz.checked) (by kernel_rfl) started (by kernel_rfl) Tryz.func10
  (ChangeSpec.witness6 (enc:=enc) (C:=Tryz.checked) false ⟨#[],#[.slice none 0 0],[]⟩ 8 (by kernel_rfl) (by kernel_rfl) (by kernel_rfl) (by kernel_rfl)) ?_
 intro W base args ds gs before hval hW _ hsz _
 exact zkK (P:=Tryz.prog)  (tb:=Tryz.f10.resultTypes.getD 0 0) yR1 (fun _=>⟨_,rfl⟩) (by kernel_rfl) (by kernel_rfl) (by kernel_rfl) rfl (fun ds h=>by match ds,h with | [d0],_=>rfl)
  (fun j t v h1 h2=>⟨base,hval j t v h1 h2⟩) hW hsz
theorem joined:joinedFacts Tryz.pinned.checked.prog 10 Tryz.f10 Rows.fnBorneSpec Rows.fnBorneRow=true:=by kernel_rfl
theorem proved:Rows.FnBorneSaid :=
 OpenClaim.holds_of_wide 10 Tryz.f10 rfl rfl rfl rfl rfl rfl rfl ⟨rfl,rfl,rfl,rfl,rfl⟩ rfl rfl rfl rfl rfl (by kernel_rfl) Tryz.func10 joined
  (of_decide_eq_true (by kernel_rfl)) (by unfold Func.isWrapper; first | (rw[if_pos (by decide +kernel)]; kernel_rfl) | (rw[if_neg (by decide +kernel)]; exact⟨rfl,rfl⟩))
  (fun os started H enc _=>lifted os started H enc)
end Go.Proofs.YtolmneojjjpnjaaGreat
