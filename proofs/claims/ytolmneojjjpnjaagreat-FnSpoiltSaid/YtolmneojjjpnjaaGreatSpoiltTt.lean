/- The types of the program. -/
import Derived.Test.YtolmneojjjpnjaaGreatTf5
import Derived.Test.YtolmneojjjpnjaaGreatProg
namespace Go.Tf
open Go.Proofs Go.Proofs.Tryz
set_option synthInstance.maxHeartbeats 400000
set_option synthInstance.maxSize 10000
set_option linter.unusedVariables false
set_option linter.unusedSimpArgs false
set_option maxRecDepth 100000
theorem yWo:TIok prog 3 ⟨tI,[],0,false⟩:=zkP (by kernel_rfl) (by kernel_rfl)
theorem yWp:TIok prog 4 ⟨tB,[],0,false⟩:=zkE (by kernel_rfl) (by kernel_rfl)
theorem yWq:TIok prog 5 ⟨tY,[],0,false⟩:=zkP (by kernel_rfl) (by kernel_rfl)
theorem yWa:TIok prog 22 ⟨tYs,[],5,false⟩:=zkT (by kernel_rfl) (by kernel_rfl) (by kernel_rfl)
theorem yWb:TIok prog 24 ⟨tMs,[],71,false⟩:=zkT (by kernel_rfl) (by kernel_rfl) (by kernel_rfl)
theorem yWc:TIok prog 28 ⟨tG,[(0,1,false),(1,1,false)],0,false⟩:=zkU (by kernel_rfl) (by kernel_rfl) (by kernel_rfl) (by kernel_rfl) (by kernel_rfl) (fun h=>by simp at h)
theorem yWd:TIok prog 29 ⟨tWs,[],123,false⟩:=zkT (by kernel_rfl) (by kernel_rfl) (by kernel_rfl)
theorem yWe:TIok prog 31 ⟨tA,[(0,1,false),(1,2,true),(3,1,false),(4,1,false),(5,1,false),(6,1,false),(7,1,false),(8,1,false),(9,1,false),(10,1,false),(11,1,false),(12,1,false)],0,false⟩:=zkU (by kernel_rfl) (by kernel_rfl) (by kernel_rfl) (by kernel_rfl) (by kernel_rfl) (fun h=>by simp at h)
theorem yWf:TIok prog 34 ⟨tL,[],3,false⟩:=zkT (by kernel_rfl) (by kernel_rfl) (by kernel_rfl)
theorem yWg:TIok prog 42 ⟨tN,[(0,1,false),(1,1,false),(2,1,false)],0,false⟩:=zkU (by kernel_rfl) (by kernel_rfl) (by kernel_rfl) (by kernel_rfl) (by kernel_rfl) (fun h=>by simp at h)
theorem yWh:TIok prog 68 ⟨tLL,[],34,false⟩:=zkT (by kernel_rfl) (by kernel_rfl) (by kernel_rfl)
theorem yWi:TIok prog 69 ⟨tWs,[],136,false⟩:=zkT (by kernel_rfl) (by kernel_rfl) (by kernel_rfl)
theorem yWj:TIok prog 71 ⟨tM,[(0,1,false),(1,1,false),(2,1,false),(3,1,false)],0,false⟩:=zkU (by kernel_rfl) (by kernel_rfl) (by kernel_rfl) (by kernel_rfl) (by kernel_rfl) (fun h=>by simp at h)
theorem yWk:TIok prog 84 ⟨tS,[(0,1,false),(1,1,false),(2,1,false),(3,1,false),(4,1,false),(5,1,false),(6,1,false),(7,1,false)],0,false⟩:=zkU (by kernel_rfl) (by kernel_rfl) (by kernel_rfl) (by kernel_rfl) (by kernel_rfl) (fun h=>by simp at h)
theorem yVZ:TIok prog 123 ⟨tW,[(0,1,false),(1,1,false)],0,false⟩:=zkU (by kernel_rfl) (by kernel_rfl) (by kernel_rfl) (by kernel_rfl) (by kernel_rfl) (fun h=>by simp at h)
theorem yV0:TIok prog 130 ⟨tU,[(0,1,false),(1,1,false),(2,1,false)],0,false⟩:=zkU (by kernel_rfl) (by kernel_rfl) (by kernel_rfl) (by kernel_rfl) (by kernel_rfl) (fun h=>by simp at h)
theorem yV1:TIok prog 136 ⟨tW,[(0,1,false),(1,1,false)],0,false⟩:=zkU (by kernel_rfl) (by kernel_rfl) (by kernel_rfl) (by kernel_rfl) (by kernel_rfl) (fun h=>by simp at h)
def TT:List (Nat×TI):= [(3,⟨tI,[],0,false⟩),(4,⟨tB,[],0,false⟩),(5,⟨tY,[],0,false⟩),(22,⟨tYs,[],5,false⟩),(24,⟨tMs,[],71,false⟩),(28,⟨tG,[(0,1,false),(1,1,false)],0,false⟩),(29,⟨tWs,[],123,false⟩),(31,⟨tA,[(0,1,false),(1,2,true),(3,1,false),(4,1,false),(5,1,false),(6,1,false),(7,1,false),(8,1,false),(9,1,false),(10,1,false),(11,1,false),(12,1,false)],0,false⟩),(34,⟨tL,[],3,false⟩),(42,⟨tN,[(0,1,false),(1,1,false),(2,1,false)],0,false⟩),(68,⟨tLL,[],34,false⟩),(69,⟨tWs,[],136,false⟩),(71,⟨tM,[(0,1,false),(1,1,false),(2,1,false),(3,1,false)],0,false⟩),(84,⟨tS,[(0,1,false),(1,1,false),(2,1,false),(3,1,false),(4,1,false),(5,1,false),(6,1,false),(7,1,false)],0,false⟩),(123,⟨tW,[(0,1,false),(1,1,false)],0,false⟩),(130,⟨tU,[(0,1,false),(1,1,false),(2,1,false)],0,false⟩),(136,⟨tW,[(0,1,false),(1,1,false)],0,false⟩)]
theorem yc:AllT prog TT:=⟨yWo,yWp,yWq,yWa,yWb,yWc,yWd,yWe,yWf,yWg,yWh,yWi,yWj,yWk,yVZ,yV0,yV1,trivial⟩
theorem mixed:prog.follows .mixedOrders=true:=by kernel_rfl
end Go.Tf
