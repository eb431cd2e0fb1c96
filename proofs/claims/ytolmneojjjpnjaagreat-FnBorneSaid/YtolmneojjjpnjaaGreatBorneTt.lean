/- The types of the program. -/
import Derived.Test.YtolmneojjjpnjaaGreatTf5
import Derived.Test.YtolmneojjjpnjaaGreatProg
namespace Go.Tf
open Go.Proofs Go.Proofs.Tryz
set_option synthInstance.maxHeartbeats 400000
set_option synthInstance.maxSize 10000
set_option linter.unusedVariables false
set_option linter.unusedSimpArgs false
set_option maxRecDepth 100000
theorem y1K:TIok prog 3 ⟨tI,[],0,false⟩:=zkP (by kernel_rfl) (by kernel_rfl)
theorem y1L:TIok prog 4 ⟨tB,[],0,false⟩:=zkE (by kernel_rfl) (by kernel_rfl)
theorem y1M:TIok prog 5 ⟨tY,[],0,false⟩:=zkP (by kernel_rfl) (by kernel_rfl)
theorem y1w:TIok prog 22 ⟨tYs,[],5,false⟩:=zkT (by kernel_rfl) (by kernel_rfl) (by kernel_rfl)
theorem y1x:TIok prog 24 ⟨tMs,[],71,false⟩:=zkT (by kernel_rfl) (by kernel_rfl) (by kernel_rfl)
theorem y1y:TIok prog 28 ⟨tG,[(0,1,false),(1,1,false)],0,false⟩:=zkU (by kernel_rfl) (by kernel_rfl) (by kernel_rfl) (by kernel_rfl) (by kernel_rfl) (fun h=>by simp at h)
theorem y1z:TIok prog 29 ⟨tWs,[],123,false⟩:=zkT (by kernel_rfl) (by kernel_rfl) (by kernel_rfl)
theorem y1A:TIok prog 31 ⟨tA,[(0,1,false),(1,2,true),(3,1,false),(4,1,false),(5,1,false),(6,1,false),(7,1,false),(8,1,false),(9,1,false),(10,1,false),(11,1,false),(12,1,false)],0,false⟩:=zkU (by kernel_rfl) (by kernel_rfl) (by kernel_rfl) (by kernel_rfl) (by kernel_rfl) (fun h=>by simp at h)
theorem y1B:TIok prog 34 ⟨tL,[],3,false⟩:=zkT (by kernel_rfl) (by kernel_rfl) (by kernel_rfl)
theorem y1C:TIok prog 42 ⟨tN,[(0,1,false),(1,1,false),(2,1,false)],0,false⟩:=zkU (by kernel_rfl) (by kernel_rfl) (by kernel_rfl) (by kernel_rfl) (by kernel_rfl) (fun h=>by simp at h)
theorem y1D:TIok prog 68 ⟨tLL,[],34,false⟩:=zkT (by kernel_rfl) (by kernel_rfl) (by kernel_rfl)
theorem y1E:TIok prog 69 ⟨tWs,[],136,false⟩:=zkT (by kernel_rfl) (by kernel_rfl) (by kernel_rfl)
theorem y1F:TIok prog 71 ⟨tM,[(0,1,false),(1,1,false),(2,1,false),(3,1,false)],0,false⟩:=zkU (by kernel_rfl) (by kernel_rfl) (by kernel_rfl) (by kernel_rfl) (by kernel_rfl) (fun h=>by simp at h)
theorem y1G:TIok prog 84 ⟨tS,[(0,1,false),(1,1,false),(2,1,false),(3,1,false),(4,1,false),(5,1,false),(6,1,false),(7,1,false)],0,false⟩:=zkU (by kernel_rfl) (by kernel_rfl) (by kernel_rfl) (by kernel_rfl) (by kernel_rfl) (fun h=>by simp at h)
theorem y1k:TIok prog 123 ⟨tW,[(0,1,false),(1,1,false)],0,false⟩:=zkU (by kernel_rfl) (by kernel_rfl) (by kernel_rfl) (by kernel_rfl) (by kernel_rfl) (fun h=>by simp at h)
theorem y1l:TIok prog 130 ⟨tU,[(0,1,false),(1,1,false),(2,1,false)],0,false⟩:=zkU (by kernel_rfl) (by kernel_rfl) (by kernel_rfl) (by kernel_rfl) (by kernel_rfl) (fun h=>by simp at h)
theorem y1m:TIok prog 136 ⟨tW,[(0,1,false),(1,1,false)],0,false⟩:=zkU (by kernel_rfl) (by kernel_rfl) (by kernel_rfl) (by kernel_rfl) (by kernel_rfl) (fun h=>by simp at h)
def TT:List (Nat×TI):= [(3,⟨tI,[],0,false⟩),(4,⟨tB,[],0,false⟩),(5,⟨tY,[],0,false⟩),(22,⟨tYs,[],5,false⟩),(24,⟨tMs,[],71,false⟩),(28,⟨tG,[(0,1,false),(1,1,false)],0,false⟩),(29,⟨tWs,[],123,false⟩),(31,⟨tA,[(0,1,false),(1,2,true),(3,1,false),(4,1,false),(5,1,false),(6,1,false),(7,1,false),(8,1,false),(9,1,false),(10,1,false),(11,1,false),(12,1,false)],0,false⟩),(34,⟨tL,[],3,false⟩),(42,⟨tN,[(0,1,false),(1,1,false),(2,1,false)],0,false⟩),(68,⟨tLL,[],34,false⟩),(69,⟨tWs,[],136,false⟩),(71,⟨tM,[(0,1,false),(1,1,false),(2,1,false),(3,1,false)],0,false⟩),(84,⟨tS,[(0,1,false),(1,1,false),(2,1,false),(3,1,false),(4,1,false),(5,1,false),(6,1,false),(7,1,false)],0,false⟩),(123,⟨tW,[(0,1,false),(1,1,false)],0,false⟩),(130,⟨tU,[(0,1,false),(1,1,false),(2,1,false)],0,false⟩),(136,⟨tW,[(0,1,false),(1,1,false)],0,false⟩)]
theorem yc:AllT prog TT:=⟨y1K,y1L,y1M,y1w,y1x,y1y,y1z,y1A,y1B,y1C,y1D,y1E,y1F,y1G,y1k,y1l,y1m,trivial⟩
theorem mixed:prog.follows .mixedOrders=true:=by kernel_rfl
end Go.Tf
