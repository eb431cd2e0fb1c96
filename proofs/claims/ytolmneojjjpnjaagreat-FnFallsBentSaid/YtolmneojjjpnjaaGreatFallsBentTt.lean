/- The types of the program. -/
import Derived.Test.YtolmneojjjpnjaaGreatTf5
import Derived.Test.YtolmneojjjpnjaaGreatProg
namespace Go.Tf
open Go.Proofs Go.Proofs.Tryz
set_option synthInstance.maxHeartbeats 400000
set_option synthInstance.maxSize 10000
set_option linter.unusedVariables false
set_option linter.unusedSimpArgs false
set_option maxRecDepth 100000
theorem y8W:TIok prog 3 ⟨tI,[],0,false⟩:=zkP (by kernel_rfl) (by kernel_rfl)
theorem y8X:TIok prog 4 ⟨tB,[],0,false⟩:=zkE (by kernel_rfl) (by kernel_rfl)
theorem y8Y:TIok prog 5 ⟨tY,[],0,false⟩:=zkP (by kernel_rfl) (by kernel_rfl)
theorem y8J:TIok prog 22 ⟨tYs,[],5,false⟩:=zkT (by kernel_rfl) (by kernel_rfl) (by kernel_rfl)
theorem y8K:TIok prog 24 ⟨tMs,[],71,false⟩:=zkT (by kernel_rfl) (by kernel_rfl) (by kernel_rfl)
theorem y8L:TIok prog 28 ⟨tG,[(0,1,false),(1,1,false)],0,true⟩:=zkU (by kernel_rfl) (by kernel_rfl) (by kernel_rfl) (by kernel_rfl) (by kernel_rfl) (fun _=>⟨by kernel_rfl,by kernel_rfl,by kernel_rfl,by kernel_rfl⟩)
theorem y8M:TIok prog 29 ⟨tWs,[],123,false⟩:=zkT (by kernel_rfl) (by kernel_rfl) (by kernel_rfl)
theorem y8N:TIok prog 31 ⟨tA,[(0,1,false),(1,2,true),(3,1,false),(4,1,false),(5,1,false),(6,1,false),(7,1,false),(8,1,false),(9,1,false),(10,1,false),(11,1,false),(12,1,false)],0,false⟩:=zkU (by kernel_rfl) (by kernel_rfl) (by kernel_rfl) (by kernel_rfl) (by kernel_rfl) (fun h=>by simp at h)
theorem y8O:TIok prog 34 ⟨tL,[],3,false⟩:=zkT (by kernel_rfl) (by kernel_rfl) (by kernel_rfl)
theorem y8P:TIok prog 42 ⟨tN,[(0,1,false),(1,1,false),(2,1,false)],0,false⟩:=zkU (by kernel_rfl) (by kernel_rfl) (by kernel_rfl) (by kernel_rfl) (by kernel_rfl) (fun h=>by simp at h)
theorem y8Q:TIok prog 68 ⟨tLL,[],34,false⟩:=zkT (by kernel_rfl) (by kernel_rfl) (by kernel_rfl)
theorem y8R:TIok prog 69 ⟨tWs,[],136,false⟩:=zkT (by kernel_rfl) (by kernel_rfl) (by kernel_rfl)
theorem y8S:TIok prog 71 ⟨tM,[(0,1,false),(1,1,false),(2,1,false),(3,1,false)],0,false⟩:=zkU (by kernel_rfl) (by kernel_rfl) (by kernel_rfl) (by kernel_rfl) (by kernel_rfl) (fun h=>by simp at h)
theorem y8T:TIok prog 84 ⟨tS,[(0,1,false),(1,1,false),(2,1,false),(3,1,false),(4,1,false),(5,1,false),(6,1,false),(7,1,false)],0,false⟩:=zkU (by kernel_rfl) (by kernel_rfl) (by kernel_rfl) (by kernel_rfl) (by kernel_rfl) (fun h=>by simp at h)
theorem y8x:TIok prog 123 ⟨tW,[(0,1,false),(1,1,false)],0,false⟩:=zkU (by kernel_rfl) (by kernel_rfl) (by kernel_rfl) (by kernel_rfl) (by kernel_rfl) (fun h=>by simp at h)
theorem y8y:TIok prog 130 ⟨tU,[(0,1,false),(1,1,false),(2,1,false)],0,false⟩:=zkU (by kernel_rfl) (by kernel_rfl) (by kernel_rfl) (by kernel_rfl) (by kernel_rfl) (fun h=>by simp at h)
theorem y8z:TIok prog 136 ⟨tW,[(0,1,false),(1,1,false)],0,false⟩:=zkU (by kernel_rfl) (by kernel_rfl) (by kernel_rfl) (by kernel_rfl) (by kernel_rfl) (fun h=>by simp at h)
theorem y8A:TIok prog 146 ⟨(.int .u64),[],0,false⟩:=zkP (by kernel_rfl) (by kernel_rfl)
def TT:List (Nat×TI):= [(3,⟨tI,[],0,false⟩),(4,⟨tB,[],0,false⟩),(5,⟨tY,[],0,false⟩),(22,⟨tYs,[],5,false⟩),(24,⟨tMs,[],71,false⟩),(28,⟨tG,[(0,1,false),(1,1,false)],0,true⟩),(29,⟨tWs,[],123,false⟩),(31,⟨tA,[(0,1,false),(1,2,true),(3,1,false),(4,1,false),(5,1,false),(6,1,false),(7,1,false),(8,1,false),(9,1,false),(10,1,false),(11,1,false),(12,1,false)],0,false⟩),(34,⟨tL,[],3,false⟩),(42,⟨tN,[(0,1,false),(1,1,false),(2,1,false)],0,false⟩),(68,⟨tLL,[],34,false⟩),(69,⟨tWs,[],136,false⟩),(71,⟨tM,[(0,1,false),(1,1,false),(2,1,false),(3,1,false)],0,false⟩),(84,⟨tS,[(0,1,false),(1,1,false),(2,1,false),(3,1,false),(4,1,false),(5,1,false),(6,1,false),(7,1,false)],0,false⟩),(123,⟨tW,[(0,1,false),(1,1,false)],0,false⟩),(130,⟨tU,[(0,1,false),(1,1,false),(2,1,false)],0,false⟩),(136,⟨tW,[(0,1,false),(1,1,false)],0,false⟩),(146,⟨(.int .u64),[],0,false⟩)]
theorem yd:AllT prog TT:=⟨y8W,y8X,y8Y,y8J,y8K,y8L,y8M,y8N,y8O,y8P,y8Q,y8R,y8S,y8T,y8x,y8y,y8z,y8A,trivial⟩
theorem mixed:prog.follows .mixedOrders=true:=by kernel_rfl
end Go.Tf
