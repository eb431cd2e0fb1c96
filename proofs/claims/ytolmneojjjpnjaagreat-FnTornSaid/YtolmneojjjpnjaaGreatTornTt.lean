/- The types of the program. -/
import Derived.Test.YtolmneojjjpnjaaGreatTf5
import Derived.Test.YtolmneojjjpnjaaGreatProg
namespace Go.Tf
open Go.Proofs Go.Proofs.Tryz
set_option synthInstance.maxHeartbeats 400000
set_option synthInstance.maxSize 10000
set_option linter.unusedVariables false
set_option linter.unusedSimpArgs false
set_option maxRecDepth 100000
theorem y5V:TIok prog 3 ⟨tI,[],0,false⟩:=zkN (by kernel_rfl) (by kernel_rfl)
theorem y5W:TIok prog 4 ⟨tB,[],0,false⟩:=zkC (by kernel_rfl) (by kernel_rfl)
theorem y5X:TIok prog 5 ⟨tY,[],0,false⟩:=zkN (by kernel_rfl) (by kernel_rfl)
theorem y5H:TIok prog 22 ⟨tYs,[],5,false⟩:=zkR (by kernel_rfl) (by kernel_rfl) (by kernel_rfl)
theorem y5I:TIok prog 24 ⟨tMs,[],71,false⟩:=zkR (by kernel_rfl) (by kernel_rfl) (by kernel_rfl)
theorem y5J:TIok prog 28 ⟨tG,[(0,1,false),(1,1,false)],0,false⟩:=zkS (by kernel_rfl) (by kernel_rfl) (by kernel_rfl) (by kernel_rfl) (by kernel_rfl) (fun h=>by simp at h)
theorem y5K:TIok prog 29 ⟨tWs,[],123,false⟩:=zkR (by kernel_rfl) (by kernel_rfl) (by kernel_rfl)
theorem y5L:TIok prog 31 ⟨tA,[(0,1,false),(1,2,true),(3,1,false),(4,1,false),(5,1,false),(6,1,false),(7,1,false),(8,1,false),(9,1,false),(10,1,false),(11,1,false),(12,1,false)],0,false⟩:=zkS (by kernel_rfl) (by kernel_rfl) (by kernel_rfl) (by kernel_rfl) (by kernel_rfl) (fun h=>by simp at h)
theorem y5M:TIok prog 34 ⟨tL,[],3,false⟩:=zkR (by kernel_rfl) (by kernel_rfl) (by kernel_rfl)
theorem y5N:TIok prog 42 ⟨tN,[(0,1,false),(1,1,false),(2,1,false)],0,false⟩:=zkS (by kernel_rfl) (by kernel_rfl) (by kernel_rfl) (by kernel_rfl) (by kernel_rfl) (fun h=>by simp at h)
theorem y5O:TIok prog 68 ⟨tLL,[],34,false⟩:=zkR (by kernel_rfl) (by kernel_rfl) (by kernel_rfl)
theorem y5P:TIok prog 69 ⟨tWs,[],136,false⟩:=zkR (by kernel_rfl) (by kernel_rfl) (by kernel_rfl)
theorem y5Q:TIok prog 71 ⟨tM,[(0,1,false),(1,1,false),(2,1,false),(3,1,false)],0,false⟩:=zkS (by kernel_rfl) (by kernel_rfl) (by kernel_rfl) (by kernel_rfl) (by kernel_rfl) (fun h=>by simp at h)
theorem y5R:TIok prog 84 ⟨tS,[(0,1,false),(1,1,false),(2,1,false),(3,1,false),(4,1,false),(5,1,false),(6,1,false),(7,1,false)],0,false⟩:=zkS (by kernel_rfl) (by kernel_rfl) (by kernel_rfl) (by kernel_rfl) (by kernel_rfl) (fun h=>by simp at h)
theorem y5x:TIok prog 123 ⟨tW,[(0,1,false),(1,1,false)],0,false⟩:=zkS (by kernel_rfl) (by kernel_rfl) (by kernel_rfl) (by kernel_rfl) (by kernel_rfl) (fun h=>by simp at h)
theorem y5y:TIok prog 130 ⟨tU,[(0,1,false),(1,1,false),(2,1,false)],0,false⟩:=zkS (by kernel_rfl) (by kernel_rfl) (by kernel_rfl) (by kernel_rfl) (by kernel_rfl) (fun h=>by simp at h)
theorem y5z:TIok prog 136 ⟨tW,[(0,1,false),(1,1,false)],0,false⟩:=zkS (by kernel_rfl) (by kernel_rfl) (by kernel_rfl) (by kernel_rfl) (by kernel_rfl) (fun h=>by simp at h)
def TT:List (Nat×TI):= [(3,⟨tI,[],0,false⟩),(4,⟨tB,[],0,false⟩),(5,⟨tY,[],0,false⟩),(22,⟨tYs,[],5,false⟩),(24,⟨tMs,[],71,false⟩),(28,⟨tG,[(0,1,false),(1,1,false)],0,false⟩),(29,⟨tWs,[],123,false⟩),(31,⟨tA,[(0,1,false),(1,2,true),(3,1,false),(4,1,false),(5,1,false),(6,1,false),(7,1,false),(8,1,false),(9,1,false),(10,1,false),(11,1,false),(12,1,false)],0,false⟩),(34,⟨tL,[],3,false⟩),(42,⟨tN,[(0,1,false),(1,1,false),(2,1,false)],0,false⟩),(68,⟨tLL,[],34,false⟩),(69,⟨tWs,[],136,false⟩),(71,⟨tM,[(0,1,false),(1,1,false),(2,1,false),(3,1,false)],0,false⟩),(84,⟨tS,[(0,1,false),(1,1,false),(2,1,false),(3,1,false),(4,1,false),(5,1,false),(6,1,false),(7,1,false)],0,false⟩),(123,⟨tW,[(0,1,false),(1,1,false)],0,false⟩),(130,⟨tU,[(0,1,false),(1,1,false),(2,1,false)],0,false⟩),(136,⟨tW,[(0,1,false),(1,1,false)],0,false⟩)]
theorem yg:AllT prog TT:=⟨y5V,y5W,y5X,y5H,y5I,y5J,y5K,y5L,y5M,y5N,y5O,y5P,y5Q,y5R,y5x,y5y,y5z,trivial⟩
theorem yf:prog.follows .mixedOrders=true:=by kernel_rfl
end Go.Tf
