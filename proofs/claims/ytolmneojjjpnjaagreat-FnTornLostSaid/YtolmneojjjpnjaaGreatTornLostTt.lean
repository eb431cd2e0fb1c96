/- The types of the program. -/
import Derived.Test.YtolmneojjjpnjaaGreatTf5
import Derived.Test.YtolmneojjjpnjaaGreatProg
namespace Go.Tf
open Go.Proofs Go.Proofs.Tryz
set_option synthInstance.maxHeartbeats 400000
set_option synthInstance.maxSize 10000
set_option linter.unusedVariables false
set_option linter.unusedSimpArgs false
set_option maxRecDepth 100000
theorem y6Z:TIok prog 3 ⟨tI,[],0,false⟩:=zkN (by kernel_rfl) (by kernel_rfl)
theorem y60:TIok prog 4 ⟨tB,[],0,false⟩:=zkC (by kernel_rfl) (by kernel_rfl)
theorem y61:TIok prog 5 ⟨tY,[],0,false⟩:=zkN (by kernel_rfl) (by kernel_rfl)
theorem y6L:TIok prog 22 ⟨tYs,[],5,false⟩:=zkR (by kernel_rfl) (by kernel_rfl) (by kernel_rfl)
theorem y6M:TIok prog 24 ⟨tMs,[],71,false⟩:=zkR (by kernel_rfl) (by kernel_rfl) (by kernel_rfl)
theorem y6N:TIok prog 28 ⟨tG,[(0,1,false),(1,1,false)],0,false⟩:=zkS (by kernel_rfl) (by kernel_rfl) (by kernel_rfl) (by kernel_rfl) (by kernel_rfl) (fun h=>by simp at h)
theorem y6O:TIok prog 29 ⟨tWs,[],123,false⟩:=zkR (by kernel_rfl) (by kernel_rfl) (by kernel_rfl)
theorem y6P:TIok prog 31 ⟨tA,[(0,1,false),(1,2,true),(3,1,false),(4,1,false),(5,1,false),(6,1,false),(7,1,false),(8,1,false),(9,1,false),(10,1,false),(11,1,false),(12,1,false)],0,false⟩:=zkS (by kernel_rfl) (by kernel_rfl) (by kernel_rfl) (by kernel_rfl) (by kernel_rfl) (fun h=>by simp at h)
theorem y6Q:TIok prog 34 ⟨tL,[],3,false⟩:=zkR (by kernel_rfl) (by kernel_rfl) (by kernel_rfl)
theorem y6R:TIok prog 42 ⟨tN,[(0,1,false),(1,1,false),(2,1,false)],0,false⟩:=zkS (by kernel_rfl) (by kernel_rfl) (by kernel_rfl) (by kernel_rfl) (by kernel_rfl) (fun h=>by simp at h)
theorem y6S:TIok prog 68 ⟨tLL,[],34,false⟩:=zkR (by kernel_rfl) (by kernel_rfl) (by kernel_rfl)
theorem y6T:TIok prog 69 ⟨tWs,[],136,false⟩:=zkR (by kernel_rfl) (by kernel_rfl) (by kernel_rfl)
theorem y6U:TIok prog 71 ⟨tM,[(0,1,false),(1,1,false),(2,1,false),(3,1,false)],0,false⟩:=zkS (by kernel_rfl) (by kernel_rfl) (by kernel_rfl) (by kernel_rfl) (by kernel_rfl) (fun h=>by simp at h)
theorem y6V:TIok prog 84 ⟨tS,[(0,1,false),(1,1,false),(2,1,false),(3,1,false),(4,1,false),(5,1,false),(6,1,false),(7,1,false)],0,false⟩:=zkS (by kernel_rfl) (by kernel_rfl) (by kernel_rfl) (by kernel_rfl) (by kernel_rfl) (fun h=>by simp at h)
theorem y6B:TIok prog 123 ⟨tW,[(0,1,false),(1,1,false)],0,false⟩:=zkS (by kernel_rfl) (by kernel_rfl) (by kernel_rfl) (by kernel_rfl) (by kernel_rfl) (fun h=>by simp at h)
theorem y6C:TIok prog 130 ⟨tU,[(0,1,false),(1,1,false),(2,1,false)],0,false⟩:=zkS (by kernel_rfl) (by kernel_rfl) (by kernel_rfl) (by kernel_rfl) (by kernel_rfl) (fun h=>by simp at h)
theorem y6D:TIok prog 136 ⟨tW,[(0,1,false),(1,1,false)],0,false⟩:=zkS (by kernel_rfl) (by kernel_rfl) (by kernel_rfl) (by kernel_rfl) (by kernel_rfl) (fun h=>by simp at h)
def TT:List (Nat×TI):= [(3,⟨tI,[],0,false⟩),(4,⟨tB,[],0,false⟩),(5,⟨tY,[],0,false⟩),(22,⟨tYs,[],5,false⟩),(24,⟨tMs,[],71,false⟩),(28,⟨tG,[(0,1,false),(1,1,false)],0,false⟩),(29,⟨tWs,[],123,false⟩),(31,⟨tA,[(0,1,false),(1,2,true),(3,1,false),(4,1,false),(5,1,false),(6,1,false),(7,1,false),(8,1,false),(9,1,false),(10,1,false),(11,1,false),(12,1,false)],0,false⟩),(34,⟨tL,[],3,false⟩),(42,⟨tN,[(0,1,false),(1,1,false),(2,1,false)],0,false⟩),(68,⟨tLL,[],34,false⟩),(69,⟨tWs,[],136,false⟩),(71,⟨tM,[(0,1,false),(1,1,false),(2,1,false),(3,1,false)],0,false⟩),(84,⟨tS,[(0,1,false),(1,1,false),(2,1,false),(3,1,false),(4,1,false),(5,1,false),(6,1,false),(7,1,false)],0,false⟩),(123,⟨tW,[(0,1,false),(1,1,false)],0,false⟩),(130,⟨tU,[(0,1,false),(1,1,false),(2,1,false)],0,false⟩),(136,⟨tW,[(0,1,false),(1,1,false)],0,false⟩)]
theorem yg:AllT prog TT:=⟨y6Z,y60,y61,y6L,y6M,y6N,y6O,y6P,y6Q,y6R,y6S,y6T,y6U,y6V,y6B,y6C,y6D,trivial⟩
theorem yf:prog.follows .mixedOrders=true:=by kernel_rfl
end Go.Tf
