/- The types of the program. -/
import Derived.Test.YtolmneojjjpnjaaGreatTf5
import Derived.Test.YtolmneojjjpnjaaGreatProg
namespace Go.Tf
open Go.Proofs Go.Proofs.Tryz
set_option synthInstance.maxHeartbeats 400000
set_option synthInstance.maxSize 10000
set_option linter.unusedVariables false
set_option linter.unusedSimpArgs false
set_option maxRecDepth 100000
theorem y6N:TIok prog 3 ⟨tI,[],0,false⟩:=zkh (by kernel_rfl) (by kernel_rfl)
theorem y6O:TIok prog 4 ⟨tB,[],0,false⟩:=zj7 (by kernel_rfl) (by kernel_rfl)
theorem y6P:TIok prog 5 ⟨tY,[],0,false⟩:=zkh (by kernel_rfl) (by kernel_rfl)
theorem y6z:TIok prog 22 ⟨tYs,[],5,false⟩:=zkl (by kernel_rfl) (by kernel_rfl) (by kernel_rfl)
theorem y6A:TIok prog 24 ⟨tMs,[],71,false⟩:=zkl (by kernel_rfl) (by kernel_rfl) (by kernel_rfl)
theorem y6B:TIok prog 28 ⟨tG,[(0,1,false),(1,1,false)],0,false⟩:=zkm (by kernel_rfl) (by kernel_rfl) (by kernel_rfl) (by kernel_rfl) (by kernel_rfl) (fun h=>by simp at h)
theorem y6C:TIok prog 29 ⟨tWs,[],123,false⟩:=zkl (by kernel_rfl) (by kernel_rfl) (by kernel_rfl)
theorem y6D:TIok prog 31 ⟨tA,[(0,1,false),(1,2,true),(3,1,false),(4,1,false),(5,1,false),(6,1,false),(7,1,false),(8,1,false),(9,1,false),(10,1,false),(11,1,false),(12,1,false)],0,false⟩:=zkm (by kernel_rfl) (by kernel_rfl) (by kernel_rfl) (by kernel_rfl) (by kernel_rfl) (fun h=>by simp at h)
theorem y6E:TIok prog 34 ⟨tL,[],3,false⟩:=zkl (by kernel_rfl) (by kernel_rfl) (by kernel_rfl)
theorem y6F:TIok prog 42 ⟨tN,[(0,1,false),(1,1,false),(2,1,false)],0,false⟩:=zkm (by kernel_rfl) (by kernel_rfl) (by kernel_rfl) (by kernel_rfl) (by kernel_rfl) (fun h=>by simp at h)
theorem y6G:TIok prog 68 ⟨tLL,[],34,false⟩:=zkl (by kernel_rfl) (by kernel_rfl) (by kernel_rfl)
theorem y6H:TIok prog 69 ⟨tWs,[],136,false⟩:=zkl (by kernel_rfl) (by kernel_rfl) (by kernel_rfl)
theorem y6I:TIok prog 71 ⟨tM,[(0,1,false),(1,1,false),(2,1,false),(3,1,false)],0,false⟩:=zkm (by kernel_rfl) (by kernel_rfl) (by kernel_rfl) (by kernel_rfl) (by kernel_rfl) (fun h=>by simp at h)
theorem y6J:TIok prog 84 ⟨tS,[(0,1,false),(1,1,false),(2,1,false),(3,1,false),(4,1,false),(5,1,false),(6,1,false),(7,1,false)],0,false⟩:=zkm (by kernel_rfl) (by kernel_rfl) (by kernel_rfl) (by kernel_rfl) (by kernel_rfl) (fun h=>by simp at h)
theorem y6p:TIok prog 123 ⟨tW,[(0,1,false),(1,1,false)],0,false⟩:=zkm (by kernel_rfl) (by kernel_rfl) (by kernel_rfl) (by kernel_rfl) (by kernel_rfl) (fun h=>by simp at h)
theorem y6q:TIok prog 130 ⟨tU,[(0,1,false),(1,1,false),(2,1,false)],0,false⟩:=zkm (by kernel_rfl) (by kernel_rfl) (by kernel_rfl) (by kernel_rfl) (by kernel_rfl) (fun h=>by simp at h)
theorem y6r:TIok prog 136 ⟨tW,[(0,1,false),(1,1,false)],0,false⟩:=zkm (by kernel_rfl) (by kernel_rfl) (by kernel_rfl) (by kernel_rfl) (by kernel_rfl) (fun h=>by simp at h)
def TT:List (Nat×TI):= [(3,⟨tI,[],0,false⟩),(4,⟨tB,[],0,false⟩),(5,⟨tY,[],0,false⟩),(22,⟨tYs,[],5,false⟩),(24,⟨tMs,[],71,false⟩),(28,⟨tG,[(0,1,false),(1,1,false)],0,false⟩),(29,⟨tWs,[],123,false⟩),(31,⟨tA,[(0,1,false),(1,2,true),(3,1,false),(4,1,false),(5,1,false),(6,1,false),(7,1,false),(8,1,false),(9,1,false),(10,1,false),(11,1,false),(12,1,false)],0,false⟩),(34,⟨tL,[],3,false⟩),(42,⟨tN,[(0,1,false),(1,1,false),(2,1,false)],0,false⟩),(68,⟨tLL,[],34,false⟩),(69,⟨tWs,[],136,false⟩),(71,⟨tM,[(0,1,false),(1,1,false),(2,1,false),(3,1,false)],0,false⟩),(84,⟨tS,[(0,1,false),(1,1,false),(2,1,false),(3,1,false),(4,1,false),(5,1,false),(6,1,false),(7,1,false)],0,false⟩),(123,⟨tW,[(0,1,false),(1,1,false)],0,false⟩),(130,⟨tU,[(0,1,false),(1,1,false),(2,1,false)],0,false⟩),(136,⟨tW,[(0,1,false),(1,1,false)],0,false⟩)]
theorem yd:AllT prog TT:=⟨y6N,y6O,y6P,y6z,y6A,y6B,y6C,y6D,y6E,y6F,y6G,y6H,y6I,y6J,y6p,y6q,y6r,trivial⟩
theorem yc:prog.follows .mixedOrders=true:=by kernel_rfl
end Go.Tf
