/- The types of the program. -/
import Derived.Test.YtolmneojjjpnjaaGreatTf5
import Derived.Test.YtolmneojjjpnjaaGreatProg
namespace Go.Tf
open Go.Proofs Go.Proofs.Tryz
set_option synthInstance.maxHeartbeats 400000
set_option synthInstance.maxSize 10000
set_option linter.unusedVariables false
set_option linter.unusedSimpArgs false
set_option maxRecDepth 100000
theorem y4d:TIok prog 3 ⟨tI,[],0,false⟩:=zkP (by kernel_rfl) (by kernel_rfl)
theorem y4e:TIok prog 4 ⟨tB,[],0,false⟩:=zkE (by kernel_rfl) (by kernel_rfl)
theorem y4f:TIok prog 5 ⟨tY,[],0,false⟩:=zkP (by kernel_rfl) (by kernel_rfl)
theorem y3Z:TIok prog 22 ⟨tYs,[],5,false⟩:=zkT (by kernel_rfl) (by kernel_rfl) (by kernel_rfl)
theorem y30:TIok prog 24 ⟨tMs,[],71,false⟩:=zkT (by kernel_rfl) (by kernel_rfl) (by kernel_rfl)
theorem y31:TIok prog 28 ⟨tG,[(0,1,false),(1,1,false)],0,true⟩:=zkU (by kernel_rfl) (by kernel_rfl) (by kernel_rfl) (by kernel_rfl) (by kernel_rfl) (fun _=>⟨by kernel_rfl,by kernel_rfl,by kernel_rfl,by kernel_rfl⟩)
theorem y32:TIok prog 29 ⟨tWs,[],123,false⟩:=zkT (by kernel_rfl) (by kernel_rfl) (by kernel_rfl)
theorem y33:TIok prog 31 ⟨tA,[(0,1,false),(1,2,true),(3,1,false),(4,1,false),(5,1,false),(6,1,false),(7,1,false),(8,1,false),(9,1,false),(10,1,false),(11,1,false),(12,1,false)],0,false⟩:=zkU (by kernel_rfl) (by kernel_rfl) (by kernel_rfl) (by kernel_rfl) (by kernel_rfl) (fun h=>by simp at h)
theorem y34:TIok prog 34 ⟨tL,[],3,false⟩:=zkT (by kernel_rfl) (by kernel_rfl) (by kernel_rfl)
theorem y35:TIok prog 42 ⟨tN,[(0,1,false),(1,1,false),(2,1,false)],0,false⟩:=zkU (by kernel_rfl) (by kernel_rfl) (by kernel_rfl) (by kernel_rfl) (by kernel_rfl) (fun h=>by simp at h)
theorem y36:TIok prog 68 ⟨tLL,[],34,false⟩:=zkT (by kernel_rfl) (by kernel_rfl) (by kernel_rfl)
theorem y37:TIok prog 69 ⟨tWs,[],136,false⟩:=zkT (by kernel_rfl) (by kernel_rfl) (by kernel_rfl)
theorem y38:TIok prog 71 ⟨tM,[(0,1,false),(1,1,false),(2,1,false),(3,1,false)],0,false⟩:=zkU (by kernel_rfl) (by kernel_rfl) (by kernel_rfl) (by kernel_rfl) (by kernel_rfl) (fun h=>by simp at h)
theorem y39:TIok prog 84 ⟨tS,[(0,1,false),(1,1,false),(2,1,false),(3,1,false),(4,1,false),(5,1,false),(6,1,false),(7,1,false)],0,false⟩:=zkU (by kernel_rfl) (by kernel_rfl) (by kernel_rfl) (by kernel_rfl) (by kernel_rfl) (fun h=>by simp at h)
theorem y3O:TIok prog 123 ⟨tW,[(0,1,false),(1,1,false)],0,false⟩:=zkU (by kernel_rfl) (by kernel_rfl) (by kernel_rfl) (by kernel_rfl) (by kernel_rfl) (fun h=>by simp at h)
theorem y3P:TIok prog 130 ⟨tU,[(0,1,false),(1,1,false),(2,1,false)],0,false⟩:=zkU (by kernel_rfl) (by kernel_rfl) (by kernel_rfl) (by kernel_rfl) (by kernel_rfl) (fun h=>by simp at h)
theorem y3Q:TIok prog 136 ⟨tW,[(0,1,false),(1,1,false)],0,false⟩:=zkU (by kernel_rfl) (by kernel_rfl) (by kernel_rfl) (by kernel_rfl) (by kernel_rfl) (fun h=>by simp at h)
def TT:List (Nat×TI):= [(3,⟨tI,[],0,false⟩),(4,⟨tB,[],0,false⟩),(5,⟨tY,[],0,false⟩),(22,⟨tYs,[],5,false⟩),(24,⟨tMs,[],71,false⟩),(28,⟨tG,[(0,1,false),(1,1,false)],0,true⟩),(29,⟨tWs,[],123,false⟩),(31,⟨tA,[(0,1,false),(1,2,true),(3,1,false),(4,1,false),(5,1,false),(6,1,false),(7,1,false),(8,1,false),(9,1,false),(10,1,false),(11,1,false),(12,1,false)],0,false⟩),(34,⟨tL,[],3,false⟩),(42,⟨tN,[(0,1,false),(1,1,false),(2,1,false)],0,false⟩),(68,⟨tLL,[],34,false⟩),(69,⟨tWs,[],136,false⟩),(71,⟨tM,[(0,1,false),(1,1,false),(2,1,false),(3,1,false)],0,false⟩),(84,⟨tS,[(0,1,false),(1,1,false),(2,1,false),(3,1,false),(4,1,false),(5,1,false),(6,1,false),(7,1,false)],0,false⟩),(123,⟨tW,[(0,1,false),(1,1,false)],0,false⟩),(130,⟨tU,[(0,1,false),(1,1,false),(2,1,false)],0,false⟩),(136,⟨tW,[(0,1,false),(1,1,false)],0,false⟩)]
theorem yc:AllT prog TT:=⟨y4d,y4e,y4f,y3Z,y30,y31,y32,y33,y34,y35,y36,y37,y38,y39,y3O,y3P,y3Q,trivial⟩
theorem mixed:prog.follows .mixedOrders=true:=by kernel_rfl
end Go.Tf
