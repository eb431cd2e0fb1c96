/- The types of the program. -/
import Derived.Test.YtgmadfpnljibhaaGreatTf5
import Derived.Test.YtgmadfpnljibhaaGreatProg
namespace Go.Tf
open Go.Proofs
set_option synthInstance.maxHeartbeats 400000
set_option synthInstance.maxSize 10000
set_option linter.unusedVariables false
set_option linter.unusedSimpArgs false
set_option maxRecDepth 100000
theorem y5O:TIok Tryz.prog 3 ⟨tI,[],0,false⟩:=zkL (by kernel_rfl) (by kernel_rfl)
theorem y5P:TIok Tryz.prog 4 ⟨tB,[],0,false⟩:=zkv (by kernel_rfl) (by kernel_rfl)
theorem y5p:TIok Tryz.prog 25 ⟨tG,[(0,1,false),(1,1,false)],0,false⟩:=zkR (by kernel_rfl) (by kernel_rfl) (by kernel_rfl) (by kernel_rfl) (by kernel_rfl) (fun h=>by simp at h)
theorem y5q:TIok Tryz.prog 26 ⟨tMs,[],91,false⟩:=zkQ (by kernel_rfl) (by kernel_rfl) (by kernel_rfl)
theorem y5r:TIok Tryz.prog 27 ⟨tWs,[],129,false⟩:=zkQ (by kernel_rfl) (by kernel_rfl) (by kernel_rfl)
theorem y5s:TIok Tryz.prog 29 ⟨tA,[(0,1,false),(1,2,true),(3,1,false),(4,1,false),(5,1,false),(6,1,false),(7,1,false),(8,1,false),(9,1,false),(10,1,false),(11,1,false),(12,1,false)],0,false⟩:=zkR (by kernel_rfl) (by kernel_rfl) (by kernel_rfl) (by kernel_rfl) (by kernel_rfl) (fun h=>by simp at h)
theorem y5t:TIok Tryz.prog 38 ⟨tL,[],3,false⟩:=zkQ (by kernel_rfl) (by kernel_rfl) (by kernel_rfl)
theorem y5u:TIok Tryz.prog 61 ⟨tN,[(0,1,false),(1,1,false),(2,1,false)],0,false⟩:=zkR (by kernel_rfl) (by kernel_rfl) (by kernel_rfl) (by kernel_rfl) (by kernel_rfl) (fun h=>by simp at h)
theorem y5v:TIok Tryz.prog 74 ⟨tG,[(0,1,false),(1,1,false)],0,false⟩:=zkR (by kernel_rfl) (by kernel_rfl) (by kernel_rfl) (by kernel_rfl) (by kernel_rfl) (fun h=>by simp at h)
theorem y5w:TIok Tryz.prog 75 ⟨tMs,[],184,false⟩:=zkQ (by kernel_rfl) (by kernel_rfl) (by kernel_rfl)
theorem y5x:TIok Tryz.prog 76 ⟨tWs,[],186,false⟩:=zkQ (by kernel_rfl) (by kernel_rfl) (by kernel_rfl)
theorem y5y:TIok Tryz.prog 78 ⟨tA,[(0,1,false),(1,2,true),(3,1,false),(4,1,false),(5,1,false),(6,1,false),(7,1,false),(8,1,false),(9,1,false),(10,1,false),(11,1,false),(12,1,false)],0,false⟩:=zkR (by kernel_rfl) (by kernel_rfl) (by kernel_rfl) (by kernel_rfl) (by kernel_rfl) (fun h=>by simp at h)
theorem y5z:TIok Tryz.prog 88 ⟨tLL,[],38,false⟩:=zkQ (by kernel_rfl) (by kernel_rfl) (by kernel_rfl)
theorem y5A:TIok Tryz.prog 89 ⟨tWs,[],168,false⟩:=zkQ (by kernel_rfl) (by kernel_rfl) (by kernel_rfl)
theorem y5B:TIok Tryz.prog 91 ⟨tM,[(0,1,false),(1,1,false),(2,1,false),(3,1,false)],0,false⟩:=zkR (by kernel_rfl) (by kernel_rfl) (by kernel_rfl) (by kernel_rfl) (by kernel_rfl) (fun h=>by simp at h)
theorem y5a:TIok Tryz.prog 112 ⟨tS,[(0,1,false),(1,1,false),(2,1,false),(3,1,false),(4,1,false),(5,1,false),(6,1,false),(7,1,false)],0,false⟩:=zkR (by kernel_rfl) (by kernel_rfl) (by kernel_rfl) (by kernel_rfl) (by kernel_rfl) (fun h=>by simp at h)
theorem y5b:TIok Tryz.prog 129 ⟨tW,[(0,1,false),(1,1,false)],0,false⟩:=zkR (by kernel_rfl) (by kernel_rfl) (by kernel_rfl) (by kernel_rfl) (by kernel_rfl) (fun h=>by simp at h)
theorem y5c:TIok Tryz.prog 168 ⟨tW,[(0,1,false),(1,1,false)],0,false⟩:=zkR (by kernel_rfl) (by kernel_rfl) (by kernel_rfl) (by kernel_rfl) (by kernel_rfl) (fun h=>by simp at h)
theorem y5d:TIok Tryz.prog 182 ⟨tWs,[],203,false⟩:=zkQ (by kernel_rfl) (by kernel_rfl) (by kernel_rfl)
theorem y5e:TIok Tryz.prog 184 ⟨tM,[(0,1,false),(1,1,false),(2,1,false),(3,1,false)],0,false⟩:=zkR (by kernel_rfl) (by kernel_rfl) (by kernel_rfl) (by kernel_rfl) (by kernel_rfl) (fun h=>by simp at h)
theorem y5f:TIok Tryz.prog 186 ⟨tW,[(0,1,false),(1,1,false)],0,false⟩:=zkR (by kernel_rfl) (by kernel_rfl) (by kernel_rfl) (by kernel_rfl) (by kernel_rfl) (fun h=>by simp at h)
theorem y5g:TIok Tryz.prog 203 ⟨tW,[(0,1,false),(1,1,false)],0,false⟩:=zkR (by kernel_rfl) (by kernel_rfl) (by kernel_rfl) (by kernel_rfl) (by kernel_rfl) (fun h=>by simp at h)
def TT:List (Nat×TI):= [(3,⟨tI,[],0,false⟩),(4,⟨tB,[],0,false⟩),(25,⟨tG,[(0,1,false),(1,1,false)],0,false⟩),(26,⟨tMs,[],91,false⟩),(27,⟨tWs,[],129,false⟩),(29,⟨tA,[(0,1,false),(1,2,true),(3,1,false),(4,1,false),(5,1,false),(6,1,false),(7,1,false),(8,1,false),(9,1,false),(10,1,false),(11,1,false),(12,1,false)],0,false⟩),(38,⟨tL,[],3,false⟩),(61,⟨tN,[(0,1,false),(1,1,false),(2,1,false)],0,false⟩),(74,⟨tG,[(0,1,false),(1,1,false)],0,false⟩),(75,⟨tMs,[],184,false⟩),(76,⟨tWs,[],186,false⟩),(78,⟨tA,[(0,1,false),(1,2,true),(3,1,false),(4,1,false),(5,1,false),(6,1,false),(7,1,false),(8,1,false),(9,1,false),(10,1,false),(11,1,false),(12,1,false)],0,false⟩),(88,⟨tLL,[],38,false⟩),(89,⟨tWs,[],168,false⟩),(91,⟨tM,[(0,1,false),(1,1,false),(2,1,false),(3,1,false)],0,false⟩),(112,⟨tS,[(0,1,false),(1,1,false),(2,1,false),(3,1,false),(4,1,false),(5,1,false),(6,1,false),(7,1,false)],0,false⟩),(129,⟨tW,[(0,1,false),(1,1,false)],0,false⟩),(168,⟨tW,[(0,1,false),(1,1,false)],0,false⟩),(182,⟨tWs,[],203,false⟩),(184,⟨tM,[(0,1,false),(1,1,false),(2,1,false),(3,1,false)],0,false⟩),(186,⟨tW,[(0,1,false),(1,1,false)],0,false⟩),(203,⟨tW,[(0,1,false),(1,1,false)],0,false⟩)]
theorem yc:AllT Tryz.prog TT:=⟨y5O,y5P,y5p,y5q,y5r,y5s,y5t,y5u,y5v,y5w,y5x,y5y,y5z,y5A,y5B,y5a,y5b,y5c,y5d,y5e,y5f,y5g,trivial⟩
theorem yb:Tryz.prog.follows .mixedOrders=true:=by kernel_rfl
end Go.Tf
