/- The types of the program. -/
import Derived.Test.YtgmadfpnljibhaaGreatTf5
import Derived.Test.YtgmadfpnljibhaaGreatProg
namespace Go.Tf
open Go.Proofs
set_option synthInstance.maxHeartbeats 400000
set_option synthInstance.maxSize 10000
set_option linter.unusedVariables false
set_option linter.unusedSimpArgs false
set_option maxRecDepth 100000
theorem y1t:TIok Tryz.prog 3 ⟨tI,[],0,false⟩:=zkL (by kernel_rfl) (by kernel_rfl)
theorem y1u:TIok Tryz.prog 4 ⟨tB,[],0,false⟩:=zkv (by kernel_rfl) (by kernel_rfl)
theorem y1v:TIok Tryz.prog 5 ⟨tY,[],0,false⟩:=zkL (by kernel_rfl) (by kernel_rfl)
theorem y04:TIok Tryz.prog 22 ⟨tYs,[],5,false⟩:=zkQ (by kernel_rfl) (by kernel_rfl) (by kernel_rfl)
theorem y05:TIok Tryz.prog 25 ⟨tG,[(0,1,false),(1,1,false)],0,false⟩:=zkR (by kernel_rfl) (by kernel_rfl) (by kernel_rfl) (by kernel_rfl) (by kernel_rfl) (fun h=>by simp at h)
theorem y06:TIok Tryz.prog 26 ⟨tMs,[],91,false⟩:=zkQ (by kernel_rfl) (by kernel_rfl) (by kernel_rfl)
theorem y07:TIok Tryz.prog 27 ⟨tWs,[],129,false⟩:=zkQ (by kernel_rfl) (by kernel_rfl) (by kernel_rfl)
theorem y08:TIok Tryz.prog 29 ⟨tA,[(0,1,false),(1,2,true),(3,1,false),(4,1,false),(5,1,false),(6,1,false),(7,1,false),(8,1,false),(9,1,false),(10,1,false),(11,1,false),(12,1,false)],0,false⟩:=zkR (by kernel_rfl) (by kernel_rfl) (by kernel_rfl) (by kernel_rfl) (by kernel_rfl) (fun h=>by simp at h)
theorem y09:TIok Tryz.prog 38 ⟨tL,[],3,false⟩:=zkQ (by kernel_rfl) (by kernel_rfl) (by kernel_rfl)
theorem y1a:TIok Tryz.prog 61 ⟨tN,[(0,1,false),(1,1,false),(2,1,false)],0,false⟩:=zkR (by kernel_rfl) (by kernel_rfl) (by kernel_rfl) (by kernel_rfl) (by kernel_rfl) (fun h=>by simp at h)
theorem y1b:TIok Tryz.prog 88 ⟨tLL,[],38,false⟩:=zkQ (by kernel_rfl) (by kernel_rfl) (by kernel_rfl)
theorem y1c:TIok Tryz.prog 89 ⟨tWs,[],168,false⟩:=zkQ (by kernel_rfl) (by kernel_rfl) (by kernel_rfl)
theorem y1d:TIok Tryz.prog 91 ⟨tM,[(0,1,false),(1,1,false),(2,1,false),(3,1,false)],0,false⟩:=zkR (by kernel_rfl) (by kernel_rfl) (by kernel_rfl) (by kernel_rfl) (by kernel_rfl) (fun h=>by simp at h)
theorem y0L:TIok Tryz.prog 112 ⟨tS,[(0,1,false),(1,1,false),(2,1,false),(3,1,false),(4,1,false),(5,1,false),(6,1,false),(7,1,false)],0,false⟩:=zkR (by kernel_rfl) (by kernel_rfl) (by kernel_rfl) (by kernel_rfl) (by kernel_rfl) (fun h=>by simp at h)
theorem y0M:TIok Tryz.prog 129 ⟨tW,[(0,1,false),(1,1,false)],0,false⟩:=zkR (by kernel_rfl) (by kernel_rfl) (by kernel_rfl) (by kernel_rfl) (by kernel_rfl) (fun h=>by simp at h)
theorem y0N:TIok Tryz.prog 156 ⟨tU,[(0,1,false),(1,1,false),(2,1,false)],0,false⟩:=zkR (by kernel_rfl) (by kernel_rfl) (by kernel_rfl) (by kernel_rfl) (by kernel_rfl) (fun h=>by simp at h)
theorem y0O:TIok Tryz.prog 168 ⟨tW,[(0,1,false),(1,1,false)],0,false⟩:=zkR (by kernel_rfl) (by kernel_rfl) (by kernel_rfl) (by kernel_rfl) (by kernel_rfl) (fun h=>by simp at h)
def TT:List (Nat×TI):= [(3,⟨tI,[],0,false⟩),(4,⟨tB,[],0,false⟩),(5,⟨tY,[],0,false⟩),(22,⟨tYs,[],5,false⟩),(25,⟨tG,[(0,1,false),(1,1,false)],0,false⟩),(26,⟨tMs,[],91,false⟩),(27,⟨tWs,[],129,false⟩),(29,⟨tA,[(0,1,false),(1,2,true),(3,1,false),(4,1,false),(5,1,false),(6,1,false),(7,1,false),(8,1,false),(9,1,false),(10,1,false),(11,1,false),(12,1,false)],0,false⟩),(38,⟨tL,[],3,false⟩),(61,⟨tN,[(0,1,false),(1,1,false),(2,1,false)],0,false⟩),(88,⟨tLL,[],38,false⟩),(89,⟨tWs,[],168,false⟩),(91,⟨tM,[(0,1,false),(1,1,false),(2,1,false),(3,1,false)],0,false⟩),(112,⟨tS,[(0,1,false),(1,1,false),(2,1,false),(3,1,false),(4,1,false),(5,1,false),(6,1,false),(7,1,false)],0,false⟩),(129,⟨tW,[(0,1,false),(1,1,false)],0,false⟩),(156,⟨tU,[(0,1,false),(1,1,false),(2,1,false)],0,false⟩),(168,⟨tW,[(0,1,false),(1,1,false)],0,false⟩)]
theorem yd:AllT Tryz.prog TT:=⟨y1t,y1u,y1v,y04,y05,y06,y07,y08,y09,y1a,y1b,y1c,y1d,y0L,y0M,y0N,y0O,trivial⟩
theorem yc:Tryz.prog.follows .mixedOrders=true:=by kernel_rfl
end Go.Tf
