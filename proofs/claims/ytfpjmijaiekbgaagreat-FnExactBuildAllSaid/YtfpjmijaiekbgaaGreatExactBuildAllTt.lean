/- The types of the program. -/
import Derived.Test.YtfpjmijaiekbgaaGreatTf5
import Derived.Test.YtfpjmijaiekbgaaGreatProg
namespace Go.Tf
open Go.Proofs
set_option synthInstance.maxHeartbeats 400000
set_option synthInstance.maxSize 10000
set_option linter.unusedVariables false
set_option linter.unusedSimpArgs false
set_option maxRecDepth 100000
theorem yW8:TIok Tryz.prog 3 ⟨tI,[],0,false⟩:=zkL (by kernel_rfl) (by kernel_rfl)
theorem yW9:TIok Tryz.prog 4 ⟨tB,[],0,false⟩:=zkv (by kernel_rfl) (by kernel_rfl)
theorem yWP:TIok Tryz.prog 23 ⟨tG,[(0,1,false),(1,1,false)],0,false⟩:=zkR (by kernel_rfl) (by kernel_rfl) (by kernel_rfl) (by kernel_rfl) (by kernel_rfl) (fun h=>by simp at h)
theorem yWQ:TIok Tryz.prog 24 ⟨tMs,[],104,false⟩:=zkQ (by kernel_rfl) (by kernel_rfl) (by kernel_rfl)
theorem yWR:TIok Tryz.prog 25 ⟨tWs,[],128,false⟩:=zkQ (by kernel_rfl) (by kernel_rfl) (by kernel_rfl)
theorem yWS:TIok Tryz.prog 27 ⟨tA,[(0,1,false),(1,2,true),(3,1,false),(4,1,false),(5,1,false),(6,1,false),(7,1,false),(8,1,false),(9,1,false),(10,1,false),(11,1,false),(12,1,false)],0,false⟩:=zkR (by kernel_rfl) (by kernel_rfl) (by kernel_rfl) (by kernel_rfl) (by kernel_rfl) (fun h=>by simp at h)
theorem yWT:TIok Tryz.prog 29 ⟨tL,[],3,false⟩:=zkQ (by kernel_rfl) (by kernel_rfl) (by kernel_rfl)
theorem yWU:TIok Tryz.prog 31 ⟨tG,[(0,1,false),(1,1,false)],0,false⟩:=zkR (by kernel_rfl) (by kernel_rfl) (by kernel_rfl) (by kernel_rfl) (by kernel_rfl) (fun h=>by simp at h)
theorem yWV:TIok Tryz.prog 32 ⟨tMs,[],78,false⟩:=zkQ (by kernel_rfl) (by kernel_rfl) (by kernel_rfl)
theorem yWW:TIok Tryz.prog 33 ⟨tWs,[],95,false⟩:=zkQ (by kernel_rfl) (by kernel_rfl) (by kernel_rfl)
theorem yWX:TIok Tryz.prog 35 ⟨tA,[(0,1,false),(1,2,true),(3,1,false),(4,1,false),(5,1,false),(6,1,false),(7,1,false),(8,1,false),(9,1,false),(10,1,false),(11,1,false),(12,1,false)],0,false⟩:=zkR (by kernel_rfl) (by kernel_rfl) (by kernel_rfl) (by kernel_rfl) (by kernel_rfl) (fun h=>by simp at h)
theorem yWY:TIok Tryz.prog 75 ⟨tLL,[],29,false⟩:=zkQ (by kernel_rfl) (by kernel_rfl) (by kernel_rfl)
theorem yWZ:TIok Tryz.prog 76 ⟨tWs,[],161,false⟩:=zkQ (by kernel_rfl) (by kernel_rfl) (by kernel_rfl)
theorem yW0:TIok Tryz.prog 78 ⟨tM,[(0,1,false),(1,1,false),(2,1,false),(3,1,false)],0,false⟩:=zkR (by kernel_rfl) (by kernel_rfl) (by kernel_rfl) (by kernel_rfl) (by kernel_rfl) (fun h=>by simp at h)
theorem yW1:TIok Tryz.prog 95 ⟨tW,[(0,1,false),(1,1,false)],0,false⟩:=zkR (by kernel_rfl) (by kernel_rfl) (by kernel_rfl) (by kernel_rfl) (by kernel_rfl) (fun h=>by simp at h)
theorem yWF:TIok Tryz.prog 102 ⟨tWs,[],179,false⟩:=zkQ (by kernel_rfl) (by kernel_rfl) (by kernel_rfl)
theorem yWG:TIok Tryz.prog 104 ⟨tM,[(0,1,false),(1,1,false),(2,1,false),(3,1,false)],0,false⟩:=zkR (by kernel_rfl) (by kernel_rfl) (by kernel_rfl) (by kernel_rfl) (by kernel_rfl) (fun h=>by simp at h)
theorem yWH:TIok Tryz.prog 128 ⟨tW,[(0,1,false),(1,1,false)],0,false⟩:=zkR (by kernel_rfl) (by kernel_rfl) (by kernel_rfl) (by kernel_rfl) (by kernel_rfl) (fun h=>by simp at h)
theorem yWI:TIok Tryz.prog 150 ⟨tS,[(0,1,false),(1,1,false),(2,1,false),(3,1,false),(4,1,false),(5,1,false),(6,1,false),(7,1,false)],0,false⟩:=zkR (by kernel_rfl) (by kernel_rfl) (by kernel_rfl) (by kernel_rfl) (by kernel_rfl) (fun h=>by simp at h)
theorem yWJ:TIok Tryz.prog 161 ⟨tW,[(0,1,false),(1,1,false)],0,false⟩:=zkR (by kernel_rfl) (by kernel_rfl) (by kernel_rfl) (by kernel_rfl) (by kernel_rfl) (fun h=>by simp at h)
theorem yWK:TIok Tryz.prog 179 ⟨tW,[(0,1,false),(1,1,false)],0,false⟩:=zkR (by kernel_rfl) (by kernel_rfl) (by kernel_rfl) (by kernel_rfl) (by kernel_rfl) (fun h=>by simp at h)
def TT:List (Nat×TI):= [(3,⟨tI,[],0,false⟩),(4,⟨tB,[],0,false⟩),(23,⟨tG,[(0,1,false),(1,1,false)],0,false⟩),(24,⟨tMs,[],104,false⟩),(25,⟨tWs,[],128,false⟩),(27,⟨tA,[(0,1,false),(1,2,true),(3,1,false),(4,1,false),(5,1,false),(6,1,false),(7,1,false),(8,1,false),(9,1,false),(10,1,false),(11,1,false),(12,1,false)],0,false⟩),(29,⟨tL,[],3,false⟩),(31,⟨tG,[(0,1,false),(1,1,false)],0,false⟩),(32,⟨tMs,[],78,false⟩),(33,⟨tWs,[],95,false⟩),(35,⟨tA,[(0,1,false),(1,2,true),(3,1,false),(4,1,false),(5,1,false),(6,1,false),(7,1,false),(8,1,false),(9,1,false),(10,1,false),(11,1,false),(12,1,false)],0,false⟩),(75,⟨tLL,[],29,false⟩),(76,⟨tWs,[],161,false⟩),(78,⟨tM,[(0,1,false),(1,1,false),(2,1,false),(3,1,false)],0,false⟩),(95,⟨tW,[(0,1,false),(1,1,false)],0,false⟩),(102,⟨tWs,[],179,false⟩),(104,⟨tM,[(0,1,false),(1,1,false),(2,1,false),(3,1,false)],0,false⟩),(128,⟨tW,[(0,1,false),(1,1,false)],0,false⟩),(150,⟨tS,[(0,1,false),(1,1,false),(2,1,false),(3,1,false),(4,1,false),(5,1,false),(6,1,false),(7,1,false)],0,false⟩),(161,⟨tW,[(0,1,false),(1,1,false)],0,false⟩),(179,⟨tW,[(0,1,false),(1,1,false)],0,false⟩)]
theorem yc:AllT Tryz.prog TT:=⟨yW8,yW9,yWP,yWQ,yWR,yWS,yWT,yWU,yWV,yWW,yWX,yWY,yWZ,yW0,yW1,yWF,yWG,yWH,yWI,yWJ,yWK,trivial⟩
theorem yb:Tryz.prog.follows .mixedOrders=true:=by kernel_rfl
end Go.Tf
