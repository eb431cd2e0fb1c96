/- The types of the program. -/
import Derived.Test.YtfpjmijaiekbgaaGreatTf5
import Derived.Test.YtfpjmijaiekbgaaGreatProg
namespace Go.Tf
open Go.Proofs
set_option synthInstance.maxHeartbeats 400000
set_option synthInstance.maxSize 10000
set_option linter.unusedVariables false
set_option linter.unusedSimpArgs false
set_option maxRecDepth 100000
theorem yZp:TIok Tryz.prog 3 ⟨tI,[],0,false⟩:=zkL (by kernel_rfl) (by kernel_rfl)
theorem yZq:TIok Tryz.prog 4 ⟨tB,[],0,false⟩:=zkv (by kernel_rfl) (by kernel_rfl)
theorem yY6:TIok Tryz.prog 23 ⟨tG,[(0,1,false),(1,1,false)],0,false⟩:=zkR (by kernel_rfl) (by kernel_rfl) (by kernel_rfl) (by kernel_rfl) (by kernel_rfl) (fun h=>by simp at h)
theorem yY7:TIok Tryz.prog 24 ⟨tMs,[],104,false⟩:=zkQ (by kernel_rfl) (by kernel_rfl) (by kernel_rfl)
theorem yY8:TIok Tryz.prog 25 ⟨tWs,[],128,false⟩:=zkQ (by kernel_rfl) (by kernel_rfl) (by kernel_rfl)
theorem yY9:TIok Tryz.prog 27 ⟨tA,[(0,1,false),(1,2,true),(3,1,false),(4,1,false),(5,1,false),(6,1,false),(7,1,false),(8,1,false),(9,1,false),(10,1,false),(11,1,false),(12,1,false)],0,false⟩:=zkR (by kernel_rfl) (by kernel_rfl) (by kernel_rfl) (by kernel_rfl) (by kernel_rfl) (fun h=>by simp at h)
theorem yZa:TIok Tryz.prog 29 ⟨tL,[],3,false⟩:=zkQ (by kernel_rfl) (by kernel_rfl) (by kernel_rfl)
theorem yZb:TIok Tryz.prog 31 ⟨tG,[(0,1,false),(1,1,false)],0,false⟩:=zkR (by kernel_rfl) (by kernel_rfl) (by kernel_rfl) (by kernel_rfl) (by kernel_rfl) (fun h=>by simp at h)
theorem yZc:TIok Tryz.prog 32 ⟨tMs,[],78,false⟩:=zkQ (by kernel_rfl) (by kernel_rfl) (by kernel_rfl)
theorem yZd:TIok Tryz.prog 33 ⟨tWs,[],95,false⟩:=zkQ (by kernel_rfl) (by kernel_rfl) (by kernel_rfl)
theorem yZe:TIok Tryz.prog 35 ⟨tA,[(0,1,false),(1,2,true),(3,1,false),(4,1,false),(5,1,false),(6,1,false),(7,1,false),(8,1,false),(9,1,false),(10,1,false),(11,1,false),(12,1,false)],0,false⟩:=zkR (by kernel_rfl) (by kernel_rfl) (by kernel_rfl) (by kernel_rfl) (by kernel_rfl) (fun h=>by simp at h)
theorem yZf:TIok Tryz.prog 75 ⟨tLL,[],29,false⟩:=zkQ (by kernel_rfl) (by kernel_rfl) (by kernel_rfl)
theorem yZg:TIok Tryz.prog 76 ⟨tWs,[],161,false⟩:=zkQ (by kernel_rfl) (by kernel_rfl) (by kernel_rfl)
theorem yZh:TIok Tryz.prog 78 ⟨tM,[(0,1,false),(1,1,false),(2,1,false),(3,1,false)],0,false⟩:=zkR (by kernel_rfl) (by kernel_rfl) (by kernel_rfl) (by kernel_rfl) (by kernel_rfl) (fun h=>by simp at h)
theorem yZi:TIok Tryz.prog 85 ⟨tN,[(0,1,false),(1,1,false),(2,1,false)],0,false⟩:=zkR (by kernel_rfl) (by kernel_rfl) (by kernel_rfl) (by kernel_rfl) (by kernel_rfl) (fun h=>by simp at h)
theorem yZj:TIok Tryz.prog 95 ⟨tW,[(0,1,false),(1,1,false)],0,false⟩:=zkR (by kernel_rfl) (by kernel_rfl) (by kernel_rfl) (by kernel_rfl) (by kernel_rfl) (fun h=>by simp at h)
theorem yYU:TIok Tryz.prog 102 ⟨tWs,[],179,false⟩:=zkQ (by kernel_rfl) (by kernel_rfl) (by kernel_rfl)
theorem yYV:TIok Tryz.prog 104 ⟨tM,[(0,1,false),(1,1,false),(2,1,false),(3,1,false)],0,false⟩:=zkR (by kernel_rfl) (by kernel_rfl) (by kernel_rfl) (by kernel_rfl) (by kernel_rfl) (fun h=>by simp at h)
theorem yYW:TIok Tryz.prog 128 ⟨tW,[(0,1,false),(1,1,false)],0,false⟩:=zkR (by kernel_rfl) (by kernel_rfl) (by kernel_rfl) (by kernel_rfl) (by kernel_rfl) (fun h=>by simp at h)
theorem yYX:TIok Tryz.prog 150 ⟨tS,[(0,1,false),(1,1,false),(2,1,false),(3,1,false),(4,1,false),(5,1,false),(6,1,false),(7,1,false)],0,false⟩:=zkR (by kernel_rfl) (by kernel_rfl) (by kernel_rfl) (by kernel_rfl) (by kernel_rfl) (fun h=>by simp at h)
theorem yYY:TIok Tryz.prog 161 ⟨tW,[(0,1,false),(1,1,false)],0,false⟩:=zkR (by kernel_rfl) (by kernel_rfl) (by kernel_rfl) (by kernel_rfl) (by kernel_rfl) (fun h=>by simp at h)
theorem yYZ:TIok Tryz.prog 179 ⟨tW,[(0,1,false),(1,1,false)],0,false⟩:=zkR (by kernel_rfl) (by kernel_rfl) (by kernel_rfl) (by kernel_rfl) (by kernel_rfl) (fun h=>by simp at h)
def TT:List (Nat×TI):= [(3,⟨tI,[],0,false⟩),(4,⟨tB,[],0,false⟩),(23,⟨tG,[(0,1,false),(1,1,false)],0,false⟩),(24,⟨tMs,[],104,false⟩),(25,⟨tWs,[],128,false⟩),(27,⟨tA,[(0,1,false),(1,2,true),(3,1,false),(4,1,false),(5,1,false),(6,1,false),(7,1,false),(8,1,false),(9,1,false),(10,1,false),(11,1,false),(12,1,false)],0,false⟩),(29,⟨tL,[],3,false⟩),(31,⟨tG,[(0,1,false),(1,1,false)],0,false⟩),(32,⟨tMs,[],78,false⟩),(33,⟨tWs,[],95,false⟩),(35,⟨tA,[(0,1,false),(1,2,true),(3,1,false),(4,1,false),(5,1,false),(6,1,false),(7,1,false),(8,1,false),(9,1,false),(10,1,false),(11,1,false),(12,1,false)],0,false⟩),(75,⟨tLL,[],29,false⟩),(76,⟨tWs,[],161,false⟩),(78,⟨tM,[(0,1,false),(1,1,false),(2,1,false),(3,1,false)],0,false⟩),(85,⟨tN,[(0,1,false),(1,1,false),(2,1,false)],0,false⟩),(95,⟨tW,[(0,1,false),(1,1,false)],0,false⟩),(102,⟨tWs,[],179,false⟩),(104,⟨tM,[(0,1,false),(1,1,false),(2,1,false),(3,1,false)],0,false⟩),(128,⟨tW,[(0,1,false),(1,1,false)],0,false⟩),(150,⟨tS,[(0,1,false),(1,1,false),(2,1,false),(3,1,false),(4,1,false),(5,1,false),(6,1,false),(7,1,false)],0,false⟩),(161,⟨tW,[(0,1,false),(1,1,false)],0,false⟩),(179,⟨tW,[(0,1,false),(1,1,false)],0,false⟩)]
theorem yc:AllT Tryz.prog TT:=⟨yZp,yZq,yY6,yY7,yY8,yY9,yZa,yZb,yZc,yZd,yZe,yZf,yZg,yZh,yZi,yZj,yYU,yYV,yYW,yYX,yYY,yYZ,trivial⟩
theorem yb:Tryz.prog.follows .mixedOrders=true:=by kernel_rfl
end Go.Tf
