/- The types of the program. -/
import Derived.Test.YtcpidpnglekceaaGreatTf5
import Derived.Test.YtcpidpnglekceaaGreatProg
namespace Go.Tf
open Go.Proofs
set_option synthInstance.maxHeartbeats 400000
set_option synthInstance.maxSize 10000
set_option linter.unusedVariables false
set_option linter.unusedSimpArgs false
set_option maxRecDepth 100000
theorem yRU:TIok Tryz.prog 3 ⟨tI,[],0,false⟩:=zkL (by kernel_rfl) (by kernel_rfl)
theorem yRV:TIok Tryz.prog 4 ⟨tB,[],0,false⟩:=zkv (by kernel_rfl) (by kernel_rfl)
theorem yRW:TIok Tryz.prog 5 ⟨tY,[],0,false⟩:=zkL (by kernel_rfl) (by kernel_rfl)
theorem yRu:TIok Tryz.prog 22 ⟨tYs,[],5,false⟩:=zkQ (by kernel_rfl) (by kernel_rfl) (by kernel_rfl)
theorem yRv:TIok Tryz.prog 25 ⟨tG,[(0,1,false),(1,1,false)],0,false⟩:=zkR (by kernel_rfl) (by kernel_rfl) (by kernel_rfl) (by kernel_rfl) (by kernel_rfl) (fun h=>by simp at h)
theorem yRw:TIok Tryz.prog 26 ⟨tMs,[],85,false⟩:=zkQ (by kernel_rfl) (by kernel_rfl) (by kernel_rfl)
theorem yRx:TIok Tryz.prog 27 ⟨tWs,[],121,false⟩:=zkQ (by kernel_rfl) (by kernel_rfl) (by kernel_rfl)
theorem yRy:TIok Tryz.prog 29 ⟨tA,[(0,1,false),(1,2,true),(3,1,false),(4,1,false),(5,1,false),(6,1,false),(7,1,false),(8,1,false),(9,1,false),(10,1,false),(11,1,false),(12,1,false)],0,false⟩:=zkR (by kernel_rfl) (by kernel_rfl) (by kernel_rfl) (by kernel_rfl) (by kernel_rfl) (fun h=>by simp at h)
theorem yRz:TIok Tryz.prog 42 ⟨tL,[],3,false⟩:=zkQ (by kernel_rfl) (by kernel_rfl) (by kernel_rfl)
theorem yRA:TIok Tryz.prog 48 ⟨tN,[(0,1,false),(1,1,false),(2,1,false)],0,false⟩:=zkR (by kernel_rfl) (by kernel_rfl) (by kernel_rfl) (by kernel_rfl) (by kernel_rfl) (fun h=>by simp at h)
theorem yRB:TIok Tryz.prog 82 ⟨tLL,[],42,false⟩:=zkQ (by kernel_rfl) (by kernel_rfl) (by kernel_rfl)
theorem yRC:TIok Tryz.prog 83 ⟨tWs,[],153,false⟩:=zkQ (by kernel_rfl) (by kernel_rfl) (by kernel_rfl)
theorem yRD:TIok Tryz.prog 85 ⟨tM,[(0,1,false),(1,1,false),(2,1,false),(3,1,false)],0,false⟩:=zkR (by kernel_rfl) (by kernel_rfl) (by kernel_rfl) (by kernel_rfl) (by kernel_rfl) (fun h=>by simp at h)
theorem yRc:TIok Tryz.prog 105 ⟨tS,[(0,1,false),(1,1,false),(2,1,false),(3,1,false),(4,1,false),(5,1,false),(6,1,false),(7,1,false)],0,false⟩:=zkR (by kernel_rfl) (by kernel_rfl) (by kernel_rfl) (by kernel_rfl) (by kernel_rfl) (fun h=>by simp at h)
theorem yRd:TIok Tryz.prog 121 ⟨tW,[(0,1,false),(1,1,false)],0,false⟩:=zkR (by kernel_rfl) (by kernel_rfl) (by kernel_rfl) (by kernel_rfl) (by kernel_rfl) (fun h=>by simp at h)
theorem yRe:TIok Tryz.prog 144 ⟨tU,[(0,1,false),(1,1,false),(2,1,false)],0,false⟩:=zkR (by kernel_rfl) (by kernel_rfl) (by kernel_rfl) (by kernel_rfl) (by kernel_rfl) (fun h=>by simp at h)
theorem yRf:TIok Tryz.prog 153 ⟨tW,[(0,1,false),(1,1,false)],0,false⟩:=zkR (by kernel_rfl) (by kernel_rfl) (by kernel_rfl) (by kernel_rfl) (by kernel_rfl) (fun h=>by simp at h)
def TT:List (Nat×TI):= [(3,⟨tI,[],0,false⟩),(4,⟨tB,[],0,false⟩),(5,⟨tY,[],0,false⟩),(22,⟨tYs,[],5,false⟩),(25,⟨tG,[(0,1,false),(1,1,false)],0,false⟩),(26,⟨tMs,[],85,false⟩),(27,⟨tWs,[],121,false⟩),(29,⟨tA,[(0,1,false),(1,2,true),(3,1,false),(4,1,false),(5,1,false),(6,1,false),(7,1,false),(8,1,false),(9,1,false),(10,1,false),(11,1,false),(12,1,false)],0,false⟩),(42,⟨tL,[],3,false⟩),(48,⟨tN,[(0,1,false),(1,1,false),(2,1,false)],0,false⟩),(82,⟨tLL,[],42,false⟩),(83,⟨tWs,[],153,false⟩),(85,⟨tM,[(0,1,false),(1,1,false),(2,1,false),(3,1,false)],0,false⟩),(105,⟨tS,[(0,1,false),(1,1,false),(2,1,false),(3,1,false),(4,1,false),(5,1,false),(6,1,false),(7,1,false)],0,false⟩),(121,⟨tW,[(0,1,false),(1,1,false)],0,false⟩),(144,⟨tU,[(0,1,false),(1,1,false),(2,1,false)],0,false⟩),(153,⟨tW,[(0,1,false),(1,1,false)],0,false⟩)]
theorem yf:AllT Tryz.prog TT:=⟨yRU,yRV,yRW,yRu,yRv,yRw,yRx,yRy,yRz,yRA,yRB,yRC,yRD,yRc,yRd,yRe,yRf,trivial⟩
theorem ye:Tryz.prog.follows .mixedOrders=true:=by kernel_rfl
end Go.Tf
