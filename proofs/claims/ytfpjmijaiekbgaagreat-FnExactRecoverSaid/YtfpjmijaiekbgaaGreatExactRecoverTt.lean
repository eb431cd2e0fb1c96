/- The types of the program. -/
import Derived.Test.YtfpjmijaiekbgaaGreatTf5
import Derived.Test.YtfpjmijaiekbgaaGreatProg
namespace Go.Tf
open Go.Proofs
set_option synthInstance.maxHeartbeats 400000
set_option synthInstance.maxSize 10000
set_option linter.unusedVariables false
set_option linter.unusedSimpArgs false
set_option maxRecDepth 100000
theorem y3u:TIok Tryz.prog 3 ⟨tI,[],0,false⟩:=zkL (by kernel_rfl) (by kernel_rfl)
theorem y3v:TIok Tryz.prog 4 ⟨tB,[],0,false⟩:=zkv (by kernel_rfl) (by kernel_rfl)
theorem y3e:TIok Tryz.prog 24 ⟨tMs,[],104,false⟩:=zkQ (by kernel_rfl) (by kernel_rfl) (by kernel_rfl)
theorem y3f:TIok Tryz.prog 29 ⟨tL,[],3,false⟩:=zkQ (by kernel_rfl) (by kernel_rfl) (by kernel_rfl)
theorem y3g:TIok Tryz.prog 31 ⟨tG,[(0,1,false),(1,1,false)],0,false⟩:=zkR (by kernel_rfl) (by kernel_rfl) (by kernel_rfl) (by kernel_rfl) (by kernel_rfl) (fun h=>by simp at h)
theorem y3h:TIok Tryz.prog 32 ⟨tMs,[],78,false⟩:=zkQ (by kernel_rfl) (by kernel_rfl) (by kernel_rfl)
theorem y3i:TIok Tryz.prog 33 ⟨tWs,[],95,false⟩:=zkQ (by kernel_rfl) (by kernel_rfl) (by kernel_rfl)
theorem y3j:TIok Tryz.prog 35 ⟨tA,[(0,1,false),(1,2,true),(3,1,false),(4,1,false),(5,1,false),(6,1,false),(7,1,false),(8,1,false),(9,1,false),(10,1,false),(11,1,false),(12,1,false)],0,false⟩:=zkR (by kernel_rfl) (by kernel_rfl) (by kernel_rfl) (by kernel_rfl) (by kernel_rfl) (fun h=>by simp at h)
theorem y3k:TIok Tryz.prog 75 ⟨tLL,[],29,false⟩:=zkQ (by kernel_rfl) (by kernel_rfl) (by kernel_rfl)
theorem y3l:TIok Tryz.prog 76 ⟨tWs,[],161,false⟩:=zkQ (by kernel_rfl) (by kernel_rfl) (by kernel_rfl)
theorem y3m:TIok Tryz.prog 78 ⟨tM,[(0,1,false),(1,1,false),(2,1,false),(3,1,false)],0,false⟩:=zkR (by kernel_rfl) (by kernel_rfl) (by kernel_rfl) (by kernel_rfl) (by kernel_rfl) (fun h=>by simp at h)
theorem y3n:TIok Tryz.prog 85 ⟨tN,[(0,1,false),(1,1,false),(2,1,false)],0,false⟩:=zkR (by kernel_rfl) (by kernel_rfl) (by kernel_rfl) (by kernel_rfl) (by kernel_rfl) (fun h=>by simp at h)
theorem y3o:TIok Tryz.prog 95 ⟨tW,[(0,1,false),(1,1,false)],0,false⟩:=zkR (by kernel_rfl) (by kernel_rfl) (by kernel_rfl) (by kernel_rfl) (by kernel_rfl) (fun h=>by simp at h)
theorem y23:TIok Tryz.prog 102 ⟨tWs,[],179,false⟩:=zkQ (by kernel_rfl) (by kernel_rfl) (by kernel_rfl)
theorem y24:TIok Tryz.prog 104 ⟨tM,[(0,1,false),(1,1,false),(2,1,false),(3,1,false)],0,false⟩:=zkR (by kernel_rfl) (by kernel_rfl) (by kernel_rfl) (by kernel_rfl) (by kernel_rfl) (fun h=>by simp at h)
theorem y25:TIok Tryz.prog 150 ⟨tS,[(0,1,false),(1,1,false),(2,1,false),(3,1,false),(4,1,false),(5,1,false),(6,1,false),(7,1,false)],0,false⟩:=zkR (by kernel_rfl) (by kernel_rfl) (by kernel_rfl) (by kernel_rfl) (by kernel_rfl) (fun h=>by simp at h)
theorem y26:TIok Tryz.prog 161 ⟨tW,[(0,1,false),(1,1,false)],0,false⟩:=zkR (by kernel_rfl) (by kernel_rfl) (by kernel_rfl) (by kernel_rfl) (by kernel_rfl) (fun h=>by simp at h)
theorem y27:TIok Tryz.prog 179 ⟨tW,[(0,1,false),(1,1,false)],0,false⟩:=zkR (by kernel_rfl) (by kernel_rfl) (by kernel_rfl) (by kernel_rfl) (by kernel_rfl) (fun h=>by simp at h)
theorem y28:TIok Tryz.prog 181 ⟨(.int .u64),[],0,false⟩:=zkL (by kernel_rfl) (by kernel_rfl)
def TT:List (Nat×TI):= [(3,⟨tI,[],0,false⟩),(4,⟨tB,[],0,false⟩),(24,⟨tMs,[],104,false⟩),(29,⟨tL,[],3,false⟩),(31,⟨tG,[(0,1,false),(1,1,false)],0,false⟩),(32,⟨tMs,[],78,false⟩),(33,⟨tWs,[],95,false⟩),(35,⟨tA,[(0,1,false),(1,2,true),(3,1,false),(4,1,false),(5,1,false),(6,1,false),(7,1,false),(8,1,false),(9,1,false),(10,1,false),(11,1,false),(12,1,false)],0,false⟩),(75,⟨tLL,[],29,false⟩),(76,⟨tWs,[],161,false⟩),(78,⟨tM,[(0,1,false),(1,1,false),(2,1,false),(3,1,false)],0,false⟩),(85,⟨tN,[(0,1,false),(1,1,false),(2,1,false)],0,false⟩),(95,⟨tW,[(0,1,false),(1,1,false)],0,false⟩),(102,⟨tWs,[],179,false⟩),(104,⟨tM,[(0,1,false),(1,1,false),(2,1,false),(3,1,false)],0,false⟩),(150,⟨tS,[(0,1,false),(1,1,false),(2,1,false),(3,1,false),(4,1,false),(5,1,false),(6,1,false),(7,1,false)],0,false⟩),(161,⟨tW,[(0,1,false),(1,1,false)],0,false⟩),(179,⟨tW,[(0,1,false),(1,1,false)],0,false⟩),(181,⟨(.int .u64),[],0,false⟩)]
theorem yc:AllT Tryz.prog TT:=⟨y3u,y3v,y3e,y3f,y3g,y3h,y3i,y3j,y3k,y3l,y3m,y3n,y3o,y23,y24,y25,y26,y27,y28,trivial⟩
theorem yb:Tryz.prog.follows .mixedOrders=true:=by kernel_rfl
end Go.Tf
