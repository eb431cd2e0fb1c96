/- The types of the program. -/
import Derived.Test.YtgmadfpnljibhaaGreatTf5
import Derived.Test.YtgmadfpnljibhaaGreatProg
namespace Go.Tf
open Go.Proofs
set_option synthInstance.maxHeartbeats 400000
set_option synthInstance.maxSize 10000
set_option linter.unusedVariables false
set_option linter.unusedSimpArgs false
set_option maxRecDepth 100000
theorem ti_3:TIok Tryz.prog 3 ⟨tI,[],0,false⟩:=zkj (by kernel_rfl) (by kernel_rfl)
theorem ti_4:TIok Tryz.prog 4 ⟨tB,[],0,false⟩:=zj9 (by kernel_rfl) (by kernel_rfl)
theorem ti_5:TIok Tryz.prog 5 ⟨tY,[],0,false⟩:=zkj (by kernel_rfl) (by kernel_rfl)
theorem yacL:TIok Tryz.prog 22 ⟨tYs,[],5,false⟩:=zkn (by kernel_rfl) (by kernel_rfl) (by kernel_rfl)
theorem yacM:TIok Tryz.prog 25 ⟨tG,[(0,1,false),(1,1,false)],0,true⟩:=zko (by kernel_rfl) (by kernel_rfl) (by kernel_rfl) (by kernel_rfl) (by kernel_rfl) (fun _=>⟨by kernel_rfl,by kernel_rfl,by kernel_rfl,by kernel_rfl⟩)
theorem yacN:TIok Tryz.prog 26 ⟨tMs,[],91,false⟩:=zkn (by kernel_rfl) (by kernel_rfl) (by kernel_rfl)
theorem yacO:TIok Tryz.prog 27 ⟨tWs,[],129,false⟩:=zkn (by kernel_rfl) (by kernel_rfl) (by kernel_rfl)
theorem yacP:TIok Tryz.prog 29 ⟨tA,[(0,1,false),(1,2,true),(3,1,false),(4,1,false),(5,1,false),(6,1,false),(7,1,false),(8,1,false),(9,1,false),(10,1,false),(11,1,false),(12,1,false)],0,false⟩:=zko (by kernel_rfl) (by kernel_rfl) (by kernel_rfl) (by kernel_rfl) (by kernel_rfl) (fun h=>by simp at h)
theorem yacQ:TIok Tryz.prog 38 ⟨tL,[],3,false⟩:=zkn (by kernel_rfl) (by kernel_rfl) (by kernel_rfl)
theorem yacR:TIok Tryz.prog 61 ⟨tN,[(0,1,false),(1,1,false),(2,1,false)],0,false⟩:=zko (by kernel_rfl) (by kernel_rfl) (by kernel_rfl) (by kernel_rfl) (by kernel_rfl) (fun h=>by simp at h)
theorem yacS:TIok Tryz.prog 88 ⟨tLL,[],38,false⟩:=zkn (by kernel_rfl) (by kernel_rfl) (by kernel_rfl)
theorem yacT:TIok Tryz.prog 89 ⟨tWs,[],168,false⟩:=zkn (by kernel_rfl) (by kernel_rfl) (by kernel_rfl)
theorem yacU:TIok Tryz.prog 91 ⟨tM,[(0,1,false),(1,1,false),(2,1,false),(3,1,false)],0,false⟩:=zko (by kernel_rfl) (by kernel_rfl) (by kernel_rfl) (by kernel_rfl) (by kernel_rfl) (fun h=>by simp at h)
theorem yacy:TIok Tryz.prog 112 ⟨tS,[(0,1,false),(1,1,false),(2,1,false),(3,1,false),(4,1,false),(5,1,false),(6,1,false),(7,1,false)],0,false⟩:=zko (by kernel_rfl) (by kernel_rfl) (by kernel_rfl) (by kernel_rfl) (by kernel_rfl) (fun h=>by simp at h)
theorem yacz:TIok Tryz.prog 129 ⟨tW,[(0,1,false),(1,1,false)],0,false⟩:=zko (by kernel_rfl) (by kernel_rfl) (by kernel_rfl) (by kernel_rfl) (by kernel_rfl) (fun h=>by simp at h)
theorem yacA:TIok Tryz.prog 156 ⟨tU,[(0,1,false),(1,1,false),(2,1,false)],0,false⟩:=zko (by kernel_rfl) (by kernel_rfl) (by kernel_rfl) (by kernel_rfl) (by kernel_rfl) (fun h=>by simp at h)
theorem yacB:TIok Tryz.prog 168 ⟨tW,[(0,1,false),(1,1,false)],0,false⟩:=zko (by kernel_rfl) (by kernel_rfl) (by kernel_rfl) (by kernel_rfl) (by kernel_rfl) (fun h=>by simp at h)
theorem yacC:TIok Tryz.prog 176 ⟨(.int .u64),[],0,false⟩:=zkj (by kernel_rfl) (by kernel_rfl)
def TT:List (Nat×TI):= [(3,⟨tI,[],0,false⟩),(4,⟨tB,[],0,false⟩),(5,⟨tY,[],0,false⟩),(22,⟨tYs,[],5,false⟩),(25,⟨tG,[(0,1,false),(1,1,false)],0,true⟩),(26,⟨tMs,[],91,false⟩),(27,⟨tWs,[],129,false⟩),(29,⟨tA,[(0,1,false),(1,2,true),(3,1,false),(4,1,false),(5,1,false),(6,1,false),(7,1,false),(8,1,false),(9,1,false),(10,1,false),(11,1,false),(12,1,false)],0,false⟩),(38,⟨tL,[],3,false⟩),(61,⟨tN,[(0,1,false),(1,1,false),(2,1,false)],0,false⟩),(88,⟨tLL,[],38,false⟩),(89,⟨tWs,[],168,false⟩),(91,⟨tM,[(0,1,false),(1,1,false),(2,1,false),(3,1,false)],0,false⟩),(112,⟨tS,[(0,1,false),(1,1,false),(2,1,false),(3,1,false),(4,1,false),(5,1,false),(6,1,false),(7,1,false)],0,false⟩),(129,⟨tW,[(0,1,false),(1,1,false)],0,false⟩),(156,⟨tU,[(0,1,false),(1,1,false),(2,1,false)],0,false⟩),(168,⟨tW,[(0,1,false),(1,1,false)],0,false⟩),(176,⟨(.int .u64),[],0,false⟩)]
theorem yd:AllT Tryz.prog TT:=⟨ti_3,ti_4,ti_5,yacL,yacM,yacN,yacO,yacP,yacQ,yacR,yacS,yacT,yacU,yacy,yacz,yacA,yacB,yacC,trivial⟩
theorem yc:Tryz.prog.follows .mixedOrders=true:=by kernel_rfl
end Go.Tf
