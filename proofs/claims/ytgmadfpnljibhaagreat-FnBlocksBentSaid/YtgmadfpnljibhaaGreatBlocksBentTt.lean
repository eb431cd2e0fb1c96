/- The types of the program. -/
import Derived.Test.YtgmadfpnljibhaaGreatTf5
import Derived.Test.YtgmadfpnljibhaaGreatProg
namespace Go.Tf
open Go.Proofs
set_option synthInstance.maxHeartbeats 400000
set_option synthInstance.maxSize 10000
set_option linter.unusedVariables false
set_option linter.unusedSimpArgs false
set_option maxRecDepth 100000
theorem y75:TIok Tryz.prog 3 ⟨tI,[],0,false⟩:=zkk (by kernel_rfl) (by kernel_rfl)
theorem y76:TIok Tryz.prog 4 ⟨tB,[],0,false⟩:=zka (by kernel_rfl) (by kernel_rfl)
theorem y77:TIok Tryz.prog 5 ⟨tY,[],0,false⟩:=zkk (by kernel_rfl) (by kernel_rfl)
theorem y7P:TIok Tryz.prog 22 ⟨tYs,[],5,false⟩:=zko (by kernel_rfl) (by kernel_rfl) (by kernel_rfl)
theorem y7Q:TIok Tryz.prog 25 ⟨tG,[(0,1,false),(1,1,false)],0,true⟩:=zkp (by kernel_rfl) (by kernel_rfl) (by kernel_rfl) (by kernel_rfl) (by kernel_rfl) (fun _=>⟨by kernel_rfl,by kernel_rfl,by kernel_rfl,by kernel_rfl⟩)
theorem y7R:TIok Tryz.prog 26 ⟨tMs,[],91,false⟩:=zko (by kernel_rfl) (by kernel_rfl) (by kernel_rfl)
theorem y7S:TIok Tryz.prog 27 ⟨tWs,[],129,false⟩:=zko (by kernel_rfl) (by kernel_rfl) (by kernel_rfl)
theorem y7T:TIok Tryz.prog 29 ⟨tA,[(0,1,false),(1,2,true),(3,1,false),(4,1,false),(5,1,false),(6,1,false),(7,1,false),(8,1,false),(9,1,false),(10,1,false),(11,1,false),(12,1,false)],0,false⟩:=zkp (by kernel_rfl) (by kernel_rfl) (by kernel_rfl) (by kernel_rfl) (by kernel_rfl) (fun h=>by simp at h)
theorem y7U:TIok Tryz.prog 38 ⟨tL,[],3,false⟩:=zko (by kernel_rfl) (by kernel_rfl) (by kernel_rfl)
theorem y7V:TIok Tryz.prog 61 ⟨tN,[(0,1,false),(1,1,false),(2,1,false)],0,false⟩:=zkp (by kernel_rfl) (by kernel_rfl) (by kernel_rfl) (by kernel_rfl) (by kernel_rfl) (fun h=>by simp at h)
theorem y7W:TIok Tryz.prog 74 ⟨tG,[(0,1,false),(1,1,false)],0,false⟩:=zkp (by kernel_rfl) (by kernel_rfl) (by kernel_rfl) (by kernel_rfl) (by kernel_rfl) (fun h=>by simp at h)
theorem y7X:TIok Tryz.prog 75 ⟨tMs,[],184,false⟩:=zko (by kernel_rfl) (by kernel_rfl) (by kernel_rfl)
theorem y7Y:TIok Tryz.prog 76 ⟨tWs,[],186,false⟩:=zko (by kernel_rfl) (by kernel_rfl) (by kernel_rfl)
theorem y7Z:TIok Tryz.prog 78 ⟨tA,[(0,1,false),(1,2,true),(3,1,false),(4,1,false),(5,1,false),(6,1,false),(7,1,false),(8,1,false),(9,1,false),(10,1,false),(11,1,false),(12,1,false)],0,false⟩:=zkp (by kernel_rfl) (by kernel_rfl) (by kernel_rfl) (by kernel_rfl) (by kernel_rfl) (fun h=>by simp at h)
theorem y70:TIok Tryz.prog 88 ⟨tLL,[],38,false⟩:=zko (by kernel_rfl) (by kernel_rfl) (by kernel_rfl)
theorem y71:TIok Tryz.prog 89 ⟨tWs,[],168,false⟩:=zko (by kernel_rfl) (by kernel_rfl) (by kernel_rfl)
theorem y72:TIok Tryz.prog 91 ⟨tM,[(0,1,false),(1,1,false),(2,1,false),(3,1,false)],0,false⟩:=zkp (by kernel_rfl) (by kernel_rfl) (by kernel_rfl) (by kernel_rfl) (by kernel_rfl) (fun h=>by simp at h)
theorem y7A:TIok Tryz.prog 112 ⟨tS,[(0,1,false),(1,1,false),(2,1,false),(3,1,false),(4,1,false),(5,1,false),(6,1,false),(7,1,false)],0,false⟩:=zkp (by kernel_rfl) (by kernel_rfl) (by kernel_rfl) (by kernel_rfl) (by kernel_rfl) (fun h=>by simp at h)
theorem y7B:TIok Tryz.prog 129 ⟨tW,[(0,1,false),(1,1,false)],0,false⟩:=zkp (by kernel_rfl) (by kernel_rfl) (by kernel_rfl) (by kernel_rfl) (by kernel_rfl) (fun h=>by simp at h)
theorem y7C:TIok Tryz.prog 156 ⟨tU,[(0,1,false),(1,1,false),(2,1,false)],0,false⟩:=zkp (by kernel_rfl) (by kernel_rfl) (by kernel_rfl) (by kernel_rfl) (by kernel_rfl) (fun h=>by simp at h)
theorem y7D:TIok Tryz.prog 168 ⟨tW,[(0,1,false),(1,1,false)],0,false⟩:=zkp (by kernel_rfl) (by kernel_rfl) (by kernel_rfl) (by kernel_rfl) (by kernel_rfl) (fun h=>by simp at h)
theorem y7E:TIok Tryz.prog 182 ⟨tWs,[],203,false⟩:=zko (by kernel_rfl) (by kernel_rfl) (by kernel_rfl)
theorem y7F:TIok Tryz.prog 184 ⟨tM,[(0,1,false),(1,1,false),(2,1,false),(3,1,false)],0,false⟩:=zkp (by kernel_rfl) (by kernel_rfl) (by kernel_rfl) (by kernel_rfl) (by kernel_rfl) (fun h=>by simp at h)
theorem y7G:TIok Tryz.prog 186 ⟨tW,[(0,1,false),(1,1,false)],0,false⟩:=zkp (by kernel_rfl) (by kernel_rfl) (by kernel_rfl) (by kernel_rfl) (by kernel_rfl) (fun h=>by simp at h)
theorem y7H:TIok Tryz.prog 203 ⟨tW,[(0,1,false),(1,1,false)],0,false⟩:=zkp (by kernel_rfl) (by kernel_rfl) (by kernel_rfl) (by kernel_rfl) (by kernel_rfl) (fun h=>by simp at h)
def TT:List (Nat×TI):= [(3,⟨tI,[],0,false⟩),(4,⟨tB,[],0,false⟩),(5,⟨tY,[],0,false⟩),(22,⟨tYs,[],5,false⟩),(25,⟨tG,[(0,1,false),(1,1,false)],0,true⟩),(26,⟨tMs,[],91,false⟩),(27,⟨tWs,[],129,false⟩),(29,⟨tA,[(0,1,false),(1,2,true),(3,1,false),(4,1,false),(5,1,false),(6,1,false),(7,1,false),(8,1,false),(9,1,false),(10,1,false),(11,1,false),(12,1,false)],0,false⟩),(38,⟨tL,[],3,false⟩),(61,⟨tN,[(0,1,false),(1,1,false),(2,1,false)],0,false⟩),(74,⟨tG,[(0,1,false),(1,1,false)],0,false⟩),(75,⟨tMs,[],184,false⟩),(76,⟨tWs,[],186,false⟩),(78,⟨tA,[(0,1,false),(1,2,true),(3,1,false),(4,1,false),(5,1,false),(6,1,false),(7,1,false),(8,1,false),(9,1,false),(10,1,false),(11,1,false),(12,1,false)],0,false⟩),(88,⟨tLL,[],38,false⟩),(89,⟨tWs,[],168,false⟩),(91,⟨tM,[(0,1,false),(1,1,false),(2,1,false),(3,1,false)],0,false⟩),(112,⟨tS,[(0,1,false),(1,1,false),(2,1,false),(3,1,false),(4,1,false),(5,1,false),(6,1,false),(7,1,false)],0,false⟩),(129,⟨tW,[(0,1,false),(1,1,false)],0,false⟩),(156,⟨tU,[(0,1,false),(1,1,false),(2,1,false)],0,false⟩),(168,⟨tW,[(0,1,false),(1,1,false)],0,false⟩),(182,⟨tWs,[],203,false⟩),(184,⟨tM,[(0,1,false),(1,1,false),(2,1,false),(3,1,false)],0,false⟩),(186,⟨tW,[(0,1,false),(1,1,false)],0,false⟩),(203,⟨tW,[(0,1,false),(1,1,false)],0,false⟩)]
theorem yc:AllT Tryz.prog TT:=⟨y75,y76,y77,y7P,y7Q,y7R,y7S,y7T,y7U,y7V,y7W,y7X,y7Y,y7Z,y70,y71,y72,y7A,y7B,y7C,y7D,y7E,y7F,y7G,y7H,trivial⟩
theorem yb:Tryz.prog.follows .mixedOrders=true:=by kernel_rfl
end Go.Tf
