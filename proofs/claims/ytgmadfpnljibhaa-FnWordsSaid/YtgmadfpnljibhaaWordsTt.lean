/- The types of the program. -/
import Derived.Test.YtgmadfpnljibhaaTf5
import Derived.Test.YtgmadfpnljibhaaProg
namespace Go.Tf
open Go.Proofs
set_option synthInstance.maxHeartbeats 400000
set_option synthInstance.maxSize 10000
set_option linter.unusedVariables false
set_option linter.unusedSimpArgs false
set_option maxRecDepth 100000
theorem yPY:TIok Try.prog 3 ⟨tI,[],0,false⟩:=zkL (by kernel_rfl) (by kernel_rfl)
theorem yPZ:TIok Try.prog 4 ⟨tB,[],0,false⟩:=zkv (by kernel_rfl) (by kernel_rfl)
theorem yP0:TIok Try.prog 5 ⟨tY,[],0,false⟩:=zkL (by kernel_rfl) (by kernel_rfl)
theorem yPy:TIok Try.prog 22 ⟨tYs,[],5,false⟩:=zkQ (by kernel_rfl) (by kernel_rfl) (by kernel_rfl)
theorem yPz:TIok Try.prog 25 ⟨tG,[(0,1,false),(1,1,false)],0,false⟩:=zkR (by kernel_rfl) (by kernel_rfl) (by kernel_rfl) (by kernel_rfl) (by kernel_rfl) (fun h=>by simp at h)
theorem yPA:TIok Try.prog 26 ⟨tMs,[],80,false⟩:=zkQ (by kernel_rfl) (by kernel_rfl) (by kernel_rfl)
theorem yPB:TIok Try.prog 27 ⟨tWs,[],114,false⟩:=zkQ (by kernel_rfl) (by kernel_rfl) (by kernel_rfl)
theorem yPC:TIok Try.prog 29 ⟨tA,[(0,1,false),(1,2,true),(3,1,false),(4,1,false),(5,1,false),(6,1,false),(7,1,false),(8,1,false),(9,1,false),(10,1,false),(11,1,false),(12,1,false)],0,false⟩:=zkR (by kernel_rfl) (by kernel_rfl) (by kernel_rfl) (by kernel_rfl) (by kernel_rfl) (fun h=>by simp at h)
theorem yPD:TIok Try.prog 31 ⟨tL,[],3,false⟩:=zkQ (by kernel_rfl) (by kernel_rfl) (by kernel_rfl)
theorem yPE:TIok Try.prog 77 ⟨tLL,[],31,false⟩:=zkQ (by kernel_rfl) (by kernel_rfl) (by kernel_rfl)
theorem yPF:TIok Try.prog 78 ⟨tWs,[],118,false⟩:=zkQ (by kernel_rfl) (by kernel_rfl) (by kernel_rfl)
theorem yPG:TIok Try.prog 80 ⟨tM,[(0,1,false),(1,1,false),(2,1,false),(3,1,false)],0,false⟩:=zkR (by kernel_rfl) (by kernel_rfl) (by kernel_rfl) (by kernel_rfl) (by kernel_rfl) (fun h=>by simp at h)
theorem yPf:TIok Try.prog 107 ⟨tU,[(0,1,false),(1,1,false),(2,1,false)],0,false⟩:=zkR (by kernel_rfl) (by kernel_rfl) (by kernel_rfl) (by kernel_rfl) (by kernel_rfl) (fun h=>by simp at h)
theorem yPg:TIok Try.prog 114 ⟨tW,[(0,1,false),(1,1,false)],0,false⟩:=zkR (by kernel_rfl) (by kernel_rfl) (by kernel_rfl) (by kernel_rfl) (by kernel_rfl) (fun h=>by simp at h)
theorem yPh:TIok Try.prog 118 ⟨tW,[(0,1,false),(1,1,false)],0,false⟩:=zkR (by kernel_rfl) (by kernel_rfl) (by kernel_rfl) (by kernel_rfl) (by kernel_rfl) (fun h=>by simp at h)
theorem yPi:TIok Try.prog 146 ⟨tS,[(0,1,false),(1,1,false),(2,1,false),(3,1,false),(4,1,false),(5,1,false),(6,1,false),(7,1,false)],0,false⟩:=zkR (by kernel_rfl) (by kernel_rfl) (by kernel_rfl) (by kernel_rfl) (by kernel_rfl) (fun h=>by simp at h)
theorem yPj:TIok Try.prog 185 ⟨tN,[(0,1,false),(1,1,false),(2,1,false)],0,false⟩:=zkR (by kernel_rfl) (by kernel_rfl) (by kernel_rfl) (by kernel_rfl) (by kernel_rfl) (fun h=>by simp at h)
def TT:List (Nat×TI):= [(3,⟨tI,[],0,false⟩),(4,⟨tB,[],0,false⟩),(5,⟨tY,[],0,false⟩),(22,⟨tYs,[],5,false⟩),(25,⟨tG,[(0,1,false),(1,1,false)],0,false⟩),(26,⟨tMs,[],80,false⟩),(27,⟨tWs,[],114,false⟩),(29,⟨tA,[(0,1,false),(1,2,true),(3,1,false),(4,1,false),(5,1,false),(6,1,false),(7,1,false),(8,1,false),(9,1,false),(10,1,false),(11,1,false),(12,1,false)],0,false⟩),(31,⟨tL,[],3,false⟩),(77,⟨tLL,[],31,false⟩),(78,⟨tWs,[],118,false⟩),(80,⟨tM,[(0,1,false),(1,1,false),(2,1,false),(3,1,false)],0,false⟩),(107,⟨tU,[(0,1,false),(1,1,false),(2,1,false)],0,false⟩),(114,⟨tW,[(0,1,false),(1,1,false)],0,false⟩),(118,⟨tW,[(0,1,false),(1,1,false)],0,false⟩),(146,⟨tS,[(0,1,false),(1,1,false),(2,1,false),(3,1,false),(4,1,false),(5,1,false),(6,1,false),(7,1,false)],0,false⟩),(185,⟨tN,[(0,1,false),(1,1,false),(2,1,false)],0,false⟩)]
theorem yd:AllT Try.prog TT:=⟨yPY,yPZ,yP0,yPy,yPz,yPA,yPB,yPC,yPD,yPE,yPF,yPG,yPf,yPg,yPh,yPi,yPj,trivial⟩
theorem yc:Try.prog.follows .mixedOrders=true:=by kernel_rfl
end Go.Tf
