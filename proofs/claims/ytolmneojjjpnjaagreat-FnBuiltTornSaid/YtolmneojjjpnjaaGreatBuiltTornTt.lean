/- The types of the program. -/
import Derived.Test.YtolmneojjjpnjaaGreatTf5
import Derived.Test.YtolmneojjjpnjaaGreatProg
namespace Go.Tf
open Go.Proofs Go.Proofs.Tryz
set_option synthInstance.maxHeartbeats 400000
set_option synthInstance.maxSize 10000
set_option linter.unusedVariables false
set_option linter.unusedSimpArgs false
set_option maxRecDepth 100000
abbrev oA:Ann:=.pr (.ow (.ow .fz)) (.pr (.ow (.pr .fz (.ow .fz))) (.pr .fz (.ow .fz)))
abbrev oB:Ann:=.pr .fz (.pr (.pr .fz .fz) (.pr (.ow (.pr (.ow .fz) (.pr (.ow (.pr .fz .fz)) (.pr .fz (.ow .fz))))) (.pr .fz (.pr .fz (.pr .fz (.pr .fz (.pr .fz (.pr (.ow (.pr .fz .fz)) (.pr .fz (.pr .fz .fz))))))))))
abbrev oC:Ann:=.pr (.ow .fz) (.pr (.ow (.pr .fz .fz)) (.pr .fz (.ow .fz)))
abbrev oD:Ann:=.pr .fz (.pr (.pr .fz .fz) (.pr (.ow oA) (.pr .fz (.pr .fz (.pr .fz (.pr .fz (.pr .fz (.pr (.ow (.pr .fz (.ow .fz))) (.pr .fz (.pr .fz .fz))))))))))
abbrev oE:Ann:=.pr .fz (.ow .fz)
abbrev oF:Ann:=.pr .fz .fz
abbrev oG:Ann:=.ow .fz
abbrev oH:Ann:=.pr .fz (.pr .fz (.pr .fz (.pr .fz (.pr .fz (.pr .fz oF)))))
abbrev ii:CT:=.int .i64
abbrev oI:List CT:=[ii,ii,ii,.at 800000000,ii,ii,ii,ii,ii,.at 800000001,ii,.bool,.bool]
abbrev oJ:List CT:=[ii,ii,ii,.br tM,ii,ii,ii,ii,ii,.br tW,ii,.bool,.bool]
abbrev oK:List CT:=[ii,ii,ii,.nil,ii,ii,ii,ii,ii,.nil,ii,.bool,.bool]
abbrev oL:List CT:=[.br tL,.br tW,.bool,.br tI]
abbrev oM:List CT:=[ii,ii,ii,.at 800000001,ii,ii,ii,ii,ii,.at 800000002,ii,.bool,.bool]
abbrev oN:List CT:=[.at 800000000,.at 800000001,.bool,.at 800000002]
abbrev oO:List CT:=[.nil,.nil,.bool,.nil]
abbrev oP:List CT:=[ii,ii,ii,.at 800000000,ii,ii,ii,ii,ii,.nil,ii,.bool,.bool]
abbrev oQ:List CT:=[ii,ii,ii,ii,ii,ii,ii,ii]
abbrev oR:List CT:=[ii,ii,ii,.at 800000003,ii,ii,ii,ii,ii,.at 800000004,ii,.bool,.bool]
abbrev oS:List CT:=[.at 800000000,.at 800000002,.bool,.at 800000001]
abbrev oT:List CT:=[.at 800000001,.nil,.bool,.at 800000000]
abbrev oU:List CT:=[.fz tY,ii,ii]
abbrev oV:List CT:=[.at 800000001,.at 800000002,.bool,.at 800000003]
theorem y68:TIok prog 3 ⟨tI,[],0,false⟩:=zkP (by kernel_rfl) (by kernel_rfl)
theorem y69:TIok prog 4 ⟨tB,[],0,false⟩:=zkE (by kernel_rfl) (by kernel_rfl)
theorem y7a:TIok prog 5 ⟨tY,[],0,false⟩:=zkP (by kernel_rfl) (by kernel_rfl)
theorem y6U:TIok prog 22 ⟨tYs,[],5,false⟩:=zkT (by kernel_rfl) (by kernel_rfl) (by kernel_rfl)
theorem y6V:TIok prog 24 ⟨tMs,[],71,false⟩:=zkT (by kernel_rfl) (by kernel_rfl) (by kernel_rfl)
theorem y6W:TIok prog 28 ⟨tG,[(0,1,false),(1,1,false)],0,false⟩:=zkU (by kernel_rfl) (by kernel_rfl) (by kernel_rfl) (by kernel_rfl) (by kernel_rfl) (fun h=>by simp at h)
theorem y6X:TIok prog 29 ⟨tWs,[],123,false⟩:=zkT (by kernel_rfl) (by kernel_rfl) (by kernel_rfl)
theorem y6Y:TIok prog 31 ⟨tA,[(0,1,false),(1,2,true),(3,1,false),(4,1,false),(5,1,false),(6,1,false),(7,1,false),(8,1,false),(9,1,false),(10,1,false),(11,1,false),(12,1,false)],0,false⟩:=zkU (by kernel_rfl) (by kernel_rfl) (by kernel_rfl) (by kernel_rfl) (by kernel_rfl) (fun h=>by simp at h)
theorem y6Z:TIok prog 34 ⟨tL,[],3,false⟩:=zkT (by kernel_rfl) (by kernel_rfl) (by kernel_rfl)
theorem y60:TIok prog 42 ⟨tN,[(0,1,false),(1,1,false),(2,1,false)],0,false⟩:=zkU (by kernel_rfl) (by kernel_rfl) (by kernel_rfl) (by kernel_rfl) (by kernel_rfl) (fun h=>by simp at h)
theorem y61:TIok prog 68 ⟨tLL,[],34,false⟩:=zkT (by kernel_rfl) (by kernel_rfl) (by kernel_rfl)
theorem y62:TIok prog 69 ⟨tWs,[],136,false⟩:=zkT (by kernel_rfl) (by kernel_rfl) (by kernel_rfl)
theorem y63:TIok prog 71 ⟨tM,[(0,1,false),(1,1,false),(2,1,false),(3,1,false)],0,false⟩:=zkU (by kernel_rfl) (by kernel_rfl) (by kernel_rfl) (by kernel_rfl) (by kernel_rfl) (fun h=>by simp at h)
theorem y64:TIok prog 84 ⟨tS,[(0,1,false),(1,1,false),(2,1,false),(3,1,false),(4,1,false),(5,1,false),(6,1,false),(7,1,false)],0,false⟩:=zkU (by kernel_rfl) (by kernel_rfl) (by kernel_rfl) (by kernel_rfl) (by kernel_rfl) (fun h=>by simp at h)
theorem y6M:TIok prog 123 ⟨tW,[(0,1,false),(1,1,false)],0,false⟩:=zkU (by kernel_rfl) (by kernel_rfl) (by kernel_rfl) (by kernel_rfl) (by kernel_rfl) (fun h=>by simp at h)
theorem y6N:TIok prog 130 ⟨tU,[(0,1,false),(1,1,false),(2,1,false)],0,false⟩:=zkU (by kernel_rfl) (by kernel_rfl) (by kernel_rfl) (by kernel_rfl) (by kernel_rfl) (fun h=>by simp at h)
theorem y6O:TIok prog 136 ⟨tW,[(0,1,false),(1,1,false)],0,false⟩:=zkU (by kernel_rfl) (by kernel_rfl) (by kernel_rfl) (by kernel_rfl) (by kernel_rfl) (fun h=>by simp at h)
def TT:List (Nat×TI):= [(3,⟨tI,[],0,false⟩),(4,⟨tB,[],0,false⟩),(5,⟨tY,[],0,false⟩),(22,⟨tYs,[],5,false⟩),(24,⟨tMs,[],71,false⟩),(28,⟨tG,[(0,1,false),(1,1,false)],0,false⟩),(29,⟨tWs,[],123,false⟩),(31,⟨tA,[(0,1,false),(1,2,true),(3,1,false),(4,1,false),(5,1,false),(6,1,false),(7,1,false),(8,1,false),(9,1,false),(10,1,false),(11,1,false),(12,1,false)],0,false⟩),(34,⟨tL,[],3,false⟩),(42,⟨tN,[(0,1,false),(1,1,false),(2,1,false)],0,false⟩),(68,⟨tLL,[],34,false⟩),(69,⟨tWs,[],136,false⟩),(71,⟨tM,[(0,1,false),(1,1,false),(2,1,false),(3,1,false)],0,false⟩),(84,⟨tS,[(0,1,false),(1,1,false),(2,1,false),(3,1,false),(4,1,false),(5,1,false),(6,1,false),(7,1,false)],0,false⟩),(123,⟨tW,[(0,1,false),(1,1,false)],0,false⟩),(130,⟨tU,[(0,1,false),(1,1,false),(2,1,false)],0,false⟩),(136,⟨tW,[(0,1,false),(1,1,false)],0,false⟩)]
theorem yf:AllT prog TT:=⟨y68,y69,y7a,y6U,y6V,y6W,y6X,y6Y,y6Z,y60,y61,y62,y63,y64,y6M,y6N,y6O,trivial⟩
theorem mixed:prog.follows .mixedOrders=true:=by kernel_rfl
end Go.Tf
