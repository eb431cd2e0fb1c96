/- The types of the program. -/
import Derived.Test.YtgmadfpnljibhaaTf5
import Derived.Test.YtgmadfpnljibhaaProg
namespace Go.Tf
open Go.Proofs
set_option synthInstance.maxHeartbeats 400000
set_option synthInstance.maxSize 10000
set_option linter.unusedVariables false
set_option linter.unusedSimpArgs false
set_option maxRecDepth 100000
theorem ti_3 : TIok Try.prog 3 ⟨tI, [], 0, false⟩ := tiok_int (by kernel_rfl) (by kernel_rfl)
theorem ti_5 : TIok Try.prog 5 ⟨tY, [], 0, false⟩ := tiok_int (by kernel_rfl) (by kernel_rfl)
theorem ti_22 : TIok Try.prog 22 ⟨tYs, [], 5, false⟩ := tiok_sl (by kernel_rfl) (by kernel_rfl) (by kernel_rfl)
theorem ti_25 : TIok Try.prog 25 ⟨tG, [(0, 1, false), (1, 1, false)], 0, false⟩ := tiok_st (by kernel_rfl) (by kernel_rfl) (by kernel_rfl) (by kernel_rfl) (by kernel_rfl) (fun h => by simp at h)
theorem ti_31 : TIok Try.prog 31 ⟨tL, [], 3, false⟩ := tiok_sl (by kernel_rfl) (by kernel_rfl) (by kernel_rfl)
theorem ti_39 : TIok Try.prog 39 ⟨tCs, [], 49, false⟩ := tiok_sl (by kernel_rfl) (by kernel_rfl) (by kernel_rfl)
theorem ti_42 : TIok Try.prog 42 ⟨tNs, [], 56, false⟩ := tiok_sl (by kernel_rfl) (by kernel_rfl) (by kernel_rfl)
theorem ti_49 : TIok Try.prog 49 ⟨tC, [(0, 1, false), (1, 1, false), (2, 1, false), (3, 1, false), (4, 1, false)], 0, false⟩ := tiok_st (by kernel_rfl) (by kernel_rfl) (by kernel_rfl) (by kernel_rfl) (by kernel_rfl) (fun h => by simp at h)
theorem ti_56 : TIok Try.prog 56 ⟨tN, [(0, 1, false), (1, 1, false), (2, 1, false)], 0, false⟩ := tiok_st (by kernel_rfl) (by kernel_rfl) (by kernel_rfl) (by kernel_rfl) (by kernel_rfl) (fun h => by simp at h)
theorem ti_107 : TIok Try.prog 107 ⟨tU, [(0, 1, false), (1, 1, false), (2, 1, false)], 0, false⟩ := tiok_st (by kernel_rfl) (by kernel_rfl) (by kernel_rfl) (by kernel_rfl) (by kernel_rfl) (fun h => by simp at h)
def TT : List (Nat × TI) := [(3, ⟨tI, [], 0, false⟩), (5, ⟨tY, [], 0, false⟩), (22, ⟨tYs, [], 5, false⟩), (25, ⟨tG, [(0, 1, false), (1, 1, false)], 0, false⟩), (31, ⟨tL, [], 3, false⟩), (39, ⟨tCs, [], 49, false⟩), (42, ⟨tNs, [], 56, false⟩), (49, ⟨tC, [(0, 1, false), (1, 1, false), (2, 1, false), (3, 1, false), (4, 1, false)], 0, false⟩), (56, ⟨tN, [(0, 1, false), (1, 1, false), (2, 1, false)], 0, false⟩), (107, ⟨tU, [(0, 1, false), (1, 1, false), (2, 1, false)], 0, false⟩)]
theorem tt_ok : AllT Try.prog TT := ⟨ti_3, ti_5, ti_22, ti_25, ti_31, ti_39, ti_42, ti_49, ti_56, ti_107, trivial⟩
theorem mixed : Try.prog.follows .mixedOrders = true := by kernel_rfl
end Go.Tf
