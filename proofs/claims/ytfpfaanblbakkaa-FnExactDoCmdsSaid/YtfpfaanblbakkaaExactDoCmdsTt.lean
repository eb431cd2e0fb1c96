/- The types of the program. -/
import Derived.Test.YtfpfaanblbakkaaTf4
import Derived.Test.YtfpfaanblbakkaaProg
namespace Go.Tf
open Go.Proofs
set_option synthInstance.maxHeartbeats 400000
set_option synthInstance.maxSize 10000
set_option linter.unusedVariables false
set_option linter.unusedSimpArgs false
set_option maxRecDepth 100000
theorem ti_3 : TIok Try.prog 3 ⟨tI, [], 0, false⟩ := tiok_int (by kernel_rfl) (by kernel_rfl)
theorem ti_23 : TIok Try.prog 23 ⟨tG, [(0, 1, false), (1, 1, false)], 0, false⟩ := tiok_st (by kernel_rfl) (by kernel_rfl) (by kernel_rfl) (by kernel_rfl) (by kernel_rfl) (fun h => by simp at h)
theorem ti_24 : TIok Try.prog 24 ⟨tL, [], 3, false⟩ := tiok_sl (by kernel_rfl) (by kernel_rfl) (by kernel_rfl)
theorem ti_26 : TIok Try.prog 26 ⟨tC, [(0, 1, false), (1, 1, false), (2, 1, false), (3, 1, false), (4, 1, false)], 0, false⟩ := tiok_st (by kernel_rfl) (by kernel_rfl) (by kernel_rfl) (by kernel_rfl) (by kernel_rfl) (fun h => by simp at h)
theorem ti_30 : TIok Try.prog 30 ⟨tG, [(0, 1, false), (1, 1, false)], 0, false⟩ := tiok_st (by kernel_rfl) (by kernel_rfl) (by kernel_rfl) (by kernel_rfl) (by kernel_rfl) (fun h => by simp at h)
theorem ti_32 : TIok Try.prog 32 ⟨tC, [(0, 1, false), (1, 1, false), (2, 1, false), (3, 1, false), (4, 1, false)], 0, false⟩ := tiok_st (by kernel_rfl) (by kernel_rfl) (by kernel_rfl) (by kernel_rfl) (by kernel_rfl) (fun h => by simp at h)
theorem ti_39 : TIok Try.prog 39 ⟨tN, [(0, 1, false), (1, 1, false), (2, 1, false)], 0, false⟩ := tiok_st (by kernel_rfl) (by kernel_rfl) (by kernel_rfl) (by kernel_rfl) (by kernel_rfl) (fun h => by simp at h)
theorem ti_64 : TIok Try.prog 64 ⟨tCs, [], 32, false⟩ := tiok_sl (by kernel_rfl) (by kernel_rfl) (by kernel_rfl)
theorem ti_67 : TIok Try.prog 67 ⟨tNs, [], 39, false⟩ := tiok_sl (by kernel_rfl) (by kernel_rfl) (by kernel_rfl)
theorem ti_75 : TIok Try.prog 75 ⟨tCs, [], 26, false⟩ := tiok_sl (by kernel_rfl) (by kernel_rfl) (by kernel_rfl)
def TT : List (Nat × TI) := [(3, ⟨tI, [], 0, false⟩), (23, ⟨tG, [(0, 1, false), (1, 1, false)], 0, false⟩), (24, ⟨tL, [], 3, false⟩), (26, ⟨tC, [(0, 1, false), (1, 1, false), (2, 1, false), (3, 1, false), (4, 1, false)], 0, false⟩), (30, ⟨tG, [(0, 1, false), (1, 1, false)], 0, false⟩), (32, ⟨tC, [(0, 1, false), (1, 1, false), (2, 1, false), (3, 1, false), (4, 1, false)], 0, false⟩), (39, ⟨tN, [(0, 1, false), (1, 1, false), (2, 1, false)], 0, false⟩), (64, ⟨tCs, [], 32, false⟩), (67, ⟨tNs, [], 39, false⟩), (75, ⟨tCs, [], 26, false⟩)]
theorem tt_ok : AllT Try.prog TT := ⟨ti_3, ti_23, ti_24, ti_26, ti_30, ti_32, ti_39, ti_64, ti_67, ti_75, trivial⟩
theorem mixed : Try.prog.follows .mixedOrders = true := by kernel_rfl
end Go.Tf
