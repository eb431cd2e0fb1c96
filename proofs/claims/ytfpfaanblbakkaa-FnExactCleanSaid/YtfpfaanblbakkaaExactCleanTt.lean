/- The types of the program. -/
import Derived.Test.YtfpfaanblbakkaaTf4
import Derived.Test.YtfpfaanblbakkaaProg
namespace Go.Tf
open Go.Proofs
set_option synthInstance.maxHeartbeats 400000
set_option synthInstance.maxSize 10000
set_option linter.unusedVariables false
set_option linter.unusedSimpArgs false
set_option maxRecDepth 100000
theorem ti_3 : TIok Try.prog 3 ⟨tI, [], 0, false⟩ := tiok_int (by kernel_rfl) (by kernel_rfl)
theorem ti_4 : TIok Try.prog 4 ⟨tB, [], 0, false⟩ := tiok_bool (by kernel_rfl) (by kernel_rfl)
theorem ti_23 : TIok Try.prog 23 ⟨tG, [(0, 1, false), (1, 1, false)], 0, false⟩ := tiok_st (by kernel_rfl) (by kernel_rfl) (by kernel_rfl) (by kernel_rfl) (by kernel_rfl) (fun h => by simp at h)
theorem ti_24 : TIok Try.prog 24 ⟨tL, [], 3, false⟩ := tiok_sl (by kernel_rfl) (by kernel_rfl) (by kernel_rfl)
theorem ti_30 : TIok Try.prog 30 ⟨tG, [(0, 1, false), (1, 1, false)], 0, false⟩ := tiok_st (by kernel_rfl) (by kernel_rfl) (by kernel_rfl) (by kernel_rfl) (by kernel_rfl) (fun h => by simp at h)
theorem ti_49 : TIok Try.prog 49 ⟨tMs, [], 110, false⟩ := tiok_sl (by kernel_rfl) (by kernel_rfl) (by kernel_rfl)
theorem ti_50 : TIok Try.prog 50 ⟨tWs, [], 128, false⟩ := tiok_sl (by kernel_rfl) (by kernel_rfl) (by kernel_rfl)
theorem ti_52 : TIok Try.prog 52 ⟨tA, [(0, 1, false), (1, 2, true), (3, 1, false), (4, 1, false), (5, 1, false), (6, 1, false), (7, 1, false), (8, 1, false), (9, 1, false), (10, 1, false), (11, 1, false), (12, 1, false)], 0, false⟩ := tiok_st (by kernel_rfl) (by kernel_rfl) (by kernel_rfl) (by kernel_rfl) (by kernel_rfl) (fun h => by simp at h)
theorem ti_55 : TIok Try.prog 55 ⟨tMs, [], 113, false⟩ := tiok_sl (by kernel_rfl) (by kernel_rfl) (by kernel_rfl)
theorem ti_56 : TIok Try.prog 56 ⟨tWs, [], 129, false⟩ := tiok_sl (by kernel_rfl) (by kernel_rfl) (by kernel_rfl)
theorem ti_58 : TIok Try.prog 58 ⟨tA, [(0, 1, false), (1, 2, true), (3, 1, false), (4, 1, false), (5, 1, false), (6, 1, false), (7, 1, false), (8, 1, false), (9, 1, false), (10, 1, false), (11, 1, false), (12, 1, false)], 0, false⟩ := tiok_st (by kernel_rfl) (by kernel_rfl) (by kernel_rfl) (by kernel_rfl) (by kernel_rfl) (fun h => by simp at h)
theorem ti_107 : TIok Try.prog 107 ⟨tLL, [], 24, false⟩ := tiok_sl (by kernel_rfl) (by kernel_rfl) (by kernel_rfl)
theorem ti_108 : TIok Try.prog 108 ⟨tWs, [], 154, false⟩ := tiok_sl (by kernel_rfl) (by kernel_rfl) (by kernel_rfl)
theorem ti_110 : TIok Try.prog 110 ⟨tM, [(0, 1, false), (1, 1, false), (2, 1, false), (3, 1, false)], 0, false⟩ := tiok_st (by kernel_rfl) (by kernel_rfl) (by kernel_rfl) (by kernel_rfl) (by kernel_rfl) (fun h => by simp at h)
theorem ti_111 : TIok Try.prog 111 ⟨tWs, [], 143, false⟩ := tiok_sl (by kernel_rfl) (by kernel_rfl) (by kernel_rfl)
theorem ti_113 : TIok Try.prog 113 ⟨tM, [(0, 1, false), (1, 1, false), (2, 1, false), (3, 1, false)], 0, false⟩ := tiok_st (by kernel_rfl) (by kernel_rfl) (by kernel_rfl) (by kernel_rfl) (by kernel_rfl) (fun h => by simp at h)
theorem ti_128 : TIok Try.prog 128 ⟨tW, [(0, 1, false), (1, 1, false)], 0, false⟩ := tiok_st (by kernel_rfl) (by kernel_rfl) (by kernel_rfl) (by kernel_rfl) (by kernel_rfl) (fun h => by simp at h)
theorem ti_129 : TIok Try.prog 129 ⟨tW, [(0, 1, false), (1, 1, false)], 0, false⟩ := tiok_st (by kernel_rfl) (by kernel_rfl) (by kernel_rfl) (by kernel_rfl) (by kernel_rfl) (fun h => by simp at h)
theorem ti_143 : TIok Try.prog 143 ⟨tW, [(0, 1, false), (1, 1, false)], 0, false⟩ := tiok_st (by kernel_rfl) (by kernel_rfl) (by kernel_rfl) (by kernel_rfl) (by kernel_rfl) (fun h => by simp at h)
theorem ti_154 : TIok Try.prog 154 ⟨tW, [(0, 1, false), (1, 1, false)], 0, false⟩ := tiok_st (by kernel_rfl) (by kernel_rfl) (by kernel_rfl) (by kernel_rfl) (by kernel_rfl) (fun h => by simp at h)
def TT : List (Nat × TI) := [(3, ⟨tI, [], 0, false⟩), (4, ⟨tB, [], 0, false⟩), (23, ⟨tG, [(0, 1, false), (1, 1, false)], 0, false⟩), (24, ⟨tL, [], 3, false⟩), (30, ⟨tG, [(0, 1, false), (1, 1, false)], 0, false⟩), (49, ⟨tMs, [], 110, false⟩), (50, ⟨tWs, [], 128, false⟩), (52, ⟨tA, [(0, 1, false), (1, 2, true), (3, 1, false), (4, 1, false), (5, 1, false), (6, 1, false), (7, 1, false), (8, 1, false), (9, 1, false), (10, 1, false), (11, 1, false), (12, 1, false)], 0, false⟩), (55, ⟨tMs, [], 113, false⟩), (56, ⟨tWs, [], 129, false⟩), (58, ⟨tA, [(0, 1, false), (1, 2, true), (3, 1, false), (4, 1, false), (5, 1, false), (6, 1, false), (7, 1, false), (8, 1, false), (9, 1, false), (10, 1, false), (11, 1, false), (12, 1, false)], 0, false⟩), (107, ⟨tLL, [], 24, false⟩), (108, ⟨tWs, [], 154, false⟩), (110, ⟨tM, [(0, 1, false), (1, 1, false), (2, 1, false), (3, 1, false)], 0, false⟩), (111, ⟨tWs, [], 143, false⟩), (113, ⟨tM, [(0, 1, false), (1, 1, false), (2, 1, false), (3, 1, false)], 0, false⟩), (128, ⟨tW, [(0, 1, false), (1, 1, false)], 0, false⟩), (129, ⟨tW, [(0, 1, false), (1, 1, false)], 0, false⟩), (143, ⟨tW, [(0, 1, false), (1, 1, false)], 0, false⟩), (154, ⟨tW, [(0, 1, false), (1, 1, false)], 0, false⟩)]
theorem tt_ok : AllT Try.prog TT := ⟨ti_3, ti_4, ti_23, ti_24, ti_30, ti_49, ti_50, ti_52, ti_55, ti_56, ti_58, ti_107, ti_108, ti_110, ti_111, ti_113, ti_128, ti_129, ti_143, ti_154, trivial⟩
theorem mixed : Try.prog.follows .mixedOrders = true := by kernel_rfl
end Go.Tf
