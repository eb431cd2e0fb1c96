/- The types of the program. -/
import Derived.Test.YtgmadfpnljibhaaTf5
import Derived.Test.YtgmadfpnljibhaaProg
namespace Go.Tf
open Go.Proofs
set_option synthInstance.maxHeartbeats 400000
set_option synthInstance.maxSize 10000
set_option linter.unusedVariables false
set_option linter.unusedSimpArgs false
set_option maxRecDepth 100000
theorem ti_3 : TIok Try.prog 3 ⟨tI, [], 0, false⟩ := tiok_int (by kernel_rfl) (by kernel_rfl)
theorem ti_4 : TIok Try.prog 4 ⟨tB, [], 0, false⟩ := tiok_bool (by kernel_rfl) (by kernel_rfl)
theorem ti_25 : TIok Try.prog 25 ⟨tG, [(0, 1, false), (1, 1, false)], 0, false⟩ := tiok_st (by kernel_rfl) (by kernel_rfl) (by kernel_rfl) (by kernel_rfl) (by kernel_rfl) (fun h => by simp at h)
theorem ti_26 : TIok Try.prog 26 ⟨tMs, [], 80, false⟩ := tiok_sl (by kernel_rfl) (by kernel_rfl) (by kernel_rfl)
theorem ti_27 : TIok Try.prog 27 ⟨tWs, [], 114, false⟩ := tiok_sl (by kernel_rfl) (by kernel_rfl) (by kernel_rfl)
theorem ti_29 : TIok Try.prog 29 ⟨tA, [(0, 1, false), (1, 2, true), (3, 1, false), (4, 1, false), (5, 1, false), (6, 1, false), (7, 1, false), (8, 1, false), (9, 1, false), (10, 1, false), (11, 1, false), (12, 1, false)], 0, false⟩ := tiok_st (by kernel_rfl) (by kernel_rfl) (by kernel_rfl) (by kernel_rfl) (by kernel_rfl) (fun h => by simp at h)
theorem ti_31 : TIok Try.prog 31 ⟨tL, [], 3, false⟩ := tiok_sl (by kernel_rfl) (by kernel_rfl) (by kernel_rfl)
theorem ti_57 : TIok Try.prog 57 ⟨tG, [(0, 1, false), (1, 1, false)], 0, false⟩ := tiok_st (by kernel_rfl) (by kernel_rfl) (by kernel_rfl) (by kernel_rfl) (by kernel_rfl) (fun h => by simp at h)
theorem ti_58 : TIok Try.prog 58 ⟨tMs, [], 130, false⟩ := tiok_sl (by kernel_rfl) (by kernel_rfl) (by kernel_rfl)
theorem ti_59 : TIok Try.prog 59 ⟨tWs, [], 132, false⟩ := tiok_sl (by kernel_rfl) (by kernel_rfl) (by kernel_rfl)
theorem ti_61 : TIok Try.prog 61 ⟨tA, [(0, 1, false), (1, 2, true), (3, 1, false), (4, 1, false), (5, 1, false), (6, 1, false), (7, 1, false), (8, 1, false), (9, 1, false), (10, 1, false), (11, 1, false), (12, 1, false)], 0, false⟩ := tiok_st (by kernel_rfl) (by kernel_rfl) (by kernel_rfl) (by kernel_rfl) (by kernel_rfl) (fun h => by simp at h)
theorem ti_77 : TIok Try.prog 77 ⟨tLL, [], 31, false⟩ := tiok_sl (by kernel_rfl) (by kernel_rfl) (by kernel_rfl)
theorem ti_78 : TIok Try.prog 78 ⟨tWs, [], 118, false⟩ := tiok_sl (by kernel_rfl) (by kernel_rfl) (by kernel_rfl)
theorem ti_80 : TIok Try.prog 80 ⟨tM, [(0, 1, false), (1, 1, false), (2, 1, false), (3, 1, false)], 0, false⟩ := tiok_st (by kernel_rfl) (by kernel_rfl) (by kernel_rfl) (by kernel_rfl) (by kernel_rfl) (fun h => by simp at h)
theorem ti_114 : TIok Try.prog 114 ⟨tW, [(0, 1, false), (1, 1, false)], 0, false⟩ := tiok_st (by kernel_rfl) (by kernel_rfl) (by kernel_rfl) (by kernel_rfl) (by kernel_rfl) (fun h => by simp at h)
theorem ti_118 : TIok Try.prog 118 ⟨tW, [(0, 1, false), (1, 1, false)], 0, false⟩ := tiok_st (by kernel_rfl) (by kernel_rfl) (by kernel_rfl) (by kernel_rfl) (by kernel_rfl) (fun h => by simp at h)
theorem ti_128 : TIok Try.prog 128 ⟨tWs, [], 168, false⟩ := tiok_sl (by kernel_rfl) (by kernel_rfl) (by kernel_rfl)
theorem ti_130 : TIok Try.prog 130 ⟨tM, [(0, 1, false), (1, 1, false), (2, 1, false), (3, 1, false)], 0, false⟩ := tiok_st (by kernel_rfl) (by kernel_rfl) (by kernel_rfl) (by kernel_rfl) (by kernel_rfl) (fun h => by simp at h)
theorem ti_132 : TIok Try.prog 132 ⟨tW, [(0, 1, false), (1, 1, false)], 0, false⟩ := tiok_st (by kernel_rfl) (by kernel_rfl) (by kernel_rfl) (by kernel_rfl) (by kernel_rfl) (fun h => by simp at h)
theorem ti_146 : TIok Try.prog 146 ⟨tS, [(0, 1, false), (1, 1, false), (2, 1, false), (3, 1, false), (4, 1, false), (5, 1, false), (6, 1, false), (7, 1, false)], 0, false⟩ := tiok_st (by kernel_rfl) (by kernel_rfl) (by kernel_rfl) (by kernel_rfl) (by kernel_rfl) (fun h => by simp at h)
theorem ti_168 : TIok Try.prog 168 ⟨tW, [(0, 1, false), (1, 1, false)], 0, false⟩ := tiok_st (by kernel_rfl) (by kernel_rfl) (by kernel_rfl) (by kernel_rfl) (by kernel_rfl) (fun h => by simp at h)
def TT : List (Nat × TI) := [(3, ⟨tI, [], 0, false⟩), (4, ⟨tB, [], 0, false⟩), (25, ⟨tG, [(0, 1, false), (1, 1, false)], 0, false⟩), (26, ⟨tMs, [], 80, false⟩), (27, ⟨tWs, [], 114, false⟩), (29, ⟨tA, [(0, 1, false), (1, 2, true), (3, 1, false), (4, 1, false), (5, 1, false), (6, 1, false), (7, 1, false), (8, 1, false), (9, 1, false), (10, 1, false), (11, 1, false), (12, 1, false)], 0, false⟩), (31, ⟨tL, [], 3, false⟩), (57, ⟨tG, [(0, 1, false), (1, 1, false)], 0, false⟩), (58, ⟨tMs, [], 130, false⟩), (59, ⟨tWs, [], 132, false⟩), (61, ⟨tA, [(0, 1, false), (1, 2, true), (3, 1, false), (4, 1, false), (5, 1, false), (6, 1, false), (7, 1, false), (8, 1, false), (9, 1, false), (10, 1, false), (11, 1, false), (12, 1, false)], 0, false⟩), (77, ⟨tLL, [], 31, false⟩), (78, ⟨tWs, [], 118, false⟩), (80, ⟨tM, [(0, 1, false), (1, 1, false), (2, 1, false), (3, 1, false)], 0, false⟩), (114, ⟨tW, [(0, 1, false), (1, 1, false)], 0, false⟩), (118, ⟨tW, [(0, 1, false), (1, 1, false)], 0, false⟩), (128, ⟨tWs, [], 168, false⟩), (130, ⟨tM, [(0, 1, false), (1, 1, false), (2, 1, false), (3, 1, false)], 0, false⟩), (132, ⟨tW, [(0, 1, false), (1, 1, false)], 0, false⟩), (146, ⟨tS, [(0, 1, false), (1, 1, false), (2, 1, false), (3, 1, false), (4, 1, false), (5, 1, false), (6, 1, false), (7, 1, false)], 0, false⟩), (168, ⟨tW, [(0, 1, false), (1, 1, false)], 0, false⟩)]
theorem tt_ok : AllT Try.prog TT := ⟨ti_3, ti_4, ti_25, ti_26, ti_27, ti_29, ti_31, ti_57, ti_58, ti_59, ti_61, ti_77, ti_78, ti_80, ti_114, ti_118, ti_128, ti_130, ti_132, ti_146, ti_168, trivial⟩
theorem mixed : Try.prog.follows .mixedOrders = true := by kernel_rfl
end Go.Tf
