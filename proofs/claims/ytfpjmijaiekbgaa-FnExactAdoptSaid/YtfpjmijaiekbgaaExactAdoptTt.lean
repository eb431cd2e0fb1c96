/- The types of the program. -/
import Derived.Test.YtfpjmijaiekbgaaTf5
import Derived.Test.YtfpjmijaiekbgaaProg
namespace Go.Tf
open Go.Proofs
set_option synthInstance.maxHeartbeats 400000
set_option synthInstance.maxSize 10000
set_option linter.unusedVariables false
set_option linter.unusedSimpArgs false
set_option maxRecDepth 100000
theorem ti_3 : TIok Try.prog 3 ⟨tI, [], 0, false⟩ := tiok_int (by kernel_rfl) (by kernel_rfl)
theorem ti_4 : TIok Try.prog 4 ⟨tB, [], 0, false⟩ := tiok_bool (by kernel_rfl) (by kernel_rfl)
theorem ti_23 : TIok Try.prog 23 ⟨tG, [(0, 1, false), (1, 1, false)], 0, false⟩ := tiok_st (by kernel_rfl) (by kernel_rfl) (by kernel_rfl) (by kernel_rfl) (by kernel_rfl) (fun h => by simp at h)
theorem ti_24 : TIok Try.prog 24 ⟨tMs, [], 72, false⟩ := tiok_sl (by kernel_rfl) (by kernel_rfl) (by kernel_rfl)
theorem ti_25 : TIok Try.prog 25 ⟨tWs, [], 75, false⟩ := tiok_sl (by kernel_rfl) (by kernel_rfl) (by kernel_rfl)
theorem ti_27 : TIok Try.prog 27 ⟨tA, [(0, 1, false), (1, 2, true), (3, 1, false), (4, 1, false), (5, 1, false), (6, 1, false), (7, 1, false), (8, 1, false), (9, 1, false), (10, 1, false), (11, 1, false), (12, 1, false)], 0, false⟩ := tiok_st (by kernel_rfl) (by kernel_rfl) (by kernel_rfl) (by kernel_rfl) (by kernel_rfl) (fun h => by simp at h)
theorem ti_29 : TIok Try.prog 29 ⟨tG, [(0, 1, false), (1, 1, false)], 0, false⟩ := tiok_st (by kernel_rfl) (by kernel_rfl) (by kernel_rfl) (by kernel_rfl) (by kernel_rfl) (fun h => by simp at h)
theorem ti_30 : TIok Try.prog 30 ⟨tMs, [], 50, false⟩ := tiok_sl (by kernel_rfl) (by kernel_rfl) (by kernel_rfl)
theorem ti_31 : TIok Try.prog 31 ⟨tWs, [], 77, false⟩ := tiok_sl (by kernel_rfl) (by kernel_rfl) (by kernel_rfl)
theorem ti_33 : TIok Try.prog 33 ⟨tA, [(0, 1, false), (1, 2, true), (3, 1, false), (4, 1, false), (5, 1, false), (6, 1, false), (7, 1, false), (8, 1, false), (9, 1, false), (10, 1, false), (11, 1, false), (12, 1, false)], 0, false⟩ := tiok_st (by kernel_rfl) (by kernel_rfl) (by kernel_rfl) (by kernel_rfl) (by kernel_rfl) (fun h => by simp at h)
theorem ti_46 : TIok Try.prog 46 ⟨tLL, [], 48, false⟩ := tiok_sl (by kernel_rfl) (by kernel_rfl) (by kernel_rfl)
theorem ti_47 : TIok Try.prog 47 ⟨tWs, [], 102, false⟩ := tiok_sl (by kernel_rfl) (by kernel_rfl) (by kernel_rfl)
theorem ti_48 : TIok Try.prog 48 ⟨tL, [], 3, false⟩ := tiok_sl (by kernel_rfl) (by kernel_rfl) (by kernel_rfl)
theorem ti_50 : TIok Try.prog 50 ⟨tM, [(0, 1, false), (1, 1, false), (2, 1, false), (3, 1, false)], 0, false⟩ := tiok_st (by kernel_rfl) (by kernel_rfl) (by kernel_rfl) (by kernel_rfl) (by kernel_rfl) (fun h => by simp at h)
theorem ti_70 : TIok Try.prog 70 ⟨tWs, [], 118, false⟩ := tiok_sl (by kernel_rfl) (by kernel_rfl) (by kernel_rfl)
theorem ti_72 : TIok Try.prog 72 ⟨tM, [(0, 1, false), (1, 1, false), (2, 1, false), (3, 1, false)], 0, false⟩ := tiok_st (by kernel_rfl) (by kernel_rfl) (by kernel_rfl) (by kernel_rfl) (by kernel_rfl) (fun h => by simp at h)
theorem ti_75 : TIok Try.prog 75 ⟨tW, [(0, 1, false), (1, 1, false)], 0, false⟩ := tiok_st (by kernel_rfl) (by kernel_rfl) (by kernel_rfl) (by kernel_rfl) (by kernel_rfl) (fun h => by simp at h)
theorem ti_77 : TIok Try.prog 77 ⟨tW, [(0, 1, false), (1, 1, false)], 0, false⟩ := tiok_st (by kernel_rfl) (by kernel_rfl) (by kernel_rfl) (by kernel_rfl) (by kernel_rfl) (fun h => by simp at h)
theorem ti_90 : TIok Try.prog 90 ⟨tS, [(0, 1, false), (1, 1, false), (2, 1, false), (3, 1, false), (4, 1, false), (5, 1, false), (6, 1, false), (7, 1, false)], 0, false⟩ := tiok_st (by kernel_rfl) (by kernel_rfl) (by kernel_rfl) (by kernel_rfl) (by kernel_rfl) (fun h => by simp at h)
theorem ti_102 : TIok Try.prog 102 ⟨tW, [(0, 1, false), (1, 1, false)], 0, false⟩ := tiok_st (by kernel_rfl) (by kernel_rfl) (by kernel_rfl) (by kernel_rfl) (by kernel_rfl) (fun h => by simp at h)
theorem ti_118 : TIok Try.prog 118 ⟨tW, [(0, 1, false), (1, 1, false)], 0, false⟩ := tiok_st (by kernel_rfl) (by kernel_rfl) (by kernel_rfl) (by kernel_rfl) (by kernel_rfl) (fun h => by simp at h)
def TT : List (Nat × TI) := [(3, ⟨tI, [], 0, false⟩), (4, ⟨tB, [], 0, false⟩), (23, ⟨tG, [(0, 1, false), (1, 1, false)], 0, false⟩), (24, ⟨tMs, [], 72, false⟩), (25, ⟨tWs, [], 75, false⟩), (27, ⟨tA, [(0, 1, false), (1, 2, true), (3, 1, false), (4, 1, false), (5, 1, false), (6, 1, false), (7, 1, false), (8, 1, false), (9, 1, false), (10, 1, false), (11, 1, false), (12, 1, false)], 0, false⟩), (29, ⟨tG, [(0, 1, false), (1, 1, false)], 0, false⟩), (30, ⟨tMs, [], 50, false⟩), (31, ⟨tWs, [], 77, false⟩), (33, ⟨tA, [(0, 1, false), (1, 2, true), (3, 1, false), (4, 1, false), (5, 1, false), (6, 1, false), (7, 1, false), (8, 1, false), (9, 1, false), (10, 1, false), (11, 1, false), (12, 1, false)], 0, false⟩), (46, ⟨tLL, [], 48, false⟩), (47, ⟨tWs, [], 102, false⟩), (48, ⟨tL, [], 3, false⟩), (50, ⟨tM, [(0, 1, false), (1, 1, false), (2, 1, false), (3, 1, false)], 0, false⟩), (70, ⟨tWs, [], 118, false⟩), (72, ⟨tM, [(0, 1, false), (1, 1, false), (2, 1, false), (3, 1, false)], 0, false⟩), (75, ⟨tW, [(0, 1, false), (1, 1, false)], 0, false⟩), (77, ⟨tW, [(0, 1, false), (1, 1, false)], 0, false⟩), (90, ⟨tS, [(0, 1, false), (1, 1, false), (2, 1, false), (3, 1, false), (4, 1, false), (5, 1, false), (6, 1, false), (7, 1, false)], 0, false⟩), (102, ⟨tW, [(0, 1, false), (1, 1, false)], 0, false⟩), (118, ⟨tW, [(0, 1, false), (1, 1, false)], 0, false⟩)]
theorem tt_ok : AllT Try.prog TT := ⟨ti_3, ti_4, ti_23, ti_24, ti_25, ti_27, ti_29, ti_30, ti_31, ti_33, ti_46, ti_47, ti_48, ti_50, ti_70, ti_72, ti_75, ti_77, ti_90, ti_102, ti_118, trivial⟩
theorem mixed : Try.prog.follows .mixedOrders = true := by kernel_rfl
end Go.Tf
