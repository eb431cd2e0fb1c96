/- The types of the program. -/
import Derived.Test.YtmamkjioahnecabTf5
import Derived.Test.YtmamkjioahnecabProg
namespace Go.Tf
open Go.Proofs
set_option synthInstance.maxHeartbeats 400000
set_option synthInstance.maxSize 10000
set_option linter.unusedVariables false
set_option linter.unusedSimpArgs false
set_option maxRecDepth 100000
theorem ti_3 : TIok Try.prog 3 ⟨tI, [], 0, false⟩ := tiok_int (by kernel_rfl) (by kernel_rfl)
theorem ti_4 : TIok Try.prog 4 ⟨tB, [], 0, false⟩ := tiok_bool (by kernel_rfl) (by kernel_rfl)
theorem ti_23 : TIok Try.prog 23 ⟨tG, [(0, 1, false), (1, 1, false)], 0, false⟩ := tiok_st (by kernel_rfl) (by kernel_rfl) (by kernel_rfl) (by kernel_rfl) (by kernel_rfl) (fun h => by simp at h)
theorem ti_24 : TIok Try.prog 24 ⟨tMs, [], 78, false⟩ := tiok_sl (by kernel_rfl) (by kernel_rfl) (by kernel_rfl)
theorem ti_25 : TIok Try.prog 25 ⟨tWs, [], 81, false⟩ := tiok_sl (by kernel_rfl) (by kernel_rfl) (by kernel_rfl)
theorem ti_27 : TIok Try.prog 27 ⟨tA, [(0, 1, false), (1, 2, true), (3, 1, false), (4, 1, false), (5, 1, false), (6, 1, false), (7, 1, false), (8, 1, false), (9, 1, false), (10, 1, false), (11, 1, false), (12, 1, false)], 0, false⟩ := tiok_st (by kernel_rfl) (by kernel_rfl) (by kernel_rfl) (by kernel_rfl) (by kernel_rfl) (fun h => by simp at h)
theorem ti_31 : TIok Try.prog 31 ⟨tG, [(0, 1, false), (1, 1, false)], 0, false⟩ := tiok_st (by kernel_rfl) (by kernel_rfl) (by kernel_rfl) (by kernel_rfl) (by kernel_rfl) (fun h => by simp at h)
theorem ti_32 : TIok Try.prog 32 ⟨tMs, [], 62, false⟩ := tiok_sl (by kernel_rfl) (by kernel_rfl) (by kernel_rfl)
theorem ti_33 : TIok Try.prog 33 ⟨tWs, [], 82, false⟩ := tiok_sl (by kernel_rfl) (by kernel_rfl) (by kernel_rfl)
theorem ti_35 : TIok Try.prog 35 ⟨tA, [(0, 1, false), (1, 2, true), (3, 1, false), (4, 1, false), (5, 1, false), (6, 1, false), (7, 1, false), (8, 1, false), (9, 1, false), (10, 1, false), (11, 1, false), (12, 1, false)], 0, false⟩ := tiok_st (by kernel_rfl) (by kernel_rfl) (by kernel_rfl) (by kernel_rfl) (by kernel_rfl) (fun h => by simp at h)
theorem ti_46 : TIok Try.prog 46 ⟨tL, [], 3, false⟩ := tiok_sl (by kernel_rfl) (by kernel_rfl) (by kernel_rfl)
theorem ti_59 : TIok Try.prog 59 ⟨tLL, [], 46, false⟩ := tiok_sl (by kernel_rfl) (by kernel_rfl) (by kernel_rfl)
theorem ti_60 : TIok Try.prog 60 ⟨tWs, [], 112, false⟩ := tiok_sl (by kernel_rfl) (by kernel_rfl) (by kernel_rfl)
theorem ti_62 : TIok Try.prog 62 ⟨tM, [(0, 1, false), (1, 1, false), (2, 1, false), (3, 1, false)], 0, false⟩ := tiok_st (by kernel_rfl) (by kernel_rfl) (by kernel_rfl) (by kernel_rfl) (by kernel_rfl) (fun h => by simp at h)
theorem ti_76 : TIok Try.prog 76 ⟨tWs, [], 121, false⟩ := tiok_sl (by kernel_rfl) (by kernel_rfl) (by kernel_rfl)
theorem ti_78 : TIok Try.prog 78 ⟨tM, [(0, 1, false), (1, 1, false), (2, 1, false), (3, 1, false)], 0, false⟩ := tiok_st (by kernel_rfl) (by kernel_rfl) (by kernel_rfl) (by kernel_rfl) (by kernel_rfl) (fun h => by simp at h)
theorem ti_81 : TIok Try.prog 81 ⟨tW, [(0, 1, false), (1, 1, false)], 0, false⟩ := tiok_st (by kernel_rfl) (by kernel_rfl) (by kernel_rfl) (by kernel_rfl) (by kernel_rfl) (fun h => by simp at h)
theorem ti_82 : TIok Try.prog 82 ⟨tW, [(0, 1, false), (1, 1, false)], 0, false⟩ := tiok_st (by kernel_rfl) (by kernel_rfl) (by kernel_rfl) (by kernel_rfl) (by kernel_rfl) (fun h => by simp at h)
theorem ti_97 : TIok Try.prog 97 ⟨tS, [(0, 1, false), (1, 1, false), (2, 1, false), (3, 1, false), (4, 1, false), (5, 1, false), (6, 1, false), (7, 1, false)], 0, false⟩ := tiok_st (by kernel_rfl) (by kernel_rfl) (by kernel_rfl) (by kernel_rfl) (by kernel_rfl) (fun h => by simp at h)
theorem ti_112 : TIok Try.prog 112 ⟨tW, [(0, 1, false), (1, 1, false)], 0, false⟩ := tiok_st (by kernel_rfl) (by kernel_rfl) (by kernel_rfl) (by kernel_rfl) (by kernel_rfl) (fun h => by simp at h)
theorem ti_121 : TIok Try.prog 121 ⟨tW, [(0, 1, false), (1, 1, false)], 0, false⟩ := tiok_st (by kernel_rfl) (by kernel_rfl) (by kernel_rfl) (by kernel_rfl) (by kernel_rfl) (fun h => by simp at h)
def TT : List (Nat × TI) := [(3, ⟨tI, [], 0, false⟩), (4, ⟨tB, [], 0, false⟩), (23, ⟨tG, [(0, 1, false), (1, 1, false)], 0, false⟩), (24, ⟨tMs, [], 78, false⟩), (25, ⟨tWs, [], 81, false⟩), (27, ⟨tA, [(0, 1, false), (1, 2, true), (3, 1, false), (4, 1, false), (5, 1, false), (6, 1, false), (7, 1, false), (8, 1, false), (9, 1, false), (10, 1, false), (11, 1, false), (12, 1, false)], 0, false⟩), (31, ⟨tG, [(0, 1, false), (1, 1, false)], 0, false⟩), (32, ⟨tMs, [], 62, false⟩), (33, ⟨tWs, [], 82, false⟩), (35, ⟨tA, [(0, 1, false), (1, 2, true), (3, 1, false), (4, 1, false), (5, 1, false), (6, 1, false), (7, 1, false), (8, 1, false), (9, 1, false), (10, 1, false), (11, 1, false), (12, 1, false)], 0, false⟩), (46, ⟨tL, [], 3, false⟩), (59, ⟨tLL, [], 46, false⟩), (60, ⟨tWs, [], 112, false⟩), (62, ⟨tM, [(0, 1, false), (1, 1, false), (2, 1, false), (3, 1, false)], 0, false⟩), (76, ⟨tWs, [], 121, false⟩), (78, ⟨tM, [(0, 1, false), (1, 1, false), (2, 1, false), (3, 1, false)], 0, false⟩), (81, ⟨tW, [(0, 1, false), (1, 1, false)], 0, false⟩), (82, ⟨tW, [(0, 1, false), (1, 1, false)], 0, false⟩), (97, ⟨tS, [(0, 1, false), (1, 1, false), (2, 1, false), (3, 1, false), (4, 1, false), (5, 1, false), (6, 1, false), (7, 1, false)], 0, false⟩), (112, ⟨tW, [(0, 1, false), (1, 1, false)], 0, false⟩), (121, ⟨tW, [(0, 1, false), (1, 1, false)], 0, false⟩)]
theorem tt_ok : AllT Try.prog TT := ⟨ti_3, ti_4, ti_23, ti_24, ti_25, ti_27, ti_31, ti_32, ti_33, ti_35, ti_46, ti_59, ti_60, ti_62, ti_76, ti_78, ti_81, ti_82, ti_97, ti_112, ti_121, trivial⟩
theorem mixed : Try.prog.follows .mixedOrders = true := by kernel_rfl
end Go.Tf
