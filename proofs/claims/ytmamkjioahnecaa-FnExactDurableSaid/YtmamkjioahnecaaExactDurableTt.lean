/- The types of the program. -/
import Derived.Test.YtmamkjioahnecaaTf5
import Derived.Test.YtmamkjioahnecaaProg
namespace Go.Tf
open Go.Proofs
set_option synthInstance.maxHeartbeats 400000
set_option synthInstance.maxSize 10000
set_option linter.unusedVariables false
set_option linter.unusedSimpArgs false
set_option maxRecDepth 100000
theorem ti_3 : TIok Try.prog 3 ⟨tI, [], 0, false⟩ := tiok_int (by kernel_rfl) (by kernel_rfl)
theorem ti_4 : TIok Try.prog 4 ⟨tB, [], 0, false⟩ := tiok_bool (by kernel_rfl) (by kernel_rfl)
theorem ti_22 : TIok Try.prog 22 ⟨tMs, [], 94, false⟩ := tiok_sl (by kernel_rfl) (by kernel_rfl) (by kernel_rfl)
theorem ti_23 : TIok Try.prog 23 ⟨tL, [], 3, false⟩ := tiok_sl (by kernel_rfl) (by kernel_rfl) (by kernel_rfl)
theorem ti_25 : TIok Try.prog 25 ⟨tMs, [], 97, false⟩ := tiok_sl (by kernel_rfl) (by kernel_rfl) (by kernel_rfl)
theorem ti_35 : TIok Try.prog 35 ⟨tG, [(0, 1, false), (1, 1, false)], 0, false⟩ := tiok_st (by kernel_rfl) (by kernel_rfl) (by kernel_rfl) (by kernel_rfl) (by kernel_rfl) (fun h => by simp at h)
theorem ti_36 : TIok Try.prog 36 ⟨tWs, [], 148, false⟩ := tiok_sl (by kernel_rfl) (by kernel_rfl) (by kernel_rfl)
theorem ti_38 : TIok Try.prog 38 ⟨tA, [(0, 1, false), (1, 2, true), (3, 1, false), (4, 1, false), (5, 1, false), (6, 1, false), (7, 1, false), (8, 1, false), (9, 1, false), (10, 1, false), (11, 1, false), (12, 1, false)], 0, false⟩ := tiok_st (by kernel_rfl) (by kernel_rfl) (by kernel_rfl) (by kernel_rfl) (by kernel_rfl) (fun h => by simp at h)
theorem ti_41 : TIok Try.prog 41 ⟨tG, [(0, 1, false), (1, 1, false)], 0, false⟩ := tiok_st (by kernel_rfl) (by kernel_rfl) (by kernel_rfl) (by kernel_rfl) (by kernel_rfl) (fun h => by simp at h)
theorem ti_42 : TIok Try.prog 42 ⟨tWs, [], 149, false⟩ := tiok_sl (by kernel_rfl) (by kernel_rfl) (by kernel_rfl)
theorem ti_44 : TIok Try.prog 44 ⟨tA, [(0, 1, false), (1, 2, true), (3, 1, false), (4, 1, false), (5, 1, false), (6, 1, false), (7, 1, false), (8, 1, false), (9, 1, false), (10, 1, false), (11, 1, false), (12, 1, false)], 0, false⟩ := tiok_st (by kernel_rfl) (by kernel_rfl) (by kernel_rfl) (by kernel_rfl) (by kernel_rfl) (fun h => by simp at h)
theorem ti_91 : TIok Try.prog 91 ⟨tLL, [], 23, false⟩ := tiok_sl (by kernel_rfl) (by kernel_rfl) (by kernel_rfl)
theorem ti_92 : TIok Try.prog 92 ⟨tWs, [], 172, false⟩ := tiok_sl (by kernel_rfl) (by kernel_rfl) (by kernel_rfl)
theorem ti_94 : TIok Try.prog 94 ⟨tM, [(0, 1, false), (1, 1, false), (2, 1, false), (3, 1, false)], 0, false⟩ := tiok_st (by kernel_rfl) (by kernel_rfl) (by kernel_rfl) (by kernel_rfl) (by kernel_rfl) (fun h => by simp at h)
theorem ti_95 : TIok Try.prog 95 ⟨tWs, [], 141, false⟩ := tiok_sl (by kernel_rfl) (by kernel_rfl) (by kernel_rfl)
theorem ti_97 : TIok Try.prog 97 ⟨tM, [(0, 1, false), (1, 1, false), (2, 1, false), (3, 1, false)], 0, false⟩ := tiok_st (by kernel_rfl) (by kernel_rfl) (by kernel_rfl) (by kernel_rfl) (by kernel_rfl) (fun h => by simp at h)
theorem ti_141 : TIok Try.prog 141 ⟨tW, [(0, 1, false), (1, 1, false)], 0, false⟩ := tiok_st (by kernel_rfl) (by kernel_rfl) (by kernel_rfl) (by kernel_rfl) (by kernel_rfl) (fun h => by simp at h)
theorem ti_148 : TIok Try.prog 148 ⟨tW, [(0, 1, false), (1, 1, false)], 0, false⟩ := tiok_st (by kernel_rfl) (by kernel_rfl) (by kernel_rfl) (by kernel_rfl) (by kernel_rfl) (fun h => by simp at h)
theorem ti_149 : TIok Try.prog 149 ⟨tW, [(0, 1, false), (1, 1, false)], 0, false⟩ := tiok_st (by kernel_rfl) (by kernel_rfl) (by kernel_rfl) (by kernel_rfl) (by kernel_rfl) (fun h => by simp at h)
theorem ti_172 : TIok Try.prog 172 ⟨tW, [(0, 1, false), (1, 1, false)], 0, false⟩ := tiok_st (by kernel_rfl) (by kernel_rfl) (by kernel_rfl) (by kernel_rfl) (by kernel_rfl) (fun h => by simp at h)
def TT : List (Nat × TI) := [(3, ⟨tI, [], 0, false⟩), (4, ⟨tB, [], 0, false⟩), (22, ⟨tMs, [], 94, false⟩), (23, ⟨tL, [], 3, false⟩), (25, ⟨tMs, [], 97, false⟩), (35, ⟨tG, [(0, 1, false), (1, 1, false)], 0, false⟩), (36, ⟨tWs, [], 148, false⟩), (38, ⟨tA, [(0, 1, false), (1, 2, true), (3, 1, false), (4, 1, false), (5, 1, false), (6, 1, false), (7, 1, false), (8, 1, false), (9, 1, false), (10, 1, false), (11, 1, false), (12, 1, false)], 0, false⟩), (41, ⟨tG, [(0, 1, false), (1, 1, false)], 0, false⟩), (42, ⟨tWs, [], 149, false⟩), (44, ⟨tA, [(0, 1, false), (1, 2, true), (3, 1, false), (4, 1, false), (5, 1, false), (6, 1, false), (7, 1, false), (8, 1, false), (9, 1, false), (10, 1, false), (11, 1, false), (12, 1, false)], 0, false⟩), (91, ⟨tLL, [], 23, false⟩), (92, ⟨tWs, [], 172, false⟩), (94, ⟨tM, [(0, 1, false), (1, 1, false), (2, 1, false), (3, 1, false)], 0, false⟩), (95, ⟨tWs, [], 141, false⟩), (97, ⟨tM, [(0, 1, false), (1, 1, false), (2, 1, false), (3, 1, false)], 0, false⟩), (141, ⟨tW, [(0, 1, false), (1, 1, false)], 0, false⟩), (148, ⟨tW, [(0, 1, false), (1, 1, false)], 0, false⟩), (149, ⟨tW, [(0, 1, false), (1, 1, false)], 0, false⟩), (172, ⟨tW, [(0, 1, false), (1, 1, false)], 0, false⟩)]
theorem tt_ok : AllT Try.prog TT := ⟨ti_3, ti_4, ti_22, ti_23, ti_25, ti_35, ti_36, ti_38, ti_41, ti_42, ti_44, ti_91, ti_92, ti_94, ti_95, ti_97, ti_141, ti_148, ti_149, ti_172, trivial⟩
theorem mixed : Try.prog.follows .mixedOrders = true := by kernel_rfl
end Go.Tf
