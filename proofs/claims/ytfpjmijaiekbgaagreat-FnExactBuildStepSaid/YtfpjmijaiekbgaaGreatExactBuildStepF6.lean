/- Functions of the program, and what they come to. -/
import Derived.Test.YtfpjmijaiekbgaaGreatExactBuildStepF5
namespace Go.Tf
open Go.Proofs
set_option synthInstance.maxHeartbeats 400000
set_option synthInstance.maxSize 10000
set_option linter.unusedVariables false
set_option linter.unusedSimpArgs false
set_option maxRecDepth 100000
/-! spec_l2Copy -/
section
noncomputable def B_spec_l2Copy : Code := (Tryz.f147.body).getD .skip
noncomputable def E_spec_l2Copy : Env := envOf TT [] [(21056, .fz), (21120, .fz), (37952, (.pr .fz .fz)), (38016, (.pr .fz .fz))]
theorem fr_spec_l2Copy_0 : FrOk Tryz.prog ⟨E_spec_l2Copy, 60, fun _ => none⟩ B_spec_l2Copy := frOk_base mixed tt_ok trivial
noncomputable def D_spec_l2Copy_0 : Nat → Option Seg := fun _ => none
def L_spec_l2Copy_29 : Shape := ⟨[(1, false, [.ptr 0 0]), (2, false, [.ptr 64 0]), (3, false, [.ptr 4544 0]), (4, false, [.int .i64])], [(0, [.br tL, .br tW, .bool, .br tI]), (64, [.nil, .nil, .bool, .nil]), (4544, [.at 800000001, .nil, .bool, .at 800000000])], [(800000001, tL, .fz), (800000000, tI, .fz)]⟩
def S_spec_l2Copy_29 : Shape := ⟨[(1, false, [.ptr 0 0]), (2, false, [.ptr 64 0]), (3, false, [.ptr 4544 0]), (4, false, [.ci .i64 0])], [(0, [.br tL, .br tW, .bool, .br tI]), (64, [.nil, .nil, .bool, .nil]), (4544, [.at 800000001, .nil, .bool, .at 800000000])], [(800000001, tL, .fz), (800000000, tI, .fz)]⟩
def O_spec_l2Copy_29 : Shape := ⟨[(1, false, [.ptr 0 0]), (2, false, [.ptr 64 0]), (3, false, [.ptr 4544 0])], [(0, [.br tL, .br tW, .bool, .br tI]), (64, [.nil, .nil, .bool, .nil]), (4544, [.at 800000000, .nil, .bool, .at 800000001])], [(800000000, tL, .fz), (800000001, tI, .fz)]⟩
def Z_spec_l2Copy_29 : Shape := ⟨[], [], []⟩
abbrev mk_spec_l2Copy_29 (v0 : Int) (v1 : dM) (v2 : dM) (v3 : dM) : (L_spec_l2Copy_29).X := ((((), ()), ((), ()), ((), ()), (v0, ()), ()), ((v1.1, v1.2.1, v1.2.2.1, v1.2.2.2, ()), ((), (), v2.2.2.1, (), ()), ((), (), v3.2.2.1, (), ()), ()), (v3.1, v3.2.2.2, ()))
abbrev ms_spec_l2Copy_29 (v0 : dM) (v1 : dM) (v2 : dM) : (S_spec_l2Copy_29).X := ((((), ()), ((), ()), ((), ()), ((), ()), ()), ((v0.1, v0.2.1, v0.2.2.1, v0.2.2.2, ()), ((), (), v1.2.2.1, (), ()), ((), (), v2.2.2.1, (), ()), ()), (v2.1, v2.2.2.2, ()))
abbrev mo_spec_l2Copy_29 (v0 : dM) (v1 : dM) (v2 : dM) : (O_spec_l2Copy_29).X := ((((), ()), ((), ()), ((), ()), ()), ((v0.1, v0.2.1, v0.2.2.1, v0.2.2.2, ()), ((), (), v1.2.2.1, (), ()), ((), (), v2.2.2.1, (), ()), ()), (v2.1, v2.2.2.2, ()))
noncomputable def st_spec_l2Copy_29 (v0 : Int) (v1 : List (List Int)) (v2 : List dW) (v3 : Bool) (v4 : List Int) (v5 : Bool) (v6 : Bool) (v7 : List (List Int)) (v8 : List Int) : Option ((L_spec_l2Copy_29).X ⊕ ((O_spec_l2Copy_29).X ⊕ (Z_spec_l2Copy_29).X)) :=
  bif (ltb v0 (v1.length : Int)) then
    bif (inb v0 v1.length) then
      bif (apok ([] : List Int).length (nth v1 v0 []).length 8) then
        bif (apok v7.length ([(([] : List Int) ++ (nth v1 v0 []))] : List (List Int)).length 24) then
          some (.inl ((((), ()), ((), ()), ((), ()), ((IntKind.i64.wrap (v0 + 1)), ()), ()), ((v1, v2, v3, v4, ()), ((), (), v5, (), ()), ((), (), v6, (), ()), ()), ((v7 ++ ([(([] : List Int) ++ (nth v1 v0 []))] : List (List Int))), v8, ())))
        else none
      else none
    else none
  else
    some (.inr (.inl ((((), ()), ((), ()), ((), ()), ()), ((v1, v2, v3, v4, ()), ((), (), v5, (), ()), ((), (), v6, (), ()), ()), (v7, v8, ()))))
noncomputable def stx_spec_l2Copy_29 (x : (L_spec_l2Copy_29).X) := st_spec_l2Copy_29 x.1.2.2.2.1.1 x.2.1.1.1 x.2.1.1.2.1 x.2.1.1.2.2.1 x.2.1.1.2.2.2.1 x.2.1.2.1.2.2.1 x.2.1.2.2.1.2.2.1 x.2.2.1 x.2.2.2.1
def em_spec_l2Copy_29 (x : (S_spec_l2Copy_29).X) : (L_spec_l2Copy_29).X := ((((), ()), ((), ()), ((), ()), (0, ()), ()), ((x.2.1.1.1, x.2.1.1.2.1, x.2.1.1.2.2.1, x.2.1.1.2.2.2.1, ()), ((), (), x.2.1.2.1.2.2.1, (), ()), ((), (), x.2.1.2.2.1.2.2.1, (), ()), ()), (x.2.2.1, x.2.2.2.1, ()))
noncomputable def c_spec_l2Copy_29 : Code := (subN B_spec_l2Copy 64 116).getD .skip
theorem a_spec_l2Copy_29 : subN B_spec_l2Copy 64 29 = some (.block 0 (.loop c_spec_l2Copy_29)) := by kernel_rfl
theorem r_spec_l2Copy_29 (x : (L_spec_l2Copy_29).X) : roundT ⟨E_spec_l2Copy, 60, D_spec_l2Copy_0⟩ 0 c_spec_l2Copy_29 116 L_spec_l2Copy_29 O_spec_l2Copy_29 Z_spec_l2Copy_29 x = stx_spec_l2Copy_29 x := by kernel_rfl
noncomputable def fu_spec_l2Copy_29 (x : (S_spec_l2Copy_29).X) : Nat := (fun (u0 : List (List Int)) (u1 : List dW) (u2 : Bool) (u3 : List Int) (u4 : Bool) (u5 : Bool) (u6 : List (List Int)) (u7 : List Int) => 18446744073709551616) x.2.1.1.1 x.2.1.1.2.1 x.2.1.1.2.2.1 x.2.1.1.2.2.2.1 x.2.1.2.1.2.2.1 x.2.1.2.2.1.2.2.1 x.2.2.1 x.2.2.2.1
noncomputable def F_spec_l2Copy_29 (x : (S_spec_l2Copy_29).X) : Option ((O_spec_l2Copy_29).X ⊕ (Z_spec_l2Copy_29).X) := loopN stx_spec_l2Copy_29 (fu_spec_l2Copy_29 x) (em_spec_l2Copy_29 x)
noncomputable def sg_spec_l2Copy_29 : Seg := ⟨S_spec_l2Copy_29, O_spec_l2Copy_29, Z_spec_l2Copy_29, F_spec_l2Copy_29⟩
noncomputable def D_spec_l2Copy_1 : Nat → Option Seg := fun q => bif Nat.beq q 29 then some sg_spec_l2Copy_29 else D_spec_l2Copy_0 q
theorem fr_spec_l2Copy_1 : FrOk Tryz.prog ⟨E_spec_l2Copy, 60, D_spec_l2Copy_1⟩ B_spec_l2Copy := (fr_spec_l2Copy_0).loop (sg := sg_spec_l2Copy_29) L_spec_l2Copy_29 em_spec_l2Copy_29 (by decide) a_spec_l2Copy_29 stx_spec_l2Copy_29 fu_spec_l2Copy_29 (by decide) (fun _ => rfl) (fun x r _ h => h) r_spec_l2Copy_29
def L_spec_l2Copy_61 : Shape := ⟨[(1, false, [.ptr 0 0]), (2, false, [.ptr 64 0]), (3, false, [.ptr 4544 0]), (5, false, [.int .i64])], [(0, [.br tL, .br tW, .bool, .br tI]), (64, [.nil, .nil, .bool, .nil]), (4544, [.at 800000000, .at 800000002, .bool, .at 800000001])], [(800000000, tL, .fz), (800000002, tW, (.pr .fz .fz)), (800000001, tI, .fz)]⟩
def S_spec_l2Copy_61 : Shape := ⟨[(1, false, [.ptr 0 0]), (2, false, [.ptr 64 0]), (3, false, [.ptr 4544 0]), (5, false, [.ci .i64 0])], [(0, [.br tL, .br tW, .bool, .br tI]), (64, [.nil, .nil, .bool, .nil]), (4544, [.at 800000000, .at 800000002, .bool, .at 800000001])], [(800000000, tL, .fz), (800000002, tW, (.pr .fz .fz)), (800000001, tI, .fz)]⟩
def O_spec_l2Copy_61 : Shape := ⟨[(2, false, [.ptr 64 0]), (3, false, [.ptr 4544 0])], [(64, [.nil, .nil, .bool, .nil]), (4544, [.at 800000000, .at 800000001, .bool, .at 800000002])], [(800000000, tL, .fz), (800000001, tW, (.pr .fz .fz)), (800000002, tI, .fz)]⟩
def Z_spec_l2Copy_61 : Shape := ⟨[], [], []⟩
abbrev mk_spec_l2Copy_61 (v0 : Int) (v1 : dM) (v2 : dM) (v3 : dM) : (L_spec_l2Copy_61).X := ((((), ()), ((), ()), ((), ()), (v0, ()), ()), ((v1.1, v1.2.1, v1.2.2.1, v1.2.2.2, ()), ((), (), v2.2.2.1, (), ()), ((), (), v3.2.2.1, (), ()), ()), (v3.1, v3.2.1, v3.2.2.2, ()))
abbrev ms_spec_l2Copy_61 (v0 : dM) (v1 : dM) (v2 : dM) : (S_spec_l2Copy_61).X := ((((), ()), ((), ()), ((), ()), ((), ()), ()), ((v0.1, v0.2.1, v0.2.2.1, v0.2.2.2, ()), ((), (), v1.2.2.1, (), ()), ((), (), v2.2.2.1, (), ()), ()), (v2.1, v2.2.1, v2.2.2.2, ()))
abbrev mo_spec_l2Copy_61 (v0 : dM) (v1 : dM) : (O_spec_l2Copy_61).X := ((((), ()), ((), ()), ()), (((), (), v0.2.2.1, (), ()), ((), (), v1.2.2.1, (), ()), ()), (v1.1, v1.2.1, v1.2.2.2, ()))
noncomputable def st_spec_l2Copy_61 (v0 : Int) (v1 : List (List Int)) (v2 : List dW) (v3 : Bool) (v4 : List Int) (v5 : Bool) (v6 : Bool) (v7 : List (List Int)) (v8 : List dW) (v9 : List Int) : Option ((L_spec_l2Copy_61).X ⊕ ((O_spec_l2Copy_61).X ⊕ (Z_spec_l2Copy_61).X)) :=
  bif (ltb v0 (v2.length : Int)) then
    bif (inb v0 v2.length) then
      bif (inb v0 v2.length) then
        bif (apok ([] : List Int).length ((nth v2 v0 (0, [])).2).length 8) then
          bif (apok v8.length ([((nth v2 v0 (0, [])).1, (([] : List Int) ++ ((nth v2 v0 (0, [])).2)))] : List dW).length 32) then
            some (.inl ((((), ()), ((), ()), ((), ()), ((IntKind.i64.wrap (v0 + 1)), ()), ()), ((v1, v2, v3, v4, ()), ((), (), v5, (), ()), ((), (), v6, (), ()), ()), (v7, (v8 ++ ([((nth v2 v0 (0, [])).1, (([] : List Int) ++ ((nth v2 v0 (0, [])).2)))] : List dW)), v9, ())))
          else none
        else none
      else none
    else none
  else
    some (.inr (.inl ((((), ()), ((), ()), ()), (((), (), v5, (), ()), ((), (), v6, (), ()), ()), (v7, v8, v9, ()))))
noncomputable def stx_spec_l2Copy_61 (x : (L_spec_l2Copy_61).X) := st_spec_l2Copy_61 x.1.2.2.2.1.1 x.2.1.1.1 x.2.1.1.2.1 x.2.1.1.2.2.1 x.2.1.1.2.2.2.1 x.2.1.2.1.2.2.1 x.2.1.2.2.1.2.2.1 x.2.2.1 x.2.2.2.1 x.2.2.2.2.1
def em_spec_l2Copy_61 (x : (S_spec_l2Copy_61).X) : (L_spec_l2Copy_61).X := ((((), ()), ((), ()), ((), ()), (0, ()), ()), ((x.2.1.1.1, x.2.1.1.2.1, x.2.1.1.2.2.1, x.2.1.1.2.2.2.1, ()), ((), (), x.2.1.2.1.2.2.1, (), ()), ((), (), x.2.1.2.2.1.2.2.1, (), ()), ()), (x.2.2.1, x.2.2.2.1, x.2.2.2.2.1, ()))
noncomputable def c_spec_l2Copy_61 : Code := (subN B_spec_l2Copy 64 244).getD .skip
theorem a_spec_l2Copy_61 : subN B_spec_l2Copy 64 61 = some (.block 2 (.loop c_spec_l2Copy_61)) := by kernel_rfl
theorem r_spec_l2Copy_61 (x : (L_spec_l2Copy_61).X) : roundT ⟨E_spec_l2Copy, 60, D_spec_l2Copy_1⟩ 2 c_spec_l2Copy_61 244 L_spec_l2Copy_61 O_spec_l2Copy_61 Z_spec_l2Copy_61 x = stx_spec_l2Copy_61 x := by kernel_rfl
noncomputable def fu_spec_l2Copy_61 (x : (S_spec_l2Copy_61).X) : Nat := (fun (u0 : List (List Int)) (u1 : List dW) (u2 : Bool) (u3 : List Int) (u4 : Bool) (u5 : Bool) (u6 : List (List Int)) (u7 : List dW) (u8 : List Int) => 18446744073709551616) x.2.1.1.1 x.2.1.1.2.1 x.2.1.1.2.2.1 x.2.1.1.2.2.2.1 x.2.1.2.1.2.2.1 x.2.1.2.2.1.2.2.1 x.2.2.1 x.2.2.2.1 x.2.2.2.2.1
noncomputable def F_spec_l2Copy_61 (x : (S_spec_l2Copy_61).X) : Option ((O_spec_l2Copy_61).X ⊕ (Z_spec_l2Copy_61).X) := loopN stx_spec_l2Copy_61 (fu_spec_l2Copy_61 x) (em_spec_l2Copy_61 x)
noncomputable def sg_spec_l2Copy_61 : Seg := ⟨S_spec_l2Copy_61, O_spec_l2Copy_61, Z_spec_l2Copy_61, F_spec_l2Copy_61⟩
noncomputable def D_spec_l2Copy_2 : Nat → Option Seg := fun q => bif Nat.beq q 61 then some sg_spec_l2Copy_61 else D_spec_l2Copy_1 q
theorem fr_spec_l2Copy_2 : FrOk Tryz.prog ⟨E_spec_l2Copy, 60, D_spec_l2Copy_2⟩ B_spec_l2Copy := (fr_spec_l2Copy_1).loop (sg := sg_spec_l2Copy_61) L_spec_l2Copy_61 em_spec_l2Copy_61 (by decide) a_spec_l2Copy_61 stx_spec_l2Copy_61 fu_spec_l2Copy_61 (by decide) (fun _ => rfl) (fun x r _ h => h) r_spec_l2Copy_61
abbrev I_spec_l2Copy : List Par := [.rd tM]
abbrev U_spec_l2Copy : List OT := [⟨false, tM, (.pr (.ow .fz) (.pr (.ow (.pr .fz .fz)) (.pr .fz (.ow .fz))))⟩]
noncomputable def raw_spec_l2Copy (a0 : dM) : Option (ResD U_spec_l2Copy × MutD I_spec_l2Copy) :=
  bif (apok ([] : List Int).length a0.2.2.2.length 8) then
    segM (F_spec_l2Copy_29 ((((), ()), ((), ()), ((), ()), ((), ()), ()), ((a0.1, a0.2.1, a0.2.2.1, a0.2.2.2, ()), ((), (), false, (), ()), ((), (), a0.2.2.1, (), ()), ()), ([], (([] : List Int) ++ a0.2.2.2), ()))) (fun y0 =>
      segM (F_spec_l2Copy_61 ((((), ()), ((), ()), ((), ()), ((), ()), ()), ((y0.2.1.1.1, y0.2.1.1.2.1, y0.2.1.1.2.2.1, y0.2.1.1.2.2.2.1, ()), ((), (), y0.2.1.2.1.2.2.1, (), ()), ((), (), y0.2.1.2.2.1.2.2.1, (), ()), ()), (y0.2.2.1, [], y0.2.2.2.1, ()))) (fun y1 =>
        some (((y1.2.2.1, y1.2.2.2.1, y1.2.1.2.1.2.2.1, y1.2.2.2.2.1), ()), ())) (fun y1 =>
        none)) (fun y0 =>
      none)
  else none
theorem e_spec_l2Copy (x : InD I_spec_l2Copy) : execF ⟨E_spec_l2Copy, 60, D_spec_l2Copy_2⟩ Tryz.f147.results.toList B_spec_l2Copy I_spec_l2Copy U_spec_l2Copy x = raw_spec_l2Copy x.1 := by kernel_rfl
theorem ok0_spec_l2Copy : ConOk Tryz.prog 147 ⟨I_spec_l2Copy, U_spec_l2Copy, fun x => raw_spec_l2Copy x.1⟩ := conOk_exec (fr_spec_l2Copy_2) Tryz.func147 (by kernel_rfl) (by kernel_rfl) Tryz.ntmps147.symm (by decide) (fun x r h => (e_spec_l2Copy x).trans h)
noncomputable def n_spec_l2Copy (a0 : dM) : dM := a0
theorem nn_spec_l2Copy (a0 : dM) (hk : InOk I_spec_l2Copy (a0, ())) : raw_spec_l2Copy a0 = (fun n => some ((n, ()), ())) (n_spec_l2Copy a0) := by
  have hb1 : a0.1.length * 24 ≤ 2 ^ 47 := hk.1.1.1
  have hb2 : a0.2.1.length * 32 ≤ 2 ^ 47 := hk.1.2.1.1
  have hb3 : a0.2.2.2.length * 8 ≤ 2 ^ 47 := hk.1.2.2.2.1
  have hs : ∀ i, i < a0.1.length → (a0.1.getD i []).length * 8 ≤ 2 ^ 47 := fun i hi => by rw [getD_get hi]; exact (hk.1.1.2 _ (List.getElem_mem hi)).1
  have hc : ∀ i, i < a0.2.1.length → (a0.2.1.getD i (0, [])).2.length * 8 ≤ 2 ^ 47 := fun i hi => by rw [getD_get hi]; exact (hk.1.2.1.2 _ (List.getElem_mem hi)).2.1
  have h1 : F_spec_l2Copy_29 (ms_spec_l2Copy_29 a0 noMem ([], [], a0.2.2.1, a0.2.2.2)) = some (.inl (mo_spec_l2Copy_29 a0 noMem (a0.1, [], a0.2.2.1, a0.2.2.2))) := by
    have := loopN_fold (step := stx_spec_l2Copy_29) a0.1 [] (fun i s => mk_spec_l2Copy_29 i a0 noMem (s, [], a0.2.2.1, a0.2.2.2)) (fun s x => s ++ [x]) (fun i s => s.length = i) (fun s => .inl (mo_spec_l2Copy_29 a0 noMem (s, [], a0.2.2.1, a0.2.2.2))) (fun i s hi hs2 => ⟨by
      have := hs i hi
      simp only [stx_spec_l2Copy_29, mk_spec_l2Copy_29, st_spec_l2Copy_29, ltb_t (show (i : Int) < a0.1.length by omega), cond_true, wr (show -9223372036854775808 ≤ (i : Int) + 1 by omega) (by omega), Int.natCast_add, Int.natCast_one, Int.toNat_natCast, inb_nat hi, nth_nat, List.nil_append]
      rw [apok_iff.2 (show (([] : List Int).length + (a0.1.getD i []).length) * 8 ≤ 140737488355328 by rw [List.length_nil]; omega), apok_iff.2 (show (s.length + [a0.1.getD i []].length) * 24 ≤ 140737488355328 by simp only [List.length_cons, List.length_nil]; omega)]; rfl, by simp [hs2]⟩) (fun s _ => by simp only [stx_spec_l2Copy_29, mk_spec_l2Copy_29, st_spec_l2Copy_29, ltb_f (Int.le_refl _), cond_false]) [] rfl 18446744073709551616 (by omega)
    rw [foldl_id] at this
    exact this
  have h2 : F_spec_l2Copy_61 (ms_spec_l2Copy_61 a0 noMem (a0.1, [], a0.2.2.1, a0.2.2.2)) = some (.inl (mo_spec_l2Copy_61 noMem a0)) := by
    have := loopN_fold (step := stx_spec_l2Copy_61) a0.2.1 (0, []) (fun i s => mk_spec_l2Copy_61 i a0 noMem (a0.1, s, a0.2.2.1, a0.2.2.2)) (fun s x => s ++ [x]) (fun i s => s.length = i) (fun s => .inl (mo_spec_l2Copy_61 noMem (a0.1, s, a0.2.2.1, a0.2.2.2))) (fun i s hi hs2 => ⟨by
      have := hc i hi
      simp only [stx_spec_l2Copy_61, mk_spec_l2Copy_61, st_spec_l2Copy_61, ltb_t (show (i : Int) < a0.2.1.length by omega), cond_true, wr (show -9223372036854775808 ≤ (i : Int) + 1 by omega) (by omega), Int.natCast_add, Int.natCast_one, Int.toNat_natCast, inb_nat hi, nth_nat, List.nil_append, pr_eta]
      rw [apok_iff.2 (show (([] : List Int).length + (a0.2.1.getD i (0, [])).2.length) * 8 ≤ 140737488355328 by rw [List.length_nil]; omega), apok_iff.2 (show (s.length + [a0.2.1.getD i (0, [])].length) * 32 ≤ 140737488355328 by simp only [List.length_cons, List.length_nil]; omega)]; rfl, by simp [hs2]⟩) (fun s _ => by simp only [stx_spec_l2Copy_61, mk_spec_l2Copy_61, st_spec_l2Copy_61, ltb_f (Int.le_refl _), cond_false]) [] rfl 18446744073709551616 (by omega)
    rw [foldl_id] at this
    exact this
  unfold raw_spec_l2Copy n_spec_l2Copy
  rw [apok_iff.2 (show (([] : List Int).length + a0.2.2.2.length) * 8 ≤ 140737488355328 by rw [List.length_nil]; omega)]
  simp only [cond_true, List.nil_append, h1, segM_inl, h2]
noncomputable def con_spec_l2Copy : Con := ⟨I_spec_l2Copy, U_spec_l2Copy, fun x => (fun n => some ((n, ()), ())) (n_spec_l2Copy x.1)⟩
theorem ok_spec_l2Copy : ConOk Tryz.prog 147 con_spec_l2Copy := (ok0_spec_l2Copy).mono (fun x r hk h => (nn_spec_l2Copy x.1 hk).trans h)
end

/-! spec_l6Copy -/
section
noncomputable def B_spec_l6Copy : Code := (Tryz.f73.body).getD .skip
noncomputable def E_spec_l6Copy : Env := envOf TT [(147, con_spec_l2Copy)] [(8192, (.pr (.ow .fz) (.pr (.ow (.pr .fz .fz)) (.pr .fz (.ow .fz))))), (25088, (.pr (.ow .fz) (.pr (.ow (.pr .fz .fz)) (.pr .fz (.ow .fz))))), (28672, (.pr .fz .fz)), (46144, (.pr .fz .fz))]
theorem fr_spec_l6Copy_0 : FrOk Tryz.prog ⟨E_spec_l6Copy, 57, fun _ => none⟩ B_spec_l6Copy := frOk_base mixed tt_ok ⟨ok_spec_l2Copy, trivial⟩
noncomputable def D_spec_l6Copy_0 : Nat → Option Seg := fun _ => none
def L_spec_l6Copy_61 : Shape := ⟨[(1, false, [.ptr 0 0]), (2, false, [.ptr 64 0]), (3, false, [.ptr 4160 0]), (4, false, [.int .i64])], [(0, [.int .i64, .int .i64, .int .i64, .br tM, .int .i64, .int .i64, .int .i64, .int .i64, .int .i64, .br tW, .int .i64, .bool, .bool]), (64, [.int .i64, .int .i64, .int .i64, .nil, .int .i64, .int .i64, .int .i64, .int .i64, .int .i64, .nil, .int .i64, .bool, .bool]), (4160, [.int .i64, .int .i64, .int .i64, .at 800000000, .int .i64, .int .i64, .int .i64, .int .i64, .int .i64, .br tW, .int .i64, .bool, .bool])], [(800000000, tM, (.pr (.ow .fz) (.pr (.ow (.pr .fz .fz)) (.pr .fz (.ow .fz)))))]⟩
def S_spec_l6Copy_61 : Shape := ⟨[(1, false, [.ptr 0 0]), (2, false, [.ptr 64 0]), (3, false, [.ptr 4160 0]), (4, false, [.ci .i64 0])], [(0, [.int .i64, .int .i64, .int .i64, .br tM, .int .i64, .int .i64, .int .i64, .int .i64, .int .i64, .br tW, .int .i64, .bool, .bool]), (64, [.int .i64, .int .i64, .int .i64, .nil, .int .i64, .int .i64, .int .i64, .int .i64, .int .i64, .nil, .int .i64, .bool, .bool]), (4160, [.int .i64, .int .i64, .int .i64, .at 800000000, .int .i64, .int .i64, .int .i64, .int .i64, .int .i64, .br tW, .int .i64, .bool, .bool])], [(800000000, tM, (.pr (.ow .fz) (.pr (.ow (.pr .fz .fz)) (.pr .fz (.ow .fz)))))]⟩
def O_spec_l6Copy_61 : Shape := ⟨[(1, false, [.ptr 0 0]), (2, false, [.ptr 64 0]), (3, false, [.ptr 4160 0])], [(0, [.int .i64, .int .i64, .int .i64, .br tM, .int .i64, .int .i64, .int .i64, .int .i64, .int .i64, .br tW, .int .i64, .bool, .bool]), (64, [.int .i64, .int .i64, .int .i64, .nil, .int .i64, .int .i64, .int .i64, .int .i64, .int .i64, .nil, .int .i64, .bool, .bool]), (4160, [.int .i64, .int .i64, .int .i64, .at 800000000, .int .i64, .int .i64, .int .i64, .int .i64, .int .i64, .br tW, .int .i64, .bool, .bool])], [(800000000, tM, (.pr (.ow .fz) (.pr (.ow (.pr .fz .fz)) (.pr .fz (.ow .fz)))))]⟩
def Z_spec_l6Copy_61 : Shape := ⟨[], [], []⟩
abbrev mk_spec_l6Copy_61 (v0 : Int) (v1 : dA) (v2 : dA) (v3 : dA) : (L_spec_l6Copy_61).X := ((((), ()), ((), ()), ((), ()), (v0, ()), ()), ((v1.1, v1.2.1.1, v1.2.1.2, v1.2.2.1, v1.2.2.2.1, v1.2.2.2.2.1, v1.2.2.2.2.2.1, v1.2.2.2.2.2.2.1, v1.2.2.2.2.2.2.2.1, v1.2.2.2.2.2.2.2.2.1, v1.2.2.2.2.2.2.2.2.2.1, v1.2.2.2.2.2.2.2.2.2.2.1, v1.2.2.2.2.2.2.2.2.2.2.2, ()), (v2.1, v2.2.1.1, v2.2.1.2, (), v2.2.2.2.1, v2.2.2.2.2.1, v2.2.2.2.2.2.1, v2.2.2.2.2.2.2.1, v2.2.2.2.2.2.2.2.1, (), v2.2.2.2.2.2.2.2.2.2.1, v2.2.2.2.2.2.2.2.2.2.2.1, v2.2.2.2.2.2.2.2.2.2.2.2, ()), (v3.1, v3.2.1.1, v3.2.1.2, (), v3.2.2.2.1, v3.2.2.2.2.1, v3.2.2.2.2.2.1, v3.2.2.2.2.2.2.1, v3.2.2.2.2.2.2.2.1, v3.2.2.2.2.2.2.2.2.1, v3.2.2.2.2.2.2.2.2.2.1, v3.2.2.2.2.2.2.2.2.2.2.1, v3.2.2.2.2.2.2.2.2.2.2.2, ()), ()), (v3.2.2.1, ()))
abbrev ms_spec_l6Copy_61 (v0 : dA) (v1 : dA) (v2 : dA) : (S_spec_l6Copy_61).X := ((((), ()), ((), ()), ((), ()), ((), ()), ()), ((v0.1, v0.2.1.1, v0.2.1.2, v0.2.2.1, v0.2.2.2.1, v0.2.2.2.2.1, v0.2.2.2.2.2.1, v0.2.2.2.2.2.2.1, v0.2.2.2.2.2.2.2.1, v0.2.2.2.2.2.2.2.2.1, v0.2.2.2.2.2.2.2.2.2.1, v0.2.2.2.2.2.2.2.2.2.2.1, v0.2.2.2.2.2.2.2.2.2.2.2, ()), (v1.1, v1.2.1.1, v1.2.1.2, (), v1.2.2.2.1, v1.2.2.2.2.1, v1.2.2.2.2.2.1, v1.2.2.2.2.2.2.1, v1.2.2.2.2.2.2.2.1, (), v1.2.2.2.2.2.2.2.2.2.1, v1.2.2.2.2.2.2.2.2.2.2.1, v1.2.2.2.2.2.2.2.2.2.2.2, ()), (v2.1, v2.2.1.1, v2.2.1.2, (), v2.2.2.2.1, v2.2.2.2.2.1, v2.2.2.2.2.2.1, v2.2.2.2.2.2.2.1, v2.2.2.2.2.2.2.2.1, v2.2.2.2.2.2.2.2.2.1, v2.2.2.2.2.2.2.2.2.2.1, v2.2.2.2.2.2.2.2.2.2.2.1, v2.2.2.2.2.2.2.2.2.2.2.2, ()), ()), (v2.2.2.1, ()))
abbrev mo_spec_l6Copy_61 (v0 : dA) (v1 : dA) (v2 : dA) : (O_spec_l6Copy_61).X := ((((), ()), ((), ()), ((), ()), ()), ((v0.1, v0.2.1.1, v0.2.1.2, v0.2.2.1, v0.2.2.2.1, v0.2.2.2.2.1, v0.2.2.2.2.2.1, v0.2.2.2.2.2.2.1, v0.2.2.2.2.2.2.2.1, v0.2.2.2.2.2.2.2.2.1, v0.2.2.2.2.2.2.2.2.2.1, v0.2.2.2.2.2.2.2.2.2.2.1, v0.2.2.2.2.2.2.2.2.2.2.2, ()), (v1.1, v1.2.1.1, v1.2.1.2, (), v1.2.2.2.1, v1.2.2.2.2.1, v1.2.2.2.2.2.1, v1.2.2.2.2.2.2.1, v1.2.2.2.2.2.2.2.1, (), v1.2.2.2.2.2.2.2.2.2.1, v1.2.2.2.2.2.2.2.2.2.2.1, v1.2.2.2.2.2.2.2.2.2.2.2, ()), (v2.1, v2.2.1.1, v2.2.1.2, (), v2.2.2.2.1, v2.2.2.2.2.1, v2.2.2.2.2.2.1, v2.2.2.2.2.2.2.1, v2.2.2.2.2.2.2.2.1, v2.2.2.2.2.2.2.2.2.1, v2.2.2.2.2.2.2.2.2.2.1, v2.2.2.2.2.2.2.2.2.2.2.1, v2.2.2.2.2.2.2.2.2.2.2.2, ()), ()), (v2.2.2.1, ()))
noncomputable def st_spec_l6Copy_61 (v0 : Int) (v1 : Int) (v2 : Int) (v3 : Int) (v4 : List dM) (v5 : Int) (v6 : Int) (v7 : Int) (v8 : Int) (v9 : Int) (v10 : List dW) (v11 : Int) (v12 : Bool) (v13 : Bool) (v14 : Int) (v15 : Int) (v16 : Int) (v17 : Int) (v18 : Int) (v19 : Int) (v20 : Int) (v21 : Int) (v22 : Int) (v23 : Bool) (v24 : Bool) (v25 : Int) (v26 : Int) (v27 : Int) (v28 : Int) (v29 : Int) (v30 : Int) (v31 : Int) (v32 : Int) (v33 : List dW) (v34 : Int) (v35 : Bool) (v36 : Bool) (v37 : List dM) : Option ((L_spec_l6Copy_61).X ⊕ ((O_spec_l6Copy_61).X ⊕ (Z_spec_l6Copy_61).X)) :=
  bif (ltb v0 (v4.length : Int)) then
    bif (inb v0 v4.length) then
      let r2 := n_spec_l2Copy ((nth v4 v0 ([], [], false, [])).1, ((nth v4 v0 ([], [], false, [])).2).1, (((nth v4 v0 ([], [], false, [])).2).2))
      bif (apok v37.length ([r2] : List dM).length 80) then
        some (.inl ((((), ()), ((), ()), ((), ()), ((IntKind.i64.wrap (v0 + 1)), ()), ()), ((v1, v2, v3, v4, v5, v6, v7, v8, v9, v10, v11, v12, v13, ()), (v14, v15, v16, (), v17, v18, v19, v20, v21, (), v22, v23, v24, ()), (v25, v26, v27, (), v28, v29, v30, v31, v32, v33, v34, v35, v36, ()), ()), ((v37 ++ ([r2] : List dM)), ())))
      else none
    else none
  else
    some (.inr (.inl ((((), ()), ((), ()), ((), ()), ()), ((v1, v2, v3, v4, v5, v6, v7, v8, v9, v10, v11, v12, v13, ()), (v14, v15, v16, (), v17, v18, v19, v20, v21, (), v22, v23, v24, ()), (v25, v26, v27, (), v28, v29, v30, v31, v32, v33, v34, v35, v36, ()), ()), (v37, ()))))
noncomputable def stx_spec_l6Copy_61 (x : (L_spec_l6Copy_61).X) := st_spec_l6Copy_61 x.1.2.2.2.1.1 x.2.1.1.1 x.2.1.1.2.1 x.2.1.1.2.2.1 x.2.1.1.2.2.2.1 x.2.1.1.2.2.2.2.1 x.2.1.1.2.2.2.2.2.1 x.2.1.1.2.2.2.2.2.2.1 x.2.1.1.2.2.2.2.2.2.2.1 x.2.1.1.2.2.2.2.2.2.2.2.1 x.2.1.1.2.2.2.2.2.2.2.2.2.1 x.2.1.1.2.2.2.2.2.2.2.2.2.2.1 x.2.1.1.2.2.2.2.2.2.2.2.2.2.2.1 x.2.1.1.2.2.2.2.2.2.2.2.2.2.2.2.1 x.2.1.2.1.1 x.2.1.2.1.2.1 x.2.1.2.1.2.2.1 x.2.1.2.1.2.2.2.2.1 x.2.1.2.1.2.2.2.2.2.1 x.2.1.2.1.2.2.2.2.2.2.1 x.2.1.2.1.2.2.2.2.2.2.2.1 x.2.1.2.1.2.2.2.2.2.2.2.2.1 x.2.1.2.1.2.2.2.2.2.2.2.2.2.2.1 x.2.1.2.1.2.2.2.2.2.2.2.2.2.2.2.1 x.2.1.2.1.2.2.2.2.2.2.2.2.2.2.2.2.1 x.2.1.2.2.1.1 x.2.1.2.2.1.2.1 x.2.1.2.2.1.2.2.1 x.2.1.2.2.1.2.2.2.2.1 x.2.1.2.2.1.2.2.2.2.2.1 x.2.1.2.2.1.2.2.2.2.2.2.1 x.2.1.2.2.1.2.2.2.2.2.2.2.1 x.2.1.2.2.1.2.2.2.2.2.2.2.2.1 x.2.1.2.2.1.2.2.2.2.2.2.2.2.2.1 x.2.1.2.2.1.2.2.2.2.2.2.2.2.2.2.1 x.2.1.2.2.1.2.2.2.2.2.2.2.2.2.2.2.1 x.2.1.2.2.1.2.2.2.2.2.2.2.2.2.2.2.2.1 x.2.2.1
def em_spec_l6Copy_61 (x : (S_spec_l6Copy_61).X) : (L_spec_l6Copy_61).X := ((((), ()), ((), ()), ((), ()), (0, ()), ()), ((x.2.1.1.1, x.2.1.1.2.1, x.2.1.1.2.2.1, x.2.1.1.2.2.2.1, x.2.1.1.2.2.2.2.1, x.2.1.1.2.2.2.2.2.1, x.2.1.1.2.2.2.2.2.2.1, x.2.1.1.2.2.2.2.2.2.2.1, x.2.1.1.2.2.2.2.2.2.2.2.1, x.2.1.1.2.2.2.2.2.2.2.2.2.1, x.2.1.1.2.2.2.2.2.2.2.2.2.2.1, x.2.1.1.2.2.2.2.2.2.2.2.2.2.2.1, x.2.1.1.2.2.2.2.2.2.2.2.2.2.2.2.1, ()), (x.2.1.2.1.1, x.2.1.2.1.2.1, x.2.1.2.1.2.2.1, (), x.2.1.2.1.2.2.2.2.1, x.2.1.2.1.2.2.2.2.2.1, x.2.1.2.1.2.2.2.2.2.2.1, x.2.1.2.1.2.2.2.2.2.2.2.1, x.2.1.2.1.2.2.2.2.2.2.2.2.1, (), x.2.1.2.1.2.2.2.2.2.2.2.2.2.2.1, x.2.1.2.1.2.2.2.2.2.2.2.2.2.2.2.1, x.2.1.2.1.2.2.2.2.2.2.2.2.2.2.2.2.1, ()), (x.2.1.2.2.1.1, x.2.1.2.2.1.2.1, x.2.1.2.2.1.2.2.1, (), x.2.1.2.2.1.2.2.2.2.1, x.2.1.2.2.1.2.2.2.2.2.1, x.2.1.2.2.1.2.2.2.2.2.2.1, x.2.1.2.2.1.2.2.2.2.2.2.2.1, x.2.1.2.2.1.2.2.2.2.2.2.2.2.1, x.2.1.2.2.1.2.2.2.2.2.2.2.2.2.1, x.2.1.2.2.1.2.2.2.2.2.2.2.2.2.2.1, x.2.1.2.2.1.2.2.2.2.2.2.2.2.2.2.2.1, x.2.1.2.2.1.2.2.2.2.2.2.2.2.2.2.2.2.1, ()), ()), (x.2.2.1, ()))
noncomputable def c_spec_l6Copy_61 : Code := (subN B_spec_l6Copy 64 244).getD .skip
theorem a_spec_l6Copy_61 : subN B_spec_l6Copy 64 61 = some (.block 0 (.loop c_spec_l6Copy_61)) := by kernel_rfl
theorem r_spec_l6Copy_61 (x : (L_spec_l6Copy_61).X) : roundT ⟨E_spec_l6Copy, 57, D_spec_l6Copy_0⟩ 0 c_spec_l6Copy_61 244 L_spec_l6Copy_61 O_spec_l6Copy_61 Z_spec_l6Copy_61 x = stx_spec_l6Copy_61 x := by kernel_rfl
noncomputable def fu_spec_l6Copy_61 (x : (S_spec_l6Copy_61).X) : Nat := (fun (u0 : Int) (u1 : Int) (u2 : Int) (u3 : List dM) (u4 : Int) (u5 : Int) (u6 : Int) (u7 : Int) (u8 : Int) (u9 : List dW) (u10 : Int) (u11 : Bool) (u12 : Bool) (u13 : Int) (u14 : Int) (u15 : Int) (u16 : Int) (u17 : Int) (u18 : Int) (u19 : Int) (u20 : Int) (u21 : Int) (u22 : Bool) (u23 : Bool) (u24 : Int) (u25 : Int) (u26 : Int) (u27 : Int) (u28 : Int) (u29 : Int) (u30 : Int) (u31 : Int) (u32 : List dW) (u33 : Int) (u34 : Bool) (u35 : Bool) (u36 : List dM) => 18446744073709551616) x.2.1.1.1 x.2.1.1.2.1 x.2.1.1.2.2.1 x.2.1.1.2.2.2.1 x.2.1.1.2.2.2.2.1 x.2.1.1.2.2.2.2.2.1 x.2.1.1.2.2.2.2.2.2.1 x.2.1.1.2.2.2.2.2.2.2.1 x.2.1.1.2.2.2.2.2.2.2.2.1 x.2.1.1.2.2.2.2.2.2.2.2.2.1 x.2.1.1.2.2.2.2.2.2.2.2.2.2.1 x.2.1.1.2.2.2.2.2.2.2.2.2.2.2.1 x.2.1.1.2.2.2.2.2.2.2.2.2.2.2.2.1 x.2.1.2.1.1 x.2.1.2.1.2.1 x.2.1.2.1.2.2.1 x.2.1.2.1.2.2.2.2.1 x.2.1.2.1.2.2.2.2.2.1 x.2.1.2.1.2.2.2.2.2.2.1 x.2.1.2.1.2.2.2.2.2.2.2.1 x.2.1.2.1.2.2.2.2.2.2.2.2.1 x.2.1.2.1.2.2.2.2.2.2.2.2.2.2.1 x.2.1.2.1.2.2.2.2.2.2.2.2.2.2.2.1 x.2.1.2.1.2.2.2.2.2.2.2.2.2.2.2.2.1 x.2.1.2.2.1.1 x.2.1.2.2.1.2.1 x.2.1.2.2.1.2.2.1 x.2.1.2.2.1.2.2.2.2.1 x.2.1.2.2.1.2.2.2.2.2.1 x.2.1.2.2.1.2.2.2.2.2.2.1 x.2.1.2.2.1.2.2.2.2.2.2.2.1 x.2.1.2.2.1.2.2.2.2.2.2.2.2.1 x.2.1.2.2.1.2.2.2.2.2.2.2.2.2.1 x.2.1.2.2.1.2.2.2.2.2.2.2.2.2.2.1 x.2.1.2.2.1.2.2.2.2.2.2.2.2.2.2.2.1 x.2.1.2.2.1.2.2.2.2.2.2.2.2.2.2.2.2.1 x.2.2.1
noncomputable def F_spec_l6Copy_61 (x : (S_spec_l6Copy_61).X) : Option ((O_spec_l6Copy_61).X ⊕ (Z_spec_l6Copy_61).X) := loopN stx_spec_l6Copy_61 (fu_spec_l6Copy_61 x) (em_spec_l6Copy_61 x)
noncomputable def sg_spec_l6Copy_61 : Seg := ⟨S_spec_l6Copy_61, O_spec_l6Copy_61, Z_spec_l6Copy_61, F_spec_l6Copy_61⟩
noncomputable def D_spec_l6Copy_1 : Nat → Option Seg := fun q => bif Nat.beq q 61 then some sg_spec_l6Copy_61 else D_spec_l6Copy_0 q
theorem fr_spec_l6Copy_1 : FrOk Tryz.prog ⟨E_spec_l6Copy, 57, D_spec_l6Copy_1⟩ B_spec_l6Copy := (fr_spec_l6Copy_0).loop (sg := sg_spec_l6Copy_61) L_spec_l6Copy_61 em_spec_l6Copy_61 (by decide) a_spec_l6Copy_61 stx_spec_l6Copy_61 fu_spec_l6Copy_61 (by decide) (fun _ => rfl) (fun x r _ h => h) r_spec_l6Copy_61
def L_spec_l6Copy_253 : Shape := ⟨[(1, false, [.ptr 0 0]), (2, false, [.ptr 64 0]), (3, false, [.ptr 4160 0]), (5, false, [.int .i64])], [(0, [.int .i64, .int .i64, .int .i64, .br tM, .int .i64, .int .i64, .int .i64, .int .i64, .int .i64, .br tW, .int .i64, .bool, .bool]), (64, [.int .i64, .int .i64, .int .i64, .nil, .int .i64, .int .i64, .int .i64, .int .i64, .int .i64, .nil, .int .i64, .bool, .bool]), (4160, [.int .i64, .int .i64, .int .i64, .at 800000000, .int .i64, .int .i64, .int .i64, .int .i64, .int .i64, .at 800000001, .int .i64, .bool, .bool])], [(800000000, tM, (.pr (.ow .fz) (.pr (.ow (.pr .fz .fz)) (.pr .fz (.ow .fz))))), (800000001, tW, (.pr .fz .fz))]⟩
def S_spec_l6Copy_253 : Shape := ⟨[(1, false, [.ptr 0 0]), (2, false, [.ptr 64 0]), (3, false, [.ptr 4160 0]), (5, false, [.ci .i64 0])], [(0, [.int .i64, .int .i64, .int .i64, .br tM, .int .i64, .int .i64, .int .i64, .int .i64, .int .i64, .br tW, .int .i64, .bool, .bool]), (64, [.int .i64, .int .i64, .int .i64, .nil, .int .i64, .int .i64, .int .i64, .int .i64, .int .i64, .nil, .int .i64, .bool, .bool]), (4160, [.int .i64, .int .i64, .int .i64, .at 800000000, .int .i64, .int .i64, .int .i64, .int .i64, .int .i64, .at 800000001, .int .i64, .bool, .bool])], [(800000000, tM, (.pr (.ow .fz) (.pr (.ow (.pr .fz .fz)) (.pr .fz (.ow .fz))))), (800000001, tW, (.pr .fz .fz))]⟩
def O_spec_l6Copy_253 : Shape := ⟨[(2, false, [.ptr 64 0]), (3, false, [.ptr 4160 0])], [(64, [.int .i64, .int .i64, .int .i64, .nil, .int .i64, .int .i64, .int .i64, .int .i64, .int .i64, .nil, .int .i64, .bool, .bool]), (4160, [.int .i64, .int .i64, .int .i64, .at 800000000, .int .i64, .int .i64, .int .i64, .int .i64, .int .i64, .at 800000001, .int .i64, .bool, .bool])], [(800000000, tM, (.pr (.ow .fz) (.pr (.ow (.pr .fz .fz)) (.pr .fz (.ow .fz))))), (800000001, tW, (.pr .fz .fz))]⟩
def Z_spec_l6Copy_253 : Shape := ⟨[], [], []⟩
abbrev mk_spec_l6Copy_253 (v0 : Int) (v1 : dA) (v2 : dA) (v3 : dA) : (L_spec_l6Copy_253).X := ((((), ()), ((), ()), ((), ()), (v0, ()), ()), ((v1.1, v1.2.1.1, v1.2.1.2, v1.2.2.1, v1.2.2.2.1, v1.2.2.2.2.1, v1.2.2.2.2.2.1, v1.2.2.2.2.2.2.1, v1.2.2.2.2.2.2.2.1, v1.2.2.2.2.2.2.2.2.1, v1.2.2.2.2.2.2.2.2.2.1, v1.2.2.2.2.2.2.2.2.2.2.1, v1.2.2.2.2.2.2.2.2.2.2.2, ()), (v2.1, v2.2.1.1, v2.2.1.2, (), v2.2.2.2.1, v2.2.2.2.2.1, v2.2.2.2.2.2.1, v2.2.2.2.2.2.2.1, v2.2.2.2.2.2.2.2.1, (), v2.2.2.2.2.2.2.2.2.2.1, v2.2.2.2.2.2.2.2.2.2.2.1, v2.2.2.2.2.2.2.2.2.2.2.2, ()), (v3.1, v3.2.1.1, v3.2.1.2, (), v3.2.2.2.1, v3.2.2.2.2.1, v3.2.2.2.2.2.1, v3.2.2.2.2.2.2.1, v3.2.2.2.2.2.2.2.1, (), v3.2.2.2.2.2.2.2.2.2.1, v3.2.2.2.2.2.2.2.2.2.2.1, v3.2.2.2.2.2.2.2.2.2.2.2, ()), ()), (v3.2.2.1, v3.2.2.2.2.2.2.2.2.1, ()))
abbrev ms_spec_l6Copy_253 (v0 : dA) (v1 : dA) (v2 : dA) : (S_spec_l6Copy_253).X := ((((), ()), ((), ()), ((), ()), ((), ()), ()), ((v0.1, v0.2.1.1, v0.2.1.2, v0.2.2.1, v0.2.2.2.1, v0.2.2.2.2.1, v0.2.2.2.2.2.1, v0.2.2.2.2.2.2.1, v0.2.2.2.2.2.2.2.1, v0.2.2.2.2.2.2.2.2.1, v0.2.2.2.2.2.2.2.2.2.1, v0.2.2.2.2.2.2.2.2.2.2.1, v0.2.2.2.2.2.2.2.2.2.2.2, ()), (v1.1, v1.2.1.1, v1.2.1.2, (), v1.2.2.2.1, v1.2.2.2.2.1, v1.2.2.2.2.2.1, v1.2.2.2.2.2.2.1, v1.2.2.2.2.2.2.2.1, (), v1.2.2.2.2.2.2.2.2.2.1, v1.2.2.2.2.2.2.2.2.2.2.1, v1.2.2.2.2.2.2.2.2.2.2.2, ()), (v2.1, v2.2.1.1, v2.2.1.2, (), v2.2.2.2.1, v2.2.2.2.2.1, v2.2.2.2.2.2.1, v2.2.2.2.2.2.2.1, v2.2.2.2.2.2.2.2.1, (), v2.2.2.2.2.2.2.2.2.2.1, v2.2.2.2.2.2.2.2.2.2.2.1, v2.2.2.2.2.2.2.2.2.2.2.2, ()), ()), (v2.2.2.1, v2.2.2.2.2.2.2.2.2.1, ()))
abbrev mo_spec_l6Copy_253 (v0 : dA) (v1 : dA) : (O_spec_l6Copy_253).X := ((((), ()), ((), ()), ()), ((v0.1, v0.2.1.1, v0.2.1.2, (), v0.2.2.2.1, v0.2.2.2.2.1, v0.2.2.2.2.2.1, v0.2.2.2.2.2.2.1, v0.2.2.2.2.2.2.2.1, (), v0.2.2.2.2.2.2.2.2.2.1, v0.2.2.2.2.2.2.2.2.2.2.1, v0.2.2.2.2.2.2.2.2.2.2.2, ()), (v1.1, v1.2.1.1, v1.2.1.2, (), v1.2.2.2.1, v1.2.2.2.2.1, v1.2.2.2.2.2.1, v1.2.2.2.2.2.2.1, v1.2.2.2.2.2.2.2.1, (), v1.2.2.2.2.2.2.2.2.2.1, v1.2.2.2.2.2.2.2.2.2.2.1, v1.2.2.2.2.2.2.2.2.2.2.2, ()), ()), (v1.2.2.1, v1.2.2.2.2.2.2.2.2.1, ()))
noncomputable def st_spec_l6Copy_253 (v0 : Int) (v1 : Int) (v2 : Int) (v3 : Int) (v4 : List dM) (v5 : Int) (v6 : Int) (v7 : Int) (v8 : Int) (v9 : Int) (v10 : List dW) (v11 : Int) (v12 : Bool) (v13 : Bool) (v14 : Int) (v15 : Int) (v16 : Int) (v17 : Int) (v18 : Int) (v19 : Int) (v20 : Int) (v21 : Int) (v22 : Int) (v23 : Bool) (v24 : Bool) (v25 : Int) (v26 : Int) (v27 : Int) (v28 : Int) (v29 : Int) (v30 : Int) (v31 : Int) (v32 : Int) (v33 : Int) (v34 : Bool) (v35 : Bool) (v36 : List dM) (v37 : List dW) : Option ((L_spec_l6Copy_253).X ⊕ ((O_spec_l6Copy_253).X ⊕ (Z_spec_l6Copy_253).X)) :=
  bif (ltb v0 (v10.length : Int)) then
    bif (inb v0 v10.length) then
      bif (inb v0 v10.length) then
        bif (apok ([] : List Int).length ((nth v10 v0 (0, [])).2).length 8) then
          bif (apok v37.length ([((nth v10 v0 (0, [])).1, (([] : List Int) ++ ((nth v10 v0 (0, [])).2)))] : List dW).length 32) then
            some (.inl ((((), ()), ((), ()), ((), ()), ((IntKind.i64.wrap (v0 + 1)), ()), ()), ((v1, v2, v3, v4, v5, v6, v7, v8, v9, v10, v11, v12, v13, ()), (v14, v15, v16, (), v17, v18, v19, v20, v21, (), v22, v23, v24, ()), (v25, v26, v27, (), v28, v29, v30, v31, v32, (), v33, v34, v35, ()), ()), (v36, (v37 ++ ([((nth v10 v0 (0, [])).1, (([] : List Int) ++ ((nth v10 v0 (0, [])).2)))] : List dW)), ())))
          else none
        else none
      else none
    else none
  else
    some (.inr (.inl ((((), ()), ((), ()), ()), ((v14, v15, v16, (), v17, v18, v19, v20, v21, (), v22, v23, v24, ()), (v25, v26, v27, (), v28, v29, v30, v31, v32, (), v33, v34, v35, ()), ()), (v36, v37, ()))))
noncomputable def stx_spec_l6Copy_253 (x : (L_spec_l6Copy_253).X) := st_spec_l6Copy_253 x.1.2.2.2.1.1 x.2.1.1.1 x.2.1.1.2.1 x.2.1.1.2.2.1 x.2.1.1.2.2.2.1 x.2.1.1.2.2.2.2.1 x.2.1.1.2.2.2.2.2.1 x.2.1.1.2.2.2.2.2.2.1 x.2.1.1.2.2.2.2.2.2.2.1 x.2.1.1.2.2.2.2.2.2.2.2.1 x.2.1.1.2.2.2.2.2.2.2.2.2.1 x.2.1.1.2.2.2.2.2.2.2.2.2.2.1 x.2.1.1.2.2.2.2.2.2.2.2.2.2.2.1 x.2.1.1.2.2.2.2.2.2.2.2.2.2.2.2.1 x.2.1.2.1.1 x.2.1.2.1.2.1 x.2.1.2.1.2.2.1 x.2.1.2.1.2.2.2.2.1 x.2.1.2.1.2.2.2.2.2.1 x.2.1.2.1.2.2.2.2.2.2.1 x.2.1.2.1.2.2.2.2.2.2.2.1 x.2.1.2.1.2.2.2.2.2.2.2.2.1 x.2.1.2.1.2.2.2.2.2.2.2.2.2.2.1 x.2.1.2.1.2.2.2.2.2.2.2.2.2.2.2.1 x.2.1.2.1.2.2.2.2.2.2.2.2.2.2.2.2.1 x.2.1.2.2.1.1 x.2.1.2.2.1.2.1 x.2.1.2.2.1.2.2.1 x.2.1.2.2.1.2.2.2.2.1 x.2.1.2.2.1.2.2.2.2.2.1 x.2.1.2.2.1.2.2.2.2.2.2.1 x.2.1.2.2.1.2.2.2.2.2.2.2.1 x.2.1.2.2.1.2.2.2.2.2.2.2.2.1 x.2.1.2.2.1.2.2.2.2.2.2.2.2.2.2.1 x.2.1.2.2.1.2.2.2.2.2.2.2.2.2.2.2.1 x.2.1.2.2.1.2.2.2.2.2.2.2.2.2.2.2.2.1 x.2.2.1 x.2.2.2.1
def em_spec_l6Copy_253 (x : (S_spec_l6Copy_253).X) : (L_spec_l6Copy_253).X := ((((), ()), ((), ()), ((), ()), (0, ()), ()), ((x.2.1.1.1, x.2.1.1.2.1, x.2.1.1.2.2.1, x.2.1.1.2.2.2.1, x.2.1.1.2.2.2.2.1, x.2.1.1.2.2.2.2.2.1, x.2.1.1.2.2.2.2.2.2.1, x.2.1.1.2.2.2.2.2.2.2.1, x.2.1.1.2.2.2.2.2.2.2.2.1, x.2.1.1.2.2.2.2.2.2.2.2.2.1, x.2.1.1.2.2.2.2.2.2.2.2.2.2.1, x.2.1.1.2.2.2.2.2.2.2.2.2.2.2.1, x.2.1.1.2.2.2.2.2.2.2.2.2.2.2.2.1, ()), (x.2.1.2.1.1, x.2.1.2.1.2.1, x.2.1.2.1.2.2.1, (), x.2.1.2.1.2.2.2.2.1, x.2.1.2.1.2.2.2.2.2.1, x.2.1.2.1.2.2.2.2.2.2.1, x.2.1.2.1.2.2.2.2.2.2.2.1, x.2.1.2.1.2.2.2.2.2.2.2.2.1, (), x.2.1.2.1.2.2.2.2.2.2.2.2.2.2.1, x.2.1.2.1.2.2.2.2.2.2.2.2.2.2.2.1, x.2.1.2.1.2.2.2.2.2.2.2.2.2.2.2.2.1, ()), (x.2.1.2.2.1.1, x.2.1.2.2.1.2.1, x.2.1.2.2.1.2.2.1, (), x.2.1.2.2.1.2.2.2.2.1, x.2.1.2.2.1.2.2.2.2.2.1, x.2.1.2.2.1.2.2.2.2.2.2.1, x.2.1.2.2.1.2.2.2.2.2.2.2.1, x.2.1.2.2.1.2.2.2.2.2.2.2.2.1, (), x.2.1.2.2.1.2.2.2.2.2.2.2.2.2.2.1, x.2.1.2.2.1.2.2.2.2.2.2.2.2.2.2.2.1, x.2.1.2.2.1.2.2.2.2.2.2.2.2.2.2.2.2.1, ()), ()), (x.2.2.1, x.2.2.2.1, ()))
noncomputable def c_spec_l6Copy_253 : Code := (subN B_spec_l6Copy 64 1012).getD .skip
theorem a_spec_l6Copy_253 : subN B_spec_l6Copy 64 253 = some (.block 2 (.loop c_spec_l6Copy_253)) := by kernel_rfl
theorem r_spec_l6Copy_253 (x : (L_spec_l6Copy_253).X) : roundT ⟨E_spec_l6Copy, 57, D_spec_l6Copy_1⟩ 2 c_spec_l6Copy_253 1012 L_spec_l6Copy_253 O_spec_l6Copy_253 Z_spec_l6Copy_253 x = stx_spec_l6Copy_253 x := by kernel_rfl
noncomputable def fu_spec_l6Copy_253 (x : (S_spec_l6Copy_253).X) : Nat := (fun (u0 : Int) (u1 : Int) (u2 : Int) (u3 : List dM) (u4 : Int) (u5 : Int) (u6 : Int) (u7 : Int) (u8 : Int) (u9 : List dW) (u10 : Int) (u11 : Bool) (u12 : Bool) (u13 : Int) (u14 : Int) (u15 : Int) (u16 : Int) (u17 : Int) (u18 : Int) (u19 : Int) (u20 : Int) (u21 : Int) (u22 : Bool) (u23 : Bool) (u24 : Int) (u25 : Int) (u26 : Int) (u27 : Int) (u28 : Int) (u29 : Int) (u30 : Int) (u31 : Int) (u32 : Int) (u33 : Bool) (u34 : Bool) (u35 : List dM) (u36 : List dW) => 18446744073709551616) x.2.1.1.1 x.2.1.1.2.1 x.2.1.1.2.2.1 x.2.1.1.2.2.2.1 x.2.1.1.2.2.2.2.1 x.2.1.1.2.2.2.2.2.1 x.2.1.1.2.2.2.2.2.2.1 x.2.1.1.2.2.2.2.2.2.2.1 x.2.1.1.2.2.2.2.2.2.2.2.1 x.2.1.1.2.2.2.2.2.2.2.2.2.1 x.2.1.1.2.2.2.2.2.2.2.2.2.2.1 x.2.1.1.2.2.2.2.2.2.2.2.2.2.2.1 x.2.1.1.2.2.2.2.2.2.2.2.2.2.2.2.1 x.2.1.2.1.1 x.2.1.2.1.2.1 x.2.1.2.1.2.2.1 x.2.1.2.1.2.2.2.2.1 x.2.1.2.1.2.2.2.2.2.1 x.2.1.2.1.2.2.2.2.2.2.1 x.2.1.2.1.2.2.2.2.2.2.2.1 x.2.1.2.1.2.2.2.2.2.2.2.2.1 x.2.1.2.1.2.2.2.2.2.2.2.2.2.2.1 x.2.1.2.1.2.2.2.2.2.2.2.2.2.2.2.1 x.2.1.2.1.2.2.2.2.2.2.2.2.2.2.2.2.1 x.2.1.2.2.1.1 x.2.1.2.2.1.2.1 x.2.1.2.2.1.2.2.1 x.2.1.2.2.1.2.2.2.2.1 x.2.1.2.2.1.2.2.2.2.2.1 x.2.1.2.2.1.2.2.2.2.2.2.1 x.2.1.2.2.1.2.2.2.2.2.2.2.1 x.2.1.2.2.1.2.2.2.2.2.2.2.2.1 x.2.1.2.2.1.2.2.2.2.2.2.2.2.2.2.1 x.2.1.2.2.1.2.2.2.2.2.2.2.2.2.2.2.1 x.2.1.2.2.1.2.2.2.2.2.2.2.2.2.2.2.2.1 x.2.2.1 x.2.2.2.1
noncomputable def F_spec_l6Copy_253 (x : (S_spec_l6Copy_253).X) : Option ((O_spec_l6Copy_253).X ⊕ (Z_spec_l6Copy_253).X) := loopN stx_spec_l6Copy_253 (fu_spec_l6Copy_253 x) (em_spec_l6Copy_253 x)
noncomputable def sg_spec_l6Copy_253 : Seg := ⟨S_spec_l6Copy_253, O_spec_l6Copy_253, Z_spec_l6Copy_253, F_spec_l6Copy_253⟩
noncomputable def D_spec_l6Copy_2 : Nat → Option Seg := fun q => bif Nat.beq q 253 then some sg_spec_l6Copy_253 else D_spec_l6Copy_1 q
theorem fr_spec_l6Copy_2 : FrOk Tryz.prog ⟨E_spec_l6Copy, 57, D_spec_l6Copy_2⟩ B_spec_l6Copy := (fr_spec_l6Copy_1).loop (sg := sg_spec_l6Copy_253) L_spec_l6Copy_253 em_spec_l6Copy_253 (by decide) a_spec_l6Copy_253 stx_spec_l6Copy_253 fu_spec_l6Copy_253 (by decide) (fun _ => rfl) (fun x r _ h => h) r_spec_l6Copy_253
abbrev I_spec_l6Copy : List Par := [.rd tA]
abbrev U_spec_l6Copy : List OT := [⟨false, tA, (.pr .fz (.pr (.pr .fz .fz) (.pr (.ow (.pr (.ow .fz) (.pr (.ow (.pr .fz .fz)) (.pr .fz (.ow .fz))))) (.pr .fz (.pr .fz (.pr .fz (.pr .fz (.pr .fz (.pr (.ow (.pr .fz .fz)) (.pr .fz (.pr .fz .fz)))))))))))⟩]
noncomputable def raw_spec_l6Copy (a0 : dA) : Option (ResD U_spec_l6Copy × MutD I_spec_l6Copy) :=
  segM (F_spec_l6Copy_61 ((((), ()), ((), ()), ((), ()), ((), ()), ()), ((a0.1, a0.2.1.1, a0.2.1.2, a0.2.2.1, a0.2.2.2.1, a0.2.2.2.2.1, a0.2.2.2.2.2.1, a0.2.2.2.2.2.2.1, a0.2.2.2.2.2.2.2.1, a0.2.2.2.2.2.2.2.2.1, a0.2.2.2.2.2.2.2.2.2.1, a0.2.2.2.2.2.2.2.2.2.2.1, a0.2.2.2.2.2.2.2.2.2.2.2, ()), (0, 0, 0, (), 0, 0, 0, 0, 0, (), 0, false, false, ()), (a0.1, a0.2.1.1, a0.2.1.2, (), a0.2.2.2.1, a0.2.2.2.2.1, a0.2.2.2.2.2.1, a0.2.2.2.2.2.2.1, a0.2.2.2.2.2.2.2.1, a0.2.2.2.2.2.2.2.2.1, a0.2.2.2.2.2.2.2.2.2.1, a0.2.2.2.2.2.2.2.2.2.2.1, a0.2.2.2.2.2.2.2.2.2.2.2, ()), ()), (([] : List dM), ()))) (fun y2 =>
    segM (F_spec_l6Copy_253 ((((), ()), ((), ()), ((), ()), ((), ()), ()), ((y2.2.1.1.1, y2.2.1.1.2.1, y2.2.1.1.2.2.1, y2.2.1.1.2.2.2.1, y2.2.1.1.2.2.2.2.1, y2.2.1.1.2.2.2.2.2.1, y2.2.1.1.2.2.2.2.2.2.1, y2.2.1.1.2.2.2.2.2.2.2.1, y2.2.1.1.2.2.2.2.2.2.2.2.1, y2.2.1.1.2.2.2.2.2.2.2.2.2.1, y2.2.1.1.2.2.2.2.2.2.2.2.2.2.1, y2.2.1.1.2.2.2.2.2.2.2.2.2.2.2.1, y2.2.1.1.2.2.2.2.2.2.2.2.2.2.2.2.1, ()), (y2.2.1.2.1.1, y2.2.1.2.1.2.1, y2.2.1.2.1.2.2.1, (), y2.2.1.2.1.2.2.2.2.1, y2.2.1.2.1.2.2.2.2.2.1, y2.2.1.2.1.2.2.2.2.2.2.1, y2.2.1.2.1.2.2.2.2.2.2.2.1, y2.2.1.2.1.2.2.2.2.2.2.2.2.1, (), y2.2.1.2.1.2.2.2.2.2.2.2.2.2.2.1, y2.2.1.2.1.2.2.2.2.2.2.2.2.2.2.2.1, y2.2.1.2.1.2.2.2.2.2.2.2.2.2.2.2.2.1, ()), (y2.2.1.2.2.1.1, y2.2.1.2.2.1.2.1, y2.2.1.2.2.1.2.2.1, (), y2.2.1.2.2.1.2.2.2.2.1, y2.2.1.2.2.1.2.2.2.2.2.1, y2.2.1.2.2.1.2.2.2.2.2.2.1, y2.2.1.2.2.1.2.2.2.2.2.2.2.1, y2.2.1.2.2.1.2.2.2.2.2.2.2.2.1, (), y2.2.1.2.2.1.2.2.2.2.2.2.2.2.2.2.1, y2.2.1.2.2.1.2.2.2.2.2.2.2.2.2.2.2.1, y2.2.1.2.2.1.2.2.2.2.2.2.2.2.2.2.2.2.1, ()), ()), (y2.2.2.1, ([] : List dW), ()))) (fun y3 =>
      some (((y3.2.1.2.1.1, (y3.2.1.2.1.2.1, y3.2.1.2.1.2.2.1), y3.2.2.1, y3.2.1.2.1.2.2.2.2.1, y3.2.1.2.1.2.2.2.2.2.1, y3.2.1.2.1.2.2.2.2.2.2.1, y3.2.1.2.1.2.2.2.2.2.2.2.1, y3.2.1.2.1.2.2.2.2.2.2.2.2.1, y3.2.2.2.1, y3.2.1.2.1.2.2.2.2.2.2.2.2.2.2.1, y3.2.1.2.1.2.2.2.2.2.2.2.2.2.2.2.1, y3.2.1.2.1.2.2.2.2.2.2.2.2.2.2.2.2.1), ()), ())) (fun y3 =>
      none)) (fun y2 =>
    none)
theorem e_spec_l6Copy (x : InD I_spec_l6Copy) : execF ⟨E_spec_l6Copy, 57, D_spec_l6Copy_2⟩ Tryz.f73.results.toList B_spec_l6Copy I_spec_l6Copy U_spec_l6Copy x = raw_spec_l6Copy x.1 := by kernel_rfl
theorem ok0_spec_l6Copy : ConOk Tryz.prog 73 ⟨I_spec_l6Copy, U_spec_l6Copy, fun x => raw_spec_l6Copy x.1⟩ := conOk_exec (fr_spec_l6Copy_2) Tryz.func73 (by kernel_rfl) (by kernel_rfl) Tryz.ntmps73.symm (by decide) (fun x r h => (e_spec_l6Copy x).trans h)
noncomputable def n_spec_l6Copy (a0 : dA) : dA := a0
theorem nn_spec_l6Copy (a0 : dA) (hk : InOk I_spec_l6Copy (a0, ())) : raw_spec_l6Copy a0 = (fun n => some ((n, ()), ())) (n_spec_l6Copy a0) := by
  have hb : a0.2.2.1.length * 80 ≤ 2 ^ 47 := hk.1.2.2.1.1
  have hb2 : a0.2.2.2.2.2.2.2.2.1.length * 32 ≤ 2 ^ 47 := hk.1.2.2.2.2.2.2.2.2.1.1
  have hc : ∀ i, i < a0.2.2.2.2.2.2.2.2.1.length → (a0.2.2.2.2.2.2.2.2.1.getD i (0, [])).2.length * 8 ≤ 2 ^ 47 := fun i hi => by rw [getD_get hi]; exact (hk.1.2.2.2.2.2.2.2.2.1.2 _ (List.getElem_mem hi)).2.1
  have h1 := loopN_fold (step := stx_spec_l6Copy_61) a0.2.2.1 noMem (fun i s => mk_spec_l6Copy_61 i a0 noArr (a0.1, a0.2.1, s, a0.2.2.2)) (fun s x => s ++ [x]) (fun i s => s.length = i) (fun s => .inl (mo_spec_l6Copy_61 a0 noArr (a0.1, a0.2.1, s, a0.2.2.2))) (fun i s hi hs => ⟨by
      simp only [stx_spec_l6Copy_61, mk_spec_l6Copy_61, st_spec_l6Copy_61, ltb_t (show (i : Int) < a0.2.2.1.length by omega), cond_true, wr (show -9223372036854775808 ≤ (i : Int) + 1 by omega) (by omega), Int.natCast_add, Int.natCast_one, Int.toNat_natCast, inb_nat hi, nth_nat, n_spec_l2Copy, pr_eta]
      rw [apok_iff.2 (show (s.length + [a0.2.2.1.getD i ([], [], false, [])].length) * 80 ≤ 140737488355328 by simp only [List.length_cons, List.length_nil]; omega)]; rfl, by simp [hs]⟩) (fun s hs => by simp only [stx_spec_l6Copy_61, mk_spec_l6Copy_61, st_spec_l6Copy_61, ltb_f (Int.le_refl _), cond_false]) [] rfl 18446744073709551616 (by omega)
  have h2 := loopN_fold (step := stx_spec_l6Copy_253) a0.2.2.2.2.2.2.2.2.1 (0, []) (fun i s => mk_spec_l6Copy_253 i a0 noArr (a0.1, a0.2.1, a0.2.2.1, a0.2.2.2.1, a0.2.2.2.2.1, a0.2.2.2.2.2.1, a0.2.2.2.2.2.2.1, a0.2.2.2.2.2.2.2.1, s, a0.2.2.2.2.2.2.2.2.2)) (fun s x => s ++ [x]) (fun i s => s.length = i) (fun s => .inl (mo_spec_l6Copy_253 noArr (a0.1, a0.2.1, a0.2.2.1, a0.2.2.2.1, a0.2.2.2.2.1, a0.2.2.2.2.2.1, a0.2.2.2.2.2.2.1, a0.2.2.2.2.2.2.2.1, s, a0.2.2.2.2.2.2.2.2.2))) (fun i s hi hs => ⟨by
      have := hc i hi
      simp only [stx_spec_l6Copy_253, mk_spec_l6Copy_253, st_spec_l6Copy_253, ltb_t (show (i : Int) < a0.2.2.2.2.2.2.2.2.1.length by omega), cond_true, wr (show -9223372036854775808 ≤ (i : Int) + 1 by omega) (by omega), Int.natCast_add, Int.natCast_one, Int.toNat_natCast, inb_nat hi, nth_nat, List.nil_append, pr_eta]
      rw [apok_iff.2 (show (([] : List Int).length + (a0.2.2.2.2.2.2.2.2.1.getD i (0, [])).2.length) * 8 ≤ 140737488355328 by rw [List.length_nil]; omega), apok_iff.2 (show (s.length + [a0.2.2.2.2.2.2.2.2.1.getD i (0, [])].length) * 32 ≤ 140737488355328 by simp only [List.length_cons, List.length_nil]; omega)]; rfl, by simp [hs]⟩) (fun s hs => by simp only [stx_spec_l6Copy_253, mk_spec_l6Copy_253, st_spec_l6Copy_253, ltb_f (Int.le_refl _), cond_false]) [] rfl 18446744073709551616 (by omega)
  rw [foldl_id] at h1 h2
  unfold raw_spec_l6Copy n_spec_l6Copy
  rw [show F_spec_l6Copy_61 (ms_spec_l6Copy_61 a0 noArr (a0.1, a0.2.1, [], a0.2.2.2)) = _ from h1, segM_inl]
  refine (congrArg (fun z => segM z _ _) (show F_spec_l6Copy_253 (ms_spec_l6Copy_253 a0 noArr (a0.1, a0.2.1, a0.2.2.1, a0.2.2.2.1, a0.2.2.2.2.1, a0.2.2.2.2.2.1, a0.2.2.2.2.2.2.1, a0.2.2.2.2.2.2.2.1, [], a0.2.2.2.2.2.2.2.2.2)) = _ from h2)).trans rfl
noncomputable def con_spec_l6Copy : Con := ⟨I_spec_l6Copy, U_spec_l6Copy, fun x => (fun n => some ((n, ()), ())) (n_spec_l6Copy x.1)⟩
theorem ok_spec_l6Copy : ConOk Tryz.prog 73 con_spec_l6Copy := (ok0_spec_l6Copy).mono (fun x r hk h => (nn_spec_l6Copy x.1 hk).trans h)
end

/-! spec_l1In -/
section
noncomputable def B_spec_l1In : Code := (Tryz.f98.body).getD .skip
noncomputable def E_spec_l1In : Env := envOf TT [] []
theorem fr_spec_l1In_0 : FrOk Tryz.prog ⟨E_spec_l1In, 15, fun _ => none⟩ B_spec_l1In := frOk_base mixed tt_ok trivial
noncomputable def D_spec_l1In_0 : Nat → Option Seg := fun _ => none
abbrev I_spec_l1In : List Par := [.rd tI, .rd tI, .rd tI]
abbrev U_spec_l1In : List OT := [⟨false, tB, .fz⟩]
noncomputable def raw_spec_l1In (a0 : Int) (a1 : Int) (a2 : Int) : Option (ResD U_spec_l1In × MutD I_spec_l1In) :=
  bif (leb a1 a0) then
    some (((leb a0 a2), ()), ())
  else
    some ((false, ()), ())
theorem e_spec_l1In (x : InD I_spec_l1In) : execF ⟨E_spec_l1In, 15, D_spec_l1In_0⟩ Tryz.f98.results.toList B_spec_l1In I_spec_l1In U_spec_l1In x = raw_spec_l1In x.1 x.2.1 x.2.2.1 := by kernel_rfl
theorem ok0_spec_l1In : ConOk Tryz.prog 98 ⟨I_spec_l1In, U_spec_l1In, fun x => raw_spec_l1In x.1 x.2.1 x.2.2.1⟩ := conOk_exec (fr_spec_l1In_0) Tryz.func98 (by kernel_rfl) (by kernel_rfl) Tryz.ntmps98.symm (by decide) (fun x r h => (e_spec_l1In x).trans h)
noncomputable def n_spec_l1In (a0 : Int) (a1 : Int) (a2 : Int) : Bool :=
  bif (leb a1 a0) then
    (leb a0 a2)
  else
    false
noncomputable def con_spec_l1In : Con := ⟨I_spec_l1In, U_spec_l1In, fun x => (fun n => some ((n, ()), ())) (n_spec_l1In x.1 x.2.1 x.2.2.1)⟩
theorem nn_spec_l1In (a0 : Int) (a1 : Int) (a2 : Int) : raw_spec_l1In a0 a1 a2 = (fun n => some ((n, ()), ())) (n_spec_l1In a0 a1 a2) := bif_ty (p := fun (n : Bool) => ((n, ()), ())) (bif_some (p := fun (n : Bool) => ((n, ()), ())) rfl rfl)
theorem ok_spec_l1In : ConOk Tryz.prog 98 con_spec_l1In := (ok0_spec_l1In).mono (fun x r _ h => (nn_spec_l1In x.1 x.2.1 x.2.2.1).trans h)
theorem in_iff {a b c : Int} : n_spec_l1In a b c = true ↔ b ≤ a ∧ a ≤ c := by
  unfold n_spec_l1In
  cases h : leb b a
  · have := mt leb_t (by rw [h]; simp : ¬ leb b a = true)
    simp [this]
  · simp [leb_iff, leb_iff.1 h]
theorem in_t {a b c : Int} (h : b ≤ a) (h2 : a ≤ c) : n_spec_l1In a b c = true := in_iff.2 ⟨h, h2⟩
theorem in_f {a b c : Int} (h : ¬ (b ≤ a ∧ a ≤ c)) : n_spec_l1In a b c = false := by
  cases e : n_spec_l1In a b c
  · rfl
  · exact absurd (in_iff.1 e) h
theorem in_eq (x a b : Int) : n_spec_l1In x a b = (leb a x && leb x b) := by
  unfold n_spec_l1In; cases leb a x <;> rfl
theorem in_len {x : Int} {n : Nat} (h : n ≤ 1152921504606846976) : n_spec_l1In x 0 (IntKind.i64.wrap ((n : Int) - 1)) = inb x n := by
  rw [wr (by omega) (by omega), Bool.eq_iff_iff, in_iff, inb_iff]; omega
end

/-! spec_GeoOk -/
section
noncomputable def B_spec_GeoOk : Code := (Tryz.f141.body).getD .skip
noncomputable def E_spec_GeoOk : Env := envOf TT [(98, con_spec_l1In)] []
theorem fr_spec_GeoOk_0 : FrOk Tryz.prog ⟨E_spec_GeoOk, 11, fun _ => none⟩ B_spec_GeoOk := frOk_base mixed tt_ok ⟨ok_spec_l1In, trivial⟩
noncomputable def D_spec_GeoOk_0 : Nat → Option Seg := fun _ => none
abbrev I_spec_GeoOk : List Par := [.rd tG]
abbrev U_spec_GeoOk : List OT := [⟨false, tB, .fz⟩]
noncomputable def raw_spec_GeoOk (a0 : dG) : Option (ResD U_spec_GeoOk × MutD I_spec_GeoOk) :=
  let r1 := n_spec_l1In a0.1 3 5
  bif r1 then
    let r2 := n_spec_l1In a0.2 1 8
    some ((r2, ()), ())
  else
    some ((false, ()), ())
theorem e_spec_GeoOk (x : InD I_spec_GeoOk) : execF ⟨E_spec_GeoOk, 11, D_spec_GeoOk_0⟩ Tryz.f141.results.toList B_spec_GeoOk I_spec_GeoOk U_spec_GeoOk x = raw_spec_GeoOk x.1 := by kernel_rfl
theorem ok0_spec_GeoOk : ConOk Tryz.prog 141 ⟨I_spec_GeoOk, U_spec_GeoOk, fun x => raw_spec_GeoOk x.1⟩ := conOk_exec (fr_spec_GeoOk_0) Tryz.func141 (by kernel_rfl) (by kernel_rfl) Tryz.ntmps141.symm (by decide) (fun x r h => (e_spec_GeoOk x).trans h)
noncomputable def n_spec_GeoOk (a0 : dG) : Bool :=
  let r1 := n_spec_l1In a0.1 3 5
  bif r1 then
    let r2 := n_spec_l1In a0.2 1 8
    r2
  else
    false
noncomputable def con_spec_GeoOk : Con := ⟨I_spec_GeoOk, U_spec_GeoOk, fun x => (fun n => some ((n, ()), ())) (n_spec_GeoOk x.1)⟩
theorem nn_spec_GeoOk (a0 : dG) : raw_spec_GeoOk a0 = (fun n => some ((n, ()), ())) (n_spec_GeoOk a0) := bif_ty (p := fun (n : Bool) => ((n, ()), ())) (bif_some (p := fun (n : Bool) => ((n, ()), ())) rfl rfl)
theorem ok_spec_GeoOk : ConOk Tryz.prog 141 con_spec_GeoOk := (ok0_spec_GeoOk).mono (fun x r _ h => (nn_spec_GeoOk x.1).trans h)
theorem geo_iff {a : Int × Int} : n_spec_GeoOk a = true ↔ (3 ≤ a.1 ∧ a.1 ≤ 5) ∧ 1 ≤ a.2 ∧ a.2 ≤ 8 := by
  unfold n_spec_GeoOk
  cases h : n_spec_l1In a.1 3 5
  · have : ¬ (3 ≤ a.1 ∧ a.1 ≤ 5) := fun e => by rw [in_iff.2 e] at h; simp at h
    simp [this]
  · simp only [cond_true, in_iff]
    exact ⟨fun e => ⟨in_iff.1 h, e⟩, fun e => e.2⟩
def memBad (a : dA) (i : Nat) : Bool := !(memOk (nth a.2.2.1 i noMem)) || ((((nth a.2.2.1 i noMem).1.length : Int) != 6 + a.2.1.2) || ((nth a.2.2.1 i noMem).2.2.1 && (((i : Int) != a.2.2.2.1) && !a.2.2.2.2.2.2.2.2.2.2.2)))
def memsOk (a : dA) : Bool := !((List.range a.2.2.1.length).any (memBad a)) && (a.2.2.1.length : Int) == a.2.1.1
def dirtBad (g : dG) (l : List dW) (i : Nat) : Bool := !(leb 0 (nth l i (0, [])).1 && leb (nth l i (0, [])).1 (g.2 - 1)) || (((nth l i (0, [])).2.length : Int) != g.1 - 1 || (!((nth l i (0, [])).2.all isW) || (decide (0 < i) && leb (nth l i (0, [])).1 (nth l ((i - 1 : Nat) : Int) (0, [])).1)))
def dirtyOk (g : dG) (l : List dW) : Bool := !((List.range l.length).any (dirtBad g l))
/-- an array that is right -/
noncomputable def arrOk (a : dA) : Bool :=
  n_spec_GeoOk a.2.1 && ((leb 1 a.1 && leb a.1 60000) && (memsOk a && (dirtyOk a.2.1 a.2.2.2.2.2.2.2.2.1 && ((leb (-1) a.2.2.2.1 && leb a.2.2.2.1 (a.2.1.1 - 1)) && ((leb 0 a.2.2.2.2.1 && leb a.2.2.2.2.1 a.2.1.2) && (!(a.2.2.2.1 == -1 && a.2.2.2.2.1 != 0) &&
  ((leb 0 a.2.2.2.2.2.2.1 && leb a.2.2.2.2.2.2.1 60000) && ((leb a.2.2.2.2.2.2.1 a.2.2.2.2.2.1 && leb a.2.2.2.2.2.1 60000) && (leb a.2.2.2.2.2.1 (a.2.2.2.2.2.2.1 + 4) && ((leb 0 a.2.2.2.2.2.2.2.1 && leb a.2.2.2.2.2.2.2.1 60000) && (leb (-1) a.2.2.2.2.2.2.2.2.2.1 && leb a.2.2.2.2.2.2.2.2.2.1 1000)))))))))))
theorem arrOk_geo {a : dA} (h : arrOk a = true) : n_spec_GeoOk a.2.1 = true := (Bool.and_eq_true_iff.1 h).1
theorem geo_f {a : Int × Int} (h : ¬ n_spec_GeoOk a = true) : n_spec_GeoOk a = false := by cases e : n_spec_GeoOk a <;> simp_all
theorem arrOk_mems {a : dA} (h : arrOk a = true) : memsOk a = true := by simp only [arrOk, Bool.and_eq_true] at h; exact h.2.2.1
theorem arrOk_len {a : dA} (h : arrOk a = true) : (a.2.2.1.length : Int) = a.2.1.1 := by have := arrOk_mems h; simp only [memsOk, Bool.and_eq_true, beq_iff_eq] at this; exact this.2
theorem memsOk_at {a : dA} (h : memsOk a = true) {i : Nat} (hi : i < a.2.2.1.length) : memOk (nth a.2.2.1 i noMem) = true ∧ ((nth a.2.2.1 i noMem).1.length : Int) = 6 + a.2.1.2 ∧ ((nth a.2.2.1 i noMem).2.2.1 = true → (i : Int) = a.2.2.2.1 ∨ a.2.2.2.2.2.2.2.2.2.2.2 = true) := by
  simp only [memsOk, Bool.and_eq_true, Bool.not_eq_true', List.any_eq_false, List.mem_range] at h
  have := h.1 i hi
  simp only [memBad, Bool.not_eq_true, Bool.or_eq_false_iff, Bool.not_eq_false', bne_eq_false_iff_eq, Bool.and_eq_false_iff] at this
  refine ⟨this.1, this.2.1, fun hf => ?_⟩
  rcases this.2.2 with h1 | h1 | h1
  · rw [hf] at h1; cases h1
  · exact .inl h1
  · exact .inr h1
theorem asc_len : ∀ {l : List Int} {lo n : Int}, l.Pairwise (· < ·) → (∀ x ∈ l, lo ≤ x ∧ x < n) → lo ≤ n → (l.length : Int) ≤ n - lo
  | [], lo, n, _, _, h => by simp; omega
  | x :: l, lo, n, hp, hx, h => by
    cases hp with
    | cons h1 h2 =>
      have h3 := hx x List.mem_cons_self
      have := asc_len (l := l) (lo := x + 1) (n := n) h2 (fun y hy => ⟨h1 y hy, (hx y (List.mem_cons_of_mem _ hy)).2⟩) (by omega)
      rw [List.length_cons]; omega
theorem badOk_iff {n : Nat} {l : List Int} : badOk n l = true ↔ (∀ x ∈ l, 0 ≤ x ∧ x < n) ∧ l.Pairwise (· < ·) := by
  simp only [badOk, Bool.and_eq_true, List.all_eq_true, inb_iff, decide_eq_true_eq]
theorem memOk_mk {m : dM} (h1 : m.1.all secOk = true) (h2 : m.2.1.all (wrOk m.1.length) = true) (h3 : badOk m.1.length m.2.2.2 = true) (h4 : 1 ≤ m.1.length) (h5 : m.1.length ≤ 20) (h6 : m.2.1.length ≤ 60) : memOk m = true := by
  simp only [memOk, h1, h2, h3, Bool.true_and, Bool.and_eq_true, leb_iff]
  omega
theorem memOk_small {m : dM} (h : memOk m = true) : mMem m ≤ 1041 := by
  obtain ⟨h1, h2, h3, h4, h5, h6⟩ := memOk_parts h
  have a1 := secs_small (b := 12) h5 (fun x hx => (secOk_iff.1 (List.all_eq_true.1 h1 x hx)).1)
  have a2 := sum_const (f := fun x : dW => 1 + x.2.length) (c := 13) (l := m.2.1) (fun w hw => by have := (secOk_iff.1 (Bool.and_eq_true_iff.1 (List.all_eq_true.1 h2 w hw)).2).1; omega)
  have a3 := Nat.mul_le_mul_right 13 h6
  obtain ⟨b1, b2⟩ := badOk_iff.1 h3
  have a4 := asc_len (lo := 0) (n := m.1.length) b2 b1 (by omega)
  unfold mMem
  omega
theorem layKept_ok {m : dM} (b : Nat → Bool) (h : memOk m = true) : (layKept b m.2.1 m.1).all secOk = true := by
  obtain ⟨h1, h2, _⟩ := memOk_parts h
  rw [List.all_eq_true]
  exact layKept_all (P := fun x => secOk x = true) (fun x hx => List.all_eq_true.1 h1 x hx) (fun w hw => (Bool.and_eq_true_iff.1 (List.all_eq_true.1 h2 w hw)).2)
theorem write_ok {m : dM} (n : Int) (s : List Int) (h : memOk m = true) : memOk (writeSec m n s).1 = true := by
  unfold writeSec
  cases hc : canWrite m n s
  · exact h
  · simp only [canWrite, Bool.and_eq_true, Bool.not_eq_true', ltb_iff] at hc
    obtain ⟨h1, h2, h3, h4, h5, h6⟩ := memOk_parts h
    refine memOk_mk h1 ?_ ?_ h4 h5 (by show (m.2.1 ++ [(n, s)]).length ≤ 60; rw [List.length_append]; simp only [List.length_cons, List.length_nil]; omega)
    · show (m.2.1 ++ [(n, s)]).all (wrOk m.1.length) = true
      rw [List.all_append, h2]
      simp [wrOk, hc.2.2.1, hc.2.2.2.1]
    · show badOk m.1.length (sans m.2.2.2 n) = true
      obtain ⟨b1, b2⟩ := badOk_iff.1 h3
      exact badOk_iff.2 ⟨fun x hx => b1 x (List.mem_filter.1 hx).1, b2.filter _⟩
theorem write_len (m : dM) (n : Int) (s : List Int) : (writeSec m n s).1.1 = m.1 ∧ (writeSec m n s).1.2.2.1 = m.2.2.1 := by
  unfold writeSec
  cases canWrite m n s <;> exact ⟨rfl, rfl⟩
theorem flush_ok {m : dM} (h : memOk m = true) : memOk (flushMem m) = true := by
  unfold flushMem
  cases hc : (memOk m && !m.2.2.1)
  · exact h
  · obtain ⟨h1, h2, h3, h4, h5, h6⟩ := memOk_parts h
    refine memOk_mk (layKept_ok _ h) rfl ?_ ?_ ?_ (Nat.zero_le _)
    · show badOk (layKept _ m.2.1 m.1).length m.2.2.2 = true; rw [layKept_len]; exact h3
    · show 1 ≤ (layKept _ m.2.1 m.1).length; rw [layKept_len]; exact h4
    · show (layKept _ m.2.1 m.1).length ≤ 20; rw [layKept_len]; exact h5
theorem flush_len (m : dM) : (flushMem m).1.length = m.1.length ∧ (flushMem m).2.2.1 = m.2.2.1 := by
  unfold flushMem
  cases (memOk m && !m.2.2.1)
  · exact ⟨rfl, rfl⟩
  · exact ⟨layKept_len, rfl⟩
theorem fail_ok {m : dM} (h : memOk m = true) : memOk (failMem m) = true := by
  obtain ⟨h1, h2, h3, h4, h5, h6⟩ := memOk_parts h
  exact memOk_mk h1 rfl h3 h4 h5 (Nat.zero_le _)
def okMems (l : List dM) : Prop := ∀ m ∈ l, memOk m = true
theorem okMems_set {l : List dM} {i : Nat} {x : dM} (h : okMems l) (hx : memOk x = true) : okMems (l.set i x) := fun m hm => by
  rcases List.mem_or_eq_of_mem_set hm with h1 | rfl
  · exact h m h1
  · exact hx
theorem okMems_at {l : List dM} {m : Int} (h : okMems l) (hm : inb m l.length = true) : memOk (nth l m noMem) = true := nth_mem (P := fun x => memOk x = true) hm h
theorem okMems_small {l : List dM} (h : okMems l) : mMems l ≤ l.length * 1041 := sum_const (f := mMem) (fun x hx => memOk_small (h x hx))
theorem arr_okMems {a : dA} (h : arrOk a = true) : okMems a.2.2.1 := fun m hm => by
  obtain ⟨i, hi, rfl⟩ := List.getElem_of_mem hm
  have := (memsOk_at (arrOk_mems h) hi).1
  rwa [nth_nat, getD_get hi] at this
noncomputable def strOk (g : dG) (s : Int) : Bool := n_spec_GeoOk g && (leb 0 s && leb s (g.2 - 1))
noncomputable def parityOf (g : dG) (s : Int) : Int := bif strOk g s then g.1 - 1 - s.tmod g.1 else -1
noncomputable def diskOf (g : dG) (s i : Int) : Int := bif strOk g s && (leb 0 i && leb i (g.1 - 2)) then (parityOf g s + 1 + i).tmod g.1 else -1
theorem strOk_iff {g : dG} {s : Int} : strOk g s = true ↔ n_spec_GeoOk g = true ∧ 0 ≤ s ∧ s ≤ g.2 - 1 := by simp [strOk, leb_iff]
theorem parity_in {g : dG} {s : Int} (h : strOk g s = true) : 0 ≤ parityOf g s ∧ parityOf g s ≤ g.1 - 1 := by
  have h1 := strOk_iff.1 h
  have h2 := geo_iff.1 h1.1
  unfold parityOf
  rw [h, cond_true, Int.tmod_eq_emod_of_nonneg h1.2.1]
  have := Int.emod_nonneg s (show g.1 ≠ 0 by omega)
  have := Int.emod_lt_of_pos s (show 0 < g.1 by omega)
  omega
theorem disk_in {g : dG} {s i : Int} (h : strOk g s = true) (h1 : 0 ≤ i) (h2 : i ≤ g.1 - 2) : 0 ≤ diskOf g s i ∧ diskOf g s i ≤ g.1 - 1 := by
  have h3 := geo_iff.1 (strOk_iff.1 h).1
  have h4 := parity_in h
  unfold diskOf
  rw [h, leb_t h1, leb_t h2, Bool.and_self, Bool.and_self, cond_true, Int.tmod_eq_emod_of_nonneg (by omega)]
  have := Int.emod_nonneg (parityOf g s + 1 + i) (show g.1 ≠ 0 by omega)
  have := Int.emod_lt_of_pos (parityOf g s + 1 + i) (show 0 < g.1 by omega)
  omega
/-- the last of n places that a thing is not at -/
def missAt (p : Nat → Bool) : Nat → Int
  | 0 => -1
  | n + 1 => bif p n then missAt p n else n
def miss2 (p : Nat → Bool) (n : Nat) : Bool := (List.range n).any (fun i => !p i && leb 0 (missAt p i))
theorem missAt_in (p : Nat → Bool) : ∀ n, missAt p n = -1 ∨ (0 ≤ missAt p n ∧ missAt p n < n ∧ p (missAt p n).toNat = false)
  | 0 => .inl rfl
  | n + 1 => by
    unfold missAt
    cases h : p n
    · exact .inr ⟨by show (0 : Int) ≤ n; omega, by show (n : Int) < _; omega, h⟩
    · rcases missAt_in p n with h1 | h1
      · exact .inl h1
      · exact .inr ⟨h1.1, by show missAt p n < _; omega, h1.2.2⟩
def wordList (a : dA) (s : Int) (n : Nat) : List Int := (List.range n).map (fun (i : Nat) => word a i s)
theorem wordList_len (a : dA) (s : Int) (n : Nat) : (wordList a s n).length = n := by unfold wordList; rw [List.length_map, List.length_range]
theorem wordList_succ (a : dA) (s : Int) (n : Nat) : wordList a s n ++ [word a n s] = wordList a s (n + 1) := by unfold wordList; rw [List.range_succ, List.map_append]; rfl
theorem wordList_at (a : dA) (s : Int) {i n : Nat} (h : i < n) : nth (wordList a s n) i 0 = word a i s := by
  unfold wordList
  rw [nth_nat, getD_get (by rw [List.length_map, List.length_range]; exact h)]; simp
/-- a stripe's words -/
def words (a : dA) (s : Int) : List Int × Bool :=
  bif miss2 (fun (i : Nat) => wordOk a i s) a.2.1.1.toNat then ([], false)
  else bif leb 0 (missAt (fun (i : Nat) => wordOk a i s) a.2.1.1.toNat) then ((wordList a s a.2.1.1.toNat).set (missAt (fun (i : Nat) => wordOk a i s) a.2.1.1.toNat).toNat (xorOf (wordList a s a.2.1.1.toNat)), true)
  else (wordList a s a.2.1.1.toNat, true)
theorem words_len {a : dA} {s : Int} (h : (words a s).2 = true) : (words a s).1.length = a.2.1.1.toNat := by
  unfold words at h ⊢
  cases h1 : miss2 (fun (i : Nat) => wordOk a i s) a.2.1.1.toNat
  · cases leb 0 (missAt (fun (i : Nat) => wordOk a i s) a.2.1.1.toNat)
    · exact wordList_len _ _ _
    · simp only [cond_false, cond_true, List.length_set]; exact wordList_len _ _ _
  · rw [h1] at h; cases h
theorem miss_word (a : dA) (s : Int) (n : Nat) (h : leb 0 (missAt (fun (i : Nat) => wordOk a i s) n) = true) : inb (missAt (fun (i : Nat) => wordOk a i s) n) (wordList a s n).length = true ∧ missWord (wordList a s n) (missAt (fun (i : Nat) => wordOk a i s) n) = xorOf (wordList a s n) := by
  rcases missAt_in (fun (i : Nat) => wordOk a i s) n with h1 | h1
  · rw [h1] at h; cases h
  · have h2 : inb (missAt (fun (i : Nat) => wordOk a i s) n) (wordList a s n).length = true := by rw [wordList_len, inb_iff]; exact ⟨h1.1, h1.2.1⟩
    refine ⟨h2, missWord0 h2 ?_⟩
    have h3 := wordList_at a s (show (missAt (fun (i : Nat) => wordOk a i s) n).toNat < n by omega)
    rw [show (((missAt (fun (i : Nat) => wordOk a i s) n).toNat : Nat) : Int) = missAt (fun (i : Nat) => wordOk a i s) n by omega] at h3
    rw [h3]
    unfold word
    have h4 : wordOk a (missAt (fun (i : Nat) => wordOk a i s) n) s = false := by
      have := h1.2.2
      have this : wordOk a ((missAt (fun (i : Nat) => wordOk a i s) n).toNat : Nat) s = false := h1.2.2
      rwa [show (((missAt (fun (i : Nat) => wordOk a i s) n).toNat : Nat) : Int) = missAt (fun (i : Nat) => wordOk a i s) n by omega] at this
    rw [h4]; rfl
noncomputable def dataA (a : dA) (s : Int) : List Int × Bool := bif (words a s).2 then ((List.range (a.2.1.1 - 1).toNat).map (fun (i : Nat) => nth (words a s).1 (diskOf a.2.1 s i) 0), true) else ([], false)
noncomputable def dataOf (a : dA) (s : Int) : List Int × Bool := bif arrOk a && (!a.2.2.2.2.2.2.2.2.2.2.2 && strOk a.2.1 s) then dataA a s else ([], false)
theorem dataA_len (a : dA) (s : Int) : (dataA a s).1.length ≤ (a.2.1.1 - 1).toNat := by
  unfold dataA
  cases (words a s).2
  · exact Nat.zero_le _
  · simp
noncomputable def durable (a : dA) : List Int := bif arrOk a && (List.range a.2.1.2.toNat).all (fun (s : Nat) => (dataOf a s).2) then (List.range a.2.1.2.toNat).flatMap (fun (s : Nat) => (dataOf a s).1) else []
end

/-! spec_l1Word -/
section
noncomputable def B_spec_l1Word : Code := (Tryz.f90.body).getD .skip
noncomputable def E_spec_l1Word : Env := envOf TT [(98, con_spec_l1In)] []
theorem fr_spec_l1Word_0 : FrOk Tryz.prog ⟨E_spec_l1Word, 5, fun _ => none⟩ B_spec_l1Word := frOk_base mixed tt_ok ⟨ok_spec_l1In, trivial⟩
noncomputable def D_spec_l1Word_0 : Nat → Option Seg := fun _ => none
abbrev I_spec_l1Word : List Par := [.rd tI]
abbrev U_spec_l1Word : List OT := [⟨false, tB, .fz⟩]
noncomputable def raw_spec_l1Word (a0 : Int) : Option (ResD U_spec_l1Word × MutD I_spec_l1Word) :=
  let r1 := n_spec_l1In a0 0 65535
  some ((r1, ()), ())
theorem e_spec_l1Word (x : InD I_spec_l1Word) : execF ⟨E_spec_l1Word, 5, D_spec_l1Word_0⟩ Tryz.f90.results.toList B_spec_l1Word I_spec_l1Word U_spec_l1Word x = raw_spec_l1Word x.1 := by kernel_rfl
theorem ok0_spec_l1Word : ConOk Tryz.prog 90 ⟨I_spec_l1Word, U_spec_l1Word, fun x => raw_spec_l1Word x.1⟩ := conOk_exec (fr_spec_l1Word_0) Tryz.func90 (by kernel_rfl) (by kernel_rfl) Tryz.ntmps90.symm (by decide) (fun x r h => (e_spec_l1Word x).trans h)
noncomputable def n_spec_l1Word (a0 : Int) : Bool :=
  let r1 := n_spec_l1In a0 0 65535
  r1
noncomputable def con_spec_l1Word : Con := ⟨I_spec_l1Word, U_spec_l1Word, fun x => (fun n => some ((n, ()), ())) (n_spec_l1Word x.1)⟩
theorem nn_spec_l1Word (a0 : Int) : raw_spec_l1Word a0 = (fun n => some ((n, ()), ())) (n_spec_l1Word a0) := bif_ty (p := fun (n : Bool) => ((n, ()), ())) rfl
theorem ok_spec_l1Word : ConOk Tryz.prog 90 con_spec_l1Word := (ok0_spec_l1Word).mono (fun x r _ h => (nn_spec_l1Word x.1).trans h)
end

/-! spec_l1Words -/
section
noncomputable def B_spec_l1Words : Code := (Tryz.f200.body).getD .skip
noncomputable def E_spec_l1Words : Env := envOf TT [(90, con_spec_l1Word)] []
theorem fr_spec_l1Words_0 : FrOk Tryz.prog ⟨E_spec_l1Words, 16, fun _ => none⟩ B_spec_l1Words := frOk_base mixed tt_ok ⟨ok_spec_l1Word, trivial⟩
noncomputable def D_spec_l1Words_0 : Nat → Option Seg := fun _ => none
def L_spec_l1Words_13 : Shape := ⟨[(0, false, [.br tI]), (3, false, [.int .i64])], [], []⟩
def S_spec_l1Words_13 : Shape := ⟨[(0, false, [.br tI]), (3, false, [.ci .i64 0])], [], []⟩
def O_spec_l1Words_13 : Shape := ⟨[], [], []⟩
def Z_spec_l1Words_13 : Shape := ⟨[(2, false, [.bool])], [], []⟩
noncomputable def st_spec_l1Words_13 (v0 : List Int) (v1 : Int) : Option ((L_spec_l1Words_13).X ⊕ ((O_spec_l1Words_13).X ⊕ (Z_spec_l1Words_13).X)) :=
  bif (ltb v1 (v0.length : Int)) then
    bif (inb v1 v0.length) then
      let r2 := n_spec_l1Word (nth v0 v1 0)
      bif (!r2) then
        some (.inr (.inr (((false, ()), ()), (), ())))
      else
        some (.inl (((v0, ()), ((IntKind.i64.wrap (v1 + 1)), ()), ()), (), ()))
    else none
  else
    some (.inr (.inl ((), (), ())))
noncomputable def stx_spec_l1Words_13 (x : (L_spec_l1Words_13).X) := st_spec_l1Words_13 x.1.1.1 x.1.2.1.1
def em_spec_l1Words_13 (x : (S_spec_l1Words_13).X) : (L_spec_l1Words_13).X := (((x.1.1.1, ()), (0, ()), ()), (), ())
noncomputable def c_spec_l1Words_13 : Code := (subN B_spec_l1Words 64 52).getD .skip
theorem a_spec_l1Words_13 : subN B_spec_l1Words 64 13 = some (.block 0 (.loop c_spec_l1Words_13)) := by kernel_rfl
theorem r_spec_l1Words_13 (x : (L_spec_l1Words_13).X) : roundT ⟨E_spec_l1Words, 16, D_spec_l1Words_0⟩ 0 c_spec_l1Words_13 52 L_spec_l1Words_13 O_spec_l1Words_13 Z_spec_l1Words_13 x = stx_spec_l1Words_13 x := by kernel_rfl
noncomputable def fu_spec_l1Words_13 (x : (S_spec_l1Words_13).X) : Nat := (fun (u0 : List Int) => 18446744073709551616) x.1.1.1
noncomputable def F_spec_l1Words_13 (x : (S_spec_l1Words_13).X) : Option ((O_spec_l1Words_13).X ⊕ (Z_spec_l1Words_13).X) := loopN stx_spec_l1Words_13 (fu_spec_l1Words_13 x) (em_spec_l1Words_13 x)
noncomputable def sg_spec_l1Words_13 : Seg := ⟨S_spec_l1Words_13, O_spec_l1Words_13, Z_spec_l1Words_13, F_spec_l1Words_13⟩
noncomputable def D_spec_l1Words_1 : Nat → Option Seg := fun q => bif Nat.beq q 13 then some sg_spec_l1Words_13 else D_spec_l1Words_0 q
theorem fr_spec_l1Words_1 : FrOk Tryz.prog ⟨E_spec_l1Words, 16, D_spec_l1Words_1⟩ B_spec_l1Words := (fr_spec_l1Words_0).loop (sg := sg_spec_l1Words_13) L_spec_l1Words_13 em_spec_l1Words_13 (by decide) a_spec_l1Words_13 stx_spec_l1Words_13 fu_spec_l1Words_13 (by decide) (fun _ => rfl) (fun x r _ h => h) r_spec_l1Words_13
abbrev I_spec_l1Words : List Par := [.rd tL]
abbrev U_spec_l1Words : List OT := [⟨false, tB, .fz⟩]
noncomputable def raw_spec_l1Words (a0 : List Int) : Option (ResD U_spec_l1Words × MutD I_spec_l1Words) :=
  segM (F_spec_l1Words_13 (((a0, ()), ((), ()), ()), (), ())) (fun y2 =>
    some ((true, ()), ())) (fun y2 =>
    some ((y2.1.1.1, ()), ()))
theorem e_spec_l1Words (x : InD I_spec_l1Words) : execF ⟨E_spec_l1Words, 16, D_spec_l1Words_1⟩ Tryz.f200.results.toList B_spec_l1Words I_spec_l1Words U_spec_l1Words x = raw_spec_l1Words x.1 := by kernel_rfl
theorem ok0_spec_l1Words : ConOk Tryz.prog 200 ⟨I_spec_l1Words, U_spec_l1Words, fun x => raw_spec_l1Words x.1⟩ := conOk_exec (fr_spec_l1Words_1) Tryz.func200 (by kernel_rfl) (by kernel_rfl) Tryz.ntmps200.symm (by decide) (fun x r h => (e_spec_l1Words x).trans h)
noncomputable def n_spec_l1Words (a0 : List Int) : Bool := a0.all n_spec_l1Word
theorem nn_spec_l1Words (a0 : List Int) (hk : InOk I_spec_l1Words (a0, ())) : raw_spec_l1Words a0 = (fun n => some ((n, ()), ())) (n_spec_l1Words a0) := by
  have hb : a0.length * 8 ≤ 2 ^ 47 := hk.1.1
  have hl : F_spec_l1Words_13 (((a0, ()), ((), ()), ()), (), ()) = some (bif a0.all n_spec_l1Word then .inl ((), (), ()) else .inr (((false, ()), ()), (), ())) :=
    loopN_list_all (step := stx_spec_l1Words_13) a0 0 (fun i => (((a0, ()), ((i : Int), ()), ()), (), ())) n_spec_l1Word _ _ (fun i hi => by
      simp only [stx_spec_l1Words_13, st_spec_l1Words_13, inb_nat hi, nth_nat, ltb_t (show (i : Int) < a0.length by omega), cond_true, wr (show -9223372036854775808 ≤ (i : Int) + 1 by omega) (by omega), Int.natCast_add, Int.natCast_one]
      cases n_spec_l1Word (a0.getD i 0) <;> rfl) (by simp only [stx_spec_l1Words_13, st_spec_l1Words_13, ltb_f (Int.le_refl _), cond_false]) _ (by show _ < 18446744073709551616; omega)
  unfold raw_spec_l1Words n_spec_l1Words
  rw [hl]
  cases a0.all n_spec_l1Word <;> rfl
noncomputable def con_spec_l1Words : Con := ⟨I_spec_l1Words, U_spec_l1Words, fun x => (fun n => some ((n, ()), ())) (n_spec_l1Words x.1)⟩
theorem ok_spec_l1Words : ConOk Tryz.prog 200 con_spec_l1Words := (ok0_spec_l1Words).mono (fun x r hk h => (nn_spec_l1Words x.1 hk).trans h)
end
end Go.Tf
