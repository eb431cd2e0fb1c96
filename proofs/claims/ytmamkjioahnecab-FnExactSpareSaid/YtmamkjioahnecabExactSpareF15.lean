/- Functions of the program, and what they come to. -/
import Derived.Test.YtmamkjioahnecabExactSpareF14
namespace Go.Tf
open Go.Proofs
set_option synthInstance.maxHeartbeats 400000
set_option synthInstance.maxSize 10000
set_option linter.unusedVariables false
set_option linter.unusedSimpArgs false
set_option maxRecDepth 100000
/-! impl_PutSuper -/
section
noncomputable def B_impl_PutSuper : Code := (Try.f78.body).getD .skip
noncomputable def E_impl_PutSuper : Env := envOf TT [(116, con_impl_SuperOk)] []
theorem fr_impl_PutSuper_0 : FrOk Try.prog ⟨E_impl_PutSuper, 24, fun _ => none⟩ B_impl_PutSuper := frOk_base mixed tt_ok ⟨ok_impl_SuperOk, trivial⟩
noncomputable def D_impl_PutSuper_0 : Nat → Option Seg := fun _ => none
abbrev I_impl_PutSuper : List Par := [.rd tS]
abbrev U_impl_PutSuper : List OT := [⟨false, tL, (.ow .fz)⟩]
noncomputable def raw_impl_PutSuper (a0 : dS) : Option (ResD U_impl_PutSuper × MutD I_impl_PutSuper) :=
  let r1 := n_impl_SuperOk a0
  bif (!r1) then
    some (([], ()), ())
  else
    some ((([21317, a0.1, a0.2.1, a0.2.2.1, a0.2.2.2.1, a0.2.2.2.2.1, a0.2.2.2.2.2.1, (IntKind.i64.wrap (a0.2.2.2.2.2.2.1 + 1)), a0.2.2.2.2.2.2.2] : List Int), ()), ())
theorem e_impl_PutSuper (x : InD I_impl_PutSuper) : execF ⟨E_impl_PutSuper, 24, D_impl_PutSuper_0⟩ Try.f78.results.toList B_impl_PutSuper I_impl_PutSuper U_impl_PutSuper x = raw_impl_PutSuper x.1 := by kernel_rfl
theorem ok0_impl_PutSuper : ConOk Try.prog 78 ⟨I_impl_PutSuper, U_impl_PutSuper, fun x => raw_impl_PutSuper x.1⟩ := conOk_exec (fr_impl_PutSuper_0) Try.func78 (by kernel_rfl) (by kernel_rfl) Try.ntmps78.symm (by decide) (fun x r h => (e_impl_PutSuper x).trans h)
noncomputable def n_impl_PutSuper (a0 : dS) : (List Int) :=
  let r1 := n_impl_SuperOk a0
  bif (!r1) then
    []
  else
    ([21317, a0.1, a0.2.1, a0.2.2.1, a0.2.2.2.1, a0.2.2.2.2.1, a0.2.2.2.2.2.1, (IntKind.i64.wrap (a0.2.2.2.2.2.2.1 + 1)), a0.2.2.2.2.2.2.2] : List Int)
noncomputable def con_impl_PutSuper : Con := ⟨I_impl_PutSuper, U_impl_PutSuper, fun x => (fun n => some ((n, ()), ())) (n_impl_PutSuper x.1)⟩
theorem nn_impl_PutSuper (a0 : dS) : raw_impl_PutSuper a0 = (fun n => some ((n, ()), ())) (n_impl_PutSuper a0) := bif_ty (p := fun (n : (List Int)) => ((n, ()), ())) (bif_some (p := fun (n : (List Int)) => ((n, ()), ())) rfl rfl)
theorem ok_impl_PutSuper : ConOk Try.prog 78 con_impl_PutSuper := (ok0_impl_PutSuper).mono (fun x r _ h => (nn_impl_PutSuper x.1).trans h)
theorem impl_put_eq (s : dS) : n_impl_PutSuper s = n_spec_PutSuper s := by
  unfold n_impl_PutSuper n_spec_PutSuper
  rw [impl_super_eq]
end

/-! impl_superOf -/
section
noncomputable def B_impl_superOf : Code := (Try.f79.body).getD .skip
noncomputable def E_impl_superOf : Env := envOf TT [] []
theorem fr_impl_superOf_0 : FrOk Try.prog ⟨E_impl_superOf, 23, fun _ => none⟩ B_impl_superOf := frOk_base mixed tt_ok trivial
noncomputable def D_impl_superOf_0 : Nat → Option Seg := fun _ => none
abbrev I_impl_superOf : List Par := [.rd tA, .rd tI]
abbrev U_impl_superOf : List OT := [⟨false, tS, (.pr .fz (.pr .fz (.pr .fz (.pr .fz (.pr .fz (.pr .fz (.pr .fz .fz)))))))⟩]
noncomputable def raw_impl_superOf (a0 : dA) (a1 : Int) : Option (ResD U_impl_superOf × MutD I_impl_superOf) :=
  some (((a0.1, a0.2.2.2.2.2.2.2.1, a1, a0.2.1.1, a0.2.1.2, a0.2.2.2.2.2.2.1, a0.2.2.2.1, a0.2.2.2.2.1), ()), ())
theorem e_impl_superOf (x : InD I_impl_superOf) : execF ⟨E_impl_superOf, 23, D_impl_superOf_0⟩ Try.f79.results.toList B_impl_superOf I_impl_superOf U_impl_superOf x = raw_impl_superOf x.1 x.2.1 := by kernel_rfl
theorem ok0_impl_superOf : ConOk Try.prog 79 ⟨I_impl_superOf, U_impl_superOf, fun x => raw_impl_superOf x.1 x.2.1⟩ := conOk_exec (fr_impl_superOf_0) Try.func79 (by kernel_rfl) (by kernel_rfl) Try.ntmps79.symm (by decide) (fun x r h => (e_impl_superOf x).trans h)
noncomputable def n_impl_superOf (a0 : dA) (a1 : Int) : dS :=
  (a0.1, a0.2.2.2.2.2.2.2.1, a1, a0.2.1.1, a0.2.1.2, a0.2.2.2.2.2.2.1, a0.2.2.2.1, a0.2.2.2.2.1)
noncomputable def con_impl_superOf : Con := ⟨I_impl_superOf, U_impl_superOf, fun x => (fun n => some ((n, ()), ())) (n_impl_superOf x.1 x.2.1)⟩
theorem nn_impl_superOf (a0 : dA) (a1 : Int) : raw_impl_superOf a0 a1 = (fun n => some ((n, ()), ())) (n_impl_superOf a0 a1) := bif_ty (p := fun (n : dS) => ((n, ()), ())) rfl
theorem ok_impl_superOf : ConOk Try.prog 79 con_impl_superOf := (ok0_impl_superOf).mono (fun x r _ h => (nn_impl_superOf x.1 x.2.1).trans h)
end

/-! impl_FlushMem -/
section
noncomputable def B_impl_FlushMem : Code := (Try.f117.body).getD .skip
noncomputable def E_impl_FlushMem : Env := envOf TT [(60, con_impl_copyInts), (75, con_impl_MemOk), (76, con_impl_copyMem)] []
theorem fr_impl_FlushMem_0 : FrOk Try.prog ⟨E_impl_FlushMem, 34, fun _ => none⟩ B_impl_FlushMem := frOk_base mixed tt_ok ⟨ok_impl_copyInts, ok_impl_MemOk, ok_impl_copyMem, trivial⟩
noncomputable def D_impl_FlushMem_0 : Nat → Option Seg := fun _ => none
def L_impl_FlushMem_61 : Shape := ⟨[(2, false, [.ptr 64 0]), (3, false, [.ptr 4224 0]), (17, false, [.br tW]), (18, false, [.int .i64]), (19, false, [.int .i64])], [(64, [.nil, .nil, .bool, .nil]), (4224, [.at 800000000, .at 800000001, .bool, .at 800000002])], [(800000000, tL, (.ow .fz)), (800000001, tW, (.pr .fz (.ow .fz))), (800000002, tI, .fz)]⟩
def S_impl_FlushMem_61 : Shape := ⟨[(2, false, [.ptr 64 0]), (3, false, [.ptr 4224 0]), (17, false, [.br tW]), (18, false, [.int .i64]), (19, false, [.ci .i64 0])], [(64, [.nil, .nil, .bool, .nil]), (4224, [.at 800000000, .at 800000001, .bool, .at 800000002])], [(800000000, tL, (.ow .fz)), (800000001, tW, (.pr .fz (.ow .fz))), (800000002, tI, .fz)]⟩
def O_impl_FlushMem_61 : Shape := ⟨[(2, false, [.ptr 64 0]), (3, false, [.ptr 4224 0])], [(64, [.nil, .nil, .bool, .nil]), (4224, [.at 800000000, .at 800000001, .bool, .at 800000002])], [(800000000, tL, (.ow .fz)), (800000001, tW, (.pr .fz (.ow .fz))), (800000002, tI, .fz)]⟩
def Z_impl_FlushMem_61 : Shape := ⟨[], [], []⟩
abbrev mk_impl_FlushMem_61 (v0 : List dW) (v1 : Int) (v2 : Int) (v3 : dM) (v4 : dM) : (L_impl_FlushMem_61).X := ((((), ()), ((), ()), (v0, ()), (v1, ()), (v2, ()), ()), (((), (), v3.2.2.1, (), ()), ((), (), v4.2.2.1, (), ()), ()), (v4.1, v4.2.1, v4.2.2.2, ()))
abbrev ms_impl_FlushMem_61 (v0 : List dW) (v1 : Int) (v2 : dM) (v3 : dM) : (S_impl_FlushMem_61).X := ((((), ()), ((), ()), (v0, ()), (v1, ()), ((), ()), ()), (((), (), v2.2.2.1, (), ()), ((), (), v3.2.2.1, (), ()), ()), (v3.1, v3.2.1, v3.2.2.2, ()))
abbrev mo_impl_FlushMem_61 (v0 : dM) (v1 : dM) : (O_impl_FlushMem_61).X := ((((), ()), ((), ()), ()), (((), (), v0.2.2.1, (), ()), ((), (), v1.2.2.1, (), ()), ()), (v1.1, v1.2.1, v1.2.2.2, ()))
noncomputable def st_impl_FlushMem_61 (v0 : List dW) (v1 : Int) (v2 : Int) (v3 : Bool) (v4 : Bool) (v5 : List (List Int)) (v6 : List dW) (v7 : List Int) : Option ((L_impl_FlushMem_61).X ⊕ ((O_impl_FlushMem_61).X ⊕ (Z_impl_FlushMem_61).X)) :=
  bif (ltb v2 v1) then
    bif (inb v2 v0.length) then
      let r4 := n_impl_copyInts ((nth v0 v2 (0, [])).2)
      bif (inb ((nth v0 v2 (0, [])).1) v5.length) then
        some (.inl ((((), ()), ((), ()), (v0, ()), (v1, ()), ((IntKind.i64.wrap (v2 + 1)), ()), ()), (((), (), v3, (), ()), ((), (), v4, (), ()), ()), ((v5.set ((nth v0 v2 (0, [])).1).toNat r4), v6, v7, ())))
      else none
    else none
  else
    some (.inr (.inl ((((), ()), ((), ()), ()), (((), (), v3, (), ()), ((), (), v4, (), ()), ()), (v5, v6, v7, ()))))
noncomputable def stx_impl_FlushMem_61 (x : (L_impl_FlushMem_61).X) := st_impl_FlushMem_61 x.1.2.2.1.1 x.1.2.2.2.1.1 x.1.2.2.2.2.1.1 x.2.1.1.2.2.1 x.2.1.2.1.2.2.1 x.2.2.1 x.2.2.2.1 x.2.2.2.2.1
def em_impl_FlushMem_61 (x : (S_impl_FlushMem_61).X) : (L_impl_FlushMem_61).X := ((((), ()), ((), ()), (x.1.2.2.1.1, ()), (x.1.2.2.2.1.1, ()), (0, ()), ()), (((), (), x.2.1.1.2.2.1, (), ()), ((), (), x.2.1.2.1.2.2.1, (), ()), ()), (x.2.2.1, x.2.2.2.1, x.2.2.2.2.1, ()))
noncomputable def c_impl_FlushMem_61 : Code := (subN B_impl_FlushMem 64 244).getD .skip
theorem a_impl_FlushMem_61 : subN B_impl_FlushMem 64 61 = some (.block 0 (.loop c_impl_FlushMem_61)) := by kernel_rfl
theorem r_impl_FlushMem_61 (x : (L_impl_FlushMem_61).X) : roundT ⟨E_impl_FlushMem, 34, D_impl_FlushMem_0⟩ 0 c_impl_FlushMem_61 244 L_impl_FlushMem_61 O_impl_FlushMem_61 Z_impl_FlushMem_61 x = stx_impl_FlushMem_61 x := by kernel_rfl
noncomputable def fu_impl_FlushMem_61 (x : (S_impl_FlushMem_61).X) : Nat := (fun (u0 : List dW) (u1 : Int) (u2 : Bool) (u3 : Bool) (u4 : List (List Int)) (u5 : List dW) (u6 : List Int) => 18446744073709551616) x.1.2.2.1.1 x.1.2.2.2.1.1 x.2.1.1.2.2.1 x.2.1.2.1.2.2.1 x.2.2.1 x.2.2.2.1 x.2.2.2.2.1
noncomputable def F_impl_FlushMem_61 (x : (S_impl_FlushMem_61).X) : Option ((O_impl_FlushMem_61).X ⊕ (Z_impl_FlushMem_61).X) := loopN stx_impl_FlushMem_61 (fu_impl_FlushMem_61 x) (em_impl_FlushMem_61 x)
noncomputable def sg_impl_FlushMem_61 : Seg := ⟨S_impl_FlushMem_61, O_impl_FlushMem_61, Z_impl_FlushMem_61, F_impl_FlushMem_61⟩
noncomputable def D_impl_FlushMem_1 : Nat → Option Seg := fun q => bif Nat.beq q 61 then some sg_impl_FlushMem_61 else D_impl_FlushMem_0 q
theorem fr_impl_FlushMem_1 : FrOk Try.prog ⟨E_impl_FlushMem, 34, D_impl_FlushMem_1⟩ B_impl_FlushMem := (fr_impl_FlushMem_0).loop (sg := sg_impl_FlushMem_61) L_impl_FlushMem_61 em_impl_FlushMem_61 (by decide) a_impl_FlushMem_61 stx_impl_FlushMem_61 fu_impl_FlushMem_61 (by decide) (fun _ => rfl) (fun x r _ h => h) r_impl_FlushMem_61
abbrev I_impl_FlushMem : List Par := [.rd tM]
abbrev U_impl_FlushMem : List OT := [⟨false, tM, (.pr (.ow (.ow .fz)) (.pr (.ow (.pr .fz (.ow .fz))) (.pr .fz (.ow .fz))))⟩]
noncomputable def raw_impl_FlushMem (a0 : dM) : Option (ResD U_impl_FlushMem × MutD I_impl_FlushMem) :=
  let r1 := n_impl_copyMem a0
  let r2 := n_impl_MemOk a0
  bif (!(!r2)) then
    bif a0.2.2.1 then
      some ((r1, ()), ())
    else
      segM (F_impl_FlushMem_61 ((((), ()), ((), ()), (a0.2.1, ()), ((a0.2.1.length : Int), ()), ((), ()), ()), (((), (), false, (), ()), ((), (), r1.2.2.1, (), ()), ()), (r1.1, r1.2.1, r1.2.2.2, ()))) (fun y4 =>
        some (((y4.2.2.1, [], y4.2.1.2.1.2.2.1, y4.2.2.2.2.1), ()), ())) (fun y4 =>
        none)
  else
    some ((r1, ()), ())
theorem e_impl_FlushMem (x : InD I_impl_FlushMem) : execF ⟨E_impl_FlushMem, 34, D_impl_FlushMem_1⟩ Try.f117.results.toList B_impl_FlushMem I_impl_FlushMem U_impl_FlushMem x = raw_impl_FlushMem x.1 := by kernel_rfl
theorem ok0_impl_FlushMem : ConOk Try.prog 117 ⟨I_impl_FlushMem, U_impl_FlushMem, fun x => raw_impl_FlushMem x.1⟩ := conOk_exec (fr_impl_FlushMem_1) Try.func117 (by kernel_rfl) (by kernel_rfl) Try.ntmps117.symm (by decide) (fun x r h => (e_impl_FlushMem x).trans h)
noncomputable def n_impl_FlushMem (a0 : dM) : dM := flushMem a0
theorem nn_impl_FlushMem (a0 : dM) (hk : InOk I_impl_FlushMem (a0, ())) : raw_impl_FlushMem a0 = (fun n => some ((n, ()), ())) (n_impl_FlushMem a0) := by
  have hb2 : a0.2.1.length * 32 ≤ 2 ^ 47 := hk.1.2.1.1
  unfold raw_impl_FlushMem n_impl_FlushMem flushMem
  simp only [n_impl_copyMem, n_impl_MemOk]
  cases hm : memOk a0
  · rfl
  have h1 : F_impl_FlushMem_61 (ms_impl_FlushMem_61 a0.2.1 a0.2.1.length noMem a0) = some (.inl (mo_impl_FlushMem_61 noMem (layKept (fun _ => true) a0.2.1 a0.1, a0.2))) :=
    loopN_rng (step := stx_impl_FlushMem_61) a0.2.1.length (fun i s => mk_impl_FlushMem_61 a0.2.1 a0.2.1.length i noMem (s, a0.2)) (layOne (fun _ => true) a0.2.1) (fun i s => s.length = a0.1.length) (fun s => .inl (mo_impl_FlushMem_61 noMem (s, a0.2))) (fun i s hi hs => by
      have hw := (memOk_wr hm hi).1
      refine ⟨?_, layOne_len.trans hs⟩
      simp only [stx_impl_FlushMem_61, mk_impl_FlushMem_61, st_impl_FlushMem_61, ltb_t (show (i : Int) < a0.2.1.length by omega), cond_true, wr (show -9223372036854775808 ≤ (i : Int) + 1 by omega) (by omega), Int.natCast_add, Int.natCast_one, Int.toNat_natCast, inb_nat hi, hs, hw, layOne, n_impl_copyInts]) (fun s hs => by simp only [stx_impl_FlushMem_61, mk_impl_FlushMem_61, st_impl_FlushMem_61, ltb_f (Int.le_refl _), cond_false]) a0.1 rfl _ (by show _ < 18446744073709551616; omega)
  rw [h1]
  cases hf : a0.2.2.1
  · exact congrArg (fun z => some (((layKept (fun _ => true) a0.2.1 a0.1, ([] : List dW), z, a0.2.2.2), ()), ())) hf
  · rfl
noncomputable def con_impl_FlushMem : Con := ⟨I_impl_FlushMem, U_impl_FlushMem, fun x => (fun n => some ((n, ()), ())) (n_impl_FlushMem x.1)⟩
theorem ok_impl_FlushMem : ConOk Try.prog 117 con_impl_FlushMem := (ok0_impl_FlushMem).mono (fun x r hk h => (nn_impl_FlushMem x.1 hk).trans h)
end

/-! impl_Arr_sync -/
section
noncomputable def B_impl_Arr_sync : Code := (Try.f80.body).getD .skip
noncomputable def E_impl_Arr_sync : Env := envOf TT [(114, con_impl_Arr_op), (117, con_impl_FlushMem)] []
theorem fr_impl_Arr_sync_0 : FrOk Try.prog ⟨E_impl_Arr_sync, 38, fun _ => none⟩ B_impl_Arr_sync := frOk_base mixed tt_ok ⟨ok_impl_Arr_op, ok_impl_FlushMem, trivial⟩
noncomputable def D_impl_Arr_sync_0 : Nat → Option Seg := fun _ => none
def L_impl_Arr_sync_13 : Shape := ⟨[(0, false, [.ptr 1000000000 0]), (8, false, [.int .i64]), (9, false, [.int .i64])], [(1000000000, [.int .i64, .int .i64, .int .i64, .at 800000000, .int .i64, .int .i64, .int .i64, .int .i64, .int .i64, .at 800000001, .int .i64, .bool, .bool])], [(800000000, tM, (.pr (.ow (.ow .fz)) (.pr (.ow (.pr .fz (.ow .fz))) (.pr .fz (.ow .fz))))), (800000001, tW, (.pr .fz (.ow .fz)))]⟩
def S_impl_Arr_sync_13 : Shape := ⟨[(0, false, [.ptr 1000000000 0]), (8, false, [.int .i64]), (9, false, [.ci .i64 0])], [(1000000000, [.int .i64, .int .i64, .int .i64, .at 800000000, .int .i64, .int .i64, .int .i64, .int .i64, .int .i64, .at 800000001, .int .i64, .bool, .bool])], [(800000000, tM, (.pr (.ow (.ow .fz)) (.pr (.ow (.pr .fz (.ow .fz))) (.pr .fz (.ow .fz))))), (800000001, tW, (.pr .fz (.ow .fz)))]⟩
def O_impl_Arr_sync_13 : Shape := ⟨[], [(1000000000, [.int .i64, .int .i64, .int .i64, .at 800000000, .int .i64, .int .i64, .int .i64, .int .i64, .int .i64, .at 800000001, .int .i64, .bool, .bool])], [(800000000, tM, (.pr (.ow (.ow .fz)) (.pr (.ow (.pr .fz (.ow .fz))) (.pr .fz (.ow .fz))))), (800000001, tW, (.pr .fz (.ow .fz)))]⟩
def Z_impl_Arr_sync_13 : Shape := ⟨[(2, false, [.bool])], [(1000000000, [.int .i64, .int .i64, .int .i64, .at 800000000, .int .i64, .int .i64, .int .i64, .int .i64, .int .i64, .at 800000001, .int .i64, .bool, .bool])], [(800000000, tM, (.pr (.ow (.ow .fz)) (.pr (.ow (.pr .fz (.ow .fz))) (.pr .fz (.ow .fz))))), (800000001, tW, (.pr .fz (.ow .fz)))]⟩
abbrev mk_impl_Arr_sync_13 (v0 : Int) (v1 : Int) (v2 : dA) : (L_impl_Arr_sync_13).X := ((((), ()), (v0, ()), (v1, ()), ()), ((v2.1, v2.2.1.1, v2.2.1.2, (), v2.2.2.2.1, v2.2.2.2.2.1, v2.2.2.2.2.2.1, v2.2.2.2.2.2.2.1, v2.2.2.2.2.2.2.2.1, (), v2.2.2.2.2.2.2.2.2.2.1, v2.2.2.2.2.2.2.2.2.2.2.1, v2.2.2.2.2.2.2.2.2.2.2.2, ()), ()), (v2.2.2.1, v2.2.2.2.2.2.2.2.2.1, ()))
abbrev ms_impl_Arr_sync_13 (v0 : Int) (v1 : dA) : (S_impl_Arr_sync_13).X := ((((), ()), (v0, ()), ((), ()), ()), ((v1.1, v1.2.1.1, v1.2.1.2, (), v1.2.2.2.1, v1.2.2.2.2.1, v1.2.2.2.2.2.1, v1.2.2.2.2.2.2.1, v1.2.2.2.2.2.2.2.1, (), v1.2.2.2.2.2.2.2.2.2.1, v1.2.2.2.2.2.2.2.2.2.2.1, v1.2.2.2.2.2.2.2.2.2.2.2, ()), ()), (v1.2.2.1, v1.2.2.2.2.2.2.2.2.1, ()))
abbrev mo_impl_Arr_sync_13 (v0 : dA) : (O_impl_Arr_sync_13).X := ((), ((v0.1, v0.2.1.1, v0.2.1.2, (), v0.2.2.2.1, v0.2.2.2.2.1, v0.2.2.2.2.2.1, v0.2.2.2.2.2.2.1, v0.2.2.2.2.2.2.2.1, (), v0.2.2.2.2.2.2.2.2.2.1, v0.2.2.2.2.2.2.2.2.2.2.1, v0.2.2.2.2.2.2.2.2.2.2.2, ()), ()), (v0.2.2.1, v0.2.2.2.2.2.2.2.2.1, ()))
abbrev mz_impl_Arr_sync_13 (v0 : Bool) (v1 : dA) : (Z_impl_Arr_sync_13).X := (((v0, ()), ()), ((v1.1, v1.2.1.1, v1.2.1.2, (), v1.2.2.2.1, v1.2.2.2.2.1, v1.2.2.2.2.2.1, v1.2.2.2.2.2.2.1, v1.2.2.2.2.2.2.2.1, (), v1.2.2.2.2.2.2.2.2.2.1, v1.2.2.2.2.2.2.2.2.2.2.1, v1.2.2.2.2.2.2.2.2.2.2.2, ()), ()), (v1.2.2.1, v1.2.2.2.2.2.2.2.2.1, ()))
noncomputable def st_impl_Arr_sync_13 (v0 : Int) (v1 : Int) (v2 : Int) (v3 : Int) (v4 : Int) (v5 : Int) (v6 : Int) (v7 : Int) (v8 : Int) (v9 : Int) (v10 : Int) (v11 : Bool) (v12 : Bool) (v13 : List dM) (v14 : List dW) : Option ((L_impl_Arr_sync_13).X ⊕ ((O_impl_Arr_sync_13).X ⊕ (Z_impl_Arr_sync_13).X)) :=
  bif (ltb v1 v0) then
    bif (inb v1 v13.length) then
      bif (((nth v13 v1 ([], [], false, [])).2).2).1 then
        some (.inl ((((), ()), (v0, ()), ((IntKind.i64.wrap (v1 + 1)), ()), ()), ((v2, v3, v4, (), v5, v6, v7, v8, v9, (), v10, v11, v12, ()), ()), (v13, v14, ())))
      else
        let r3 := n_impl_Arr_op (v2, (v3, v4), v13, v5, v6, v7, v8, v9, v14, v10, v11, v12)
        bif (!r3.1) then
          some (.inr (.inr (((false, ()), ()), ((r3.2.1, r3.2.2.1.1, r3.2.2.1.2, (), r3.2.2.2.2.1, r3.2.2.2.2.2.1, r3.2.2.2.2.2.2.1, r3.2.2.2.2.2.2.2.1, r3.2.2.2.2.2.2.2.2.1, (), r3.2.2.2.2.2.2.2.2.2.2.1, r3.2.2.2.2.2.2.2.2.2.2.2.1, r3.2.2.2.2.2.2.2.2.2.2.2.2, ()), ()), (r3.2.2.2.1, r3.2.2.2.2.2.2.2.2.2.1, ()))))
        else
          bif (inb v1 r3.2.2.2.1.length) then
            let r4 := n_impl_FlushMem ((nth r3.2.2.2.1 v1 ([], [], false, [])).1, ((nth r3.2.2.2.1 v1 ([], [], false, [])).2).1, (((nth r3.2.2.2.1 v1 ([], [], false, [])).2).2))
            bif (inb v1 r3.2.2.2.1.length) then
              some (.inl ((((), ()), (v0, ()), ((IntKind.i64.wrap (v1 + 1)), ()), ()), ((r3.2.1, r3.2.2.1.1, r3.2.2.1.2, (), r3.2.2.2.2.1, r3.2.2.2.2.2.1, r3.2.2.2.2.2.2.1, r3.2.2.2.2.2.2.2.1, r3.2.2.2.2.2.2.2.2.1, (), r3.2.2.2.2.2.2.2.2.2.2.1, r3.2.2.2.2.2.2.2.2.2.2.2.1, r3.2.2.2.2.2.2.2.2.2.2.2.2, ()), ()), ((r3.2.2.2.1.set (v1).toNat r4), r3.2.2.2.2.2.2.2.2.2.1, ())))
            else none
          else none
    else none
  else
    some (.inr (.inl ((), ((v2, v3, v4, (), v5, v6, v7, v8, v9, (), v10, v11, v12, ()), ()), (v13, v14, ()))))
noncomputable def stx_impl_Arr_sync_13 (x : (L_impl_Arr_sync_13).X) := st_impl_Arr_sync_13 x.1.2.1.1 x.1.2.2.1.1 x.2.1.1.1 x.2.1.1.2.1 x.2.1.1.2.2.1 x.2.1.1.2.2.2.2.1 x.2.1.1.2.2.2.2.2.1 x.2.1.1.2.2.2.2.2.2.1 x.2.1.1.2.2.2.2.2.2.2.1 x.2.1.1.2.2.2.2.2.2.2.2.1 x.2.1.1.2.2.2.2.2.2.2.2.2.2.1 x.2.1.1.2.2.2.2.2.2.2.2.2.2.2.1 x.2.1.1.2.2.2.2.2.2.2.2.2.2.2.2.1 x.2.2.1 x.2.2.2.1
def em_impl_Arr_sync_13 (x : (S_impl_Arr_sync_13).X) : (L_impl_Arr_sync_13).X := ((((), ()), (x.1.2.1.1, ()), (0, ()), ()), ((x.2.1.1.1, x.2.1.1.2.1, x.2.1.1.2.2.1, (), x.2.1.1.2.2.2.2.1, x.2.1.1.2.2.2.2.2.1, x.2.1.1.2.2.2.2.2.2.1, x.2.1.1.2.2.2.2.2.2.2.1, x.2.1.1.2.2.2.2.2.2.2.2.1, (), x.2.1.1.2.2.2.2.2.2.2.2.2.2.1, x.2.1.1.2.2.2.2.2.2.2.2.2.2.2.1, x.2.1.1.2.2.2.2.2.2.2.2.2.2.2.2.1, ()), ()), (x.2.2.1, x.2.2.2.1, ()))
noncomputable def c_impl_Arr_sync_13 : Code := (subN B_impl_Arr_sync 64 52).getD .skip
theorem a_impl_Arr_sync_13 : subN B_impl_Arr_sync 64 13 = some (.block 0 (.loop c_impl_Arr_sync_13)) := by kernel_rfl
theorem r_impl_Arr_sync_13 (x : (L_impl_Arr_sync_13).X) : roundT ⟨E_impl_Arr_sync, 38, D_impl_Arr_sync_0⟩ 0 c_impl_Arr_sync_13 52 L_impl_Arr_sync_13 O_impl_Arr_sync_13 Z_impl_Arr_sync_13 x = stx_impl_Arr_sync_13 x := by kernel_rfl
noncomputable def fu_impl_Arr_sync_13 (x : (S_impl_Arr_sync_13).X) : Nat := (fun (u0 : Int) (u1 : Int) (u2 : Int) (u3 : Int) (u4 : Int) (u5 : Int) (u6 : Int) (u7 : Int) (u8 : Int) (u9 : Int) (u10 : Bool) (u11 : Bool) (u12 : List dM) (u13 : List dW) => 18446744073709551616) x.1.2.1.1 x.2.1.1.1 x.2.1.1.2.1 x.2.1.1.2.2.1 x.2.1.1.2.2.2.2.1 x.2.1.1.2.2.2.2.2.1 x.2.1.1.2.2.2.2.2.2.1 x.2.1.1.2.2.2.2.2.2.2.1 x.2.1.1.2.2.2.2.2.2.2.2.1 x.2.1.1.2.2.2.2.2.2.2.2.2.2.1 x.2.1.1.2.2.2.2.2.2.2.2.2.2.2.1 x.2.1.1.2.2.2.2.2.2.2.2.2.2.2.2.1 x.2.2.1 x.2.2.2.1
noncomputable def F_impl_Arr_sync_13 (x : (S_impl_Arr_sync_13).X) : Option ((O_impl_Arr_sync_13).X ⊕ (Z_impl_Arr_sync_13).X) := loopN stx_impl_Arr_sync_13 (fu_impl_Arr_sync_13 x) (em_impl_Arr_sync_13 x)
noncomputable def sg_impl_Arr_sync_13 : Seg := ⟨S_impl_Arr_sync_13, O_impl_Arr_sync_13, Z_impl_Arr_sync_13, F_impl_Arr_sync_13⟩
noncomputable def D_impl_Arr_sync_1 : Nat → Option Seg := fun q => bif Nat.beq q 13 then some sg_impl_Arr_sync_13 else D_impl_Arr_sync_0 q
theorem fr_impl_Arr_sync_1 : FrOk Try.prog ⟨E_impl_Arr_sync, 38, D_impl_Arr_sync_1⟩ B_impl_Arr_sync := (fr_impl_Arr_sync_0).loop (sg := sg_impl_Arr_sync_13) L_impl_Arr_sync_13 em_impl_Arr_sync_13 (by decide) a_impl_Arr_sync_13 stx_impl_Arr_sync_13 fu_impl_Arr_sync_13 (by decide) (fun _ => rfl) (fun x r _ h => h) r_impl_Arr_sync_13
abbrev I_impl_Arr_sync : List Par := [.pt tA (.pr .fz (.pr (.pr .fz .fz) (.pr (.ow (.pr (.ow (.ow .fz)) (.pr (.ow (.pr .fz (.ow .fz))) (.pr .fz (.ow .fz))))) (.pr .fz (.pr .fz (.pr .fz (.pr .fz (.pr .fz (.pr (.ow (.pr .fz (.ow .fz))) (.pr .fz (.pr .fz .fz)))))))))))]
abbrev U_impl_Arr_sync : List OT := [⟨false, tB, .fz⟩]
noncomputable def raw_impl_Arr_sync (a0 : dA) : Option (ResD U_impl_Arr_sync × MutD I_impl_Arr_sync) :=
  segM (F_impl_Arr_sync_13 ((((), ()), ((a0.2.2.1.length : Int), ()), ((), ()), ()), ((a0.1, a0.2.1.1, a0.2.1.2, (), a0.2.2.2.1, a0.2.2.2.2.1, a0.2.2.2.2.2.1, a0.2.2.2.2.2.2.1, a0.2.2.2.2.2.2.2.1, (), a0.2.2.2.2.2.2.2.2.2.1, a0.2.2.2.2.2.2.2.2.2.2.1, a0.2.2.2.2.2.2.2.2.2.2.2, ()), ()), (a0.2.2.1, a0.2.2.2.2.2.2.2.2.1, ()))) (fun y4 =>
    some ((true, ()), ((y4.2.1.1.1, (y4.2.1.1.2.1, y4.2.1.1.2.2.1), y4.2.2.1, y4.2.1.1.2.2.2.2.1, y4.2.1.1.2.2.2.2.2.1, y4.2.1.1.2.2.2.2.2.2.1, y4.2.1.1.2.2.2.2.2.2.2.1, y4.2.1.1.2.2.2.2.2.2.2.2.1, y4.2.2.2.1, y4.2.1.1.2.2.2.2.2.2.2.2.2.2.1, y4.2.1.1.2.2.2.2.2.2.2.2.2.2.2.1, y4.2.1.1.2.2.2.2.2.2.2.2.2.2.2.2.1), ()))) (fun y4 =>
    some ((y4.1.1.1, ()), ((y4.2.1.1.1, (y4.2.1.1.2.1, y4.2.1.1.2.2.1), y4.2.2.1, y4.2.1.1.2.2.2.2.1, y4.2.1.1.2.2.2.2.2.1, y4.2.1.1.2.2.2.2.2.2.1, y4.2.1.1.2.2.2.2.2.2.2.1, y4.2.1.1.2.2.2.2.2.2.2.2.1, y4.2.2.2.1, y4.2.1.1.2.2.2.2.2.2.2.2.2.2.1, y4.2.1.1.2.2.2.2.2.2.2.2.2.2.2.1, y4.2.1.1.2.2.2.2.2.2.2.2.2.2.2.2.1), ())))
theorem e_impl_Arr_sync (x : InD I_impl_Arr_sync) : execF ⟨E_impl_Arr_sync, 38, D_impl_Arr_sync_1⟩ Try.f80.results.toList B_impl_Arr_sync I_impl_Arr_sync U_impl_Arr_sync x = raw_impl_Arr_sync x.1 := by kernel_rfl
theorem ok0_impl_Arr_sync : ConOk Try.prog 80 ⟨I_impl_Arr_sync, U_impl_Arr_sync, fun x => raw_impl_Arr_sync x.1⟩ := conOk_exec (fr_impl_Arr_sync_1) Try.func80 (by kernel_rfl) (by kernel_rfl) Try.ntmps80.symm (by decide) (fun x r h => (e_impl_Arr_sync x).trans h)
noncomputable def n_impl_Arr_sync (a0 : dA) : Bool × dA := (!(downA (syncA a0)), syncA a0)
noncomputable def q_impl_Arr_sync (a0 : dA) : Bool := !(downA a0)
theorem nn_impl_Arr_sync (a0 : dA) (hk : InOk I_impl_Arr_sync (a0, ())) (hq : q_impl_Arr_sync a0 = true) : raw_impl_Arr_sync a0 = (fun n => some ((n.1, ()), (n.2, ()))) (n_impl_Arr_sync a0) := by
  have hb : a0.2.2.1.length * 80 ≤ 2 ^ 47 := hk.1.2.2.1.1
  have h1 : F_impl_Arr_sync_13 (ms_impl_Arr_sync_13 a0.2.2.1.length a0) = some (bif downA (syncA a0) then .inr (mz_impl_Arr_sync_13 false (syncA a0)) else .inl (mo_impl_Arr_sync_13 (syncA a0))) := by
    have := loopN_goE (step := stx_impl_Arr_sync_13) a0.2.2.1.length (fun i s => mk_impl_Arr_sync_13 a0.2.2.1.length i s) (fun i s => bif downA (syncOne s i) then (.inr (syncOne s i) : dA ⊕ dA) else .inl (syncOne s i)) (fun _ s => s.2.2.1.length = a0.2.2.1.length ∧ downA s = false) id
      (fun b => bif downA b then .inr (mz_impl_Arr_sync_13 false b) else .inl (mo_impl_Arr_sync_13 b)) (fun i s hi hs => by
        constructor
        · rw [syncOne_down hs.2]
          simp only [stx_impl_Arr_sync_13, mk_impl_Arr_sync_13, st_impl_Arr_sync_13, hs.1, ltb_t (show (i : Int) < a0.2.2.1.length by omega), cond_true, wr (show -9223372036854775808 ≤ (i : Int) + 1 by omega) (by omega), Int.natCast_add, Int.natCast_one, Int.toNat_natCast, inb_nat hi, pr_eta, impl_op_eq hs.2, op_mems, n_impl_FlushMem]
          cases hf : (nth s.2.2.1 i noMem).2.2.1
          · cases ho : (opA s).1
            · have e : syncOne s i = (opA s).2 := by unfold syncOne; rw [hf, ho]; rfl
              have d : downA (opA s).2 = true := by rw [op_down hs.2, ho]; rfl
              rw [e]
              simp only [Bool.not_false, Bool.and_self, cond_true, cond_false, d, op_mems, mz_impl_Arr_sync_13]
            · have e : syncOne s i = setMem (opA s).2 i (flushMem (nth s.2.2.1 i noMem)) := by unfold syncOne; rw [hf, ho]; rfl
              rw [e]
              simp only [Bool.not_true, Bool.not_false, Bool.and_false, cond_true, cond_false, mk_impl_Arr_sync_13, setMem, op_mems, Int.toNat_natCast]
          · have e : syncOne s i = s := by unfold syncOne; rw [hf]; rfl
            rw [e]; rfl
        · intro s' h
          cases hd : downA (syncOne s i)
          · rw [hd] at h
            cases h
            exact ⟨(syncOne_len s i).trans hs.1, hd⟩
          · rw [hd] at h; cases h) (fun s hs => by simp only [stx_impl_Arr_sync_13, mk_impl_Arr_sync_13, st_impl_Arr_sync_13, hs.2, ltb_f (Int.le_refl _), cond_false, id, mo_impl_Arr_sync_13]) a0 ⟨rfl, by simpa [q_impl_Arr_sync] using hq⟩ 18446744073709551616 (by omega)
    rw [goE_fold (fun a i h => syncOne_stop i h), ← List.range_eq_range'] at this
    exact this
  unfold raw_impl_Arr_sync n_impl_Arr_sync
  rw [h1]
  cases hd : downA (syncA a0) <;> rfl
noncomputable def o_impl_Arr_sync (a0 : dA) : Option (ResD U_impl_Arr_sync × MutD I_impl_Arr_sync) := bif q_impl_Arr_sync a0 then (fun n => some ((n.1, ()), (n.2, ()))) (n_impl_Arr_sync a0) else none
theorem ot_impl_Arr_sync (a0 : dA) (h : q_impl_Arr_sync a0 = true) : o_impl_Arr_sync a0 = (fun n => some ((n.1, ()), (n.2, ()))) (n_impl_Arr_sync a0) := by unfold o_impl_Arr_sync; rw [h]; rfl
noncomputable def con_impl_Arr_sync : Con := ⟨I_impl_Arr_sync, U_impl_Arr_sync, fun x => o_impl_Arr_sync x.1⟩
theorem ok_impl_Arr_sync : ConOk Try.prog 80 con_impl_Arr_sync := (ok0_impl_Arr_sync).mono (fun x r hk h => pre_ok h (fun hq => nn_impl_Arr_sync x.1 hk hq))
end

/-! impl_Arr_mark -/
section
noncomputable def B_impl_Arr_mark : Code := (Try.f41.body).getD .skip
noncomputable def E_impl_Arr_mark : Env := envOf TT [(77, con_impl_Arr_write), (78, con_impl_PutSuper), (79, con_impl_superOf), (80, con_impl_Arr_sync)] []
theorem fr_impl_Arr_mark_0 : FrOk Try.prog ⟨E_impl_Arr_mark, 37, fun _ => none⟩ B_impl_Arr_mark := frOk_base mixed tt_ok ⟨ok_impl_Arr_write, ok_impl_PutSuper, ok_impl_superOf, ok_impl_Arr_sync, trivial⟩
noncomputable def D_impl_Arr_mark_0 : Nat → Option Seg := fun _ => none
def L_impl_Arr_mark_29 : Shape := ⟨[(0, false, [.ptr 1000000000 0]), (15, false, [.int .i64]), (16, false, [.int .i64])], [(1000000000, [.int .i64, .int .i64, .int .i64, .at 800000000, .int .i64, .int .i64, .int .i64, .int .i64, .int .i64, .at 800000001, .int .i64, .bool, .bool])], [(800000000, tM, (.pr (.ow (.ow .fz)) (.pr (.ow (.pr .fz (.ow .fz))) (.pr .fz (.ow .fz))))), (800000001, tW, (.pr .fz (.ow .fz)))]⟩
def S_impl_Arr_mark_29 : Shape := ⟨[(0, false, [.ptr 1000000000 0]), (15, false, [.int .i64]), (16, false, [.ci .i64 0])], [(1000000000, [.int .i64, .int .i64, .int .i64, .at 800000000, .int .i64, .int .i64, .int .i64, .int .i64, .int .i64, .at 800000001, .int .i64, .bool, .bool])], [(800000000, tM, (.pr (.ow (.ow .fz)) (.pr (.ow (.pr .fz (.ow .fz))) (.pr .fz (.ow .fz))))), (800000001, tW, (.pr .fz (.ow .fz)))]⟩
def O_impl_Arr_mark_29 : Shape := ⟨[(0, false, [.ptr 1000000000 0])], [(1000000000, [.int .i64, .int .i64, .int .i64, .at 800000000, .int .i64, .int .i64, .int .i64, .int .i64, .int .i64, .at 800000001, .int .i64, .bool, .bool])], [(800000000, tM, (.pr (.ow (.ow .fz)) (.pr (.ow (.pr .fz (.ow .fz))) (.pr .fz (.ow .fz))))), (800000001, tW, (.pr .fz (.ow .fz)))]⟩
def Z_impl_Arr_mark_29 : Shape := ⟨[(2, false, [.bool])], [(1000000000, [.int .i64, .int .i64, .int .i64, .at 800000000, .int .i64, .int .i64, .int .i64, .int .i64, .int .i64, .at 800000001, .int .i64, .bool, .bool])], [(800000000, tM, (.pr (.ow (.ow .fz)) (.pr (.ow (.pr .fz (.ow .fz))) (.pr .fz (.ow .fz))))), (800000001, tW, (.pr .fz (.ow .fz)))]⟩
abbrev mk_impl_Arr_mark_29 (v0 : Int) (v1 : Int) (v2 : dA) : (L_impl_Arr_mark_29).X := ((((), ()), (v0, ()), (v1, ()), ()), ((v2.1, v2.2.1.1, v2.2.1.2, (), v2.2.2.2.1, v2.2.2.2.2.1, v2.2.2.2.2.2.1, v2.2.2.2.2.2.2.1, v2.2.2.2.2.2.2.2.1, (), v2.2.2.2.2.2.2.2.2.2.1, v2.2.2.2.2.2.2.2.2.2.2.1, v2.2.2.2.2.2.2.2.2.2.2.2, ()), ()), (v2.2.2.1, v2.2.2.2.2.2.2.2.2.1, ()))
abbrev ms_impl_Arr_mark_29 (v0 : Int) (v1 : dA) : (S_impl_Arr_mark_29).X := ((((), ()), (v0, ()), ((), ()), ()), ((v1.1, v1.2.1.1, v1.2.1.2, (), v1.2.2.2.1, v1.2.2.2.2.1, v1.2.2.2.2.2.1, v1.2.2.2.2.2.2.1, v1.2.2.2.2.2.2.2.1, (), v1.2.2.2.2.2.2.2.2.2.1, v1.2.2.2.2.2.2.2.2.2.2.1, v1.2.2.2.2.2.2.2.2.2.2.2, ()), ()), (v1.2.2.1, v1.2.2.2.2.2.2.2.2.1, ()))
abbrev mo_impl_Arr_mark_29 (v0 : dA) : (O_impl_Arr_mark_29).X := ((((), ()), ()), ((v0.1, v0.2.1.1, v0.2.1.2, (), v0.2.2.2.1, v0.2.2.2.2.1, v0.2.2.2.2.2.1, v0.2.2.2.2.2.2.1, v0.2.2.2.2.2.2.2.1, (), v0.2.2.2.2.2.2.2.2.2.1, v0.2.2.2.2.2.2.2.2.2.2.1, v0.2.2.2.2.2.2.2.2.2.2.2, ()), ()), (v0.2.2.1, v0.2.2.2.2.2.2.2.2.1, ()))
abbrev mz_impl_Arr_mark_29 (v0 : Bool) (v1 : dA) : (Z_impl_Arr_mark_29).X := (((v0, ()), ()), ((v1.1, v1.2.1.1, v1.2.1.2, (), v1.2.2.2.1, v1.2.2.2.2.1, v1.2.2.2.2.2.1, v1.2.2.2.2.2.2.1, v1.2.2.2.2.2.2.2.1, (), v1.2.2.2.2.2.2.2.2.2.1, v1.2.2.2.2.2.2.2.2.2.2.1, v1.2.2.2.2.2.2.2.2.2.2.2, ()), ()), (v1.2.2.1, v1.2.2.2.2.2.2.2.2.1, ()))
noncomputable def st_impl_Arr_mark_29 (v0 : Int) (v1 : Int) (v2 : Int) (v3 : Int) (v4 : Int) (v5 : Int) (v6 : Int) (v7 : Int) (v8 : Int) (v9 : Int) (v10 : Int) (v11 : Bool) (v12 : Bool) (v13 : List dM) (v14 : List dW) : Option ((L_impl_Arr_mark_29).X ⊕ ((O_impl_Arr_mark_29).X ⊕ (Z_impl_Arr_mark_29).X)) :=
  bif (ltb v1 v0) then
    let r4 := n_impl_superOf (v2, (v3, v4), v13, v5, v6, v7, v8, v9, v14, v10, v11, v12) v1
    let r5 := n_impl_PutSuper r4
    bnd (o_impl_Arr_write (v2, (v3, v4), v13, v5, v6, v7, v8, v9, v14, v10, v11, v12) v1 (v9.tmod 2) r5) fun r6 =>
    bif (!r6.1.1) then
      some (.inr (.inr (((false, ()), ()), ((r6.2.1.1, r6.2.1.2.1.1, r6.2.1.2.1.2, (), r6.2.1.2.2.2.1, r6.2.1.2.2.2.2.1, r6.2.1.2.2.2.2.2.1, r6.2.1.2.2.2.2.2.2.1, r6.2.1.2.2.2.2.2.2.2.1, (), r6.2.1.2.2.2.2.2.2.2.2.2.1, r6.2.1.2.2.2.2.2.2.2.2.2.2.1, r6.2.1.2.2.2.2.2.2.2.2.2.2.2, ()), ()), (r6.2.1.2.2.1, r6.2.1.2.2.2.2.2.2.2.2.1, ()))))
    else
      some (.inl ((((), ()), (v0, ()), ((IntKind.i64.wrap (v1 + 1)), ()), ()), ((r6.2.1.1, r6.2.1.2.1.1, r6.2.1.2.1.2, (), r6.2.1.2.2.2.1, r6.2.1.2.2.2.2.1, r6.2.1.2.2.2.2.2.1, r6.2.1.2.2.2.2.2.2.1, r6.2.1.2.2.2.2.2.2.2.1, (), r6.2.1.2.2.2.2.2.2.2.2.2.1, r6.2.1.2.2.2.2.2.2.2.2.2.2.1, r6.2.1.2.2.2.2.2.2.2.2.2.2.2, ()), ()), (r6.2.1.2.2.1, r6.2.1.2.2.2.2.2.2.2.2.1, ())))
  else
    some (.inr (.inl ((((), ()), ()), ((v2, v3, v4, (), v5, v6, v7, v8, v9, (), v10, v11, v12, ()), ()), (v13, v14, ()))))
noncomputable def stx_impl_Arr_mark_29 (x : (L_impl_Arr_mark_29).X) := st_impl_Arr_mark_29 x.1.2.1.1 x.1.2.2.1.1 x.2.1.1.1 x.2.1.1.2.1 x.2.1.1.2.2.1 x.2.1.1.2.2.2.2.1 x.2.1.1.2.2.2.2.2.1 x.2.1.1.2.2.2.2.2.2.1 x.2.1.1.2.2.2.2.2.2.2.1 x.2.1.1.2.2.2.2.2.2.2.2.1 x.2.1.1.2.2.2.2.2.2.2.2.2.2.1 x.2.1.1.2.2.2.2.2.2.2.2.2.2.2.1 x.2.1.1.2.2.2.2.2.2.2.2.2.2.2.2.1 x.2.2.1 x.2.2.2.1
def em_impl_Arr_mark_29 (x : (S_impl_Arr_mark_29).X) : (L_impl_Arr_mark_29).X := ((((), ()), (x.1.2.1.1, ()), (0, ()), ()), ((x.2.1.1.1, x.2.1.1.2.1, x.2.1.1.2.2.1, (), x.2.1.1.2.2.2.2.1, x.2.1.1.2.2.2.2.2.1, x.2.1.1.2.2.2.2.2.2.1, x.2.1.1.2.2.2.2.2.2.2.1, x.2.1.1.2.2.2.2.2.2.2.2.1, (), x.2.1.1.2.2.2.2.2.2.2.2.2.2.1, x.2.1.1.2.2.2.2.2.2.2.2.2.2.2.1, x.2.1.1.2.2.2.2.2.2.2.2.2.2.2.2.1, ()), ()), (x.2.2.1, x.2.2.2.1, ()))
noncomputable def c_impl_Arr_mark_29 : Code := (subN B_impl_Arr_mark 64 116).getD .skip
theorem a_impl_Arr_mark_29 : subN B_impl_Arr_mark 64 29 = some (.block 0 (.loop c_impl_Arr_mark_29)) := by kernel_rfl
theorem r_impl_Arr_mark_29 (x : (L_impl_Arr_mark_29).X) : roundT ⟨E_impl_Arr_mark, 37, D_impl_Arr_mark_0⟩ 0 c_impl_Arr_mark_29 116 L_impl_Arr_mark_29 O_impl_Arr_mark_29 Z_impl_Arr_mark_29 x = stx_impl_Arr_mark_29 x := by kernel_rfl
noncomputable def fu_impl_Arr_mark_29 (x : (S_impl_Arr_mark_29).X) : Nat := (fun (u0 : Int) (u1 : Int) (u2 : Int) (u3 : Int) (u4 : Int) (u5 : Int) (u6 : Int) (u7 : Int) (u8 : Int) (u9 : Int) (u10 : Bool) (u11 : Bool) (u12 : List dM) (u13 : List dW) => 18446744073709551616) x.1.2.1.1 x.2.1.1.1 x.2.1.1.2.1 x.2.1.1.2.2.1 x.2.1.1.2.2.2.2.1 x.2.1.1.2.2.2.2.2.1 x.2.1.1.2.2.2.2.2.2.1 x.2.1.1.2.2.2.2.2.2.2.1 x.2.1.1.2.2.2.2.2.2.2.2.1 x.2.1.1.2.2.2.2.2.2.2.2.2.2.1 x.2.1.1.2.2.2.2.2.2.2.2.2.2.2.1 x.2.1.1.2.2.2.2.2.2.2.2.2.2.2.2.1 x.2.2.1 x.2.2.2.1
noncomputable def F_impl_Arr_mark_29 (x : (S_impl_Arr_mark_29).X) : Option ((O_impl_Arr_mark_29).X ⊕ (Z_impl_Arr_mark_29).X) := loopN stx_impl_Arr_mark_29 (fu_impl_Arr_mark_29 x) (em_impl_Arr_mark_29 x)
noncomputable def sg_impl_Arr_mark_29 : Seg := ⟨S_impl_Arr_mark_29, O_impl_Arr_mark_29, Z_impl_Arr_mark_29, F_impl_Arr_mark_29⟩
noncomputable def D_impl_Arr_mark_1 : Nat → Option Seg := fun q => bif Nat.beq q 29 then some sg_impl_Arr_mark_29 else D_impl_Arr_mark_0 q
theorem fr_impl_Arr_mark_1 : FrOk Try.prog ⟨E_impl_Arr_mark, 37, D_impl_Arr_mark_1⟩ B_impl_Arr_mark := (fr_impl_Arr_mark_0).loop (sg := sg_impl_Arr_mark_29) L_impl_Arr_mark_29 em_impl_Arr_mark_29 (by decide) a_impl_Arr_mark_29 stx_impl_Arr_mark_29 fu_impl_Arr_mark_29 (by decide) (fun _ => rfl) (fun x r _ h => h) r_impl_Arr_mark_29
abbrev I_impl_Arr_mark : List Par := [.pt tA (.pr .fz (.pr (.pr .fz .fz) (.pr (.ow (.pr (.ow (.ow .fz)) (.pr (.ow (.pr .fz (.ow .fz))) (.pr .fz (.ow .fz))))) (.pr .fz (.pr .fz (.pr .fz (.pr .fz (.pr .fz (.pr (.ow (.pr .fz (.ow .fz))) (.pr .fz (.pr .fz .fz)))))))))))]
abbrev U_impl_Arr_mark : List OT := [⟨false, tB, .fz⟩]
noncomputable def raw_impl_Arr_mark (a0 : dA) : Option (ResD U_impl_Arr_mark × MutD I_impl_Arr_mark) :=
  segM (F_impl_Arr_mark_29 ((((), ()), ((a0.2.2.1.length : Int), ()), ((), ()), ()), ((a0.1, a0.2.1.1, a0.2.1.2, (), a0.2.2.2.1, a0.2.2.2.2.1, a0.2.2.2.2.2.1, a0.2.2.2.2.2.2.1, (IntKind.i64.wrap (a0.2.2.2.2.2.2.2.1 + 1)), (), a0.2.2.2.2.2.2.2.2.2.1, a0.2.2.2.2.2.2.2.2.2.2.1, a0.2.2.2.2.2.2.2.2.2.2.2, ()), ()), (a0.2.2.1, a0.2.2.2.2.2.2.2.2.1, ()))) (fun y6 =>
    bnd (o_impl_Arr_sync (y6.2.1.1.1, (y6.2.1.1.2.1, y6.2.1.1.2.2.1), y6.2.2.1, y6.2.1.1.2.2.2.2.1, y6.2.1.1.2.2.2.2.2.1, y6.2.1.1.2.2.2.2.2.2.1, y6.2.1.1.2.2.2.2.2.2.2.1, y6.2.1.1.2.2.2.2.2.2.2.2.1, y6.2.2.2.1, y6.2.1.1.2.2.2.2.2.2.2.2.2.2.1, y6.2.1.1.2.2.2.2.2.2.2.2.2.2.2.1, y6.2.1.1.2.2.2.2.2.2.2.2.2.2.2.2.1)) fun r8 =>
    some ((r8.1.1, ()), (r8.2.1, ()))) (fun y6 =>
    some ((y6.1.1.1, ()), ((y6.2.1.1.1, (y6.2.1.1.2.1, y6.2.1.1.2.2.1), y6.2.2.1, y6.2.1.1.2.2.2.2.1, y6.2.1.1.2.2.2.2.2.1, y6.2.1.1.2.2.2.2.2.2.1, y6.2.1.1.2.2.2.2.2.2.2.1, y6.2.1.1.2.2.2.2.2.2.2.2.1, y6.2.2.2.1, y6.2.1.1.2.2.2.2.2.2.2.2.2.2.1, y6.2.1.1.2.2.2.2.2.2.2.2.2.2.2.1, y6.2.1.1.2.2.2.2.2.2.2.2.2.2.2.2.1), ())))
theorem e_impl_Arr_mark (x : InD I_impl_Arr_mark) : execF ⟨E_impl_Arr_mark, 37, D_impl_Arr_mark_1⟩ Try.f41.results.toList B_impl_Arr_mark I_impl_Arr_mark U_impl_Arr_mark x = raw_impl_Arr_mark x.1 := by kernel_rfl
theorem ok0_impl_Arr_mark : ConOk Try.prog 41 ⟨I_impl_Arr_mark, U_impl_Arr_mark, fun x => raw_impl_Arr_mark x.1⟩ := conOk_exec (fr_impl_Arr_mark_1) Try.func41 (by kernel_rfl) (by kernel_rfl) Try.ntmps41.symm (by decide) (fun x r h => (e_impl_Arr_mark x).trans h)
noncomputable def n_impl_Arr_mark (a0 : dA) : Bool × dA := (!(downA (markA a0)), markA a0)
noncomputable def q_impl_Arr_mark (a0 : dA) : Bool := !(downA a0)
theorem markOne_stop {a : dA} (i : Nat) (h : downA a = true) : markOne a i = a := put_stop h _ _ _
theorem nn_impl_Arr_mark (a0 : dA) (hk : InOk I_impl_Arr_mark (a0, ())) (hq : q_impl_Arr_mark a0 = true) : raw_impl_Arr_mark a0 = (fun n => some ((n.1, ()), (n.2, ()))) (n_impl_Arr_mark a0) := by
  have hb : a0.2.2.1.length * 80 ≤ 2 ^ 47 := hk.1.2.2.1.1
  have hd0 : downA a0 = false := by simpa [q_impl_Arr_mark] using hq
  have h1 : F_impl_Arr_mark_29 (ms_impl_Arr_mark_29 a0.2.2.1.length (genUp a0)) = some (bif downA ((List.range a0.2.2.1.length).foldl markOne (genUp a0)) then .inr (mz_impl_Arr_mark_29 false ((List.range a0.2.2.1.length).foldl markOne (genUp a0))) else .inl (mo_impl_Arr_mark_29 ((List.range a0.2.2.1.length).foldl markOne (genUp a0)))) := by
    have := loopN_goE (step := stx_impl_Arr_mark_29) a0.2.2.1.length (fun i s => mk_impl_Arr_mark_29 a0.2.2.1.length i s) (fun i s => bif downA (markOne s i) then (.inr (markOne s i) : dA ⊕ dA) else .inl (markOne s i)) (fun _ s => s.2.2.1.length = a0.2.2.1.length ∧ downA s = false) id
      (fun b => bif downA b then .inr (mz_impl_Arr_mark_29 false b) else .inl (mo_impl_Arr_mark_29 b)) (fun i s hi hs => by
        constructor
        · simp only [stx_impl_Arr_mark_29, mk_impl_Arr_mark_29, st_impl_Arr_mark_29, ltb_t (show (i : Int) < a0.2.2.1.length by omega), cond_true, wr (show -9223372036854775808 ≤ (i : Int) + 1 by omega) (by omega), Int.natCast_add, Int.natCast_one, Int.toNat_natCast, pr_eta, impl_put_eq, n_impl_superOf]
          rw [ot_impl_Arr_write s i (s.2.2.2.2.2.2.2.1.tmod 2) (n_spec_PutSuper (s.1, s.2.2.2.2.2.2.2.1, (i : Int), s.2.1.1, s.2.1.2, s.2.2.2.2.2.2.1, s.2.2.2.1, s.2.2.2.2.1)) (by unfold q_impl_Arr_write; rw [inb_nat (by rw [hs.1]; exact hi), hs.2]; rfl)]
          simp only [bnd_some, n_impl_Arr_write]
          rw [show putA s i (s.2.2.2.2.2.2.2.1.tmod 2) (n_spec_PutSuper (s.1, s.2.2.2.2.2.2.2.1, (i : Int), s.2.1.1, s.2.1.2, s.2.2.2.2.2.2.1, s.2.2.2.1, s.2.2.2.2.1)) = markOne s i from rfl]
          cases hd : downA (markOne s i)
          · rfl
          · simp only [hd, Bool.not_true, Bool.not_false, cond_true, mz_impl_Arr_mark_29]
        · intro s' h
          cases hd : downA (markOne s i)
          · rw [hd] at h
            cases h
            exact ⟨(markOne_len s i).trans hs.1, hd⟩
          · rw [hd] at h; cases h) (fun s hs => by simp only [stx_impl_Arr_mark_29, mk_impl_Arr_mark_29, st_impl_Arr_mark_29, hs.2, ltb_f (Int.le_refl _), cond_false, id, mo_impl_Arr_mark_29]) (genUp a0) ⟨rfl, hd0⟩ 18446744073709551616 (by omega)
    rw [goE_fold (fun a i h => markOne_stop i h), ← List.range_eq_range'] at this
    exact this
  unfold raw_impl_Arr_mark n_impl_Arr_mark markA
  refine (congrArg (fun z => segM z _ _) h1).trans ?_
  cases hd : downA ((List.range a0.2.2.1.length).foldl markOne (genUp a0))
  · simp only [cond_false, segM_inl, pr_eta]
    rw [ot_impl_Arr_sync _ (by unfold q_impl_Arr_sync; rw [hd]; rfl)]; rfl
  · rw [sync_stop hd]
    simp only [cond_true, segM_inr, pr_eta]
    rw [hd]; rfl
noncomputable def o_impl_Arr_mark (a0 : dA) : Option (ResD U_impl_Arr_mark × MutD I_impl_Arr_mark) := bif q_impl_Arr_mark a0 then (fun n => some ((n.1, ()), (n.2, ()))) (n_impl_Arr_mark a0) else none
theorem ot_impl_Arr_mark (a0 : dA) (h : q_impl_Arr_mark a0 = true) : o_impl_Arr_mark a0 = (fun n => some ((n.1, ()), (n.2, ()))) (n_impl_Arr_mark a0) := by unfold o_impl_Arr_mark; rw [h]; rfl
noncomputable def con_impl_Arr_mark : Con := ⟨I_impl_Arr_mark, U_impl_Arr_mark, fun x => o_impl_Arr_mark x.1⟩
theorem ok_impl_Arr_mark : ConOk Try.prog 41 con_impl_Arr_mark := (ok0_impl_Arr_mark).mono (fun x r hk h => pre_ok h (fun hq => nn_impl_Arr_mark x.1 hk hq))
end

/-! impl_MemNew -/
section
noncomputable def B_impl_MemNew : Code := (Try.f48.body).getD .skip
noncomputable def E_impl_MemNew : Env := envOf TT [(72, con_impl_within)] []
theorem fr_impl_MemNew_0 : FrOk Try.prog ⟨E_impl_MemNew, 10, fun _ => none⟩ B_impl_MemNew := frOk_base mixed tt_ok ⟨ok_impl_within, trivial⟩
noncomputable def D_impl_MemNew_0 : Nat → Option Seg := fun _ => none
abbrev I_impl_MemNew : List Par := [.rd tI]
abbrev U_impl_MemNew : List OT := [⟨false, tM, (.pr (.ow (.ow .fz)) (.pr (.ow (.pr .fz (.ow .fz))) (.pr .fz (.ow .fz))))⟩]
noncomputable def raw_impl_MemNew (a0 : Int) : Option (ResD U_impl_MemNew × MutD I_impl_MemNew) :=
  let r1 := n_impl_within a0 1 20
  bif (!r1) then
    some ((([], [], false, []), ()), ())
  else
    bif (mkok a0 24) then
      some ((((List.replicate (a0).toNat ([] : List Int)), [], false, []), ()), ())
    else none
theorem e_impl_MemNew (x : InD I_impl_MemNew) : execF ⟨E_impl_MemNew, 10, D_impl_MemNew_0⟩ Try.f48.results.toList B_impl_MemNew I_impl_MemNew U_impl_MemNew x = raw_impl_MemNew x.1 := by kernel_rfl
theorem ok0_impl_MemNew : ConOk Try.prog 48 ⟨I_impl_MemNew, U_impl_MemNew, fun x => raw_impl_MemNew x.1⟩ := conOk_exec (fr_impl_MemNew_0) Try.func48 (by kernel_rfl) (by kernel_rfl) Try.ntmps48.symm (by decide) (fun x r h => (e_impl_MemNew x).trans h)
noncomputable def n_impl_MemNew (a0 : Int) : dM := memNew a0
theorem nn_impl_MemNew (a0 : Int) (hk : InOk I_impl_MemNew (a0, ())) : raw_impl_MemNew a0 = (fun n => some ((n, ()), ())) (n_impl_MemNew a0) := by
  unfold raw_impl_MemNew n_impl_MemNew memNew
  simp only [impl_in_eq, in_eq]
  cases hc : (leb 1 a0 && leb a0 20)
  · rfl
  · rw [Bool.and_eq_true, leb_iff, leb_iff] at hc
    rw [mkok_iff.2 (show 0 ≤ a0 ∧ a0 * ((24 : Nat) : Int) ≤ 140737488355328 by omega)]; rfl
noncomputable def con_impl_MemNew : Con := ⟨I_impl_MemNew, U_impl_MemNew, fun x => (fun n => some ((n, ()), ())) (n_impl_MemNew x.1)⟩
theorem ok_impl_MemNew : ConOk Try.prog 48 con_impl_MemNew := (ok0_impl_MemNew).mono (fun x r hk h => (nn_impl_MemNew x.1 hk).trans h)
end
end Go.Tf
