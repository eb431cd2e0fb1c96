/- Functions of the program, and what they come to. -/
import Derived.Test.YtfpjmijaiekbgaaExactAdoptF3
namespace Go.Tf
open Go.Proofs
set_option synthInstance.maxHeartbeats 400000
set_option synthInstance.maxSize 10000
set_option linter.unusedVariables false
set_option linter.unusedSimpArgs false
set_option maxRecDepth 100000
/-! spec_l7Op -/
section
noncomputable def B_spec_l7Op : Code := (Try.f102.body).getD .skip
noncomputable def E_spec_l7Op : Env := envOf TT [] []
theorem fr_spec_l7Op_0 : FrOk Try.prog ⟨E_spec_l7Op, 31, fun _ => none⟩ B_spec_l7Op := frOk_base mixed tt_ok trivial
noncomputable def D_spec_l7Op_0 : Nat → Option Seg := fun _ => none
abbrev I_spec_l7Op : List Par := [.pt tA (.pr .fz (.pr (.pr .fz .fz) (.pr (.ow (.pr (.ow .fz) (.pr (.ow (.pr .fz .fz)) (.pr .fz (.ow .fz))))) (.pr .fz (.pr .fz (.pr .fz (.pr .fz (.pr .fz (.pr (.ow (.pr .fz .fz)) (.pr .fz (.pr .fz .fz)))))))))))]
abbrev U_spec_l7Op : List OT := [⟨false, tB, .fz⟩]
noncomputable def raw_spec_l7Op (a0 : dA) : Option (ResD U_spec_l7Op × MutD I_spec_l7Op) :=
  bif a0.2.2.2.2.2.2.2.2.2.2.1 then
    some ((false, ()), (a0, ()))
  else
    bif (a0.2.2.2.2.2.2.2.2.2.1 == 0) then
      some ((false, ()), ((a0.1, a0.2.1, a0.2.2.1, a0.2.2.2.1, a0.2.2.2.2.1, a0.2.2.2.2.2.1, a0.2.2.2.2.2.2.1, a0.2.2.2.2.2.2.2.1, a0.2.2.2.2.2.2.2.2.1, (-1), true, a0.2.2.2.2.2.2.2.2.2.2.2), ()))
    else
      bif (ltb 0 a0.2.2.2.2.2.2.2.2.2.1) then
        some ((true, ()), ((a0.1, a0.2.1, a0.2.2.1, a0.2.2.2.1, a0.2.2.2.2.1, a0.2.2.2.2.2.1, a0.2.2.2.2.2.2.1, a0.2.2.2.2.2.2.2.1, a0.2.2.2.2.2.2.2.2.1, (IntKind.i64.wrap (a0.2.2.2.2.2.2.2.2.2.1 - 1)), a0.2.2.2.2.2.2.2.2.2.2), ()))
      else
        some ((true, ()), (a0, ()))
theorem e_spec_l7Op (x : InD I_spec_l7Op) : execF ⟨E_spec_l7Op, 31, D_spec_l7Op_0⟩ Try.f102.results.toList B_spec_l7Op I_spec_l7Op U_spec_l7Op x = raw_spec_l7Op x.1 := by kernel_rfl
theorem ok0_spec_l7Op : ConOk Try.prog 102 ⟨I_spec_l7Op, U_spec_l7Op, fun x => raw_spec_l7Op x.1⟩ := conOk_exec (fr_spec_l7Op_0) Try.func102 (by kernel_rfl) (by kernel_rfl) Try.ntmps102.symm (by decide) (fun x r h => (e_spec_l7Op x).trans h)
noncomputable def n_spec_l7Op (a0 : dA) : Bool × dA :=
  bif a0.2.2.2.2.2.2.2.2.2.2.1 then
    (false, a0)
  else
    bif (a0.2.2.2.2.2.2.2.2.2.1 == 0) then
      (false, (a0.1, a0.2.1, a0.2.2.1, a0.2.2.2.1, a0.2.2.2.2.1, a0.2.2.2.2.2.1, a0.2.2.2.2.2.2.1, a0.2.2.2.2.2.2.2.1, a0.2.2.2.2.2.2.2.2.1, (-1), true, a0.2.2.2.2.2.2.2.2.2.2.2))
    else
      bif (ltb 0 a0.2.2.2.2.2.2.2.2.2.1) then
        (true, (a0.1, a0.2.1, a0.2.2.1, a0.2.2.2.1, a0.2.2.2.2.1, a0.2.2.2.2.2.1, a0.2.2.2.2.2.2.1, a0.2.2.2.2.2.2.2.1, a0.2.2.2.2.2.2.2.2.1, (IntKind.i64.wrap (a0.2.2.2.2.2.2.2.2.2.1 - 1)), a0.2.2.2.2.2.2.2.2.2.2))
      else
        (true, a0)
noncomputable def con_spec_l7Op : Con := ⟨I_spec_l7Op, U_spec_l7Op, fun x => (fun n => some ((n.1, ()), (n.2, ()))) (n_spec_l7Op x.1)⟩
theorem nn_spec_l7Op (a0 : dA) : raw_spec_l7Op a0 = (fun n => some ((n.1, ()), (n.2, ()))) (n_spec_l7Op a0) := bif_ty (p := fun (n : Bool × dA) => ((n.1, ()), (n.2, ()))) (bif_some (p := fun (n : Bool × dA) => ((n.1, ()), (n.2, ()))) rfl (bif_some (p := fun (n : Bool × dA) => ((n.1, ()), (n.2, ()))) rfl (bif_some (p := fun (n : Bool × dA) => ((n.1, ()), (n.2, ()))) rfl rfl)))
theorem ok_spec_l7Op : ConOk Try.prog 102 con_spec_l7Op := (ok0_spec_l7Op).mono (fun x r _ h => (nn_spec_l7Op x.1).trans h)
theorem spec_op_eq (a : dA) : n_spec_l7Op a = opA a := by kernel_rfl
end

/-! spec_FlushMem -/
section
noncomputable def B_spec_FlushMem : Code := (Try.f103.body).getD .skip
noncomputable def E_spec_FlushMem : Env := envOf TT [(44, con_spec_l2Copy), (72, con_spec_MemOk)] [(32768, (.pr .fz .fz))]
theorem fr_spec_FlushMem_0 : FrOk Try.prog ⟨E_spec_FlushMem, 40, fun _ => none⟩ B_spec_FlushMem := frOk_base mixed tt_ok ⟨ok_spec_l2Copy, ok_spec_MemOk, trivial⟩
noncomputable def D_spec_FlushMem_0 : Nat → Option Seg := fun _ => none
def L_spec_FlushMem_61 : Shape := ⟨[(2, false, [.ptr 64 0]), (3, false, [.ptr 4224 0]), (4, false, [.int .i64])], [(64, [.nil, .nil, .bool, .nil]), (4224, [.at 800000000, .at 800000001, .bool, .at 800000002])], [(800000000, tL, .fz), (800000001, tW, (.pr .fz .fz)), (800000002, tI, .fz)]⟩
def S_spec_FlushMem_61 : Shape := ⟨[(2, false, [.ptr 64 0]), (3, false, [.ptr 4224 0]), (4, false, [.ci .i64 0])], [(64, [.nil, .nil, .bool, .nil]), (4224, [.at 800000000, .at 800000001, .bool, .at 800000002])], [(800000000, tL, .fz), (800000001, tW, (.pr .fz .fz)), (800000002, tI, .fz)]⟩
def O_spec_FlushMem_61 : Shape := ⟨[(2, false, [.ptr 64 0]), (3, false, [.ptr 4224 0])], [(64, [.nil, .nil, .bool, .nil]), (4224, [.at 800000000, .at 800000001, .bool, .at 800000002])], [(800000000, tL, .fz), (800000001, tW, (.pr .fz .fz)), (800000002, tI, .fz)]⟩
def Z_spec_FlushMem_61 : Shape := ⟨[], [], []⟩
abbrev mk_spec_FlushMem_61 (v0 : Int) (v1 : dM) (v2 : dM) : (L_spec_FlushMem_61).X := ((((), ()), ((), ()), (v0, ()), ()), (((), (), v1.2.2.1, (), ()), ((), (), v2.2.2.1, (), ()), ()), (v2.1, v2.2.1, v2.2.2.2, ()))
abbrev ms_spec_FlushMem_61 (v0 : dM) (v1 : dM) : (S_spec_FlushMem_61).X := ((((), ()), ((), ()), ((), ()), ()), (((), (), v0.2.2.1, (), ()), ((), (), v1.2.2.1, (), ()), ()), (v1.1, v1.2.1, v1.2.2.2, ()))
abbrev mo_spec_FlushMem_61 (v0 : dM) (v1 : dM) : (O_spec_FlushMem_61).X := ((((), ()), ((), ()), ()), (((), (), v0.2.2.1, (), ()), ((), (), v1.2.2.1, (), ()), ()), (v1.1, v1.2.1, v1.2.2.2, ()))
noncomputable def st_spec_FlushMem_61 (v0 : Int) (v1 : Bool) (v2 : Bool) (v3 : List (List Int)) (v4 : List dW) (v5 : List Int) : Option ((L_spec_FlushMem_61).X ⊕ ((O_spec_FlushMem_61).X ⊕ (Z_spec_FlushMem_61).X)) :=
  bif (ltb v0 (v4.length : Int)) then
    bif (inb v0 v4.length) then
      bif (inb v0 v4.length) then
        bif (inb ((nth v4 v0 (0, [])).1) v3.length) then
          let r4 := (v3.set ((nth v4 v0 (0, [])).1).toNat ((nth v4 v0 (0, [])).2))
          some (.inl ((((), ()), ((), ()), ((IntKind.i64.wrap (v0 + 1)), ()), ()), (((), (), v1, (), ()), ((), (), v2, (), ()), ()), (r4, v4, v5, ())))
        else none
      else none
    else none
  else
    some (.inr (.inl ((((), ()), ((), ()), ()), (((), (), v1, (), ()), ((), (), v2, (), ()), ()), (v3, v4, v5, ()))))
noncomputable def stx_spec_FlushMem_61 (x : (L_spec_FlushMem_61).X) := st_spec_FlushMem_61 x.1.2.2.1.1 x.2.1.1.2.2.1 x.2.1.2.1.2.2.1 x.2.2.1 x.2.2.2.1 x.2.2.2.2.1
def em_spec_FlushMem_61 (x : (S_spec_FlushMem_61).X) : (L_spec_FlushMem_61).X := ((((), ()), ((), ()), (0, ()), ()), (((), (), x.2.1.1.2.2.1, (), ()), ((), (), x.2.1.2.1.2.2.1, (), ()), ()), (x.2.2.1, x.2.2.2.1, x.2.2.2.2.1, ()))
noncomputable def c_spec_FlushMem_61 : Code := (subN B_spec_FlushMem 64 244).getD .skip
theorem a_spec_FlushMem_61 : subN B_spec_FlushMem 64 61 = some (.block 0 (.loop c_spec_FlushMem_61)) := by kernel_rfl
theorem r_spec_FlushMem_61 (x : (L_spec_FlushMem_61).X) : roundT ⟨E_spec_FlushMem, 40, D_spec_FlushMem_0⟩ 0 c_spec_FlushMem_61 244 L_spec_FlushMem_61 O_spec_FlushMem_61 Z_spec_FlushMem_61 x = stx_spec_FlushMem_61 x := by kernel_rfl
noncomputable def fu_spec_FlushMem_61 (x : (S_spec_FlushMem_61).X) : Nat := (fun (u0 : Bool) (u1 : Bool) (u2 : List (List Int)) (u3 : List dW) (u4 : List Int) => 18446744073709551616) x.2.1.1.2.2.1 x.2.1.2.1.2.2.1 x.2.2.1 x.2.2.2.1 x.2.2.2.2.1
noncomputable def F_spec_FlushMem_61 (x : (S_spec_FlushMem_61).X) : Option ((O_spec_FlushMem_61).X ⊕ (Z_spec_FlushMem_61).X) := loopN stx_spec_FlushMem_61 (fu_spec_FlushMem_61 x) (em_spec_FlushMem_61 x)
noncomputable def sg_spec_FlushMem_61 : Seg := ⟨S_spec_FlushMem_61, O_spec_FlushMem_61, Z_spec_FlushMem_61, F_spec_FlushMem_61⟩
noncomputable def D_spec_FlushMem_1 : Nat → Option Seg := fun q => bif Nat.beq q 61 then some sg_spec_FlushMem_61 else D_spec_FlushMem_0 q
theorem fr_spec_FlushMem_1 : FrOk Try.prog ⟨E_spec_FlushMem, 40, D_spec_FlushMem_1⟩ B_spec_FlushMem := (fr_spec_FlushMem_0).loop (sg := sg_spec_FlushMem_61) L_spec_FlushMem_61 em_spec_FlushMem_61 (by decide) a_spec_FlushMem_61 stx_spec_FlushMem_61 fu_spec_FlushMem_61 (by decide) (fun _ => rfl) (fun x r _ h => h) r_spec_FlushMem_61
abbrev I_spec_FlushMem : List Par := [.rd tM]
abbrev U_spec_FlushMem : List OT := [⟨false, tM, (.pr (.ow .fz) (.pr (.ow (.pr .fz .fz)) (.pr .fz (.ow .fz))))⟩]
noncomputable def raw_spec_FlushMem (a0 : dM) : Option (ResD U_spec_FlushMem × MutD I_spec_FlushMem) :=
  let r1 := n_spec_l2Copy a0
  let r2 := n_spec_MemOk a0
  bif (!(!r2)) then
    bif a0.2.2.1 then
      some ((r1, ()), ())
    else
      segM (F_spec_FlushMem_61 ((((), ()), ((), ()), ((), ()), ()), (((), (), false, (), ()), ((), (), r1.2.2.1, (), ()), ()), (r1.1, r1.2.1, r1.2.2.2, ()))) (fun y4 =>
        some (((y4.2.2.1, ([] : List dW), y4.2.1.2.1.2.2.1, y4.2.2.2.2.1), ()), ())) (fun y4 =>
        none)
  else
    some ((r1, ()), ())
theorem e_spec_FlushMem (x : InD I_spec_FlushMem) : execF ⟨E_spec_FlushMem, 40, D_spec_FlushMem_1⟩ Try.f103.results.toList B_spec_FlushMem I_spec_FlushMem U_spec_FlushMem x = raw_spec_FlushMem x.1 := by kernel_rfl
theorem ok0_spec_FlushMem : ConOk Try.prog 103 ⟨I_spec_FlushMem, U_spec_FlushMem, fun x => raw_spec_FlushMem x.1⟩ := conOk_exec (fr_spec_FlushMem_1) Try.func103 (by kernel_rfl) (by kernel_rfl) Try.ntmps103.symm (by decide) (fun x r h => (e_spec_FlushMem x).trans h)
noncomputable def n_spec_FlushMem (a0 : dM) : dM := flushMem a0
theorem nn_spec_FlushMem (a0 : dM) (hk : InOk I_spec_FlushMem (a0, ())) : raw_spec_FlushMem a0 = (fun n => some ((n, ()), ())) (n_spec_FlushMem a0) := by
  have hb2 : a0.2.1.length * 32 ≤ 2 ^ 47 := hk.1.2.1.1
  unfold raw_spec_FlushMem n_spec_FlushMem flushMem
  simp only [n_spec_l2Copy, n_spec_MemOk]
  cases hm : memOk a0
  · rfl
  have h1 : F_spec_FlushMem_61 (ms_spec_FlushMem_61 noMem a0) = some (.inl (mo_spec_FlushMem_61 noMem (layKept (fun _ => true) a0.2.1 a0.1, a0.2))) :=
    loopN_rng (step := stx_spec_FlushMem_61) a0.2.1.length (fun i s => mk_spec_FlushMem_61 i noMem (s, a0.2)) (layOne (fun _ => true) a0.2.1) (fun i s => s.length = a0.1.length) (fun s => .inl (mo_spec_FlushMem_61 noMem (s, a0.2))) (fun i s hi hs => by
      have hw := (memOk_wr hm hi).1
      refine ⟨?_, layOne_len.trans hs⟩
      simp only [stx_spec_FlushMem_61, mk_spec_FlushMem_61, st_spec_FlushMem_61, ltb_t (show (i : Int) < a0.2.1.length by omega), cond_true, wr (show -9223372036854775808 ≤ (i : Int) + 1 by omega) (by omega), Int.natCast_add, Int.natCast_one, Int.toNat_natCast, inb_nat hi, hs, hw, layOne]) (fun s hs => by simp only [stx_spec_FlushMem_61, mk_spec_FlushMem_61, st_spec_FlushMem_61, ltb_f (Int.le_refl _), cond_false]) a0.1 rfl _ (by show _ < 18446744073709551616; omega)
  rw [h1]
  cases hf : a0.2.2.1
  · exact congrArg (fun z => some (((layKept (fun _ => true) a0.2.1 a0.1, ([] : List dW), z, a0.2.2.2), ()), ())) hf
  · rfl
noncomputable def con_spec_FlushMem : Con := ⟨I_spec_FlushMem, U_spec_FlushMem, fun x => (fun n => some ((n, ()), ())) (n_spec_FlushMem x.1)⟩
theorem ok_spec_FlushMem : ConOk Try.prog 103 con_spec_FlushMem := (ok0_spec_FlushMem).mono (fun x r hk h => (nn_spec_FlushMem x.1 hk).trans h)
end

/-! spec_l7Sync -/
section
noncomputable def B_spec_l7Sync : Code := (Try.f81.body).getD .skip
noncomputable def E_spec_l7Sync : Env := envOf TT [(102, con_spec_l7Op), (103, con_spec_FlushMem)] []
theorem fr_spec_l7Sync_0 : FrOk Try.prog ⟨E_spec_l7Sync, 39, fun _ => none⟩ B_spec_l7Sync := frOk_base mixed tt_ok ⟨ok_spec_l7Op, ok_spec_FlushMem, trivial⟩
noncomputable def D_spec_l7Sync_0 : Nat → Option Seg := fun _ => none
def L_spec_l7Sync_3 : Shape := ⟨[(0, false, [.ptr 1000000000 0]), (2, false, [.int .i64])], [(1000000000, [.int .i64, .int .i64, .int .i64, .at 800000000, .int .i64, .int .i64, .int .i64, .int .i64, .int .i64, .at 800000001, .int .i64, .bool, .bool])], [(800000000, tM, (.pr (.ow .fz) (.pr (.ow (.pr .fz .fz)) (.pr .fz (.ow .fz))))), (800000001, tW, (.pr .fz .fz))]⟩
def S_spec_l7Sync_3 : Shape := ⟨[(0, false, [.ptr 1000000000 0]), (2, false, [.ci .i64 0])], [(1000000000, [.int .i64, .int .i64, .int .i64, .at 800000000, .int .i64, .int .i64, .int .i64, .int .i64, .int .i64, .at 800000001, .int .i64, .bool, .bool])], [(800000000, tM, (.pr (.ow .fz) (.pr (.ow (.pr .fz .fz)) (.pr .fz (.ow .fz))))), (800000001, tW, (.pr .fz .fz))]⟩
def O_spec_l7Sync_3 : Shape := ⟨[], [(1000000000, [.int .i64, .int .i64, .int .i64, .at 800000000, .int .i64, .int .i64, .int .i64, .int .i64, .int .i64, .at 800000001, .int .i64, .bool, .bool])], [(800000000, tM, (.pr (.ow .fz) (.pr (.ow (.pr .fz .fz)) (.pr .fz (.ow .fz))))), (800000001, tW, (.pr .fz .fz))]⟩
def Z_spec_l7Sync_3 : Shape := ⟨[], [], []⟩
abbrev mk_spec_l7Sync_3 (v0 : Int) (v1 : dA) : (L_spec_l7Sync_3).X := ((((), ()), (v0, ()), ()), ((v1.1, v1.2.1.1, v1.2.1.2, (), v1.2.2.2.1, v1.2.2.2.2.1, v1.2.2.2.2.2.1, v1.2.2.2.2.2.2.1, v1.2.2.2.2.2.2.2.1, (), v1.2.2.2.2.2.2.2.2.2.1, v1.2.2.2.2.2.2.2.2.2.2.1, v1.2.2.2.2.2.2.2.2.2.2.2, ()), ()), (v1.2.2.1, v1.2.2.2.2.2.2.2.2.1, ()))
abbrev ms_spec_l7Sync_3 (v0 : dA) : (S_spec_l7Sync_3).X := ((((), ()), ((), ()), ()), ((v0.1, v0.2.1.1, v0.2.1.2, (), v0.2.2.2.1, v0.2.2.2.2.1, v0.2.2.2.2.2.1, v0.2.2.2.2.2.2.1, v0.2.2.2.2.2.2.2.1, (), v0.2.2.2.2.2.2.2.2.2.1, v0.2.2.2.2.2.2.2.2.2.2.1, v0.2.2.2.2.2.2.2.2.2.2.2, ()), ()), (v0.2.2.1, v0.2.2.2.2.2.2.2.2.1, ()))
abbrev mo_spec_l7Sync_3 (v0 : dA) : (O_spec_l7Sync_3).X := ((), ((v0.1, v0.2.1.1, v0.2.1.2, (), v0.2.2.2.1, v0.2.2.2.2.1, v0.2.2.2.2.2.1, v0.2.2.2.2.2.2.1, v0.2.2.2.2.2.2.2.1, (), v0.2.2.2.2.2.2.2.2.2.1, v0.2.2.2.2.2.2.2.2.2.2.1, v0.2.2.2.2.2.2.2.2.2.2.2, ()), ()), (v0.2.2.1, v0.2.2.2.2.2.2.2.2.1, ()))
noncomputable def st_spec_l7Sync_3 (v0 : Int) (v1 : Int) (v2 : Int) (v3 : Int) (v4 : Int) (v5 : Int) (v6 : Int) (v7 : Int) (v8 : Int) (v9 : Int) (v10 : Bool) (v11 : Bool) (v12 : List dM) (v13 : List dW) : Option ((L_spec_l7Sync_3).X ⊕ ((O_spec_l7Sync_3).X ⊕ (Z_spec_l7Sync_3).X)) :=
  bif (ltb v0 (v12.length : Int)) then
    bif (inb v0 v12.length) then
      bif (!((((nth v12 v0 ([], [], false, [])).2).2).1)) then
        let r3 := n_spec_l7Op (v1, (v2, v3), v12, v4, v5, v6, v7, v8, v13, v9, v10, v11)
        bif r3.1 then
          bif (inb v0 r3.2.2.2.1.length) then
            let r4 := n_spec_FlushMem ((nth r3.2.2.2.1 v0 ([], [], false, [])).1, ((nth r3.2.2.2.1 v0 ([], [], false, [])).2).1, (((nth r3.2.2.2.1 v0 ([], [], false, [])).2).2))
            bif (inb v0 r3.2.2.2.1.length) then
              some (.inl ((((), ()), ((IntKind.i64.wrap (v0 + 1)), ()), ()), ((r3.2.1, r3.2.2.1.1, r3.2.2.1.2, (), r3.2.2.2.2.1, r3.2.2.2.2.2.1, r3.2.2.2.2.2.2.1, r3.2.2.2.2.2.2.2.1, r3.2.2.2.2.2.2.2.2.1, (), r3.2.2.2.2.2.2.2.2.2.2.1, r3.2.2.2.2.2.2.2.2.2.2.2.1, r3.2.2.2.2.2.2.2.2.2.2.2.2, ()), ()), ((r3.2.2.2.1.set (v0).toNat r4), r3.2.2.2.2.2.2.2.2.2.1, ())))
            else none
          else none
        else
          some (.inl ((((), ()), ((IntKind.i64.wrap (v0 + 1)), ()), ()), ((r3.2.1, r3.2.2.1.1, r3.2.2.1.2, (), r3.2.2.2.2.1, r3.2.2.2.2.2.1, r3.2.2.2.2.2.2.1, r3.2.2.2.2.2.2.2.1, r3.2.2.2.2.2.2.2.2.1, (), r3.2.2.2.2.2.2.2.2.2.2.1, r3.2.2.2.2.2.2.2.2.2.2.2.1, r3.2.2.2.2.2.2.2.2.2.2.2.2, ()), ()), (r3.2.2.2.1, r3.2.2.2.2.2.2.2.2.2.1, ())))
      else
        some (.inl ((((), ()), ((IntKind.i64.wrap (v0 + 1)), ()), ()), ((v1, v2, v3, (), v4, v5, v6, v7, v8, (), v9, v10, v11, ()), ()), (v12, v13, ())))
    else none
  else
    some (.inr (.inl ((), ((v1, v2, v3, (), v4, v5, v6, v7, v8, (), v9, v10, v11, ()), ()), (v12, v13, ()))))
noncomputable def stx_spec_l7Sync_3 (x : (L_spec_l7Sync_3).X) := st_spec_l7Sync_3 x.1.2.1.1 x.2.1.1.1 x.2.1.1.2.1 x.2.1.1.2.2.1 x.2.1.1.2.2.2.2.1 x.2.1.1.2.2.2.2.2.1 x.2.1.1.2.2.2.2.2.2.1 x.2.1.1.2.2.2.2.2.2.2.1 x.2.1.1.2.2.2.2.2.2.2.2.1 x.2.1.1.2.2.2.2.2.2.2.2.2.2.1 x.2.1.1.2.2.2.2.2.2.2.2.2.2.2.1 x.2.1.1.2.2.2.2.2.2.2.2.2.2.2.2.1 x.2.2.1 x.2.2.2.1
def em_spec_l7Sync_3 (x : (S_spec_l7Sync_3).X) : (L_spec_l7Sync_3).X := ((((), ()), (0, ()), ()), ((x.2.1.1.1, x.2.1.1.2.1, x.2.1.1.2.2.1, (), x.2.1.1.2.2.2.2.1, x.2.1.1.2.2.2.2.2.1, x.2.1.1.2.2.2.2.2.2.1, x.2.1.1.2.2.2.2.2.2.2.1, x.2.1.1.2.2.2.2.2.2.2.2.1, (), x.2.1.1.2.2.2.2.2.2.2.2.2.2.1, x.2.1.1.2.2.2.2.2.2.2.2.2.2.2.1, x.2.1.1.2.2.2.2.2.2.2.2.2.2.2.2.1, ()), ()), (x.2.2.1, x.2.2.2.1, ()))
noncomputable def c_spec_l7Sync_3 : Code := (subN B_spec_l7Sync 64 12).getD .skip
theorem a_spec_l7Sync_3 : subN B_spec_l7Sync 64 3 = some (.block 0 (.loop c_spec_l7Sync_3)) := by kernel_rfl
theorem r_spec_l7Sync_3 (x : (L_spec_l7Sync_3).X) : roundT ⟨E_spec_l7Sync, 39, D_spec_l7Sync_0⟩ 0 c_spec_l7Sync_3 12 L_spec_l7Sync_3 O_spec_l7Sync_3 Z_spec_l7Sync_3 x = stx_spec_l7Sync_3 x := by kernel_rfl
noncomputable def fu_spec_l7Sync_3 (x : (S_spec_l7Sync_3).X) : Nat := (fun (u0 : Int) (u1 : Int) (u2 : Int) (u3 : Int) (u4 : Int) (u5 : Int) (u6 : Int) (u7 : Int) (u8 : Int) (u9 : Bool) (u10 : Bool) (u11 : List dM) (u12 : List dW) => 18446744073709551616) x.2.1.1.1 x.2.1.1.2.1 x.2.1.1.2.2.1 x.2.1.1.2.2.2.2.1 x.2.1.1.2.2.2.2.2.1 x.2.1.1.2.2.2.2.2.2.1 x.2.1.1.2.2.2.2.2.2.2.1 x.2.1.1.2.2.2.2.2.2.2.2.1 x.2.1.1.2.2.2.2.2.2.2.2.2.2.1 x.2.1.1.2.2.2.2.2.2.2.2.2.2.2.1 x.2.1.1.2.2.2.2.2.2.2.2.2.2.2.2.1 x.2.2.1 x.2.2.2.1
noncomputable def F_spec_l7Sync_3 (x : (S_spec_l7Sync_3).X) : Option ((O_spec_l7Sync_3).X ⊕ (Z_spec_l7Sync_3).X) := loopN stx_spec_l7Sync_3 (fu_spec_l7Sync_3 x) (em_spec_l7Sync_3 x)
noncomputable def sg_spec_l7Sync_3 : Seg := ⟨S_spec_l7Sync_3, O_spec_l7Sync_3, Z_spec_l7Sync_3, F_spec_l7Sync_3⟩
noncomputable def D_spec_l7Sync_1 : Nat → Option Seg := fun q => bif Nat.beq q 3 then some sg_spec_l7Sync_3 else D_spec_l7Sync_0 q
theorem fr_spec_l7Sync_1 : FrOk Try.prog ⟨E_spec_l7Sync, 39, D_spec_l7Sync_1⟩ B_spec_l7Sync := (fr_spec_l7Sync_0).loop (sg := sg_spec_l7Sync_3) L_spec_l7Sync_3 em_spec_l7Sync_3 (by decide) a_spec_l7Sync_3 stx_spec_l7Sync_3 fu_spec_l7Sync_3 (by decide) (fun _ => rfl) (fun x r _ h => h) r_spec_l7Sync_3
abbrev I_spec_l7Sync : List Par := [.pt tA (.pr .fz (.pr (.pr .fz .fz) (.pr (.ow (.pr (.ow .fz) (.pr (.ow (.pr .fz .fz)) (.pr .fz (.ow .fz))))) (.pr .fz (.pr .fz (.pr .fz (.pr .fz (.pr .fz (.pr (.ow (.pr .fz .fz)) (.pr .fz (.pr .fz .fz)))))))))))]
abbrev U_spec_l7Sync : List OT := []
noncomputable def raw_spec_l7Sync (a0 : dA) : Option (ResD U_spec_l7Sync × MutD I_spec_l7Sync) :=
  segM (F_spec_l7Sync_3 ((((), ()), ((), ()), ()), ((a0.1, a0.2.1.1, a0.2.1.2, (), a0.2.2.2.1, a0.2.2.2.2.1, a0.2.2.2.2.2.1, a0.2.2.2.2.2.2.1, a0.2.2.2.2.2.2.2.1, (), a0.2.2.2.2.2.2.2.2.2.1, a0.2.2.2.2.2.2.2.2.2.2.1, a0.2.2.2.2.2.2.2.2.2.2.2, ()), ()), (a0.2.2.1, a0.2.2.2.2.2.2.2.2.1, ()))) (fun y4 =>
    some ((), ((y4.2.1.1.1, (y4.2.1.1.2.1, y4.2.1.1.2.2.1), y4.2.2.1, y4.2.1.1.2.2.2.2.1, y4.2.1.1.2.2.2.2.2.1, y4.2.1.1.2.2.2.2.2.2.1, y4.2.1.1.2.2.2.2.2.2.2.1, y4.2.1.1.2.2.2.2.2.2.2.2.1, y4.2.2.2.1, y4.2.1.1.2.2.2.2.2.2.2.2.2.2.1, y4.2.1.1.2.2.2.2.2.2.2.2.2.2.2.1, y4.2.1.1.2.2.2.2.2.2.2.2.2.2.2.2.1), ()))) (fun y4 =>
    none)
theorem e_spec_l7Sync (x : InD I_spec_l7Sync) : execF ⟨E_spec_l7Sync, 39, D_spec_l7Sync_1⟩ Try.f81.results.toList B_spec_l7Sync I_spec_l7Sync U_spec_l7Sync x = raw_spec_l7Sync x.1 := by kernel_rfl
theorem ok0_spec_l7Sync : ConOk Try.prog 81 ⟨I_spec_l7Sync, U_spec_l7Sync, fun x => raw_spec_l7Sync x.1⟩ := conOk_exec (fr_spec_l7Sync_1) Try.func81 (by kernel_rfl) (by kernel_rfl) Try.ntmps81.symm (by decide) (fun x r h => (e_spec_l7Sync x).trans h)
noncomputable def n_spec_l7Sync (a0 : dA) : dA := syncA a0
theorem nn_spec_l7Sync (a0 : dA) (hk : InOk I_spec_l7Sync (a0, ())) : raw_spec_l7Sync a0 = (fun n => some ((), (n, ()))) (n_spec_l7Sync a0) := by
  have hb : a0.2.2.1.length * 80 ≤ 2 ^ 47 := hk.1.2.2.1.1
  have h1 : F_spec_l7Sync_3 (ms_spec_l7Sync_3 a0) = some (.inl (mo_spec_l7Sync_3 (syncA a0))) :=
    loopN_rng (step := stx_spec_l7Sync_3) a0.2.2.1.length (fun i s => mk_spec_l7Sync_3 i s) syncOne (fun _ s => s.2.2.1.length = a0.2.2.1.length) (fun s => .inl (mo_spec_l7Sync_3 s)) (fun i s hi hs => ⟨by
      simp only [stx_spec_l7Sync_3, mk_spec_l7Sync_3, st_spec_l7Sync_3, hs, ltb_t (show (i : Int) < a0.2.2.1.length by omega), cond_true, wr (show -9223372036854775808 ≤ (i : Int) + 1 by omega) (by omega), Int.natCast_add, Int.natCast_one, Int.toNat_natCast, inb_nat hi, pr_eta, spec_op_eq, op_mems, n_spec_FlushMem, syncOne, setMem]
      cases (nth s.2.2.1 i noMem).2.2.1 <;> cases (opA s).1 <;> simp only [cond_true, cond_false, Bool.not_true, Bool.not_false, op_mems, Int.toNat_natCast], (syncOne_len s i).trans hs⟩) (fun s hs => by simp only [stx_spec_l7Sync_3, mk_spec_l7Sync_3, st_spec_l7Sync_3, hs, ltb_f (Int.le_refl _), cond_false]) a0 rfl _ (by show _ < 18446744073709551616; omega)
  unfold raw_spec_l7Sync n_spec_l7Sync
  rw [h1]; rfl
noncomputable def con_spec_l7Sync : Con := ⟨I_spec_l7Sync, U_spec_l7Sync, fun x => (fun n => some ((), (n, ()))) (n_spec_l7Sync x.1)⟩
theorem ok_spec_l7Sync : ConOk Try.prog 81 con_spec_l7Sync := (ok0_spec_l7Sync).mono (fun x r hk h => (nn_spec_l7Sync x.1 hk).trans h)
end

/-! spec_l2Without -/
section
noncomputable def B_spec_l2Without : Code := (Try.f123.body).getD .skip
noncomputable def E_spec_l2Without : Env := envOf TT [] []
theorem fr_spec_l2Without_0 : FrOk Try.prog ⟨E_spec_l2Without, 28, fun _ => none⟩ B_spec_l2Without := frOk_base mixed tt_ok trivial
noncomputable def D_spec_l2Without_0 : Nat → Option Seg := fun _ => none
def L_spec_l2Without_29 : Shape := ⟨[(0, false, [.br tI]), (1, false, [.int .i64]), (5, false, [.at 800000000]), (6, false, [.int .i64])], [], [(800000000, tI, .fz)]⟩
def S_spec_l2Without_29 : Shape := ⟨[(0, false, [.br tI]), (1, false, [.int .i64]), (5, false, [.at 800000000]), (6, false, [.ci .i64 0])], [], [(800000000, tI, .fz)]⟩
def O_spec_l2Without_29 : Shape := ⟨[(5, false, [.at 800000000])], [], [(800000000, tI, .fz)]⟩
def Z_spec_l2Without_29 : Shape := ⟨[], [], []⟩
abbrev mk_spec_l2Without_29 (v0 : List Int) (v1 : Int) (v2 : Int) (v3 : List Int) : (L_spec_l2Without_29).X := (((v0, ()), (v1, ()), ((), ()), (v2, ()), ()), (), (v3, ()))
abbrev ms_spec_l2Without_29 (v0 : List Int) (v1 : Int) (v2 : List Int) : (S_spec_l2Without_29).X := (((v0, ()), (v1, ()), ((), ()), ((), ()), ()), (), (v2, ()))
abbrev mo_spec_l2Without_29 (v0 : List Int) : (O_spec_l2Without_29).X := ((((), ()), ()), (), (v0, ()))
noncomputable def st_spec_l2Without_29 (v0 : List Int) (v1 : Int) (v2 : Int) (v3 : List Int) : Option ((L_spec_l2Without_29).X ⊕ ((O_spec_l2Without_29).X ⊕ (Z_spec_l2Without_29).X)) :=
  bif (ltb v2 (v0.length : Int)) then
    bif (inb v2 v0.length) then
      bif ((nth v0 v2 0) != v1) then
        bif (inb v2 v0.length) then
          bif (apok v3.length ([(nth v0 v2 0)] : List Int).length 8) then
            some (.inl (((v0, ()), (v1, ()), ((), ()), ((IntKind.i64.wrap (v2 + 1)), ()), ()), (), ((v3 ++ ([(nth v0 v2 0)] : List Int)), ())))
          else none
        else none
      else
        some (.inl (((v0, ()), (v1, ()), ((), ()), ((IntKind.i64.wrap (v2 + 1)), ()), ()), (), (v3, ())))
    else none
  else
    some (.inr (.inl ((((), ()), ()), (), (v3, ()))))
noncomputable def stx_spec_l2Without_29 (x : (L_spec_l2Without_29).X) := st_spec_l2Without_29 x.1.1.1 x.1.2.1.1 x.1.2.2.2.1.1 x.2.2.1
def em_spec_l2Without_29 (x : (S_spec_l2Without_29).X) : (L_spec_l2Without_29).X := (((x.1.1.1, ()), (x.1.2.1.1, ()), ((), ()), (0, ()), ()), (), (x.2.2.1, ()))
noncomputable def c_spec_l2Without_29 : Code := (subN B_spec_l2Without 64 116).getD .skip
theorem a_spec_l2Without_29 : subN B_spec_l2Without 64 29 = some (.block 0 (.loop c_spec_l2Without_29)) := by kernel_rfl
theorem r_spec_l2Without_29 (x : (L_spec_l2Without_29).X) : roundT ⟨E_spec_l2Without, 28, D_spec_l2Without_0⟩ 0 c_spec_l2Without_29 116 L_spec_l2Without_29 O_spec_l2Without_29 Z_spec_l2Without_29 x = stx_spec_l2Without_29 x := by kernel_rfl
noncomputable def fu_spec_l2Without_29 (x : (S_spec_l2Without_29).X) : Nat := (fun (u0 : List Int) (u1 : Int) (u2 : List Int) => 18446744073709551616) x.1.1.1 x.1.2.1.1 x.2.2.1
noncomputable def F_spec_l2Without_29 (x : (S_spec_l2Without_29).X) : Option ((O_spec_l2Without_29).X ⊕ (Z_spec_l2Without_29).X) := loopN stx_spec_l2Without_29 (fu_spec_l2Without_29 x) (em_spec_l2Without_29 x)
noncomputable def sg_spec_l2Without_29 : Seg := ⟨S_spec_l2Without_29, O_spec_l2Without_29, Z_spec_l2Without_29, F_spec_l2Without_29⟩
noncomputable def D_spec_l2Without_1 : Nat → Option Seg := fun q => bif Nat.beq q 29 then some sg_spec_l2Without_29 else D_spec_l2Without_0 q
theorem fr_spec_l2Without_1 : FrOk Try.prog ⟨E_spec_l2Without, 28, D_spec_l2Without_1⟩ B_spec_l2Without := (fr_spec_l2Without_0).loop (sg := sg_spec_l2Without_29) L_spec_l2Without_29 em_spec_l2Without_29 (by decide) a_spec_l2Without_29 stx_spec_l2Without_29 fu_spec_l2Without_29 (by decide) (fun _ => rfl) (fun x r _ h => h) r_spec_l2Without_29
abbrev I_spec_l2Without : List Par := [.rd tL, .rd tI]
abbrev U_spec_l2Without : List OT := [⟨false, tL, (.ow .fz)⟩]
noncomputable def raw_spec_l2Without (a0 : List Int) (a1 : Int) : Option (ResD U_spec_l2Without × MutD I_spec_l2Without) :=
  segM (F_spec_l2Without_29 (((a0, ()), (a1, ()), ((), ()), ((), ()), ()), (), (([] : List Int), ()))) (fun y0 =>
    some ((y0.2.2.1, ()), ())) (fun y0 =>
    none)
theorem e_spec_l2Without (x : InD I_spec_l2Without) : execF ⟨E_spec_l2Without, 28, D_spec_l2Without_1⟩ Try.f123.results.toList B_spec_l2Without I_spec_l2Without U_spec_l2Without x = raw_spec_l2Without x.1 x.2.1 := by kernel_rfl
theorem ok0_spec_l2Without : ConOk Try.prog 123 ⟨I_spec_l2Without, U_spec_l2Without, fun x => raw_spec_l2Without x.1 x.2.1⟩ := conOk_exec (fr_spec_l2Without_1) Try.func123 (by kernel_rfl) (by kernel_rfl) Try.ntmps123.symm (by decide) (fun x r h => (e_spec_l2Without x).trans h)
noncomputable def n_spec_l2Without (a0 : List Int) (a1 : Int) : List Int := sans a0 a1
theorem foldl_filter {α : Type} (p : α → Bool) : ∀ (l : List α) (s : List α), l.foldl (fun s x => bif p x then s ++ [x] else s) s = s ++ l.filter p
  | [], s => by simp
  | x :: l, s => by
    rw [List.foldl_cons, foldl_filter p l, List.filter_cons]
    cases p x <;> simp
theorem nn_spec_l2Without (a0 : List Int) (a1 : Int) (hk : InOk I_spec_l2Without (a0, a1, ())) : raw_spec_l2Without a0 a1 = (fun n => some ((n, ()), ())) (n_spec_l2Without a0 a1) := by
  have hb : a0.length * 8 ≤ 2 ^ 47 := hk.1.1
  have h1 := loopN_fold (step := stx_spec_l2Without_29) a0 0 (fun i s => mk_spec_l2Without_29 a0 a1 i s) (fun s x => bif x != a1 then s ++ [x] else s) (fun i s => s.length ≤ i) (fun s => .inl (mo_spec_l2Without_29 s)) (fun i s hi hs => by
      constructor
      · simp only [stx_spec_l2Without_29, mk_spec_l2Without_29, st_spec_l2Without_29, ltb_t (show (i : Int) < a0.length by omega), cond_true, wr (show -9223372036854775808 ≤ (i : Int) + 1 by omega) (by omega), Int.natCast_add, Int.natCast_one, Int.toNat_natCast, inb_nat hi, nth_nat]
        rw [apok_iff.2 (show (s.length + [a0.getD i 0].length) * 8 ≤ 140737488355328 by simp only [List.length_cons, List.length_nil]; omega)]
        cases (a0.getD i 0 != a1) <;> rfl
      · cases (a0.getD i 0 != a1)
        · show s.length ≤ _; omega
        · simp only [cond_true, List.length_append, List.length_cons, List.length_nil]; omega) (fun s _ => by simp only [stx_spec_l2Without_29, mk_spec_l2Without_29, st_spec_l2Without_29, ltb_f (Int.le_refl _), cond_false]) [] (Nat.le_refl _) 18446744073709551616 (by omega)
  unfold raw_spec_l2Without n_spec_l2Without sans
  rw [show F_spec_l2Without_29 (ms_spec_l2Without_29 a0 a1 []) = _ from h1, foldl_filter]; rfl
noncomputable def con_spec_l2Without : Con := ⟨I_spec_l2Without, U_spec_l2Without, fun x => (fun n => some ((n, ()), ())) (n_spec_l2Without x.1 x.2.1)⟩
theorem ok_spec_l2Without : ConOk Try.prog 123 con_spec_l2Without := (ok0_spec_l2Without).mono (fun x r hk h => (nn_spec_l2Without x.1 x.2.1 hk).trans h)
end

/-! spec_WriteSec -/
section
noncomputable def B_spec_WriteSec : Code := (Try.f104.body).getD .skip
noncomputable def E_spec_WriteSec : Env := envOf TT [(35, con_spec_l1In), (44, con_spec_l2Copy), (72, con_spec_MemOk), (98, con_spec_SecOk), (123, con_spec_l2Without)] [(16832, (.pr .fz .fz))]
theorem fr_spec_WriteSec_0 : FrOk Try.prog ⟨E_spec_WriteSec, 55, fun _ => none⟩ B_spec_WriteSec := frOk_base mixed tt_ok ⟨ok_spec_l1In, ok_spec_l2Copy, ok_spec_MemOk, ok_spec_SecOk, ok_spec_l2Without, trivial⟩
noncomputable def D_spec_WriteSec_0 : Nat → Option Seg := fun _ => none
abbrev I_spec_WriteSec : List Par := [.rd tM, .rd tI, .rd tL]
abbrev U_spec_WriteSec : List OT := [⟨false, tM, (.pr (.ow .fz) (.pr (.ow (.pr .fz .fz)) (.pr .fz (.ow .fz))))⟩, ⟨false, tB, .fz⟩]
noncomputable def raw_spec_WriteSec (a0 : dM) (a1 : Int) (a2 : List Int) : Option (ResD U_spec_WriteSec × MutD I_spec_WriteSec) :=
  let r1 := n_spec_l2Copy a0
  let r2 := n_spec_MemOk a0
  bif (!(!r2)) then
    bif (!a0.2.2.1) then
      let r3 := n_spec_l1In a1 0 (IntKind.i64.wrap ((a0.1.length : Int) - 1))
      bif (!(!r3)) then
        let r4 := n_spec_SecOk a2
        bif (!(!r4)) then
          bif (leb 60 (a0.2.1.length : Int)) then
            some ((r1, false, ()), ())
          else
            bif (apok ([] : List Int).length a2.length 8) then
              bif (apok r1.2.1.length ([(a1, (([] : List Int) ++ a2))] : List dW).length 32) then
                let r5 := n_spec_l2Without a0.2.2.2 a1
                some (((r1.1, (r1.2.1 ++ ([(a1, (([] : List Int) ++ a2))] : List dW)), r1.2.2.1, r5), true, ()), ())
              else none
            else none
        else
          some ((r1, false, ()), ())
      else
        some ((r1, false, ()), ())
    else
      some ((r1, false, ()), ())
  else
    some ((r1, false, ()), ())
theorem e_spec_WriteSec (x : InD I_spec_WriteSec) : execF ⟨E_spec_WriteSec, 55, D_spec_WriteSec_0⟩ Try.f104.results.toList B_spec_WriteSec I_spec_WriteSec U_spec_WriteSec x = raw_spec_WriteSec x.1 x.2.1 x.2.2.1 := by kernel_rfl
theorem ok0_spec_WriteSec : ConOk Try.prog 104 ⟨I_spec_WriteSec, U_spec_WriteSec, fun x => raw_spec_WriteSec x.1 x.2.1 x.2.2.1⟩ := conOk_exec (fr_spec_WriteSec_0) Try.func104 (by kernel_rfl) (by kernel_rfl) Try.ntmps104.symm (by decide) (fun x r h => (e_spec_WriteSec x).trans h)
noncomputable def n_spec_WriteSec (a0 : dM) (a1 : Int) (a2 : List Int) : dM × Bool := writeSec a0 a1 a2
theorem nn_spec_WriteSec (a0 : dM) (a1 : Int) (a2 : List Int) (hk : InOk I_spec_WriteSec (a0, a1, a2, ())) : raw_spec_WriteSec a0 a1 a2 = (fun n => some ((n.1, n.2, ()), ())) (n_spec_WriteSec a0 a1 a2) := by
  have hb1 : a0.1.length * 24 ≤ 2 ^ 47 := hk.1.1.1
  have hb2 : a2.length * 8 ≤ 2 ^ 47 := hk.2.2.1.1
  unfold raw_spec_WriteSec n_spec_WriteSec writeSec canWrite
  simp only [n_spec_l2Copy, n_spec_MemOk, in_len (show a0.1.length ≤ 1152921504606846976 by omega), spec_sec_eq, n_spec_l2Without, List.nil_append]
  cases memOk a0
  · rfl
  cases a0.2.2.1
  · cases inb a1 a0.1.length
    · rfl
    cases secOk a2
    · rfl
    by_cases h : (a0.2.1.length : Int) < 60
    · rw [ltb_t h, leb_f h, apok_iff.2 (show (([] : List Int).length + a2.length) * 8 ≤ 140737488355328 by rw [List.length_nil]; omega), apok_iff.2 (show (a0.2.1.length + [(a1, a2)].length) * 32 ≤ 140737488355328 by simp only [List.length_cons, List.length_nil]; omega)]; rfl
    · rw [ltb_f (by omega), leb_t (by omega)]; rfl
  · rfl
noncomputable def con_spec_WriteSec : Con := ⟨I_spec_WriteSec, U_spec_WriteSec, fun x => (fun n => some ((n.1, n.2, ()), ())) (n_spec_WriteSec x.1 x.2.1 x.2.2.1)⟩
theorem ok_spec_WriteSec : ConOk Try.prog 104 con_spec_WriteSec := (ok0_spec_WriteSec).mono (fun x r hk h => (nn_spec_WriteSec x.1 x.2.1 x.2.2.1 hk).trans h)
end

/-! spec_l7Put -/
section
noncomputable def B_spec_l7Put : Code := (Try.f82.body).getD .skip
noncomputable def E_spec_l7Put : Env := envOf TT [(102, con_spec_l7Op), (104, con_spec_WriteSec)] []
theorem fr_spec_l7Put_0 : FrOk Try.prog ⟨E_spec_l7Put, 43, fun _ => none⟩ B_spec_l7Put := frOk_base mixed tt_ok ⟨ok_spec_l7Op, ok_spec_WriteSec, trivial⟩
noncomputable def D_spec_l7Put_0 : Nat → Option Seg := fun _ => none
abbrev I_spec_l7Put : List Par := [.pt tA (.pr .fz (.pr (.pr .fz .fz) (.pr (.ow (.pr (.ow .fz) (.pr (.ow (.pr .fz .fz)) (.pr .fz (.ow .fz))))) (.pr .fz (.pr .fz (.pr .fz (.pr .fz (.pr .fz (.pr (.ow (.pr .fz .fz)) (.pr .fz (.pr .fz .fz))))))))))), .rd tI, .rd tI, .rd tL]
abbrev U_spec_l7Put : List OT := []
noncomputable def raw_spec_l7Put (a0 : dA) (a1 : Int) (a2 : Int) (a3 : List Int) : Option (ResD U_spec_l7Put × MutD I_spec_l7Put) :=
  bif (inb a1 a0.2.2.1.length) then
    bif (!((((nth a0.2.2.1 a1 ([], [], false, [])).2).2).1)) then
      let r1 := n_spec_l7Op a0
      bif (!r1.1) then
        some ((), (r1.2, ()))
      else
        bif (inb a1 r1.2.2.2.1.length) then
          let r2 := n_spec_WriteSec ((nth r1.2.2.2.1 a1 ([], [], false, [])).1, ((nth r1.2.2.2.1 a1 ([], [], false, [])).2).1, (((nth r1.2.2.2.1 a1 ([], [], false, [])).2).2)) a2 a3
          bif (inb a1 r1.2.2.2.1.length) then
            some ((), ((r1.2.1, r1.2.2.1, (r1.2.2.2.1.set (a1).toNat r2.1), r1.2.2.2.2), ()))
          else none
        else none
    else
      some ((), (a0, ()))
  else none
theorem e_spec_l7Put (x : InD I_spec_l7Put) : execF ⟨E_spec_l7Put, 43, D_spec_l7Put_0⟩ Try.f82.results.toList B_spec_l7Put I_spec_l7Put U_spec_l7Put x = raw_spec_l7Put x.1 x.2.1 x.2.2.1 x.2.2.2.1 := by kernel_rfl
theorem ok0_spec_l7Put : ConOk Try.prog 82 ⟨I_spec_l7Put, U_spec_l7Put, fun x => raw_spec_l7Put x.1 x.2.1 x.2.2.1 x.2.2.2.1⟩ := conOk_exec (fr_spec_l7Put_0) Try.func82 (by kernel_rfl) (by kernel_rfl) Try.ntmps82.symm (by decide) (fun x r h => (e_spec_l7Put x).trans h)
noncomputable def n_spec_l7Put (a0 : dA) (a1 a2 : Int) (a3 : List Int) : dA := putA a0 a1 a2 a3
noncomputable def q_spec_l7Put (a0 : dA) (a1 a2 : Int) (a3 : List Int) : Bool := inb a1 a0.2.2.1.length
theorem nn_spec_l7Put (a0 : dA) (a1 a2 : Int) (a3 : List Int) (hk : InOk I_spec_l7Put (a0, a1, a2, a3, ())) (hq : q_spec_l7Put a0 a1 a2 a3 = true) : raw_spec_l7Put a0 a1 a2 a3 = (fun n => some ((), (n, ()))) (n_spec_l7Put a0 a1 a2 a3) := by
  have hq : inb a1 a0.2.2.1.length = true := hq
  unfold raw_spec_l7Put n_spec_l7Put putA setMem
  simp only [spec_op_eq, op_mems, hq, pr_eta, n_spec_WriteSec]
  cases (nth a0.2.2.1 a1 noMem).2.2.1 <;> cases (opA a0).1 <;> rfl
noncomputable def o_spec_l7Put (a0 : dA) (a1 : Int) (a2 : Int) (a3 : List Int) : Option (ResD U_spec_l7Put × MutD I_spec_l7Put) := bif q_spec_l7Put a0 a1 a2 a3 then (fun n => some ((), (n, ()))) (n_spec_l7Put a0 a1 a2 a3) else none
theorem ot_spec_l7Put (a0 : dA) (a1 : Int) (a2 : Int) (a3 : List Int) (h : q_spec_l7Put a0 a1 a2 a3 = true) : o_spec_l7Put a0 a1 a2 a3 = (fun n => some ((), (n, ()))) (n_spec_l7Put a0 a1 a2 a3) := by unfold o_spec_l7Put; rw [h]; rfl
noncomputable def con_spec_l7Put : Con := ⟨I_spec_l7Put, U_spec_l7Put, fun x => o_spec_l7Put x.1 x.2.1 x.2.2.1 x.2.2.2.1⟩
theorem ok_spec_l7Put : ConOk Try.prog 82 con_spec_l7Put := (ok0_spec_l7Put).mono (fun x r hk h => pre_ok h (fun hq => nn_spec_l7Put x.1 x.2.1 x.2.2.1 x.2.2.2.1 hk hq))
end
end Go.Tf
