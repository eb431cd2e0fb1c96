/- Functions of the program, and what they come to. -/
import Derived.Test.YtmamkjioahnecabExactSpareF9
namespace Go.Tf
open Go.Proofs
set_option synthInstance.maxHeartbeats 400000
set_option synthInstance.maxSize 10000
set_option linter.unusedVariables false
set_option linter.unusedSimpArgs false
set_option maxRecDepth 100000
/-! spec_FlushMem -/
section
noncomputable def B_spec_FlushMem : Code := (Try.f133.body).getD .skip
noncomputable def E_spec_FlushMem : Env := envOf TT [(64, con_spec_l2Copy), (105, con_spec_MemOk)] [(32768, (.pr .fz .fz))]
theorem fr_spec_FlushMem_0 : FrOk Try.prog ⟨E_spec_FlushMem, 40, fun _ => none⟩ B_spec_FlushMem := frOk_base mixed tt_ok ⟨ok_spec_l2Copy, ok_spec_MemOk, trivial⟩
noncomputable def D_spec_FlushMem_0 : Nat → Option Seg := fun _ => none
def L_spec_FlushMem_61 : Shape := ⟨[(2, false, [.ptr 64 0]), (3, false, [.ptr 4224 0]), (4, false, [.int .i64])], [(64, [.nil, .nil, .bool, .nil]), (4224, [.at 800000000, .at 800000001, .bool, .at 800000002])], [(800000000, tL, .fz), (800000001, tW, (.pr .fz .fz)), (800000002, tI, .fz)]⟩
def S_spec_FlushMem_61 : Shape := ⟨[(2, false, [.ptr 64 0]), (3, false, [.ptr 4224 0]), (4, false, [.ci .i64 0])], [(64, [.nil, .nil, .bool, .nil]), (4224, [.at 800000000, .at 800000001, .bool, .at 800000002])], [(800000000, tL, .fz), (800000001, tW, (.pr .fz .fz)), (800000002, tI, .fz)]⟩
def O_spec_FlushMem_61 : Shape := ⟨[(2, false, [.ptr 64 0]), (3, false, [.ptr 4224 0])], [(64, [.nil, .nil, .bool, .nil]), (4224, [.at 800000000, .at 800000001, .bool, .at 800000002])], [(800000000, tL, .fz), (800000001, tW, (.pr .fz .fz)), (800000002, tI, .fz)]⟩
def Z_spec_FlushMem_61 : Shape := ⟨[], [], []⟩
abbrev mk_spec_FlushMem_61 (v0 : Int) (v1 : dM) (v2 : dM) : (L_spec_FlushMem_61).X := ((((), ()), ((), ()), (v0, ()), ()), (((), (), v1.2.2.1, (), ()), ((), (), v2.2.2.1, (), ()), ()), (v2.1, v2.2.1, v2.2.2.2, ()))
abbrev ms_spec_FlushMem_61 (v0 : dM) (v1 : dM) : (S_spec_FlushMem_61).X := ((((), ()), ((), ()), ((), ()), ()), (((), (), v0.2.2.1, (), ()), ((), (), v1.2.2.1, (), ()), ()), (v1.1, v1.2.1, v1.2.2.2, ()))
abbrev mo_spec_FlushMem_61 (v0 : dM) (v1 : dM) : (O_spec_FlushMem_61).X := ((((), ()), ((), ()), ()), (((), (), v0.2.2.1, (), ()), ((), (), v1.2.2.1, (), ()), ()), (v1.1, v1.2.1, v1.2.2.2, ()))
noncomputable def st_spec_FlushMem_61 (v0 : Int) (v1 : Bool) (v2 : Bool) (v3 : List (List Int)) (v4 : List dW) (v5 : List Int) : Option ((L_spec_FlushMem_61).X ⊕ ((O_spec_FlushMem_61).X ⊕ (Z_spec_FlushMem_61).X)) :=
  bif (ltb v0 (v4.length : Int)) then
    bif (inb v0 v4.length) then
      bif (inb v0 v4.length) then
        bif (inb ((nth v4 v0 (0, [])).1) v3.length) then
          let r4 := (v3.set ((nth v4 v0 (0, [])).1).toNat ((nth v4 v0 (0, [])).2))
          some (.inl ((((), ()), ((), ()), ((IntKind.i64.wrap (v0 + 1)), ()), ()), (((), (), v1, (), ()), ((), (), v2, (), ()), ()), (r4, v4, v5, ())))
        else none
      else none
    else none
  else
    some (.inr (.inl ((((), ()), ((), ()), ()), (((), (), v1, (), ()), ((), (), v2, (), ()), ()), (v3, v4, v5, ()))))
noncomputable def stx_spec_FlushMem_61 (x : (L_spec_FlushMem_61).X) := st_spec_FlushMem_61 x.1.2.2.1.1 x.2.1.1.2.2.1 x.2.1.2.1.2.2.1 x.2.2.1 x.2.2.2.1 x.2.2.2.2.1
def em_spec_FlushMem_61 (x : (S_spec_FlushMem_61).X) : (L_spec_FlushMem_61).X := ((((), ()), ((), ()), (0, ()), ()), (((), (), x.2.1.1.2.2.1, (), ()), ((), (), x.2.1.2.1.2.2.1, (), ()), ()), (x.2.2.1, x.2.2.2.1, x.2.2.2.2.1, ()))
noncomputable def c_spec_FlushMem_61 : Code := (subN B_spec_FlushMem 64 244).getD .skip
theorem a_spec_FlushMem_61 : subN B_spec_FlushMem 64 61 = some (.block 0 (.loop c_spec_FlushMem_61)) := by kernel_rfl
theorem r_spec_FlushMem_61 (x : (L_spec_FlushMem_61).X) : roundT ⟨E_spec_FlushMem, 40, D_spec_FlushMem_0⟩ 0 c_spec_FlushMem_61 244 L_spec_FlushMem_61 O_spec_FlushMem_61 Z_spec_FlushMem_61 x = stx_spec_FlushMem_61 x := by kernel_rfl
noncomputable def fu_spec_FlushMem_61 (x : (S_spec_FlushMem_61).X) : Nat := (fun (u0 : Bool) (u1 : Bool) (u2 : List (List Int)) (u3 : List dW) (u4 : List Int) => 18446744073709551616) x.2.1.1.2.2.1 x.2.1.2.1.2.2.1 x.2.2.1 x.2.2.2.1 x.2.2.2.2.1
noncomputable def F_spec_FlushMem_61 (x : (S_spec_FlushMem_61).X) : Option ((O_spec_FlushMem_61).X ⊕ (Z_spec_FlushMem_61).X) := loopN stx_spec_FlushMem_61 (fu_spec_FlushMem_61 x) (em_spec_FlushMem_61 x)
noncomputable def sg_spec_FlushMem_61 : Seg := ⟨S_spec_FlushMem_61, O_spec_FlushMem_61, Z_spec_FlushMem_61, F_spec_FlushMem_61⟩
noncomputable def D_spec_FlushMem_1 : Nat → Option Seg := fun q => bif Nat.beq q 61 then some sg_spec_FlushMem_61 else D_spec_FlushMem_0 q
theorem fr_spec_FlushMem_1 : FrOk Try.prog ⟨E_spec_FlushMem, 40, D_spec_FlushMem_1⟩ B_spec_FlushMem := (fr_spec_FlushMem_0).loop (sg := sg_spec_FlushMem_61) L_spec_FlushMem_61 em_spec_FlushMem_61 (by decide) a_spec_FlushMem_61 stx_spec_FlushMem_61 fu_spec_FlushMem_61 (by decide) (fun _ => rfl) (fun x r _ h => h) r_spec_FlushMem_61
abbrev I_spec_FlushMem : List Par := [.rd tM]
abbrev U_spec_FlushMem : List OT := [⟨false, tM, (.pr (.ow .fz) (.pr (.ow (.pr .fz .fz)) (.pr .fz (.ow .fz))))⟩]
noncomputable def raw_spec_FlushMem (a0 : dM) : Option (ResD U_spec_FlushMem × MutD I_spec_FlushMem) :=
  let r1 := n_spec_l2Copy a0
  let r2 := n_spec_MemOk a0
  bif (!(!r2)) then
    bif a0.2.2.1 then
      some ((r1, ()), ())
    else
      segM (F_spec_FlushMem_61 ((((), ()), ((), ()), ((), ()), ()), (((), (), false, (), ()), ((), (), r1.2.2.1, (), ()), ()), (r1.1, r1.2.1, r1.2.2.2, ()))) (fun y4 =>
        some (((y4.2.2.1, ([] : List dW), y4.2.1.2.1.2.2.1, y4.2.2.2.2.1), ()), ())) (fun y4 =>
        none)
  else
    some ((r1, ()), ())
theorem e_spec_FlushMem (x : InD I_spec_FlushMem) : execF ⟨E_spec_FlushMem, 40, D_spec_FlushMem_1⟩ Try.f133.results.toList B_spec_FlushMem I_spec_FlushMem U_spec_FlushMem x = raw_spec_FlushMem x.1 := by kernel_rfl
theorem ok0_spec_FlushMem : ConOk Try.prog 133 ⟨I_spec_FlushMem, U_spec_FlushMem, fun x => raw_spec_FlushMem x.1⟩ := conOk_exec (fr_spec_FlushMem_1) Try.func133 (by kernel_rfl) (by kernel_rfl) Try.ntmps133.symm (by decide) (fun x r h => (e_spec_FlushMem x).trans h)
noncomputable def n_spec_FlushMem (a0 : dM) : dM := flushMem a0
theorem nn_spec_FlushMem (a0 : dM) (hk : InOk I_spec_FlushMem (a0, ())) : raw_spec_FlushMem a0 = (fun n => some ((n, ()), ())) (n_spec_FlushMem a0) := by
  have hb2 : a0.2.1.length * 32 ≤ 2 ^ 47 := hk.1.2.1.1
  unfold raw_spec_FlushMem n_spec_FlushMem flushMem
  simp only [n_spec_l2Copy, n_spec_MemOk]
  cases hm : memOk a0
  · rfl
  have h1 : F_spec_FlushMem_61 (ms_spec_FlushMem_61 noMem a0) = some (.inl (mo_spec_FlushMem_61 noMem (layKept (fun _ => true) a0.2.1 a0.1, a0.2))) :=
    loopN_rng (step := stx_spec_FlushMem_61) a0.2.1.length (fun i s => mk_spec_FlushMem_61 i noMem (s, a0.2)) (layOne (fun _ => true) a0.2.1) (fun i s => s.length = a0.1.length) (fun s => .inl (mo_spec_FlushMem_61 noMem (s, a0.2))) (fun i s hi hs => by
      have hw := (memOk_wr hm hi).1
      refine ⟨?_, layOne_len.trans hs⟩
      simp only [stx_spec_FlushMem_61, mk_spec_FlushMem_61, st_spec_FlushMem_61, ltb_t (show (i : Int) < a0.2.1.length by omega), cond_true, wr (show -9223372036854775808 ≤ (i : Int) + 1 by omega) (by omega), Int.natCast_add, Int.natCast_one, Int.toNat_natCast, inb_nat hi, hs, hw, layOne]) (fun s hs => by simp only [stx_spec_FlushMem_61, mk_spec_FlushMem_61, st_spec_FlushMem_61, ltb_f (Int.le_refl _), cond_false]) a0.1 rfl _ (by show _ < 18446744073709551616; omega)
  rw [h1]
  cases hf : a0.2.2.1
  · exact congrArg (fun z => some (((layKept (fun _ => true) a0.2.1 a0.1, ([] : List dW), z, a0.2.2.2), ()), ())) hf
  · rfl
noncomputable def con_spec_FlushMem : Con := ⟨I_spec_FlushMem, U_spec_FlushMem, fun x => (fun n => some ((n, ()), ())) (n_spec_FlushMem x.1)⟩
theorem ok_spec_FlushMem : ConOk Try.prog 133 con_spec_FlushMem := (ok0_spec_FlushMem).mono (fun x r hk h => (nn_spec_FlushMem x.1 hk).trans h)
end

/-! spec_l7Sync -/
section
noncomputable def B_spec_l7Sync : Code := (Try.f109.body).getD .skip
noncomputable def E_spec_l7Sync : Env := envOf TT [(130, con_spec_l7Op), (133, con_spec_FlushMem)] []
theorem fr_spec_l7Sync_0 : FrOk Try.prog ⟨E_spec_l7Sync, 39, fun _ => none⟩ B_spec_l7Sync := frOk_base mixed tt_ok ⟨ok_spec_l7Op, ok_spec_FlushMem, trivial⟩
noncomputable def D_spec_l7Sync_0 : Nat → Option Seg := fun _ => none
def L_spec_l7Sync_3 : Shape := ⟨[(0, false, [.ptr 1000000000 0]), (2, false, [.int .i64])], [(1000000000, [.int .i64, .int .i64, .int .i64, .at 800000000, .int .i64, .int .i64, .int .i64, .int .i64, .int .i64, .at 800000001, .int .i64, .bool, .bool])], [(800000000, tM, (.pr (.ow .fz) (.pr (.ow (.pr .fz .fz)) (.pr .fz (.ow .fz))))), (800000001, tW, (.pr .fz .fz))]⟩
def S_spec_l7Sync_3 : Shape := ⟨[(0, false, [.ptr 1000000000 0]), (2, false, [.ci .i64 0])], [(1000000000, [.int .i64, .int .i64, .int .i64, .at 800000000, .int .i64, .int .i64, .int .i64, .int .i64, .int .i64, .at 800000001, .int .i64, .bool, .bool])], [(800000000, tM, (.pr (.ow .fz) (.pr (.ow (.pr .fz .fz)) (.pr .fz (.ow .fz))))), (800000001, tW, (.pr .fz .fz))]⟩
def O_spec_l7Sync_3 : Shape := ⟨[], [(1000000000, [.int .i64, .int .i64, .int .i64, .at 800000000, .int .i64, .int .i64, .int .i64, .int .i64, .int .i64, .at 800000001, .int .i64, .bool, .bool])], [(800000000, tM, (.pr (.ow .fz) (.pr (.ow (.pr .fz .fz)) (.pr .fz (.ow .fz))))), (800000001, tW, (.pr .fz .fz))]⟩
def Z_spec_l7Sync_3 : Shape := ⟨[], [], []⟩
abbrev mk_spec_l7Sync_3 (v0 : Int) (v1 : dA) : (L_spec_l7Sync_3).X := ((((), ()), (v0, ()), ()), ((v1.1, v1.2.1.1, v1.2.1.2, (), v1.2.2.2.1, v1.2.2.2.2.1, v1.2.2.2.2.2.1, v1.2.2.2.2.2.2.1, v1.2.2.2.2.2.2.2.1, (), v1.2.2.2.2.2.2.2.2.2.1, v1.2.2.2.2.2.2.2.2.2.2.1, v1.2.2.2.2.2.2.2.2.2.2.2, ()), ()), (v1.2.2.1, v1.2.2.2.2.2.2.2.2.1, ()))
abbrev ms_spec_l7Sync_3 (v0 : dA) : (S_spec_l7Sync_3).X := ((((), ()), ((), ()), ()), ((v0.1, v0.2.1.1, v0.2.1.2, (), v0.2.2.2.1, v0.2.2.2.2.1, v0.2.2.2.2.2.1, v0.2.2.2.2.2.2.1, v0.2.2.2.2.2.2.2.1, (), v0.2.2.2.2.2.2.2.2.2.1, v0.2.2.2.2.2.2.2.2.2.2.1, v0.2.2.2.2.2.2.2.2.2.2.2, ()), ()), (v0.2.2.1, v0.2.2.2.2.2.2.2.2.1, ()))
abbrev mo_spec_l7Sync_3 (v0 : dA) : (O_spec_l7Sync_3).X := ((), ((v0.1, v0.2.1.1, v0.2.1.2, (), v0.2.2.2.1, v0.2.2.2.2.1, v0.2.2.2.2.2.1, v0.2.2.2.2.2.2.1, v0.2.2.2.2.2.2.2.1, (), v0.2.2.2.2.2.2.2.2.2.1, v0.2.2.2.2.2.2.2.2.2.2.1, v0.2.2.2.2.2.2.2.2.2.2.2, ()), ()), (v0.2.2.1, v0.2.2.2.2.2.2.2.2.1, ()))
noncomputable def st_spec_l7Sync_3 (v0 : Int) (v1 : Int) (v2 : Int) (v3 : Int) (v4 : Int) (v5 : Int) (v6 : Int) (v7 : Int) (v8 : Int) (v9 : Int) (v10 : Bool) (v11 : Bool) (v12 : List dM) (v13 : List dW) : Option ((L_spec_l7Sync_3).X ⊕ ((O_spec_l7Sync_3).X ⊕ (Z_spec_l7Sync_3).X)) :=
  bif (ltb v0 (v12.length : Int)) then
    bif (inb v0 v12.length) then
      bif (!((((nth v12 v0 ([], [], false, [])).2).2).1)) then
        let r3 := n_spec_l7Op (v1, (v2, v3), v12, v4, v5, v6, v7, v8, v13, v9, v10, v11)
        bif r3.1 then
          bif (inb v0 r3.2.2.2.1.length) then
            let r4 := n_spec_FlushMem ((nth r3.2.2.2.1 v0 ([], [], false, [])).1, ((nth r3.2.2.2.1 v0 ([], [], false, [])).2).1, (((nth r3.2.2.2.1 v0 ([], [], false, [])).2).2))
            bif (inb v0 r3.2.2.2.1.length) then
              some (.inl ((((), ()), ((IntKind.i64.wrap (v0 + 1)), ()), ()), ((r3.2.1, r3.2.2.1.1, r3.2.2.1.2, (), r3.2.2.2.2.1, r3.2.2.2.2.2.1, r3.2.2.2.2.2.2.1, r3.2.2.2.2.2.2.2.1, r3.2.2.2.2.2.2.2.2.1, (), r3.2.2.2.2.2.2.2.2.2.2.1, r3.2.2.2.2.2.2.2.2.2.2.2.1, r3.2.2.2.2.2.2.2.2.2.2.2.2, ()), ()), ((r3.2.2.2.1.set (v0).toNat r4), r3.2.2.2.2.2.2.2.2.2.1, ())))
            else none
          else none
        else
          some (.inl ((((), ()), ((IntKind.i64.wrap (v0 + 1)), ()), ()), ((r3.2.1, r3.2.2.1.1, r3.2.2.1.2, (), r3.2.2.2.2.1, r3.2.2.2.2.2.1, r3.2.2.2.2.2.2.1, r3.2.2.2.2.2.2.2.1, r3.2.2.2.2.2.2.2.2.1, (), r3.2.2.2.2.2.2.2.2.2.2.1, r3.2.2.2.2.2.2.2.2.2.2.2.1, r3.2.2.2.2.2.2.2.2.2.2.2.2, ()), ()), (r3.2.2.2.1, r3.2.2.2.2.2.2.2.2.2.1, ())))
      else
        some (.inl ((((), ()), ((IntKind.i64.wrap (v0 + 1)), ()), ()), ((v1, v2, v3, (), v4, v5, v6, v7, v8, (), v9, v10, v11, ()), ()), (v12, v13, ())))
    else none
  else
    some (.inr (.inl ((), ((v1, v2, v3, (), v4, v5, v6, v7, v8, (), v9, v10, v11, ()), ()), (v12, v13, ()))))
noncomputable def stx_spec_l7Sync_3 (x : (L_spec_l7Sync_3).X) := st_spec_l7Sync_3 x.1.2.1.1 x.2.1.1.1 x.2.1.1.2.1 x.2.1.1.2.2.1 x.2.1.1.2.2.2.2.1 x.2.1.1.2.2.2.2.2.1 x.2.1.1.2.2.2.2.2.2.1 x.2.1.1.2.2.2.2.2.2.2.1 x.2.1.1.2.2.2.2.2.2.2.2.1 x.2.1.1.2.2.2.2.2.2.2.2.2.2.1 x.2.1.1.2.2.2.2.2.2.2.2.2.2.2.1 x.2.1.1.2.2.2.2.2.2.2.2.2.2.2.2.1 x.2.2.1 x.2.2.2.1
def em_spec_l7Sync_3 (x : (S_spec_l7Sync_3).X) : (L_spec_l7Sync_3).X := ((((), ()), (0, ()), ()), ((x.2.1.1.1, x.2.1.1.2.1, x.2.1.1.2.2.1, (), x.2.1.1.2.2.2.2.1, x.2.1.1.2.2.2.2.2.1, x.2.1.1.2.2.2.2.2.2.1, x.2.1.1.2.2.2.2.2.2.2.1, x.2.1.1.2.2.2.2.2.2.2.2.1, (), x.2.1.1.2.2.2.2.2.2.2.2.2.2.1, x.2.1.1.2.2.2.2.2.2.2.2.2.2.2.1, x.2.1.1.2.2.2.2.2.2.2.2.2.2.2.2.1, ()), ()), (x.2.2.1, x.2.2.2.1, ()))
noncomputable def c_spec_l7Sync_3 : Code := (subN B_spec_l7Sync 64 12).getD .skip
theorem a_spec_l7Sync_3 : subN B_spec_l7Sync 64 3 = some (.block 0 (.loop c_spec_l7Sync_3)) := by kernel_rfl
theorem r_spec_l7Sync_3 (x : (L_spec_l7Sync_3).X) : roundT ⟨E_spec_l7Sync, 39, D_spec_l7Sync_0⟩ 0 c_spec_l7Sync_3 12 L_spec_l7Sync_3 O_spec_l7Sync_3 Z_spec_l7Sync_3 x = stx_spec_l7Sync_3 x := by kernel_rfl
noncomputable def fu_spec_l7Sync_3 (x : (S_spec_l7Sync_3).X) : Nat := (fun (u0 : Int) (u1 : Int) (u2 : Int) (u3 : Int) (u4 : Int) (u5 : Int) (u6 : Int) (u7 : Int) (u8 : Int) (u9 : Bool) (u10 : Bool) (u11 : List dM) (u12 : List dW) => 18446744073709551616) x.2.1.1.1 x.2.1.1.2.1 x.2.1.1.2.2.1 x.2.1.1.2.2.2.2.1 x.2.1.1.2.2.2.2.2.1 x.2.1.1.2.2.2.2.2.2.1 x.2.1.1.2.2.2.2.2.2.2.1 x.2.1.1.2.2.2.2.2.2.2.2.1 x.2.1.1.2.2.2.2.2.2.2.2.2.2.1 x.2.1.1.2.2.2.2.2.2.2.2.2.2.2.1 x.2.1.1.2.2.2.2.2.2.2.2.2.2.2.2.1 x.2.2.1 x.2.2.2.1
noncomputable def F_spec_l7Sync_3 (x : (S_spec_l7Sync_3).X) : Option ((O_spec_l7Sync_3).X ⊕ (Z_spec_l7Sync_3).X) := loopN stx_spec_l7Sync_3 (fu_spec_l7Sync_3 x) (em_spec_l7Sync_3 x)
noncomputable def sg_spec_l7Sync_3 : Seg := ⟨S_spec_l7Sync_3, O_spec_l7Sync_3, Z_spec_l7Sync_3, F_spec_l7Sync_3⟩
noncomputable def D_spec_l7Sync_1 : Nat → Option Seg := fun q => bif Nat.beq q 3 then some sg_spec_l7Sync_3 else D_spec_l7Sync_0 q
theorem fr_spec_l7Sync_1 : FrOk Try.prog ⟨E_spec_l7Sync, 39, D_spec_l7Sync_1⟩ B_spec_l7Sync := (fr_spec_l7Sync_0).loop (sg := sg_spec_l7Sync_3) L_spec_l7Sync_3 em_spec_l7Sync_3 (by decide) a_spec_l7Sync_3 stx_spec_l7Sync_3 fu_spec_l7Sync_3 (by decide) (fun _ => rfl) (fun x r _ h => h) r_spec_l7Sync_3
abbrev I_spec_l7Sync : List Par := [.pt tA (.pr .fz (.pr (.pr .fz .fz) (.pr (.ow (.pr (.ow .fz) (.pr (.ow (.pr .fz .fz)) (.pr .fz (.ow .fz))))) (.pr .fz (.pr .fz (.pr .fz (.pr .fz (.pr .fz (.pr (.ow (.pr .fz .fz)) (.pr .fz (.pr .fz .fz)))))))))))]
abbrev U_spec_l7Sync : List OT := []
noncomputable def raw_spec_l7Sync (a0 : dA) : Option (ResD U_spec_l7Sync × MutD I_spec_l7Sync) :=
  segM (F_spec_l7Sync_3 ((((), ()), ((), ()), ()), ((a0.1, a0.2.1.1, a0.2.1.2, (), a0.2.2.2.1, a0.2.2.2.2.1, a0.2.2.2.2.2.1, a0.2.2.2.2.2.2.1, a0.2.2.2.2.2.2.2.1, (), a0.2.2.2.2.2.2.2.2.2.1, a0.2.2.2.2.2.2.2.2.2.2.1, a0.2.2.2.2.2.2.2.2.2.2.2, ()), ()), (a0.2.2.1, a0.2.2.2.2.2.2.2.2.1, ()))) (fun y4 =>
    some ((), ((y4.2.1.1.1, (y4.2.1.1.2.1, y4.2.1.1.2.2.1), y4.2.2.1, y4.2.1.1.2.2.2.2.1, y4.2.1.1.2.2.2.2.2.1, y4.2.1.1.2.2.2.2.2.2.1, y4.2.1.1.2.2.2.2.2.2.2.1, y4.2.1.1.2.2.2.2.2.2.2.2.1, y4.2.2.2.1, y4.2.1.1.2.2.2.2.2.2.2.2.2.2.1, y4.2.1.1.2.2.2.2.2.2.2.2.2.2.2.1, y4.2.1.1.2.2.2.2.2.2.2.2.2.2.2.2.1), ()))) (fun y4 =>
    none)
theorem e_spec_l7Sync (x : InD I_spec_l7Sync) : execF ⟨E_spec_l7Sync, 39, D_spec_l7Sync_1⟩ Try.f109.results.toList B_spec_l7Sync I_spec_l7Sync U_spec_l7Sync x = raw_spec_l7Sync x.1 := by kernel_rfl
theorem ok0_spec_l7Sync : ConOk Try.prog 109 ⟨I_spec_l7Sync, U_spec_l7Sync, fun x => raw_spec_l7Sync x.1⟩ := conOk_exec (fr_spec_l7Sync_1) Try.func109 (by kernel_rfl) (by kernel_rfl) Try.ntmps109.symm (by decide) (fun x r h => (e_spec_l7Sync x).trans h)
noncomputable def n_spec_l7Sync (a0 : dA) : dA := syncA a0
theorem nn_spec_l7Sync (a0 : dA) (hk : InOk I_spec_l7Sync (a0, ())) : raw_spec_l7Sync a0 = (fun n => some ((), (n, ()))) (n_spec_l7Sync a0) := by
  have hb : a0.2.2.1.length * 80 ≤ 2 ^ 47 := hk.1.2.2.1.1
  have h1 : F_spec_l7Sync_3 (ms_spec_l7Sync_3 a0) = some (.inl (mo_spec_l7Sync_3 (syncA a0))) :=
    loopN_rng (step := stx_spec_l7Sync_3) a0.2.2.1.length (fun i s => mk_spec_l7Sync_3 i s) syncOne (fun _ s => s.2.2.1.length = a0.2.2.1.length) (fun s => .inl (mo_spec_l7Sync_3 s)) (fun i s hi hs => ⟨by
      simp only [stx_spec_l7Sync_3, mk_spec_l7Sync_3, st_spec_l7Sync_3, hs, ltb_t (show (i : Int) < a0.2.2.1.length by omega), cond_true, wr (show -9223372036854775808 ≤ (i : Int) + 1 by omega) (by omega), Int.natCast_add, Int.natCast_one, Int.toNat_natCast, inb_nat hi, pr_eta, spec_op_eq, op_mems, n_spec_FlushMem, syncOne, setMem]
      cases (nth s.2.2.1 i noMem).2.2.1 <;> cases (opA s).1 <;> simp only [cond_true, cond_false, Bool.not_true, Bool.not_false, op_mems, Int.toNat_natCast], (syncOne_len s i).trans hs⟩) (fun s hs => by simp only [stx_spec_l7Sync_3, mk_spec_l7Sync_3, st_spec_l7Sync_3, hs, ltb_f (Int.le_refl _), cond_false]) a0 rfl _ (by show _ < 18446744073709551616; omega)
  unfold raw_spec_l7Sync n_spec_l7Sync
  rw [h1]; rfl
noncomputable def con_spec_l7Sync : Con := ⟨I_spec_l7Sync, U_spec_l7Sync, fun x => (fun n => some ((), (n, ()))) (n_spec_l7Sync x.1)⟩
theorem ok_spec_l7Sync : ConOk Try.prog 109 con_spec_l7Sync := (ok0_spec_l7Sync).mono (fun x r hk h => (nn_spec_l7Sync x.1 hk).trans h)
end

/-! spec_l7Mark -/
section
noncomputable def B_spec_l7Mark : Code := (Try.f69.body).getD .skip
noncomputable def E_spec_l7Mark : Env := envOf TT [(107, con_spec_l7Put), (108, con_spec_PutSuper), (109, con_spec_l7Sync)] []
theorem fr_spec_l7Mark_0 : FrOk Try.prog ⟨E_spec_l7Mark, 63, fun _ => none⟩ B_spec_l7Mark := frOk_base mixed tt_ok ⟨ok_spec_l7Put, ok_spec_PutSuper, ok_spec_l7Sync, trivial⟩
noncomputable def D_spec_l7Mark_0 : Nat → Option Seg := fun _ => none
def L_spec_l7Mark_13 : Shape := ⟨[(0, false, [.ptr 1000000000 0]), (2, false, [.int .i64])], [(1000000000, [.int .i64, .int .i64, .int .i64, .at 800000000, .int .i64, .int .i64, .int .i64, .int .i64, .int .i64, .at 800000001, .int .i64, .bool, .bool])], [(800000000, tM, (.pr (.ow .fz) (.pr (.ow (.pr .fz .fz)) (.pr .fz (.ow .fz))))), (800000001, tW, (.pr .fz .fz))]⟩
def S_spec_l7Mark_13 : Shape := ⟨[(0, false, [.ptr 1000000000 0]), (2, false, [.ci .i64 0])], [(1000000000, [.int .i64, .int .i64, .int .i64, .at 800000000, .int .i64, .int .i64, .int .i64, .int .i64, .int .i64, .at 800000001, .int .i64, .bool, .bool])], [(800000000, tM, (.pr (.ow .fz) (.pr (.ow (.pr .fz .fz)) (.pr .fz (.ow .fz))))), (800000001, tW, (.pr .fz .fz))]⟩
def O_spec_l7Mark_13 : Shape := ⟨[(0, false, [.ptr 1000000000 0])], [(1000000000, [.int .i64, .int .i64, .int .i64, .at 800000000, .int .i64, .int .i64, .int .i64, .int .i64, .int .i64, .at 800000001, .int .i64, .bool, .bool])], [(800000000, tM, (.pr (.ow .fz) (.pr (.ow (.pr .fz .fz)) (.pr .fz (.ow .fz))))), (800000001, tW, (.pr .fz .fz))]⟩
def Z_spec_l7Mark_13 : Shape := ⟨[], [], []⟩
abbrev mk_spec_l7Mark_13 (v0 : Int) (v1 : dA) : (L_spec_l7Mark_13).X := ((((), ()), (v0, ()), ()), ((v1.1, v1.2.1.1, v1.2.1.2, (), v1.2.2.2.1, v1.2.2.2.2.1, v1.2.2.2.2.2.1, v1.2.2.2.2.2.2.1, v1.2.2.2.2.2.2.2.1, (), v1.2.2.2.2.2.2.2.2.2.1, v1.2.2.2.2.2.2.2.2.2.2.1, v1.2.2.2.2.2.2.2.2.2.2.2, ()), ()), (v1.2.2.1, v1.2.2.2.2.2.2.2.2.1, ()))
abbrev ms_spec_l7Mark_13 (v0 : dA) : (S_spec_l7Mark_13).X := ((((), ()), ((), ()), ()), ((v0.1, v0.2.1.1, v0.2.1.2, (), v0.2.2.2.1, v0.2.2.2.2.1, v0.2.2.2.2.2.1, v0.2.2.2.2.2.2.1, v0.2.2.2.2.2.2.2.1, (), v0.2.2.2.2.2.2.2.2.2.1, v0.2.2.2.2.2.2.2.2.2.2.1, v0.2.2.2.2.2.2.2.2.2.2.2, ()), ()), (v0.2.2.1, v0.2.2.2.2.2.2.2.2.1, ()))
abbrev mo_spec_l7Mark_13 (v0 : dA) : (O_spec_l7Mark_13).X := ((((), ()), ()), ((v0.1, v0.2.1.1, v0.2.1.2, (), v0.2.2.2.1, v0.2.2.2.2.1, v0.2.2.2.2.2.1, v0.2.2.2.2.2.2.1, v0.2.2.2.2.2.2.2.1, (), v0.2.2.2.2.2.2.2.2.2.1, v0.2.2.2.2.2.2.2.2.2.2.1, v0.2.2.2.2.2.2.2.2.2.2.2, ()), ()), (v0.2.2.1, v0.2.2.2.2.2.2.2.2.1, ()))
noncomputable def st_spec_l7Mark_13 (v0 : Int) (v1 : Int) (v2 : Int) (v3 : Int) (v4 : Int) (v5 : Int) (v6 : Int) (v7 : Int) (v8 : Int) (v9 : Int) (v10 : Bool) (v11 : Bool) (v12 : List dM) (v13 : List dW) : Option ((L_spec_l7Mark_13).X ⊕ ((O_spec_l7Mark_13).X ⊕ (Z_spec_l7Mark_13).X)) :=
  bif (ltb v0 (v12.length : Int)) then
    let r3 := n_spec_PutSuper (v1, v8, v0, v2, v3, v7, v4, v5)
    bnd (o_spec_l7Put (v1, (v2, v3), v12, v4, v5, v6, v7, v8, v13, v9, v10, v11) v0 (v8.tmod 2) r3) fun r4 =>
    some (.inl ((((), ()), ((IntKind.i64.wrap (v0 + 1)), ()), ()), ((r4.2.1.1, r4.2.1.2.1.1, r4.2.1.2.1.2, (), r4.2.1.2.2.2.1, r4.2.1.2.2.2.2.1, r4.2.1.2.2.2.2.2.1, r4.2.1.2.2.2.2.2.2.1, r4.2.1.2.2.2.2.2.2.2.1, (), r4.2.1.2.2.2.2.2.2.2.2.2.1, r4.2.1.2.2.2.2.2.2.2.2.2.2.1, r4.2.1.2.2.2.2.2.2.2.2.2.2.2, ()), ()), (r4.2.1.2.2.1, r4.2.1.2.2.2.2.2.2.2.2.1, ())))
  else
    some (.inr (.inl ((((), ()), ()), ((v1, v2, v3, (), v4, v5, v6, v7, v8, (), v9, v10, v11, ()), ()), (v12, v13, ()))))
noncomputable def stx_spec_l7Mark_13 (x : (L_spec_l7Mark_13).X) := st_spec_l7Mark_13 x.1.2.1.1 x.2.1.1.1 x.2.1.1.2.1 x.2.1.1.2.2.1 x.2.1.1.2.2.2.2.1 x.2.1.1.2.2.2.2.2.1 x.2.1.1.2.2.2.2.2.2.1 x.2.1.1.2.2.2.2.2.2.2.1 x.2.1.1.2.2.2.2.2.2.2.2.1 x.2.1.1.2.2.2.2.2.2.2.2.2.2.1 x.2.1.1.2.2.2.2.2.2.2.2.2.2.2.1 x.2.1.1.2.2.2.2.2.2.2.2.2.2.2.2.1 x.2.2.1 x.2.2.2.1
def em_spec_l7Mark_13 (x : (S_spec_l7Mark_13).X) : (L_spec_l7Mark_13).X := ((((), ()), (0, ()), ()), ((x.2.1.1.1, x.2.1.1.2.1, x.2.1.1.2.2.1, (), x.2.1.1.2.2.2.2.1, x.2.1.1.2.2.2.2.2.1, x.2.1.1.2.2.2.2.2.2.1, x.2.1.1.2.2.2.2.2.2.2.1, x.2.1.1.2.2.2.2.2.2.2.2.1, (), x.2.1.1.2.2.2.2.2.2.2.2.2.2.1, x.2.1.1.2.2.2.2.2.2.2.2.2.2.2.1, x.2.1.1.2.2.2.2.2.2.2.2.2.2.2.2.1, ()), ()), (x.2.2.1, x.2.2.2.1, ()))
noncomputable def c_spec_l7Mark_13 : Code := (subN B_spec_l7Mark 64 52).getD .skip
theorem a_spec_l7Mark_13 : subN B_spec_l7Mark 64 13 = some (.block 0 (.loop c_spec_l7Mark_13)) := by kernel_rfl
theorem r_spec_l7Mark_13 (x : (L_spec_l7Mark_13).X) : roundT ⟨E_spec_l7Mark, 63, D_spec_l7Mark_0⟩ 0 c_spec_l7Mark_13 52 L_spec_l7Mark_13 O_spec_l7Mark_13 Z_spec_l7Mark_13 x = stx_spec_l7Mark_13 x := by kernel_rfl
noncomputable def fu_spec_l7Mark_13 (x : (S_spec_l7Mark_13).X) : Nat := (fun (u0 : Int) (u1 : Int) (u2 : Int) (u3 : Int) (u4 : Int) (u5 : Int) (u6 : Int) (u7 : Int) (u8 : Int) (u9 : Bool) (u10 : Bool) (u11 : List dM) (u12 : List dW) => 18446744073709551616) x.2.1.1.1 x.2.1.1.2.1 x.2.1.1.2.2.1 x.2.1.1.2.2.2.2.1 x.2.1.1.2.2.2.2.2.1 x.2.1.1.2.2.2.2.2.2.1 x.2.1.1.2.2.2.2.2.2.2.1 x.2.1.1.2.2.2.2.2.2.2.2.1 x.2.1.1.2.2.2.2.2.2.2.2.2.2.1 x.2.1.1.2.2.2.2.2.2.2.2.2.2.2.1 x.2.1.1.2.2.2.2.2.2.2.2.2.2.2.2.1 x.2.2.1 x.2.2.2.1
noncomputable def F_spec_l7Mark_13 (x : (S_spec_l7Mark_13).X) : Option ((O_spec_l7Mark_13).X ⊕ (Z_spec_l7Mark_13).X) := loopN stx_spec_l7Mark_13 (fu_spec_l7Mark_13 x) (em_spec_l7Mark_13 x)
noncomputable def sg_spec_l7Mark_13 : Seg := ⟨S_spec_l7Mark_13, O_spec_l7Mark_13, Z_spec_l7Mark_13, F_spec_l7Mark_13⟩
noncomputable def D_spec_l7Mark_1 : Nat → Option Seg := fun q => bif Nat.beq q 13 then some sg_spec_l7Mark_13 else D_spec_l7Mark_0 q
theorem fr_spec_l7Mark_1 : FrOk Try.prog ⟨E_spec_l7Mark, 63, D_spec_l7Mark_1⟩ B_spec_l7Mark := (fr_spec_l7Mark_0).loop (sg := sg_spec_l7Mark_13) L_spec_l7Mark_13 em_spec_l7Mark_13 (by decide) a_spec_l7Mark_13 stx_spec_l7Mark_13 fu_spec_l7Mark_13 (by decide) (fun _ => rfl) (fun x r _ h => h) r_spec_l7Mark_13
abbrev I_spec_l7Mark : List Par := [.pt tA (.pr .fz (.pr (.pr .fz .fz) (.pr (.ow (.pr (.ow .fz) (.pr (.ow (.pr .fz .fz)) (.pr .fz (.ow .fz))))) (.pr .fz (.pr .fz (.pr .fz (.pr .fz (.pr .fz (.pr (.ow (.pr .fz .fz)) (.pr .fz (.pr .fz .fz)))))))))))]
abbrev U_spec_l7Mark : List OT := []
noncomputable def raw_spec_l7Mark (a0 : dA) : Option (ResD U_spec_l7Mark × MutD I_spec_l7Mark) :=
  segM (F_spec_l7Mark_13 ((((), ()), ((), ()), ()), ((a0.1, a0.2.1.1, a0.2.1.2, (), a0.2.2.2.1, a0.2.2.2.2.1, a0.2.2.2.2.2.1, a0.2.2.2.2.2.2.1, (IntKind.i64.wrap (a0.2.2.2.2.2.2.2.1 + 1)), (), a0.2.2.2.2.2.2.2.2.2.1, a0.2.2.2.2.2.2.2.2.2.2.1, a0.2.2.2.2.2.2.2.2.2.2.2, ()), ()), (a0.2.2.1, a0.2.2.2.2.2.2.2.2.1, ()))) (fun y4 =>
    let r6 := n_spec_l7Sync (y4.2.1.1.1, (y4.2.1.1.2.1, y4.2.1.1.2.2.1), y4.2.2.1, y4.2.1.1.2.2.2.2.1, y4.2.1.1.2.2.2.2.2.1, y4.2.1.1.2.2.2.2.2.2.1, y4.2.1.1.2.2.2.2.2.2.2.1, y4.2.1.1.2.2.2.2.2.2.2.2.1, y4.2.2.2.1, y4.2.1.1.2.2.2.2.2.2.2.2.2.2.1, y4.2.1.1.2.2.2.2.2.2.2.2.2.2.2.1, y4.2.1.1.2.2.2.2.2.2.2.2.2.2.2.2.1)
    some ((), (r6, ()))) (fun y4 =>
    none)
theorem e_spec_l7Mark (x : InD I_spec_l7Mark) : execF ⟨E_spec_l7Mark, 63, D_spec_l7Mark_1⟩ Try.f69.results.toList B_spec_l7Mark I_spec_l7Mark U_spec_l7Mark x = raw_spec_l7Mark x.1 := by kernel_rfl
theorem ok0_spec_l7Mark : ConOk Try.prog 69 ⟨I_spec_l7Mark, U_spec_l7Mark, fun x => raw_spec_l7Mark x.1⟩ := conOk_exec (fr_spec_l7Mark_1) Try.func69 (by kernel_rfl) (by kernel_rfl) Try.ntmps69.symm (by decide) (fun x r h => (e_spec_l7Mark x).trans h)
noncomputable def n_spec_l7Mark (a0 : dA) : dA := markA a0
theorem markOne_len (a : dA) (i : Nat) : (markOne a i).2.2.1.length = a.2.2.1.length := put_len _ _ _ _
theorem nn_spec_l7Mark (a0 : dA) (hk : InOk I_spec_l7Mark (a0, ())) : raw_spec_l7Mark a0 = (fun n => some ((), (n, ()))) (n_spec_l7Mark a0) := by
  have hb : a0.2.2.1.length * 80 ≤ 2 ^ 47 := hk.1.2.2.1.1
  have h1 : F_spec_l7Mark_13 (ms_spec_l7Mark_13 (genUp a0)) = some (.inl (mo_spec_l7Mark_13 ((List.range a0.2.2.1.length).foldl markOne (genUp a0)))) :=
    loopN_rng (step := stx_spec_l7Mark_13) a0.2.2.1.length (fun i s => mk_spec_l7Mark_13 i s) markOne (fun _ s => s.2.2.1.length = a0.2.2.1.length) (fun s => .inl (mo_spec_l7Mark_13 s)) (fun i s hi hs => ⟨by
      simp only [stx_spec_l7Mark_13, mk_spec_l7Mark_13, st_spec_l7Mark_13, hs, ltb_t (show (i : Int) < a0.2.2.1.length by omega), cond_true, wr (show -9223372036854775808 ≤ (i : Int) + 1 by omega) (by omega), Int.natCast_add, Int.natCast_one, Int.toNat_natCast, pr_eta]
      rw [ot_spec_l7Put s i (s.2.2.2.2.2.2.2.1.tmod 2) (n_spec_PutSuper (s.1, s.2.2.2.2.2.2.2.1, (i : Int), s.2.1.1, s.2.1.2, s.2.2.2.2.2.2.1, s.2.2.2.1, s.2.2.2.2.1)) (inb_nat (by rw [hs]; exact hi))]
      rfl, (markOne_len s i).trans hs⟩) (fun s hs => by simp only [stx_spec_l7Mark_13, mk_spec_l7Mark_13, st_spec_l7Mark_13, hs, ltb_f (Int.le_refl _), cond_false]) (genUp a0) rfl _ (by show _ < 18446744073709551616; omega)
  unfold raw_spec_l7Mark n_spec_l7Mark markA
  exact (congrArg (fun z => segM z _ _) h1).trans rfl
noncomputable def con_spec_l7Mark : Con := ⟨I_spec_l7Mark, U_spec_l7Mark, fun x => (fun n => some ((), (n, ()))) (n_spec_l7Mark x.1)⟩
theorem ok_spec_l7Mark : ConOk Try.prog 69 con_spec_l7Mark := (ok0_spec_l7Mark).mono (fun x r hk h => (nn_spec_l7Mark x.1 hk).trans h)
end

/-! spec_MemNew -/
section
noncomputable def B_spec_MemNew : Code := (Try.f87.body).getD .skip
noncomputable def E_spec_MemNew : Env := envOf TT [(35, con_spec_l1In)] [(28864, .fz), (28928, .fz)]
theorem fr_spec_MemNew_0 : FrOk Try.prog ⟨E_spec_MemNew, 22, fun _ => none⟩ B_spec_MemNew := frOk_base mixed tt_ok ⟨ok_spec_l1In, trivial⟩
noncomputable def D_spec_MemNew_0 : Nat → Option Seg := fun _ => none
def L_spec_MemNew_61 : Shape := ⟨[(0, false, [.int .i64]), (2, false, [.ptr 0 0]), (3, false, [.ptr 12352 0]), (4, false, [.int .i64])], [(0, [.nil, .nil, .bool, .nil]), (12352, [.at 800000000, .nil, .bool, .nil])], [(800000000, tL, .fz)]⟩
def S_spec_MemNew_61 : Shape := ⟨[(0, false, [.int .i64]), (2, false, [.ptr 0 0]), (3, false, [.ptr 12352 0]), (4, false, [.ci .i64 0])], [(0, [.nil, .nil, .bool, .nil]), (12352, [.at 800000000, .nil, .bool, .nil])], [(800000000, tL, .fz)]⟩
def O_spec_MemNew_61 : Shape := ⟨[(2, false, [.ptr 0 0]), (3, false, [.ptr 12352 0])], [(0, [.nil, .nil, .bool, .nil]), (12352, [.at 800000000, .nil, .bool, .nil])], [(800000000, tL, .fz)]⟩
def Z_spec_MemNew_61 : Shape := ⟨[], [], []⟩
abbrev mk_spec_MemNew_61 (v0 : Int) (v1 : Int) (v2 : dM) (v3 : dM) : (L_spec_MemNew_61).X := (((v0, ()), ((), ()), ((), ()), (v1, ()), ()), (((), (), v2.2.2.1, (), ()), ((), (), v3.2.2.1, (), ()), ()), (v3.1, ()))
abbrev ms_spec_MemNew_61 (v0 : Int) (v1 : dM) (v2 : dM) : (S_spec_MemNew_61).X := (((v0, ()), ((), ()), ((), ()), ((), ()), ()), (((), (), v1.2.2.1, (), ()), ((), (), v2.2.2.1, (), ()), ()), (v2.1, ()))
abbrev mo_spec_MemNew_61 (v0 : dM) (v1 : dM) : (O_spec_MemNew_61).X := ((((), ()), ((), ()), ()), (((), (), v0.2.2.1, (), ()), ((), (), v1.2.2.1, (), ()), ()), (v1.1, ()))
noncomputable def st_spec_MemNew_61 (v0 : Int) (v1 : Int) (v2 : Bool) (v3 : Bool) (v4 : List (List Int)) : Option ((L_spec_MemNew_61).X ⊕ ((O_spec_MemNew_61).X ⊕ (Z_spec_MemNew_61).X)) :=
  bif (ltb v1 v0) then
    bif (apok v4.length ([([] : List Int)] : List (List Int)).length 24) then
      some (.inl (((v0, ()), ((), ()), ((), ()), ((IntKind.i64.wrap (v1 + 1)), ()), ()), (((), (), v2, (), ()), ((), (), v3, (), ()), ()), ((v4 ++ ([([] : List Int)] : List (List Int))), ())))
    else none
  else
    some (.inr (.inl ((((), ()), ((), ()), ()), (((), (), v2, (), ()), ((), (), v3, (), ()), ()), (v4, ()))))
noncomputable def stx_spec_MemNew_61 (x : (L_spec_MemNew_61).X) := st_spec_MemNew_61 x.1.1.1 x.1.2.2.2.1.1 x.2.1.1.2.2.1 x.2.1.2.1.2.2.1 x.2.2.1
def em_spec_MemNew_61 (x : (S_spec_MemNew_61).X) : (L_spec_MemNew_61).X := (((x.1.1.1, ()), ((), ()), ((), ()), (0, ()), ()), (((), (), x.2.1.1.2.2.1, (), ()), ((), (), x.2.1.2.1.2.2.1, (), ()), ()), (x.2.2.1, ()))
noncomputable def c_spec_MemNew_61 : Code := (subN B_spec_MemNew 64 244).getD .skip
theorem a_spec_MemNew_61 : subN B_spec_MemNew 64 61 = some (.block 0 (.loop c_spec_MemNew_61)) := by kernel_rfl
theorem r_spec_MemNew_61 (x : (L_spec_MemNew_61).X) : roundT ⟨E_spec_MemNew, 22, D_spec_MemNew_0⟩ 0 c_spec_MemNew_61 244 L_spec_MemNew_61 O_spec_MemNew_61 Z_spec_MemNew_61 x = stx_spec_MemNew_61 x := by kernel_rfl
noncomputable def fu_spec_MemNew_61 (x : (S_spec_MemNew_61).X) : Nat := (fun (u0 : Int) (u1 : Bool) (u2 : Bool) (u3 : List (List Int)) => 18446744073709551616) x.1.1.1 x.2.1.1.2.2.1 x.2.1.2.1.2.2.1 x.2.2.1
noncomputable def F_spec_MemNew_61 (x : (S_spec_MemNew_61).X) : Option ((O_spec_MemNew_61).X ⊕ (Z_spec_MemNew_61).X) := loopN stx_spec_MemNew_61 (fu_spec_MemNew_61 x) (em_spec_MemNew_61 x)
noncomputable def sg_spec_MemNew_61 : Seg := ⟨S_spec_MemNew_61, O_spec_MemNew_61, Z_spec_MemNew_61, F_spec_MemNew_61⟩
noncomputable def D_spec_MemNew_1 : Nat → Option Seg := fun q => bif Nat.beq q 61 then some sg_spec_MemNew_61 else D_spec_MemNew_0 q
theorem fr_spec_MemNew_1 : FrOk Try.prog ⟨E_spec_MemNew, 22, D_spec_MemNew_1⟩ B_spec_MemNew := (fr_spec_MemNew_0).loop (sg := sg_spec_MemNew_61) L_spec_MemNew_61 em_spec_MemNew_61 (by decide) a_spec_MemNew_61 stx_spec_MemNew_61 fu_spec_MemNew_61 (by decide) (fun _ => rfl) (fun x r _ h => h) r_spec_MemNew_61
abbrev I_spec_MemNew : List Par := [.rd tI]
abbrev U_spec_MemNew : List OT := [⟨false, tM, (.pr (.ow .fz) (.pr (.ow (.pr .fz .fz)) (.pr .fz (.ow .fz))))⟩]
noncomputable def raw_spec_MemNew (a0 : Int) : Option (ResD U_spec_MemNew × MutD I_spec_MemNew) :=
  let r1 := n_spec_l1In a0 1 20
  bif (!r1) then
    some ((([], [], false, []), ()), ())
  else
    segM (F_spec_MemNew_61 (((a0, ()), ((), ()), ((), ()), ((), ()), ()), (((), (), false, (), ()), ((), (), false, (), ()), ()), ([], ()))) (fun y1 =>
      some (((y1.2.2.1, [], y1.2.1.2.1.2.2.1, []), ()), ())) (fun y1 =>
      none)
theorem e_spec_MemNew (x : InD I_spec_MemNew) : execF ⟨E_spec_MemNew, 22, D_spec_MemNew_1⟩ Try.f87.results.toList B_spec_MemNew I_spec_MemNew U_spec_MemNew x = raw_spec_MemNew x.1 := by kernel_rfl
theorem ok0_spec_MemNew : ConOk Try.prog 87 ⟨I_spec_MemNew, U_spec_MemNew, fun x => raw_spec_MemNew x.1⟩ := conOk_exec (fr_spec_MemNew_1) Try.func87 (by kernel_rfl) (by kernel_rfl) Try.ntmps87.symm (by decide) (fun x r h => (e_spec_MemNew x).trans h)
noncomputable def n_spec_MemNew (a0 : Int) : dM := memNew a0
theorem nn_spec_MemNew (a0 : Int) (hk : InOk I_spec_MemNew (a0, ())) : raw_spec_MemNew a0 = (fun n => some ((n, ()), ())) (n_spec_MemNew a0) := by
  unfold raw_spec_MemNew n_spec_MemNew memNew
  simp only [in_eq]
  cases hc : (leb 1 a0 && leb a0 20)
  · rfl
  · rw [Bool.and_eq_true, leb_iff, leb_iff] at hc
    have h1 : F_spec_MemNew_61 (ms_spec_MemNew_61 a0 noMem noMem) = some (.inl (mo_spec_MemNew_61 noMem (List.replicate a0.toNat [], [], false, []))) :=
      loopN_up (step := stx_spec_MemNew_61) (fun i => mk_spec_MemNew_61 a0 i noMem (List.replicate i [], [], false, [])) a0.toNat _ (fun i hi => by
        simp only [stx_spec_MemNew_61, mk_spec_MemNew_61, st_spec_MemNew_61, ltb_t (show (i : Int) < a0 by omega), cond_true, wr (show -9223372036854775808 ≤ (i : Int) + 1 by omega) (by omega), Int.natCast_add, Int.natCast_one, Int.toNat_natCast]
        rw [apok_iff.2 (show ((List.replicate i ([] : List Int)).length + ([[]] : List (List Int)).length) * 24 ≤ 140737488355328 by simp only [List.length_cons, List.length_nil, List.length_replicate]; omega), ← List.replicate_succ']; rfl) (by simp only [stx_spec_MemNew_61, mk_spec_MemNew_61, st_spec_MemNew_61, ltb_f (show a0 ≤ (a0.toNat : Int) by omega), cond_false]) _ (by show _ < 18446744073709551616; omega)
    rw [h1]; rfl
noncomputable def con_spec_MemNew : Con := ⟨I_spec_MemNew, U_spec_MemNew, fun x => (fun n => some ((n, ()), ())) (n_spec_MemNew x.1)⟩
theorem ok_spec_MemNew : ConOk Try.prog 87 con_spec_MemNew := (ok0_spec_MemNew).mono (fun x r hk h => (nn_spec_MemNew x.1 hk).trans h)
end

/-! spec_l12Spare -/
section
noncomputable def B_spec_l12Spare : Code := (Try.f47.body).getD .skip
noncomputable def E_spec_l12Spare : Env := envOf TT [(69, con_spec_l7Mark), (87, con_spec_MemNew), (88, con_spec_l6Secs)] []
theorem fr_spec_l12Spare_0 : FrOk Try.prog ⟨E_spec_l12Spare, 27, fun _ => none⟩ B_spec_l12Spare := frOk_base mixed tt_ok ⟨ok_spec_l7Mark, ok_spec_MemNew, ok_spec_l6Secs, trivial⟩
noncomputable def D_spec_l12Spare_0 : Nat → Option Seg := fun _ => none
abbrev I_spec_l12Spare : List Par := [.pt tA (.pr .fz (.pr (.pr .fz .fz) (.pr (.ow (.pr (.ow .fz) (.pr (.ow (.pr .fz .fz)) (.pr .fz (.ow .fz))))) (.pr .fz (.pr .fz (.pr .fz (.pr .fz (.pr .fz (.pr (.ow (.pr .fz .fz)) (.pr .fz (.pr .fz .fz)))))))))))]
abbrev U_spec_l12Spare : List OT := [⟨false, tI, .fz⟩]
noncomputable def raw_spec_l12Spare (a0 : dA) : Option (ResD U_spec_l12Spare × MutD I_spec_l12Spare) :=
  let r1 := n_spec_l6Secs a0.2.1
  let r2 := n_spec_MemNew r1
  bif (inb a0.2.2.2.1 a0.2.2.1.length) then
    let r3 := n_spec_l7Mark (a0.1, a0.2.1, (a0.2.2.1.set (a0.2.2.2.1).toNat r2), a0.2.2.2.1, 0, a0.2.2.2.2.2)
    bif r3.2.2.2.2.2.2.2.2.2.2.1 then
      some ((6, ()), (r3, ()))
    else
      some ((0, ()), (r3, ()))
  else none
theorem e_spec_l12Spare (x : InD I_spec_l12Spare) : execF ⟨E_spec_l12Spare, 27, D_spec_l12Spare_0⟩ Try.f47.results.toList B_spec_l12Spare I_spec_l12Spare U_spec_l12Spare x = raw_spec_l12Spare x.1 := by kernel_rfl
theorem ok0_spec_l12Spare : ConOk Try.prog 47 ⟨I_spec_l12Spare, U_spec_l12Spare, fun x => raw_spec_l12Spare x.1⟩ := conOk_exec (fr_spec_l12Spare_0) Try.func47 (by kernel_rfl) (by kernel_rfl) Try.ntmps47.symm (by decide) (fun x r h => (e_spec_l12Spare x).trans h)
noncomputable def n_spec_l12Spare (a0 : dA) : Int × dA := (bif downA (markA (spareNew a0)) then 6 else 0, markA (spareNew a0))
noncomputable def q_spec_l12Spare (a0 : dA) : Bool := n_spec_GeoOk a0.2.1 && inb a0.2.2.2.1 a0.2.2.1.length
theorem nn_spec_l12Spare (a0 : dA) (hk : InOk I_spec_l12Spare (a0, ())) (hq : q_spec_l12Spare a0 = true) : raw_spec_l12Spare a0 = (fun n => some ((n.1, ()), (n.2, ()))) (n_spec_l12Spare a0) := by
  simp only [q_spec_l12Spare, Bool.and_eq_true] at hq
  have hg := geo_iff.1 hq.1
  unfold raw_spec_l12Spare n_spec_l12Spare
  simp only [n_spec_l6Secs, wr (show -9223372036854775808 ≤ 6 + a0.2.1.2 by omega) (by omega), hq.2, n_spec_MemNew, n_spec_l7Mark]
  show (bif downA (markA (spareNew a0)) then some ((6, ()), (markA (spareNew a0), ())) else some ((0, ()), (markA (spareNew a0), ()))) = _
  cases downA (markA (spareNew a0)) <;> rfl
noncomputable def o_spec_l12Spare (a0 : dA) : Option (ResD U_spec_l12Spare × MutD I_spec_l12Spare) := bif q_spec_l12Spare a0 then (fun n => some ((n.1, ()), (n.2, ()))) (n_spec_l12Spare a0) else none
theorem ot_spec_l12Spare (a0 : dA) (h : q_spec_l12Spare a0 = true) : o_spec_l12Spare a0 = (fun n => some ((n.1, ()), (n.2, ()))) (n_spec_l12Spare a0) := by unfold o_spec_l12Spare; rw [h]; rfl
noncomputable def con_spec_l12Spare : Con := ⟨I_spec_l12Spare, U_spec_l12Spare, fun x => o_spec_l12Spare x.1⟩
theorem ok_spec_l12Spare : ConOk Try.prog 47 con_spec_l12Spare := (ok0_spec_l12Spare).mono (fun x r hk h => pre_ok h (fun hq => nn_spec_l12Spare x.1 hk hq))
end

/-! spec_Spare -/
section
noncomputable def B_spec_Spare : Code := (Try.f15.body).getD .skip
noncomputable def E_spec_Spare : Env := envOf TT [(33, con_spec_l6Copy), (46, con_spec_l8May), (47, con_spec_l12Spare)] []
theorem fr_spec_Spare_0 : FrOk Try.prog ⟨E_spec_Spare, 42, fun _ => none⟩ B_spec_Spare := frOk_base mixed tt_ok ⟨ok_spec_l6Copy, ok_spec_l8May, ok_spec_l12Spare, trivial⟩
noncomputable def D_spec_Spare_0 : Nat → Option Seg := fun _ => none
abbrev I_spec_Spare : List Par := [.rd tA]
abbrev U_spec_Spare : List OT := [⟨false, tA, (.pr .fz (.pr (.pr .fz .fz) (.pr (.ow (.pr (.ow .fz) (.pr (.ow (.pr .fz .fz)) (.pr .fz (.ow .fz))))) (.pr .fz (.pr .fz (.pr .fz (.pr .fz (.pr .fz (.pr (.ow (.pr .fz .fz)) (.pr .fz (.pr .fz .fz)))))))))))⟩, ⟨false, tI, .fz⟩]
noncomputable def raw_spec_Spare (a0 : dA) : Option (ResD U_spec_Spare × MutD I_spec_Spare) :=
  let r1 := n_spec_l6Copy a0
  let r2 := n_spec_l8May a0
  bif (r2 != 0) then
    some ((r1, r2, ()), ())
  else
    bif (!(a0.2.2.2.1 == (-1))) then
      bif (inb a0.2.2.2.1 a0.2.2.1.length) then
        bif (!((((nth a0.2.2.1 a0.2.2.2.1 ([], [], false, [])).2).2).1)) then
          some ((r1, 2, ()), ())
        else
          bif a0.2.2.2.2.2.2.2.2.2.2.2 then
            some ((r1, 5, ()), ())
          else
            bif (leb 59990 a0.2.2.2.2.2.2.2.1) then
              some ((r1, 7, ()), ())
            else
              bnd (o_spec_l12Spare r1) fun r3 =>
              some ((r3.2.1, r3.1.1, ()), ())
      else none
    else
      some ((r1, 2, ()), ())
theorem e_spec_Spare (x : InD I_spec_Spare) : execF ⟨E_spec_Spare, 42, D_spec_Spare_0⟩ Try.f15.results.toList B_spec_Spare I_spec_Spare U_spec_Spare x = raw_spec_Spare x.1 := by kernel_rfl
theorem ok0_spec_Spare : ConOk Try.prog 15 ⟨I_spec_Spare, U_spec_Spare, fun x => raw_spec_Spare x.1⟩ := conOk_exec (fr_spec_Spare_0) Try.func15 (by kernel_rfl) (by kernel_rfl) Try.ntmps15.symm (by decide) (fun x r h => (e_spec_Spare x).trans h)
noncomputable def n_spec_Spare (a0 : dA) : dA × Int := spareA a0
theorem nn_spec_Spare (a0 : dA) (hk : InOk I_spec_Spare (a0, ())) : raw_spec_Spare a0 = (fun n => some ((n.1, n.2, ()), ())) (n_spec_Spare a0) := by
  unfold raw_spec_Spare n_spec_Spare spareA
  simp only [n_spec_l6Copy, n_spec_l8May, n_spec_ArrOk]
  cases ha : arrOk a0
  · rfl
  cases hd : downA a0
  · rw [show a0.2.2.2.2.2.2.2.2.2.2.1 = false from hd]
    cases hl : (a0.2.2.2.1 == -1)
    · have hi := lost_in ha (beq_eq_false_iff_ne.1 hl)
      rw [hi, ot_spec_l12Spare a0 (by unfold q_spec_l12Spare; rw [arrOk_geo ha, hi]; rfl)]
      cases (nth a0.2.2.1 a0.2.2.2.1 noMem).2.2.1 <;> cases a0.2.2.2.2.2.2.2.2.2.2.2 <;> cases leb 59990 a0.2.2.2.2.2.2.2.1 <;> rfl
    · rfl
  · rw [show a0.2.2.2.2.2.2.2.2.2.2.1 = true from hd]; rfl
noncomputable def con_spec_Spare : Con := ⟨I_spec_Spare, U_spec_Spare, fun x => (fun n => some ((n.1, n.2, ()), ())) (n_spec_Spare x.1)⟩
theorem ok_spec_Spare : ConOk Try.prog 15 con_spec_Spare := (ok0_spec_Spare).mono (fun x r hk h => (nn_spec_Spare x.1 hk).trans h)
end
end Go.Tf
