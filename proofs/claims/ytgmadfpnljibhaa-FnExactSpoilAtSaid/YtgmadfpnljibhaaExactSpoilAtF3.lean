/- Functions of the program, and what they come to. -/
import Derived.Test.YtgmadfpnljibhaaExactSpoilAtF2
namespace Go.Tf
open Go.Proofs
set_option synthInstance.maxHeartbeats 400000
set_option synthInstance.maxSize 10000
set_option linter.unusedVariables false
set_option linter.unusedSimpArgs false
set_option maxRecDepth 100000
/-! spec_l6Mems -/
section
noncomputable def B_spec_l6Mems : Code := (Try.f99.body).getD .skip
noncomputable def E_spec_l6Mems : Env := envOf TT [(101, con_spec_MemOk), (118, con_spec_l6Secs)] []
theorem fr_spec_l6Mems_0 : FrOk Try.prog ⟨E_spec_l6Mems, 51, fun _ => none⟩ B_spec_l6Mems := frOk_base mixed tt_ok ⟨ok_spec_MemOk, ok_spec_l6Secs, trivial⟩
noncomputable def D_spec_l6Mems_0 : Nat → Option Seg := fun _ => none
def L_spec_l6Mems_13 : Shape := ⟨[(1, false, [.ptr 0 0]), (3, false, [.int .i64])], [(0, [.int .i64, .int .i64, .int .i64, .br tM, .int .i64, .int .i64, .int .i64, .int .i64, .int .i64, .br tW, .int .i64, .bool, .bool])], []⟩
def S_spec_l6Mems_13 : Shape := ⟨[(1, false, [.ptr 0 0]), (3, false, [.ci .i64 0])], [(0, [.int .i64, .int .i64, .int .i64, .br tM, .int .i64, .int .i64, .int .i64, .int .i64, .int .i64, .br tW, .int .i64, .bool, .bool])], []⟩
def O_spec_l6Mems_13 : Shape := ⟨[(1, false, [.ptr 0 0])], [(0, [.int .i64, .int .i64, .int .i64, .br tM, .int .i64, .int .i64, .int .i64, .int .i64, .int .i64, .br tW, .int .i64, .bool, .bool])], []⟩
def Z_spec_l6Mems_13 : Shape := ⟨[(2, false, [.bool])], [], []⟩
abbrev mk_spec_l6Mems_13 (v0 : Int) (v1 : dA) : (L_spec_l6Mems_13).X := ((((), ()), (v0, ()), ()), ((v1.1, v1.2.1.1, v1.2.1.2, v1.2.2.1, v1.2.2.2.1, v1.2.2.2.2.1, v1.2.2.2.2.2.1, v1.2.2.2.2.2.2.1, v1.2.2.2.2.2.2.2.1, v1.2.2.2.2.2.2.2.2.1, v1.2.2.2.2.2.2.2.2.2.1, v1.2.2.2.2.2.2.2.2.2.2.1, v1.2.2.2.2.2.2.2.2.2.2.2, ()), ()), ())
abbrev ms_spec_l6Mems_13 (v0 : dA) : (S_spec_l6Mems_13).X := ((((), ()), ((), ()), ()), ((v0.1, v0.2.1.1, v0.2.1.2, v0.2.2.1, v0.2.2.2.1, v0.2.2.2.2.1, v0.2.2.2.2.2.1, v0.2.2.2.2.2.2.1, v0.2.2.2.2.2.2.2.1, v0.2.2.2.2.2.2.2.2.1, v0.2.2.2.2.2.2.2.2.2.1, v0.2.2.2.2.2.2.2.2.2.2.1, v0.2.2.2.2.2.2.2.2.2.2.2, ()), ()), ())
abbrev mo_spec_l6Mems_13 (v0 : dA) : (O_spec_l6Mems_13).X := ((((), ()), ()), ((v0.1, v0.2.1.1, v0.2.1.2, v0.2.2.1, v0.2.2.2.1, v0.2.2.2.2.1, v0.2.2.2.2.2.1, v0.2.2.2.2.2.2.1, v0.2.2.2.2.2.2.2.1, v0.2.2.2.2.2.2.2.2.1, v0.2.2.2.2.2.2.2.2.2.1, v0.2.2.2.2.2.2.2.2.2.2.1, v0.2.2.2.2.2.2.2.2.2.2.2, ()), ()), ())
abbrev mz_spec_l6Mems_13 (v0 : Bool) : (Z_spec_l6Mems_13).X := (((v0, ()), ()), (), ())
noncomputable def st_spec_l6Mems_13 (v0 v1 v2 v3 : Int) (v4 : List dM) (v5 v6 v7 v8 v9 : Int) (v10 : List dW) (v11 : Int) (v12 v13 : Bool) : Option ((L_spec_l6Mems_13).X ⊕ ((O_spec_l6Mems_13).X ⊕ (Z_spec_l6Mems_13).X)) :=
  bif (ltb v0 (v4.length : Int)) then
    bif (inb v0 v4.length) then
      let r3 := n_spec_MemOk ((nth v4 v0 ([], [], false, [])).1, ((nth v4 v0 ([], [], false, [])).2).1, (((nth v4 v0 ([], [], false, [])).2).2))
      bif (!(!r3)) then
        let r4 := n_spec_l6Secs (v2, v3)
        bif (!((((nth v4 v0 ([], [], false, [])).1).length : Int) != r4)) then
          bif (((nth v4 v0 ([], [], false, [])).2).2).1 then
            bif (v0 != v5) then
              bif (!v13) then
                some (.inr (.inr (((false, ()), ()), (), ())))
              else
                some (.inl ((((), ()), ((IntKind.i64.wrap (v0 + 1)), ()), ()), ((v1, v2, v3, v4, v5, v6, v7, v8, v9, v10, v11, v12, v13, ()), ()), ()))
            else
              some (.inl ((((), ()), ((IntKind.i64.wrap (v0 + 1)), ()), ()), ((v1, v2, v3, v4, v5, v6, v7, v8, v9, v10, v11, v12, v13, ()), ()), ()))
          else
            some (.inl ((((), ()), ((IntKind.i64.wrap (v0 + 1)), ()), ()), ((v1, v2, v3, v4, v5, v6, v7, v8, v9, v10, v11, v12, v13, ()), ()), ()))
        else
          some (.inr (.inr (((false, ()), ()), (), ())))
      else
        some (.inr (.inr (((false, ()), ()), (), ())))
    else none
  else
    some (.inr (.inl ((((), ()), ()), ((v1, v2, v3, v4, v5, v6, v7, v8, v9, v10, v11, v12, v13, ()), ()), ())))
noncomputable def stx_spec_l6Mems_13 (x : (L_spec_l6Mems_13).X) := st_spec_l6Mems_13 x.1.2.1.1 x.2.1.1.1 x.2.1.1.2.1 x.2.1.1.2.2.1 x.2.1.1.2.2.2.1 x.2.1.1.2.2.2.2.1 x.2.1.1.2.2.2.2.2.1 x.2.1.1.2.2.2.2.2.2.1 x.2.1.1.2.2.2.2.2.2.2.1 x.2.1.1.2.2.2.2.2.2.2.2.1 x.2.1.1.2.2.2.2.2.2.2.2.2.1 x.2.1.1.2.2.2.2.2.2.2.2.2.2.1 x.2.1.1.2.2.2.2.2.2.2.2.2.2.2.1 x.2.1.1.2.2.2.2.2.2.2.2.2.2.2.2.1
def em_spec_l6Mems_13 (x : (S_spec_l6Mems_13).X) : (L_spec_l6Mems_13).X := ((((), ()), (0, ()), ()), ((x.2.1.1.1, x.2.1.1.2.1, x.2.1.1.2.2.1, x.2.1.1.2.2.2.1, x.2.1.1.2.2.2.2.1, x.2.1.1.2.2.2.2.2.1, x.2.1.1.2.2.2.2.2.2.1, x.2.1.1.2.2.2.2.2.2.2.1, x.2.1.1.2.2.2.2.2.2.2.2.1, x.2.1.1.2.2.2.2.2.2.2.2.2.1, x.2.1.1.2.2.2.2.2.2.2.2.2.2.1, x.2.1.1.2.2.2.2.2.2.2.2.2.2.2.1, x.2.1.1.2.2.2.2.2.2.2.2.2.2.2.2.1, ()), ()), ())
noncomputable def c_spec_l6Mems_13 : Code := (subN B_spec_l6Mems 64 52).getD .skip
theorem a_spec_l6Mems_13 : subN B_spec_l6Mems 64 13 = some (.block 0 (.loop c_spec_l6Mems_13)) := by kernel_rfl
theorem r_spec_l6Mems_13 (x : (L_spec_l6Mems_13).X) : roundT ⟨E_spec_l6Mems, 51, D_spec_l6Mems_0⟩ 0 c_spec_l6Mems_13 52 L_spec_l6Mems_13 O_spec_l6Mems_13 Z_spec_l6Mems_13 x = stx_spec_l6Mems_13 x := by kernel_rfl
def fu_spec_l6Mems_13 (x : (S_spec_l6Mems_13).X) : Nat := 18446744073709551616
noncomputable def F_spec_l6Mems_13 (x : (S_spec_l6Mems_13).X) : Option ((O_spec_l6Mems_13).X ⊕ (Z_spec_l6Mems_13).X) := loopN stx_spec_l6Mems_13 (fu_spec_l6Mems_13 x) (em_spec_l6Mems_13 x)
noncomputable def sg_spec_l6Mems_13 : Seg := ⟨S_spec_l6Mems_13, O_spec_l6Mems_13, Z_spec_l6Mems_13, F_spec_l6Mems_13⟩
noncomputable def D_spec_l6Mems_1 : Nat → Option Seg := fun q => bif Nat.beq q 13 then some sg_spec_l6Mems_13 else D_spec_l6Mems_0 q
theorem fr_spec_l6Mems_1 : FrOk Try.prog ⟨E_spec_l6Mems, 51, D_spec_l6Mems_1⟩ B_spec_l6Mems := (fr_spec_l6Mems_0).loop (sg := sg_spec_l6Mems_13) L_spec_l6Mems_13 em_spec_l6Mems_13 (by decide) a_spec_l6Mems_13 stx_spec_l6Mems_13 fu_spec_l6Mems_13 (by decide) (fun _ => rfl) (fun x r _ h => h) r_spec_l6Mems_13
abbrev I_spec_l6Mems : List Par := [.rd tA]
abbrev U_spec_l6Mems : List OT := [⟨false, tB, .fz⟩]
noncomputable def raw_spec_l6Mems (a0 : dA) : Option (ResD U_spec_l6Mems × MutD I_spec_l6Mems) :=
  segM (F_spec_l6Mems_13 ((((), ()), ((), ()), ()), ((a0.1, a0.2.1.1, a0.2.1.2, a0.2.2.1, a0.2.2.2.1, a0.2.2.2.2.1, a0.2.2.2.2.2.1, a0.2.2.2.2.2.2.1, a0.2.2.2.2.2.2.2.1, a0.2.2.2.2.2.2.2.2.1, a0.2.2.2.2.2.2.2.2.2.1, a0.2.2.2.2.2.2.2.2.2.2.1, a0.2.2.2.2.2.2.2.2.2.2.2, ()), ()), ())) (fun y4 =>
    some ((((y4.2.1.1.2.2.2.1.length : Int) == y4.2.1.1.2.1), ()), ())) (fun y4 =>
    some ((y4.1.1.1, ()), ()))
theorem e_spec_l6Mems (x : InD I_spec_l6Mems) : execF ⟨E_spec_l6Mems, 51, D_spec_l6Mems_1⟩ Try.f99.results.toList B_spec_l6Mems I_spec_l6Mems U_spec_l6Mems x = raw_spec_l6Mems x.1 := by kernel_rfl
theorem ok0_spec_l6Mems : ConOk Try.prog 99 ⟨I_spec_l6Mems, U_spec_l6Mems, fun x => raw_spec_l6Mems x.1⟩ := conOk_exec (fr_spec_l6Mems_1) Try.func99 (by kernel_rfl) (by kernel_rfl) Try.ntmps99.symm (by decide) (fun x r h => (e_spec_l6Mems x).trans h)
noncomputable def n_spec_l6Mems (a0 : dA) : Bool := memsOk a0
noncomputable def q_spec_l6Mems (a0 : dA) : Bool := n_spec_GeoOk a0.2.1
theorem nn_spec_l6Mems (a0 : dA) (hk : InOk I_spec_l6Mems (a0, ())) (hq : q_spec_l6Mems a0 = true) : raw_spec_l6Mems a0 = (fun n => some ((n, ()), ())) (n_spec_l6Mems a0) := by
  have hb : a0.2.2.1.length * 80 ≤ 2 ^ 47 := hk.1.2.2.1.1
  have hg := geo_iff.1 hq
  have h1 : F_spec_l6Mems_13 (ms_spec_l6Mems_13 a0) = some (bif (List.range a0.2.2.1.length).any (memBad a0) then .inr (mz_spec_l6Mems_13 false) else .inl (mo_spec_l6Mems_13 a0)) :=
    loopN_all (step := stx_spec_l6Mems_13) (fun i => mk_spec_l6Mems_13 i a0) a0.2.2.1.length (memBad a0) _ _ (fun i hi => by
      simp only [stx_spec_l6Mems_13, mk_spec_l6Mems_13, st_spec_l6Mems_13, ltb_t (show (i : Int) < a0.2.2.1.length by omega), cond_true, wr (show -9223372036854775808 ≤ (i : Int) + 1 by omega) (by omega), Int.natCast_add, Int.natCast_one, Int.toNat_natCast, inb_nat hi, pr_eta, n_spec_MemOk, memBad, n_spec_l6Secs, wr (show -9223372036854775808 ≤ 6 + a0.2.1.2 by omega) (by omega), noMem]
      cases memOk (nth a0.2.2.1 i ([], [], false, [])) <;> cases (((nth a0.2.2.1 i ([], [], false, [])).1.length : Int) != 6 + a0.2.1.2) <;> cases (nth a0.2.2.1 i ([], [], false, [])).2.2.1 <;> cases ((i : Int) != a0.2.2.2.1) <;> cases a0.2.2.2.2.2.2.2.2.2.2.2 <;> rfl) (by simp only [stx_spec_l6Mems_13, mk_spec_l6Mems_13, st_spec_l6Mems_13, ltb_f (Int.le_refl _), cond_false]) _ (by show _ < 18446744073709551616; omega)
  unfold raw_spec_l6Mems n_spec_l6Mems memsOk
  rw [h1]
  cases (List.range a0.2.2.1.length).any (memBad a0) <;> rfl
noncomputable def o_spec_l6Mems (a0 : dA) : Option (ResD U_spec_l6Mems × MutD I_spec_l6Mems) := bif q_spec_l6Mems a0 then (fun n => some ((n, ()), ())) (n_spec_l6Mems a0) else none
theorem ot_spec_l6Mems (a0 : dA) (h : q_spec_l6Mems a0 = true) : o_spec_l6Mems a0 = (fun n => some ((n, ()), ())) (n_spec_l6Mems a0) := by unfold o_spec_l6Mems; rw [h]; rfl
noncomputable def con_spec_l6Mems : Con := ⟨I_spec_l6Mems, U_spec_l6Mems, fun x => o_spec_l6Mems x.1⟩
theorem ok_spec_l6Mems : ConOk Try.prog 99 con_spec_l6Mems := (ok0_spec_l6Mems).mono (fun x r hk h => pre_ok h (fun hq => nn_spec_l6Mems x.1 hk hq))
end

/-! spec_l6Dirty -/
section
noncomputable def B_spec_l6Dirty : Code := (Try.f100.body).getD .skip
noncomputable def E_spec_l6Dirty : Env := envOf TT [(60, con_spec_l1In), (136, con_spec_l1Words)] []
theorem fr_spec_l6Dirty_0 : FrOk Try.prog ⟨E_spec_l6Dirty, 57, fun _ => none⟩ B_spec_l6Dirty := frOk_base mixed tt_ok ⟨ok_spec_l1In, ok_spec_l1Words, trivial⟩
noncomputable def D_spec_l6Dirty_0 : Nat → Option Seg := fun _ => none
def L_spec_l6Dirty_13 : Shape := ⟨[(1, false, [.ptr 0 0]), (3, false, [.int .i64])], [(0, [.int .i64, .int .i64, .int .i64, .br tM, .int .i64, .int .i64, .int .i64, .int .i64, .int .i64, .br tW, .int .i64, .bool, .bool])], []⟩
def S_spec_l6Dirty_13 : Shape := ⟨[(1, false, [.ptr 0 0]), (3, false, [.ci .i64 0])], [(0, [.int .i64, .int .i64, .int .i64, .br tM, .int .i64, .int .i64, .int .i64, .int .i64, .int .i64, .br tW, .int .i64, .bool, .bool])], []⟩
def O_spec_l6Dirty_13 : Shape := ⟨[], [], []⟩
def Z_spec_l6Dirty_13 : Shape := ⟨[(2, false, [.bool])], [], []⟩
abbrev mk_spec_l6Dirty_13 (v0 : Int) (v1 : dA) : (L_spec_l6Dirty_13).X := ((((), ()), (v0, ()), ()), ((v1.1, v1.2.1.1, v1.2.1.2, v1.2.2.1, v1.2.2.2.1, v1.2.2.2.2.1, v1.2.2.2.2.2.1, v1.2.2.2.2.2.2.1, v1.2.2.2.2.2.2.2.1, v1.2.2.2.2.2.2.2.2.1, v1.2.2.2.2.2.2.2.2.2.1, v1.2.2.2.2.2.2.2.2.2.2.1, v1.2.2.2.2.2.2.2.2.2.2.2, ()), ()), ())
abbrev ms_spec_l6Dirty_13 (v0 : dA) : (S_spec_l6Dirty_13).X := ((((), ()), ((), ()), ()), ((v0.1, v0.2.1.1, v0.2.1.2, v0.2.2.1, v0.2.2.2.1, v0.2.2.2.2.1, v0.2.2.2.2.2.1, v0.2.2.2.2.2.2.1, v0.2.2.2.2.2.2.2.1, v0.2.2.2.2.2.2.2.2.1, v0.2.2.2.2.2.2.2.2.2.1, v0.2.2.2.2.2.2.2.2.2.2.1, v0.2.2.2.2.2.2.2.2.2.2.2, ()), ()), ())
abbrev mo_spec_l6Dirty_13  : (O_spec_l6Dirty_13).X := ((), (), ())
abbrev mz_spec_l6Dirty_13 (v0 : Bool) : (Z_spec_l6Dirty_13).X := (((v0, ()), ()), (), ())
noncomputable def st_spec_l6Dirty_13 (v0 v1 v2 v3 : Int) (v4 : List dM) (v5 v6 v7 v8 v9 : Int) (v10 : List dW) (v11 : Int) (v12 v13 : Bool) : Option ((L_spec_l6Dirty_13).X ⊕ ((O_spec_l6Dirty_13).X ⊕ (Z_spec_l6Dirty_13).X)) :=
  bif (ltb v0 (v10.length : Int)) then
    bif (inb v0 v10.length) then
      let r3 := n_spec_l1In ((nth v10 v0 (0, [])).1) 0 (IntKind.i64.wrap (v3 - 1))
      bif (!(!r3)) then
        bif (!((((nth v10 v0 (0, [])).2).length : Int) != (IntKind.i64.wrap (v2 - 1)))) then
          let r4 := n_spec_l1Words ((nth v10 v0 (0, [])).2)
          bif (!(!r4)) then
            bif (ltb 0 v0) then
              bif (inb (IntKind.i64.wrap (v0 - 1)) v10.length) then
                bif (leb ((nth v10 v0 (0, [])).1) ((nth v10 (IntKind.i64.wrap (v0 - 1)) (0, [])).1)) then
                  some (.inr (.inr (((false, ()), ()), (), ())))
                else
                  some (.inl ((((), ()), ((IntKind.i64.wrap (v0 + 1)), ()), ()), ((v1, v2, v3, v4, v5, v6, v7, v8, v9, v10, v11, v12, v13, ()), ()), ()))
              else none
            else
              some (.inl ((((), ()), ((IntKind.i64.wrap (v0 + 1)), ()), ()), ((v1, v2, v3, v4, v5, v6, v7, v8, v9, v10, v11, v12, v13, ()), ()), ()))
          else
            some (.inr (.inr (((false, ()), ()), (), ())))
        else
          some (.inr (.inr (((false, ()), ()), (), ())))
      else
        some (.inr (.inr (((false, ()), ()), (), ())))
    else none
  else
    some (.inr (.inl ((), (), ())))
noncomputable def stx_spec_l6Dirty_13 (x : (L_spec_l6Dirty_13).X) := st_spec_l6Dirty_13 x.1.2.1.1 x.2.1.1.1 x.2.1.1.2.1 x.2.1.1.2.2.1 x.2.1.1.2.2.2.1 x.2.1.1.2.2.2.2.1 x.2.1.1.2.2.2.2.2.1 x.2.1.1.2.2.2.2.2.2.1 x.2.1.1.2.2.2.2.2.2.2.1 x.2.1.1.2.2.2.2.2.2.2.2.1 x.2.1.1.2.2.2.2.2.2.2.2.2.1 x.2.1.1.2.2.2.2.2.2.2.2.2.2.1 x.2.1.1.2.2.2.2.2.2.2.2.2.2.2.1 x.2.1.1.2.2.2.2.2.2.2.2.2.2.2.2.1
def em_spec_l6Dirty_13 (x : (S_spec_l6Dirty_13).X) : (L_spec_l6Dirty_13).X := ((((), ()), (0, ()), ()), ((x.2.1.1.1, x.2.1.1.2.1, x.2.1.1.2.2.1, x.2.1.1.2.2.2.1, x.2.1.1.2.2.2.2.1, x.2.1.1.2.2.2.2.2.1, x.2.1.1.2.2.2.2.2.2.1, x.2.1.1.2.2.2.2.2.2.2.1, x.2.1.1.2.2.2.2.2.2.2.2.1, x.2.1.1.2.2.2.2.2.2.2.2.2.1, x.2.1.1.2.2.2.2.2.2.2.2.2.2.1, x.2.1.1.2.2.2.2.2.2.2.2.2.2.2.1, x.2.1.1.2.2.2.2.2.2.2.2.2.2.2.2.1, ()), ()), ())
noncomputable def c_spec_l6Dirty_13 : Code := (subN B_spec_l6Dirty 64 52).getD .skip
theorem a_spec_l6Dirty_13 : subN B_spec_l6Dirty 64 13 = some (.block 0 (.loop c_spec_l6Dirty_13)) := by kernel_rfl
theorem r_spec_l6Dirty_13 (x : (L_spec_l6Dirty_13).X) : roundT ⟨E_spec_l6Dirty, 57, D_spec_l6Dirty_0⟩ 0 c_spec_l6Dirty_13 52 L_spec_l6Dirty_13 O_spec_l6Dirty_13 Z_spec_l6Dirty_13 x = stx_spec_l6Dirty_13 x := by kernel_rfl
def fu_spec_l6Dirty_13 (x : (S_spec_l6Dirty_13).X) : Nat := 18446744073709551616
noncomputable def F_spec_l6Dirty_13 (x : (S_spec_l6Dirty_13).X) : Option ((O_spec_l6Dirty_13).X ⊕ (Z_spec_l6Dirty_13).X) := loopN stx_spec_l6Dirty_13 (fu_spec_l6Dirty_13 x) (em_spec_l6Dirty_13 x)
noncomputable def sg_spec_l6Dirty_13 : Seg := ⟨S_spec_l6Dirty_13, O_spec_l6Dirty_13, Z_spec_l6Dirty_13, F_spec_l6Dirty_13⟩
noncomputable def D_spec_l6Dirty_1 : Nat → Option Seg := fun q => bif Nat.beq q 13 then some sg_spec_l6Dirty_13 else D_spec_l6Dirty_0 q
theorem fr_spec_l6Dirty_1 : FrOk Try.prog ⟨E_spec_l6Dirty, 57, D_spec_l6Dirty_1⟩ B_spec_l6Dirty := (fr_spec_l6Dirty_0).loop (sg := sg_spec_l6Dirty_13) L_spec_l6Dirty_13 em_spec_l6Dirty_13 (by decide) a_spec_l6Dirty_13 stx_spec_l6Dirty_13 fu_spec_l6Dirty_13 (by decide) (fun _ => rfl) (fun x r _ h => h) r_spec_l6Dirty_13
abbrev I_spec_l6Dirty : List Par := [.rd tA]
abbrev U_spec_l6Dirty : List OT := [⟨false, tB, .fz⟩]
noncomputable def raw_spec_l6Dirty (a0 : dA) : Option (ResD U_spec_l6Dirty × MutD I_spec_l6Dirty) :=
  segM (F_spec_l6Dirty_13 ((((), ()), ((), ()), ()), ((a0.1, a0.2.1.1, a0.2.1.2, a0.2.2.1, a0.2.2.2.1, a0.2.2.2.2.1, a0.2.2.2.2.2.1, a0.2.2.2.2.2.2.1, a0.2.2.2.2.2.2.2.1, a0.2.2.2.2.2.2.2.2.1, a0.2.2.2.2.2.2.2.2.2.1, a0.2.2.2.2.2.2.2.2.2.2.1, a0.2.2.2.2.2.2.2.2.2.2.2, ()), ()), ())) (fun y4 =>
    some ((true, ()), ())) (fun y4 =>
    some ((y4.1.1.1, ()), ()))
theorem e_spec_l6Dirty (x : InD I_spec_l6Dirty) : execF ⟨E_spec_l6Dirty, 57, D_spec_l6Dirty_1⟩ Try.f100.results.toList B_spec_l6Dirty I_spec_l6Dirty U_spec_l6Dirty x = raw_spec_l6Dirty x.1 := by kernel_rfl
theorem ok0_spec_l6Dirty : ConOk Try.prog 100 ⟨I_spec_l6Dirty, U_spec_l6Dirty, fun x => raw_spec_l6Dirty x.1⟩ := conOk_exec (fr_spec_l6Dirty_1) Try.func100 (by kernel_rfl) (by kernel_rfl) Try.ntmps100.symm (by decide) (fun x r h => (e_spec_l6Dirty x).trans h)
noncomputable def n_spec_l6Dirty (a0 : dA) : Bool := dirtyOk a0.2.1 a0.2.2.2.2.2.2.2.2.1
noncomputable def q_spec_l6Dirty (a0 : dA) : Bool := n_spec_GeoOk a0.2.1
theorem spec_words_eq (l : List Int) : n_spec_l1Words l = l.all isW := by
  unfold n_spec_l1Words
  rw [show n_spec_l1Word = isW from funext fun x => by unfold n_spec_l1Word; rw [in_eq]; rfl]
theorem nn_spec_l6Dirty (a0 : dA) (hk : InOk I_spec_l6Dirty (a0, ())) (hq : q_spec_l6Dirty a0 = true) : raw_spec_l6Dirty a0 = (fun n => some ((n, ()), ())) (n_spec_l6Dirty a0) := by
  have hb : a0.2.2.2.2.2.2.2.2.1.length * 32 ≤ 2 ^ 47 := hk.1.2.2.2.2.2.2.2.2.1.1
  have hg := geo_iff.1 hq
  have h1 : F_spec_l6Dirty_13 (ms_spec_l6Dirty_13 a0) = some (bif (List.range a0.2.2.2.2.2.2.2.2.1.length).any (dirtBad a0.2.1 a0.2.2.2.2.2.2.2.2.1) then .inr (mz_spec_l6Dirty_13 false) else .inl mo_spec_l6Dirty_13) :=
    loopN_all (step := stx_spec_l6Dirty_13) (fun i => mk_spec_l6Dirty_13 i a0) a0.2.2.2.2.2.2.2.2.1.length (dirtBad a0.2.1 a0.2.2.2.2.2.2.2.2.1) _ _ (fun i hi => by
      simp only [stx_spec_l6Dirty_13, mk_spec_l6Dirty_13, st_spec_l6Dirty_13, ltb_t (show (i : Int) < a0.2.2.2.2.2.2.2.2.1.length by omega), cond_true, wr (show -9223372036854775808 ≤ (i : Int) + 1 by omega) (by omega), Int.natCast_add, Int.natCast_one, Int.toNat_natCast, inb_nat hi, in_eq, spec_words_eq, wr (show -9223372036854775808 ≤ a0.2.1.2 - 1 by omega) (by omega), wr (show -9223372036854775808 ≤ a0.2.1.1 - 1 by omega) (by omega), dirtBad]
      rcases Nat.eq_zero_or_pos i with rfl | h0
      · cases (leb 0 (nth a0.2.2.2.2.2.2.2.2.1 ((0 : Nat) : Int) (0, [])).1 && leb (nth a0.2.2.2.2.2.2.2.2.1 ((0 : Nat) : Int) (0, [])).1 (a0.2.1.2 - 1)) <;> cases (((nth a0.2.2.2.2.2.2.2.2.1 ((0 : Nat) : Int) (0, [])).2.length : Int) != a0.2.1.1 - 1) <;> cases ((nth a0.2.2.2.2.2.2.2.2.1 ((0 : Nat) : Int) (0, [])).2.all isW) <;> rfl
      · rw [show IntKind.i64.wrap ((i : Int) - 1) = ((i - 1 : Nat) : Int) by rw [wr (by omega) (by omega)]; omega, inb_nat (show i - 1 < a0.2.2.2.2.2.2.2.2.1.length by omega), ltb_t (show (0 : Int) < i by omega), decide_eq_true h0]
        cases (leb 0 (nth a0.2.2.2.2.2.2.2.2.1 (i : Int) (0, [])).1 && leb (nth a0.2.2.2.2.2.2.2.2.1 (i : Int) (0, [])).1 (a0.2.1.2 - 1)) <;> cases (((nth a0.2.2.2.2.2.2.2.2.1 (i : Int) (0, [])).2.length : Int) != a0.2.1.1 - 1) <;> cases ((nth a0.2.2.2.2.2.2.2.2.1 (i : Int) (0, [])).2.all isW) <;> cases leb (nth a0.2.2.2.2.2.2.2.2.1 (i : Int) (0, [])).1 (nth a0.2.2.2.2.2.2.2.2.1 ((i - 1 : Nat) : Int) (0, [])).1 <;> rfl) (by simp only [stx_spec_l6Dirty_13, mk_spec_l6Dirty_13, st_spec_l6Dirty_13, ltb_f (Int.le_refl _), cond_false]) _ (by show _ < 18446744073709551616; omega)
  unfold raw_spec_l6Dirty n_spec_l6Dirty dirtyOk
  rw [h1]
  cases (List.range a0.2.2.2.2.2.2.2.2.1.length).any (dirtBad a0.2.1 a0.2.2.2.2.2.2.2.2.1) <;> rfl
noncomputable def o_spec_l6Dirty (a0 : dA) : Option (ResD U_spec_l6Dirty × MutD I_spec_l6Dirty) := bif q_spec_l6Dirty a0 then (fun n => some ((n, ()), ())) (n_spec_l6Dirty a0) else none
theorem ot_spec_l6Dirty (a0 : dA) (h : q_spec_l6Dirty a0 = true) : o_spec_l6Dirty a0 = (fun n => some ((n, ()), ())) (n_spec_l6Dirty a0) := by unfold o_spec_l6Dirty; rw [h]; rfl
noncomputable def con_spec_l6Dirty : Con := ⟨I_spec_l6Dirty, U_spec_l6Dirty, fun x => o_spec_l6Dirty x.1⟩
theorem ok_spec_l6Dirty : ConOk Try.prog 100 con_spec_l6Dirty := (ok0_spec_l6Dirty).mono (fun x r hk h => pre_ok h (fun hq => nn_spec_l6Dirty x.1 hk hq))
end

/-! spec_ArrOk -/
section
noncomputable def B_spec_ArrOk : Code := (Try.f59.body).getD .skip
noncomputable def E_spec_ArrOk : Env := envOf TT [(60, con_spec_l1In), (91, con_spec_GeoOk), (99, con_spec_l6Mems), (100, con_spec_l6Dirty)] []
theorem fr_spec_ArrOk_0 : FrOk Try.prog ⟨E_spec_ArrOk, 78, fun _ => none⟩ B_spec_ArrOk := frOk_base mixed tt_ok ⟨ok_spec_l1In, ok_spec_GeoOk, ok_spec_l6Mems, ok_spec_l6Dirty, trivial⟩
noncomputable def D_spec_ArrOk_0 : Nat → Option Seg := fun _ => none
abbrev I_spec_ArrOk : List Par := [.rd tA]
abbrev U_spec_ArrOk : List OT := [⟨false, tB, .fz⟩]
noncomputable def raw_spec_ArrOk (a0 : dA) : Option (ResD U_spec_ArrOk × MutD I_spec_ArrOk) :=
  let r1 := n_spec_GeoOk a0.2.1
  bif (!(!r1)) then
    let r2 := n_spec_l1In a0.1 1 60000
    bif (!(!r2)) then
      bnd (o_spec_l6Mems a0) fun r3 =>
      bif (!(!r3.1.1)) then
        bnd (o_spec_l6Dirty a0) fun r4 =>
        bif (!r4.1.1) then
          some ((false, ()), ())
        else
          let r5 := n_spec_l1In a0.2.2.2.1 (-1) (IntKind.i64.wrap (a0.2.1.1 - 1))
          bif (!(!r5)) then
            let r6 := n_spec_l1In a0.2.2.2.2.1 0 a0.2.1.2
            bif (!(!r6)) then
              bif (a0.2.2.2.1 == (-1)) then
                bif (a0.2.2.2.2.1 != 0) then
                  some ((false, ()), ())
                else
                  let r7 := n_spec_l1In a0.2.2.2.2.2.2.1 0 60000
                  bif r7 then
                    let r8 := n_spec_l1In a0.2.2.2.2.2.1 a0.2.2.2.2.2.2.1 60000
                    bif r8 then
                      bif (leb a0.2.2.2.2.2.1 (IntKind.i64.wrap (a0.2.2.2.2.2.2.1 + 4))) then
                        let r9 := n_spec_l1In a0.2.2.2.2.2.2.2.1 0 60000
                        bif r9 then
                          let r10 := n_spec_l1In a0.2.2.2.2.2.2.2.2.2.1 (-1) 1000
                          some ((r10, ()), ())
                        else
                          some ((false, ()), ())
                      else
                        some ((false, ()), ())
                    else
                      some ((false, ()), ())
                  else
                    some ((false, ()), ())
              else
                let r11 := n_spec_l1In a0.2.2.2.2.2.2.1 0 60000
                bif r11 then
                  let r12 := n_spec_l1In a0.2.2.2.2.2.1 a0.2.2.2.2.2.2.1 60000
                  bif r12 then
                    bif (leb a0.2.2.2.2.2.1 (IntKind.i64.wrap (a0.2.2.2.2.2.2.1 + 4))) then
                      let r13 := n_spec_l1In a0.2.2.2.2.2.2.2.1 0 60000
                      bif r13 then
                        let r14 := n_spec_l1In a0.2.2.2.2.2.2.2.2.2.1 (-1) 1000
                        some ((r14, ()), ())
                      else
                        some ((false, ()), ())
                    else
                      some ((false, ()), ())
                  else
                    some ((false, ()), ())
                else
                  some ((false, ()), ())
            else
              some ((false, ()), ())
          else
            some ((false, ()), ())
      else
        some ((false, ()), ())
    else
      some ((false, ()), ())
  else
    some ((false, ()), ())
theorem e_spec_ArrOk (x : InD I_spec_ArrOk) : execF ⟨E_spec_ArrOk, 78, D_spec_ArrOk_0⟩ Try.f59.results.toList B_spec_ArrOk I_spec_ArrOk U_spec_ArrOk x = raw_spec_ArrOk x.1 := by kernel_rfl
theorem ok0_spec_ArrOk : ConOk Try.prog 59 ⟨I_spec_ArrOk, U_spec_ArrOk, fun x => raw_spec_ArrOk x.1⟩ := conOk_exec (fr_spec_ArrOk_0) Try.func59 (by kernel_rfl) (by kernel_rfl) Try.ntmps59.symm (by decide) (fun x r h => (e_spec_ArrOk x).trans h)
noncomputable def n_spec_ArrOk (a0 : dA) : Bool := arrOk a0
theorem nn_spec_ArrOk (a0 : dA) (hk : InOk I_spec_ArrOk (a0, ())) : raw_spec_ArrOk a0 = (fun n => some ((n, ()), ())) (n_spec_ArrOk a0) := by
  unfold raw_spec_ArrOk n_spec_ArrOk arrOk
  simp only [in_eq]
  cases hg : n_spec_GeoOk a0.2.1
  · rfl
  have hg2 := geo_iff.1 hg
  rw [ot_spec_l6Mems a0 hg, ot_spec_l6Dirty a0 hg, wr (show -9223372036854775808 ≤ a0.2.1.1 - 1 by omega) (by omega)]
  simp only [bnd_some, n_spec_l6Mems, n_spec_l6Dirty, Bool.not_not, cond_true]
  cases (leb 1 a0.1 && leb a0.1 60000)
  · rfl
  cases memsOk a0
  · rfl
  cases dirtyOk a0.2.1 a0.2.2.2.2.2.2.2.2.1
  · rfl
  cases (leb (-1) a0.2.2.2.1 && leb a0.2.2.2.1 (a0.2.1.1 - 1))
  · rfl
  cases (leb 0 a0.2.2.2.2.1 && leb a0.2.2.2.2.1 a0.2.1.2)
  · rfl
  have ht : (leb 0 a0.2.2.2.2.2.2.1 && leb a0.2.2.2.2.2.2.1 60000) = true → IntKind.i64.wrap (a0.2.2.2.2.2.2.1 + 4) = a0.2.2.2.2.2.2.1 + 4 := fun h => by
    rw [Bool.and_eq_true, leb_iff, leb_iff] at h
    exact wr (by omega) (by omega)
  cases hT : (leb 0 a0.2.2.2.2.2.2.1 && leb a0.2.2.2.2.2.2.1 60000)
  · cases (a0.2.2.2.1 == -1) <;> cases (a0.2.2.2.2.1 != 0) <;> rfl
  rw [ht hT]
  cases (leb a0.2.2.2.2.2.2.1 a0.2.2.2.2.2.1 && leb a0.2.2.2.2.2.1 60000)
  · cases (a0.2.2.2.1 == -1) <;> cases (a0.2.2.2.2.1 != 0) <;> rfl
  cases leb a0.2.2.2.2.2.1 (a0.2.2.2.2.2.2.1 + 4)
  · cases (a0.2.2.2.1 == -1) <;> cases (a0.2.2.2.2.1 != 0) <;> rfl
  cases (leb 0 a0.2.2.2.2.2.2.2.1 && leb a0.2.2.2.2.2.2.2.1 60000) <;> cases (a0.2.2.2.1 == -1) <;> cases (a0.2.2.2.2.1 != 0) <;> rfl
noncomputable def con_spec_ArrOk : Con := ⟨I_spec_ArrOk, U_spec_ArrOk, fun x => (fun n => some ((n, ()), ())) (n_spec_ArrOk x.1)⟩
theorem ok_spec_ArrOk : ConOk Try.prog 59 con_spec_ArrOk := (ok0_spec_ArrOk).mono (fun x r hk h => (nn_spec_ArrOk x.1 hk).trans h)
end

/-! spec_l2Has -/
section
noncomputable def B_spec_l2Has : Code := (Try.f102.body).getD .skip
noncomputable def E_spec_l2Has : Env := envOf TT [] []
theorem fr_spec_l2Has_0 : FrOk Try.prog ⟨E_spec_l2Has, 18, fun _ => none⟩ B_spec_l2Has := frOk_base mixed tt_ok trivial
noncomputable def D_spec_l2Has_0 : Nat → Option Seg := fun _ => none
def L_spec_l2Has_13 : Shape := ⟨[(0, false, [.br tI]), (1, false, [.int .i64]), (5, false, [.int .i64])], [], []⟩
def S_spec_l2Has_13 : Shape := ⟨[(0, false, [.br tI]), (1, false, [.int .i64]), (5, false, [.ci .i64 0])], [], []⟩
def O_spec_l2Has_13 : Shape := ⟨[], [], []⟩
def Z_spec_l2Has_13 : Shape := ⟨[(4, false, [.bool])], [], []⟩
abbrev mk_spec_l2Has_13 (v0 : List Int) (v1 v2 : Int) : (L_spec_l2Has_13).X := (((v0, ()), (v1, ()), (v2, ()), ()), (), ())
abbrev ms_spec_l2Has_13 (v0 : List Int) (v1 : Int) : (S_spec_l2Has_13).X := (((v0, ()), (v1, ()), ((), ()), ()), (), ())
abbrev mo_spec_l2Has_13  : (O_spec_l2Has_13).X := ((), (), ())
abbrev mz_spec_l2Has_13 (v0 : Bool) : (Z_spec_l2Has_13).X := (((v0, ()), ()), (), ())
noncomputable def st_spec_l2Has_13 (v0 : List Int) (v1 v2 : Int) : Option ((L_spec_l2Has_13).X ⊕ ((O_spec_l2Has_13).X ⊕ (Z_spec_l2Has_13).X)) :=
  bif (ltb v2 (v0.length : Int)) then
    bif (inb v2 v0.length) then
      bif ((nth v0 v2 0) == v1) then
        some (.inr (.inr (((true, ()), ()), (), ())))
      else
        some (.inl (((v0, ()), (v1, ()), ((IntKind.i64.wrap (v2 + 1)), ()), ()), (), ()))
    else none
  else
    some (.inr (.inl ((), (), ())))
noncomputable def stx_spec_l2Has_13 (x : (L_spec_l2Has_13).X) := st_spec_l2Has_13 x.1.1.1 x.1.2.1.1 x.1.2.2.1.1
def em_spec_l2Has_13 (x : (S_spec_l2Has_13).X) : (L_spec_l2Has_13).X := (((x.1.1.1, ()), (x.1.2.1.1, ()), (0, ()), ()), (), ())
noncomputable def c_spec_l2Has_13 : Code := (subN B_spec_l2Has 64 52).getD .skip
theorem a_spec_l2Has_13 : subN B_spec_l2Has 64 13 = some (.block 0 (.loop c_spec_l2Has_13)) := by kernel_rfl
theorem r_spec_l2Has_13 (x : (L_spec_l2Has_13).X) : roundT ⟨E_spec_l2Has, 18, D_spec_l2Has_0⟩ 0 c_spec_l2Has_13 52 L_spec_l2Has_13 O_spec_l2Has_13 Z_spec_l2Has_13 x = stx_spec_l2Has_13 x := by kernel_rfl
def fu_spec_l2Has_13 (x : (S_spec_l2Has_13).X) : Nat := 18446744073709551616
noncomputable def F_spec_l2Has_13 (x : (S_spec_l2Has_13).X) : Option ((O_spec_l2Has_13).X ⊕ (Z_spec_l2Has_13).X) := loopN stx_spec_l2Has_13 (fu_spec_l2Has_13 x) (em_spec_l2Has_13 x)
noncomputable def sg_spec_l2Has_13 : Seg := ⟨S_spec_l2Has_13, O_spec_l2Has_13, Z_spec_l2Has_13, F_spec_l2Has_13⟩
noncomputable def D_spec_l2Has_1 : Nat → Option Seg := fun q => bif Nat.beq q 13 then some sg_spec_l2Has_13 else D_spec_l2Has_0 q
theorem fr_spec_l2Has_1 : FrOk Try.prog ⟨E_spec_l2Has, 18, D_spec_l2Has_1⟩ B_spec_l2Has := (fr_spec_l2Has_0).loop (sg := sg_spec_l2Has_13) L_spec_l2Has_13 em_spec_l2Has_13 (by decide) a_spec_l2Has_13 stx_spec_l2Has_13 fu_spec_l2Has_13 (by decide) (fun _ => rfl) (fun x r _ h => h) r_spec_l2Has_13
abbrev I_spec_l2Has : List Par := [.rd tL, .rd tI]
abbrev U_spec_l2Has : List OT := [⟨false, tB, .fz⟩]
noncomputable def raw_spec_l2Has (a0 : List Int) (a1 : Int) : Option (ResD U_spec_l2Has × MutD I_spec_l2Has) :=
  segM (F_spec_l2Has_13 (((a0, ()), (a1, ()), ((), ()), ()), (), ())) (fun y0 =>
    some ((false, ()), ())) (fun y0 =>
    some ((y0.1.1.1, ()), ()))
theorem e_spec_l2Has (x : InD I_spec_l2Has) : execF ⟨E_spec_l2Has, 18, D_spec_l2Has_1⟩ Try.f102.results.toList B_spec_l2Has I_spec_l2Has U_spec_l2Has x = raw_spec_l2Has x.1 x.2.1 := by kernel_rfl
theorem ok0_spec_l2Has : ConOk Try.prog 102 ⟨I_spec_l2Has, U_spec_l2Has, fun x => raw_spec_l2Has x.1 x.2.1⟩ := conOk_exec (fr_spec_l2Has_1) Try.func102 (by kernel_rfl) (by kernel_rfl) Try.ntmps102.symm (by decide) (fun x r h => (e_spec_l2Has x).trans h)
noncomputable def n_spec_l2Has (a0 : List Int) (a1 : Int) : Bool := a0.any (· == a1)
theorem nn_spec_l2Has (a0 : List Int) (a1 : Int) (hk : InOk I_spec_l2Has (a0, a1, ())) : raw_spec_l2Has a0 a1 = (fun n => some ((n, ()), ())) (n_spec_l2Has a0 a1) := by
  have hb : a0.length * 8 ≤ 2 ^ 47 := hk.1.1
  have h1 : F_spec_l2Has_13 (ms_spec_l2Has_13 a0 a1) = some (bif a0.all (· != a1) then .inl mo_spec_l2Has_13 else .inr (mz_spec_l2Has_13 true)) :=
    loopN_list_all (step := stx_spec_l2Has_13) a0 0 (fun i => mk_spec_l2Has_13 a0 a1 i) (· != a1) _ _ (fun i hi => by
      simp only [stx_spec_l2Has_13, mk_spec_l2Has_13, st_spec_l2Has_13, ltb_t (show (i : Int) < a0.length by omega), cond_true, wr (show -9223372036854775808 ≤ (i : Int) + 1 by omega) (by omega), Int.natCast_add, Int.natCast_one, Int.toNat_natCast, inb_nat hi, nth_nat, bne]
      cases (a0.getD i 0 == a1) <;> rfl) (by simp only [stx_spec_l2Has_13, mk_spec_l2Has_13, st_spec_l2Has_13, ltb_f (Int.le_refl _), cond_false]) _ (by show _ < 18446744073709551616; omega)
  unfold raw_spec_l2Has n_spec_l2Has
  rw [h1, show a0.any (· == a1) = !(a0.all (· != a1)) by simp [List.all_eq_not_any_not, bne]]
  cases a0.all (· != a1) <;> rfl
noncomputable def con_spec_l2Has : Con := ⟨I_spec_l2Has, U_spec_l2Has, fun x => (fun n => some ((n, ()), ())) (n_spec_l2Has x.1 x.2.1)⟩
theorem ok_spec_l2Has : ConOk Try.prog 102 con_spec_l2Has := (ok0_spec_l2Has).mono (fun x r hk h => (nn_spec_l2Has x.1 x.2.1 hk).trans h)
end

/-! spec_SpoilSec -/
section
noncomputable def B_spec_SpoilSec : Code := (Try.f61.body).getD .skip
noncomputable def E_spec_SpoilSec : Env := envOf TT [(60, con_spec_l1In), (98, con_spec_l2Copy), (101, con_spec_MemOk), (102, con_spec_l2Has)] []
theorem fr_spec_SpoilSec_0 : FrOk Try.prog ⟨E_spec_SpoilSec, 68, fun _ => none⟩ B_spec_SpoilSec := frOk_base mixed tt_ok ⟨ok_spec_l1In, ok_spec_l2Copy, ok_spec_MemOk, ok_spec_l2Has, trivial⟩
noncomputable def D_spec_SpoilSec_0 : Nat → Option Seg := fun _ => none
def L_spec_SpoilSec_126 : Shape := ⟨[(1, false, [.int .i64]), (4, false, [.ptr 64 0]), (5, false, [.ptr 4224 0]), (6, false, [.int .i64])], [(64, [.nil, .nil, .bool, .nil]), (4224, [.at 800000000, .at 800000001, .bool, .at 800000002])], [(800000000, tL, .fz), (800000001, tW, (.pr .fz .fz)), (800000002, tI, .fz)]⟩
def S_spec_SpoilSec_126 : Shape := ⟨[(1, false, [.int .i64]), (4, false, [.ptr 64 0]), (5, false, [.ptr 4224 0]), (6, false, [.int .i64])], [(64, [.nil, .nil, .bool, .nil]), (4224, [.at 800000000, .at 800000001, .bool, .at 800000002])], [(800000000, tL, .fz), (800000001, tW, (.pr .fz .fz)), (800000002, tI, .fz)]⟩
def O_spec_SpoilSec_126 : Shape := ⟨[(1, false, [.int .i64]), (4, false, [.ptr 64 0]), (5, false, [.ptr 4224 0]), (6, false, [.int .i64])], [(64, [.nil, .nil, .bool, .nil]), (4224, [.at 800000000, .at 800000001, .bool, .at 800000002])], [(800000000, tL, .fz), (800000001, tW, (.pr .fz .fz)), (800000002, tI, .fz)]⟩
def Z_spec_SpoilSec_126 : Shape := ⟨[], [], []⟩
abbrev mk_spec_SpoilSec_126 (v0 v1 : Int) (v2 v3 : dM) : (L_spec_SpoilSec_126).X := (((v0, ()), ((), ()), ((), ()), (v1, ()), ()), (((), (), v2.2.2.1, (), ()), ((), (), v3.2.2.1, (), ()), ()), (v3.1, v3.2.1, v3.2.2.2, ()))
abbrev ms_spec_SpoilSec_126 (v0 v1 : Int) (v2 v3 : dM) : (S_spec_SpoilSec_126).X := (((v0, ()), ((), ()), ((), ()), (v1, ()), ()), (((), (), v2.2.2.1, (), ()), ((), (), v3.2.2.1, (), ()), ()), (v3.1, v3.2.1, v3.2.2.2, ()))
abbrev mo_spec_SpoilSec_126 (v0 v1 : Int) (v2 v3 : dM) : (O_spec_SpoilSec_126).X := (((v0, ()), ((), ()), ((), ()), (v1, ()), ()), (((), (), v2.2.2.1, (), ()), ((), (), v3.2.2.1, (), ()), ()), (v3.1, v3.2.1, v3.2.2.2, ()))
noncomputable def st_spec_SpoilSec_126 (v0 v1 : Int) (v2 v3 : Bool) (v4 : List (List Int)) (v5 : List dW) (v6 : List Int) : Option ((L_spec_SpoilSec_126).X ⊕ ((O_spec_SpoilSec_126).X ⊕ (Z_spec_SpoilSec_126).X)) :=
  bif (ltb 0 v1) then
    bif (inb (IntKind.i64.wrap (v1 - 1)) v6.length) then
      bif (ltb v0 (nth v6 (IntKind.i64.wrap (v1 - 1)) 0)) then
        bif (inb (IntKind.i64.wrap (v1 - 1)) v6.length) then
          bif (inb v1 v6.length) then
            some (.inl (((v0, ()), ((), ()), ((), ()), ((IntKind.i64.wrap (v1 - 1)), ()), ()), (((), (), v2, (), ()), ((), (), v3, (), ()), ()), (v4, v5, (v6.set (v1).toNat (nth v6 (IntKind.i64.wrap (v1 - 1)) 0)), ())))
          else none
        else none
      else
        some (.inr (.inl (((v0, ()), ((), ()), ((), ()), (v1, ()), ()), (((), (), v2, (), ()), ((), (), v3, (), ()), ()), (v4, v5, v6, ()))))
    else none
  else
    some (.inr (.inl (((v0, ()), ((), ()), ((), ()), (v1, ()), ()), (((), (), v2, (), ()), ((), (), v3, (), ()), ()), (v4, v5, v6, ()))))
noncomputable def stx_spec_SpoilSec_126 (x : (L_spec_SpoilSec_126).X) := st_spec_SpoilSec_126 x.1.1.1 x.1.2.2.2.1.1 x.2.1.1.2.2.1 x.2.1.2.1.2.2.1 x.2.2.1 x.2.2.2.1 x.2.2.2.2.1
def em_spec_SpoilSec_126 (x : (S_spec_SpoilSec_126).X) : (L_spec_SpoilSec_126).X := (((x.1.1.1, ()), ((), ()), ((), ()), (x.1.2.2.2.1.1, ()), ()), (((), (), x.2.1.1.2.2.1, (), ()), ((), (), x.2.1.2.1.2.2.1, (), ()), ()), (x.2.2.1, x.2.2.2.1, x.2.2.2.2.1, ()))
noncomputable def c_spec_SpoilSec_126 : Code := (subN B_spec_SpoilSec 64 504).getD .skip
theorem a_spec_SpoilSec_126 : subN B_spec_SpoilSec 64 126 = some (.block 0 (.loop c_spec_SpoilSec_126)) := by kernel_rfl
theorem r_spec_SpoilSec_126 (x : (L_spec_SpoilSec_126).X) : roundT ⟨E_spec_SpoilSec, 68, D_spec_SpoilSec_0⟩ 0 c_spec_SpoilSec_126 504 L_spec_SpoilSec_126 O_spec_SpoilSec_126 Z_spec_SpoilSec_126 x = stx_spec_SpoilSec_126 x := by kernel_rfl
def fu_spec_SpoilSec_126 (x : (S_spec_SpoilSec_126).X) : Nat := 18446744073709551616
noncomputable def F_spec_SpoilSec_126 (x : (S_spec_SpoilSec_126).X) : Option ((O_spec_SpoilSec_126).X ⊕ (Z_spec_SpoilSec_126).X) := loopN stx_spec_SpoilSec_126 (fu_spec_SpoilSec_126 x) (em_spec_SpoilSec_126 x)
noncomputable def sg_spec_SpoilSec_126 : Seg := ⟨S_spec_SpoilSec_126, O_spec_SpoilSec_126, Z_spec_SpoilSec_126, F_spec_SpoilSec_126⟩
noncomputable def D_spec_SpoilSec_1 : Nat → Option Seg := fun q => bif Nat.beq q 126 then some sg_spec_SpoilSec_126 else D_spec_SpoilSec_0 q
theorem fr_spec_SpoilSec_1 : FrOk Try.prog ⟨E_spec_SpoilSec, 68, D_spec_SpoilSec_1⟩ B_spec_SpoilSec := (fr_spec_SpoilSec_0).loop (sg := sg_spec_SpoilSec_126) L_spec_SpoilSec_126 em_spec_SpoilSec_126 (by decide) a_spec_SpoilSec_126 stx_spec_SpoilSec_126 fu_spec_SpoilSec_126 (by decide) (fun _ => rfl) (fun x r _ h => h) r_spec_SpoilSec_126
abbrev I_spec_SpoilSec : List Par := [.rd tM, .rd tI]
abbrev U_spec_SpoilSec : List OT := [⟨false, tM, (.pr (.ow .fz) (.pr (.ow (.pr .fz .fz)) (.pr .fz (.ow .fz))))⟩]
noncomputable def raw_spec_SpoilSec (a0 : dM) (a1 : Int) : Option (ResD U_spec_SpoilSec × MutD I_spec_SpoilSec) :=
  let r1 := n_spec_l2Copy a0
  let r2 := n_spec_MemOk a0
  bif (!(!r2)) then
    let r3 := n_spec_l1In a1 0 (IntKind.i64.wrap ((a0.1.length : Int) - 1))
    bif (!(!r3)) then
      let r4 := n_spec_l2Has a0.2.2.2 a1
      bif r4 then
        some ((r1, ()), ())
      else
        bif (apok r1.2.2.2.length ([a1] : List Int).length 8) then
          segM (F_spec_SpoilSec_126 (((a1, ()), ((), ()), ((), ()), ((IntKind.i64.wrap (((r1.2.2.2 ++ ([a1] : List Int)).length : Int) - 1)), ()), ()), (((), (), false, (), ()), ((), (), r1.2.2.1, (), ()), ()), (r1.1, r1.2.1, (r1.2.2.2 ++ ([a1] : List Int)), ()))) (fun y4 =>
            bif (inb y4.1.2.2.2.1.1 y4.2.2.2.2.1.length) then
              some (((y4.2.2.1, y4.2.2.2.1, y4.2.1.2.1.2.2.1, (y4.2.2.2.2.1.set (y4.1.2.2.2.1.1).toNat y4.1.1.1)), ()), ())
            else none) (fun y4 =>
            none)
        else none
    else
      some ((r1, ()), ())
  else
    some ((r1, ()), ())
theorem e_spec_SpoilSec (x : InD I_spec_SpoilSec) : execF ⟨E_spec_SpoilSec, 68, D_spec_SpoilSec_1⟩ Try.f61.results.toList B_spec_SpoilSec I_spec_SpoilSec U_spec_SpoilSec x = raw_spec_SpoilSec x.1 x.2.1 := by kernel_rfl
theorem ok0_spec_SpoilSec : ConOk Try.prog 61 ⟨I_spec_SpoilSec, U_spec_SpoilSec, fun x => raw_spec_SpoilSec x.1 x.2.1⟩ := conOk_exec (fr_spec_SpoilSec_1) Try.func61 (by kernel_rfl) (by kernel_rfl) Try.ntmps61.symm (by decide) (fun x r h => (e_spec_SpoilSec x).trans h)
noncomputable def n_spec_SpoilSec (a0 : dM) (a1 : Int) : dM := spoil a0 a1
theorem spoil_loop (n : Int) (m : dM) (p : List Int) (hp : ∀ x ∈ p, x < n) : ∀ (j : Nat) (q1 q2 : List Int) (x : Int) (fuel : Nat), q1.length = j → j < fuel → (∀ y ∈ q1, n < y) → p.length + q1.length ≤ 1000 →
    ∃ (x' : Int) (q' : List Int), q1 ++ q2 = q' ∧ loopN stx_spec_SpoilSec_126 fuel (mk_spec_SpoilSec_126 n ((p.length + q1.length : Nat) : Int) noMem (m.1, m.2.1, m.2.2.1, (p ++ q1) ++ x :: q2)) = some (.inl (mo_spec_SpoilSec_126 n (p.length : Nat) noMem (m.1, m.2.1, m.2.2.1, p ++ x' :: q')))
  | 0, q1, q2, x, fuel + 1, hj, hf, hq, hb => by
    have : q1 = [] := List.length_eq_zero_iff.1 hj
    subst this
    refine ⟨x, q2, rfl, ?_⟩
    simp only [loopN, stx_spec_SpoilSec_126, mk_spec_SpoilSec_126, st_spec_SpoilSec_126, List.length_nil, Nat.add_zero, List.append_nil]
    rcases List.eq_nil_or_concat p with rfl | ⟨P, y, rfl⟩
    · rfl
    · have hy := hp y (by simp)
      simp only [List.concat_eq_append, List.length_append, List.length_cons, List.length_nil, List.append_assoc, List.cons_append, List.nil_append] at hb ⊢
      rw [ltb_t (show (0 : Int) < ((P.length + (0 + 1) : Nat) : Int) by omega), wr (show -9223372036854775808 ≤ ((P.length + (0 + 1) : Nat) : Int) - 1 by omega) (by omega), show ((P.length + (0 + 1) : Nat) : Int) - 1 = (P.length : Nat) by omega,
        inb_nat (by simp), nth_nat, nth_app, ltb_f (show y ≤ n by omega)]
      rfl
  | j + 1, q1, q2, x, fuel + 1, hj, hf, hq, hb => by
    rcases List.eq_nil_or_concat q1 with rfl | ⟨Q, y, rfl⟩
    · cases hj
    · rw [List.concat_eq_append] at hj hq hb ⊢
      have hQ : Q.length = j := by simpa using hj
      have hy := hq y (by simp)
      obtain ⟨x', q', e1, e2⟩ := spoil_loop n m p hp j Q (y :: q2) y fuel hQ (by omega) (fun z hz => hq z (by simp [hz])) (by simp at hb; omega)
      refine ⟨x', q', by rw [← e1]; simp, ?_⟩
      rw [← e2]
      have ea : ((p ++ (Q ++ [y])) ++ x :: q2) = (p ++ Q) ++ y :: x :: q2 := by simp
      have el : p.length + (Q ++ [y]).length = (p ++ Q).length + 1 := by simp; omega
      have el2 : p.length + Q.length = (p ++ Q).length := by simp
      have hb2 : (p ++ Q).length ≤ 1000 := by simp at hb ⊢; omega
      rw [ea, el, el2]
      generalize p ++ Q = A at hb2
      rw [loopN]
      simp only [stx_spec_SpoilSec_126, mk_spec_SpoilSec_126, st_spec_SpoilSec_126]
      have es : (A ++ y :: x :: q2).set (A.length + 1) y = A ++ y :: y :: q2 := by
        have := set_app (A ++ [y]) x y q2
        simp at this ⊢
      rw [ltb_t (show (0 : Int) < ((A.length + 1 : Nat) : Int) by omega), wr (show -9223372036854775808 ≤ ((A.length + 1 : Nat) : Int) - 1 by omega) (by omega), show ((A.length + 1 : Nat) : Int) - 1 = (A.length : Nat) by omega, inb_nat (show A.length < (A ++ y :: x :: q2).length by simp), nth_nat, nth_app, ltb_t hy,
        inb_nat (show A.length + 1 < (A ++ y :: x :: q2).length by simp), Int.toNat_natCast, es]
      rfl
theorem nn_spec_SpoilSec (a0 : dM) (a1 : Int) (hk : InOk I_spec_SpoilSec (a0, a1, ())) : raw_spec_SpoilSec a0 a1 = (fun n => some ((n, ()), ())) (n_spec_SpoilSec a0 a1) := by
  unfold raw_spec_SpoilSec n_spec_SpoilSec spoil
  simp only [n_spec_l2Copy, n_spec_MemOk, in_eq, n_spec_l2Has]
  cases hm : memOk a0
  · rfl
  obtain ⟨h1, h2, h3, h4, h5, h6⟩ := memOk_parts hm
  rw [badOk_iff] at h3
  have hlen := asc_len h3.2 (lo := 0) (n := a0.1.length) h3.1 (by omega)
  rw [wr (show -9223372036854775808 ≤ (a0.1.length : Int) - 1 by omega) (by omega)]
  have hi : (leb 0 a1 && leb a1 ((a0.1.length : Int) - 1)) = inb a1 a0.1.length := by
    rw [Bool.eq_iff_iff, Bool.and_eq_true, leb_iff, leb_iff, inb_iff]; omega
  rw [hi]
  cases hin : inb a1 a0.1.length
  · rfl
  cases hh : a0.2.2.2.any (· == a1)
  · have hn : a1 ∉ a0.2.2.2 := fun h => by
      have := List.any_eq_false.1 hh a1 h
      simp at this
    have hsp := sorted_split h3.2 hn
    have hp : ∀ x ∈ a0.2.2.2.filter (fun x => ltb x a1), x < a1 := fun x hx => ltb_iff.1 (List.mem_filter.1 hx).2
    have hq : ∀ x ∈ a0.2.2.2.filter (fun x => ltb a1 x), a1 < x := fun x hx => ltb_iff.1 (List.mem_filter.1 hx).2
    unfold insBad
    generalize a0.2.2.2.filter (fun x => ltb x a1) = P at hsp hp
    generalize a0.2.2.2.filter (fun x => ltb a1 x) = Q at hsp hq
    have hPQ : P.length + Q.length = a0.2.2.2.length := by rw [hsp, List.length_append]
    obtain ⟨x', q', e1, e2⟩ := spoil_loop a1 a0 P hp Q.length Q [] a1 18446744073709551616 rfl (by omega) hq (by omega)
    rw [List.append_nil] at e1
    subst e1
    simp only [cond_true, cond_false, Bool.not_true, Bool.not_false, Bool.and_self]
    rw [apok_iff.2 (show (a0.2.2.2.length + [a1].length) * 8 ≤ 140737488355328 by simp only [List.length_cons, List.length_nil]; omega), wr (show -9223372036854775808 ≤ ((a0.2.2.2 ++ [a1]).length : Int) - 1 by omega) (by simp only [List.length_append, List.length_cons, List.length_nil]; omega),
      show ((a0.2.2.2 ++ [a1]).length : Int) - 1 = ((P.length + Q.length : Nat) : Int) by simp only [List.length_append, List.length_cons, List.length_nil]; omega, hsp, cond_true]
    refine (congrArg (fun z => segM z _ _) (show F_spec_SpoilSec_126 (ms_spec_SpoilSec_126 a1 ((P.length + Q.length : Nat) : Int) noMem (a0.1, a0.2.1, a0.2.2.1, (P ++ Q) ++ [a1])) = _ from e2)).trans ?_
    simp only [segM_inl]
    show (bif inb (P.length : Int) (P ++ x' :: Q).length then some (((a0.1, a0.2.1, a0.2.2.1, (P ++ x' :: Q).set (P.length : Int).toNat a1), ()), ()) else none) = _
    rw [inb_nat (by simp), Int.toNat_natCast, set_app]; rfl
  · rfl
noncomputable def con_spec_SpoilSec : Con := ⟨I_spec_SpoilSec, U_spec_SpoilSec, fun x => (fun n => some ((n, ()), ())) (n_spec_SpoilSec x.1 x.2.1)⟩
theorem ok_spec_SpoilSec : ConOk Try.prog 61 con_spec_SpoilSec := (ok0_spec_SpoilSec).mono (fun x r hk h => (nn_spec_SpoilSec x.1 x.2.1 hk).trans h)
end

/-! spec_DataAt -/
section
noncomputable def B_spec_DataAt : Code := (Try.f62.body).getD .skip
noncomputable def E_spec_DataAt : Env := envOf TT [(60, con_spec_l1In)] []
theorem fr_spec_DataAt_0 : FrOk Try.prog ⟨E_spec_DataAt, 9, fun _ => none⟩ B_spec_DataAt := frOk_base mixed tt_ok ⟨ok_spec_l1In, trivial⟩
noncomputable def D_spec_DataAt_0 : Nat → Option Seg := fun _ => none
abbrev I_spec_DataAt : List Par := [.rd tI]
abbrev U_spec_DataAt : List OT := [⟨false, tI, .fz⟩]
noncomputable def raw_spec_DataAt (a0 : Int) : Option (ResD U_spec_DataAt × MutD I_spec_DataAt) :=
  let r1 := n_spec_l1In a0 0 1099511627776
  bif (!r1) then
    some (((-1), ()), ())
  else
    some (((IntKind.i64.wrap ((IntKind.i64.wrap (a0 + 2)) + 4)), ()), ())
theorem e_spec_DataAt (x : InD I_spec_DataAt) : execF ⟨E_spec_DataAt, 9, D_spec_DataAt_0⟩ Try.f62.results.toList B_spec_DataAt I_spec_DataAt U_spec_DataAt x = raw_spec_DataAt x.1 := by kernel_rfl
theorem ok0_spec_DataAt : ConOk Try.prog 62 ⟨I_spec_DataAt, U_spec_DataAt, fun x => raw_spec_DataAt x.1⟩ := conOk_exec (fr_spec_DataAt_0) Try.func62 (by kernel_rfl) (by kernel_rfl) Try.ntmps62.symm (by decide) (fun x r h => (e_spec_DataAt x).trans h)
noncomputable def n_spec_DataAt (a0 : Int) : Int :=
  let r1 := n_spec_l1In a0 0 1099511627776
  bif (!r1) then
    (-1)
  else
    (IntKind.i64.wrap ((IntKind.i64.wrap (a0 + 2)) + 4))
noncomputable def con_spec_DataAt : Con := ⟨I_spec_DataAt, U_spec_DataAt, fun x => (fun n => some ((n, ()), ())) (n_spec_DataAt x.1)⟩
theorem nn_spec_DataAt (a0 : Int) : raw_spec_DataAt a0 = (fun n => some ((n, ()), ())) (n_spec_DataAt a0) := bif_ty (p := fun (n : Int) => ((n, ()), ())) (bif_some (p := fun (n : Int) => ((n, ()), ())) rfl rfl)
theorem ok_spec_DataAt : ConOk Try.prog 62 con_spec_DataAt := (ok0_spec_DataAt).mono (fun x r _ h => (nn_spec_DataAt x.1).trans h)
theorem spec_dataAt_eq (s : Int) : n_spec_DataAt s = dataAt s := by
  unfold n_spec_DataAt dataAt
  rw [in_eq]
  by_cases h : 0 ≤ s ∧ s ≤ 1099511627776
  · rw [leb_t h.1, leb_t h.2, wr (show -9223372036854775808 ≤ s + 2 by omega) (by omega), wr (by omega) (by omega)]
    show s + 2 + 4 = s + 6
    omega
  · cases h1 : (leb 0 s && leb s 1099511627776)
    · rfl
    · rw [Bool.and_eq_true, leb_iff, leb_iff] at h1; exact absurd h1 h
end
end Go.Tf
