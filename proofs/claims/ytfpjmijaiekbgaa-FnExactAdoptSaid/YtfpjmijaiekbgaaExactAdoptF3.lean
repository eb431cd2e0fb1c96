/- Functions of the program, and what they come to. -/
import Derived.Test.YtfpjmijaiekbgaaExactAdoptF2
namespace Go.Tf
open Go.Proofs
set_option synthInstance.maxHeartbeats 400000
set_option synthInstance.maxSize 10000
set_option linter.unusedVariables false
set_option linter.unusedSimpArgs false
set_option maxRecDepth 100000
/-! spec_l6Mems -/
section
noncomputable def B_spec_l6Mems : Code := (Try.f70.body).getD .skip
noncomputable def E_spec_l6Mems : Env := envOf TT [(72, con_spec_MemOk), (96, con_spec_l6Secs)] []
theorem fr_spec_l6Mems_0 : FrOk Try.prog ⟨E_spec_l6Mems, 51, fun _ => none⟩ B_spec_l6Mems := frOk_base mixed tt_ok ⟨ok_spec_MemOk, ok_spec_l6Secs, trivial⟩
noncomputable def D_spec_l6Mems_0 : Nat → Option Seg := fun _ => none
def L_spec_l6Mems_13 : Shape := ⟨[(1, false, [.ptr 0 0]), (3, false, [.int .i64])], [(0, [.int .i64, .int .i64, .int .i64, .br tM, .int .i64, .int .i64, .int .i64, .int .i64, .int .i64, .br tW, .int .i64, .bool, .bool])], []⟩
def S_spec_l6Mems_13 : Shape := ⟨[(1, false, [.ptr 0 0]), (3, false, [.ci .i64 0])], [(0, [.int .i64, .int .i64, .int .i64, .br tM, .int .i64, .int .i64, .int .i64, .int .i64, .int .i64, .br tW, .int .i64, .bool, .bool])], []⟩
def O_spec_l6Mems_13 : Shape := ⟨[(1, false, [.ptr 0 0])], [(0, [.int .i64, .int .i64, .int .i64, .br tM, .int .i64, .int .i64, .int .i64, .int .i64, .int .i64, .br tW, .int .i64, .bool, .bool])], []⟩
def Z_spec_l6Mems_13 : Shape := ⟨[(2, false, [.bool])], [], []⟩
abbrev mk_spec_l6Mems_13 (v0 : Int) (v1 : dA) : (L_spec_l6Mems_13).X := ((((), ()), (v0, ()), ()), ((v1.1, v1.2.1.1, v1.2.1.2, v1.2.2.1, v1.2.2.2.1, v1.2.2.2.2.1, v1.2.2.2.2.2.1, v1.2.2.2.2.2.2.1, v1.2.2.2.2.2.2.2.1, v1.2.2.2.2.2.2.2.2.1, v1.2.2.2.2.2.2.2.2.2.1, v1.2.2.2.2.2.2.2.2.2.2.1, v1.2.2.2.2.2.2.2.2.2.2.2, ()), ()), ())
abbrev ms_spec_l6Mems_13 (v0 : dA) : (S_spec_l6Mems_13).X := ((((), ()), ((), ()), ()), ((v0.1, v0.2.1.1, v0.2.1.2, v0.2.2.1, v0.2.2.2.1, v0.2.2.2.2.1, v0.2.2.2.2.2.1, v0.2.2.2.2.2.2.1, v0.2.2.2.2.2.2.2.1, v0.2.2.2.2.2.2.2.2.1, v0.2.2.2.2.2.2.2.2.2.1, v0.2.2.2.2.2.2.2.2.2.2.1, v0.2.2.2.2.2.2.2.2.2.2.2, ()), ()), ())
abbrev mo_spec_l6Mems_13 (v0 : dA) : (O_spec_l6Mems_13).X := ((((), ()), ()), ((v0.1, v0.2.1.1, v0.2.1.2, v0.2.2.1, v0.2.2.2.1, v0.2.2.2.2.1, v0.2.2.2.2.2.1, v0.2.2.2.2.2.2.1, v0.2.2.2.2.2.2.2.1, v0.2.2.2.2.2.2.2.2.1, v0.2.2.2.2.2.2.2.2.2.1, v0.2.2.2.2.2.2.2.2.2.2.1, v0.2.2.2.2.2.2.2.2.2.2.2, ()), ()), ())
abbrev mz_spec_l6Mems_13 (v0 : Bool) : (Z_spec_l6Mems_13).X := (((v0, ()), ()), (), ())
noncomputable def st_spec_l6Mems_13 (v0 : Int) (v1 : Int) (v2 : Int) (v3 : Int) (v4 : List dM) (v5 : Int) (v6 : Int) (v7 : Int) (v8 : Int) (v9 : Int) (v10 : List dW) (v11 : Int) (v12 : Bool) (v13 : Bool) : Option ((L_spec_l6Mems_13).X ⊕ ((O_spec_l6Mems_13).X ⊕ (Z_spec_l6Mems_13).X)) :=
  bif (ltb v0 (v4.length : Int)) then
    bif (inb v0 v4.length) then
      let r3 := n_spec_MemOk ((nth v4 v0 ([], [], false, [])).1, ((nth v4 v0 ([], [], false, [])).2).1, (((nth v4 v0 ([], [], false, [])).2).2))
      bif (!(!r3)) then
        let r4 := n_spec_l6Secs (v2, v3)
        bif (!((((nth v4 v0 ([], [], false, [])).1).length : Int) != r4)) then
          bif (((nth v4 v0 ([], [], false, [])).2).2).1 then
            bif (v0 != v5) then
              bif (!v13) then
                some (.inr (.inr (((false, ()), ()), (), ())))
              else
                some (.inl ((((), ()), ((IntKind.i64.wrap (v0 + 1)), ()), ()), ((v1, v2, v3, v4, v5, v6, v7, v8, v9, v10, v11, v12, v13, ()), ()), ()))
            else
              some (.inl ((((), ()), ((IntKind.i64.wrap (v0 + 1)), ()), ()), ((v1, v2, v3, v4, v5, v6, v7, v8, v9, v10, v11, v12, v13, ()), ()), ()))
          else
            some (.inl ((((), ()), ((IntKind.i64.wrap (v0 + 1)), ()), ()), ((v1, v2, v3, v4, v5, v6, v7, v8, v9, v10, v11, v12, v13, ()), ()), ()))
        else
          some (.inr (.inr (((false, ()), ()), (), ())))
      else
        some (.inr (.inr (((false, ()), ()), (), ())))
    else none
  else
    some (.inr (.inl ((((), ()), ()), ((v1, v2, v3, v4, v5, v6, v7, v8, v9, v10, v11, v12, v13, ()), ()), ())))
noncomputable def stx_spec_l6Mems_13 (x : (L_spec_l6Mems_13).X) := st_spec_l6Mems_13 x.1.2.1.1 x.2.1.1.1 x.2.1.1.2.1 x.2.1.1.2.2.1 x.2.1.1.2.2.2.1 x.2.1.1.2.2.2.2.1 x.2.1.1.2.2.2.2.2.1 x.2.1.1.2.2.2.2.2.2.1 x.2.1.1.2.2.2.2.2.2.2.1 x.2.1.1.2.2.2.2.2.2.2.2.1 x.2.1.1.2.2.2.2.2.2.2.2.2.1 x.2.1.1.2.2.2.2.2.2.2.2.2.2.1 x.2.1.1.2.2.2.2.2.2.2.2.2.2.2.1 x.2.1.1.2.2.2.2.2.2.2.2.2.2.2.2.1
def em_spec_l6Mems_13 (x : (S_spec_l6Mems_13).X) : (L_spec_l6Mems_13).X := ((((), ()), (0, ()), ()), ((x.2.1.1.1, x.2.1.1.2.1, x.2.1.1.2.2.1, x.2.1.1.2.2.2.1, x.2.1.1.2.2.2.2.1, x.2.1.1.2.2.2.2.2.1, x.2.1.1.2.2.2.2.2.2.1, x.2.1.1.2.2.2.2.2.2.2.1, x.2.1.1.2.2.2.2.2.2.2.2.1, x.2.1.1.2.2.2.2.2.2.2.2.2.1, x.2.1.1.2.2.2.2.2.2.2.2.2.2.1, x.2.1.1.2.2.2.2.2.2.2.2.2.2.2.1, x.2.1.1.2.2.2.2.2.2.2.2.2.2.2.2.1, ()), ()), ())
noncomputable def c_spec_l6Mems_13 : Code := (subN B_spec_l6Mems 64 52).getD .skip
theorem a_spec_l6Mems_13 : subN B_spec_l6Mems 64 13 = some (.block 0 (.loop c_spec_l6Mems_13)) := by kernel_rfl
theorem r_spec_l6Mems_13 (x : (L_spec_l6Mems_13).X) : roundT ⟨E_spec_l6Mems, 51, D_spec_l6Mems_0⟩ 0 c_spec_l6Mems_13 52 L_spec_l6Mems_13 O_spec_l6Mems_13 Z_spec_l6Mems_13 x = stx_spec_l6Mems_13 x := by kernel_rfl
noncomputable def fu_spec_l6Mems_13 (x : (S_spec_l6Mems_13).X) : Nat := (fun (u0 : Int) (u1 : Int) (u2 : Int) (u3 : List dM) (u4 : Int) (u5 : Int) (u6 : Int) (u7 : Int) (u8 : Int) (u9 : List dW) (u10 : Int) (u11 : Bool) (u12 : Bool) => 18446744073709551616) x.2.1.1.1 x.2.1.1.2.1 x.2.1.1.2.2.1 x.2.1.1.2.2.2.1 x.2.1.1.2.2.2.2.1 x.2.1.1.2.2.2.2.2.1 x.2.1.1.2.2.2.2.2.2.1 x.2.1.1.2.2.2.2.2.2.2.1 x.2.1.1.2.2.2.2.2.2.2.2.1 x.2.1.1.2.2.2.2.2.2.2.2.2.1 x.2.1.1.2.2.2.2.2.2.2.2.2.2.1 x.2.1.1.2.2.2.2.2.2.2.2.2.2.2.1 x.2.1.1.2.2.2.2.2.2.2.2.2.2.2.2.1
noncomputable def F_spec_l6Mems_13 (x : (S_spec_l6Mems_13).X) : Option ((O_spec_l6Mems_13).X ⊕ (Z_spec_l6Mems_13).X) := loopN stx_spec_l6Mems_13 (fu_spec_l6Mems_13 x) (em_spec_l6Mems_13 x)
noncomputable def sg_spec_l6Mems_13 : Seg := ⟨S_spec_l6Mems_13, O_spec_l6Mems_13, Z_spec_l6Mems_13, F_spec_l6Mems_13⟩
noncomputable def D_spec_l6Mems_1 : Nat → Option Seg := fun q => bif Nat.beq q 13 then some sg_spec_l6Mems_13 else D_spec_l6Mems_0 q
theorem fr_spec_l6Mems_1 : FrOk Try.prog ⟨E_spec_l6Mems, 51, D_spec_l6Mems_1⟩ B_spec_l6Mems := (fr_spec_l6Mems_0).loop (sg := sg_spec_l6Mems_13) L_spec_l6Mems_13 em_spec_l6Mems_13 (by decide) a_spec_l6Mems_13 stx_spec_l6Mems_13 fu_spec_l6Mems_13 (by decide) (fun _ => rfl) (fun x r _ h => h) r_spec_l6Mems_13
abbrev I_spec_l6Mems : List Par := [.rd tA]
abbrev U_spec_l6Mems : List OT := [⟨false, tB, .fz⟩]
noncomputable def raw_spec_l6Mems (a0 : dA) : Option (ResD U_spec_l6Mems × MutD I_spec_l6Mems) :=
  segM (F_spec_l6Mems_13 ((((), ()), ((), ()), ()), ((a0.1, a0.2.1.1, a0.2.1.2, a0.2.2.1, a0.2.2.2.1, a0.2.2.2.2.1, a0.2.2.2.2.2.1, a0.2.2.2.2.2.2.1, a0.2.2.2.2.2.2.2.1, a0.2.2.2.2.2.2.2.2.1, a0.2.2.2.2.2.2.2.2.2.1, a0.2.2.2.2.2.2.2.2.2.2.1, a0.2.2.2.2.2.2.2.2.2.2.2, ()), ()), ())) (fun y4 =>
    some ((((y4.2.1.1.2.2.2.1.length : Int) == y4.2.1.1.2.1), ()), ())) (fun y4 =>
    some ((y4.1.1.1, ()), ()))
theorem e_spec_l6Mems (x : InD I_spec_l6Mems) : execF ⟨E_spec_l6Mems, 51, D_spec_l6Mems_1⟩ Try.f70.results.toList B_spec_l6Mems I_spec_l6Mems U_spec_l6Mems x = raw_spec_l6Mems x.1 := by kernel_rfl
theorem ok0_spec_l6Mems : ConOk Try.prog 70 ⟨I_spec_l6Mems, U_spec_l6Mems, fun x => raw_spec_l6Mems x.1⟩ := conOk_exec (fr_spec_l6Mems_1) Try.func70 (by kernel_rfl) (by kernel_rfl) Try.ntmps70.symm (by decide) (fun x r h => (e_spec_l6Mems x).trans h)
noncomputable def n_spec_l6Mems (a0 : dA) : Bool := memsOk a0
noncomputable def q_spec_l6Mems (a0 : dA) : Bool := n_spec_GeoOk a0.2.1
theorem nn_spec_l6Mems (a0 : dA) (hk : InOk I_spec_l6Mems (a0, ())) (hq : q_spec_l6Mems a0 = true) : raw_spec_l6Mems a0 = (fun n => some ((n, ()), ())) (n_spec_l6Mems a0) := by
  have hb : a0.2.2.1.length * 80 ≤ 2 ^ 47 := hk.1.2.2.1.1
  have hg := geo_iff.1 hq
  have h1 : F_spec_l6Mems_13 (ms_spec_l6Mems_13 a0) = some (bif (List.range a0.2.2.1.length).any (memBad a0) then .inr (mz_spec_l6Mems_13 false) else .inl (mo_spec_l6Mems_13 a0)) :=
    loopN_all (step := stx_spec_l6Mems_13) (fun i => mk_spec_l6Mems_13 i a0) a0.2.2.1.length (memBad a0) _ _ (fun i hi => by
      simp only [stx_spec_l6Mems_13, mk_spec_l6Mems_13, st_spec_l6Mems_13, ltb_t (show (i : Int) < a0.2.2.1.length by omega), cond_true, wr (show -9223372036854775808 ≤ (i : Int) + 1 by omega) (by omega), Int.natCast_add, Int.natCast_one, Int.toNat_natCast, inb_nat hi, pr_eta, n_spec_MemOk, memBad, n_spec_l6Secs, wr (show -9223372036854775808 ≤ 6 + a0.2.1.2 by omega) (by omega), noMem]
      cases memOk (nth a0.2.2.1 i ([], [], false, [])) <;> cases (((nth a0.2.2.1 i ([], [], false, [])).1.length : Int) != 6 + a0.2.1.2) <;> cases (nth a0.2.2.1 i ([], [], false, [])).2.2.1 <;> cases ((i : Int) != a0.2.2.2.1) <;> cases a0.2.2.2.2.2.2.2.2.2.2.2 <;> rfl) (by simp only [stx_spec_l6Mems_13, mk_spec_l6Mems_13, st_spec_l6Mems_13, ltb_f (Int.le_refl _), cond_false]) _ (by show _ < 18446744073709551616; omega)
  unfold raw_spec_l6Mems n_spec_l6Mems memsOk
  rw [h1]
  cases (List.range a0.2.2.1.length).any (memBad a0) <;> rfl
noncomputable def o_spec_l6Mems (a0 : dA) : Option (ResD U_spec_l6Mems × MutD I_spec_l6Mems) := bif q_spec_l6Mems a0 then (fun n => some ((n, ()), ())) (n_spec_l6Mems a0) else none
theorem ot_spec_l6Mems (a0 : dA) (h : q_spec_l6Mems a0 = true) : o_spec_l6Mems a0 = (fun n => some ((n, ()), ())) (n_spec_l6Mems a0) := by unfold o_spec_l6Mems; rw [h]; rfl
noncomputable def con_spec_l6Mems : Con := ⟨I_spec_l6Mems, U_spec_l6Mems, fun x => o_spec_l6Mems x.1⟩
theorem ok_spec_l6Mems : ConOk Try.prog 70 con_spec_l6Mems := (ok0_spec_l6Mems).mono (fun x r hk h => pre_ok h (fun hq => nn_spec_l6Mems x.1 hk hq))
end

/-! spec_l6Dirty -/
section
noncomputable def B_spec_l6Dirty : Code := (Try.f71.body).getD .skip
noncomputable def E_spec_l6Dirty : Env := envOf TT [(35, con_spec_l1In), (97, con_spec_l1Words)] []
theorem fr_spec_l6Dirty_0 : FrOk Try.prog ⟨E_spec_l6Dirty, 57, fun _ => none⟩ B_spec_l6Dirty := frOk_base mixed tt_ok ⟨ok_spec_l1In, ok_spec_l1Words, trivial⟩
noncomputable def D_spec_l6Dirty_0 : Nat → Option Seg := fun _ => none
def L_spec_l6Dirty_13 : Shape := ⟨[(1, false, [.ptr 0 0]), (3, false, [.int .i64])], [(0, [.int .i64, .int .i64, .int .i64, .br tM, .int .i64, .int .i64, .int .i64, .int .i64, .int .i64, .br tW, .int .i64, .bool, .bool])], []⟩
def S_spec_l6Dirty_13 : Shape := ⟨[(1, false, [.ptr 0 0]), (3, false, [.ci .i64 0])], [(0, [.int .i64, .int .i64, .int .i64, .br tM, .int .i64, .int .i64, .int .i64, .int .i64, .int .i64, .br tW, .int .i64, .bool, .bool])], []⟩
def O_spec_l6Dirty_13 : Shape := ⟨[], [], []⟩
def Z_spec_l6Dirty_13 : Shape := ⟨[(2, false, [.bool])], [], []⟩
abbrev mk_spec_l6Dirty_13 (v0 : Int) (v1 : dA) : (L_spec_l6Dirty_13).X := ((((), ()), (v0, ()), ()), ((v1.1, v1.2.1.1, v1.2.1.2, v1.2.2.1, v1.2.2.2.1, v1.2.2.2.2.1, v1.2.2.2.2.2.1, v1.2.2.2.2.2.2.1, v1.2.2.2.2.2.2.2.1, v1.2.2.2.2.2.2.2.2.1, v1.2.2.2.2.2.2.2.2.2.1, v1.2.2.2.2.2.2.2.2.2.2.1, v1.2.2.2.2.2.2.2.2.2.2.2, ()), ()), ())
abbrev ms_spec_l6Dirty_13 (v0 : dA) : (S_spec_l6Dirty_13).X := ((((), ()), ((), ()), ()), ((v0.1, v0.2.1.1, v0.2.1.2, v0.2.2.1, v0.2.2.2.1, v0.2.2.2.2.1, v0.2.2.2.2.2.1, v0.2.2.2.2.2.2.1, v0.2.2.2.2.2.2.2.1, v0.2.2.2.2.2.2.2.2.1, v0.2.2.2.2.2.2.2.2.2.1, v0.2.2.2.2.2.2.2.2.2.2.1, v0.2.2.2.2.2.2.2.2.2.2.2, ()), ()), ())
abbrev mo_spec_l6Dirty_13  : (O_spec_l6Dirty_13).X := ((), (), ())
abbrev mz_spec_l6Dirty_13 (v0 : Bool) : (Z_spec_l6Dirty_13).X := (((v0, ()), ()), (), ())
noncomputable def st_spec_l6Dirty_13 (v0 : Int) (v1 : Int) (v2 : Int) (v3 : Int) (v4 : List dM) (v5 : Int) (v6 : Int) (v7 : Int) (v8 : Int) (v9 : Int) (v10 : List dW) (v11 : Int) (v12 : Bool) (v13 : Bool) : Option ((L_spec_l6Dirty_13).X ⊕ ((O_spec_l6Dirty_13).X ⊕ (Z_spec_l6Dirty_13).X)) :=
  bif (ltb v0 (v10.length : Int)) then
    bif (inb v0 v10.length) then
      let r3 := n_spec_l1In ((nth v10 v0 (0, [])).1) 0 (IntKind.i64.wrap (v3 - 1))
      bif (!(!r3)) then
        bif (!((((nth v10 v0 (0, [])).2).length : Int) != (IntKind.i64.wrap (v2 - 1)))) then
          let r4 := n_spec_l1Words ((nth v10 v0 (0, [])).2)
          bif (!(!r4)) then
            bif (ltb 0 v0) then
              bif (inb (IntKind.i64.wrap (v0 - 1)) v10.length) then
                bif (leb ((nth v10 v0 (0, [])).1) ((nth v10 (IntKind.i64.wrap (v0 - 1)) (0, [])).1)) then
                  some (.inr (.inr (((false, ()), ()), (), ())))
                else
                  some (.inl ((((), ()), ((IntKind.i64.wrap (v0 + 1)), ()), ()), ((v1, v2, v3, v4, v5, v6, v7, v8, v9, v10, v11, v12, v13, ()), ()), ()))
              else none
            else
              some (.inl ((((), ()), ((IntKind.i64.wrap (v0 + 1)), ()), ()), ((v1, v2, v3, v4, v5, v6, v7, v8, v9, v10, v11, v12, v13, ()), ()), ()))
          else
            some (.inr (.inr (((false, ()), ()), (), ())))
        else
          some (.inr (.inr (((false, ()), ()), (), ())))
      else
        some (.inr (.inr (((false, ()), ()), (), ())))
    else none
  else
    some (.inr (.inl ((), (), ())))
noncomputable def stx_spec_l6Dirty_13 (x : (L_spec_l6Dirty_13).X) := st_spec_l6Dirty_13 x.1.2.1.1 x.2.1.1.1 x.2.1.1.2.1 x.2.1.1.2.2.1 x.2.1.1.2.2.2.1 x.2.1.1.2.2.2.2.1 x.2.1.1.2.2.2.2.2.1 x.2.1.1.2.2.2.2.2.2.1 x.2.1.1.2.2.2.2.2.2.2.1 x.2.1.1.2.2.2.2.2.2.2.2.1 x.2.1.1.2.2.2.2.2.2.2.2.2.1 x.2.1.1.2.2.2.2.2.2.2.2.2.2.1 x.2.1.1.2.2.2.2.2.2.2.2.2.2.2.1 x.2.1.1.2.2.2.2.2.2.2.2.2.2.2.2.1
def em_spec_l6Dirty_13 (x : (S_spec_l6Dirty_13).X) : (L_spec_l6Dirty_13).X := ((((), ()), (0, ()), ()), ((x.2.1.1.1, x.2.1.1.2.1, x.2.1.1.2.2.1, x.2.1.1.2.2.2.1, x.2.1.1.2.2.2.2.1, x.2.1.1.2.2.2.2.2.1, x.2.1.1.2.2.2.2.2.2.1, x.2.1.1.2.2.2.2.2.2.2.1, x.2.1.1.2.2.2.2.2.2.2.2.1, x.2.1.1.2.2.2.2.2.2.2.2.2.1, x.2.1.1.2.2.2.2.2.2.2.2.2.2.1, x.2.1.1.2.2.2.2.2.2.2.2.2.2.2.1, x.2.1.1.2.2.2.2.2.2.2.2.2.2.2.2.1, ()), ()), ())
noncomputable def c_spec_l6Dirty_13 : Code := (subN B_spec_l6Dirty 64 52).getD .skip
theorem a_spec_l6Dirty_13 : subN B_spec_l6Dirty 64 13 = some (.block 0 (.loop c_spec_l6Dirty_13)) := by kernel_rfl
theorem r_spec_l6Dirty_13 (x : (L_spec_l6Dirty_13).X) : roundT ⟨E_spec_l6Dirty, 57, D_spec_l6Dirty_0⟩ 0 c_spec_l6Dirty_13 52 L_spec_l6Dirty_13 O_spec_l6Dirty_13 Z_spec_l6Dirty_13 x = stx_spec_l6Dirty_13 x := by kernel_rfl
noncomputable def fu_spec_l6Dirty_13 (x : (S_spec_l6Dirty_13).X) : Nat := (fun (u0 : Int) (u1 : Int) (u2 : Int) (u3 : List dM) (u4 : Int) (u5 : Int) (u6 : Int) (u7 : Int) (u8 : Int) (u9 : List dW) (u10 : Int) (u11 : Bool) (u12 : Bool) => 18446744073709551616) x.2.1.1.1 x.2.1.1.2.1 x.2.1.1.2.2.1 x.2.1.1.2.2.2.1 x.2.1.1.2.2.2.2.1 x.2.1.1.2.2.2.2.2.1 x.2.1.1.2.2.2.2.2.2.1 x.2.1.1.2.2.2.2.2.2.2.1 x.2.1.1.2.2.2.2.2.2.2.2.1 x.2.1.1.2.2.2.2.2.2.2.2.2.1 x.2.1.1.2.2.2.2.2.2.2.2.2.2.1 x.2.1.1.2.2.2.2.2.2.2.2.2.2.2.1 x.2.1.1.2.2.2.2.2.2.2.2.2.2.2.2.1
noncomputable def F_spec_l6Dirty_13 (x : (S_spec_l6Dirty_13).X) : Option ((O_spec_l6Dirty_13).X ⊕ (Z_spec_l6Dirty_13).X) := loopN stx_spec_l6Dirty_13 (fu_spec_l6Dirty_13 x) (em_spec_l6Dirty_13 x)
noncomputable def sg_spec_l6Dirty_13 : Seg := ⟨S_spec_l6Dirty_13, O_spec_l6Dirty_13, Z_spec_l6Dirty_13, F_spec_l6Dirty_13⟩
noncomputable def D_spec_l6Dirty_1 : Nat → Option Seg := fun q => bif Nat.beq q 13 then some sg_spec_l6Dirty_13 else D_spec_l6Dirty_0 q
theorem fr_spec_l6Dirty_1 : FrOk Try.prog ⟨E_spec_l6Dirty, 57, D_spec_l6Dirty_1⟩ B_spec_l6Dirty := (fr_spec_l6Dirty_0).loop (sg := sg_spec_l6Dirty_13) L_spec_l6Dirty_13 em_spec_l6Dirty_13 (by decide) a_spec_l6Dirty_13 stx_spec_l6Dirty_13 fu_spec_l6Dirty_13 (by decide) (fun _ => rfl) (fun x r _ h => h) r_spec_l6Dirty_13
abbrev I_spec_l6Dirty : List Par := [.rd tA]
abbrev U_spec_l6Dirty : List OT := [⟨false, tB, .fz⟩]
noncomputable def raw_spec_l6Dirty (a0 : dA) : Option (ResD U_spec_l6Dirty × MutD I_spec_l6Dirty) :=
  segM (F_spec_l6Dirty_13 ((((), ()), ((), ()), ()), ((a0.1, a0.2.1.1, a0.2.1.2, a0.2.2.1, a0.2.2.2.1, a0.2.2.2.2.1, a0.2.2.2.2.2.1, a0.2.2.2.2.2.2.1, a0.2.2.2.2.2.2.2.1, a0.2.2.2.2.2.2.2.2.1, a0.2.2.2.2.2.2.2.2.2.1, a0.2.2.2.2.2.2.2.2.2.2.1, a0.2.2.2.2.2.2.2.2.2.2.2, ()), ()), ())) (fun y4 =>
    some ((true, ()), ())) (fun y4 =>
    some ((y4.1.1.1, ()), ()))
theorem e_spec_l6Dirty (x : InD I_spec_l6Dirty) : execF ⟨E_spec_l6Dirty, 57, D_spec_l6Dirty_1⟩ Try.f71.results.toList B_spec_l6Dirty I_spec_l6Dirty U_spec_l6Dirty x = raw_spec_l6Dirty x.1 := by kernel_rfl
theorem ok0_spec_l6Dirty : ConOk Try.prog 71 ⟨I_spec_l6Dirty, U_spec_l6Dirty, fun x => raw_spec_l6Dirty x.1⟩ := conOk_exec (fr_spec_l6Dirty_1) Try.func71 (by kernel_rfl) (by kernel_rfl) Try.ntmps71.symm (by decide) (fun x r h => (e_spec_l6Dirty x).trans h)
noncomputable def n_spec_l6Dirty (a0 : dA) : Bool := dirtyOk a0.2.1 a0.2.2.2.2.2.2.2.2.1
noncomputable def q_spec_l6Dirty (a0 : dA) : Bool := n_spec_GeoOk a0.2.1
theorem spec_words_eq (l : List Int) : n_spec_l1Words l = l.all isW := by
  unfold n_spec_l1Words
  rw [show n_spec_l1Word = isW from funext fun x => by unfold n_spec_l1Word; rw [in_eq]; rfl]
theorem nn_spec_l6Dirty (a0 : dA) (hk : InOk I_spec_l6Dirty (a0, ())) (hq : q_spec_l6Dirty a0 = true) : raw_spec_l6Dirty a0 = (fun n => some ((n, ()), ())) (n_spec_l6Dirty a0) := by
  have hb : a0.2.2.2.2.2.2.2.2.1.length * 32 ≤ 2 ^ 47 := hk.1.2.2.2.2.2.2.2.2.1.1
  have hg := geo_iff.1 hq
  have h1 : F_spec_l6Dirty_13 (ms_spec_l6Dirty_13 a0) = some (bif (List.range a0.2.2.2.2.2.2.2.2.1.length).any (dirtBad a0.2.1 a0.2.2.2.2.2.2.2.2.1) then .inr (mz_spec_l6Dirty_13 false) else .inl mo_spec_l6Dirty_13) :=
    loopN_all (step := stx_spec_l6Dirty_13) (fun i => mk_spec_l6Dirty_13 i a0) a0.2.2.2.2.2.2.2.2.1.length (dirtBad a0.2.1 a0.2.2.2.2.2.2.2.2.1) _ _ (fun i hi => by
      simp only [stx_spec_l6Dirty_13, mk_spec_l6Dirty_13, st_spec_l6Dirty_13, ltb_t (show (i : Int) < a0.2.2.2.2.2.2.2.2.1.length by omega), cond_true, wr (show -9223372036854775808 ≤ (i : Int) + 1 by omega) (by omega), Int.natCast_add, Int.natCast_one, Int.toNat_natCast, inb_nat hi, in_eq, spec_words_eq, wr (show -9223372036854775808 ≤ a0.2.1.2 - 1 by omega) (by omega), wr (show -9223372036854775808 ≤ a0.2.1.1 - 1 by omega) (by omega), dirtBad]
      rcases Nat.eq_zero_or_pos i with rfl | h0
      · cases (leb 0 (nth a0.2.2.2.2.2.2.2.2.1 ((0 : Nat) : Int) (0, [])).1 && leb (nth a0.2.2.2.2.2.2.2.2.1 ((0 : Nat) : Int) (0, [])).1 (a0.2.1.2 - 1)) <;> cases (((nth a0.2.2.2.2.2.2.2.2.1 ((0 : Nat) : Int) (0, [])).2.length : Int) != a0.2.1.1 - 1) <;> cases ((nth a0.2.2.2.2.2.2.2.2.1 ((0 : Nat) : Int) (0, [])).2.all isW) <;> rfl
      · rw [show IntKind.i64.wrap ((i : Int) - 1) = ((i - 1 : Nat) : Int) by rw [wr (by omega) (by omega)]; omega, inb_nat (show i - 1 < a0.2.2.2.2.2.2.2.2.1.length by omega), ltb_t (show (0 : Int) < i by omega), decide_eq_true h0]
        cases (leb 0 (nth a0.2.2.2.2.2.2.2.2.1 (i : Int) (0, [])).1 && leb (nth a0.2.2.2.2.2.2.2.2.1 (i : Int) (0, [])).1 (a0.2.1.2 - 1)) <;> cases (((nth a0.2.2.2.2.2.2.2.2.1 (i : Int) (0, [])).2.length : Int) != a0.2.1.1 - 1) <;> cases ((nth a0.2.2.2.2.2.2.2.2.1 (i : Int) (0, [])).2.all isW) <;> cases leb (nth a0.2.2.2.2.2.2.2.2.1 (i : Int) (0, [])).1 (nth a0.2.2.2.2.2.2.2.2.1 ((i - 1 : Nat) : Int) (0, [])).1 <;> rfl) (by simp only [stx_spec_l6Dirty_13, mk_spec_l6Dirty_13, st_spec_l6Dirty_13, ltb_f (Int.le_refl _), cond_false]) _ (by show _ < 18446744073709551616; omega)
  unfold raw_spec_l6Dirty n_spec_l6Dirty dirtyOk
  rw [h1]
  cases (List.range a0.2.2.2.2.2.2.2.2.1.length).any (dirtBad a0.2.1 a0.2.2.2.2.2.2.2.2.1) <;> rfl
noncomputable def o_spec_l6Dirty (a0 : dA) : Option (ResD U_spec_l6Dirty × MutD I_spec_l6Dirty) := bif q_spec_l6Dirty a0 then (fun n => some ((n, ()), ())) (n_spec_l6Dirty a0) else none
theorem ot_spec_l6Dirty (a0 : dA) (h : q_spec_l6Dirty a0 = true) : o_spec_l6Dirty a0 = (fun n => some ((n, ()), ())) (n_spec_l6Dirty a0) := by unfold o_spec_l6Dirty; rw [h]; rfl
noncomputable def con_spec_l6Dirty : Con := ⟨I_spec_l6Dirty, U_spec_l6Dirty, fun x => o_spec_l6Dirty x.1⟩
theorem ok_spec_l6Dirty : ConOk Try.prog 71 con_spec_l6Dirty := (ok0_spec_l6Dirty).mono (fun x r hk h => pre_ok h (fun hq => nn_spec_l6Dirty x.1 hk hq))
end

/-! spec_ArrOk -/
section
noncomputable def B_spec_ArrOk : Code := (Try.f34.body).getD .skip
noncomputable def E_spec_ArrOk : Env := envOf TT [(35, con_spec_l1In), (69, con_spec_GeoOk), (70, con_spec_l6Mems), (71, con_spec_l6Dirty)] []
theorem fr_spec_ArrOk_0 : FrOk Try.prog ⟨E_spec_ArrOk, 78, fun _ => none⟩ B_spec_ArrOk := frOk_base mixed tt_ok ⟨ok_spec_l1In, ok_spec_GeoOk, ok_spec_l6Mems, ok_spec_l6Dirty, trivial⟩
noncomputable def D_spec_ArrOk_0 : Nat → Option Seg := fun _ => none
abbrev I_spec_ArrOk : List Par := [.rd tA]
abbrev U_spec_ArrOk : List OT := [⟨false, tB, .fz⟩]
noncomputable def raw_spec_ArrOk (a0 : dA) : Option (ResD U_spec_ArrOk × MutD I_spec_ArrOk) :=
  let r1 := n_spec_GeoOk a0.2.1
  bif (!(!r1)) then
    let r2 := n_spec_l1In a0.1 1 60000
    bif (!(!r2)) then
      bnd (o_spec_l6Mems a0) fun r3 =>
      bif (!(!r3.1.1)) then
        bnd (o_spec_l6Dirty a0) fun r4 =>
        bif (!r4.1.1) then
          some ((false, ()), ())
        else
          let r5 := n_spec_l1In a0.2.2.2.1 (-1) (IntKind.i64.wrap (a0.2.1.1 - 1))
          bif (!(!r5)) then
            let r6 := n_spec_l1In a0.2.2.2.2.1 0 a0.2.1.2
            bif (!(!r6)) then
              bif (a0.2.2.2.1 == (-1)) then
                bif (a0.2.2.2.2.1 != 0) then
                  some ((false, ()), ())
                else
                  let r7 := n_spec_l1In a0.2.2.2.2.2.2.1 0 60000
                  bif r7 then
                    let r8 := n_spec_l1In a0.2.2.2.2.2.1 a0.2.2.2.2.2.2.1 60000
                    bif r8 then
                      bif (leb a0.2.2.2.2.2.1 (IntKind.i64.wrap (a0.2.2.2.2.2.2.1 + 4))) then
                        let r9 := n_spec_l1In a0.2.2.2.2.2.2.2.1 0 60000
                        bif r9 then
                          let r10 := n_spec_l1In a0.2.2.2.2.2.2.2.2.2.1 (-1) 1000
                          some ((r10, ()), ())
                        else
                          some ((false, ()), ())
                      else
                        some ((false, ()), ())
                    else
                      some ((false, ()), ())
                  else
                    some ((false, ()), ())
              else
                let r11 := n_spec_l1In a0.2.2.2.2.2.2.1 0 60000
                bif r11 then
                  let r12 := n_spec_l1In a0.2.2.2.2.2.1 a0.2.2.2.2.2.2.1 60000
                  bif r12 then
                    bif (leb a0.2.2.2.2.2.1 (IntKind.i64.wrap (a0.2.2.2.2.2.2.1 + 4))) then
                      let r13 := n_spec_l1In a0.2.2.2.2.2.2.2.1 0 60000
                      bif r13 then
                        let r14 := n_spec_l1In a0.2.2.2.2.2.2.2.2.2.1 (-1) 1000
                        some ((r14, ()), ())
                      else
                        some ((false, ()), ())
                    else
                      some ((false, ()), ())
                  else
                    some ((false, ()), ())
                else
                  some ((false, ()), ())
            else
              some ((false, ()), ())
          else
            some ((false, ()), ())
      else
        some ((false, ()), ())
    else
      some ((false, ()), ())
  else
    some ((false, ()), ())
theorem e_spec_ArrOk (x : InD I_spec_ArrOk) : execF ⟨E_spec_ArrOk, 78, D_spec_ArrOk_0⟩ Try.f34.results.toList B_spec_ArrOk I_spec_ArrOk U_spec_ArrOk x = raw_spec_ArrOk x.1 := by kernel_rfl
theorem ok0_spec_ArrOk : ConOk Try.prog 34 ⟨I_spec_ArrOk, U_spec_ArrOk, fun x => raw_spec_ArrOk x.1⟩ := conOk_exec (fr_spec_ArrOk_0) Try.func34 (by kernel_rfl) (by kernel_rfl) Try.ntmps34.symm (by decide) (fun x r h => (e_spec_ArrOk x).trans h)
noncomputable def n_spec_ArrOk (a0 : dA) : Bool := arrOk a0
theorem nn_spec_ArrOk (a0 : dA) (hk : InOk I_spec_ArrOk (a0, ())) : raw_spec_ArrOk a0 = (fun n => some ((n, ()), ())) (n_spec_ArrOk a0) := by
  unfold raw_spec_ArrOk n_spec_ArrOk arrOk
  simp only [in_eq]
  cases hg : n_spec_GeoOk a0.2.1
  · rfl
  have hg2 := geo_iff.1 hg
  rw [ot_spec_l6Mems a0 hg, ot_spec_l6Dirty a0 hg, wr (show -9223372036854775808 ≤ a0.2.1.1 - 1 by omega) (by omega)]
  simp only [bnd_some, n_spec_l6Mems, n_spec_l6Dirty, Bool.not_not, cond_true]
  cases (leb 1 a0.1 && leb a0.1 60000)
  · rfl
  cases memsOk a0
  · rfl
  cases dirtyOk a0.2.1 a0.2.2.2.2.2.2.2.2.1
  · rfl
  cases (leb (-1) a0.2.2.2.1 && leb a0.2.2.2.1 (a0.2.1.1 - 1))
  · rfl
  cases (leb 0 a0.2.2.2.2.1 && leb a0.2.2.2.2.1 a0.2.1.2)
  · rfl
  have ht : (leb 0 a0.2.2.2.2.2.2.1 && leb a0.2.2.2.2.2.2.1 60000) = true → IntKind.i64.wrap (a0.2.2.2.2.2.2.1 + 4) = a0.2.2.2.2.2.2.1 + 4 := fun h => by
    rw [Bool.and_eq_true, leb_iff, leb_iff] at h
    exact wr (by omega) (by omega)
  cases hT : (leb 0 a0.2.2.2.2.2.2.1 && leb a0.2.2.2.2.2.2.1 60000)
  · cases (a0.2.2.2.1 == -1) <;> cases (a0.2.2.2.2.1 != 0) <;> rfl
  rw [ht hT]
  cases (leb a0.2.2.2.2.2.2.1 a0.2.2.2.2.2.1 && leb a0.2.2.2.2.2.1 60000)
  · cases (a0.2.2.2.1 == -1) <;> cases (a0.2.2.2.2.1 != 0) <;> rfl
  cases leb a0.2.2.2.2.2.1 (a0.2.2.2.2.2.2.1 + 4)
  · cases (a0.2.2.2.1 == -1) <;> cases (a0.2.2.2.2.1 != 0) <;> rfl
  cases (leb 0 a0.2.2.2.2.2.2.2.1 && leb a0.2.2.2.2.2.2.2.1 60000) <;> cases (a0.2.2.2.1 == -1) <;> cases (a0.2.2.2.2.1 != 0) <;> rfl
noncomputable def con_spec_ArrOk : Con := ⟨I_spec_ArrOk, U_spec_ArrOk, fun x => (fun n => some ((n, ()), ())) (n_spec_ArrOk x.1)⟩
theorem ok_spec_ArrOk : ConOk Try.prog 34 con_spec_ArrOk := (ok0_spec_ArrOk).mono (fun x r hk h => (nn_spec_ArrOk x.1 hk).trans h)
end

/-! spec_l8May -/
section
noncomputable def B_spec_l8May : Code := (Try.f17.body).getD .skip
noncomputable def E_spec_l8May : Env := envOf TT [(34, con_spec_ArrOk)] []
theorem fr_spec_l8May_0 : FrOk Try.prog ⟨E_spec_l8May, 8, fun _ => none⟩ B_spec_l8May := frOk_base mixed tt_ok ⟨ok_spec_ArrOk, trivial⟩
noncomputable def D_spec_l8May_0 : Nat → Option Seg := fun _ => none
abbrev I_spec_l8May : List Par := [.rd tA]
abbrev U_spec_l8May : List OT := [⟨false, tI, .fz⟩]
noncomputable def raw_spec_l8May (a0 : dA) : Option (ResD U_spec_l8May × MutD I_spec_l8May) :=
  let r1 := n_spec_ArrOk a0
  bif (!r1) then
    some ((1, ()), ())
  else
    bif a0.2.2.2.2.2.2.2.2.2.2.1 then
      some ((6, ()), ())
    else
      some ((0, ()), ())
theorem e_spec_l8May (x : InD I_spec_l8May) : execF ⟨E_spec_l8May, 8, D_spec_l8May_0⟩ Try.f17.results.toList B_spec_l8May I_spec_l8May U_spec_l8May x = raw_spec_l8May x.1 := by kernel_rfl
theorem ok0_spec_l8May : ConOk Try.prog 17 ⟨I_spec_l8May, U_spec_l8May, fun x => raw_spec_l8May x.1⟩ := conOk_exec (fr_spec_l8May_0) Try.func17 (by kernel_rfl) (by kernel_rfl) Try.ntmps17.symm (by decide) (fun x r h => (e_spec_l8May x).trans h)
noncomputable def n_spec_l8May (a0 : dA) : Int :=
  let r1 := n_spec_ArrOk a0
  bif (!r1) then
    1
  else
    bif a0.2.2.2.2.2.2.2.2.2.2.1 then
      6
    else
      0
noncomputable def con_spec_l8May : Con := ⟨I_spec_l8May, U_spec_l8May, fun x => (fun n => some ((n, ()), ())) (n_spec_l8May x.1)⟩
theorem nn_spec_l8May (a0 : dA) : raw_spec_l8May a0 = (fun n => some ((n, ()), ())) (n_spec_l8May a0) := bif_ty (p := fun (n : Int) => ((n, ()), ())) (bif_some (p := fun (n : Int) => ((n, ()), ())) rfl (bif_some (p := fun (n : Int) => ((n, ()), ())) rfl rfl))
theorem ok_spec_l8May : ConOk Try.prog 17 con_spec_l8May := (ok0_spec_l8May).mono (fun x r _ h => (nn_spec_l8May x.1).trans h)
end

/-! spec_SuperOk -/
section
noncomputable def B_spec_SuperOk : Code := (Try.f105.body).getD .skip
noncomputable def E_spec_SuperOk : Env := envOf TT [(35, con_spec_l1In), (69, con_spec_GeoOk)] []
theorem fr_spec_SuperOk_0 : FrOk Try.prog ⟨E_spec_SuperOk, 60, fun _ => none⟩ B_spec_SuperOk := frOk_base mixed tt_ok ⟨ok_spec_l1In, ok_spec_GeoOk, trivial⟩
noncomputable def D_spec_SuperOk_0 : Nat → Option Seg := fun _ => none
abbrev I_spec_SuperOk : List Par := [.rd tS]
abbrev U_spec_SuperOk : List OT := [⟨false, tB, .fz⟩]
noncomputable def raw_spec_SuperOk (a0 : dS) : Option (ResD U_spec_SuperOk × MutD I_spec_SuperOk) :=
  let r1 := n_spec_GeoOk (a0.2.2.2.1, a0.2.2.2.2.1)
  bif (!(!r1)) then
    let r2 := n_spec_l1In a0.1 1 60000
    bif (!(!r2)) then
      let r3 := n_spec_l1In a0.2.1 0 60000
      bif (!(!r3)) then
        let r4 := n_spec_l1In a0.2.2.1 0 (IntKind.i64.wrap (a0.2.2.2.1 - 1))
        bif (!(!r4)) then
          let r5 := n_spec_l1In a0.2.2.2.2.2.1 0 60000
          bif (!r5) then
            some ((false, ()), ())
          else
            let r6 := n_spec_l1In a0.2.2.2.2.2.2.1 (-1) (IntKind.i64.wrap (a0.2.2.2.1 - 1))
            bif r6 then
              let r7 := n_spec_l1In a0.2.2.2.2.2.2.2 0 a0.2.2.2.2.1
              bif r7 then
                bif (!(leb 0 a0.2.2.2.2.2.2.1)) then
                  some (((a0.2.2.2.2.2.2.2 == 0), ()), ())
                else
                  some ((true, ()), ())
              else
                some ((false, ()), ())
            else
              some ((false, ()), ())
        else
          some ((false, ()), ())
      else
        some ((false, ()), ())
    else
      some ((false, ()), ())
  else
    some ((false, ()), ())
theorem e_spec_SuperOk (x : InD I_spec_SuperOk) : execF ⟨E_spec_SuperOk, 60, D_spec_SuperOk_0⟩ Try.f105.results.toList B_spec_SuperOk I_spec_SuperOk U_spec_SuperOk x = raw_spec_SuperOk x.1 := by kernel_rfl
theorem ok0_spec_SuperOk : ConOk Try.prog 105 ⟨I_spec_SuperOk, U_spec_SuperOk, fun x => raw_spec_SuperOk x.1⟩ := conOk_exec (fr_spec_SuperOk_0) Try.func105 (by kernel_rfl) (by kernel_rfl) Try.ntmps105.symm (by decide) (fun x r h => (e_spec_SuperOk x).trans h)
noncomputable def n_spec_SuperOk (a0 : dS) : Bool :=
  let r1 := n_spec_GeoOk (a0.2.2.2.1, a0.2.2.2.2.1)
  bif (!(!r1)) then
    let r2 := n_spec_l1In a0.1 1 60000
    bif (!(!r2)) then
      let r3 := n_spec_l1In a0.2.1 0 60000
      bif (!(!r3)) then
        let r4 := n_spec_l1In a0.2.2.1 0 (IntKind.i64.wrap (a0.2.2.2.1 - 1))
        bif (!(!r4)) then
          let r5 := n_spec_l1In a0.2.2.2.2.2.1 0 60000
          bif (!r5) then
            false
          else
            let r6 := n_spec_l1In a0.2.2.2.2.2.2.1 (-1) (IntKind.i64.wrap (a0.2.2.2.1 - 1))
            bif r6 then
              let r7 := n_spec_l1In a0.2.2.2.2.2.2.2 0 a0.2.2.2.2.1
              bif r7 then
                bif (!(leb 0 a0.2.2.2.2.2.2.1)) then
                  (a0.2.2.2.2.2.2.2 == 0)
                else
                  true
              else
                false
            else
              false
        else
          false
      else
        false
    else
      false
  else
    false
noncomputable def con_spec_SuperOk : Con := ⟨I_spec_SuperOk, U_spec_SuperOk, fun x => (fun n => some ((n, ()), ())) (n_spec_SuperOk x.1)⟩
theorem nn_spec_SuperOk (a0 : dS) : raw_spec_SuperOk a0 = (fun n => some ((n, ()), ())) (n_spec_SuperOk a0) := bif_ty (p := fun (n : Bool) => ((n, ()), ())) (bif_some (p := fun (n : Bool) => ((n, ()), ())) (bif_some (p := fun (n : Bool) => ((n, ()), ())) (bif_some (p := fun (n : Bool) => ((n, ()), ())) (bif_some (p := fun (n : Bool) => ((n, ()), ())) (bif_some (p := fun (n : Bool) => ((n, ()), ())) rfl (bif_some (p := fun (n : Bool) => ((n, ()), ())) (bif_some (p := fun (n : Bool) => ((n, ()), ())) (bif_some (p := fun (n : Bool) => ((n, ()), ())) rfl rfl) rfl) rfl)) rfl) rfl) rfl) rfl)
theorem ok_spec_SuperOk : ConOk Try.prog 105 con_spec_SuperOk := (ok0_spec_SuperOk).mono (fun x r _ h => (nn_spec_SuperOk x.1).trans h)
abbrev noSuper : dS := (0, 0, 0, 0, 0, 0, 0, 0)
theorem superOk_iff {s : dS} : n_spec_SuperOk s = true ↔ n_spec_GeoOk (s.2.2.2.1, s.2.2.2.2.1) = true ∧ (1 ≤ s.1 ∧ s.1 ≤ 60000) ∧ (0 ≤ s.2.1 ∧ s.2.1 ≤ 60000) ∧ (0 ≤ s.2.2.1 ∧ s.2.2.1 ≤ s.2.2.2.1 - 1) ∧ (0 ≤ s.2.2.2.2.2.1 ∧ s.2.2.2.2.2.1 ≤ 60000) ∧ (-1 ≤ s.2.2.2.2.2.2.1 ∧ s.2.2.2.2.2.2.1 ≤ s.2.2.2.1 - 1) ∧ (0 ≤ s.2.2.2.2.2.2.2 ∧ s.2.2.2.2.2.2.2 ≤ s.2.2.2.2.1) ∧ (0 ≤ s.2.2.2.2.2.2.1 ∨ s.2.2.2.2.2.2.2 = 0) := by
  unfold n_spec_SuperOk
  cases hg : n_spec_GeoOk (s.2.2.2.1, s.2.2.2.2.1)
  · simp
  have hg2 := geo_iff.1 hg
  simp only at hg2
  rw [wr (show -9223372036854775808 ≤ s.2.2.2.1 - 1 by omega) (by omega)]
  simp only [Bool.not_not, cond_true, true_and]
  simp only [← in_iff]
  cases n_spec_l1In s.1 1 60000
  · simp
  cases n_spec_l1In s.2.1 0 60000
  · simp
  cases n_spec_l1In s.2.2.1 0 (s.2.2.2.1 - 1)
  · simp
  cases n_spec_l1In s.2.2.2.2.2.1 0 60000
  · simp
  cases n_spec_l1In s.2.2.2.2.2.2.1 (-1) (s.2.2.2.1 - 1)
  · simp
  cases n_spec_l1In s.2.2.2.2.2.2.2 0 s.2.2.2.2.1
  · simp
  cases hl : leb 0 s.2.2.2.2.2.2.1
  · have := mt leb_t (by rw [hl]; simp : ¬ leb 0 s.2.2.2.2.2.2.1 = true)
    simp [this]
  · simp [leb_iff.1 hl]
def superAt (l : List Int) : dS := (nth l 1 0, nth l 2 0, nth l 3 0, nth l 4 0, nth l 5 0, nth l 6 0, IntKind.i64.wrap (nth l 7 0 - 1), nth l 8 0)
noncomputable def getSuper (l : List Int) : dS × Bool := bif (l.length : Int) == 9 && (nth l 0 0 == 21317 && n_spec_SuperOk (superAt l)) then (superAt l, true) else (noSuper, false)
/-- what a sector tells of an array -/
noncomputable def cand (m : dM) (i : Int) : dS := (getSuper (readSec m i).1).1
noncomputable def candOk (m : dM) (id i : Int) : Bool := (readSec m i).2 && ((getSuper (readSec m i).1).2 && ((cand m i).1 == id && (cand m i).2.1.tmod 2 == i))
/-- the better of what is known and a new one -/
def better (b : dS × Bool) (ok : Bool) (s : dS) : dS × Bool := bif ok && (!b.2 || ltb b.1.2.1 s.2.1) then (s, true) else b
noncomputable def bestSuper (m : dM) (id : Int) : dS × Bool := (List.range 2).foldl (fun s (i : Nat) => better s (candOk m id i) (cand m i)) (noSuper, false)
noncomputable def ownOk (m : dM) (i id : Int) : Bool := !m.2.2.1 && ((bestSuper m id).2 && (bestSuper m id).1.2.2.1 == i)
noncomputable def best9 (l : List dM) (id : Int) : dS × Bool := (List.range l.length).foldl (fun s (i : Nat) => better s (ownOk (nth l i noMem) i id) (bestSuper (nth l i noMem) id).1) (noSuper, false)
noncomputable def asmStep (l : List dM) (id : Int) (s : Int × Int × Bool) (i : Nat) : Int × Int × Bool := bif ownOk (nth l i noMem) i id then s else bif s.1 == -1 || s.1 == i then ((i : Int), 0, s.2.2) else (s.1, s.2.1, true)
def asmArr (b : dS) (l : List dM) (id : Int) (s : Int × Int × Bool) : dA := (id, (b.2.2.2.1, b.2.2.2.2.1), l, s.1, s.2.1, b.2.2.2.2.2.1, b.2.2.2.2.2.1, b.2.1, [], -1, false, s.2.2)
noncomputable def asmAll (l : List dM) (id : Int) : dA := asmArr (best9 l id).1 l id ((List.range l.length).foldl (asmStep l id) ((best9 l id).1.2.2.2.2.2.2.1, (best9 l id).1.2.2.2.2.2.2.2, false))
noncomputable def assemble (l : List dM) (id : Int) : dA × Bool := bif (best9 l id).2 && ((l.length : Int) == (best9 l id).1.2.2.2.1 && arrOk (asmAll l id)) then (asmAll l id, true) else (noArr, false)
theorem better_f (b : dS × Bool) (s : dS) : better b false s = b := rfl
theorem readSec_mem {m : dM} {i : Int} (h : (readSec m i).2 = true) : memOk m = true := by
  unfold readSec at h
  cases hc : canRead m i
  · rw [hc] at h; cases h
  · exact (Bool.and_eq_true_iff.1 hc).1
theorem candOk_f {m : dM} {id i : Int} (h : memOk m = false) : candOk m id i = false := by
  unfold candOk
  cases hr : (readSec m i).2
  · rfl
  · rw [readSec_mem hr] at h; cases h
theorem best_mem {m : dM} {id : Int} (h : (bestSuper m id).2 = true) : memOk m = true := by
  cases hm : memOk m
  · unfold bestSuper at h
    simp only [candOk_f hm, better_f] at h
    exact h
  · rfl
end

/-! spec_PutSuper -/
section
noncomputable def B_spec_PutSuper : Code := (Try.f83.body).getD .skip
noncomputable def E_spec_PutSuper : Env := envOf TT [(105, con_spec_SuperOk)] []
theorem fr_spec_PutSuper_0 : FrOk Try.prog ⟨E_spec_PutSuper, 25, fun _ => none⟩ B_spec_PutSuper := frOk_base mixed tt_ok ⟨ok_spec_SuperOk, trivial⟩
noncomputable def D_spec_PutSuper_0 : Nat → Option Seg := fun _ => none
abbrev I_spec_PutSuper : List Par := [.rd tS]
abbrev U_spec_PutSuper : List OT := [⟨false, tL, (.ow .fz)⟩]
noncomputable def raw_spec_PutSuper (a0 : dS) : Option (ResD U_spec_PutSuper × MutD I_spec_PutSuper) :=
  let r1 := n_spec_SuperOk a0
  bif (!r1) then
    some ((([] : List Int), ()), ())
  else
    some ((([21317, a0.1, a0.2.1, a0.2.2.1, a0.2.2.2.1, a0.2.2.2.2.1, a0.2.2.2.2.2.1, (IntKind.i64.wrap (a0.2.2.2.2.2.2.1 + 1)), a0.2.2.2.2.2.2.2] : List Int), ()), ())
theorem e_spec_PutSuper (x : InD I_spec_PutSuper) : execF ⟨E_spec_PutSuper, 25, D_spec_PutSuper_0⟩ Try.f83.results.toList B_spec_PutSuper I_spec_PutSuper U_spec_PutSuper x = raw_spec_PutSuper x.1 := by kernel_rfl
theorem ok0_spec_PutSuper : ConOk Try.prog 83 ⟨I_spec_PutSuper, U_spec_PutSuper, fun x => raw_spec_PutSuper x.1⟩ := conOk_exec (fr_spec_PutSuper_0) Try.func83 (by kernel_rfl) (by kernel_rfl) Try.ntmps83.symm (by decide) (fun x r h => (e_spec_PutSuper x).trans h)
noncomputable def n_spec_PutSuper (a0 : dS) : (List Int) :=
  let r1 := n_spec_SuperOk a0
  bif (!r1) then
    ([] : List Int)
  else
    ([21317, a0.1, a0.2.1, a0.2.2.1, a0.2.2.2.1, a0.2.2.2.2.1, a0.2.2.2.2.2.1, (IntKind.i64.wrap (a0.2.2.2.2.2.2.1 + 1)), a0.2.2.2.2.2.2.2] : List Int)
noncomputable def con_spec_PutSuper : Con := ⟨I_spec_PutSuper, U_spec_PutSuper, fun x => (fun n => some ((n, ()), ())) (n_spec_PutSuper x.1)⟩
theorem nn_spec_PutSuper (a0 : dS) : raw_spec_PutSuper a0 = (fun n => some ((n, ()), ())) (n_spec_PutSuper a0) := bif_ty (p := fun (n : (List Int)) => ((n, ()), ())) (bif_some (p := fun (n : (List Int)) => ((n, ()), ())) rfl rfl)
theorem ok_spec_PutSuper : ConOk Try.prog 83 con_spec_PutSuper := (ok0_spec_PutSuper).mono (fun x r _ h => (nn_spec_PutSuper x.1).trans h)
abbrev downA (a : dA) : Bool := a.2.2.2.2.2.2.2.2.2.2.1
def setFD (a : dA) (f : Int) (d : Bool) : dA := (a.1, a.2.1, a.2.2.1, a.2.2.2.1, a.2.2.2.2.1, a.2.2.2.2.2.1, a.2.2.2.2.2.2.1, a.2.2.2.2.2.2.2.1, a.2.2.2.2.2.2.2.2.1, f, d, a.2.2.2.2.2.2.2.2.2.2.2)
/-- an operation is counted; false: it is not done -/
def opA (a : dA) : Bool × dA := bif downA a then (false, a) else bif a.2.2.2.2.2.2.2.2.2.1 == 0 then (false, setFD a (-1) true) else bif ltb 0 a.2.2.2.2.2.2.2.2.2.1 then (true, setFD a (IntKind.i64.wrap (a.2.2.2.2.2.2.2.2.2.1 - 1)) (downA a)) else (true, a)
def setMem (a : dA) (m : Int) (x : dM) : dA := (a.1, a.2.1, a.2.2.1.set m.toNat x, a.2.2.2)
def putA (a : dA) (m n : Int) (s : List Int) : dA := bif (nth a.2.2.1 m noMem).2.2.1 then a else bif (opA a).1 then setMem (opA a).2 m (writeSec (nth a.2.2.1 m noMem) n s).1 else (opA a).2
def syncOne (a : dA) (i : Nat) : dA := bif (nth a.2.2.1 i noMem).2.2.1 then a else bif (opA a).1 then setMem (opA a).2 i (flushMem (nth a.2.2.1 i noMem)) else (opA a).2
def syncA (a : dA) : dA := (List.range a.2.2.1.length).foldl syncOne a
def supOf (a : dA) (i : Int) : dS := (a.1, a.2.2.2.2.2.2.2.1, i, a.2.1.1, a.2.1.2, a.2.2.2.2.2.2.1, a.2.2.2.1, a.2.2.2.2.1)
noncomputable def markOne (a : dA) (i : Nat) : dA := putA a i (a.2.2.2.2.2.2.2.1.tmod 2) (n_spec_PutSuper (supOf a i))
def genUp (a : dA) : dA := (a.1, a.2.1, a.2.2.1, a.2.2.2.1, a.2.2.2.2.1, a.2.2.2.2.2.1, a.2.2.2.2.2.2.1, IntKind.i64.wrap (a.2.2.2.2.2.2.2.1 + 1), a.2.2.2.2.2.2.2.2)
noncomputable def markA (a : dA) : dA := syncA ((List.range a.2.2.1.length).foldl markOne (genUp a))
theorem op_mems (a : dA) : (opA a).2.2.2.1 = a.2.2.1 := by
  unfold opA
  cases downA a
  · cases (a.2.2.2.2.2.2.2.2.2.1 == 0)
    · cases ltb 0 a.2.2.2.2.2.2.2.2.2.1 <;> rfl
    · rfl
  · rfl
theorem op_down {a : dA} (h : downA a = false) : downA (opA a).2 = !(opA a).1 := by
  unfold opA
  rw [h]
  cases (a.2.2.2.2.2.2.2.2.2.1 == 0)
  · cases ltb 0 a.2.2.2.2.2.2.2.2.2.1
    · exact h
    · rfl
  · rfl
theorem op_stop {a : dA} (h : downA a = true) : opA a = (false, a) := by unfold opA; rw [h]; rfl
theorem put_len (a : dA) (m n : Int) (s : List Int) : (putA a m n s).2.2.1.length = a.2.2.1.length := by
  unfold putA
  cases (nth a.2.2.1 m noMem).2.2.1
  · cases (opA a).1
    · show (opA a).2.2.2.1.length = _; rw [op_mems]
    · show ((opA a).2.2.2.1.set m.toNat _).length = _; rw [List.length_set, op_mems]
  · rfl
theorem syncOne_len (a : dA) (i : Nat) : (syncOne a i).2.2.1.length = a.2.2.1.length := by
  unfold syncOne
  cases (nth a.2.2.1 i noMem).2.2.1
  · cases (opA a).1
    · show (opA a).2.2.2.1.length = _; rw [op_mems]
    · show ((opA a).2.2.2.1.set _ _).length = _; rw [List.length_set, op_mems]
  · rfl
theorem fold_len {one : dA → Nat → dA} (h : ∀ a i, (one a i).2.2.1.length = a.2.2.1.length) : ∀ (l : List Nat) (a : dA), (l.foldl one a).2.2.1.length = a.2.2.1.length
  | [], _ => rfl
  | x :: l, a => by rw [List.foldl_cons, fold_len h l, h]
theorem sync_len (a : dA) : (syncA a).2.2.1.length = a.2.2.1.length := fold_len syncOne_len _ _
theorem put_stop {a : dA} (h : downA a = true) (m n : Int) (s : List Int) : putA a m n s = a := by
  unfold putA
  rw [op_stop h]
  cases (nth a.2.2.1 m noMem).2.2.1 <;> rfl
theorem syncOne_stop {a : dA} (i : Nat) (h : downA a = true) : syncOne a i = a := by
  unfold syncOne
  rw [op_stop h]
  cases (nth a.2.2.1 i noMem).2.2.1 <;> rfl
theorem fold_stop {one : dA → Nat → dA} (hs : ∀ a i, downA a = true → one a i = a) : ∀ (l : List Nat) (a : dA), downA a = true → l.foldl one a = a
  | [], _, _ => rfl
  | x :: l, a, h => by rw [List.foldl_cons, hs a x h]; exact fold_stop hs l a h
theorem sync_stop {a : dA} (h : downA a = true) : syncA a = a := fold_stop (fun _ i h => syncOne_stop i h) _ a h
theorem put_down {a : dA} (h : downA a = false) (m n : Int) (s : List Int) : downA (putA a m n s) = (!(nth a.2.2.1 m noMem).2.2.1 && !(opA a).1) := by
  have := op_down h
  unfold putA
  cases (nth a.2.2.1 m noMem).2.2.1
  · cases ho : (opA a).1
    · rw [ho] at this; exact this
    · rw [ho] at this; exact this
  · exact h
theorem syncOne_down {a : dA} (h : downA a = false) (i : Nat) : downA (syncOne a i) = (!(nth a.2.2.1 i noMem).2.2.1 && !(opA a).1) := by
  have := op_down h
  unfold syncOne
  cases (nth a.2.2.1 i noMem).2.2.1
  · cases ho : (opA a).1
    · rw [ho] at this; exact this
    · rw [ho] at this; exact this
  · exact h
theorem goE_fold {one : dA → Nat → dA} (hs : ∀ a i, downA a = true → one a i = a) : ∀ (k i : Nat) (s : dA), goE (fun i s => bif downA (one s i) then (.inr (one s i) : dA ⊕ dA) else .inl (one s i)) id k i s = (List.range' i k).foldl one s
  | 0, _, _ => rfl
  | k + 1, i, s => by
    rw [List.range'_succ, List.foldl_cons, goE]
    cases hd : downA (one s i)
    · exact goE_fold hs k (i + 1) (one s i)
    · exact (fold_stop hs _ _ hd).symm
theorem put_mems {a : dA} {m n : Int} {s : List Int} (h : okMems a.2.2.1) (hm : inb m a.2.2.1.length = true) : okMems (putA a m n s).2.2.1 := by
  unfold putA
  cases (nth a.2.2.1 m noMem).2.2.1
  · cases (opA a).1
    · show okMems (opA a).2.2.2.1; rw [op_mems]; exact h
    · show okMems ((opA a).2.2.2.1.set m.toNat _); rw [op_mems]; exact okMems_set h (write_ok _ _ (okMems_at h hm))
  · exact h
theorem syncOne_mems {a : dA} {i : Nat} (h : okMems a.2.2.1) (hi : i < a.2.2.1.length) : okMems (syncOne a i).2.2.1 := by
  unfold syncOne
  cases (nth a.2.2.1 i noMem).2.2.1
  · cases (opA a).1
    · show okMems (opA a).2.2.2.1; rw [op_mems]; exact h
    · show okMems ((opA a).2.2.2.1.set _ _); rw [op_mems]; exact okMems_set h (flush_ok (okMems_at h (inb_nat hi)))
  · exact h
theorem fold_mems {one : dA → Nat → dA} (hl : ∀ a i, (one a i).2.2.1.length = a.2.2.1.length) (ho : ∀ a i, okMems a.2.2.1 → i < a.2.2.1.length → okMems (one a i).2.2.1) : ∀ (n : Nat) (a : dA), n ≤ a.2.2.1.length → okMems a.2.2.1 → okMems ((List.range n).foldl one a).2.2.1
  | 0, _, _, h => h
  | n + 1, a, hn, h => by
    rw [List.range_succ, List.foldl_append]
    exact ho _ _ (fold_mems hl ho n a (by omega) h) (by rw [fold_len hl]; exact hn)
theorem sync_mems {a : dA} (h : okMems a.2.2.1) : okMems (syncA a).2.2.1 := fold_mems syncOne_len (fun _ _ => syncOne_mems) _ a (Nat.le_refl _) h
theorem mark_mems {a : dA} (h : okMems a.2.2.1) : okMems (markA a).2.2.1 :=
  sync_mems (fold_mems (one := markOne) (fun _ _ => put_len _ _ _ _) (fun _ _ h hi => put_mems h (inb_nat hi)) _ (genUp a) (Nat.le_refl _) h)
theorem mark_len (a : dA) : (markA a).2.2.1.length = a.2.2.1.length := (sync_len _).trans (fold_len (one := markOne) (fun _ _ => put_len _ _ _ _) _ (genUp a))
theorem op_dirty (a : dA) : (opA a).2.2.2.2.2.2.2.2.2.1 = a.2.2.2.2.2.2.2.2.1 := by
  unfold opA
  cases downA a
  · cases (a.2.2.2.2.2.2.2.2.2.1 == 0)
    · cases ltb 0 a.2.2.2.2.2.2.2.2.2.1 <;> rfl
    · rfl
  · rfl
theorem put_dirty (a : dA) (m n : Int) (s : List Int) : (putA a m n s).2.2.2.2.2.2.2.2.1 = a.2.2.2.2.2.2.2.2.1 := by
  unfold putA
  cases (nth a.2.2.1 m noMem).2.2.1
  · cases (opA a).1
    · exact op_dirty a
    · exact op_dirty a
  · rfl
theorem syncOne_dirty (a : dA) (i : Nat) : (syncOne a i).2.2.2.2.2.2.2.2.1 = a.2.2.2.2.2.2.2.2.1 := by
  unfold syncOne
  cases (nth a.2.2.1 i noMem).2.2.1
  · cases (opA a).1
    · exact op_dirty a
    · exact op_dirty a
  · rfl
theorem fold_dirty {one : dA → Nat → dA} (h : ∀ a i, (one a i).2.2.2.2.2.2.2.2.1 = a.2.2.2.2.2.2.2.2.1) : ∀ (l : List Nat) (a : dA), (l.foldl one a).2.2.2.2.2.2.2.2.1 = a.2.2.2.2.2.2.2.2.1
  | [], _ => rfl
  | x :: l, a => by rw [List.foldl_cons, fold_dirty h l, h]
theorem sync_dirty (a : dA) : (syncA a).2.2.2.2.2.2.2.2.1 = a.2.2.2.2.2.2.2.2.1 := fold_dirty syncOne_dirty _ _
theorem mark_dirty (a : dA) : (markA a).2.2.2.2.2.2.2.2.1 = a.2.2.2.2.2.2.2.2.1 := (sync_dirty _).trans (fold_dirty (one := markOne) (fun _ _ => put_dirty _ _ _ _) _ (genUp a))
/-- a bound of a result's marks -/
theorem arr_small {a x : dA} (ha : mArr a ≤ 2097152) (hl : x.2.2.1.length ≤ 5) (hm : okMems x.2.2.1) (hd : x.2.2.2.2.2.2.2.2.1 = a.2.2.2.2.2.2.2.2.1) : mArr x ≤ 2105000 := by
  have := okMems_small hm
  have : x.2.2.1.length * 1041 ≤ 5 * 1041 := Nat.mul_le_mul_right _ hl
  unfold mArr at ha ⊢
  rw [hd]
  omega
theorem arr_five {a : dA} (h : arrOk a = true) : a.2.2.1.length ≤ 5 := by
  have h1 := geo_iff.1 (arrOk_geo h)
  have h2 := arrOk_len h
  omega
def memNew (n : Int) : dM := bif leb 1 n && leb n 20 then (List.replicate n.toNat [], [], false, []) else noMem
theorem memNew_ok {n : Int} (h1 : 1 ≤ n) (h2 : n ≤ 20) : memOk (memNew n) = true := by
  unfold memNew
  rw [leb_t h1, leb_t h2]
  refine memOk_mk ?_ rfl rfl ?_ ?_ (Nat.zero_le _)
  · show (List.replicate n.toNat ([] : List Int)).all secOk = true
    rw [List.all_eq_true]
    intro x hx
    rw [(List.mem_replicate.1 hx).2]; rfl
  · show 1 ≤ (List.replicate n.toNat ([] : List Int)).length; rw [List.length_replicate]; omega
  · show (List.replicate n.toNat ([] : List Int)).length ≤ 20; rw [List.length_replicate]; omega
def spareNew (a : dA) : dA := (a.1, a.2.1, a.2.2.1.set a.2.2.2.1.toNat (memNew (6 + a.2.1.2)), a.2.2.2.1, 0, a.2.2.2.2.2)
noncomputable def spareA (a : dA) : dA × Int :=
  bif !(arrOk a) then (a, 1) else bif downA a then (a, 6) else bif a.2.2.2.1 == -1 || !((nth a.2.2.1 a.2.2.2.1 noMem).2.2.1) then (a, 2) else bif a.2.2.2.2.2.2.2.2.2.2.2 then (a, 5) else bif leb 59990 a.2.2.2.2.2.2.2.1 then (a, 7)
  else (markA (spareNew a), bif downA (markA (spareNew a)) then 6 else 0)
theorem arr_lost {a : dA} (h : arrOk a = true) : -1 ≤ a.2.2.2.1 ∧ a.2.2.2.1 ≤ a.2.1.1 - 1 := by
  simp only [arrOk, Bool.and_eq_true, leb_iff] at h
  exact h.2.2.2.2.1
theorem lost_in {a : dA} (h : arrOk a = true) (h2 : a.2.2.2.1 ≠ -1) : inb a.2.2.2.1 a.2.2.1.length = true := by
  have := arr_lost h
  have := arrOk_len h
  exact inb_iff.2 (by omega)
def tailUp (a : dA) : dA := (a.1, a.2.1, a.2.2.1, a.2.2.2.1, a.2.2.2.2.1, a.2.2.2.2.2.1, a.2.2.2.2.2.1, a.2.2.2.2.2.2.2)
noncomputable def checkA (a : dA) : dA := bif downA (syncA a) then syncA a else markA (tailUp (syncA a))
theorem check_mems {a : dA} (h : okMems a.2.2.1) : okMems (checkA a).2.2.1 := by
  unfold checkA
  cases downA (syncA a)
  · exact mark_mems (a := tailUp (syncA a)) (sync_mems h)
  · exact sync_mems h
theorem check_len (a : dA) : (checkA a).2.2.1.length = a.2.2.1.length := by
  unfold checkA
  cases downA (syncA a)
  · exact (mark_len (tailUp (syncA a))).trans (sync_len a)
  · exact sync_len a
theorem check_dirty (a : dA) : (checkA a).2.2.2.2.2.2.2.2.1 = a.2.2.2.2.2.2.2.2.1 := by
  unfold checkA
  cases downA (syncA a)
  · exact (mark_dirty (tailUp (syncA a))).trans (sync_dirty a)
  · exact sync_dirty a
def adoptEnd (b : dA) : dA := (b.1, b.2.1, b.2.2.1, -1, 0, b.2.2.2.2.2)
noncomputable def adoptOne (a : dA) : dA × Int := bif downA (checkA a) then (checkA a, 6) else (markA (adoptEnd (checkA a)), bif downA (markA (adoptEnd (checkA a))) then 6 else 0)
noncomputable def adoptA (a : dA) : dA × Int :=
  bif !(arrOk a) then (a, 1) else bif downA a then (a, 6) else bif a.2.2.2.1 == -1 || ((nth a.2.2.1 a.2.2.2.1 noMem).2.2.1 || ltb a.2.2.2.2.1 a.2.1.2) then (a, 2) else bif a.2.2.2.2.2.2.2.2.2.2.2 then (a, 5) else bif leb 59990 a.2.2.2.2.2.2.2.1 then (a, 7) else adoptOne a
theorem adopt_small {a : dA} (ha : mArr a ≤ 2097152) : mArr (adoptA a).1 ≤ 2105000 := by
  have h0 : mArr a ≤ 2105000 := by omega
  unfold adoptA
  cases hk : arrOk a
  · exact h0
  have h5 := arr_five hk
  have hc := check_mems (arr_okMems hk)
  have hn := arr_small (x := markA (adoptEnd (checkA a))) ha (by rw [mark_len, show (adoptEnd (checkA a)).2.2.1 = (checkA a).2.2.1 from rfl, check_len]; exact h5) (mark_mems (a := adoptEnd (checkA a)) hc) ((mark_dirty _).trans (check_dirty a))
  have hn2 := arr_small (x := checkA a) ha (by rw [check_len]; exact h5) hc (check_dirty a)
  cases downA a
  · cases (a.2.2.2.1 == -1 || ((nth a.2.2.1 a.2.2.2.1 noMem).2.2.1 || ltb a.2.2.2.2.1 a.2.1.2))
    · cases a.2.2.2.2.2.2.2.2.2.2.2
      · cases leb 59990 a.2.2.2.2.2.2.2.1
        · show mArr (adoptOne a).1 ≤ _
          unfold adoptOne
          cases downA (checkA a)
          · exact hn
          · exact hn2
        · exact h0
      · exact h0
    · exact h0
  · exact h0
end
end Go.Tf
