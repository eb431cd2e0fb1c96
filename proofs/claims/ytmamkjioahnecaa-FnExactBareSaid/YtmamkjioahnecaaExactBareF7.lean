/- Functions of the program, and what they come to. -/
import Derived.Test.YtmamkjioahnecaaExactBareF6
namespace Go.Tf
open Go.Proofs
set_option synthInstance.maxHeartbeats 400000
set_option synthInstance.maxSize 10000
set_option linter.unusedVariables false
set_option linter.unusedSimpArgs false
set_option maxRecDepth 100000
/-! spec_l6Mems -/
section
noncomputable def B_spec_l6Mems : Code := (Try.f141.body).getD .skip
noncomputable def E_spec_l6Mems : Env := envOf TT [(133, con_spec_MemOk), (175, con_spec_l6Secs)] []
theorem fr_spec_l6Mems_0 : FrOk Try.prog ⟨E_spec_l6Mems, 51, fun _ => none⟩ B_spec_l6Mems := frOk_base mixed tt_ok ⟨ok_spec_MemOk, ok_spec_l6Secs, trivial⟩
noncomputable def D_spec_l6Mems_0 : Nat → Option Seg := fun _ => none
def L_spec_l6Mems_13 : Shape := ⟨[(1, false, [.ptr 0 0]), (3, false, [.int .i64])], [(0, [.int .i64, .int .i64, .int .i64, .br tM, .int .i64, .int .i64, .int .i64, .int .i64, .int .i64, .br tW, .int .i64, .bool, .bool])], []⟩
def S_spec_l6Mems_13 : Shape := ⟨[(1, false, [.ptr 0 0]), (3, false, [.ci .i64 0])], [(0, [.int .i64, .int .i64, .int .i64, .br tM, .int .i64, .int .i64, .int .i64, .int .i64, .int .i64, .br tW, .int .i64, .bool, .bool])], []⟩
def O_spec_l6Mems_13 : Shape := ⟨[(1, false, [.ptr 0 0])], [(0, [.int .i64, .int .i64, .int .i64, .br tM, .int .i64, .int .i64, .int .i64, .int .i64, .int .i64, .br tW, .int .i64, .bool, .bool])], []⟩
def Z_spec_l6Mems_13 : Shape := ⟨[(2, false, [.bool])], [], []⟩
abbrev mk_spec_l6Mems_13 (v0 : Int) (v1 : dA) : (L_spec_l6Mems_13).X := ((((), ()), (v0, ()), ()), ((v1.1, v1.2.1.1, v1.2.1.2, v1.2.2.1, v1.2.2.2.1, v1.2.2.2.2.1, v1.2.2.2.2.2.1, v1.2.2.2.2.2.2.1, v1.2.2.2.2.2.2.2.1, v1.2.2.2.2.2.2.2.2.1, v1.2.2.2.2.2.2.2.2.2.1, v1.2.2.2.2.2.2.2.2.2.2.1, v1.2.2.2.2.2.2.2.2.2.2.2, ()), ()), ())
abbrev ms_spec_l6Mems_13 (v0 : dA) : (S_spec_l6Mems_13).X := ((((), ()), ((), ()), ()), ((v0.1, v0.2.1.1, v0.2.1.2, v0.2.2.1, v0.2.2.2.1, v0.2.2.2.2.1, v0.2.2.2.2.2.1, v0.2.2.2.2.2.2.1, v0.2.2.2.2.2.2.2.1, v0.2.2.2.2.2.2.2.2.1, v0.2.2.2.2.2.2.2.2.2.1, v0.2.2.2.2.2.2.2.2.2.2.1, v0.2.2.2.2.2.2.2.2.2.2.2, ()), ()), ())
abbrev mo_spec_l6Mems_13 (v0 : dA) : (O_spec_l6Mems_13).X := ((((), ()), ()), ((v0.1, v0.2.1.1, v0.2.1.2, v0.2.2.1, v0.2.2.2.1, v0.2.2.2.2.1, v0.2.2.2.2.2.1, v0.2.2.2.2.2.2.1, v0.2.2.2.2.2.2.2.1, v0.2.2.2.2.2.2.2.2.1, v0.2.2.2.2.2.2.2.2.2.1, v0.2.2.2.2.2.2.2.2.2.2.1, v0.2.2.2.2.2.2.2.2.2.2.2, ()), ()), ())
abbrev mz_spec_l6Mems_13 (v0 : Bool) : (Z_spec_l6Mems_13).X := (((v0, ()), ()), (), ())
noncomputable def st_spec_l6Mems_13 (v0 : Int) (v1 : Int) (v2 : Int) (v3 : Int) (v4 : List dM) (v5 : Int) (v6 : Int) (v7 : Int) (v8 : Int) (v9 : Int) (v10 : List dW) (v11 : Int) (v12 : Bool) (v13 : Bool) : Option ((L_spec_l6Mems_13).X ⊕ ((O_spec_l6Mems_13).X ⊕ (Z_spec_l6Mems_13).X)) :=
  bif (ltb v0 (v4.length : Int)) then
    bif (inb v0 v4.length) then
      let r3 := n_spec_MemOk ((nth v4 v0 ([], [], false, [])).1, ((nth v4 v0 ([], [], false, [])).2).1, (((nth v4 v0 ([], [], false, [])).2).2))
      bif (!(!r3)) then
        let r4 := n_spec_l6Secs (v2, v3)
        bif (!((((nth v4 v0 ([], [], false, [])).1).length : Int) != r4)) then
          bif (((nth v4 v0 ([], [], false, [])).2).2).1 then
            bif (v0 != v5) then
              bif (!v13) then
                some (.inr (.inr (((false, ()), ()), (), ())))
              else
                some (.inl ((((), ()), ((IntKind.i64.wrap (v0 + 1)), ()), ()), ((v1, v2, v3, v4, v5, v6, v7, v8, v9, v10, v11, v12, v13, ()), ()), ()))
            else
              some (.inl ((((), ()), ((IntKind.i64.wrap (v0 + 1)), ()), ()), ((v1, v2, v3, v4, v5, v6, v7, v8, v9, v10, v11, v12, v13, ()), ()), ()))
          else
            some (.inl ((((), ()), ((IntKind.i64.wrap (v0 + 1)), ()), ()), ((v1, v2, v3, v4, v5, v6, v7, v8, v9, v10, v11, v12, v13, ()), ()), ()))
        else
          some (.inr (.inr (((false, ()), ()), (), ())))
      else
        some (.inr (.inr (((false, ()), ()), (), ())))
    else none
  else
    some (.inr (.inl ((((), ()), ()), ((v1, v2, v3, v4, v5, v6, v7, v8, v9, v10, v11, v12, v13, ()), ()), ())))
noncomputable def stx_spec_l6Mems_13 (x : (L_spec_l6Mems_13).X) := st_spec_l6Mems_13 x.1.2.1.1 x.2.1.1.1 x.2.1.1.2.1 x.2.1.1.2.2.1 x.2.1.1.2.2.2.1 x.2.1.1.2.2.2.2.1 x.2.1.1.2.2.2.2.2.1 x.2.1.1.2.2.2.2.2.2.1 x.2.1.1.2.2.2.2.2.2.2.1 x.2.1.1.2.2.2.2.2.2.2.2.1 x.2.1.1.2.2.2.2.2.2.2.2.2.1 x.2.1.1.2.2.2.2.2.2.2.2.2.2.1 x.2.1.1.2.2.2.2.2.2.2.2.2.2.2.1 x.2.1.1.2.2.2.2.2.2.2.2.2.2.2.2.1
def em_spec_l6Mems_13 (x : (S_spec_l6Mems_13).X) : (L_spec_l6Mems_13).X := ((((), ()), (0, ()), ()), ((x.2.1.1.1, x.2.1.1.2.1, x.2.1.1.2.2.1, x.2.1.1.2.2.2.1, x.2.1.1.2.2.2.2.1, x.2.1.1.2.2.2.2.2.1, x.2.1.1.2.2.2.2.2.2.1, x.2.1.1.2.2.2.2.2.2.2.1, x.2.1.1.2.2.2.2.2.2.2.2.1, x.2.1.1.2.2.2.2.2.2.2.2.2.1, x.2.1.1.2.2.2.2.2.2.2.2.2.2.1, x.2.1.1.2.2.2.2.2.2.2.2.2.2.2.1, x.2.1.1.2.2.2.2.2.2.2.2.2.2.2.2.1, ()), ()), ())
noncomputable def c_spec_l6Mems_13 : Code := (subN B_spec_l6Mems 64 52).getD .skip
theorem a_spec_l6Mems_13 : subN B_spec_l6Mems 64 13 = some (.block 0 (.loop c_spec_l6Mems_13)) := by kernel_rfl
theorem r_spec_l6Mems_13 (x : (L_spec_l6Mems_13).X) : roundT ⟨E_spec_l6Mems, 51, D_spec_l6Mems_0⟩ 0 c_spec_l6Mems_13 52 L_spec_l6Mems_13 O_spec_l6Mems_13 Z_spec_l6Mems_13 x = stx_spec_l6Mems_13 x := by kernel_rfl
noncomputable def fu_spec_l6Mems_13 (x : (S_spec_l6Mems_13).X) : Nat := (fun (u0 : Int) (u1 : Int) (u2 : Int) (u3 : List dM) (u4 : Int) (u5 : Int) (u6 : Int) (u7 : Int) (u8 : Int) (u9 : List dW) (u10 : Int) (u11 : Bool) (u12 : Bool) => 18446744073709551616) x.2.1.1.1 x.2.1.1.2.1 x.2.1.1.2.2.1 x.2.1.1.2.2.2.1 x.2.1.1.2.2.2.2.1 x.2.1.1.2.2.2.2.2.1 x.2.1.1.2.2.2.2.2.2.1 x.2.1.1.2.2.2.2.2.2.2.1 x.2.1.1.2.2.2.2.2.2.2.2.1 x.2.1.1.2.2.2.2.2.2.2.2.2.1 x.2.1.1.2.2.2.2.2.2.2.2.2.2.1 x.2.1.1.2.2.2.2.2.2.2.2.2.2.2.1 x.2.1.1.2.2.2.2.2.2.2.2.2.2.2.2.1
noncomputable def F_spec_l6Mems_13 (x : (S_spec_l6Mems_13).X) : Option ((O_spec_l6Mems_13).X ⊕ (Z_spec_l6Mems_13).X) := loopN stx_spec_l6Mems_13 (fu_spec_l6Mems_13 x) (em_spec_l6Mems_13 x)
noncomputable def sg_spec_l6Mems_13 : Seg := ⟨S_spec_l6Mems_13, O_spec_l6Mems_13, Z_spec_l6Mems_13, F_spec_l6Mems_13⟩
noncomputable def D_spec_l6Mems_1 : Nat → Option Seg := fun q => bif Nat.beq q 13 then some sg_spec_l6Mems_13 else D_spec_l6Mems_0 q
theorem fr_spec_l6Mems_1 : FrOk Try.prog ⟨E_spec_l6Mems, 51, D_spec_l6Mems_1⟩ B_spec_l6Mems := (fr_spec_l6Mems_0).loop (sg := sg_spec_l6Mems_13) L_spec_l6Mems_13 em_spec_l6Mems_13 (by decide) a_spec_l6Mems_13 stx_spec_l6Mems_13 fu_spec_l6Mems_13 (by decide) (fun _ => rfl) (fun x r _ h => h) r_spec_l6Mems_13
abbrev I_spec_l6Mems : List Par := [.rd tA]
abbrev U_spec_l6Mems : List OT := [⟨false, tB, .fz⟩]
noncomputable def raw_spec_l6Mems (a0 : dA) : Option (ResD U_spec_l6Mems × MutD I_spec_l6Mems) :=
  segM (F_spec_l6Mems_13 ((((), ()), ((), ()), ()), ((a0.1, a0.2.1.1, a0.2.1.2, a0.2.2.1, a0.2.2.2.1, a0.2.2.2.2.1, a0.2.2.2.2.2.1, a0.2.2.2.2.2.2.1, a0.2.2.2.2.2.2.2.1, a0.2.2.2.2.2.2.2.2.1, a0.2.2.2.2.2.2.2.2.2.1, a0.2.2.2.2.2.2.2.2.2.2.1, a0.2.2.2.2.2.2.2.2.2.2.2, ()), ()), ())) (fun y4 =>
    some ((((y4.2.1.1.2.2.2.1.length : Int) == y4.2.1.1.2.1), ()), ())) (fun y4 =>
    some ((y4.1.1.1, ()), ()))
theorem e_spec_l6Mems (x : InD I_spec_l6Mems) : execF ⟨E_spec_l6Mems, 51, D_spec_l6Mems_1⟩ Try.f141.results.toList B_spec_l6Mems I_spec_l6Mems U_spec_l6Mems x = raw_spec_l6Mems x.1 := by kernel_rfl
theorem ok0_spec_l6Mems : ConOk Try.prog 141 ⟨I_spec_l6Mems, U_spec_l6Mems, fun x => raw_spec_l6Mems x.1⟩ := conOk_exec (fr_spec_l6Mems_1) Try.func141 (by kernel_rfl) (by kernel_rfl) Try.ntmps141.symm (by decide) (fun x r h => (e_spec_l6Mems x).trans h)
noncomputable def n_spec_l6Mems (a0 : dA) : Bool := memsOk a0
noncomputable def q_spec_l6Mems (a0 : dA) : Bool := n_spec_GeoOk a0.2.1
theorem nn_spec_l6Mems (a0 : dA) (hk : InOk I_spec_l6Mems (a0, ())) (hq : q_spec_l6Mems a0 = true) : raw_spec_l6Mems a0 = (fun n => some ((n, ()), ())) (n_spec_l6Mems a0) := by
  have hb : a0.2.2.1.length * 80 ≤ 2 ^ 47 := hk.1.2.2.1.1
  have hg := geo_iff.1 hq
  have h1 : F_spec_l6Mems_13 (ms_spec_l6Mems_13 a0) = some (bif (List.range a0.2.2.1.length).any (memBad a0) then .inr (mz_spec_l6Mems_13 false) else .inl (mo_spec_l6Mems_13 a0)) :=
    loopN_all (step := stx_spec_l6Mems_13) (fun i => mk_spec_l6Mems_13 i a0) a0.2.2.1.length (memBad a0) _ _ (fun i hi => by
      simp only [stx_spec_l6Mems_13, mk_spec_l6Mems_13, st_spec_l6Mems_13, ltb_t (show (i : Int) < a0.2.2.1.length by omega), cond_true, wr (show -9223372036854775808 ≤ (i : Int) + 1 by omega) (by omega), Int.natCast_add, Int.natCast_one, Int.toNat_natCast, inb_nat hi, pr_eta, n_spec_MemOk, memBad, n_spec_l6Secs, wr (show -9223372036854775808 ≤ 6 + a0.2.1.2 by omega) (by omega), noMem]
      cases memOk (nth a0.2.2.1 i ([], [], false, [])) <;> cases (((nth a0.2.2.1 i ([], [], false, [])).1.length : Int) != 6 + a0.2.1.2) <;> cases (nth a0.2.2.1 i ([], [], false, [])).2.2.1 <;> cases ((i : Int) != a0.2.2.2.1) <;> cases a0.2.2.2.2.2.2.2.2.2.2.2 <;> rfl) (by simp only [stx_spec_l6Mems_13, mk_spec_l6Mems_13, st_spec_l6Mems_13, ltb_f (Int.le_refl _), cond_false]) _ (by show _ < 18446744073709551616; omega)
  unfold raw_spec_l6Mems n_spec_l6Mems memsOk
  rw [h1]
  cases (List.range a0.2.2.1.length).any (memBad a0) <;> rfl
noncomputable def o_spec_l6Mems (a0 : dA) : Option (ResD U_spec_l6Mems × MutD I_spec_l6Mems) := bif q_spec_l6Mems a0 then (fun n => some ((n, ()), ())) (n_spec_l6Mems a0) else none
theorem ot_spec_l6Mems (a0 : dA) (h : q_spec_l6Mems a0 = true) : o_spec_l6Mems a0 = (fun n => some ((n, ()), ())) (n_spec_l6Mems a0) := by unfold o_spec_l6Mems; rw [h]; rfl
noncomputable def con_spec_l6Mems : Con := ⟨I_spec_l6Mems, U_spec_l6Mems, fun x => o_spec_l6Mems x.1⟩
theorem ok_spec_l6Mems : ConOk Try.prog 141 con_spec_l6Mems := (ok0_spec_l6Mems).mono (fun x r hk h => pre_ok h (fun hq => nn_spec_l6Mems x.1 hk hq))
end

/-! spec_l6Dirty -/
section
noncomputable def B_spec_l6Dirty : Code := (Try.f142.body).getD .skip
noncomputable def E_spec_l6Dirty : Env := envOf TT [(82, con_spec_l1In), (176, con_spec_l1Words)] []
theorem fr_spec_l6Dirty_0 : FrOk Try.prog ⟨E_spec_l6Dirty, 57, fun _ => none⟩ B_spec_l6Dirty := frOk_base mixed tt_ok ⟨ok_spec_l1In, ok_spec_l1Words, trivial⟩
noncomputable def D_spec_l6Dirty_0 : Nat → Option Seg := fun _ => none
def L_spec_l6Dirty_13 : Shape := ⟨[(1, false, [.ptr 0 0]), (3, false, [.int .i64])], [(0, [.int .i64, .int .i64, .int .i64, .br tM, .int .i64, .int .i64, .int .i64, .int .i64, .int .i64, .br tW, .int .i64, .bool, .bool])], []⟩
def S_spec_l6Dirty_13 : Shape := ⟨[(1, false, [.ptr 0 0]), (3, false, [.ci .i64 0])], [(0, [.int .i64, .int .i64, .int .i64, .br tM, .int .i64, .int .i64, .int .i64, .int .i64, .int .i64, .br tW, .int .i64, .bool, .bool])], []⟩
def O_spec_l6Dirty_13 : Shape := ⟨[], [], []⟩
def Z_spec_l6Dirty_13 : Shape := ⟨[(2, false, [.bool])], [], []⟩
abbrev mk_spec_l6Dirty_13 (v0 : Int) (v1 : dA) : (L_spec_l6Dirty_13).X := ((((), ()), (v0, ()), ()), ((v1.1, v1.2.1.1, v1.2.1.2, v1.2.2.1, v1.2.2.2.1, v1.2.2.2.2.1, v1.2.2.2.2.2.1, v1.2.2.2.2.2.2.1, v1.2.2.2.2.2.2.2.1, v1.2.2.2.2.2.2.2.2.1, v1.2.2.2.2.2.2.2.2.2.1, v1.2.2.2.2.2.2.2.2.2.2.1, v1.2.2.2.2.2.2.2.2.2.2.2, ()), ()), ())
abbrev ms_spec_l6Dirty_13 (v0 : dA) : (S_spec_l6Dirty_13).X := ((((), ()), ((), ()), ()), ((v0.1, v0.2.1.1, v0.2.1.2, v0.2.2.1, v0.2.2.2.1, v0.2.2.2.2.1, v0.2.2.2.2.2.1, v0.2.2.2.2.2.2.1, v0.2.2.2.2.2.2.2.1, v0.2.2.2.2.2.2.2.2.1, v0.2.2.2.2.2.2.2.2.2.1, v0.2.2.2.2.2.2.2.2.2.2.1, v0.2.2.2.2.2.2.2.2.2.2.2, ()), ()), ())
abbrev mo_spec_l6Dirty_13  : (O_spec_l6Dirty_13).X := ((), (), ())
abbrev mz_spec_l6Dirty_13 (v0 : Bool) : (Z_spec_l6Dirty_13).X := (((v0, ()), ()), (), ())
noncomputable def st_spec_l6Dirty_13 (v0 : Int) (v1 : Int) (v2 : Int) (v3 : Int) (v4 : List dM) (v5 : Int) (v6 : Int) (v7 : Int) (v8 : Int) (v9 : Int) (v10 : List dW) (v11 : Int) (v12 : Bool) (v13 : Bool) : Option ((L_spec_l6Dirty_13).X ⊕ ((O_spec_l6Dirty_13).X ⊕ (Z_spec_l6Dirty_13).X)) :=
  bif (ltb v0 (v10.length : Int)) then
    bif (inb v0 v10.length) then
      let r3 := n_spec_l1In ((nth v10 v0 (0, [])).1) 0 (IntKind.i64.wrap (v3 - 1))
      bif (!(!r3)) then
        bif (!((((nth v10 v0 (0, [])).2).length : Int) != (IntKind.i64.wrap (v2 - 1)))) then
          let r4 := n_spec_l1Words ((nth v10 v0 (0, [])).2)
          bif (!(!r4)) then
            bif (ltb 0 v0) then
              bif (inb (IntKind.i64.wrap (v0 - 1)) v10.length) then
                bif (leb ((nth v10 v0 (0, [])).1) ((nth v10 (IntKind.i64.wrap (v0 - 1)) (0, [])).1)) then
                  some (.inr (.inr (((false, ()), ()), (), ())))
                else
                  some (.inl ((((), ()), ((IntKind.i64.wrap (v0 + 1)), ()), ()), ((v1, v2, v3, v4, v5, v6, v7, v8, v9, v10, v11, v12, v13, ()), ()), ()))
              else none
            else
              some (.inl ((((), ()), ((IntKind.i64.wrap (v0 + 1)), ()), ()), ((v1, v2, v3, v4, v5, v6, v7, v8, v9, v10, v11, v12, v13, ()), ()), ()))
          else
            some (.inr (.inr (((false, ()), ()), (), ())))
        else
          some (.inr (.inr (((false, ()), ()), (), ())))
      else
        some (.inr (.inr (((false, ()), ()), (), ())))
    else none
  else
    some (.inr (.inl ((), (), ())))
noncomputable def stx_spec_l6Dirty_13 (x : (L_spec_l6Dirty_13).X) := st_spec_l6Dirty_13 x.1.2.1.1 x.2.1.1.1 x.2.1.1.2.1 x.2.1.1.2.2.1 x.2.1.1.2.2.2.1 x.2.1.1.2.2.2.2.1 x.2.1.1.2.2.2.2.2.1 x.2.1.1.2.2.2.2.2.2.1 x.2.1.1.2.2.2.2.2.2.2.1 x.2.1.1.2.2.2.2.2.2.2.2.1 x.2.1.1.2.2.2.2.2.2.2.2.2.1 x.2.1.1.2.2.2.2.2.2.2.2.2.2.1 x.2.1.1.2.2.2.2.2.2.2.2.2.2.2.1 x.2.1.1.2.2.2.2.2.2.2.2.2.2.2.2.1
def em_spec_l6Dirty_13 (x : (S_spec_l6Dirty_13).X) : (L_spec_l6Dirty_13).X := ((((), ()), (0, ()), ()), ((x.2.1.1.1, x.2.1.1.2.1, x.2.1.1.2.2.1, x.2.1.1.2.2.2.1, x.2.1.1.2.2.2.2.1, x.2.1.1.2.2.2.2.2.1, x.2.1.1.2.2.2.2.2.2.1, x.2.1.1.2.2.2.2.2.2.2.1, x.2.1.1.2.2.2.2.2.2.2.2.1, x.2.1.1.2.2.2.2.2.2.2.2.2.1, x.2.1.1.2.2.2.2.2.2.2.2.2.2.1, x.2.1.1.2.2.2.2.2.2.2.2.2.2.2.1, x.2.1.1.2.2.2.2.2.2.2.2.2.2.2.2.1, ()), ()), ())
noncomputable def c_spec_l6Dirty_13 : Code := (subN B_spec_l6Dirty 64 52).getD .skip
theorem a_spec_l6Dirty_13 : subN B_spec_l6Dirty 64 13 = some (.block 0 (.loop c_spec_l6Dirty_13)) := by kernel_rfl
theorem r_spec_l6Dirty_13 (x : (L_spec_l6Dirty_13).X) : roundT ⟨E_spec_l6Dirty, 57, D_spec_l6Dirty_0⟩ 0 c_spec_l6Dirty_13 52 L_spec_l6Dirty_13 O_spec_l6Dirty_13 Z_spec_l6Dirty_13 x = stx_spec_l6Dirty_13 x := by kernel_rfl
noncomputable def fu_spec_l6Dirty_13 (x : (S_spec_l6Dirty_13).X) : Nat := (fun (u0 : Int) (u1 : Int) (u2 : Int) (u3 : List dM) (u4 : Int) (u5 : Int) (u6 : Int) (u7 : Int) (u8 : Int) (u9 : List dW) (u10 : Int) (u11 : Bool) (u12 : Bool) => 18446744073709551616) x.2.1.1.1 x.2.1.1.2.1 x.2.1.1.2.2.1 x.2.1.1.2.2.2.1 x.2.1.1.2.2.2.2.1 x.2.1.1.2.2.2.2.2.1 x.2.1.1.2.2.2.2.2.2.1 x.2.1.1.2.2.2.2.2.2.2.1 x.2.1.1.2.2.2.2.2.2.2.2.1 x.2.1.1.2.2.2.2.2.2.2.2.2.1 x.2.1.1.2.2.2.2.2.2.2.2.2.2.1 x.2.1.1.2.2.2.2.2.2.2.2.2.2.2.1 x.2.1.1.2.2.2.2.2.2.2.2.2.2.2.2.1
noncomputable def F_spec_l6Dirty_13 (x : (S_spec_l6Dirty_13).X) : Option ((O_spec_l6Dirty_13).X ⊕ (Z_spec_l6Dirty_13).X) := loopN stx_spec_l6Dirty_13 (fu_spec_l6Dirty_13 x) (em_spec_l6Dirty_13 x)
noncomputable def sg_spec_l6Dirty_13 : Seg := ⟨S_spec_l6Dirty_13, O_spec_l6Dirty_13, Z_spec_l6Dirty_13, F_spec_l6Dirty_13⟩
noncomputable def D_spec_l6Dirty_1 : Nat → Option Seg := fun q => bif Nat.beq q 13 then some sg_spec_l6Dirty_13 else D_spec_l6Dirty_0 q
theorem fr_spec_l6Dirty_1 : FrOk Try.prog ⟨E_spec_l6Dirty, 57, D_spec_l6Dirty_1⟩ B_spec_l6Dirty := (fr_spec_l6Dirty_0).loop (sg := sg_spec_l6Dirty_13) L_spec_l6Dirty_13 em_spec_l6Dirty_13 (by decide) a_spec_l6Dirty_13 stx_spec_l6Dirty_13 fu_spec_l6Dirty_13 (by decide) (fun _ => rfl) (fun x r _ h => h) r_spec_l6Dirty_13
abbrev I_spec_l6Dirty : List Par := [.rd tA]
abbrev U_spec_l6Dirty : List OT := [⟨false, tB, .fz⟩]
noncomputable def raw_spec_l6Dirty (a0 : dA) : Option (ResD U_spec_l6Dirty × MutD I_spec_l6Dirty) :=
  segM (F_spec_l6Dirty_13 ((((), ()), ((), ()), ()), ((a0.1, a0.2.1.1, a0.2.1.2, a0.2.2.1, a0.2.2.2.1, a0.2.2.2.2.1, a0.2.2.2.2.2.1, a0.2.2.2.2.2.2.1, a0.2.2.2.2.2.2.2.1, a0.2.2.2.2.2.2.2.2.1, a0.2.2.2.2.2.2.2.2.2.1, a0.2.2.2.2.2.2.2.2.2.2.1, a0.2.2.2.2.2.2.2.2.2.2.2, ()), ()), ())) (fun y4 =>
    some ((true, ()), ())) (fun y4 =>
    some ((y4.1.1.1, ()), ()))
theorem e_spec_l6Dirty (x : InD I_spec_l6Dirty) : execF ⟨E_spec_l6Dirty, 57, D_spec_l6Dirty_1⟩ Try.f142.results.toList B_spec_l6Dirty I_spec_l6Dirty U_spec_l6Dirty x = raw_spec_l6Dirty x.1 := by kernel_rfl
theorem ok0_spec_l6Dirty : ConOk Try.prog 142 ⟨I_spec_l6Dirty, U_spec_l6Dirty, fun x => raw_spec_l6Dirty x.1⟩ := conOk_exec (fr_spec_l6Dirty_1) Try.func142 (by kernel_rfl) (by kernel_rfl) Try.ntmps142.symm (by decide) (fun x r h => (e_spec_l6Dirty x).trans h)
noncomputable def n_spec_l6Dirty (a0 : dA) : Bool := dirtyOk a0.2.1 a0.2.2.2.2.2.2.2.2.1
noncomputable def q_spec_l6Dirty (a0 : dA) : Bool := n_spec_GeoOk a0.2.1
theorem spec_words_eq (l : List Int) : n_spec_l1Words l = l.all isW := by
  unfold n_spec_l1Words
  rw [show n_spec_l1Word = isW from funext fun x => by unfold n_spec_l1Word; rw [in_eq]; rfl]
theorem nn_spec_l6Dirty (a0 : dA) (hk : InOk I_spec_l6Dirty (a0, ())) (hq : q_spec_l6Dirty a0 = true) : raw_spec_l6Dirty a0 = (fun n => some ((n, ()), ())) (n_spec_l6Dirty a0) := by
  have hb : a0.2.2.2.2.2.2.2.2.1.length * 32 ≤ 2 ^ 47 := hk.1.2.2.2.2.2.2.2.2.1.1
  have hg := geo_iff.1 hq
  have h1 : F_spec_l6Dirty_13 (ms_spec_l6Dirty_13 a0) = some (bif (List.range a0.2.2.2.2.2.2.2.2.1.length).any (dirtBad a0.2.1 a0.2.2.2.2.2.2.2.2.1) then .inr (mz_spec_l6Dirty_13 false) else .inl mo_spec_l6Dirty_13) :=
    loopN_all (step := stx_spec_l6Dirty_13) (fun i => mk_spec_l6Dirty_13 i a0) a0.2.2.2.2.2.2.2.2.1.length (dirtBad a0.2.1 a0.2.2.2.2.2.2.2.2.1) _ _ (fun i hi => by
      simp only [stx_spec_l6Dirty_13, mk_spec_l6Dirty_13, st_spec_l6Dirty_13, ltb_t (show (i : Int) < a0.2.2.2.2.2.2.2.2.1.length by omega), cond_true, wr (show -9223372036854775808 ≤ (i : Int) + 1 by omega) (by omega), Int.natCast_add, Int.natCast_one, Int.toNat_natCast, inb_nat hi, in_eq, spec_words_eq, wr (show -9223372036854775808 ≤ a0.2.1.2 - 1 by omega) (by omega), wr (show -9223372036854775808 ≤ a0.2.1.1 - 1 by omega) (by omega), dirtBad]
      rcases Nat.eq_zero_or_pos i with rfl | h0
      · cases (leb 0 (nth a0.2.2.2.2.2.2.2.2.1 ((0 : Nat) : Int) (0, [])).1 && leb (nth a0.2.2.2.2.2.2.2.2.1 ((0 : Nat) : Int) (0, [])).1 (a0.2.1.2 - 1)) <;> cases (((nth a0.2.2.2.2.2.2.2.2.1 ((0 : Nat) : Int) (0, [])).2.length : Int) != a0.2.1.1 - 1) <;> cases ((nth a0.2.2.2.2.2.2.2.2.1 ((0 : Nat) : Int) (0, [])).2.all isW) <;> rfl
      · rw [show IntKind.i64.wrap ((i : Int) - 1) = ((i - 1 : Nat) : Int) by rw [wr (by omega) (by omega)]; omega, inb_nat (show i - 1 < a0.2.2.2.2.2.2.2.2.1.length by omega), ltb_t (show (0 : Int) < i by omega), decide_eq_true h0]
        cases (leb 0 (nth a0.2.2.2.2.2.2.2.2.1 (i : Int) (0, [])).1 && leb (nth a0.2.2.2.2.2.2.2.2.1 (i : Int) (0, [])).1 (a0.2.1.2 - 1)) <;> cases (((nth a0.2.2.2.2.2.2.2.2.1 (i : Int) (0, [])).2.length : Int) != a0.2.1.1 - 1) <;> cases ((nth a0.2.2.2.2.2.2.2.2.1 (i : Int) (0, [])).2.all isW) <;> cases leb (nth a0.2.2.2.2.2.2.2.2.1 (i : Int) (0, [])).1 (nth a0.2.2.2.2.2.2.2.2.1 ((i - 1 : Nat) : Int) (0, [])).1 <;> rfl) (by simp only [stx_spec_l6Dirty_13, mk_spec_l6Dirty_13, st_spec_l6Dirty_13, ltb_f (Int.le_refl _), cond_false]) _ (by show _ < 18446744073709551616; omega)
  unfold raw_spec_l6Dirty n_spec_l6Dirty dirtyOk
  rw [h1]
  cases (List.range a0.2.2.2.2.2.2.2.2.1.length).any (dirtBad a0.2.1 a0.2.2.2.2.2.2.2.2.1) <;> rfl
noncomputable def o_spec_l6Dirty (a0 : dA) : Option (ResD U_spec_l6Dirty × MutD I_spec_l6Dirty) := bif q_spec_l6Dirty a0 then (fun n => some ((n, ()), ())) (n_spec_l6Dirty a0) else none
theorem ot_spec_l6Dirty (a0 : dA) (h : q_spec_l6Dirty a0 = true) : o_spec_l6Dirty a0 = (fun n => some ((n, ()), ())) (n_spec_l6Dirty a0) := by unfold o_spec_l6Dirty; rw [h]; rfl
noncomputable def con_spec_l6Dirty : Con := ⟨I_spec_l6Dirty, U_spec_l6Dirty, fun x => o_spec_l6Dirty x.1⟩
theorem ok_spec_l6Dirty : ConOk Try.prog 142 con_spec_l6Dirty := (ok0_spec_l6Dirty).mono (fun x r hk h => pre_ok h (fun hq => nn_spec_l6Dirty x.1 hk hq))
end

/-! spec_ArrOk -/
section
noncomputable def B_spec_ArrOk : Code := (Try.f81.body).getD .skip
noncomputable def E_spec_ArrOk : Env := envOf TT [(82, con_spec_l1In), (140, con_spec_GeoOk), (141, con_spec_l6Mems), (142, con_spec_l6Dirty)] []
theorem fr_spec_ArrOk_0 : FrOk Try.prog ⟨E_spec_ArrOk, 78, fun _ => none⟩ B_spec_ArrOk := frOk_base mixed tt_ok ⟨ok_spec_l1In, ok_spec_GeoOk, ok_spec_l6Mems, ok_spec_l6Dirty, trivial⟩
noncomputable def D_spec_ArrOk_0 : Nat → Option Seg := fun _ => none
abbrev I_spec_ArrOk : List Par := [.rd tA]
abbrev U_spec_ArrOk : List OT := [⟨false, tB, .fz⟩]
noncomputable def raw_spec_ArrOk (a0 : dA) : Option (ResD U_spec_ArrOk × MutD I_spec_ArrOk) :=
  let r1 := n_spec_GeoOk a0.2.1
  bif (!(!r1)) then
    let r2 := n_spec_l1In a0.1 1 60000
    bif (!(!r2)) then
      bnd (o_spec_l6Mems a0) fun r3 =>
      bif (!(!r3.1.1)) then
        bnd (o_spec_l6Dirty a0) fun r4 =>
        bif (!r4.1.1) then
          some ((false, ()), ())
        else
          let r5 := n_spec_l1In a0.2.2.2.1 (-1) (IntKind.i64.wrap (a0.2.1.1 - 1))
          bif (!(!r5)) then
            let r6 := n_spec_l1In a0.2.2.2.2.1 0 a0.2.1.2
            bif (!(!r6)) then
              bif (a0.2.2.2.1 == (-1)) then
                bif (a0.2.2.2.2.1 != 0) then
                  some ((false, ()), ())
                else
                  let r7 := n_spec_l1In a0.2.2.2.2.2.2.1 0 60000
                  bif r7 then
                    let r8 := n_spec_l1In a0.2.2.2.2.2.1 a0.2.2.2.2.2.2.1 60000
                    bif r8 then
                      bif (leb a0.2.2.2.2.2.1 (IntKind.i64.wrap (a0.2.2.2.2.2.2.1 + 4))) then
                        let r9 := n_spec_l1In a0.2.2.2.2.2.2.2.1 0 60000
                        bif r9 then
                          let r10 := n_spec_l1In a0.2.2.2.2.2.2.2.2.2.1 (-1) 1000
                          some ((r10, ()), ())
                        else
                          some ((false, ()), ())
                      else
                        some ((false, ()), ())
                    else
                      some ((false, ()), ())
                  else
                    some ((false, ()), ())
              else
                let r11 := n_spec_l1In a0.2.2.2.2.2.2.1 0 60000
                bif r11 then
                  let r12 := n_spec_l1In a0.2.2.2.2.2.1 a0.2.2.2.2.2.2.1 60000
                  bif r12 then
                    bif (leb a0.2.2.2.2.2.1 (IntKind.i64.wrap (a0.2.2.2.2.2.2.1 + 4))) then
                      let r13 := n_spec_l1In a0.2.2.2.2.2.2.2.1 0 60000
                      bif r13 then
                        let r14 := n_spec_l1In a0.2.2.2.2.2.2.2.2.2.1 (-1) 1000
                        some ((r14, ()), ())
                      else
                        some ((false, ()), ())
                    else
                      some ((false, ()), ())
                  else
                    some ((false, ()), ())
                else
                  some ((false, ()), ())
            else
              some ((false, ()), ())
          else
            some ((false, ()), ())
      else
        some ((false, ()), ())
    else
      some ((false, ()), ())
  else
    some ((false, ()), ())
theorem e_spec_ArrOk (x : InD I_spec_ArrOk) : execF ⟨E_spec_ArrOk, 78, D_spec_ArrOk_0⟩ Try.f81.results.toList B_spec_ArrOk I_spec_ArrOk U_spec_ArrOk x = raw_spec_ArrOk x.1 := by kernel_rfl
theorem ok0_spec_ArrOk : ConOk Try.prog 81 ⟨I_spec_ArrOk, U_spec_ArrOk, fun x => raw_spec_ArrOk x.1⟩ := conOk_exec (fr_spec_ArrOk_0) Try.func81 (by kernel_rfl) (by kernel_rfl) Try.ntmps81.symm (by decide) (fun x r h => (e_spec_ArrOk x).trans h)
noncomputable def n_spec_ArrOk (a0 : dA) : Bool := arrOk a0
theorem nn_spec_ArrOk (a0 : dA) (hk : InOk I_spec_ArrOk (a0, ())) : raw_spec_ArrOk a0 = (fun n => some ((n, ()), ())) (n_spec_ArrOk a0) := by
  unfold raw_spec_ArrOk n_spec_ArrOk arrOk
  simp only [in_eq]
  cases hg : n_spec_GeoOk a0.2.1
  · rfl
  have hg2 := geo_iff.1 hg
  rw [ot_spec_l6Mems a0 hg, ot_spec_l6Dirty a0 hg, wr (show -9223372036854775808 ≤ a0.2.1.1 - 1 by omega) (by omega)]
  simp only [bnd_some, n_spec_l6Mems, n_spec_l6Dirty, Bool.not_not, cond_true]
  cases (leb 1 a0.1 && leb a0.1 60000)
  · rfl
  cases memsOk a0
  · rfl
  cases dirtyOk a0.2.1 a0.2.2.2.2.2.2.2.2.1
  · rfl
  cases (leb (-1) a0.2.2.2.1 && leb a0.2.2.2.1 (a0.2.1.1 - 1))
  · rfl
  cases (leb 0 a0.2.2.2.2.1 && leb a0.2.2.2.2.1 a0.2.1.2)
  · rfl
  have ht : (leb 0 a0.2.2.2.2.2.2.1 && leb a0.2.2.2.2.2.2.1 60000) = true → IntKind.i64.wrap (a0.2.2.2.2.2.2.1 + 4) = a0.2.2.2.2.2.2.1 + 4 := fun h => by
    rw [Bool.and_eq_true, leb_iff, leb_iff] at h
    exact wr (by omega) (by omega)
  cases hT : (leb 0 a0.2.2.2.2.2.2.1 && leb a0.2.2.2.2.2.2.1 60000)
  · cases (a0.2.2.2.1 == -1) <;> cases (a0.2.2.2.2.1 != 0) <;> rfl
  rw [ht hT]
  cases (leb a0.2.2.2.2.2.2.1 a0.2.2.2.2.2.1 && leb a0.2.2.2.2.2.1 60000)
  · cases (a0.2.2.2.1 == -1) <;> cases (a0.2.2.2.2.1 != 0) <;> rfl
  cases leb a0.2.2.2.2.2.1 (a0.2.2.2.2.2.2.1 + 4)
  · cases (a0.2.2.2.1 == -1) <;> cases (a0.2.2.2.2.1 != 0) <;> rfl
  cases (leb 0 a0.2.2.2.2.2.2.2.1 && leb a0.2.2.2.2.2.2.2.1 60000) <;> cases (a0.2.2.2.1 == -1) <;> cases (a0.2.2.2.2.1 != 0) <;> rfl
noncomputable def con_spec_ArrOk : Con := ⟨I_spec_ArrOk, U_spec_ArrOk, fun x => (fun n => some ((n, ()), ())) (n_spec_ArrOk x.1)⟩
theorem ok_spec_ArrOk : ConOk Try.prog 81 con_spec_ArrOk := (ok0_spec_ArrOk).mono (fun x r hk h => (nn_spec_ArrOk x.1 hk).trans h)
end

/-! spec_Bare -/
section
noncomputable def B_spec_Bare : Code := (Try.f53.body).getD .skip
noncomputable def E_spec_Bare : Env := envOf TT [(30, con_spec_XorAt), (81, con_spec_ArrOk)] []
theorem fr_spec_Bare_0 : FrOk Try.prog ⟨E_spec_Bare, 29, fun _ => none⟩ B_spec_Bare := frOk_base mixed tt_ok ⟨ok_spec_XorAt, ok_spec_ArrOk, trivial⟩
noncomputable def D_spec_Bare_0 : Nat → Option Seg := fun _ => none
def L_spec_Bare_29 : Shape := ⟨[(1, false, [.ptr 0 0]), (3, false, [.int .i64]), (4, false, [.int .i64])], [(0, [.int .i64, .int .i64, .int .i64, .br tM, .int .i64, .int .i64, .int .i64, .int .i64, .int .i64, .br tW, .int .i64, .bool, .bool])], []⟩
def S_spec_Bare_29 : Shape := ⟨[(1, false, [.ptr 0 0]), (3, false, [.ci .i64 0]), (4, false, [.ci .i64 0])], [(0, [.int .i64, .int .i64, .int .i64, .br tM, .int .i64, .int .i64, .int .i64, .int .i64, .int .i64, .br tW, .int .i64, .bool, .bool])], []⟩
def O_spec_Bare_29 : Shape := ⟨[(3, false, [.int .i64])], [], []⟩
def Z_spec_Bare_29 : Shape := ⟨[], [], []⟩
abbrev mk_spec_Bare_29 (v0 : Int) (v1 : Int) (v2 : dA) : (L_spec_Bare_29).X := ((((), ()), (v0, ()), (v1, ()), ()), ((v2.1, v2.2.1.1, v2.2.1.2, v2.2.2.1, v2.2.2.2.1, v2.2.2.2.2.1, v2.2.2.2.2.2.1, v2.2.2.2.2.2.2.1, v2.2.2.2.2.2.2.2.1, v2.2.2.2.2.2.2.2.2.1, v2.2.2.2.2.2.2.2.2.2.1, v2.2.2.2.2.2.2.2.2.2.2.1, v2.2.2.2.2.2.2.2.2.2.2.2, ()), ()), ())
abbrev ms_spec_Bare_29 (v0 : dA) : (S_spec_Bare_29).X := ((((), ()), ((), ()), ((), ()), ()), ((v0.1, v0.2.1.1, v0.2.1.2, v0.2.2.1, v0.2.2.2.1, v0.2.2.2.2.1, v0.2.2.2.2.2.1, v0.2.2.2.2.2.2.1, v0.2.2.2.2.2.2.2.1, v0.2.2.2.2.2.2.2.2.1, v0.2.2.2.2.2.2.2.2.2.1, v0.2.2.2.2.2.2.2.2.2.2.1, v0.2.2.2.2.2.2.2.2.2.2.2, ()), ()), ())
abbrev mo_spec_Bare_29 (v0 : Int) : (O_spec_Bare_29).X := (((v0, ()), ()), (), ())
noncomputable def st_spec_Bare_29 (v0 : Int) (v1 : Int) (v2 : Int) (v3 : Int) (v4 : Int) (v5 : List dM) (v6 : Int) (v7 : Int) (v8 : Int) (v9 : Int) (v10 : Int) (v11 : List dW) (v12 : Int) (v13 : Bool) (v14 : Bool) : Option ((L_spec_Bare_29).X ⊕ ((O_spec_Bare_29).X ⊕ (Z_spec_Bare_29).X)) :=
  bif (ltb v1 v4) then
    let r3 := n_spec_ArrOk (v2, (v3, v4), v5, v6, v7, v8, v9, v10, v11, v12, v13, v14)
    bif r3 then
      let r4 := n_spec_XorAt (v2, (v3, v4), v5, v6, v7, v8, v9, v10, v11, v12, v13, v14) v1
      bif (!r4.2) then
        some (.inl ((((), ()), ((IntKind.i64.wrap (v0 + 1)), ()), ((IntKind.i64.wrap (v1 + 1)), ()), ()), ((v2, v3, v4, v5, v6, v7, v8, v9, v10, v11, v12, v13, v14, ()), ()), ()))
      else
        some (.inl ((((), ()), (v0, ()), ((IntKind.i64.wrap (v1 + 1)), ()), ()), ((v2, v3, v4, v5, v6, v7, v8, v9, v10, v11, v12, v13, v14, ()), ()), ()))
    else
      some (.inr (.inl (((v0, ()), ()), (), ())))
  else
    some (.inr (.inl (((v0, ()), ()), (), ())))
noncomputable def stx_spec_Bare_29 (x : (L_spec_Bare_29).X) := st_spec_Bare_29 x.1.2.1.1 x.1.2.2.1.1 x.2.1.1.1 x.2.1.1.2.1 x.2.1.1.2.2.1 x.2.1.1.2.2.2.1 x.2.1.1.2.2.2.2.1 x.2.1.1.2.2.2.2.2.1 x.2.1.1.2.2.2.2.2.2.1 x.2.1.1.2.2.2.2.2.2.2.1 x.2.1.1.2.2.2.2.2.2.2.2.1 x.2.1.1.2.2.2.2.2.2.2.2.2.1 x.2.1.1.2.2.2.2.2.2.2.2.2.2.1 x.2.1.1.2.2.2.2.2.2.2.2.2.2.2.1 x.2.1.1.2.2.2.2.2.2.2.2.2.2.2.2.1
def em_spec_Bare_29 (x : (S_spec_Bare_29).X) : (L_spec_Bare_29).X := ((((), ()), (0, ()), (0, ()), ()), ((x.2.1.1.1, x.2.1.1.2.1, x.2.1.1.2.2.1, x.2.1.1.2.2.2.1, x.2.1.1.2.2.2.2.1, x.2.1.1.2.2.2.2.2.1, x.2.1.1.2.2.2.2.2.2.1, x.2.1.1.2.2.2.2.2.2.2.1, x.2.1.1.2.2.2.2.2.2.2.2.1, x.2.1.1.2.2.2.2.2.2.2.2.2.1, x.2.1.1.2.2.2.2.2.2.2.2.2.2.1, x.2.1.1.2.2.2.2.2.2.2.2.2.2.2.1, x.2.1.1.2.2.2.2.2.2.2.2.2.2.2.2.1, ()), ()), ())
noncomputable def c_spec_Bare_29 : Code := (subN B_spec_Bare 64 116).getD .skip
theorem a_spec_Bare_29 : subN B_spec_Bare 64 29 = some (.block 0 (.loop c_spec_Bare_29)) := by kernel_rfl
theorem r_spec_Bare_29 (x : (L_spec_Bare_29).X) : roundT ⟨E_spec_Bare, 29, D_spec_Bare_0⟩ 0 c_spec_Bare_29 116 L_spec_Bare_29 O_spec_Bare_29 Z_spec_Bare_29 x = stx_spec_Bare_29 x := by kernel_rfl
noncomputable def fu_spec_Bare_29 (x : (S_spec_Bare_29).X) : Nat := (fun (u0 : Int) (u1 : Int) (u2 : Int) (u3 : List dM) (u4 : Int) (u5 : Int) (u6 : Int) (u7 : Int) (u8 : Int) (u9 : List dW) (u10 : Int) (u11 : Bool) (u12 : Bool) => 18446744073709551616) x.2.1.1.1 x.2.1.1.2.1 x.2.1.1.2.2.1 x.2.1.1.2.2.2.1 x.2.1.1.2.2.2.2.1 x.2.1.1.2.2.2.2.2.1 x.2.1.1.2.2.2.2.2.2.1 x.2.1.1.2.2.2.2.2.2.2.1 x.2.1.1.2.2.2.2.2.2.2.2.1 x.2.1.1.2.2.2.2.2.2.2.2.2.1 x.2.1.1.2.2.2.2.2.2.2.2.2.2.1 x.2.1.1.2.2.2.2.2.2.2.2.2.2.2.1 x.2.1.1.2.2.2.2.2.2.2.2.2.2.2.2.1
noncomputable def F_spec_Bare_29 (x : (S_spec_Bare_29).X) : Option ((O_spec_Bare_29).X ⊕ (Z_spec_Bare_29).X) := loopN stx_spec_Bare_29 (fu_spec_Bare_29 x) (em_spec_Bare_29 x)
noncomputable def sg_spec_Bare_29 : Seg := ⟨S_spec_Bare_29, O_spec_Bare_29, Z_spec_Bare_29, F_spec_Bare_29⟩
noncomputable def D_spec_Bare_1 : Nat → Option Seg := fun q => bif Nat.beq q 29 then some sg_spec_Bare_29 else D_spec_Bare_0 q
theorem fr_spec_Bare_1 : FrOk Try.prog ⟨E_spec_Bare, 29, D_spec_Bare_1⟩ B_spec_Bare := (fr_spec_Bare_0).loop (sg := sg_spec_Bare_29) L_spec_Bare_29 em_spec_Bare_29 (by decide) a_spec_Bare_29 stx_spec_Bare_29 fu_spec_Bare_29 (by decide) (fun _ => rfl) (fun x r _ h => h) r_spec_Bare_29
abbrev I_spec_Bare : List Par := [.rd tA]
abbrev U_spec_Bare : List OT := [⟨false, tI, .fz⟩]
noncomputable def raw_spec_Bare (a0 : dA) : Option (ResD U_spec_Bare × MutD I_spec_Bare) :=
  segM (F_spec_Bare_29 ((((), ()), ((), ()), ((), ()), ()), ((a0.1, a0.2.1.1, a0.2.1.2, a0.2.2.1, a0.2.2.2.1, a0.2.2.2.2.1, a0.2.2.2.2.2.1, a0.2.2.2.2.2.2.1, a0.2.2.2.2.2.2.2.1, a0.2.2.2.2.2.2.2.2.1, a0.2.2.2.2.2.2.2.2.2.1, a0.2.2.2.2.2.2.2.2.2.2.1, a0.2.2.2.2.2.2.2.2.2.2.2, ()), ()), ())) (fun y4 =>
    some ((y4.1.1.1, ()), ())) (fun y4 =>
    none)
theorem e_spec_Bare (x : InD I_spec_Bare) : execF ⟨E_spec_Bare, 29, D_spec_Bare_1⟩ Try.f53.results.toList B_spec_Bare I_spec_Bare U_spec_Bare x = raw_spec_Bare x.1 := by kernel_rfl
theorem ok0_spec_Bare : ConOk Try.prog 53 ⟨I_spec_Bare, U_spec_Bare, fun x => raw_spec_Bare x.1⟩ := conOk_exec (fr_spec_Bare_1) Try.func53 (by kernel_rfl) (by kernel_rfl) Try.ntmps53.symm (by decide) (fun x r h => (e_spec_Bare x).trans h)
noncomputable def n_spec_Bare (a0 : dA) : Int := bare a0
theorem nn_spec_Bare (a0 : dA) (hk : InOk I_spec_Bare (a0, ())) : raw_spec_Bare a0 = (fun n => some ((n, ()), ())) (n_spec_Bare a0) := by
  unfold raw_spec_Bare n_spec_Bare bare
  cases ha : arrOk a0
  · have h1 : F_spec_Bare_29 (ms_spec_Bare_29 a0) = some (.inl (mo_spec_Bare_29 0)) :=
      loopN_up (step := stx_spec_Bare_29) (fun i => mk_spec_Bare_29 0 i a0) 0 _ (fun i hi => absurd hi (Nat.not_lt_zero _)) (by
        simp only [stx_spec_Bare_29, mk_spec_Bare_29, st_spec_Bare_29, pr_eta, n_spec_ArrOk, ha]
        cases ltb ((0 : Nat) : Int) a0.2.1.2 <;> rfl) _ (by show _ < 18446744073709551616; omega)
    rw [h1]; rfl
  have hg := geo_iff.1 (arrOk_geo ha)
  have h1 : F_spec_Bare_29 (ms_spec_Bare_29 a0) = some (.inl (mo_spec_Bare_29 ((lacks (fun (s : Nat) => (xorAt a0 s).2) a0.2.1.2.toNat : Nat) : Int))) :=
    loopN_up (step := stx_spec_Bare_29) (fun i => mk_spec_Bare_29 ((lacks (fun (s : Nat) => (xorAt a0 s).2) i : Nat) : Int) i a0) a0.2.1.2.toNat _ (fun i hi => by
      have := lacks_le (fun (s : Nat) => (xorAt a0 s).2) i
      simp only [stx_spec_Bare_29, mk_spec_Bare_29, st_spec_Bare_29, ltb_t (show (i : Int) < a0.2.1.2 by omega), cond_true, wr (show -9223372036854775808 ≤ (i : Int) + 1 by omega) (by omega), Int.natCast_add, Int.natCast_one, Int.toNat_natCast, pr_eta, n_spec_ArrOk, ha, n_spec_XorAt, lacks_succ, wr (show -9223372036854775808 ≤ ((lacks (fun (s : Nat) => (xorAt a0 s).2) i : Nat) : Int) + 1 by omega) (by omega)]
      cases (xorAt a0 i).2 <;> rfl) (by simp only [stx_spec_Bare_29, mk_spec_Bare_29, st_spec_Bare_29, ltb_f (show a0.2.1.2 ≤ (a0.2.1.2.toNat : Int) by omega), cond_false]) _ (by show _ < 18446744073709551616; omega)
  rw [h1]; rfl
noncomputable def con_spec_Bare : Con := ⟨I_spec_Bare, U_spec_Bare, fun x => (fun n => some ((n, ()), ())) (n_spec_Bare x.1)⟩
theorem ok_spec_Bare : ConOk Try.prog 53 con_spec_Bare := (ok0_spec_Bare).mono (fun x r hk h => (nn_spec_Bare x.1 hk).trans h)
end

/-! impl_XorOf -/
section
noncomputable def B_impl_XorOf : Code := (Try.f66.body).getD .skip
noncomputable def E_impl_XorOf : Env := envOf TT [] []
theorem fr_impl_XorOf_0 : FrOk Try.prog ⟨E_impl_XorOf, 17, fun _ => none⟩ B_impl_XorOf := frOk_base mixed tt_ok trivial
noncomputable def D_impl_XorOf_0 : Nat → Option Seg := fun _ => none
def L_impl_XorOf_29 : Shape := ⟨[(3, false, [.int .i64]), (6, false, [.br tI]), (7, false, [.int .i64]), (8, false, [.int .i64])], [], []⟩
def S_impl_XorOf_29 : Shape := ⟨[(3, false, [.ci .i64 0]), (6, false, [.br tI]), (7, false, [.int .i64]), (8, false, [.ci .i64 0])], [], []⟩
def O_impl_XorOf_29 : Shape := ⟨[(3, false, [.int .i64])], [], []⟩
def Z_impl_XorOf_29 : Shape := ⟨[], [], []⟩
abbrev mk_impl_XorOf_29 (v0 : Int) (v1 : List Int) (v2 : Int) (v3 : Int) : (L_impl_XorOf_29).X := (((v0, ()), (v1, ()), (v2, ()), (v3, ()), ()), (), ())
abbrev ms_impl_XorOf_29 (v0 : List Int) (v1 : Int) : (S_impl_XorOf_29).X := ((((), ()), (v0, ()), (v1, ()), ((), ()), ()), (), ())
abbrev mo_impl_XorOf_29 (v0 : Int) : (O_impl_XorOf_29).X := (((v0, ()), ()), (), ())
noncomputable def st_impl_XorOf_29 (v0 : Int) (v1 : List Int) (v2 : Int) (v3 : Int) : Option ((L_impl_XorOf_29).X ⊕ ((O_impl_XorOf_29).X ⊕ (Z_impl_XorOf_29).X)) :=
  bif (ltb v3 v2) then
    bif (inb v3 v1.length) then
      some (.inl ((((IntKind.i64.wrap ((BitVec.ofInt IntKind.i64.bits v0 ^^^ BitVec.ofInt IntKind.i64.bits (nth v1 v3 0)).toNat : Int)), ()), (v1, ()), (v2, ()), ((IntKind.i64.wrap (v3 + 1)), ()), ()), (), ()))
    else none
  else
    some (.inr (.inl (((v0, ()), ()), (), ())))
noncomputable def stx_impl_XorOf_29 (x : (L_impl_XorOf_29).X) := st_impl_XorOf_29 x.1.1.1 x.1.2.1.1 x.1.2.2.1.1 x.1.2.2.2.1.1
def em_impl_XorOf_29 (x : (S_impl_XorOf_29).X) : (L_impl_XorOf_29).X := (((0, ()), (x.1.2.1.1, ()), (x.1.2.2.1.1, ()), (0, ()), ()), (), ())
noncomputable def c_impl_XorOf_29 : Code := (subN B_impl_XorOf 64 116).getD .skip
theorem a_impl_XorOf_29 : subN B_impl_XorOf 64 29 = some (.block 0 (.loop c_impl_XorOf_29)) := by kernel_rfl
theorem r_impl_XorOf_29 (x : (L_impl_XorOf_29).X) : roundT ⟨E_impl_XorOf, 17, D_impl_XorOf_0⟩ 0 c_impl_XorOf_29 116 L_impl_XorOf_29 O_impl_XorOf_29 Z_impl_XorOf_29 x = stx_impl_XorOf_29 x := by kernel_rfl
noncomputable def fu_impl_XorOf_29 (x : (S_impl_XorOf_29).X) : Nat := (fun (u0 : List Int) (u1 : Int) => 18446744073709551616) x.1.2.1.1 x.1.2.2.1.1
noncomputable def F_impl_XorOf_29 (x : (S_impl_XorOf_29).X) : Option ((O_impl_XorOf_29).X ⊕ (Z_impl_XorOf_29).X) := loopN stx_impl_XorOf_29 (fu_impl_XorOf_29 x) (em_impl_XorOf_29 x)
noncomputable def sg_impl_XorOf_29 : Seg := ⟨S_impl_XorOf_29, O_impl_XorOf_29, Z_impl_XorOf_29, F_impl_XorOf_29⟩
noncomputable def D_impl_XorOf_1 : Nat → Option Seg := fun q => bif Nat.beq q 29 then some sg_impl_XorOf_29 else D_impl_XorOf_0 q
theorem fr_impl_XorOf_1 : FrOk Try.prog ⟨E_impl_XorOf, 17, D_impl_XorOf_1⟩ B_impl_XorOf := (fr_impl_XorOf_0).loop (sg := sg_impl_XorOf_29) L_impl_XorOf_29 em_impl_XorOf_29 (by decide) a_impl_XorOf_29 stx_impl_XorOf_29 fu_impl_XorOf_29 (by decide) (fun _ => rfl) (fun x r _ h => h) r_impl_XorOf_29
abbrev I_impl_XorOf : List Par := [.rd tL]
abbrev U_impl_XorOf : List OT := [⟨false, tI, .fz⟩]
noncomputable def raw_impl_XorOf (a0 : List Int) : Option (ResD U_impl_XorOf × MutD I_impl_XorOf) :=
  segM (F_impl_XorOf_29 ((((), ()), (a0, ()), ((a0.length : Int), ()), ((), ()), ()), (), ())) (fun y0 =>
    some ((y0.1.1.1, ()), ())) (fun y0 =>
    none)
theorem e_impl_XorOf (x : InD I_impl_XorOf) : execF ⟨E_impl_XorOf, 17, D_impl_XorOf_1⟩ Try.f66.results.toList B_impl_XorOf I_impl_XorOf U_impl_XorOf x = raw_impl_XorOf x.1 := by kernel_rfl
theorem ok0_impl_XorOf : ConOk Try.prog 66 ⟨I_impl_XorOf, U_impl_XorOf, fun x => raw_impl_XorOf x.1⟩ := conOk_exec (fr_impl_XorOf_1) Try.func66 (by kernel_rfl) (by kernel_rfl) Try.ntmps66.symm (by decide) (fun x r h => (e_impl_XorOf x).trans h)
noncomputable def n_impl_XorOf (a0 : List Int) : Int := xorOf a0
theorem nn_impl_XorOf (a0 : List Int) (hk : InOk I_impl_XorOf (a0, ())) : raw_impl_XorOf a0 = (fun n => some ((n, ()), ())) (n_impl_XorOf a0) := by
  have hb : a0.length * 8 ≤ 2 ^ 47 := hk.1.1
  have h1 : F_impl_XorOf_29 (ms_impl_XorOf_29 a0 a0.length) = some (.inl (mo_impl_XorOf_29 (xorOf a0))) :=
    loopN_fold (step := stx_impl_XorOf_29) a0 0 (fun i s => mk_impl_XorOf_29 s a0 a0.length i) xw (fun _ _ => True) (fun s => .inl (mo_impl_XorOf_29 s)) (fun i s hi _ => ⟨by
      simp only [stx_impl_XorOf_29, mk_impl_XorOf_29, st_impl_XorOf_29, ltb_t (show (i : Int) < a0.length by omega), cond_true, wr (show -9223372036854775808 ≤ (i : Int) + 1 by omega) (by omega), Int.natCast_add, Int.natCast_one, Int.toNat_natCast, inb_nat hi, nth_nat]; rfl, trivial⟩) (fun s _ => by simp only [stx_impl_XorOf_29, mk_impl_XorOf_29, st_impl_XorOf_29, ltb_f (Int.le_refl _), cond_false]) 0 trivial _ (by show _ < 18446744073709551616; omega)
  unfold raw_impl_XorOf n_impl_XorOf
  rw [h1]; rfl
noncomputable def con_impl_XorOf : Con := ⟨I_impl_XorOf, U_impl_XorOf, fun x => (fun n => some ((n, ()), ())) (n_impl_XorOf x.1)⟩
theorem ok_impl_XorOf : ConOk Try.prog 66 con_impl_XorOf := (ok0_impl_XorOf).mono (fun x r hk h => (nn_impl_XorOf x.1 hk).trans h)
end

/-! impl_copyInts -/
section
noncomputable def B_impl_copyInts : Code := (Try.f97.body).getD .skip
noncomputable def E_impl_copyInts : Env := envOf TT [] []
theorem fr_impl_copyInts_0 : FrOk Try.prog ⟨E_impl_copyInts, 6, fun _ => none⟩ B_impl_copyInts := frOk_base mixed tt_ok trivial
noncomputable def D_impl_copyInts_0 : Nat → Option Seg := fun _ => none
abbrev I_impl_copyInts : List Par := [.rd tL]
abbrev U_impl_copyInts : List OT := [⟨false, tL, (.ow .fz)⟩]
noncomputable def raw_impl_copyInts (a0 : List Int) : Option (ResD U_impl_copyInts × MutD I_impl_copyInts) :=
  bif (apok ([] : List Int).length a0.length 8) then
    some (((([] : List Int) ++ a0), ()), ())
  else none
theorem e_impl_copyInts (x : InD I_impl_copyInts) : execF ⟨E_impl_copyInts, 6, D_impl_copyInts_0⟩ Try.f97.results.toList B_impl_copyInts I_impl_copyInts U_impl_copyInts x = raw_impl_copyInts x.1 := by kernel_rfl
theorem ok0_impl_copyInts : ConOk Try.prog 97 ⟨I_impl_copyInts, U_impl_copyInts, fun x => raw_impl_copyInts x.1⟩ := conOk_exec (fr_impl_copyInts_0) Try.func97 (by kernel_rfl) (by kernel_rfl) Try.ntmps97.symm (by decide) (fun x r h => (e_impl_copyInts x).trans h)
noncomputable def n_impl_copyInts (a0 : List Int) : List Int := a0
theorem nn_impl_copyInts (a0 : List Int) (hk : InOk I_impl_copyInts (a0, ())) : raw_impl_copyInts a0 = (fun n => some ((n, ()), ())) (n_impl_copyInts a0) := by
  have hb : a0.length * 8 ≤ 2 ^ 47 := hk.1.1
  unfold raw_impl_copyInts n_impl_copyInts
  rw [show apok ([] : List Int).length a0.length 8 = true by rw [apok_iff, List.length_nil]; omega]
  rfl
noncomputable def con_impl_copyInts : Con := ⟨I_impl_copyInts, U_impl_copyInts, fun x => (fun n => some ((n, ()), ())) (n_impl_copyInts x.1)⟩
theorem ok_impl_copyInts : ConOk Try.prog 97 con_impl_copyInts := (ok0_impl_copyInts).mono (fun x r hk h => (nn_impl_copyInts x.1 hk).trans h)
end
end Go.Tf
