/- Functions of the program, and what they come to. -/
import Derived.Test.YtmamkjioahnecaaExactAssembleF6
namespace Go.Tf
open Go.Proofs
set_option synthInstance.maxHeartbeats 400000
set_option synthInstance.maxSize 10000
set_option linter.unusedVariables false
set_option linter.unusedSimpArgs false
set_option maxRecDepth 100000
/-! spec_l6Dirty -/
section
noncomputable def B_spec_l6Dirty : Code := (Try.f142.body).getD .skip
noncomputable def E_spec_l6Dirty : Env := envOf TT [(82, con_spec_l1In), (176, con_spec_l1Words)] []
theorem fr_spec_l6Dirty_0 : FrOk Try.prog ⟨E_spec_l6Dirty, 57, fun _ => none⟩ B_spec_l6Dirty := frOk_base mixed tt_ok ⟨ok_spec_l1In, ok_spec_l1Words, trivial⟩
noncomputable def D_spec_l6Dirty_0 : Nat → Option Seg := fun _ => none
def L_spec_l6Dirty_13 : Shape := ⟨[(1, false, [.ptr 0 0]), (3, false, [.int .i64])], [(0, [.int .i64, .int .i64, .int .i64, .br tM, .int .i64, .int .i64, .int .i64, .int .i64, .int .i64, .br tW, .int .i64, .bool, .bool])], []⟩
def S_spec_l6Dirty_13 : Shape := ⟨[(1, false, [.ptr 0 0]), (3, false, [.ci .i64 0])], [(0, [.int .i64, .int .i64, .int .i64, .br tM, .int .i64, .int .i64, .int .i64, .int .i64, .int .i64, .br tW, .int .i64, .bool, .bool])], []⟩
def O_spec_l6Dirty_13 : Shape := ⟨[], [], []⟩
def Z_spec_l6Dirty_13 : Shape := ⟨[(2, false, [.bool])], [], []⟩
abbrev mk_spec_l6Dirty_13 (v0 : Int) (v1 : dA) : (L_spec_l6Dirty_13).X := ((((), ()), (v0, ()), ()), ((v1.1, v1.2.1.1, v1.2.1.2, v1.2.2.1, v1.2.2.2.1, v1.2.2.2.2.1, v1.2.2.2.2.2.1, v1.2.2.2.2.2.2.1, v1.2.2.2.2.2.2.2.1, v1.2.2.2.2.2.2.2.2.1, v1.2.2.2.2.2.2.2.2.2.1, v1.2.2.2.2.2.2.2.2.2.2.1, v1.2.2.2.2.2.2.2.2.2.2.2, ()), ()), ())
abbrev ms_spec_l6Dirty_13 (v0 : dA) : (S_spec_l6Dirty_13).X := ((((), ()), ((), ()), ()), ((v0.1, v0.2.1.1, v0.2.1.2, v0.2.2.1, v0.2.2.2.1, v0.2.2.2.2.1, v0.2.2.2.2.2.1, v0.2.2.2.2.2.2.1, v0.2.2.2.2.2.2.2.1, v0.2.2.2.2.2.2.2.2.1, v0.2.2.2.2.2.2.2.2.2.1, v0.2.2.2.2.2.2.2.2.2.2.1, v0.2.2.2.2.2.2.2.2.2.2.2, ()), ()), ())
abbrev mo_spec_l6Dirty_13  : (O_spec_l6Dirty_13).X := ((), (), ())
abbrev mz_spec_l6Dirty_13 (v0 : Bool) : (Z_spec_l6Dirty_13).X := (((v0, ()), ()), (), ())
noncomputable def st_spec_l6Dirty_13 (v0 : Int) (v1 : Int) (v2 : Int) (v3 : Int) (v4 : List dM) (v5 : Int) (v6 : Int) (v7 : Int) (v8 : Int) (v9 : Int) (v10 : List dW) (v11 : Int) (v12 : Bool) (v13 : Bool) : Option ((L_spec_l6Dirty_13).X ⊕ ((O_spec_l6Dirty_13).X ⊕ (Z_spec_l6Dirty_13).X)) :=
  bif (ltb v0 (v10.length : Int)) then
    bif (inb v0 v10.length) then
      let r3 := n_spec_l1In ((nth v10 v0 (0, [])).1) 0 (IntKind.i64.wrap (v3 - 1))
      bif (!(!r3)) then
        bif (!((((nth v10 v0 (0, [])).2).length : Int) != (IntKind.i64.wrap (v2 - 1)))) then
          let r4 := n_spec_l1Words ((nth v10 v0 (0, [])).2)
          bif (!(!r4)) then
            bif (ltb 0 v0) then
              bif (inb (IntKind.i64.wrap (v0 - 1)) v10.length) then
                bif (leb ((nth v10 v0 (0, [])).1) ((nth v10 (IntKind.i64.wrap (v0 - 1)) (0, [])).1)) then
                  some (.inr (.inr (((false, ()), ()), (), ())))
                else
                  some (.inl ((((), ()), ((IntKind.i64.wrap (v0 + 1)), ()), ()), ((v1, v2, v3, v4, v5, v6, v7, v8, v9, v10, v11, v12, v13, ()), ()), ()))
              else none
            else
              some (.inl ((((), ()), ((IntKind.i64.wrap (v0 + 1)), ()), ()), ((v1, v2, v3, v4, v5, v6, v7, v8, v9, v10, v11, v12, v13, ()), ()), ()))
          else
            some (.inr (.inr (((false, ()), ()), (), ())))
        else
          some (.inr (.inr (((false, ()), ()), (), ())))
      else
        some (.inr (.inr (((false, ()), ()), (), ())))
    else none
  else
    some (.inr (.inl ((), (), ())))
noncomputable def stx_spec_l6Dirty_13 (x : (L_spec_l6Dirty_13).X) := st_spec_l6Dirty_13 x.1.2.1.1 x.2.1.1.1 x.2.1.1.2.1 x.2.1.1.2.2.1 x.2.1.1.2.2.2.1 x.2.1.1.2.2.2.2.1 x.2.1.1.2.2.2.2.2.1 x.2.1.1.2.2.2.2.2.2.1 x.2.1.1.2.2.2.2.2.2.2.1 x.2.1.1.2.2.2.2.2.2.2.2.1 x.2.1.1.2.2.2.2.2.2.2.2.2.1 x.2.1.1.2.2.2.2.2.2.2.2.2.2.1 x.2.1.1.2.2.2.2.2.2.2.2.2.2.2.1 x.2.1.1.2.2.2.2.2.2.2.2.2.2.2.2.1
def em_spec_l6Dirty_13 (x : (S_spec_l6Dirty_13).X) : (L_spec_l6Dirty_13).X := ((((), ()), (0, ()), ()), ((x.2.1.1.1, x.2.1.1.2.1, x.2.1.1.2.2.1, x.2.1.1.2.2.2.1, x.2.1.1.2.2.2.2.1, x.2.1.1.2.2.2.2.2.1, x.2.1.1.2.2.2.2.2.2.1, x.2.1.1.2.2.2.2.2.2.2.1, x.2.1.1.2.2.2.2.2.2.2.2.1, x.2.1.1.2.2.2.2.2.2.2.2.2.1, x.2.1.1.2.2.2.2.2.2.2.2.2.2.1, x.2.1.1.2.2.2.2.2.2.2.2.2.2.2.1, x.2.1.1.2.2.2.2.2.2.2.2.2.2.2.2.1, ()), ()), ())
noncomputable def c_spec_l6Dirty_13 : Code := (subN B_spec_l6Dirty 64 52).getD .skip
theorem a_spec_l6Dirty_13 : subN B_spec_l6Dirty 64 13 = some (.block 0 (.loop c_spec_l6Dirty_13)) := by kernel_rfl
theorem r_spec_l6Dirty_13 (x : (L_spec_l6Dirty_13).X) : roundT ⟨E_spec_l6Dirty, 57, D_spec_l6Dirty_0⟩ 0 c_spec_l6Dirty_13 52 L_spec_l6Dirty_13 O_spec_l6Dirty_13 Z_spec_l6Dirty_13 x = stx_spec_l6Dirty_13 x := by kernel_rfl
noncomputable def fu_spec_l6Dirty_13 (x : (S_spec_l6Dirty_13).X) : Nat := (fun (u0 : Int) (u1 : Int) (u2 : Int) (u3 : List dM) (u4 : Int) (u5 : Int) (u6 : Int) (u7 : Int) (u8 : Int) (u9 : List dW) (u10 : Int) (u11 : Bool) (u12 : Bool) => 18446744073709551616) x.2.1.1.1 x.2.1.1.2.1 x.2.1.1.2.2.1 x.2.1.1.2.2.2.1 x.2.1.1.2.2.2.2.1 x.2.1.1.2.2.2.2.2.1 x.2.1.1.2.2.2.2.2.2.1 x.2.1.1.2.2.2.2.2.2.2.1 x.2.1.1.2.2.2.2.2.2.2.2.1 x.2.1.1.2.2.2.2.2.2.2.2.2.1 x.2.1.1.2.2.2.2.2.2.2.2.2.2.1 x.2.1.1.2.2.2.2.2.2.2.2.2.2.2.1 x.2.1.1.2.2.2.2.2.2.2.2.2.2.2.2.1
noncomputable def F_spec_l6Dirty_13 (x : (S_spec_l6Dirty_13).X) : Option ((O_spec_l6Dirty_13).X ⊕ (Z_spec_l6Dirty_13).X) := loopN stx_spec_l6Dirty_13 (fu_spec_l6Dirty_13 x) (em_spec_l6Dirty_13 x)
noncomputable def sg_spec_l6Dirty_13 : Seg := ⟨S_spec_l6Dirty_13, O_spec_l6Dirty_13, Z_spec_l6Dirty_13, F_spec_l6Dirty_13⟩
noncomputable def D_spec_l6Dirty_1 : Nat → Option Seg := fun q => bif Nat.beq q 13 then some sg_spec_l6Dirty_13 else D_spec_l6Dirty_0 q
theorem fr_spec_l6Dirty_1 : FrOk Try.prog ⟨E_spec_l6Dirty, 57, D_spec_l6Dirty_1⟩ B_spec_l6Dirty := (fr_spec_l6Dirty_0).loop (sg := sg_spec_l6Dirty_13) L_spec_l6Dirty_13 em_spec_l6Dirty_13 (by decide) a_spec_l6Dirty_13 stx_spec_l6Dirty_13 fu_spec_l6Dirty_13 (by decide) (fun _ => rfl) (fun x r _ h => h) r_spec_l6Dirty_13
abbrev I_spec_l6Dirty : List Par := [.rd tA]
abbrev U_spec_l6Dirty : List OT := [⟨false, tB, .fz⟩]
noncomputable def raw_spec_l6Dirty (a0 : dA) : Option (ResD U_spec_l6Dirty × MutD I_spec_l6Dirty) :=
  segM (F_spec_l6Dirty_13 ((((), ()), ((), ()), ()), ((a0.1, a0.2.1.1, a0.2.1.2, a0.2.2.1, a0.2.2.2.1, a0.2.2.2.2.1, a0.2.2.2.2.2.1, a0.2.2.2.2.2.2.1, a0.2.2.2.2.2.2.2.1, a0.2.2.2.2.2.2.2.2.1, a0.2.2.2.2.2.2.2.2.2.1, a0.2.2.2.2.2.2.2.2.2.2.1, a0.2.2.2.2.2.2.2.2.2.2.2, ()), ()), ())) (fun y4 =>
    some ((true, ()), ())) (fun y4 =>
    some ((y4.1.1.1, ()), ()))
theorem e_spec_l6Dirty (x : InD I_spec_l6Dirty) : execF ⟨E_spec_l6Dirty, 57, D_spec_l6Dirty_1⟩ Try.f142.results.toList B_spec_l6Dirty I_spec_l6Dirty U_spec_l6Dirty x = raw_spec_l6Dirty x.1 := by kernel_rfl
theorem ok0_spec_l6Dirty : ConOk Try.prog 142 ⟨I_spec_l6Dirty, U_spec_l6Dirty, fun x => raw_spec_l6Dirty x.1⟩ := conOk_exec (fr_spec_l6Dirty_1) Try.func142 (by kernel_rfl) (by kernel_rfl) Try.ntmps142.symm (by decide) (fun x r h => (e_spec_l6Dirty x).trans h)
noncomputable def n_spec_l6Dirty (a0 : dA) : Bool := dirtyOk a0.2.1 a0.2.2.2.2.2.2.2.2.1
noncomputable def q_spec_l6Dirty (a0 : dA) : Bool := n_spec_GeoOk a0.2.1
theorem spec_words_eq (l : List Int) : n_spec_l1Words l = l.all isW := by
  unfold n_spec_l1Words
  rw [show n_spec_l1Word = isW from funext fun x => by unfold n_spec_l1Word; rw [in_eq]; rfl]
theorem nn_spec_l6Dirty (a0 : dA) (hk : InOk I_spec_l6Dirty (a0, ())) (hq : q_spec_l6Dirty a0 = true) : raw_spec_l6Dirty a0 = (fun n => some ((n, ()), ())) (n_spec_l6Dirty a0) := by
  have hb : a0.2.2.2.2.2.2.2.2.1.length * 32 ≤ 2 ^ 47 := hk.1.2.2.2.2.2.2.2.2.1.1
  have hg := geo_iff.1 hq
  have h1 : F_spec_l6Dirty_13 (ms_spec_l6Dirty_13 a0) = some (bif (List.range a0.2.2.2.2.2.2.2.2.1.length).any (dirtBad a0.2.1 a0.2.2.2.2.2.2.2.2.1) then .inr (mz_spec_l6Dirty_13 false) else .inl mo_spec_l6Dirty_13) :=
    loopN_all (step := stx_spec_l6Dirty_13) (fun i => mk_spec_l6Dirty_13 i a0) a0.2.2.2.2.2.2.2.2.1.length (dirtBad a0.2.1 a0.2.2.2.2.2.2.2.2.1) _ _ (fun i hi => by
      simp only [stx_spec_l6Dirty_13, mk_spec_l6Dirty_13, st_spec_l6Dirty_13, ltb_t (show (i : Int) < a0.2.2.2.2.2.2.2.2.1.length by omega), cond_true, wr (show -9223372036854775808 ≤ (i : Int) + 1 by omega) (by omega), Int.natCast_add, Int.natCast_one, Int.toNat_natCast, inb_nat hi, in_eq, spec_words_eq, wr (show -9223372036854775808 ≤ a0.2.1.2 - 1 by omega) (by omega), wr (show -9223372036854775808 ≤ a0.2.1.1 - 1 by omega) (by omega), dirtBad]
      rcases Nat.eq_zero_or_pos i with rfl | h0
      · cases (leb 0 (nth a0.2.2.2.2.2.2.2.2.1 ((0 : Nat) : Int) (0, [])).1 && leb (nth a0.2.2.2.2.2.2.2.2.1 ((0 : Nat) : Int) (0, [])).1 (a0.2.1.2 - 1)) <;> cases (((nth a0.2.2.2.2.2.2.2.2.1 ((0 : Nat) : Int) (0, [])).2.length : Int) != a0.2.1.1 - 1) <;> cases ((nth a0.2.2.2.2.2.2.2.2.1 ((0 : Nat) : Int) (0, [])).2.all isW) <;> rfl
      · rw [show IntKind.i64.wrap ((i : Int) - 1) = ((i - 1 : Nat) : Int) by rw [wr (by omega) (by omega)]; omega, inb_nat (show i - 1 < a0.2.2.2.2.2.2.2.2.1.length by omega), ltb_t (show (0 : Int) < i by omega), decide_eq_true h0]
        cases (leb 0 (nth a0.2.2.2.2.2.2.2.2.1 (i : Int) (0, [])).1 && leb (nth a0.2.2.2.2.2.2.2.2.1 (i : Int) (0, [])).1 (a0.2.1.2 - 1)) <;> cases (((nth a0.2.2.2.2.2.2.2.2.1 (i : Int) (0, [])).2.length : Int) != a0.2.1.1 - 1) <;> cases ((nth a0.2.2.2.2.2.2.2.2.1 (i : Int) (0, [])).2.all isW) <;> cases leb (nth a0.2.2.2.2.2.2.2.2.1 (i : Int) (0, [])).1 (nth a0.2.2.2.2.2.2.2.2.1 ((i - 1 : Nat) : Int) (0, [])).1 <;> rfl) (by simp only [stx_spec_l6Dirty_13, mk_spec_l6Dirty_13, st_spec_l6Dirty_13, ltb_f (Int.le_refl _), cond_false]) _ (by show _ < 18446744073709551616; omega)
  unfold raw_spec_l6Dirty n_spec_l6Dirty dirtyOk
  rw [h1]
  cases (List.range a0.2.2.2.2.2.2.2.2.1.length).any (dirtBad a0.2.1 a0.2.2.2.2.2.2.2.2.1) <;> rfl
noncomputable def o_spec_l6Dirty (a0 : dA) : Option (ResD U_spec_l6Dirty × MutD I_spec_l6Dirty) := bif q_spec_l6Dirty a0 then (fun n => some ((n, ()), ())) (n_spec_l6Dirty a0) else none
theorem ot_spec_l6Dirty (a0 : dA) (h : q_spec_l6Dirty a0 = true) : o_spec_l6Dirty a0 = (fun n => some ((n, ()), ())) (n_spec_l6Dirty a0) := by unfold o_spec_l6Dirty; rw [h]; rfl
noncomputable def con_spec_l6Dirty : Con := ⟨I_spec_l6Dirty, U_spec_l6Dirty, fun x => o_spec_l6Dirty x.1⟩
theorem ok_spec_l6Dirty : ConOk Try.prog 142 con_spec_l6Dirty := (ok0_spec_l6Dirty).mono (fun x r hk h => pre_ok h (fun hq => nn_spec_l6Dirty x.1 hk hq))
end

/-! spec_ArrOk -/
section
noncomputable def B_spec_ArrOk : Code := (Try.f81.body).getD .skip
noncomputable def E_spec_ArrOk : Env := envOf TT [(82, con_spec_l1In), (140, con_spec_GeoOk), (141, con_spec_l6Mems), (142, con_spec_l6Dirty)] []
theorem fr_spec_ArrOk_0 : FrOk Try.prog ⟨E_spec_ArrOk, 78, fun _ => none⟩ B_spec_ArrOk := frOk_base mixed tt_ok ⟨ok_spec_l1In, ok_spec_GeoOk, ok_spec_l6Mems, ok_spec_l6Dirty, trivial⟩
noncomputable def D_spec_ArrOk_0 : Nat → Option Seg := fun _ => none
abbrev I_spec_ArrOk : List Par := [.rd tA]
abbrev U_spec_ArrOk : List OT := [⟨false, tB, .fz⟩]
noncomputable def raw_spec_ArrOk (a0 : dA) : Option (ResD U_spec_ArrOk × MutD I_spec_ArrOk) :=
  let r1 := n_spec_GeoOk a0.2.1
  bif (!(!r1)) then
    let r2 := n_spec_l1In a0.1 1 60000
    bif (!(!r2)) then
      bnd (o_spec_l6Mems a0) fun r3 =>
      bif (!(!r3.1.1)) then
        bnd (o_spec_l6Dirty a0) fun r4 =>
        bif (!r4.1.1) then
          some ((false, ()), ())
        else
          let r5 := n_spec_l1In a0.2.2.2.1 (-1) (IntKind.i64.wrap (a0.2.1.1 - 1))
          bif (!(!r5)) then
            let r6 := n_spec_l1In a0.2.2.2.2.1 0 a0.2.1.2
            bif (!(!r6)) then
              bif (a0.2.2.2.1 == (-1)) then
                bif (a0.2.2.2.2.1 != 0) then
                  some ((false, ()), ())
                else
                  let r7 := n_spec_l1In a0.2.2.2.2.2.2.1 0 60000
                  bif r7 then
                    let r8 := n_spec_l1In a0.2.2.2.2.2.1 a0.2.2.2.2.2.2.1 60000
                    bif r8 then
                      bif (leb a0.2.2.2.2.2.1 (IntKind.i64.wrap (a0.2.2.2.2.2.2.1 + 4))) then
                        let r9 := n_spec_l1In a0.2.2.2.2.2.2.2.1 0 60000
                        bif r9 then
                          let r10 := n_spec_l1In a0.2.2.2.2.2.2.2.2.2.1 (-1) 1000
                          some ((r10, ()), ())
                        else
                          some ((false, ()), ())
                      else
                        some ((false, ()), ())
                    else
                      some ((false, ()), ())
                  else
                    some ((false, ()), ())
              else
                let r11 := n_spec_l1In a0.2.2.2.2.2.2.1 0 60000
                bif r11 then
                  let r12 := n_spec_l1In a0.2.2.2.2.2.1 a0.2.2.2.2.2.2.1 60000
                  bif r12 then
                    bif (leb a0.2.2.2.2.2.1 (IntKind.i64.wrap (a0.2.2.2.2.2.2.1 + 4))) then
                      let r13 := n_spec_l1In a0.2.2.2.2.2.2.2.1 0 60000
                      bif r13 then
                        let r14 := n_spec_l1In a0.2.2.2.2.2.2.2.2.2.1 (-1) 1000
                        some ((r14, ()), ())
                      else
                        some ((false, ()), ())
                    else
                      some ((false, ()), ())
                  else
                    some ((false, ()), ())
                else
                  some ((false, ()), ())
            else
              some ((false, ()), ())
          else
            some ((false, ()), ())
      else
        some ((false, ()), ())
    else
      some ((false, ()), ())
  else
    some ((false, ()), ())
theorem e_spec_ArrOk (x : InD I_spec_ArrOk) : execF ⟨E_spec_ArrOk, 78, D_spec_ArrOk_0⟩ Try.f81.results.toList B_spec_ArrOk I_spec_ArrOk U_spec_ArrOk x = raw_spec_ArrOk x.1 := by kernel_rfl
theorem ok0_spec_ArrOk : ConOk Try.prog 81 ⟨I_spec_ArrOk, U_spec_ArrOk, fun x => raw_spec_ArrOk x.1⟩ := conOk_exec (fr_spec_ArrOk_0) Try.func81 (by kernel_rfl) (by kernel_rfl) Try.ntmps81.symm (by decide) (fun x r h => (e_spec_ArrOk x).trans h)
noncomputable def n_spec_ArrOk (a0 : dA) : Bool := arrOk a0
theorem nn_spec_ArrOk (a0 : dA) (hk : InOk I_spec_ArrOk (a0, ())) : raw_spec_ArrOk a0 = (fun n => some ((n, ()), ())) (n_spec_ArrOk a0) := by
  unfold raw_spec_ArrOk n_spec_ArrOk arrOk
  simp only [in_eq]
  cases hg : n_spec_GeoOk a0.2.1
  · rfl
  have hg2 := geo_iff.1 hg
  rw [ot_spec_l6Mems a0 hg, ot_spec_l6Dirty a0 hg, wr (show -9223372036854775808 ≤ a0.2.1.1 - 1 by omega) (by omega)]
  simp only [bnd_some, n_spec_l6Mems, n_spec_l6Dirty, Bool.not_not, cond_true]
  cases (leb 1 a0.1 && leb a0.1 60000)
  · rfl
  cases memsOk a0
  · rfl
  cases dirtyOk a0.2.1 a0.2.2.2.2.2.2.2.2.1
  · rfl
  cases (leb (-1) a0.2.2.2.1 && leb a0.2.2.2.1 (a0.2.1.1 - 1))
  · rfl
  cases (leb 0 a0.2.2.2.2.1 && leb a0.2.2.2.2.1 a0.2.1.2)
  · rfl
  have ht : (leb 0 a0.2.2.2.2.2.2.1 && leb a0.2.2.2.2.2.2.1 60000) = true → IntKind.i64.wrap (a0.2.2.2.2.2.2.1 + 4) = a0.2.2.2.2.2.2.1 + 4 := fun h => by
    rw [Bool.and_eq_true, leb_iff, leb_iff] at h
    exact wr (by omega) (by omega)
  cases hT : (leb 0 a0.2.2.2.2.2.2.1 && leb a0.2.2.2.2.2.2.1 60000)
  · cases (a0.2.2.2.1 == -1) <;> cases (a0.2.2.2.2.1 != 0) <;> rfl
  rw [ht hT]
  cases (leb a0.2.2.2.2.2.2.1 a0.2.2.2.2.2.1 && leb a0.2.2.2.2.2.1 60000)
  · cases (a0.2.2.2.1 == -1) <;> cases (a0.2.2.2.2.1 != 0) <;> rfl
  cases leb a0.2.2.2.2.2.1 (a0.2.2.2.2.2.2.1 + 4)
  · cases (a0.2.2.2.1 == -1) <;> cases (a0.2.2.2.2.1 != 0) <;> rfl
  cases (leb 0 a0.2.2.2.2.2.2.2.1 && leb a0.2.2.2.2.2.2.2.1 60000) <;> cases (a0.2.2.2.1 == -1) <;> cases (a0.2.2.2.2.1 != 0) <;> rfl
noncomputable def con_spec_ArrOk : Con := ⟨I_spec_ArrOk, U_spec_ArrOk, fun x => (fun n => some ((n, ()), ())) (n_spec_ArrOk x.1)⟩
theorem ok_spec_ArrOk : ConOk Try.prog 81 con_spec_ArrOk := (ok0_spec_ArrOk).mono (fun x r hk h => (nn_spec_ArrOk x.1 hk).trans h)
end

/-! spec_l2Has -/
section
noncomputable def B_spec_l2Has : Code := (Try.f158.body).getD .skip
noncomputable def E_spec_l2Has : Env := envOf TT [] []
theorem fr_spec_l2Has_0 : FrOk Try.prog ⟨E_spec_l2Has, 18, fun _ => none⟩ B_spec_l2Has := frOk_base mixed tt_ok trivial
noncomputable def D_spec_l2Has_0 : Nat → Option Seg := fun _ => none
def L_spec_l2Has_13 : Shape := ⟨[(0, false, [.br tI]), (1, false, [.int .i64]), (5, false, [.int .i64])], [], []⟩
def S_spec_l2Has_13 : Shape := ⟨[(0, false, [.br tI]), (1, false, [.int .i64]), (5, false, [.ci .i64 0])], [], []⟩
def O_spec_l2Has_13 : Shape := ⟨[], [], []⟩
def Z_spec_l2Has_13 : Shape := ⟨[(4, false, [.bool])], [], []⟩
abbrev mk_spec_l2Has_13 (v0 : List Int) (v1 : Int) (v2 : Int) : (L_spec_l2Has_13).X := (((v0, ()), (v1, ()), (v2, ()), ()), (), ())
abbrev ms_spec_l2Has_13 (v0 : List Int) (v1 : Int) : (S_spec_l2Has_13).X := (((v0, ()), (v1, ()), ((), ()), ()), (), ())
abbrev mo_spec_l2Has_13  : (O_spec_l2Has_13).X := ((), (), ())
abbrev mz_spec_l2Has_13 (v0 : Bool) : (Z_spec_l2Has_13).X := (((v0, ()), ()), (), ())
noncomputable def st_spec_l2Has_13 (v0 : List Int) (v1 : Int) (v2 : Int) : Option ((L_spec_l2Has_13).X ⊕ ((O_spec_l2Has_13).X ⊕ (Z_spec_l2Has_13).X)) :=
  bif (ltb v2 (v0.length : Int)) then
    bif (inb v2 v0.length) then
      bif ((nth v0 v2 0) == v1) then
        some (.inr (.inr (((true, ()), ()), (), ())))
      else
        some (.inl (((v0, ()), (v1, ()), ((IntKind.i64.wrap (v2 + 1)), ()), ()), (), ()))
    else none
  else
    some (.inr (.inl ((), (), ())))
noncomputable def stx_spec_l2Has_13 (x : (L_spec_l2Has_13).X) := st_spec_l2Has_13 x.1.1.1 x.1.2.1.1 x.1.2.2.1.1
def em_spec_l2Has_13 (x : (S_spec_l2Has_13).X) : (L_spec_l2Has_13).X := (((x.1.1.1, ()), (x.1.2.1.1, ()), (0, ()), ()), (), ())
noncomputable def c_spec_l2Has_13 : Code := (subN B_spec_l2Has 64 52).getD .skip
theorem a_spec_l2Has_13 : subN B_spec_l2Has 64 13 = some (.block 0 (.loop c_spec_l2Has_13)) := by kernel_rfl
theorem r_spec_l2Has_13 (x : (L_spec_l2Has_13).X) : roundT ⟨E_spec_l2Has, 18, D_spec_l2Has_0⟩ 0 c_spec_l2Has_13 52 L_spec_l2Has_13 O_spec_l2Has_13 Z_spec_l2Has_13 x = stx_spec_l2Has_13 x := by kernel_rfl
noncomputable def fu_spec_l2Has_13 (x : (S_spec_l2Has_13).X) : Nat := (fun (u0 : List Int) (u1 : Int) => 18446744073709551616) x.1.1.1 x.1.2.1.1
noncomputable def F_spec_l2Has_13 (x : (S_spec_l2Has_13).X) : Option ((O_spec_l2Has_13).X ⊕ (Z_spec_l2Has_13).X) := loopN stx_spec_l2Has_13 (fu_spec_l2Has_13 x) (em_spec_l2Has_13 x)
noncomputable def sg_spec_l2Has_13 : Seg := ⟨S_spec_l2Has_13, O_spec_l2Has_13, Z_spec_l2Has_13, F_spec_l2Has_13⟩
noncomputable def D_spec_l2Has_1 : Nat → Option Seg := fun q => bif Nat.beq q 13 then some sg_spec_l2Has_13 else D_spec_l2Has_0 q
theorem fr_spec_l2Has_1 : FrOk Try.prog ⟨E_spec_l2Has, 18, D_spec_l2Has_1⟩ B_spec_l2Has := (fr_spec_l2Has_0).loop (sg := sg_spec_l2Has_13) L_spec_l2Has_13 em_spec_l2Has_13 (by decide) a_spec_l2Has_13 stx_spec_l2Has_13 fu_spec_l2Has_13 (by decide) (fun _ => rfl) (fun x r _ h => h) r_spec_l2Has_13
abbrev I_spec_l2Has : List Par := [.rd tL, .rd tI]
abbrev U_spec_l2Has : List OT := [⟨false, tB, .fz⟩]
noncomputable def raw_spec_l2Has (a0 : List Int) (a1 : Int) : Option (ResD U_spec_l2Has × MutD I_spec_l2Has) :=
  segM (F_spec_l2Has_13 (((a0, ()), (a1, ()), ((), ()), ()), (), ())) (fun y0 =>
    some ((false, ()), ())) (fun y0 =>
    some ((y0.1.1.1, ()), ()))
theorem e_spec_l2Has (x : InD I_spec_l2Has) : execF ⟨E_spec_l2Has, 18, D_spec_l2Has_1⟩ Try.f158.results.toList B_spec_l2Has I_spec_l2Has U_spec_l2Has x = raw_spec_l2Has x.1 x.2.1 := by kernel_rfl
theorem ok0_spec_l2Has : ConOk Try.prog 158 ⟨I_spec_l2Has, U_spec_l2Has, fun x => raw_spec_l2Has x.1 x.2.1⟩ := conOk_exec (fr_spec_l2Has_1) Try.func158 (by kernel_rfl) (by kernel_rfl) Try.ntmps158.symm (by decide) (fun x r h => (e_spec_l2Has x).trans h)
noncomputable def n_spec_l2Has (a0 : List Int) (a1 : Int) : Bool := a0.any (· == a1)
theorem nn_spec_l2Has (a0 : List Int) (a1 : Int) (hk : InOk I_spec_l2Has (a0, a1, ())) : raw_spec_l2Has a0 a1 = (fun n => some ((n, ()), ())) (n_spec_l2Has a0 a1) := by
  have hb : a0.length * 8 ≤ 2 ^ 47 := hk.1.1
  have h1 : F_spec_l2Has_13 (ms_spec_l2Has_13 a0 a1) = some (bif a0.all (· != a1) then .inl mo_spec_l2Has_13 else .inr (mz_spec_l2Has_13 true)) :=
    loopN_list_all (step := stx_spec_l2Has_13) a0 0 (fun i => mk_spec_l2Has_13 a0 a1 i) (· != a1) _ _ (fun i hi => by
      simp only [stx_spec_l2Has_13, mk_spec_l2Has_13, st_spec_l2Has_13, ltb_t (show (i : Int) < a0.length by omega), cond_true, wr (show -9223372036854775808 ≤ (i : Int) + 1 by omega) (by omega), Int.natCast_add, Int.natCast_one, Int.toNat_natCast, inb_nat hi, nth_nat, bne]
      cases (a0.getD i 0 == a1) <;> rfl) (by simp only [stx_spec_l2Has_13, mk_spec_l2Has_13, st_spec_l2Has_13, ltb_f (Int.le_refl _), cond_false]) _ (by show _ < 18446744073709551616; omega)
  unfold raw_spec_l2Has n_spec_l2Has
  rw [h1, show a0.any (· == a1) = !(a0.all (· != a1)) by simp [List.all_eq_not_any_not, bne]]
  cases a0.all (· != a1) <;> rfl
noncomputable def con_spec_l2Has : Con := ⟨I_spec_l2Has, U_spec_l2Has, fun x => (fun n => some ((n, ()), ())) (n_spec_l2Has x.1 x.2.1)⟩
theorem ok_spec_l2Has : ConOk Try.prog 158 con_spec_l2Has := (ok0_spec_l2Has).mono (fun x r hk h => (nn_spec_l2Has x.1 x.2.1 hk).trans h)
end

/-! spec_ReadSec -/
section
noncomputable def B_spec_ReadSec : Code := (Try.f105.body).getD .skip
noncomputable def E_spec_ReadSec : Env := envOf TT [(82, con_spec_l1In), (133, con_spec_MemOk), (158, con_spec_l2Has)] []
theorem fr_spec_ReadSec_0 : FrOk Try.prog ⟨E_spec_ReadSec, 60, fun _ => none⟩ B_spec_ReadSec := frOk_base mixed tt_ok ⟨ok_spec_l1In, ok_spec_MemOk, ok_spec_l2Has, trivial⟩
noncomputable def D_spec_ReadSec_0 : Nat → Option Seg := fun _ => none
def L_spec_ReadSec_61 : Shape := ⟨[(1, false, [.int .i64]), (2, false, [.ptr 0 0]), (6, false, [.br tI]), (7, false, [.int .i64])], [(0, [.br tL, .br tW, .bool, .br tI])], []⟩
def S_spec_ReadSec_61 : Shape := ⟨[(1, false, [.int .i64]), (2, false, [.ptr 0 0]), (6, false, [.br tI]), (7, false, [.ci .i64 0])], [(0, [.br tL, .br tW, .bool, .br tI])], []⟩
def O_spec_ReadSec_61 : Shape := ⟨[(6, false, [.br tI])], [], []⟩
def Z_spec_ReadSec_61 : Shape := ⟨[], [], []⟩
abbrev mk_spec_ReadSec_61 (v0 : Int) (v1 : List Int) (v2 : Int) (v3 : dM) : (L_spec_ReadSec_61).X := (((v0, ()), ((), ()), (v1, ()), (v2, ()), ()), ((v3.1, v3.2.1, v3.2.2.1, v3.2.2.2, ()), ()), ())
abbrev ms_spec_ReadSec_61 (v0 : Int) (v1 : List Int) (v2 : dM) : (S_spec_ReadSec_61).X := (((v0, ()), ((), ()), (v1, ()), ((), ()), ()), ((v2.1, v2.2.1, v2.2.2.1, v2.2.2.2, ()), ()), ())
abbrev mo_spec_ReadSec_61 (v0 : List Int) : (O_spec_ReadSec_61).X := (((v0, ()), ()), (), ())
noncomputable def st_spec_ReadSec_61 (v0 : Int) (v1 : List Int) (v2 : Int) (v3 : List (List Int)) (v4 : List dW) (v5 : Bool) (v6 : List Int) : Option ((L_spec_ReadSec_61).X ⊕ ((O_spec_ReadSec_61).X ⊕ (Z_spec_ReadSec_61).X)) :=
  bif (ltb v2 (v4.length : Int)) then
    bif (inb v2 v4.length) then
      bif ((nth v4 v2 (0, [])).1 == v0) then
        bif (inb v2 v4.length) then
          some (.inl (((v0, ()), ((), ()), ((nth v4 v2 (0, [])).2, ()), ((IntKind.i64.wrap (v2 + 1)), ()), ()), ((v3, v4, v5, v6, ()), ()), ()))
        else none
      else
        some (.inl (((v0, ()), ((), ()), (v1, ()), ((IntKind.i64.wrap (v2 + 1)), ()), ()), ((v3, v4, v5, v6, ()), ()), ()))
    else none
  else
    some (.inr (.inl (((v1, ()), ()), (), ())))
noncomputable def stx_spec_ReadSec_61 (x : (L_spec_ReadSec_61).X) := st_spec_ReadSec_61 x.1.1.1 x.1.2.2.1.1 x.1.2.2.2.1.1 x.2.1.1.1 x.2.1.1.2.1 x.2.1.1.2.2.1 x.2.1.1.2.2.2.1
def em_spec_ReadSec_61 (x : (S_spec_ReadSec_61).X) : (L_spec_ReadSec_61).X := (((x.1.1.1, ()), ((), ()), (x.1.2.2.1.1, ()), (0, ()), ()), ((x.2.1.1.1, x.2.1.1.2.1, x.2.1.1.2.2.1, x.2.1.1.2.2.2.1, ()), ()), ())
noncomputable def c_spec_ReadSec_61 : Code := (subN B_spec_ReadSec 64 244).getD .skip
theorem a_spec_ReadSec_61 : subN B_spec_ReadSec 64 61 = some (.block 0 (.loop c_spec_ReadSec_61)) := by kernel_rfl
theorem r_spec_ReadSec_61 (x : (L_spec_ReadSec_61).X) : roundT ⟨E_spec_ReadSec, 60, D_spec_ReadSec_0⟩ 0 c_spec_ReadSec_61 244 L_spec_ReadSec_61 O_spec_ReadSec_61 Z_spec_ReadSec_61 x = stx_spec_ReadSec_61 x := by kernel_rfl
noncomputable def fu_spec_ReadSec_61 (x : (S_spec_ReadSec_61).X) : Nat := (fun (u0 : Int) (u1 : List Int) (u2 : List (List Int)) (u3 : List dW) (u4 : Bool) (u5 : List Int) => 18446744073709551616) x.1.1.1 x.1.2.2.1.1 x.2.1.1.1 x.2.1.1.2.1 x.2.1.1.2.2.1 x.2.1.1.2.2.2.1
noncomputable def F_spec_ReadSec_61 (x : (S_spec_ReadSec_61).X) : Option ((O_spec_ReadSec_61).X ⊕ (Z_spec_ReadSec_61).X) := loopN stx_spec_ReadSec_61 (fu_spec_ReadSec_61 x) (em_spec_ReadSec_61 x)
noncomputable def sg_spec_ReadSec_61 : Seg := ⟨S_spec_ReadSec_61, O_spec_ReadSec_61, Z_spec_ReadSec_61, F_spec_ReadSec_61⟩
noncomputable def D_spec_ReadSec_1 : Nat → Option Seg := fun q => bif Nat.beq q 61 then some sg_spec_ReadSec_61 else D_spec_ReadSec_0 q
theorem fr_spec_ReadSec_1 : FrOk Try.prog ⟨E_spec_ReadSec, 60, D_spec_ReadSec_1⟩ B_spec_ReadSec := (fr_spec_ReadSec_0).loop (sg := sg_spec_ReadSec_61) L_spec_ReadSec_61 em_spec_ReadSec_61 (by decide) a_spec_ReadSec_61 stx_spec_ReadSec_61 fu_spec_ReadSec_61 (by decide) (fun _ => rfl) (fun x r _ h => h) r_spec_ReadSec_61
abbrev I_spec_ReadSec : List Par := [.rd tM, .rd tI]
abbrev U_spec_ReadSec : List OT := [⟨false, tL, (.ow .fz)⟩, ⟨false, tB, .fz⟩]
noncomputable def raw_spec_ReadSec (a0 : dM) (a1 : Int) : Option (ResD U_spec_ReadSec × MutD I_spec_ReadSec) :=
  let r1 := n_spec_MemOk a0
  bif (!(!r1)) then
    bif (!a0.2.2.1) then
      let r2 := n_spec_l1In a1 0 (IntKind.i64.wrap ((a0.1.length : Int) - 1))
      bif (!(!r2)) then
        let r3 := n_spec_l2Has a0.2.2.2 a1
        bif r3 then
          some ((([] : List Int), false, ()), ())
        else
          bif (inb a1 a0.1.length) then
            segM (F_spec_ReadSec_61 (((a1, ()), ((), ()), ((nth a0.1 a1 []), ()), ((), ()), ()), ((a0.1, a0.2.1, a0.2.2.1, a0.2.2.2, ()), ()), ())) (fun y3 =>
              bif (apok ([] : List Int).length y3.1.1.1.length 8) then
                some (((([] : List Int) ++ y3.1.1.1), true, ()), ())
              else none) (fun y3 =>
              none)
          else none
      else
        some ((([] : List Int), false, ()), ())
    else
      some ((([] : List Int), false, ()), ())
  else
    some ((([] : List Int), false, ()), ())
theorem e_spec_ReadSec (x : InD I_spec_ReadSec) : execF ⟨E_spec_ReadSec, 60, D_spec_ReadSec_1⟩ Try.f105.results.toList B_spec_ReadSec I_spec_ReadSec U_spec_ReadSec x = raw_spec_ReadSec x.1 x.2.1 := by kernel_rfl
theorem ok0_spec_ReadSec : ConOk Try.prog 105 ⟨I_spec_ReadSec, U_spec_ReadSec, fun x => raw_spec_ReadSec x.1 x.2.1⟩ := conOk_exec (fr_spec_ReadSec_1) Try.func105 (by kernel_rfl) (by kernel_rfl) Try.ntmps105.symm (by decide) (fun x r h => (e_spec_ReadSec x).trans h)
noncomputable def n_spec_ReadSec (a0 : dM) (a1 : Int) : List Int × Bool := readSec a0 a1
theorem nn_spec_ReadSec (a0 : dM) (a1 : Int) (hk : InOk I_spec_ReadSec (a0, a1, ())) : raw_spec_ReadSec a0 a1 = (fun n => some ((n.1, n.2, ()), ())) (n_spec_ReadSec a0 a1) := by
  have hb1 : a0.1.length * 24 ≤ 2 ^ 47 := hk.1.1.1
  have hb2 : a0.2.1.length * 32 ≤ 2 ^ 47 := hk.1.2.1.1
  have h1 : ∀ s, F_spec_ReadSec_61 (ms_spec_ReadSec_61 a1 s a0) = some (.inl (mo_spec_ReadSec_61 (newest a1 a0.2.1 s))) := fun s =>
    loopN_fold (step := stx_spec_ReadSec_61) a0.2.1 (0, []) (fun i s => mk_spec_ReadSec_61 a1 s i a0) (fun s w => bif w.1 == a1 then w.2 else s) (fun _ _ => True) (fun s => .inl (mo_spec_ReadSec_61 s)) (fun i s hi _ => ⟨by
      simp only [stx_spec_ReadSec_61, mk_spec_ReadSec_61, st_spec_ReadSec_61, ltb_t (show (i : Int) < a0.2.1.length by omega), cond_true, wr (show -9223372036854775808 ≤ (i : Int) + 1 by omega) (by omega), Int.natCast_add, Int.natCast_one, Int.toNat_natCast, inb_nat hi, nth_nat]
      cases ((a0.2.1.getD i (0, [])).1 == a1) <;> rfl, trivial⟩) (fun s _ => by simp only [stx_spec_ReadSec_61, mk_spec_ReadSec_61, st_spec_ReadSec_61, ltb_f (Int.le_refl _), cond_false]) s trivial _ (by show _ < 18446744073709551616; omega)
  unfold raw_spec_ReadSec n_spec_ReadSec readSec canRead
  rw [in_len (show a0.1.length ≤ 1152921504606846976 by omega)]
  unfold n_spec_MemOk n_spec_l2Has
  simp only [h1, segM_inl, List.nil_append]
  cases memOk a0
  · rfl
  cases a0.2.2.1
  · cases hi : inb a1 a0.1.length
    · rfl
    · cases a0.2.2.2.any (· == a1)
      · have hs : (newest a1 a0.2.1 (nth a0.1 a1 [])).length * 8 ≤ 2 ^ 47 :=
          newest_ind (P := fun s => s.length * 8 ≤ 2 ^ 47) (nth_mem (P := fun s : List Int => s.length * 8 ≤ 2 ^ 47) hi fun x hx => (hk.1.1.2 x hx).1) fun w hw => (hk.1.2.1.2 w hw).2.1
        simp only [Bool.not_true, Bool.not_false, cond_true, cond_false, Bool.true_and, show apok ([] : List Int).length (newest a1 a0.2.1 (nth a0.1 a1 [])).length 8 = true from apok_iff.2 (by rw [List.length_nil]; omega)]
      · rfl
  · rfl
noncomputable def con_spec_ReadSec : Con := ⟨I_spec_ReadSec, U_spec_ReadSec, fun x => (fun n => some ((n.1, n.2, ()), ())) (n_spec_ReadSec x.1 x.2.1)⟩
theorem ok_spec_ReadSec : ConOk Try.prog 105 con_spec_ReadSec := (ok0_spec_ReadSec).mono (fun x r hk h => (nn_spec_ReadSec x.1 x.2.1 hk).trans h)
end

/-! spec_SuperOk -/
section
noncomputable def B_spec_SuperOk : Code := (Try.f199.body).getD .skip
noncomputable def E_spec_SuperOk : Env := envOf TT [(82, con_spec_l1In), (140, con_spec_GeoOk)] []
theorem fr_spec_SuperOk_0 : FrOk Try.prog ⟨E_spec_SuperOk, 60, fun _ => none⟩ B_spec_SuperOk := frOk_base mixed tt_ok ⟨ok_spec_l1In, ok_spec_GeoOk, trivial⟩
noncomputable def D_spec_SuperOk_0 : Nat → Option Seg := fun _ => none
abbrev I_spec_SuperOk : List Par := [.rd tS]
abbrev U_spec_SuperOk : List OT := [⟨false, tB, .fz⟩]
noncomputable def raw_spec_SuperOk (a0 : dS) : Option (ResD U_spec_SuperOk × MutD I_spec_SuperOk) :=
  let r1 := n_spec_GeoOk (a0.2.2.2.1, a0.2.2.2.2.1)
  bif (!(!r1)) then
    let r2 := n_spec_l1In a0.1 1 60000
    bif (!(!r2)) then
      let r3 := n_spec_l1In a0.2.1 0 60000
      bif (!(!r3)) then
        let r4 := n_spec_l1In a0.2.2.1 0 (IntKind.i64.wrap (a0.2.2.2.1 - 1))
        bif (!(!r4)) then
          let r5 := n_spec_l1In a0.2.2.2.2.2.1 0 60000
          bif (!r5) then
            some ((false, ()), ())
          else
            let r6 := n_spec_l1In a0.2.2.2.2.2.2.1 (-1) (IntKind.i64.wrap (a0.2.2.2.1 - 1))
            bif r6 then
              let r7 := n_spec_l1In a0.2.2.2.2.2.2.2 0 a0.2.2.2.2.1
              bif r7 then
                bif (!(leb 0 a0.2.2.2.2.2.2.1)) then
                  some (((a0.2.2.2.2.2.2.2 == 0), ()), ())
                else
                  some ((true, ()), ())
              else
                some ((false, ()), ())
            else
              some ((false, ()), ())
        else
          some ((false, ()), ())
      else
        some ((false, ()), ())
    else
      some ((false, ()), ())
  else
    some ((false, ()), ())
theorem e_spec_SuperOk (x : InD I_spec_SuperOk) : execF ⟨E_spec_SuperOk, 60, D_spec_SuperOk_0⟩ Try.f199.results.toList B_spec_SuperOk I_spec_SuperOk U_spec_SuperOk x = raw_spec_SuperOk x.1 := by kernel_rfl
theorem ok0_spec_SuperOk : ConOk Try.prog 199 ⟨I_spec_SuperOk, U_spec_SuperOk, fun x => raw_spec_SuperOk x.1⟩ := conOk_exec (fr_spec_SuperOk_0) Try.func199 (by kernel_rfl) (by kernel_rfl) Try.ntmps199.symm (by decide) (fun x r h => (e_spec_SuperOk x).trans h)
noncomputable def n_spec_SuperOk (a0 : dS) : Bool :=
  let r1 := n_spec_GeoOk (a0.2.2.2.1, a0.2.2.2.2.1)
  bif (!(!r1)) then
    let r2 := n_spec_l1In a0.1 1 60000
    bif (!(!r2)) then
      let r3 := n_spec_l1In a0.2.1 0 60000
      bif (!(!r3)) then
        let r4 := n_spec_l1In a0.2.2.1 0 (IntKind.i64.wrap (a0.2.2.2.1 - 1))
        bif (!(!r4)) then
          let r5 := n_spec_l1In a0.2.2.2.2.2.1 0 60000
          bif (!r5) then
            false
          else
            let r6 := n_spec_l1In a0.2.2.2.2.2.2.1 (-1) (IntKind.i64.wrap (a0.2.2.2.1 - 1))
            bif r6 then
              let r7 := n_spec_l1In a0.2.2.2.2.2.2.2 0 a0.2.2.2.2.1
              bif r7 then
                bif (!(leb 0 a0.2.2.2.2.2.2.1)) then
                  (a0.2.2.2.2.2.2.2 == 0)
                else
                  true
              else
                false
            else
              false
        else
          false
      else
        false
    else
      false
  else
    false
noncomputable def con_spec_SuperOk : Con := ⟨I_spec_SuperOk, U_spec_SuperOk, fun x => (fun n => some ((n, ()), ())) (n_spec_SuperOk x.1)⟩
theorem nn_spec_SuperOk (a0 : dS) : raw_spec_SuperOk a0 = (fun n => some ((n, ()), ())) (n_spec_SuperOk a0) := bif_ty (p := fun (n : Bool) => ((n, ()), ())) (bif_some (p := fun (n : Bool) => ((n, ()), ())) (bif_some (p := fun (n : Bool) => ((n, ()), ())) (bif_some (p := fun (n : Bool) => ((n, ()), ())) (bif_some (p := fun (n : Bool) => ((n, ()), ())) (bif_some (p := fun (n : Bool) => ((n, ()), ())) rfl (bif_some (p := fun (n : Bool) => ((n, ()), ())) (bif_some (p := fun (n : Bool) => ((n, ()), ())) (bif_some (p := fun (n : Bool) => ((n, ()), ())) rfl rfl) rfl) rfl)) rfl) rfl) rfl) rfl)
theorem ok_spec_SuperOk : ConOk Try.prog 199 con_spec_SuperOk := (ok0_spec_SuperOk).mono (fun x r _ h => (nn_spec_SuperOk x.1).trans h)
abbrev noSuper : dS := (0, 0, 0, 0, 0, 0, 0, 0)
theorem superOk_iff {s : dS} : n_spec_SuperOk s = true ↔ n_spec_GeoOk (s.2.2.2.1, s.2.2.2.2.1) = true ∧ (1 ≤ s.1 ∧ s.1 ≤ 60000) ∧ (0 ≤ s.2.1 ∧ s.2.1 ≤ 60000) ∧ (0 ≤ s.2.2.1 ∧ s.2.2.1 ≤ s.2.2.2.1 - 1) ∧ (0 ≤ s.2.2.2.2.2.1 ∧ s.2.2.2.2.2.1 ≤ 60000) ∧ (-1 ≤ s.2.2.2.2.2.2.1 ∧ s.2.2.2.2.2.2.1 ≤ s.2.2.2.1 - 1) ∧ (0 ≤ s.2.2.2.2.2.2.2 ∧ s.2.2.2.2.2.2.2 ≤ s.2.2.2.2.1) ∧ (0 ≤ s.2.2.2.2.2.2.1 ∨ s.2.2.2.2.2.2.2 = 0) := by
  unfold n_spec_SuperOk
  cases hg : n_spec_GeoOk (s.2.2.2.1, s.2.2.2.2.1)
  · simp
  have hg2 := geo_iff.1 hg
  simp only at hg2
  rw [wr (show -9223372036854775808 ≤ s.2.2.2.1 - 1 by omega) (by omega)]
  simp only [Bool.not_not, cond_true, true_and]
  simp only [← in_iff]
  cases n_spec_l1In s.1 1 60000
  · simp
  cases n_spec_l1In s.2.1 0 60000
  · simp
  cases n_spec_l1In s.2.2.1 0 (s.2.2.2.1 - 1)
  · simp
  cases n_spec_l1In s.2.2.2.2.2.1 0 60000
  · simp
  cases n_spec_l1In s.2.2.2.2.2.2.1 (-1) (s.2.2.2.1 - 1)
  · simp
  cases n_spec_l1In s.2.2.2.2.2.2.2 0 s.2.2.2.2.1
  · simp
  cases hl : leb 0 s.2.2.2.2.2.2.1
  · have := mt leb_t (by rw [hl]; simp : ¬ leb 0 s.2.2.2.2.2.2.1 = true)
    simp [this]
  · simp [leb_iff.1 hl]
def superAt (l : List Int) : dS := (nth l 1 0, nth l 2 0, nth l 3 0, nth l 4 0, nth l 5 0, nth l 6 0, IntKind.i64.wrap (nth l 7 0 - 1), nth l 8 0)
noncomputable def getSuper (l : List Int) : dS × Bool := bif (l.length : Int) == 9 && (nth l 0 0 == 21317 && n_spec_SuperOk (superAt l)) then (superAt l, true) else (noSuper, false)
/-- what a sector tells of an array -/
noncomputable def cand (m : dM) (i : Int) : dS := (getSuper (readSec m i).1).1
noncomputable def candOk (m : dM) (id i : Int) : Bool := (readSec m i).2 && ((getSuper (readSec m i).1).2 && ((cand m i).1 == id && (cand m i).2.1.tmod 2 == i))
/-- the better of what is known and a new one -/
def better (b : dS × Bool) (ok : Bool) (s : dS) : dS × Bool := bif ok && (!b.2 || ltb b.1.2.1 s.2.1) then (s, true) else b
noncomputable def bestSuper (m : dM) (id : Int) : dS × Bool := (List.range 2).foldl (fun s (i : Nat) => better s (candOk m id i) (cand m i)) (noSuper, false)
noncomputable def ownOk (m : dM) (i id : Int) : Bool := !m.2.2.1 && ((bestSuper m id).2 && (bestSuper m id).1.2.2.1 == i)
noncomputable def best9 (l : List dM) (id : Int) : dS × Bool := (List.range l.length).foldl (fun s (i : Nat) => better s (ownOk (nth l i noMem) i id) (bestSuper (nth l i noMem) id).1) (noSuper, false)
noncomputable def asmStep (l : List dM) (id : Int) (s : Int × Int × Bool) (i : Nat) : Int × Int × Bool := bif ownOk (nth l i noMem) i id then s else bif s.1 == -1 || s.1 == i then ((i : Int), 0, s.2.2) else (s.1, s.2.1, true)
def asmArr (b : dS) (l : List dM) (id : Int) (s : Int × Int × Bool) : dA := (id, (b.2.2.2.1, b.2.2.2.2.1), l, s.1, s.2.1, b.2.2.2.2.2.1, b.2.2.2.2.2.1, b.2.1, [], -1, false, s.2.2)
noncomputable def asmAll (l : List dM) (id : Int) : dA := asmArr (best9 l id).1 l id ((List.range l.length).foldl (asmStep l id) ((best9 l id).1.2.2.2.2.2.2.1, (best9 l id).1.2.2.2.2.2.2.2, false))
noncomputable def assemble (l : List dM) (id : Int) : dA × Bool := bif (best9 l id).2 && ((l.length : Int) == (best9 l id).1.2.2.2.1 && arrOk (asmAll l id)) then (asmAll l id, true) else (noArr, false)
theorem better_f (b : dS × Bool) (s : dS) : better b false s = b := rfl
theorem readSec_mem {m : dM} {i : Int} (h : (readSec m i).2 = true) : memOk m = true := by
  unfold readSec at h
  cases hc : canRead m i
  · rw [hc] at h; cases h
  · exact (Bool.and_eq_true_iff.1 hc).1
theorem candOk_f {m : dM} {id i : Int} (h : memOk m = false) : candOk m id i = false := by
  unfold candOk
  cases hr : (readSec m i).2
  · rfl
  · rw [readSec_mem hr] at h; cases h
theorem best_mem {m : dM} {id : Int} (h : (bestSuper m id).2 = true) : memOk m = true := by
  cases hm : memOk m
  · unfold bestSuper at h
    simp only [candOk_f hm, better_f] at h
    exact h
  · rfl
end

/-! spec_GetSuper -/
section
noncomputable def B_spec_GetSuper : Code := (Try.f183.body).getD .skip
noncomputable def E_spec_GetSuper : Env := envOf TT [(199, con_spec_SuperOk)] []
theorem fr_spec_GetSuper_0 : FrOk Try.prog ⟨E_spec_GetSuper, 46, fun _ => none⟩ B_spec_GetSuper := frOk_base mixed tt_ok ⟨ok_spec_SuperOk, trivial⟩
noncomputable def D_spec_GetSuper_0 : Nat → Option Seg := fun _ => none
abbrev I_spec_GetSuper : List Par := [.rd tL]
abbrev U_spec_GetSuper : List OT := [⟨false, tS, (.pr .fz (.pr .fz (.pr .fz (.pr .fz (.pr .fz (.pr .fz (.pr .fz .fz)))))))⟩, ⟨false, tB, .fz⟩]
noncomputable def raw_spec_GetSuper (a0 : List Int) : Option (ResD U_spec_GetSuper × MutD I_spec_GetSuper) :=
  bif (!((a0.length : Int) != 9)) then
    bif (inb 0 a0.length) then
      bif ((nth a0 0 0) != 21317) then
        some (((0, 0, 0, 0, 0, 0, 0, 0), false, ()), ())
      else
        bif (inb 1 a0.length) then
          bif (inb 2 a0.length) then
            bif (inb 3 a0.length) then
              bif (inb 4 a0.length) then
                bif (inb 5 a0.length) then
                  bif (inb 6 a0.length) then
                    bif (inb 7 a0.length) then
                      bif (inb 8 a0.length) then
                        let r1 := n_spec_SuperOk ((nth a0 1 0), (nth a0 2 0), (nth a0 3 0), (nth a0 4 0), (nth a0 5 0), (nth a0 6 0), (IntKind.i64.wrap ((nth a0 7 0) - 1)), (nth a0 8 0))
                        bif (!r1) then
                          some (((0, 0, 0, 0, 0, 0, 0, 0), false, ()), ())
                        else
                          some ((((nth a0 1 0), (nth a0 2 0), (nth a0 3 0), (nth a0 4 0), (nth a0 5 0), (nth a0 6 0), (IntKind.i64.wrap ((nth a0 7 0) - 1)), (nth a0 8 0)), true, ()), ())
                      else none
                    else none
                  else none
                else none
              else none
            else none
          else none
        else none
    else none
  else
    some (((0, 0, 0, 0, 0, 0, 0, 0), false, ()), ())
theorem e_spec_GetSuper (x : InD I_spec_GetSuper) : execF ⟨E_spec_GetSuper, 46, D_spec_GetSuper_0⟩ Try.f183.results.toList B_spec_GetSuper I_spec_GetSuper U_spec_GetSuper x = raw_spec_GetSuper x.1 := by kernel_rfl
theorem ok0_spec_GetSuper : ConOk Try.prog 183 ⟨I_spec_GetSuper, U_spec_GetSuper, fun x => raw_spec_GetSuper x.1⟩ := conOk_exec (fr_spec_GetSuper_0) Try.func183 (by kernel_rfl) (by kernel_rfl) Try.ntmps183.symm (by decide) (fun x r h => (e_spec_GetSuper x).trans h)
noncomputable def n_spec_GetSuper (a0 : List Int) : dS × Bool := getSuper a0
theorem nn_spec_GetSuper (a0 : List Int) (hk : InOk I_spec_GetSuper (a0, ())) : raw_spec_GetSuper a0 = (fun n => some ((n.1, n.2, ()), ())) (n_spec_GetSuper a0) := by
  unfold raw_spec_GetSuper n_spec_GetSuper getSuper
  by_cases h : (a0.length : Int) = 9
  · simp only [bne, h, beq_self_eq_true, inb_iff.2 (show (0 : Int) ≤ 0 ∧ (0 : Int) < a0.length by omega), inb_iff.2 (show (0 : Int) ≤ 1 ∧ (1 : Int) < a0.length by omega), inb_iff.2 (show (0 : Int) ≤ 2 ∧ (2 : Int) < a0.length by omega), inb_iff.2 (show (0 : Int) ≤ 3 ∧ (3 : Int) < a0.length by omega), inb_iff.2 (show (0 : Int) ≤ 4 ∧ (4 : Int) < a0.length by omega), inb_iff.2 (show (0 : Int) ≤ 5 ∧ (5 : Int) < a0.length by omega), inb_iff.2 (show (0 : Int) ≤ 6 ∧ (6 : Int) < a0.length by omega), inb_iff.2 (show (0 : Int) ≤ 7 ∧ (7 : Int) < a0.length by omega), inb_iff.2 (show (0 : Int) ≤ 8 ∧ (8 : Int) < a0.length by omega)]
    rw [show n_spec_SuperOk (nth a0 1 0, nth a0 2 0, nth a0 3 0, nth a0 4 0, nth a0 5 0, nth a0 6 0, IntKind.i64.wrap (nth a0 7 0 - 1), nth a0 8 0) = n_spec_SuperOk (superAt a0) from rfl]
    cases (nth a0 0 0 == 21317) <;> cases n_spec_SuperOk (superAt a0) <;> rfl
  · rw [show ((a0.length : Int) != 9) = true from bne_iff_ne.2 h, show ((a0.length : Int) == 9) = false from beq_eq_false_iff_ne.2 h]; rfl
noncomputable def con_spec_GetSuper : Con := ⟨I_spec_GetSuper, U_spec_GetSuper, fun x => (fun n => some ((n.1, n.2, ()), ())) (n_spec_GetSuper x.1)⟩
theorem ok_spec_GetSuper : ConOk Try.prog 183 con_spec_GetSuper := (ok0_spec_GetSuper).mono (fun x r hk h => (nn_spec_GetSuper x.1 hk).trans h)
end
end Go.Tf
