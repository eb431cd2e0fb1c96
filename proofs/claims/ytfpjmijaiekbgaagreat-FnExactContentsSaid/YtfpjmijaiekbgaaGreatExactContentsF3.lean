/- Functions of the program, and what they come to. -/
import Derived.Test.YtfpjmijaiekbgaaGreatExactContentsF2
namespace Go.Tf
open Go.Proofs
set_option synthInstance.maxHeartbeats 400000
set_option synthInstance.maxSize 10000
set_option linter.unusedVariables false
set_option linter.unusedSimpArgs false
set_option maxRecDepth 100000
/-! spec_l6Dirty -/
section
noncomputable def B_spec_l6Dirty : Code := (Tryz.f159.body).getD .skip
noncomputable def E_spec_l6Dirty : Env := envOf TT [(98, con_spec_l1In), (200, con_spec_l1Words)] []
theorem fr_spec_l6Dirty_0 : FrOk Tryz.prog ⟨E_spec_l6Dirty, 57, fun _ => none⟩ B_spec_l6Dirty := frOk_base mixed tt_ok ⟨ok_spec_l1In, ok_spec_l1Words, trivial⟩
noncomputable def D_spec_l6Dirty_0 : Nat → Option Seg := fun _ => none
def L_spec_l6Dirty_13 : Shape := ⟨[(1, false, [.ptr 0 0]), (3, false, [.int .i64])], [(0, [.int .i64, .int .i64, .int .i64, .br tM, .int .i64, .int .i64, .int .i64, .int .i64, .int .i64, .br tW, .int .i64, .bool, .bool])], []⟩
def S_spec_l6Dirty_13 : Shape := ⟨[(1, false, [.ptr 0 0]), (3, false, [.ci .i64 0])], [(0, [.int .i64, .int .i64, .int .i64, .br tM, .int .i64, .int .i64, .int .i64, .int .i64, .int .i64, .br tW, .int .i64, .bool, .bool])], []⟩
def O_spec_l6Dirty_13 : Shape := ⟨[], [], []⟩
def Z_spec_l6Dirty_13 : Shape := ⟨[(2, false, [.bool])], [], []⟩
abbrev mk_spec_l6Dirty_13 (v0 : Int) (v1 : dA) : (L_spec_l6Dirty_13).X := ((((), ()), (v0, ()), ()), ((v1.1, v1.2.1.1, v1.2.1.2, v1.2.2.1, v1.2.2.2.1, v1.2.2.2.2.1, v1.2.2.2.2.2.1, v1.2.2.2.2.2.2.1, v1.2.2.2.2.2.2.2.1, v1.2.2.2.2.2.2.2.2.1, v1.2.2.2.2.2.2.2.2.2.1, v1.2.2.2.2.2.2.2.2.2.2.1, v1.2.2.2.2.2.2.2.2.2.2.2, ()), ()), ())
abbrev ms_spec_l6Dirty_13 (v0 : dA) : (S_spec_l6Dirty_13).X := ((((), ()), ((), ()), ()), ((v0.1, v0.2.1.1, v0.2.1.2, v0.2.2.1, v0.2.2.2.1, v0.2.2.2.2.1, v0.2.2.2.2.2.1, v0.2.2.2.2.2.2.1, v0.2.2.2.2.2.2.2.1, v0.2.2.2.2.2.2.2.2.1, v0.2.2.2.2.2.2.2.2.2.1, v0.2.2.2.2.2.2.2.2.2.2.1, v0.2.2.2.2.2.2.2.2.2.2.2, ()), ()), ())
abbrev mo_spec_l6Dirty_13  : (O_spec_l6Dirty_13).X := ((), (), ())
abbrev mz_spec_l6Dirty_13 (v0 : Bool) : (Z_spec_l6Dirty_13).X := (((v0, ()), ()), (), ())
noncomputable def st_spec_l6Dirty_13 (v0 : Int) (v1 : Int) (v2 : Int) (v3 : Int) (v4 : List dM) (v5 : Int) (v6 : Int) (v7 : Int) (v8 : Int) (v9 : Int) (v10 : List dW) (v11 : Int) (v12 : Bool) (v13 : Bool) : Option ((L_spec_l6Dirty_13).X ⊕ ((O_spec_l6Dirty_13).X ⊕ (Z_spec_l6Dirty_13).X)) :=
  bif (ltb v0 (v10.length : Int)) then
    bif (inb v0 v10.length) then
      let r3 := n_spec_l1In ((nth v10 v0 (0, [])).1) 0 (IntKind.i64.wrap (v3 - 1))
      bif (!(!r3)) then
        bif (!((((nth v10 v0 (0, [])).2).length : Int) != (IntKind.i64.wrap (v2 - 1)))) then
          let r4 := n_spec_l1Words ((nth v10 v0 (0, [])).2)
          bif (!(!r4)) then
            bif (ltb 0 v0) then
              bif (inb (IntKind.i64.wrap (v0 - 1)) v10.length) then
                bif (leb ((nth v10 v0 (0, [])).1) ((nth v10 (IntKind.i64.wrap (v0 - 1)) (0, [])).1)) then
                  some (.inr (.inr (((false, ()), ()), (), ())))
                else
                  some (.inl ((((), ()), ((IntKind.i64.wrap (v0 + 1)), ()), ()), ((v1, v2, v3, v4, v5, v6, v7, v8, v9, v10, v11, v12, v13, ()), ()), ()))
              else none
            else
              some (.inl ((((), ()), ((IntKind.i64.wrap (v0 + 1)), ()), ()), ((v1, v2, v3, v4, v5, v6, v7, v8, v9, v10, v11, v12, v13, ()), ()), ()))
          else
            some (.inr (.inr (((false, ()), ()), (), ())))
        else
          some (.inr (.inr (((false, ()), ()), (), ())))
      else
        some (.inr (.inr (((false, ()), ()), (), ())))
    else none
  else
    some (.inr (.inl ((), (), ())))
noncomputable def stx_spec_l6Dirty_13 (x : (L_spec_l6Dirty_13).X) := st_spec_l6Dirty_13 x.1.2.1.1 x.2.1.1.1 x.2.1.1.2.1 x.2.1.1.2.2.1 x.2.1.1.2.2.2.1 x.2.1.1.2.2.2.2.1 x.2.1.1.2.2.2.2.2.1 x.2.1.1.2.2.2.2.2.2.1 x.2.1.1.2.2.2.2.2.2.2.1 x.2.1.1.2.2.2.2.2.2.2.2.1 x.2.1.1.2.2.2.2.2.2.2.2.2.1 x.2.1.1.2.2.2.2.2.2.2.2.2.2.1 x.2.1.1.2.2.2.2.2.2.2.2.2.2.2.1 x.2.1.1.2.2.2.2.2.2.2.2.2.2.2.2.1
def em_spec_l6Dirty_13 (x : (S_spec_l6Dirty_13).X) : (L_spec_l6Dirty_13).X := ((((), ()), (0, ()), ()), ((x.2.1.1.1, x.2.1.1.2.1, x.2.1.1.2.2.1, x.2.1.1.2.2.2.1, x.2.1.1.2.2.2.2.1, x.2.1.1.2.2.2.2.2.1, x.2.1.1.2.2.2.2.2.2.1, x.2.1.1.2.2.2.2.2.2.2.1, x.2.1.1.2.2.2.2.2.2.2.2.1, x.2.1.1.2.2.2.2.2.2.2.2.2.1, x.2.1.1.2.2.2.2.2.2.2.2.2.2.1, x.2.1.1.2.2.2.2.2.2.2.2.2.2.2.1, x.2.1.1.2.2.2.2.2.2.2.2.2.2.2.2.1, ()), ()), ())
noncomputable def c_spec_l6Dirty_13 : Code := (subN B_spec_l6Dirty 64 52).getD .skip
theorem a_spec_l6Dirty_13 : subN B_spec_l6Dirty 64 13 = some (.block 0 (.loop c_spec_l6Dirty_13)) := by kernel_rfl
theorem r_spec_l6Dirty_13 (x : (L_spec_l6Dirty_13).X) : roundT ⟨E_spec_l6Dirty, 57, D_spec_l6Dirty_0⟩ 0 c_spec_l6Dirty_13 52 L_spec_l6Dirty_13 O_spec_l6Dirty_13 Z_spec_l6Dirty_13 x = stx_spec_l6Dirty_13 x := by kernel_rfl
noncomputable def fu_spec_l6Dirty_13 (x : (S_spec_l6Dirty_13).X) : Nat := (fun (u0 : Int) (u1 : Int) (u2 : Int) (u3 : List dM) (u4 : Int) (u5 : Int) (u6 : Int) (u7 : Int) (u8 : Int) (u9 : List dW) (u10 : Int) (u11 : Bool) (u12 : Bool) => 18446744073709551616) x.2.1.1.1 x.2.1.1.2.1 x.2.1.1.2.2.1 x.2.1.1.2.2.2.1 x.2.1.1.2.2.2.2.1 x.2.1.1.2.2.2.2.2.1 x.2.1.1.2.2.2.2.2.2.1 x.2.1.1.2.2.2.2.2.2.2.1 x.2.1.1.2.2.2.2.2.2.2.2.1 x.2.1.1.2.2.2.2.2.2.2.2.2.1 x.2.1.1.2.2.2.2.2.2.2.2.2.2.1 x.2.1.1.2.2.2.2.2.2.2.2.2.2.2.1 x.2.1.1.2.2.2.2.2.2.2.2.2.2.2.2.1
noncomputable def F_spec_l6Dirty_13 (x : (S_spec_l6Dirty_13).X) : Option ((O_spec_l6Dirty_13).X ⊕ (Z_spec_l6Dirty_13).X) := loopN stx_spec_l6Dirty_13 (fu_spec_l6Dirty_13 x) (em_spec_l6Dirty_13 x)
noncomputable def sg_spec_l6Dirty_13 : Seg := ⟨S_spec_l6Dirty_13, O_spec_l6Dirty_13, Z_spec_l6Dirty_13, F_spec_l6Dirty_13⟩
noncomputable def D_spec_l6Dirty_1 : Nat → Option Seg := fun q => bif Nat.beq q 13 then some sg_spec_l6Dirty_13 else D_spec_l6Dirty_0 q
theorem fr_spec_l6Dirty_1 : FrOk Tryz.prog ⟨E_spec_l6Dirty, 57, D_spec_l6Dirty_1⟩ B_spec_l6Dirty := (fr_spec_l6Dirty_0).loop (sg := sg_spec_l6Dirty_13) L_spec_l6Dirty_13 em_spec_l6Dirty_13 (by decide) a_spec_l6Dirty_13 stx_spec_l6Dirty_13 fu_spec_l6Dirty_13 (by decide) (fun _ => rfl) (fun x r _ h => h) r_spec_l6Dirty_13
abbrev I_spec_l6Dirty : List Par := [.rd tA]
abbrev U_spec_l6Dirty : List OT := [⟨false, tB, .fz⟩]
noncomputable def raw_spec_l6Dirty (a0 : dA) : Option (ResD U_spec_l6Dirty × MutD I_spec_l6Dirty) :=
  segM (F_spec_l6Dirty_13 ((((), ()), ((), ()), ()), ((a0.1, a0.2.1.1, a0.2.1.2, a0.2.2.1, a0.2.2.2.1, a0.2.2.2.2.1, a0.2.2.2.2.2.1, a0.2.2.2.2.2.2.1, a0.2.2.2.2.2.2.2.1, a0.2.2.2.2.2.2.2.2.1, a0.2.2.2.2.2.2.2.2.2.1, a0.2.2.2.2.2.2.2.2.2.2.1, a0.2.2.2.2.2.2.2.2.2.2.2, ()), ()), ())) (fun y4 =>
    some ((true, ()), ())) (fun y4 =>
    some ((y4.1.1.1, ()), ()))
theorem e_spec_l6Dirty (x : InD I_spec_l6Dirty) : execF ⟨E_spec_l6Dirty, 57, D_spec_l6Dirty_1⟩ Tryz.f159.results.toList B_spec_l6Dirty I_spec_l6Dirty U_spec_l6Dirty x = raw_spec_l6Dirty x.1 := by kernel_rfl
theorem ok0_spec_l6Dirty : ConOk Tryz.prog 159 ⟨I_spec_l6Dirty, U_spec_l6Dirty, fun x => raw_spec_l6Dirty x.1⟩ := conOk_exec (fr_spec_l6Dirty_1) Tryz.func159 (by kernel_rfl) (by kernel_rfl) Tryz.ntmps159.symm (by decide) (fun x r h => (e_spec_l6Dirty x).trans h)
noncomputable def n_spec_l6Dirty (a0 : dA) : Bool := dirtyOk a0.2.1 a0.2.2.2.2.2.2.2.2.1
noncomputable def q_spec_l6Dirty (a0 : dA) : Bool := n_spec_GeoOk a0.2.1
theorem spec_words_eq (l : List Int) : n_spec_l1Words l = l.all isW := by
  unfold n_spec_l1Words
  rw [show n_spec_l1Word = isW from funext fun x => by unfold n_spec_l1Word; rw [in_eq]; rfl]
theorem nn_spec_l6Dirty (a0 : dA) (hk : InOk I_spec_l6Dirty (a0, ())) (hq : q_spec_l6Dirty a0 = true) : raw_spec_l6Dirty a0 = (fun n => some ((n, ()), ())) (n_spec_l6Dirty a0) := by
  have hb : a0.2.2.2.2.2.2.2.2.1.length * 32 ≤ 2 ^ 47 := hk.1.2.2.2.2.2.2.2.2.1.1
  have hg := geo_iff.1 hq
  have h1 : F_spec_l6Dirty_13 (ms_spec_l6Dirty_13 a0) = some (bif (List.range a0.2.2.2.2.2.2.2.2.1.length).any (dirtBad a0.2.1 a0.2.2.2.2.2.2.2.2.1) then .inr (mz_spec_l6Dirty_13 false) else .inl mo_spec_l6Dirty_13) :=
    loopN_all (step := stx_spec_l6Dirty_13) (fun i => mk_spec_l6Dirty_13 i a0) a0.2.2.2.2.2.2.2.2.1.length (dirtBad a0.2.1 a0.2.2.2.2.2.2.2.2.1) _ _ (fun i hi => by
      simp only [stx_spec_l6Dirty_13, mk_spec_l6Dirty_13, st_spec_l6Dirty_13, ltb_t (show (i : Int) < a0.2.2.2.2.2.2.2.2.1.length by omega), cond_true, wr (show -9223372036854775808 ≤ (i : Int) + 1 by omega) (by omega), Int.natCast_add, Int.natCast_one, Int.toNat_natCast, inb_nat hi, in_eq, spec_words_eq, wr (show -9223372036854775808 ≤ a0.2.1.2 - 1 by omega) (by omega), wr (show -9223372036854775808 ≤ a0.2.1.1 - 1 by omega) (by omega), dirtBad]
      rcases Nat.eq_zero_or_pos i with rfl | h0
      · cases (leb 0 (nth a0.2.2.2.2.2.2.2.2.1 ((0 : Nat) : Int) (0, [])).1 && leb (nth a0.2.2.2.2.2.2.2.2.1 ((0 : Nat) : Int) (0, [])).1 (a0.2.1.2 - 1)) <;> cases (((nth a0.2.2.2.2.2.2.2.2.1 ((0 : Nat) : Int) (0, [])).2.length : Int) != a0.2.1.1 - 1) <;> cases ((nth a0.2.2.2.2.2.2.2.2.1 ((0 : Nat) : Int) (0, [])).2.all isW) <;> rfl
      · rw [show IntKind.i64.wrap ((i : Int) - 1) = ((i - 1 : Nat) : Int) by rw [wr (by omega) (by omega)]; omega, inb_nat (show i - 1 < a0.2.2.2.2.2.2.2.2.1.length by omega), ltb_t (show (0 : Int) < i by omega), decide_eq_true h0]
        cases (leb 0 (nth a0.2.2.2.2.2.2.2.2.1 (i : Int) (0, [])).1 && leb (nth a0.2.2.2.2.2.2.2.2.1 (i : Int) (0, [])).1 (a0.2.1.2 - 1)) <;> cases (((nth a0.2.2.2.2.2.2.2.2.1 (i : Int) (0, [])).2.length : Int) != a0.2.1.1 - 1) <;> cases ((nth a0.2.2.2.2.2.2.2.2.1 (i : Int) (0, [])).2.all isW) <;> cases leb (nth a0.2.2.2.2.2.2.2.2.1 (i : Int) (0, [])).1 (nth a0.2.2.2.2.2.2.2.2.1 ((i - 1 : Nat) : Int) (0, [])).1 <;> rfl) (by simp only [stx_spec_l6Dirty_13, mk_spec_l6Dirty_13, st_spec_l6Dirty_13, ltb_f (Int.le_refl _), cond_false]) _ (by show _ < 18446744073709551616; omega)
  unfold raw_spec_l6Dirty n_spec_l6Dirty dirtyOk
  rw [h1]
  cases (List.range a0.2.2.2.2.2.2.2.2.1.length).any (dirtBad a0.2.1 a0.2.2.2.2.2.2.2.2.1) <;> rfl
noncomputable def o_spec_l6Dirty (a0 : dA) : Option (ResD U_spec_l6Dirty × MutD I_spec_l6Dirty) := bif q_spec_l6Dirty a0 then (fun n => some ((n, ()), ())) (n_spec_l6Dirty a0) else none
theorem ot_spec_l6Dirty (a0 : dA) (h : q_spec_l6Dirty a0 = true) : o_spec_l6Dirty a0 = (fun n => some ((n, ()), ())) (n_spec_l6Dirty a0) := by unfold o_spec_l6Dirty; rw [h]; rfl
noncomputable def con_spec_l6Dirty : Con := ⟨I_spec_l6Dirty, U_spec_l6Dirty, fun x => o_spec_l6Dirty x.1⟩
theorem ok_spec_l6Dirty : ConOk Tryz.prog 159 con_spec_l6Dirty := (ok0_spec_l6Dirty).mono (fun x r hk h => pre_ok h (fun hq => nn_spec_l6Dirty x.1 hk hq))
end

/-! spec_ArrOk -/
section
noncomputable def B_spec_ArrOk : Code := (Tryz.f82.body).getD .skip
noncomputable def E_spec_ArrOk : Env := envOf TT [(98, con_spec_l1In), (141, con_spec_GeoOk), (158, con_spec_l6Mems), (159, con_spec_l6Dirty)] []
theorem fr_spec_ArrOk_0 : FrOk Tryz.prog ⟨E_spec_ArrOk, 78, fun _ => none⟩ B_spec_ArrOk := frOk_base mixed tt_ok ⟨ok_spec_l1In, ok_spec_GeoOk, ok_spec_l6Mems, ok_spec_l6Dirty, trivial⟩
noncomputable def D_spec_ArrOk_0 : Nat → Option Seg := fun _ => none
abbrev I_spec_ArrOk : List Par := [.rd tA]
abbrev U_spec_ArrOk : List OT := [⟨false, tB, .fz⟩]
noncomputable def raw_spec_ArrOk (a0 : dA) : Option (ResD U_spec_ArrOk × MutD I_spec_ArrOk) :=
  let r1 := n_spec_GeoOk a0.2.1
  bif (!(!r1)) then
    let r2 := n_spec_l1In a0.1 1 60000
    bif (!(!r2)) then
      bnd (o_spec_l6Mems a0) fun r3 =>
      bif (!(!r3.1.1)) then
        bnd (o_spec_l6Dirty a0) fun r4 =>
        bif (!r4.1.1) then
          some ((false, ()), ())
        else
          let r5 := n_spec_l1In a0.2.2.2.1 (-1) (IntKind.i64.wrap (a0.2.1.1 - 1))
          bif (!(!r5)) then
            let r6 := n_spec_l1In a0.2.2.2.2.1 0 a0.2.1.2
            bif (!(!r6)) then
              bif (a0.2.2.2.1 == (-1)) then
                bif (a0.2.2.2.2.1 != 0) then
                  some ((false, ()), ())
                else
                  let r7 := n_spec_l1In a0.2.2.2.2.2.2.1 0 60000
                  bif r7 then
                    let r8 := n_spec_l1In a0.2.2.2.2.2.1 a0.2.2.2.2.2.2.1 60000
                    bif r8 then
                      bif (leb a0.2.2.2.2.2.1 (IntKind.i64.wrap (a0.2.2.2.2.2.2.1 + 4))) then
                        let r9 := n_spec_l1In a0.2.2.2.2.2.2.2.1 0 60000
                        bif r9 then
                          let r10 := n_spec_l1In a0.2.2.2.2.2.2.2.2.2.1 (-1) 1000
                          some ((r10, ()), ())
                        else
                          some ((false, ()), ())
                      else
                        some ((false, ()), ())
                    else
                      some ((false, ()), ())
                  else
                    some ((false, ()), ())
              else
                let r11 := n_spec_l1In a0.2.2.2.2.2.2.1 0 60000
                bif r11 then
                  let r12 := n_spec_l1In a0.2.2.2.2.2.1 a0.2.2.2.2.2.2.1 60000
                  bif r12 then
                    bif (leb a0.2.2.2.2.2.1 (IntKind.i64.wrap (a0.2.2.2.2.2.2.1 + 4))) then
                      let r13 := n_spec_l1In a0.2.2.2.2.2.2.2.1 0 60000
                      bif r13 then
                        let r14 := n_spec_l1In a0.2.2.2.2.2.2.2.2.2.1 (-1) 1000
                        some ((r14, ()), ())
                      else
                        some ((false, ()), ())
                    else
                      some ((false, ()), ())
                  else
                    some ((false, ()), ())
                else
                  some ((false, ()), ())
            else
              some ((false, ()), ())
          else
            some ((false, ()), ())
      else
        some ((false, ()), ())
    else
      some ((false, ()), ())
  else
    some ((false, ()), ())
theorem e_spec_ArrOk (x : InD I_spec_ArrOk) : execF ⟨E_spec_ArrOk, 78, D_spec_ArrOk_0⟩ Tryz.f82.results.toList B_spec_ArrOk I_spec_ArrOk U_spec_ArrOk x = raw_spec_ArrOk x.1 := by kernel_rfl
theorem ok0_spec_ArrOk : ConOk Tryz.prog 82 ⟨I_spec_ArrOk, U_spec_ArrOk, fun x => raw_spec_ArrOk x.1⟩ := conOk_exec (fr_spec_ArrOk_0) Tryz.func82 (by kernel_rfl) (by kernel_rfl) Tryz.ntmps82.symm (by decide) (fun x r h => (e_spec_ArrOk x).trans h)
noncomputable def n_spec_ArrOk (a0 : dA) : Bool := arrOk a0
theorem nn_spec_ArrOk (a0 : dA) (hk : InOk I_spec_ArrOk (a0, ())) : raw_spec_ArrOk a0 = (fun n => some ((n, ()), ())) (n_spec_ArrOk a0) := by
  unfold raw_spec_ArrOk n_spec_ArrOk arrOk
  simp only [in_eq]
  cases hg : n_spec_GeoOk a0.2.1
  · rfl
  have hg2 := geo_iff.1 hg
  rw [ot_spec_l6Mems a0 hg, ot_spec_l6Dirty a0 hg, wr (show -9223372036854775808 ≤ a0.2.1.1 - 1 by omega) (by omega)]
  simp only [bnd_some, n_spec_l6Mems, n_spec_l6Dirty, Bool.not_not, cond_true]
  cases (leb 1 a0.1 && leb a0.1 60000)
  · rfl
  cases memsOk a0
  · rfl
  cases dirtyOk a0.2.1 a0.2.2.2.2.2.2.2.2.1
  · rfl
  cases (leb (-1) a0.2.2.2.1 && leb a0.2.2.2.1 (a0.2.1.1 - 1))
  · rfl
  cases (leb 0 a0.2.2.2.2.1 && leb a0.2.2.2.2.1 a0.2.1.2)
  · rfl
  have ht : (leb 0 a0.2.2.2.2.2.2.1 && leb a0.2.2.2.2.2.2.1 60000) = true → IntKind.i64.wrap (a0.2.2.2.2.2.2.1 + 4) = a0.2.2.2.2.2.2.1 + 4 := fun h => by
    rw [Bool.and_eq_true, leb_iff, leb_iff] at h
    exact wr (by omega) (by omega)
  cases hT : (leb 0 a0.2.2.2.2.2.2.1 && leb a0.2.2.2.2.2.2.1 60000)
  · cases (a0.2.2.2.1 == -1) <;> cases (a0.2.2.2.2.1 != 0) <;> rfl
  rw [ht hT]
  cases (leb a0.2.2.2.2.2.2.1 a0.2.2.2.2.2.1 && leb a0.2.2.2.2.2.1 60000)
  · cases (a0.2.2.2.1 == -1) <;> cases (a0.2.2.2.2.1 != 0) <;> rfl
  cases leb a0.2.2.2.2.2.1 (a0.2.2.2.2.2.2.1 + 4)
  · cases (a0.2.2.2.1 == -1) <;> cases (a0.2.2.2.2.1 != 0) <;> rfl
  cases (leb 0 a0.2.2.2.2.2.2.2.1 && leb a0.2.2.2.2.2.2.2.1 60000) <;> cases (a0.2.2.2.1 == -1) <;> cases (a0.2.2.2.2.1 != 0) <;> rfl
noncomputable def con_spec_ArrOk : Con := ⟨I_spec_ArrOk, U_spec_ArrOk, fun x => (fun n => some ((n, ()), ())) (n_spec_ArrOk x.1)⟩
theorem ok_spec_ArrOk : ConOk Tryz.prog 82 con_spec_ArrOk := (ok0_spec_ArrOk).mono (fun x r hk h => (nn_spec_ArrOk x.1 hk).trans h)
end

/-! spec_l8Code -/
section
noncomputable def B_spec_l8Code : Code := (Tryz.f89.body).getD .skip
noncomputable def E_spec_l8Code : Env := envOf TT [(64, con_spec_Blocks), (82, con_spec_ArrOk), (98, con_spec_l1In)] []
theorem fr_spec_l8Code_0 : FrOk Tryz.prog ⟨E_spec_l8Code, 20, fun _ => none⟩ B_spec_l8Code := frOk_base mixed tt_ok ⟨ok_spec_Blocks, ok_spec_ArrOk, ok_spec_l1In, trivial⟩
noncomputable def D_spec_l8Code_0 : Nat → Option Seg := fun _ => none
abbrev I_spec_l8Code : List Par := [.rd tA, .rd tI]
abbrev U_spec_l8Code : List OT := [⟨false, tI, .fz⟩]
noncomputable def raw_spec_l8Code (a0 : dA) (a1 : Int) : Option (ResD U_spec_l8Code × MutD I_spec_l8Code) :=
  let r1 := n_spec_ArrOk a0
  bif (!r1) then
    some ((1, ()), ())
  else
    bif a0.2.2.2.2.2.2.2.2.2.2.1 then
      some ((6, ()), ())
    else
      let r2 := n_spec_Blocks a0.2.1
      let r3 := n_spec_l1In a1 0 (IntKind.i64.wrap (r2 - 1))
      bif (!r3) then
        some ((2, ()), ())
      else
        some ((0, ()), ())
theorem e_spec_l8Code (x : InD I_spec_l8Code) : execF ⟨E_spec_l8Code, 20, D_spec_l8Code_0⟩ Tryz.f89.results.toList B_spec_l8Code I_spec_l8Code U_spec_l8Code x = raw_spec_l8Code x.1 x.2.1 := by kernel_rfl
theorem ok0_spec_l8Code : ConOk Tryz.prog 89 ⟨I_spec_l8Code, U_spec_l8Code, fun x => raw_spec_l8Code x.1 x.2.1⟩ := conOk_exec (fr_spec_l8Code_0) Tryz.func89 (by kernel_rfl) (by kernel_rfl) Tryz.ntmps89.symm (by decide) (fun x r h => (e_spec_l8Code x).trans h)
noncomputable def n_spec_l8Code (a0 : dA) (a1 : Int) : Int :=
  let r1 := n_spec_ArrOk a0
  bif (!r1) then
    1
  else
    bif a0.2.2.2.2.2.2.2.2.2.2.1 then
      6
    else
      let r2 := n_spec_Blocks a0.2.1
      let r3 := n_spec_l1In a1 0 (IntKind.i64.wrap (r2 - 1))
      bif (!r3) then
        2
      else
        0
noncomputable def con_spec_l8Code : Con := ⟨I_spec_l8Code, U_spec_l8Code, fun x => (fun n => some ((n, ()), ())) (n_spec_l8Code x.1 x.2.1)⟩
theorem nn_spec_l8Code (a0 : dA) (a1 : Int) : raw_spec_l8Code a0 a1 = (fun n => some ((n, ()), ())) (n_spec_l8Code a0 a1) := bif_ty (p := fun (n : Int) => ((n, ()), ())) (bif_some (p := fun (n : Int) => ((n, ()), ())) rfl (bif_some (p := fun (n : Int) => ((n, ()), ())) rfl (bif_some (p := fun (n : Int) => ((n, ()), ())) rfl rfl)))
theorem ok_spec_l8Code : ConOk Tryz.prog 89 con_spec_l8Code := (ok0_spec_l8Code).mono (fun x r _ h => (nn_spec_l8Code x.1 x.2.1).trans h)
theorem spec_code_eq (a : dA) (b : Int) : n_spec_l8Code a b = blockCode a b := by
  unfold n_spec_l8Code blockCode n_spec_ArrOk
  simp only [blk_in]
  cases arrOk a <;> cases a.2.2.2.2.2.2.2.2.2.2.1 <;> cases blkOk a.2.1 b <;> rfl
end

/-! spec_l8At -/
section
noncomputable def B_spec_l8At : Code := (Tryz.f177.body).getD .skip
noncomputable def E_spec_l8At : Env := envOf TT [] []
theorem fr_spec_l8At_0 : FrOk Tryz.prog ⟨E_spec_l8At, 22, fun _ => none⟩ B_spec_l8At := frOk_base mixed tt_ok trivial
noncomputable def D_spec_l8At_0 : Nat → Option Seg := fun _ => none
def L_spec_l8At_13 : Shape := ⟨[(1, false, [.int .i64]), (2, false, [.ptr 0 0]), (5, false, [.int .i64])], [(0, [.int .i64, .int .i64, .int .i64, .br tM, .int .i64, .int .i64, .int .i64, .int .i64, .int .i64, .br tW, .int .i64, .bool, .bool])], []⟩
def S_spec_l8At_13 : Shape := ⟨[(1, false, [.int .i64]), (2, false, [.ptr 0 0]), (5, false, [.ci .i64 0])], [(0, [.int .i64, .int .i64, .int .i64, .br tM, .int .i64, .int .i64, .int .i64, .int .i64, .int .i64, .br tW, .int .i64, .bool, .bool])], []⟩
def O_spec_l8At_13 : Shape := ⟨[], [], []⟩
def Z_spec_l8At_13 : Shape := ⟨[(4, false, [.int .i64])], [], []⟩
abbrev mk_spec_l8At_13 (v0 : Int) (v1 : Int) (v2 : dA) : (L_spec_l8At_13).X := (((v0, ()), ((), ()), (v1, ()), ()), ((v2.1, v2.2.1.1, v2.2.1.2, v2.2.2.1, v2.2.2.2.1, v2.2.2.2.2.1, v2.2.2.2.2.2.1, v2.2.2.2.2.2.2.1, v2.2.2.2.2.2.2.2.1, v2.2.2.2.2.2.2.2.2.1, v2.2.2.2.2.2.2.2.2.2.1, v2.2.2.2.2.2.2.2.2.2.2.1, v2.2.2.2.2.2.2.2.2.2.2.2, ()), ()), ())
abbrev ms_spec_l8At_13 (v0 : Int) (v1 : dA) : (S_spec_l8At_13).X := (((v0, ()), ((), ()), ((), ()), ()), ((v1.1, v1.2.1.1, v1.2.1.2, v1.2.2.1, v1.2.2.2.1, v1.2.2.2.2.1, v1.2.2.2.2.2.1, v1.2.2.2.2.2.2.1, v1.2.2.2.2.2.2.2.1, v1.2.2.2.2.2.2.2.2.1, v1.2.2.2.2.2.2.2.2.2.1, v1.2.2.2.2.2.2.2.2.2.2.1, v1.2.2.2.2.2.2.2.2.2.2.2, ()), ()), ())
abbrev mo_spec_l8At_13  : (O_spec_l8At_13).X := ((), (), ())
abbrev mz_spec_l8At_13 (v0 : Int) : (Z_spec_l8At_13).X := (((v0, ()), ()), (), ())
noncomputable def st_spec_l8At_13 (v0 : Int) (v1 : Int) (v2 : Int) (v3 : Int) (v4 : Int) (v5 : List dM) (v6 : Int) (v7 : Int) (v8 : Int) (v9 : Int) (v10 : Int) (v11 : List dW) (v12 : Int) (v13 : Bool) (v14 : Bool) : Option ((L_spec_l8At_13).X ⊕ ((O_spec_l8At_13).X ⊕ (Z_spec_l8At_13).X)) :=
  bif (ltb v1 (v11.length : Int)) then
    bif (inb v1 v11.length) then
      bif ((nth v11 v1 (0, [])).1 == v0) then
        some (.inr (.inr (((v1, ()), ()), (), ())))
      else
        some (.inl (((v0, ()), ((), ()), ((IntKind.i64.wrap (v1 + 1)), ()), ()), ((v2, v3, v4, v5, v6, v7, v8, v9, v10, v11, v12, v13, v14, ()), ()), ()))
    else none
  else
    some (.inr (.inl ((), (), ())))
noncomputable def stx_spec_l8At_13 (x : (L_spec_l8At_13).X) := st_spec_l8At_13 x.1.1.1 x.1.2.2.1.1 x.2.1.1.1 x.2.1.1.2.1 x.2.1.1.2.2.1 x.2.1.1.2.2.2.1 x.2.1.1.2.2.2.2.1 x.2.1.1.2.2.2.2.2.1 x.2.1.1.2.2.2.2.2.2.1 x.2.1.1.2.2.2.2.2.2.2.1 x.2.1.1.2.2.2.2.2.2.2.2.1 x.2.1.1.2.2.2.2.2.2.2.2.2.1 x.2.1.1.2.2.2.2.2.2.2.2.2.2.1 x.2.1.1.2.2.2.2.2.2.2.2.2.2.2.1 x.2.1.1.2.2.2.2.2.2.2.2.2.2.2.2.1
def em_spec_l8At_13 (x : (S_spec_l8At_13).X) : (L_spec_l8At_13).X := (((x.1.1.1, ()), ((), ()), (0, ()), ()), ((x.2.1.1.1, x.2.1.1.2.1, x.2.1.1.2.2.1, x.2.1.1.2.2.2.1, x.2.1.1.2.2.2.2.1, x.2.1.1.2.2.2.2.2.1, x.2.1.1.2.2.2.2.2.2.1, x.2.1.1.2.2.2.2.2.2.2.1, x.2.1.1.2.2.2.2.2.2.2.2.1, x.2.1.1.2.2.2.2.2.2.2.2.2.1, x.2.1.1.2.2.2.2.2.2.2.2.2.2.1, x.2.1.1.2.2.2.2.2.2.2.2.2.2.2.1, x.2.1.1.2.2.2.2.2.2.2.2.2.2.2.2.1, ()), ()), ())
noncomputable def c_spec_l8At_13 : Code := (subN B_spec_l8At 64 52).getD .skip
theorem a_spec_l8At_13 : subN B_spec_l8At 64 13 = some (.block 0 (.loop c_spec_l8At_13)) := by kernel_rfl
theorem r_spec_l8At_13 (x : (L_spec_l8At_13).X) : roundT ⟨E_spec_l8At, 22, D_spec_l8At_0⟩ 0 c_spec_l8At_13 52 L_spec_l8At_13 O_spec_l8At_13 Z_spec_l8At_13 x = stx_spec_l8At_13 x := by kernel_rfl
noncomputable def fu_spec_l8At_13 (x : (S_spec_l8At_13).X) : Nat := (fun (u0 : Int) (u1 : Int) (u2 : Int) (u3 : Int) (u4 : List dM) (u5 : Int) (u6 : Int) (u7 : Int) (u8 : Int) (u9 : Int) (u10 : List dW) (u11 : Int) (u12 : Bool) (u13 : Bool) => 18446744073709551616) x.1.1.1 x.2.1.1.1 x.2.1.1.2.1 x.2.1.1.2.2.1 x.2.1.1.2.2.2.1 x.2.1.1.2.2.2.2.1 x.2.1.1.2.2.2.2.2.1 x.2.1.1.2.2.2.2.2.2.1 x.2.1.1.2.2.2.2.2.2.2.1 x.2.1.1.2.2.2.2.2.2.2.2.1 x.2.1.1.2.2.2.2.2.2.2.2.2.1 x.2.1.1.2.2.2.2.2.2.2.2.2.2.1 x.2.1.1.2.2.2.2.2.2.2.2.2.2.2.1 x.2.1.1.2.2.2.2.2.2.2.2.2.2.2.2.1
noncomputable def F_spec_l8At_13 (x : (S_spec_l8At_13).X) : Option ((O_spec_l8At_13).X ⊕ (Z_spec_l8At_13).X) := loopN stx_spec_l8At_13 (fu_spec_l8At_13 x) (em_spec_l8At_13 x)
noncomputable def sg_spec_l8At_13 : Seg := ⟨S_spec_l8At_13, O_spec_l8At_13, Z_spec_l8At_13, F_spec_l8At_13⟩
noncomputable def D_spec_l8At_1 : Nat → Option Seg := fun q => bif Nat.beq q 13 then some sg_spec_l8At_13 else D_spec_l8At_0 q
theorem fr_spec_l8At_1 : FrOk Tryz.prog ⟨E_spec_l8At, 22, D_spec_l8At_1⟩ B_spec_l8At := (fr_spec_l8At_0).loop (sg := sg_spec_l8At_13) L_spec_l8At_13 em_spec_l8At_13 (by decide) a_spec_l8At_13 stx_spec_l8At_13 fu_spec_l8At_13 (by decide) (fun _ => rfl) (fun x r _ h => h) r_spec_l8At_13
abbrev I_spec_l8At : List Par := [.rd tA, .rd tI]
abbrev U_spec_l8At : List OT := [⟨false, tI, .fz⟩]
noncomputable def raw_spec_l8At (a0 : dA) (a1 : Int) : Option (ResD U_spec_l8At × MutD I_spec_l8At) :=
  segM (F_spec_l8At_13 (((a1, ()), ((), ()), ((), ()), ()), ((a0.1, a0.2.1.1, a0.2.1.2, a0.2.2.1, a0.2.2.2.1, a0.2.2.2.2.1, a0.2.2.2.2.2.1, a0.2.2.2.2.2.2.1, a0.2.2.2.2.2.2.2.1, a0.2.2.2.2.2.2.2.2.1, a0.2.2.2.2.2.2.2.2.2.1, a0.2.2.2.2.2.2.2.2.2.2.1, a0.2.2.2.2.2.2.2.2.2.2.2, ()), ()), ())) (fun y0 =>
    some (((-1), ()), ())) (fun y0 =>
    some ((y0.1.1.1, ()), ()))
theorem e_spec_l8At (x : InD I_spec_l8At) : execF ⟨E_spec_l8At, 22, D_spec_l8At_1⟩ Tryz.f177.results.toList B_spec_l8At I_spec_l8At U_spec_l8At x = raw_spec_l8At x.1 x.2.1 := by kernel_rfl
theorem ok0_spec_l8At : ConOk Tryz.prog 177 ⟨I_spec_l8At, U_spec_l8At, fun x => raw_spec_l8At x.1 x.2.1⟩ := conOk_exec (fr_spec_l8At_1) Tryz.func177 (by kernel_rfl) (by kernel_rfl) Tryz.ntmps177.symm (by decide) (fun x r h => (e_spec_l8At x).trans h)
noncomputable def n_spec_l8At (a0 : dA) (a1 : Int) : Int := entAt a0.2.2.2.2.2.2.2.2.1 a1
theorem nn_spec_l8At (a0 : dA) (a1 : Int) (hk : InOk I_spec_l8At (a0, a1, ())) : raw_spec_l8At a0 a1 = (fun n => some ((n, ()), ())) (n_spec_l8At a0 a1) := by
  have hb : a0.2.2.2.2.2.2.2.2.1.length * 32 ≤ 2 ^ 47 := hk.1.2.2.2.2.2.2.2.2.1.1
  have h1 : F_spec_l8At_13 (ms_spec_l8At_13 a1 a0) = some (bif leb 0 (entAt a0.2.2.2.2.2.2.2.2.1 a1) then .inr (mz_spec_l8At_13 (entAt a0.2.2.2.2.2.2.2.2.1 a1)) else .inl mo_spec_l8At_13) :=
    loopN_idx (step := stx_spec_l8At_13) a0.2.2.2.2.2.2.2.2.1 (0, []) (fun i => mk_spec_l8At_13 a1 i a0) (fun e : dW => e.1 == a1) (fun i => .inr (mz_spec_l8At_13 i)) _ (fun i hi => by
      simp only [stx_spec_l8At_13, mk_spec_l8At_13, st_spec_l8At_13, ltb_t (show (i : Int) < a0.2.2.2.2.2.2.2.2.1.length by omega), cond_true, wr (show -9223372036854775808 ≤ (i : Int) + 1 by omega) (by omega), Int.natCast_add, Int.natCast_one, Int.toNat_natCast, inb_nat hi, nth_nat]
      cases ((a0.2.2.2.2.2.2.2.2.1.getD i (0, [])).1 == a1) <;> rfl) (by simp only [stx_spec_l8At_13, mk_spec_l8At_13, st_spec_l8At_13, ltb_f (Int.le_refl _), cond_false]) _ (by show _ < 18446744073709551616; omega)
  unfold raw_spec_l8At n_spec_l8At
  rw [h1]
  cases h : leb 0 (entAt a0.2.2.2.2.2.2.2.2.1 a1)
  · rw [show entAt a0.2.2.2.2.2.2.2.2.1 a1 = -1 from idx_neg h]; rfl
  · rfl
noncomputable def con_spec_l8At : Con := ⟨I_spec_l8At, U_spec_l8At, fun x => (fun n => some ((n, ()), ())) (n_spec_l8At x.1 x.2.1)⟩
theorem ok_spec_l8At : ConOk Tryz.prog 177 con_spec_l8At := (ok0_spec_l8At).mono (fun x r hk h => (nn_spec_l8At x.1 x.2.1 hk).trans h)
end

/-! spec_DataAt -/
section
noncomputable def B_spec_DataAt : Code := (Tryz.f150.body).getD .skip
noncomputable def E_spec_DataAt : Env := envOf TT [(98, con_spec_l1In)] []
theorem fr_spec_DataAt_0 : FrOk Tryz.prog ⟨E_spec_DataAt, 9, fun _ => none⟩ B_spec_DataAt := frOk_base mixed tt_ok ⟨ok_spec_l1In, trivial⟩
noncomputable def D_spec_DataAt_0 : Nat → Option Seg := fun _ => none
abbrev I_spec_DataAt : List Par := [.rd tI]
abbrev U_spec_DataAt : List OT := [⟨false, tI, .fz⟩]
noncomputable def raw_spec_DataAt (a0 : Int) : Option (ResD U_spec_DataAt × MutD I_spec_DataAt) :=
  let r1 := n_spec_l1In a0 0 1099511627776
  bif (!r1) then
    some (((-1), ()), ())
  else
    some (((IntKind.i64.wrap ((IntKind.i64.wrap (a0 + 2)) + 4)), ()), ())
theorem e_spec_DataAt (x : InD I_spec_DataAt) : execF ⟨E_spec_DataAt, 9, D_spec_DataAt_0⟩ Tryz.f150.results.toList B_spec_DataAt I_spec_DataAt U_spec_DataAt x = raw_spec_DataAt x.1 := by kernel_rfl
theorem ok0_spec_DataAt : ConOk Tryz.prog 150 ⟨I_spec_DataAt, U_spec_DataAt, fun x => raw_spec_DataAt x.1⟩ := conOk_exec (fr_spec_DataAt_0) Tryz.func150 (by kernel_rfl) (by kernel_rfl) Tryz.ntmps150.symm (by decide) (fun x r h => (e_spec_DataAt x).trans h)
noncomputable def n_spec_DataAt (a0 : Int) : Int :=
  let r1 := n_spec_l1In a0 0 1099511627776
  bif (!r1) then
    (-1)
  else
    (IntKind.i64.wrap ((IntKind.i64.wrap (a0 + 2)) + 4))
noncomputable def con_spec_DataAt : Con := ⟨I_spec_DataAt, U_spec_DataAt, fun x => (fun n => some ((n, ()), ())) (n_spec_DataAt x.1)⟩
theorem nn_spec_DataAt (a0 : Int) : raw_spec_DataAt a0 = (fun n => some ((n, ()), ())) (n_spec_DataAt a0) := bif_ty (p := fun (n : Int) => ((n, ()), ())) (bif_some (p := fun (n : Int) => ((n, ()), ())) rfl rfl)
theorem ok_spec_DataAt : ConOk Tryz.prog 150 con_spec_DataAt := (ok0_spec_DataAt).mono (fun x r _ h => (nn_spec_DataAt x.1).trans h)
theorem spec_dataAt_eq (s : Int) : n_spec_DataAt s = dataAt s := by
  unfold n_spec_DataAt dataAt
  rw [in_eq]
  by_cases h : 0 ≤ s ∧ s ≤ 1099511627776
  · rw [leb_t h.1, leb_t h.2, wr (show -9223372036854775808 ≤ s + 2 by omega) (by omega), wr (by omega) (by omega)]
    show s + 2 + 4 = s + 6
    omega
  · cases h1 : (leb 0 s && leb s 1099511627776)
    · rfl
    · rw [Bool.and_eq_true, leb_iff, leb_iff] at h1; exact absurd h1 h
end

/-! spec_l2Has -/
section
noncomputable def B_spec_l2Has : Code := (Tryz.f252.body).getD .skip
noncomputable def E_spec_l2Has : Env := envOf TT [] []
theorem fr_spec_l2Has_0 : FrOk Tryz.prog ⟨E_spec_l2Has, 18, fun _ => none⟩ B_spec_l2Has := frOk_base mixed tt_ok trivial
noncomputable def D_spec_l2Has_0 : Nat → Option Seg := fun _ => none
def L_spec_l2Has_13 : Shape := ⟨[(0, false, [.br tI]), (1, false, [.int .i64]), (5, false, [.int .i64])], [], []⟩
def S_spec_l2Has_13 : Shape := ⟨[(0, false, [.br tI]), (1, false, [.int .i64]), (5, false, [.ci .i64 0])], [], []⟩
def O_spec_l2Has_13 : Shape := ⟨[], [], []⟩
def Z_spec_l2Has_13 : Shape := ⟨[(4, false, [.bool])], [], []⟩
abbrev mk_spec_l2Has_13 (v0 : List Int) (v1 : Int) (v2 : Int) : (L_spec_l2Has_13).X := (((v0, ()), (v1, ()), (v2, ()), ()), (), ())
abbrev ms_spec_l2Has_13 (v0 : List Int) (v1 : Int) : (S_spec_l2Has_13).X := (((v0, ()), (v1, ()), ((), ()), ()), (), ())
abbrev mo_spec_l2Has_13  : (O_spec_l2Has_13).X := ((), (), ())
abbrev mz_spec_l2Has_13 (v0 : Bool) : (Z_spec_l2Has_13).X := (((v0, ()), ()), (), ())
noncomputable def st_spec_l2Has_13 (v0 : List Int) (v1 : Int) (v2 : Int) : Option ((L_spec_l2Has_13).X ⊕ ((O_spec_l2Has_13).X ⊕ (Z_spec_l2Has_13).X)) :=
  bif (ltb v2 (v0.length : Int)) then
    bif (inb v2 v0.length) then
      bif ((nth v0 v2 0) == v1) then
        some (.inr (.inr (((true, ()), ()), (), ())))
      else
        some (.inl (((v0, ()), (v1, ()), ((IntKind.i64.wrap (v2 + 1)), ()), ()), (), ()))
    else none
  else
    some (.inr (.inl ((), (), ())))
noncomputable def stx_spec_l2Has_13 (x : (L_spec_l2Has_13).X) := st_spec_l2Has_13 x.1.1.1 x.1.2.1.1 x.1.2.2.1.1
def em_spec_l2Has_13 (x : (S_spec_l2Has_13).X) : (L_spec_l2Has_13).X := (((x.1.1.1, ()), (x.1.2.1.1, ()), (0, ()), ()), (), ())
noncomputable def c_spec_l2Has_13 : Code := (subN B_spec_l2Has 64 52).getD .skip
theorem a_spec_l2Has_13 : subN B_spec_l2Has 64 13 = some (.block 0 (.loop c_spec_l2Has_13)) := by kernel_rfl
theorem r_spec_l2Has_13 (x : (L_spec_l2Has_13).X) : roundT ⟨E_spec_l2Has, 18, D_spec_l2Has_0⟩ 0 c_spec_l2Has_13 52 L_spec_l2Has_13 O_spec_l2Has_13 Z_spec_l2Has_13 x = stx_spec_l2Has_13 x := by kernel_rfl
noncomputable def fu_spec_l2Has_13 (x : (S_spec_l2Has_13).X) : Nat := (fun (u0 : List Int) (u1 : Int) => 18446744073709551616) x.1.1.1 x.1.2.1.1
noncomputable def F_spec_l2Has_13 (x : (S_spec_l2Has_13).X) : Option ((O_spec_l2Has_13).X ⊕ (Z_spec_l2Has_13).X) := loopN stx_spec_l2Has_13 (fu_spec_l2Has_13 x) (em_spec_l2Has_13 x)
noncomputable def sg_spec_l2Has_13 : Seg := ⟨S_spec_l2Has_13, O_spec_l2Has_13, Z_spec_l2Has_13, F_spec_l2Has_13⟩
noncomputable def D_spec_l2Has_1 : Nat → Option Seg := fun q => bif Nat.beq q 13 then some sg_spec_l2Has_13 else D_spec_l2Has_0 q
theorem fr_spec_l2Has_1 : FrOk Tryz.prog ⟨E_spec_l2Has, 18, D_spec_l2Has_1⟩ B_spec_l2Has := (fr_spec_l2Has_0).loop (sg := sg_spec_l2Has_13) L_spec_l2Has_13 em_spec_l2Has_13 (by decide) a_spec_l2Has_13 stx_spec_l2Has_13 fu_spec_l2Has_13 (by decide) (fun _ => rfl) (fun x r _ h => h) r_spec_l2Has_13
abbrev I_spec_l2Has : List Par := [.rd tL, .rd tI]
abbrev U_spec_l2Has : List OT := [⟨false, tB, .fz⟩]
noncomputable def raw_spec_l2Has (a0 : List Int) (a1 : Int) : Option (ResD U_spec_l2Has × MutD I_spec_l2Has) :=
  segM (F_spec_l2Has_13 (((a0, ()), (a1, ()), ((), ()), ()), (), ())) (fun y0 =>
    some ((false, ()), ())) (fun y0 =>
    some ((y0.1.1.1, ()), ()))
theorem e_spec_l2Has (x : InD I_spec_l2Has) : execF ⟨E_spec_l2Has, 18, D_spec_l2Has_1⟩ Tryz.f252.results.toList B_spec_l2Has I_spec_l2Has U_spec_l2Has x = raw_spec_l2Has x.1 x.2.1 := by kernel_rfl
theorem ok0_spec_l2Has : ConOk Tryz.prog 252 ⟨I_spec_l2Has, U_spec_l2Has, fun x => raw_spec_l2Has x.1 x.2.1⟩ := conOk_exec (fr_spec_l2Has_1) Tryz.func252 (by kernel_rfl) (by kernel_rfl) Tryz.ntmps252.symm (by decide) (fun x r h => (e_spec_l2Has x).trans h)
noncomputable def n_spec_l2Has (a0 : List Int) (a1 : Int) : Bool := a0.any (· == a1)
theorem nn_spec_l2Has (a0 : List Int) (a1 : Int) (hk : InOk I_spec_l2Has (a0, a1, ())) : raw_spec_l2Has a0 a1 = (fun n => some ((n, ()), ())) (n_spec_l2Has a0 a1) := by
  have hb : a0.length * 8 ≤ 2 ^ 47 := hk.1.1
  have h1 : F_spec_l2Has_13 (ms_spec_l2Has_13 a0 a1) = some (bif a0.all (· != a1) then .inl mo_spec_l2Has_13 else .inr (mz_spec_l2Has_13 true)) :=
    loopN_list_all (step := stx_spec_l2Has_13) a0 0 (fun i => mk_spec_l2Has_13 a0 a1 i) (· != a1) _ _ (fun i hi => by
      simp only [stx_spec_l2Has_13, mk_spec_l2Has_13, st_spec_l2Has_13, ltb_t (show (i : Int) < a0.length by omega), cond_true, wr (show -9223372036854775808 ≤ (i : Int) + 1 by omega) (by omega), Int.natCast_add, Int.natCast_one, Int.toNat_natCast, inb_nat hi, nth_nat, bne]
      cases (a0.getD i 0 == a1) <;> rfl) (by simp only [stx_spec_l2Has_13, mk_spec_l2Has_13, st_spec_l2Has_13, ltb_f (Int.le_refl _), cond_false]) _ (by show _ < 18446744073709551616; omega)
  unfold raw_spec_l2Has n_spec_l2Has
  rw [h1, show a0.any (· == a1) = !(a0.all (· != a1)) by simp [List.all_eq_not_any_not, bne]]
  cases a0.all (· != a1) <;> rfl
noncomputable def con_spec_l2Has : Con := ⟨I_spec_l2Has, U_spec_l2Has, fun x => (fun n => some ((n, ()), ())) (n_spec_l2Has x.1 x.2.1)⟩
theorem ok_spec_l2Has : ConOk Tryz.prog 252 con_spec_l2Has := (ok0_spec_l2Has).mono (fun x r hk h => (nn_spec_l2Has x.1 x.2.1 hk).trans h)
end
end Go.Tf
