/- Functions of the program, and what they come to. -/
import Derived.Test.YtmamkjioahnecaaExactDurableF9
namespace Go.Tf
open Go.Proofs
set_option synthInstance.maxHeartbeats 400000
set_option synthInstance.maxSize 10000
set_option linter.unusedVariables false
set_option linter.unusedSimpArgs false
set_option maxRecDepth 100000
/-! spec_DiskOf -/
section
noncomputable def B_spec_DiskOf : Code := (Try.f186.body).getD .skip
noncomputable def E_spec_DiskOf : Env := envOf TT [(82, con_spec_l1In), (202, con_spec_l3Stripe), (203, con_spec_ParityOf)] []
theorem fr_spec_DiskOf_0 : FrOk Try.prog ⟨E_spec_DiskOf, 28, fun _ => none⟩ B_spec_DiskOf := frOk_base mixed tt_ok ⟨ok_spec_l1In, ok_spec_l3Stripe, ok_spec_ParityOf, trivial⟩
noncomputable def D_spec_DiskOf_0 : Nat → Option Seg := fun _ => none
abbrev I_spec_DiskOf : List Par := [.rd tG, .rd tI, .rd tI]
abbrev U_spec_DiskOf : List OT := [⟨false, tI, .fz⟩]
noncomputable def raw_spec_DiskOf (a0 : dG) (a1 : Int) (a2 : Int) : Option (ResD U_spec_DiskOf × MutD I_spec_DiskOf) :=
  let r1 := n_spec_l3Stripe a0 a1
  bif (!(!r1)) then
    let r2 := n_spec_l1In a2 0 (IntKind.i64.wrap (a0.1 - 2))
    bif (!r2) then
      some (((-1), ()), ())
    else
      let r3 := n_spec_ParityOf a0 a1
      bif (a0.1 != 0) then
        some ((((IntKind.i64.wrap ((IntKind.i64.wrap (r3 + 1)) + a2)).tmod a0.1), ()), ())
      else none
  else
    some (((-1), ()), ())
theorem e_spec_DiskOf (x : InD I_spec_DiskOf) : execF ⟨E_spec_DiskOf, 28, D_spec_DiskOf_0⟩ Try.f186.results.toList B_spec_DiskOf I_spec_DiskOf U_spec_DiskOf x = raw_spec_DiskOf x.1 x.2.1 x.2.2.1 := by kernel_rfl
theorem ok0_spec_DiskOf : ConOk Try.prog 186 ⟨I_spec_DiskOf, U_spec_DiskOf, fun x => raw_spec_DiskOf x.1 x.2.1 x.2.2.1⟩ := conOk_exec (fr_spec_DiskOf_0) Try.func186 (by kernel_rfl) (by kernel_rfl) Try.ntmps186.symm (by decide) (fun x r h => (e_spec_DiskOf x).trans h)
noncomputable def n_spec_DiskOf (a0 : dG) (a1 a2 : Int) : Int := diskOf a0 a1 a2
theorem nn_spec_DiskOf (a0 : dG) (a1 a2 : Int) (hk : InOk I_spec_DiskOf (a0, a1, a2, ())) : raw_spec_DiskOf a0 a1 a2 = (fun n => some ((n, ()), ())) (n_spec_DiskOf a0 a1 a2) := by
  unfold raw_spec_DiskOf n_spec_DiskOf diskOf n_spec_ParityOf
  rw [spec_str_eq]
  cases hs : strOk a0 a1
  · rfl
  · have h1 := strOk_iff.1 hs
    have h2 := geo_iff.1 h1.1
    have h3 := parity_in hs
    rw [in_eq, wr (show -9223372036854775808 ≤ a0.1 - 2 by omega) (by omega)]
    cases hi : (leb 0 a2 && leb a2 (a0.1 - 2))
    · rfl
    · rw [Bool.and_eq_true, leb_iff, leb_iff] at hi
      rw [show (a0.1 != 0) = true from bne_iff_ne.2 (by omega)]
      show some (((IntKind.i64.wrap (IntKind.i64.wrap (parityOf a0 a1 + 1) + a2)).tmod a0.1, ()), ()) = some (((parityOf a0 a1 + 1 + a2).tmod a0.1, ()), ())
      rw [wr (show -9223372036854775808 ≤ parityOf a0 a1 + 1 by omega) (by omega), wr (show -9223372036854775808 ≤ parityOf a0 a1 + 1 + a2 by omega) (by omega)]
noncomputable def con_spec_DiskOf : Con := ⟨I_spec_DiskOf, U_spec_DiskOf, fun x => (fun n => some ((n, ()), ())) (n_spec_DiskOf x.1 x.2.1 x.2.2.1)⟩
theorem ok_spec_DiskOf : ConOk Try.prog 186 con_spec_DiskOf := (ok0_spec_DiskOf).mono (fun x r hk h => (nn_spec_DiskOf x.1 x.2.1 x.2.2.1 hk).trans h)
end

/-! spec_l6Data -/
section
noncomputable def B_spec_l6Data : Code := (Try.f165.body).getD .skip
noncomputable def E_spec_l6Data : Env := envOf TT [(185, con_spec_l6Words), (186, con_spec_DiskOf)] []
theorem fr_spec_l6Data_0 : FrOk Try.prog ⟨E_spec_l6Data, 41, fun _ => none⟩ B_spec_l6Data := frOk_base mixed tt_ok ⟨ok_spec_l6Words, ok_spec_DiskOf, trivial⟩
noncomputable def D_spec_l6Data_0 : Nat → Option Seg := fun _ => none
def L_spec_l6Data_61 : Shape := ⟨[(1, false, [.int .i64]), (2, false, [.ptr 0 0]), (6, false, [.at 800000000]), (7, false, [.bool]), (8, false, [.at 800000001]), (9, false, [.int .i64])], [(0, [.int .i64, .int .i64, .int .i64, .br tM, .int .i64, .int .i64, .int .i64, .int .i64, .int .i64, .br tW, .int .i64, .bool, .bool])], [(800000000, tI, .fz), (800000001, tI, .fz)]⟩
def S_spec_l6Data_61 : Shape := ⟨[(1, false, [.int .i64]), (2, false, [.ptr 0 0]), (6, false, [.at 800000000]), (7, false, [.bool]), (8, false, [.at 800000001]), (9, false, [.ci .i64 0])], [(0, [.int .i64, .int .i64, .int .i64, .br tM, .int .i64, .int .i64, .int .i64, .int .i64, .int .i64, .br tW, .int .i64, .bool, .bool])], [(800000000, tI, .fz), (800000001, tI, .fz)]⟩
def O_spec_l6Data_61 : Shape := ⟨[(7, false, [.bool]), (8, false, [.at 800000000])], [], [(800000000, tI, .fz)]⟩
def Z_spec_l6Data_61 : Shape := ⟨[], [], []⟩
abbrev mk_spec_l6Data_61 (v0 : Int) (v1 : Bool) (v2 : Int) (v3 : dA) (v4 : List Int) (v5 : List Int) : (L_spec_l6Data_61).X := (((v0, ()), ((), ()), ((), ()), (v1, ()), ((), ()), (v2, ()), ()), ((v3.1, v3.2.1.1, v3.2.1.2, v3.2.2.1, v3.2.2.2.1, v3.2.2.2.2.1, v3.2.2.2.2.2.1, v3.2.2.2.2.2.2.1, v3.2.2.2.2.2.2.2.1, v3.2.2.2.2.2.2.2.2.1, v3.2.2.2.2.2.2.2.2.2.1, v3.2.2.2.2.2.2.2.2.2.2.1, v3.2.2.2.2.2.2.2.2.2.2.2, ()), ()), (v4, v5, ()))
abbrev ms_spec_l6Data_61 (v0 : Int) (v1 : Bool) (v2 : dA) (v3 : List Int) (v4 : List Int) : (S_spec_l6Data_61).X := (((v0, ()), ((), ()), ((), ()), (v1, ()), ((), ()), ((), ()), ()), ((v2.1, v2.2.1.1, v2.2.1.2, v2.2.2.1, v2.2.2.2.1, v2.2.2.2.2.1, v2.2.2.2.2.2.1, v2.2.2.2.2.2.2.1, v2.2.2.2.2.2.2.2.1, v2.2.2.2.2.2.2.2.2.1, v2.2.2.2.2.2.2.2.2.2.1, v2.2.2.2.2.2.2.2.2.2.2.1, v2.2.2.2.2.2.2.2.2.2.2.2, ()), ()), (v3, v4, ()))
abbrev mo_spec_l6Data_61 (v0 : Bool) (v1 : List Int) : (O_spec_l6Data_61).X := (((v0, ()), ((), ()), ()), (), (v1, ()))
noncomputable def st_spec_l6Data_61 (v0 : Int) (v1 : Bool) (v2 : Int) (v3 : Int) (v4 : Int) (v5 : Int) (v6 : List dM) (v7 : Int) (v8 : Int) (v9 : Int) (v10 : Int) (v11 : Int) (v12 : List dW) (v13 : Int) (v14 : Bool) (v15 : Bool) (v16 : List Int) (v17 : List Int) : Option ((L_spec_l6Data_61).X ⊕ ((O_spec_l6Data_61).X ⊕ (Z_spec_l6Data_61).X)) :=
  bif (ltb v2 (IntKind.i64.wrap (v4 - 1))) then
    bif v1 then
      let r3 := n_spec_DiskOf (v4, v5) v0 v2
      bif (inb r3 v16.length) then
        bif (apok v17.length ([(nth v16 r3 0)] : List Int).length 8) then
          some (.inl (((v0, ()), ((), ()), ((), ()), (v1, ()), ((), ()), ((IntKind.i64.wrap (v2 + 1)), ()), ()), ((v3, v4, v5, v6, v7, v8, v9, v10, v11, v12, v13, v14, v15, ()), ()), (v16, (v17 ++ ([(nth v16 r3 0)] : List Int)), ())))
        else none
      else none
    else
      some (.inr (.inl (((v1, ()), ((), ()), ()), (), (v17, ()))))
  else
    some (.inr (.inl (((v1, ()), ((), ()), ()), (), (v17, ()))))
noncomputable def stx_spec_l6Data_61 (x : (L_spec_l6Data_61).X) := st_spec_l6Data_61 x.1.1.1 x.1.2.2.2.1.1 x.1.2.2.2.2.2.1.1 x.2.1.1.1 x.2.1.1.2.1 x.2.1.1.2.2.1 x.2.1.1.2.2.2.1 x.2.1.1.2.2.2.2.1 x.2.1.1.2.2.2.2.2.1 x.2.1.1.2.2.2.2.2.2.1 x.2.1.1.2.2.2.2.2.2.2.1 x.2.1.1.2.2.2.2.2.2.2.2.1 x.2.1.1.2.2.2.2.2.2.2.2.2.1 x.2.1.1.2.2.2.2.2.2.2.2.2.2.1 x.2.1.1.2.2.2.2.2.2.2.2.2.2.2.1 x.2.1.1.2.2.2.2.2.2.2.2.2.2.2.2.1 x.2.2.1 x.2.2.2.1
def em_spec_l6Data_61 (x : (S_spec_l6Data_61).X) : (L_spec_l6Data_61).X := (((x.1.1.1, ()), ((), ()), ((), ()), (x.1.2.2.2.1.1, ()), ((), ()), (0, ()), ()), ((x.2.1.1.1, x.2.1.1.2.1, x.2.1.1.2.2.1, x.2.1.1.2.2.2.1, x.2.1.1.2.2.2.2.1, x.2.1.1.2.2.2.2.2.1, x.2.1.1.2.2.2.2.2.2.1, x.2.1.1.2.2.2.2.2.2.2.1, x.2.1.1.2.2.2.2.2.2.2.2.1, x.2.1.1.2.2.2.2.2.2.2.2.2.1, x.2.1.1.2.2.2.2.2.2.2.2.2.2.1, x.2.1.1.2.2.2.2.2.2.2.2.2.2.2.1, x.2.1.1.2.2.2.2.2.2.2.2.2.2.2.2.1, ()), ()), (x.2.2.1, x.2.2.2.1, ()))
noncomputable def c_spec_l6Data_61 : Code := (subN B_spec_l6Data 64 244).getD .skip
theorem a_spec_l6Data_61 : subN B_spec_l6Data 64 61 = some (.block 0 (.loop c_spec_l6Data_61)) := by kernel_rfl
theorem r_spec_l6Data_61 (x : (L_spec_l6Data_61).X) : roundT ⟨E_spec_l6Data, 41, D_spec_l6Data_0⟩ 0 c_spec_l6Data_61 244 L_spec_l6Data_61 O_spec_l6Data_61 Z_spec_l6Data_61 x = stx_spec_l6Data_61 x := by kernel_rfl
noncomputable def fu_spec_l6Data_61 (x : (S_spec_l6Data_61).X) : Nat := (fun (u0 : Int) (u1 : Bool) (u2 : Int) (u3 : Int) (u4 : Int) (u5 : List dM) (u6 : Int) (u7 : Int) (u8 : Int) (u9 : Int) (u10 : Int) (u11 : List dW) (u12 : Int) (u13 : Bool) (u14 : Bool) (u15 : List Int) (u16 : List Int) => 18446744073709551616) x.1.1.1 x.1.2.2.2.1.1 x.2.1.1.1 x.2.1.1.2.1 x.2.1.1.2.2.1 x.2.1.1.2.2.2.1 x.2.1.1.2.2.2.2.1 x.2.1.1.2.2.2.2.2.1 x.2.1.1.2.2.2.2.2.2.1 x.2.1.1.2.2.2.2.2.2.2.1 x.2.1.1.2.2.2.2.2.2.2.2.1 x.2.1.1.2.2.2.2.2.2.2.2.2.1 x.2.1.1.2.2.2.2.2.2.2.2.2.2.1 x.2.1.1.2.2.2.2.2.2.2.2.2.2.2.1 x.2.1.1.2.2.2.2.2.2.2.2.2.2.2.2.1 x.2.2.1 x.2.2.2.1
noncomputable def F_spec_l6Data_61 (x : (S_spec_l6Data_61).X) : Option ((O_spec_l6Data_61).X ⊕ (Z_spec_l6Data_61).X) := loopN stx_spec_l6Data_61 (fu_spec_l6Data_61 x) (em_spec_l6Data_61 x)
noncomputable def sg_spec_l6Data_61 : Seg := ⟨S_spec_l6Data_61, O_spec_l6Data_61, Z_spec_l6Data_61, F_spec_l6Data_61⟩
noncomputable def D_spec_l6Data_1 : Nat → Option Seg := fun q => bif Nat.beq q 61 then some sg_spec_l6Data_61 else D_spec_l6Data_0 q
theorem fr_spec_l6Data_1 : FrOk Try.prog ⟨E_spec_l6Data, 41, D_spec_l6Data_1⟩ B_spec_l6Data := (fr_spec_l6Data_0).loop (sg := sg_spec_l6Data_61) L_spec_l6Data_61 em_spec_l6Data_61 (by decide) a_spec_l6Data_61 stx_spec_l6Data_61 fu_spec_l6Data_61 (by decide) (fun _ => rfl) (fun x r _ h => h) r_spec_l6Data_61
abbrev I_spec_l6Data : List Par := [.rd tA, .rd tI]
abbrev U_spec_l6Data : List OT := [⟨false, tL, (.ow .fz)⟩, ⟨false, tB, .fz⟩]
noncomputable def raw_spec_l6Data (a0 : dA) (a1 : Int) : Option (ResD U_spec_l6Data × MutD I_spec_l6Data) :=
  bnd (o_spec_l6Words a0 a1) fun r1 =>
  segM (F_spec_l6Data_61 (((a1, ()), ((), ()), ((), ()), (r1.1.2.1, ()), ((), ()), ((), ()), ()), ((a0.1, a0.2.1.1, a0.2.1.2, a0.2.2.1, a0.2.2.2.1, a0.2.2.2.2.1, a0.2.2.2.2.2.1, a0.2.2.2.2.2.2.1, a0.2.2.2.2.2.2.2.1, a0.2.2.2.2.2.2.2.2.1, a0.2.2.2.2.2.2.2.2.2.1, a0.2.2.2.2.2.2.2.2.2.2.1, a0.2.2.2.2.2.2.2.2.2.2.2, ()), ()), (r1.1.1, ([] : List Int), ()))) (fun y3 =>
    some ((y3.2.2.1, y3.1.1.1, ()), ())) (fun y3 =>
    none)
theorem e_spec_l6Data (x : InD I_spec_l6Data) : execF ⟨E_spec_l6Data, 41, D_spec_l6Data_1⟩ Try.f165.results.toList B_spec_l6Data I_spec_l6Data U_spec_l6Data x = raw_spec_l6Data x.1 x.2.1 := by kernel_rfl
theorem ok0_spec_l6Data : ConOk Try.prog 165 ⟨I_spec_l6Data, U_spec_l6Data, fun x => raw_spec_l6Data x.1 x.2.1⟩ := conOk_exec (fr_spec_l6Data_1) Try.func165 (by kernel_rfl) (by kernel_rfl) Try.ntmps165.symm (by decide) (fun x r h => (e_spec_l6Data x).trans h)
noncomputable def n_spec_l6Data (a0 : dA) (a1 : Int) : List Int × Bool := dataA a0 a1
noncomputable def q_spec_l6Data (a0 : dA) (a1 : Int) : Bool := strOk a0.2.1 a1
theorem nn_spec_l6Data (a0 : dA) (a1 : Int) (hk : InOk I_spec_l6Data (a0, a1, ())) (hq : q_spec_l6Data a0 a1 = true) : raw_spec_l6Data a0 a1 = (fun n => some ((n.1, n.2, ()), ())) (n_spec_l6Data a0 a1) := by
  have hs : strOk a0.2.1 a1 = true := hq
  have hg := geo_iff.1 (strOk_iff.1 hs).1
  unfold raw_spec_l6Data n_spec_l6Data dataA
  rw [ot_spec_l6Words a0 a1 (strOk_iff.1 hs).1, n_spec_l6Words]
  simp only [bnd_some]
  cases hw : (words a0 a1).2
  · have h1 : F_spec_l6Data_61 (ms_spec_l6Data_61 a1 false a0 (words a0 a1).1 []) = some (.inl (mo_spec_l6Data_61 false [])) :=
      loopN_up (step := stx_spec_l6Data_61) (fun i => mk_spec_l6Data_61 a1 false i a0 (words a0 a1).1 []) 0 _ (fun i hi => absurd hi (Nat.not_lt_zero _)) (by
        simp only [stx_spec_l6Data_61, mk_spec_l6Data_61, st_spec_l6Data_61, cond_false]
        cases ltb ((0 : Nat) : Int) (IntKind.i64.wrap (a0.2.1.1 - 1)) <;> rfl) _ (by show _ < 18446744073709551616; omega)
    rw [h1]; rfl
  · have hL := words_len hw
    have h1 : F_spec_l6Data_61 (ms_spec_l6Data_61 a1 true a0 (words a0 a1).1 []) = some (.inl (mo_spec_l6Data_61 true ((List.range (a0.2.1.1 - 1).toNat).foldl (fun l (i : Nat) => l ++ [nth (words a0 a1).1 (diskOf a0.2.1 a1 i) 0]) []))) :=
      loopN_rng (step := stx_spec_l6Data_61) (a0.2.1.1 - 1).toNat (fun i s => mk_spec_l6Data_61 a1 true i a0 (words a0 a1).1 s) (fun l (i : Nat) => l ++ [nth (words a0 a1).1 (diskOf a0.2.1 a1 i) 0]) (fun i s => s.length = i) (fun s => .inl (mo_spec_l6Data_61 true s)) (fun i s hi hs2 => ⟨by
        have hd := disk_in hs (show (0 : Int) ≤ i by omega) (show (i : Int) ≤ a0.2.1.1 - 2 by omega)
        simp only [stx_spec_l6Data_61, mk_spec_l6Data_61, st_spec_l6Data_61, wr (show -9223372036854775808 ≤ a0.2.1.1 - 1 by omega) (by omega), ltb_t (show (i : Int) < a0.2.1.1 - 1 by omega), cond_true, wr (show -9223372036854775808 ≤ (i : Int) + 1 by omega) (by omega), Int.natCast_add, Int.natCast_one, Int.toNat_natCast, pr_eta, n_spec_DiskOf, inb_iff.2 (show 0 ≤ diskOf a0.2.1 a1 i ∧ diskOf a0.2.1 a1 i < (words a0 a1).1.length by omega)]
        rw [apok_iff.2 (show (s.length + [nth (words a0 a1).1 (diskOf a0.2.1 a1 i) 0].length) * 8 ≤ 140737488355328 by simp only [List.length_cons, List.length_nil]; omega)]; rfl, by simp [hs2]⟩) (fun s hs2 => by simp only [stx_spec_l6Data_61, mk_spec_l6Data_61, st_spec_l6Data_61, wr (show -9223372036854775808 ≤ a0.2.1.1 - 1 by omega) (by omega), ltb_f (show a0.2.1.1 - 1 ≤ ((a0.2.1.1 - 1).toNat : Int) by omega), cond_false]) [] rfl _ (by show _ < 18446744073709551616; omega)
    rw [h1, foldl_snoc]; rfl
noncomputable def o_spec_l6Data (a0 : dA) (a1 : Int) : Option (ResD U_spec_l6Data × MutD I_spec_l6Data) := bif q_spec_l6Data a0 a1 then (fun n => some ((n.1, n.2, ()), ())) (n_spec_l6Data a0 a1) else none
theorem ot_spec_l6Data (a0 : dA) (a1 : Int) (h : q_spec_l6Data a0 a1 = true) : o_spec_l6Data a0 a1 = (fun n => some ((n.1, n.2, ()), ())) (n_spec_l6Data a0 a1) := by unfold o_spec_l6Data; rw [h]; rfl
noncomputable def con_spec_l6Data : Con := ⟨I_spec_l6Data, U_spec_l6Data, fun x => o_spec_l6Data x.1 x.2.1⟩
theorem ok_spec_l6Data : ConOk Try.prog 165 con_spec_l6Data := (ok0_spec_l6Data).mono (fun x r hk h => pre_ok h (fun hq => nn_spec_l6Data x.1 x.2.1 hk hq))
end

/-! spec_DataOf -/
section
noncomputable def B_spec_DataOf : Code := (Try.f120.body).getD .skip
noncomputable def E_spec_DataOf : Env := envOf TT [(81, con_spec_ArrOk), (82, con_spec_l1In), (165, con_spec_l6Data)] []
theorem fr_spec_DataOf_0 : FrOk Try.prog ⟨E_spec_DataOf, 28, fun _ => none⟩ B_spec_DataOf := frOk_base mixed tt_ok ⟨ok_spec_ArrOk, ok_spec_l1In, ok_spec_l6Data, trivial⟩
noncomputable def D_spec_DataOf_0 : Nat → Option Seg := fun _ => none
abbrev I_spec_DataOf : List Par := [.rd tA, .rd tI]
abbrev U_spec_DataOf : List OT := [⟨false, tL, (.ow .fz)⟩, ⟨false, tB, .fz⟩]
noncomputable def raw_spec_DataOf (a0 : dA) (a1 : Int) : Option (ResD U_spec_DataOf × MutD I_spec_DataOf) :=
  let r1 := n_spec_ArrOk a0
  bif (!(!r1)) then
    bif (!a0.2.2.2.2.2.2.2.2.2.2.2) then
      let r2 := n_spec_l1In a1 0 (IntKind.i64.wrap (a0.2.1.2 - 1))
      bif (!r2) then
        some ((([] : List Int), false, ()), ())
      else
        bnd (o_spec_l6Data a0 a1) fun r3 =>
        some ((r3.1.1, r3.1.2.1, ()), ())
    else
      some ((([] : List Int), false, ()), ())
  else
    some ((([] : List Int), false, ()), ())
theorem e_spec_DataOf (x : InD I_spec_DataOf) : execF ⟨E_spec_DataOf, 28, D_spec_DataOf_0⟩ Try.f120.results.toList B_spec_DataOf I_spec_DataOf U_spec_DataOf x = raw_spec_DataOf x.1 x.2.1 := by kernel_rfl
theorem ok0_spec_DataOf : ConOk Try.prog 120 ⟨I_spec_DataOf, U_spec_DataOf, fun x => raw_spec_DataOf x.1 x.2.1⟩ := conOk_exec (fr_spec_DataOf_0) Try.func120 (by kernel_rfl) (by kernel_rfl) Try.ntmps120.symm (by decide) (fun x r h => (e_spec_DataOf x).trans h)
noncomputable def n_spec_DataOf (a0 : dA) (a1 : Int) : List Int × Bool := dataOf a0 a1
theorem nn_spec_DataOf (a0 : dA) (a1 : Int) (hk : InOk I_spec_DataOf (a0, a1, ())) : raw_spec_DataOf a0 a1 = (fun n => some ((n.1, n.2, ()), ())) (n_spec_DataOf a0 a1) := by
  unfold raw_spec_DataOf n_spec_DataOf dataOf n_spec_ArrOk
  cases ha : arrOk a0
  · rfl
  have hg := geo_iff.1 (arrOk_geo ha)
  rw [in_eq, wr (show -9223372036854775808 ≤ a0.2.1.2 - 1 by omega) (by omega)]
  cases a0.2.2.2.2.2.2.2.2.2.2.2
  · cases hs : (leb 0 a1 && leb a1 (a0.2.1.2 - 1))
    · rw [show strOk a0.2.1 a1 = false by unfold strOk; rw [hs, Bool.and_false]]; rfl
    · have hs2 : strOk a0.2.1 a1 = true := by unfold strOk; rw [hs, arrOk_geo ha]; rfl
      rw [hs2, ot_spec_l6Data a0 a1 hs2]; rfl
  · rfl
noncomputable def con_spec_DataOf : Con := ⟨I_spec_DataOf, U_spec_DataOf, fun x => (fun n => some ((n.1, n.2, ()), ())) (n_spec_DataOf x.1 x.2.1)⟩
theorem ok_spec_DataOf : ConOk Try.prog 120 con_spec_DataOf := (ok0_spec_DataOf).mono (fun x r hk h => (nn_spec_DataOf x.1 x.2.1 hk).trans h)
end

/-! spec_Durable -/
section
noncomputable def B_spec_Durable : Code := (Try.f60.body).getD .skip
noncomputable def E_spec_Durable : Env := envOf TT [(81, con_spec_ArrOk), (120, con_spec_DataOf)] []
theorem fr_spec_Durable_0 : FrOk Try.prog ⟨E_spec_Durable, 32, fun _ => none⟩ B_spec_Durable := frOk_base mixed tt_ok ⟨ok_spec_ArrOk, ok_spec_DataOf, trivial⟩
noncomputable def D_spec_Durable_0 : Nat → Option Seg := fun _ => none
def L_spec_Durable_29 : Shape := ⟨[(1, false, [.ptr 0 0]), (3, false, [.at 800000000]), (4, false, [.int .i64])], [(0, [.int .i64, .int .i64, .int .i64, .br tM, .int .i64, .int .i64, .int .i64, .int .i64, .int .i64, .br tW, .int .i64, .bool, .bool])], [(800000000, tI, .fz)]⟩
def S_spec_Durable_29 : Shape := ⟨[(1, false, [.ptr 0 0]), (3, false, [.at 800000000]), (4, false, [.ci .i64 0])], [(0, [.int .i64, .int .i64, .int .i64, .br tM, .int .i64, .int .i64, .int .i64, .int .i64, .int .i64, .br tW, .int .i64, .bool, .bool])], [(800000000, tI, .fz)]⟩
def O_spec_Durable_29 : Shape := ⟨[(3, false, [.at 800000000])], [], [(800000000, tI, .fz)]⟩
def Z_spec_Durable_29 : Shape := ⟨[(2, false, [.at 800000000])], [], [(800000000, tI, .fz)]⟩
abbrev mk_spec_Durable_29 (v0 : Int) (v1 : dA) (v2 : List Int) : (L_spec_Durable_29).X := ((((), ()), ((), ()), (v0, ()), ()), ((v1.1, v1.2.1.1, v1.2.1.2, v1.2.2.1, v1.2.2.2.1, v1.2.2.2.2.1, v1.2.2.2.2.2.1, v1.2.2.2.2.2.2.1, v1.2.2.2.2.2.2.2.1, v1.2.2.2.2.2.2.2.2.1, v1.2.2.2.2.2.2.2.2.2.1, v1.2.2.2.2.2.2.2.2.2.2.1, v1.2.2.2.2.2.2.2.2.2.2.2, ()), ()), (v2, ()))
abbrev ms_spec_Durable_29 (v0 : dA) (v1 : List Int) : (S_spec_Durable_29).X := ((((), ()), ((), ()), ((), ()), ()), ((v0.1, v0.2.1.1, v0.2.1.2, v0.2.2.1, v0.2.2.2.1, v0.2.2.2.2.1, v0.2.2.2.2.2.1, v0.2.2.2.2.2.2.1, v0.2.2.2.2.2.2.2.1, v0.2.2.2.2.2.2.2.2.1, v0.2.2.2.2.2.2.2.2.2.1, v0.2.2.2.2.2.2.2.2.2.2.1, v0.2.2.2.2.2.2.2.2.2.2.2, ()), ()), (v1, ()))
abbrev mo_spec_Durable_29 (v0 : List Int) : (O_spec_Durable_29).X := ((((), ()), ()), (), (v0, ()))
abbrev mz_spec_Durable_29 (v0 : List Int) : (Z_spec_Durable_29).X := ((((), ()), ()), (), (v0, ()))
noncomputable def st_spec_Durable_29 (v0 : Int) (v1 : Int) (v2 : Int) (v3 : Int) (v4 : List dM) (v5 : Int) (v6 : Int) (v7 : Int) (v8 : Int) (v9 : Int) (v10 : List dW) (v11 : Int) (v12 : Bool) (v13 : Bool) (v14 : List Int) : Option ((L_spec_Durable_29).X ⊕ ((O_spec_Durable_29).X ⊕ (Z_spec_Durable_29).X)) :=
  bif (ltb v0 v3) then
    let r3 := n_spec_ArrOk (v1, (v2, v3), v4, v5, v6, v7, v8, v9, v10, v11, v12, v13)
    bif r3 then
      let r4 := n_spec_DataOf (v1, (v2, v3), v4, v5, v6, v7, v8, v9, v10, v11, v12, v13) v0
      bif (!r4.2) then
        some (.inr (.inr ((((), ()), ()), (), (([] : List Int), ()))))
      else
        bif (apok v14.length r4.1.length 8) then
          some (.inl ((((), ()), ((), ()), ((IntKind.i64.wrap (v0 + 1)), ()), ()), ((v1, v2, v3, v4, v5, v6, v7, v8, v9, v10, v11, v12, v13, ()), ()), ((v14 ++ r4.1), ())))
        else none
    else
      some (.inr (.inl ((((), ()), ()), (), (v14, ()))))
  else
    some (.inr (.inl ((((), ()), ()), (), (v14, ()))))
noncomputable def stx_spec_Durable_29 (x : (L_spec_Durable_29).X) := st_spec_Durable_29 x.1.2.2.1.1 x.2.1.1.1 x.2.1.1.2.1 x.2.1.1.2.2.1 x.2.1.1.2.2.2.1 x.2.1.1.2.2.2.2.1 x.2.1.1.2.2.2.2.2.1 x.2.1.1.2.2.2.2.2.2.1 x.2.1.1.2.2.2.2.2.2.2.1 x.2.1.1.2.2.2.2.2.2.2.2.1 x.2.1.1.2.2.2.2.2.2.2.2.2.1 x.2.1.1.2.2.2.2.2.2.2.2.2.2.1 x.2.1.1.2.2.2.2.2.2.2.2.2.2.2.1 x.2.1.1.2.2.2.2.2.2.2.2.2.2.2.2.1 x.2.2.1
def em_spec_Durable_29 (x : (S_spec_Durable_29).X) : (L_spec_Durable_29).X := ((((), ()), ((), ()), (0, ()), ()), ((x.2.1.1.1, x.2.1.1.2.1, x.2.1.1.2.2.1, x.2.1.1.2.2.2.1, x.2.1.1.2.2.2.2.1, x.2.1.1.2.2.2.2.2.1, x.2.1.1.2.2.2.2.2.2.1, x.2.1.1.2.2.2.2.2.2.2.1, x.2.1.1.2.2.2.2.2.2.2.2.1, x.2.1.1.2.2.2.2.2.2.2.2.2.1, x.2.1.1.2.2.2.2.2.2.2.2.2.2.1, x.2.1.1.2.2.2.2.2.2.2.2.2.2.2.1, x.2.1.1.2.2.2.2.2.2.2.2.2.2.2.2.1, ()), ()), (x.2.2.1, ()))
noncomputable def c_spec_Durable_29 : Code := (subN B_spec_Durable 64 116).getD .skip
theorem a_spec_Durable_29 : subN B_spec_Durable 64 29 = some (.block 0 (.loop c_spec_Durable_29)) := by kernel_rfl
theorem r_spec_Durable_29 (x : (L_spec_Durable_29).X) : roundT ⟨E_spec_Durable, 32, D_spec_Durable_0⟩ 0 c_spec_Durable_29 116 L_spec_Durable_29 O_spec_Durable_29 Z_spec_Durable_29 x = stx_spec_Durable_29 x := by kernel_rfl
noncomputable def fu_spec_Durable_29 (x : (S_spec_Durable_29).X) : Nat := (fun (u0 : Int) (u1 : Int) (u2 : Int) (u3 : List dM) (u4 : Int) (u5 : Int) (u6 : Int) (u7 : Int) (u8 : Int) (u9 : List dW) (u10 : Int) (u11 : Bool) (u12 : Bool) (u13 : List Int) => 18446744073709551616) x.2.1.1.1 x.2.1.1.2.1 x.2.1.1.2.2.1 x.2.1.1.2.2.2.1 x.2.1.1.2.2.2.2.1 x.2.1.1.2.2.2.2.2.1 x.2.1.1.2.2.2.2.2.2.1 x.2.1.1.2.2.2.2.2.2.2.1 x.2.1.1.2.2.2.2.2.2.2.2.1 x.2.1.1.2.2.2.2.2.2.2.2.2.1 x.2.1.1.2.2.2.2.2.2.2.2.2.2.1 x.2.1.1.2.2.2.2.2.2.2.2.2.2.2.1 x.2.1.1.2.2.2.2.2.2.2.2.2.2.2.2.1 x.2.2.1
noncomputable def F_spec_Durable_29 (x : (S_spec_Durable_29).X) : Option ((O_spec_Durable_29).X ⊕ (Z_spec_Durable_29).X) := loopN stx_spec_Durable_29 (fu_spec_Durable_29 x) (em_spec_Durable_29 x)
noncomputable def sg_spec_Durable_29 : Seg := ⟨S_spec_Durable_29, O_spec_Durable_29, Z_spec_Durable_29, F_spec_Durable_29⟩
noncomputable def D_spec_Durable_1 : Nat → Option Seg := fun q => bif Nat.beq q 29 then some sg_spec_Durable_29 else D_spec_Durable_0 q
theorem fr_spec_Durable_1 : FrOk Try.prog ⟨E_spec_Durable, 32, D_spec_Durable_1⟩ B_spec_Durable := (fr_spec_Durable_0).loop (sg := sg_spec_Durable_29) L_spec_Durable_29 em_spec_Durable_29 (by decide) a_spec_Durable_29 stx_spec_Durable_29 fu_spec_Durable_29 (by decide) (fun _ => rfl) (fun x r _ h => h) r_spec_Durable_29
abbrev I_spec_Durable : List Par := [.rd tA]
abbrev U_spec_Durable : List OT := [⟨false, tL, (.ow .fz)⟩]
noncomputable def raw_spec_Durable (a0 : dA) : Option (ResD U_spec_Durable × MutD I_spec_Durable) :=
  segM (F_spec_Durable_29 ((((), ()), ((), ()), ((), ()), ()), ((a0.1, a0.2.1.1, a0.2.1.2, a0.2.2.1, a0.2.2.2.1, a0.2.2.2.2.1, a0.2.2.2.2.2.1, a0.2.2.2.2.2.2.1, a0.2.2.2.2.2.2.2.1, a0.2.2.2.2.2.2.2.2.1, a0.2.2.2.2.2.2.2.2.2.1, a0.2.2.2.2.2.2.2.2.2.2.1, a0.2.2.2.2.2.2.2.2.2.2.2, ()), ()), (([] : List Int), ()))) (fun y4 =>
    some ((y4.2.2.1, ()), ())) (fun y4 =>
    some ((y4.2.2.1, ()), ()))
theorem e_spec_Durable (x : InD I_spec_Durable) : execF ⟨E_spec_Durable, 32, D_spec_Durable_1⟩ Try.f60.results.toList B_spec_Durable I_spec_Durable U_spec_Durable x = raw_spec_Durable x.1 := by kernel_rfl
theorem ok0_spec_Durable : ConOk Try.prog 60 ⟨I_spec_Durable, U_spec_Durable, fun x => raw_spec_Durable x.1⟩ := conOk_exec (fr_spec_Durable_1) Try.func60 (by kernel_rfl) (by kernel_rfl) Try.ntmps60.symm (by decide) (fun x r h => (e_spec_Durable x).trans h)
noncomputable def n_spec_Durable (a0 : dA) : List Int := durable a0
theorem dataOf_len {a : dA} (s : Int) (hg : n_spec_GeoOk a.2.1 = true) : (dataOf a s).1.length ≤ 4 := by
  have := geo_iff.1 hg
  unfold dataOf
  cases (arrOk a && (!a.2.2.2.2.2.2.2.2.2.2.2 && strOk a.2.1 s))
  · exact Nat.zero_le _
  · have := dataA_len a s
    show (dataA a s).1.length ≤ 4
    omega
theorem nn_spec_Durable (a0 : dA) (hk : InOk I_spec_Durable (a0, ())) : raw_spec_Durable a0 = (fun n => some ((n, ()), ())) (n_spec_Durable a0) := by
  unfold raw_spec_Durable n_spec_Durable durable
  cases ha : arrOk a0
  · have h1 : F_spec_Durable_29 (ms_spec_Durable_29 a0 []) = some (.inl (mo_spec_Durable_29 [])) :=
      loopN_up (step := stx_spec_Durable_29) (fun i => mk_spec_Durable_29 i a0 []) 0 _ (fun i hi => absurd hi (Nat.not_lt_zero _)) (by
        simp only [stx_spec_Durable_29, mk_spec_Durable_29, st_spec_Durable_29, pr_eta, n_spec_ArrOk, ha]
        cases ltb ((0 : Nat) : Int) a0.2.1.2 <;> rfl) _ (by show _ < 18446744073709551616; omega)
    rw [h1]; rfl
  have hg := geo_iff.1 (arrOk_geo ha)
  have h1 : F_spec_Durable_29 (ms_spec_Durable_29 a0 []) = some (bif (List.range a0.2.1.2.toNat).all (fun (s : Nat) => (dataOf a0 s).2) then .inl (mo_spec_Durable_29 ((List.range a0.2.1.2.toNat).foldl (fun l (s : Nat) => l ++ (dataOf a0 s).1) [])) else .inr (mz_spec_Durable_29 [])) :=
    loopN_foldE (step := stx_spec_Durable_29) a0.2.1.2.toNat (fun i s => mk_spec_Durable_29 i a0 s) (fun (s : Nat) => (dataOf a0 s).2) (fun l (s : Nat) => l ++ (dataOf a0 s).1) (fun i s => s.length ≤ 4 * i) (fun s => .inl (mo_spec_Durable_29 s)) _ (fun i s hi hs => by
      have := dataOf_len i (arrOk_geo ha)
      refine ⟨?_, fun _ => by rw [List.length_append]; omega⟩
      simp only [stx_spec_Durable_29, mk_spec_Durable_29, st_spec_Durable_29, ltb_t (show (i : Int) < a0.2.1.2 by omega), cond_true, wr (show -9223372036854775808 ≤ (i : Int) + 1 by omega) (by omega), Int.natCast_add, Int.natCast_one, Int.toNat_natCast, pr_eta, n_spec_ArrOk, ha, n_spec_DataOf, apok_iff.2 (show (s.length + (dataOf a0 i).1.length) * 8 ≤ 140737488355328 by omega)]
      cases (dataOf a0 i).2 <;> rfl) (fun s hs => by simp only [stx_spec_Durable_29, mk_spec_Durable_29, st_spec_Durable_29, ltb_f (show a0.2.1.2 ≤ (a0.2.1.2.toNat : Int) by omega), cond_false]) [] (Nat.zero_le _) _ (by show _ < 18446744073709551616; omega)
  rw [h1, foldl_app]
  cases (List.range a0.2.1.2.toNat).all (fun (s : Nat) => (dataOf a0 s).2) <;> rfl
noncomputable def con_spec_Durable : Con := ⟨I_spec_Durable, U_spec_Durable, fun x => (fun n => some ((n, ()), ())) (n_spec_Durable x.1)⟩
theorem ok_spec_Durable : ConOk Try.prog 60 con_spec_Durable := (ok0_spec_Durable).mono (fun x r hk h => (nn_spec_Durable x.1 hk).trans h)
end

/-! impl_within -/
section
noncomputable def B_impl_within : Code := (Try.f125.body).getD .skip
noncomputable def E_impl_within : Env := envOf TT [] []
theorem fr_impl_within_0 : FrOk Try.prog ⟨E_impl_within, 15, fun _ => none⟩ B_impl_within := frOk_base mixed tt_ok trivial
noncomputable def D_impl_within_0 : Nat → Option Seg := fun _ => none
abbrev I_impl_within : List Par := [.rd tI, .rd tI, .rd tI]
abbrev U_impl_within : List OT := [⟨false, tB, .fz⟩]
noncomputable def raw_impl_within (a0 : Int) (a1 : Int) (a2 : Int) : Option (ResD U_impl_within × MutD I_impl_within) :=
  bif (leb a1 a0) then
    some (((leb a0 a2), ()), ())
  else
    some ((false, ()), ())
theorem e_impl_within (x : InD I_impl_within) : execF ⟨E_impl_within, 15, D_impl_within_0⟩ Try.f125.results.toList B_impl_within I_impl_within U_impl_within x = raw_impl_within x.1 x.2.1 x.2.2.1 := by kernel_rfl
theorem ok0_impl_within : ConOk Try.prog 125 ⟨I_impl_within, U_impl_within, fun x => raw_impl_within x.1 x.2.1 x.2.2.1⟩ := conOk_exec (fr_impl_within_0) Try.func125 (by kernel_rfl) (by kernel_rfl) Try.ntmps125.symm (by decide) (fun x r h => (e_impl_within x).trans h)
noncomputable def n_impl_within (a0 : Int) (a1 : Int) (a2 : Int) : Bool :=
  bif (leb a1 a0) then
    (leb a0 a2)
  else
    false
noncomputable def con_impl_within : Con := ⟨I_impl_within, U_impl_within, fun x => (fun n => some ((n, ()), ())) (n_impl_within x.1 x.2.1 x.2.2.1)⟩
theorem nn_impl_within (a0 : Int) (a1 : Int) (a2 : Int) : raw_impl_within a0 a1 a2 = (fun n => some ((n, ()), ())) (n_impl_within a0 a1 a2) := bif_ty (p := fun (n : Bool) => ((n, ()), ())) (bif_some (p := fun (n : Bool) => ((n, ()), ())) rfl rfl)
theorem ok_impl_within : ConOk Try.prog 125 con_impl_within := (ok0_impl_within).mono (fun x r _ h => (nn_impl_within x.1 x.2.1 x.2.2.1).trans h)
theorem impl_in_eq (a b c : Int) : n_impl_within a b c = n_spec_l1In a b c := by kernel_rfl
end

/-! impl_GeoOk -/
section
noncomputable def B_impl_GeoOk : Code := (Try.f121.body).getD .skip
noncomputable def E_impl_GeoOk : Env := envOf TT [(125, con_impl_within)] []
theorem fr_impl_GeoOk_0 : FrOk Try.prog ⟨E_impl_GeoOk, 11, fun _ => none⟩ B_impl_GeoOk := frOk_base mixed tt_ok ⟨ok_impl_within, trivial⟩
noncomputable def D_impl_GeoOk_0 : Nat → Option Seg := fun _ => none
abbrev I_impl_GeoOk : List Par := [.rd tG]
abbrev U_impl_GeoOk : List OT := [⟨false, tB, .fz⟩]
noncomputable def raw_impl_GeoOk (a0 : dG) : Option (ResD U_impl_GeoOk × MutD I_impl_GeoOk) :=
  let r1 := n_impl_within a0.1 3 5
  bif r1 then
    let r2 := n_impl_within a0.2 1 8
    some ((r2, ()), ())
  else
    some ((false, ()), ())
theorem e_impl_GeoOk (x : InD I_impl_GeoOk) : execF ⟨E_impl_GeoOk, 11, D_impl_GeoOk_0⟩ Try.f121.results.toList B_impl_GeoOk I_impl_GeoOk U_impl_GeoOk x = raw_impl_GeoOk x.1 := by kernel_rfl
theorem ok0_impl_GeoOk : ConOk Try.prog 121 ⟨I_impl_GeoOk, U_impl_GeoOk, fun x => raw_impl_GeoOk x.1⟩ := conOk_exec (fr_impl_GeoOk_0) Try.func121 (by kernel_rfl) (by kernel_rfl) Try.ntmps121.symm (by decide) (fun x r h => (e_impl_GeoOk x).trans h)
noncomputable def n_impl_GeoOk (a0 : dG) : Bool :=
  let r1 := n_impl_within a0.1 3 5
  bif r1 then
    let r2 := n_impl_within a0.2 1 8
    r2
  else
    false
noncomputable def con_impl_GeoOk : Con := ⟨I_impl_GeoOk, U_impl_GeoOk, fun x => (fun n => some ((n, ()), ())) (n_impl_GeoOk x.1)⟩
theorem nn_impl_GeoOk (a0 : dG) : raw_impl_GeoOk a0 = (fun n => some ((n, ()), ())) (n_impl_GeoOk a0) := bif_ty (p := fun (n : Bool) => ((n, ()), ())) (bif_some (p := fun (n : Bool) => ((n, ()), ())) rfl rfl)
theorem ok_impl_GeoOk : ConOk Try.prog 121 con_impl_GeoOk := (ok0_impl_GeoOk).mono (fun x r _ h => (nn_impl_GeoOk x.1).trans h)
theorem geo_eq (a : Int × Int) : n_impl_GeoOk a = n_spec_GeoOk a := by kernel_rfl
end
end Go.Tf
