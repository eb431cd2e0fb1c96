/- Functions of the program, and what they come to. -/
import Derived.Test.YtfpjmijaiekbgaaGreatExactContentsF4
namespace Go.Tf
open Go.Proofs
set_option synthInstance.maxHeartbeats 400000
set_option synthInstance.maxSize 10000
set_option linter.unusedVariables false
set_option linter.unusedSimpArgs false
set_option maxRecDepth 100000
/-! spec_ParityOf -/
section
noncomputable def B_spec_ParityOf : Code := (Tryz.f225.body).getD .skip
noncomputable def E_spec_ParityOf : Env := envOf TT [(255, con_spec_l3Stripe)] []
theorem fr_spec_ParityOf_0 : FrOk Tryz.prog ⟨E_spec_ParityOf, 17, fun _ => none⟩ B_spec_ParityOf := frOk_base mixed tt_ok ⟨ok_spec_l3Stripe, trivial⟩
noncomputable def D_spec_ParityOf_0 : Nat → Option Seg := fun _ => none
abbrev I_spec_ParityOf : List Par := [.rd tG, .rd tI]
abbrev U_spec_ParityOf : List OT := [⟨false, tI, .fz⟩]
noncomputable def raw_spec_ParityOf (a0 : dG) (a1 : Int) : Option (ResD U_spec_ParityOf × MutD I_spec_ParityOf) :=
  let r1 := n_spec_l3Stripe a0 a1
  bif (!r1) then
    some (((-1), ()), ())
  else
    bif (a0.1 != 0) then
      some (((IntKind.i64.wrap ((IntKind.i64.wrap (a0.1 - 1)) - (a1.tmod a0.1))), ()), ())
    else none
theorem e_spec_ParityOf (x : InD I_spec_ParityOf) : execF ⟨E_spec_ParityOf, 17, D_spec_ParityOf_0⟩ Tryz.f225.results.toList B_spec_ParityOf I_spec_ParityOf U_spec_ParityOf x = raw_spec_ParityOf x.1 x.2.1 := by kernel_rfl
theorem ok0_spec_ParityOf : ConOk Tryz.prog 225 ⟨I_spec_ParityOf, U_spec_ParityOf, fun x => raw_spec_ParityOf x.1 x.2.1⟩ := conOk_exec (fr_spec_ParityOf_0) Tryz.func225 (by kernel_rfl) (by kernel_rfl) Tryz.ntmps225.symm (by decide) (fun x r h => (e_spec_ParityOf x).trans h)
noncomputable def n_spec_ParityOf (a0 : dG) (a1 : Int) : Int := parityOf a0 a1
theorem nn_spec_ParityOf (a0 : dG) (a1 : Int) (hk : InOk I_spec_ParityOf (a0, a1, ())) : raw_spec_ParityOf a0 a1 = (fun n => some ((n, ()), ())) (n_spec_ParityOf a0 a1) := by
  unfold raw_spec_ParityOf n_spec_ParityOf
  rw [spec_str_eq]
  cases hs : strOk a0 a1
  · unfold parityOf; rw [hs]; rfl
  · have h1 := strOk_iff.1 hs
    have h2 := geo_iff.1 h1.1
    have h3 := parity_in hs
    have h4 : parityOf a0 a1 = a0.1 - 1 - a1.tmod a0.1 := by unfold parityOf; rw [hs]; rfl
    rw [show (a0.1 != 0) = true from bne_iff_ne.2 (by omega), wr (show -9223372036854775808 ≤ a0.1 - 1 by omega) (by omega), wr (show -9223372036854775808 ≤ a0.1 - 1 - a1.tmod a0.1 by omega) (by omega), h4]; rfl
noncomputable def con_spec_ParityOf : Con := ⟨I_spec_ParityOf, U_spec_ParityOf, fun x => (fun n => some ((n, ()), ())) (n_spec_ParityOf x.1 x.2.1)⟩
theorem ok_spec_ParityOf : ConOk Tryz.prog 225 con_spec_ParityOf := (ok0_spec_ParityOf).mono (fun x r hk h => (nn_spec_ParityOf x.1 x.2.1 hk).trans h)
end

/-! spec_DiskOf -/
section
noncomputable def B_spec_DiskOf : Code := (Tryz.f248.body).getD .skip
noncomputable def E_spec_DiskOf : Env := envOf TT [(98, con_spec_l1In), (225, con_spec_ParityOf), (255, con_spec_l3Stripe)] []
theorem fr_spec_DiskOf_0 : FrOk Tryz.prog ⟨E_spec_DiskOf, 28, fun _ => none⟩ B_spec_DiskOf := frOk_base mixed tt_ok ⟨ok_spec_l1In, ok_spec_ParityOf, ok_spec_l3Stripe, trivial⟩
noncomputable def D_spec_DiskOf_0 : Nat → Option Seg := fun _ => none
abbrev I_spec_DiskOf : List Par := [.rd tG, .rd tI, .rd tI]
abbrev U_spec_DiskOf : List OT := [⟨false, tI, .fz⟩]
noncomputable def raw_spec_DiskOf (a0 : dG) (a1 : Int) (a2 : Int) : Option (ResD U_spec_DiskOf × MutD I_spec_DiskOf) :=
  let r1 := n_spec_l3Stripe a0 a1
  bif (!(!r1)) then
    let r2 := n_spec_l1In a2 0 (IntKind.i64.wrap (a0.1 - 2))
    bif (!r2) then
      some (((-1), ()), ())
    else
      let r3 := n_spec_ParityOf a0 a1
      bif (a0.1 != 0) then
        some ((((IntKind.i64.wrap ((IntKind.i64.wrap (r3 + 1)) + a2)).tmod a0.1), ()), ())
      else none
  else
    some (((-1), ()), ())
theorem e_spec_DiskOf (x : InD I_spec_DiskOf) : execF ⟨E_spec_DiskOf, 28, D_spec_DiskOf_0⟩ Tryz.f248.results.toList B_spec_DiskOf I_spec_DiskOf U_spec_DiskOf x = raw_spec_DiskOf x.1 x.2.1 x.2.2.1 := by kernel_rfl
theorem ok0_spec_DiskOf : ConOk Tryz.prog 248 ⟨I_spec_DiskOf, U_spec_DiskOf, fun x => raw_spec_DiskOf x.1 x.2.1 x.2.2.1⟩ := conOk_exec (fr_spec_DiskOf_0) Tryz.func248 (by kernel_rfl) (by kernel_rfl) Tryz.ntmps248.symm (by decide) (fun x r h => (e_spec_DiskOf x).trans h)
noncomputable def n_spec_DiskOf (a0 : dG) (a1 a2 : Int) : Int := diskOf a0 a1 a2
theorem nn_spec_DiskOf (a0 : dG) (a1 a2 : Int) (hk : InOk I_spec_DiskOf (a0, a1, a2, ())) : raw_spec_DiskOf a0 a1 a2 = (fun n => some ((n, ()), ())) (n_spec_DiskOf a0 a1 a2) := by
  unfold raw_spec_DiskOf n_spec_DiskOf diskOf n_spec_ParityOf
  rw [spec_str_eq]
  cases hs : strOk a0 a1
  · rfl
  · have h1 := strOk_iff.1 hs
    have h2 := geo_iff.1 h1.1
    have h3 := parity_in hs
    rw [in_eq, wr (show -9223372036854775808 ≤ a0.1 - 2 by omega) (by omega)]
    cases hi : (leb 0 a2 && leb a2 (a0.1 - 2))
    · rfl
    · rw [Bool.and_eq_true, leb_iff, leb_iff] at hi
      rw [show (a0.1 != 0) = true from bne_iff_ne.2 (by omega)]
      show some (((IntKind.i64.wrap (IntKind.i64.wrap (parityOf a0 a1 + 1) + a2)).tmod a0.1, ()), ()) = some (((parityOf a0 a1 + 1 + a2).tmod a0.1, ()), ())
      rw [wr (show -9223372036854775808 ≤ parityOf a0 a1 + 1 by omega) (by omega), wr (show -9223372036854775808 ≤ parityOf a0 a1 + 1 + a2 by omega) (by omega)]
noncomputable def con_spec_DiskOf : Con := ⟨I_spec_DiskOf, U_spec_DiskOf, fun x => (fun n => some ((n, ()), ())) (n_spec_DiskOf x.1 x.2.1 x.2.2.1)⟩
theorem ok_spec_DiskOf : ConOk Tryz.prog 248 con_spec_DiskOf := (ok0_spec_DiskOf).mono (fun x r hk h => (nn_spec_DiskOf x.1 x.2.1 x.2.2.1 hk).trans h)
end

/-! spec_l6Data -/
section
noncomputable def B_spec_l6Data : Code := (Tryz.f211.body).getD .skip
noncomputable def E_spec_l6Data : Env := envOf TT [(148, con_spec_l6Words), (248, con_spec_DiskOf)] []
theorem fr_spec_l6Data_0 : FrOk Tryz.prog ⟨E_spec_l6Data, 41, fun _ => none⟩ B_spec_l6Data := frOk_base mixed tt_ok ⟨ok_spec_l6Words, ok_spec_DiskOf, trivial⟩
noncomputable def D_spec_l6Data_0 : Nat → Option Seg := fun _ => none
def L_spec_l6Data_61 : Shape := ⟨[(1, false, [.int .i64]), (2, false, [.ptr 0 0]), (6, false, [.at 800000000]), (7, false, [.bool]), (8, false, [.at 800000001]), (9, false, [.int .i64])], [(0, [.int .i64, .int .i64, .int .i64, .br tM, .int .i64, .int .i64, .int .i64, .int .i64, .int .i64, .br tW, .int .i64, .bool, .bool])], [(800000000, tI, .fz), (800000001, tI, .fz)]⟩
def S_spec_l6Data_61 : Shape := ⟨[(1, false, [.int .i64]), (2, false, [.ptr 0 0]), (6, false, [.at 800000000]), (7, false, [.bool]), (8, false, [.at 800000001]), (9, false, [.ci .i64 0])], [(0, [.int .i64, .int .i64, .int .i64, .br tM, .int .i64, .int .i64, .int .i64, .int .i64, .int .i64, .br tW, .int .i64, .bool, .bool])], [(800000000, tI, .fz), (800000001, tI, .fz)]⟩
def O_spec_l6Data_61 : Shape := ⟨[(7, false, [.bool]), (8, false, [.at 800000000])], [], [(800000000, tI, .fz)]⟩
def Z_spec_l6Data_61 : Shape := ⟨[], [], []⟩
abbrev mk_spec_l6Data_61 (v0 : Int) (v1 : Bool) (v2 : Int) (v3 : dA) (v4 : List Int) (v5 : List Int) : (L_spec_l6Data_61).X := (((v0, ()), ((), ()), ((), ()), (v1, ()), ((), ()), (v2, ()), ()), ((v3.1, v3.2.1.1, v3.2.1.2, v3.2.2.1, v3.2.2.2.1, v3.2.2.2.2.1, v3.2.2.2.2.2.1, v3.2.2.2.2.2.2.1, v3.2.2.2.2.2.2.2.1, v3.2.2.2.2.2.2.2.2.1, v3.2.2.2.2.2.2.2.2.2.1, v3.2.2.2.2.2.2.2.2.2.2.1, v3.2.2.2.2.2.2.2.2.2.2.2, ()), ()), (v4, v5, ()))
abbrev ms_spec_l6Data_61 (v0 : Int) (v1 : Bool) (v2 : dA) (v3 : List Int) (v4 : List Int) : (S_spec_l6Data_61).X := (((v0, ()), ((), ()), ((), ()), (v1, ()), ((), ()), ((), ()), ()), ((v2.1, v2.2.1.1, v2.2.1.2, v2.2.2.1, v2.2.2.2.1, v2.2.2.2.2.1, v2.2.2.2.2.2.1, v2.2.2.2.2.2.2.1, v2.2.2.2.2.2.2.2.1, v2.2.2.2.2.2.2.2.2.1, v2.2.2.2.2.2.2.2.2.2.1, v2.2.2.2.2.2.2.2.2.2.2.1, v2.2.2.2.2.2.2.2.2.2.2.2, ()), ()), (v3, v4, ()))
abbrev mo_spec_l6Data_61 (v0 : Bool) (v1 : List Int) : (O_spec_l6Data_61).X := (((v0, ()), ((), ()), ()), (), (v1, ()))
noncomputable def st_spec_l6Data_61 (v0 : Int) (v1 : Bool) (v2 : Int) (v3 : Int) (v4 : Int) (v5 : Int) (v6 : List dM) (v7 : Int) (v8 : Int) (v9 : Int) (v10 : Int) (v11 : Int) (v12 : List dW) (v13 : Int) (v14 : Bool) (v15 : Bool) (v16 : List Int) (v17 : List Int) : Option ((L_spec_l6Data_61).X ⊕ ((O_spec_l6Data_61).X ⊕ (Z_spec_l6Data_61).X)) :=
  bif (ltb v2 (IntKind.i64.wrap (v4 - 1))) then
    bif v1 then
      let r3 := n_spec_DiskOf (v4, v5) v0 v2
      bif (inb r3 v16.length) then
        bif (apok v17.length ([(nth v16 r3 0)] : List Int).length 8) then
          some (.inl (((v0, ()), ((), ()), ((), ()), (v1, ()), ((), ()), ((IntKind.i64.wrap (v2 + 1)), ()), ()), ((v3, v4, v5, v6, v7, v8, v9, v10, v11, v12, v13, v14, v15, ()), ()), (v16, (v17 ++ ([(nth v16 r3 0)] : List Int)), ())))
        else none
      else none
    else
      some (.inr (.inl (((v1, ()), ((), ()), ()), (), (v17, ()))))
  else
    some (.inr (.inl (((v1, ()), ((), ()), ()), (), (v17, ()))))
noncomputable def stx_spec_l6Data_61 (x : (L_spec_l6Data_61).X) := st_spec_l6Data_61 x.1.1.1 x.1.2.2.2.1.1 x.1.2.2.2.2.2.1.1 x.2.1.1.1 x.2.1.1.2.1 x.2.1.1.2.2.1 x.2.1.1.2.2.2.1 x.2.1.1.2.2.2.2.1 x.2.1.1.2.2.2.2.2.1 x.2.1.1.2.2.2.2.2.2.1 x.2.1.1.2.2.2.2.2.2.2.1 x.2.1.1.2.2.2.2.2.2.2.2.1 x.2.1.1.2.2.2.2.2.2.2.2.2.1 x.2.1.1.2.2.2.2.2.2.2.2.2.2.1 x.2.1.1.2.2.2.2.2.2.2.2.2.2.2.1 x.2.1.1.2.2.2.2.2.2.2.2.2.2.2.2.1 x.2.2.1 x.2.2.2.1
def em_spec_l6Data_61 (x : (S_spec_l6Data_61).X) : (L_spec_l6Data_61).X := (((x.1.1.1, ()), ((), ()), ((), ()), (x.1.2.2.2.1.1, ()), ((), ()), (0, ()), ()), ((x.2.1.1.1, x.2.1.1.2.1, x.2.1.1.2.2.1, x.2.1.1.2.2.2.1, x.2.1.1.2.2.2.2.1, x.2.1.1.2.2.2.2.2.1, x.2.1.1.2.2.2.2.2.2.1, x.2.1.1.2.2.2.2.2.2.2.1, x.2.1.1.2.2.2.2.2.2.2.2.1, x.2.1.1.2.2.2.2.2.2.2.2.2.1, x.2.1.1.2.2.2.2.2.2.2.2.2.2.1, x.2.1.1.2.2.2.2.2.2.2.2.2.2.2.1, x.2.1.1.2.2.2.2.2.2.2.2.2.2.2.2.1, ()), ()), (x.2.2.1, x.2.2.2.1, ()))
noncomputable def c_spec_l6Data_61 : Code := (subN B_spec_l6Data 64 244).getD .skip
theorem a_spec_l6Data_61 : subN B_spec_l6Data 64 61 = some (.block 0 (.loop c_spec_l6Data_61)) := by kernel_rfl
theorem r_spec_l6Data_61 (x : (L_spec_l6Data_61).X) : roundT ⟨E_spec_l6Data, 41, D_spec_l6Data_0⟩ 0 c_spec_l6Data_61 244 L_spec_l6Data_61 O_spec_l6Data_61 Z_spec_l6Data_61 x = stx_spec_l6Data_61 x := by kernel_rfl
noncomputable def fu_spec_l6Data_61 (x : (S_spec_l6Data_61).X) : Nat := (fun (u0 : Int) (u1 : Bool) (u2 : Int) (u3 : Int) (u4 : Int) (u5 : List dM) (u6 : Int) (u7 : Int) (u8 : Int) (u9 : Int) (u10 : Int) (u11 : List dW) (u12 : Int) (u13 : Bool) (u14 : Bool) (u15 : List Int) (u16 : List Int) => 18446744073709551616) x.1.1.1 x.1.2.2.2.1.1 x.2.1.1.1 x.2.1.1.2.1 x.2.1.1.2.2.1 x.2.1.1.2.2.2.1 x.2.1.1.2.2.2.2.1 x.2.1.1.2.2.2.2.2.1 x.2.1.1.2.2.2.2.2.2.1 x.2.1.1.2.2.2.2.2.2.2.1 x.2.1.1.2.2.2.2.2.2.2.2.1 x.2.1.1.2.2.2.2.2.2.2.2.2.1 x.2.1.1.2.2.2.2.2.2.2.2.2.2.1 x.2.1.1.2.2.2.2.2.2.2.2.2.2.2.1 x.2.1.1.2.2.2.2.2.2.2.2.2.2.2.2.1 x.2.2.1 x.2.2.2.1
noncomputable def F_spec_l6Data_61 (x : (S_spec_l6Data_61).X) : Option ((O_spec_l6Data_61).X ⊕ (Z_spec_l6Data_61).X) := loopN stx_spec_l6Data_61 (fu_spec_l6Data_61 x) (em_spec_l6Data_61 x)
noncomputable def sg_spec_l6Data_61 : Seg := ⟨S_spec_l6Data_61, O_spec_l6Data_61, Z_spec_l6Data_61, F_spec_l6Data_61⟩
noncomputable def D_spec_l6Data_1 : Nat → Option Seg := fun q => bif Nat.beq q 61 then some sg_spec_l6Data_61 else D_spec_l6Data_0 q
theorem fr_spec_l6Data_1 : FrOk Tryz.prog ⟨E_spec_l6Data, 41, D_spec_l6Data_1⟩ B_spec_l6Data := (fr_spec_l6Data_0).loop (sg := sg_spec_l6Data_61) L_spec_l6Data_61 em_spec_l6Data_61 (by decide) a_spec_l6Data_61 stx_spec_l6Data_61 fu_spec_l6Data_61 (by decide) (fun _ => rfl) (fun x r _ h => h) r_spec_l6Data_61
abbrev I_spec_l6Data : List Par := [.rd tA, .rd tI]
abbrev U_spec_l6Data : List OT := [⟨false, tL, (.ow .fz)⟩, ⟨false, tB, .fz⟩]
noncomputable def raw_spec_l6Data (a0 : dA) (a1 : Int) : Option (ResD U_spec_l6Data × MutD I_spec_l6Data) :=
  bnd (o_spec_l6Words a0 a1) fun r1 =>
  segM (F_spec_l6Data_61 (((a1, ()), ((), ()), ((), ()), (r1.1.2.1, ()), ((), ()), ((), ()), ()), ((a0.1, a0.2.1.1, a0.2.1.2, a0.2.2.1, a0.2.2.2.1, a0.2.2.2.2.1, a0.2.2.2.2.2.1, a0.2.2.2.2.2.2.1, a0.2.2.2.2.2.2.2.1, a0.2.2.2.2.2.2.2.2.1, a0.2.2.2.2.2.2.2.2.2.1, a0.2.2.2.2.2.2.2.2.2.2.1, a0.2.2.2.2.2.2.2.2.2.2.2, ()), ()), (r1.1.1, ([] : List Int), ()))) (fun y3 =>
    some ((y3.2.2.1, y3.1.1.1, ()), ())) (fun y3 =>
    none)
theorem e_spec_l6Data (x : InD I_spec_l6Data) : execF ⟨E_spec_l6Data, 41, D_spec_l6Data_1⟩ Tryz.f211.results.toList B_spec_l6Data I_spec_l6Data U_spec_l6Data x = raw_spec_l6Data x.1 x.2.1 := by kernel_rfl
theorem ok0_spec_l6Data : ConOk Tryz.prog 211 ⟨I_spec_l6Data, U_spec_l6Data, fun x => raw_spec_l6Data x.1 x.2.1⟩ := conOk_exec (fr_spec_l6Data_1) Tryz.func211 (by kernel_rfl) (by kernel_rfl) Tryz.ntmps211.symm (by decide) (fun x r h => (e_spec_l6Data x).trans h)
noncomputable def n_spec_l6Data (a0 : dA) (a1 : Int) : List Int × Bool := dataA a0 a1
noncomputable def q_spec_l6Data (a0 : dA) (a1 : Int) : Bool := strOk a0.2.1 a1
theorem nn_spec_l6Data (a0 : dA) (a1 : Int) (hk : InOk I_spec_l6Data (a0, a1, ())) (hq : q_spec_l6Data a0 a1 = true) : raw_spec_l6Data a0 a1 = (fun n => some ((n.1, n.2, ()), ())) (n_spec_l6Data a0 a1) := by
  have hs : strOk a0.2.1 a1 = true := hq
  have hg := geo_iff.1 (strOk_iff.1 hs).1
  unfold raw_spec_l6Data n_spec_l6Data dataA
  rw [ot_spec_l6Words a0 a1 (strOk_iff.1 hs).1, n_spec_l6Words]
  simp only [bnd_some]
  cases hw : (words a0 a1).2
  · have h1 : F_spec_l6Data_61 (ms_spec_l6Data_61 a1 false a0 (words a0 a1).1 []) = some (.inl (mo_spec_l6Data_61 false [])) :=
      loopN_up (step := stx_spec_l6Data_61) (fun i => mk_spec_l6Data_61 a1 false i a0 (words a0 a1).1 []) 0 _ (fun i hi => absurd hi (Nat.not_lt_zero _)) (by
        simp only [stx_spec_l6Data_61, mk_spec_l6Data_61, st_spec_l6Data_61, cond_false]
        cases ltb ((0 : Nat) : Int) (IntKind.i64.wrap (a0.2.1.1 - 1)) <;> rfl) _ (by show _ < 18446744073709551616; omega)
    rw [h1]; rfl
  · have hL := words_len hw
    have h1 : F_spec_l6Data_61 (ms_spec_l6Data_61 a1 true a0 (words a0 a1).1 []) = some (.inl (mo_spec_l6Data_61 true ((List.range (a0.2.1.1 - 1).toNat).foldl (fun l (i : Nat) => l ++ [nth (words a0 a1).1 (diskOf a0.2.1 a1 i) 0]) []))) :=
      loopN_rng (step := stx_spec_l6Data_61) (a0.2.1.1 - 1).toNat (fun i s => mk_spec_l6Data_61 a1 true i a0 (words a0 a1).1 s) (fun l (i : Nat) => l ++ [nth (words a0 a1).1 (diskOf a0.2.1 a1 i) 0]) (fun i s => s.length = i) (fun s => .inl (mo_spec_l6Data_61 true s)) (fun i s hi hs2 => ⟨by
        have hd := disk_in hs (show (0 : Int) ≤ i by omega) (show (i : Int) ≤ a0.2.1.1 - 2 by omega)
        simp only [stx_spec_l6Data_61, mk_spec_l6Data_61, st_spec_l6Data_61, wr (show -9223372036854775808 ≤ a0.2.1.1 - 1 by omega) (by omega), ltb_t (show (i : Int) < a0.2.1.1 - 1 by omega), cond_true, wr (show -9223372036854775808 ≤ (i : Int) + 1 by omega) (by omega), Int.natCast_add, Int.natCast_one, Int.toNat_natCast, pr_eta, n_spec_DiskOf, inb_iff.2 (show 0 ≤ diskOf a0.2.1 a1 i ∧ diskOf a0.2.1 a1 i < (words a0 a1).1.length by omega)]
        rw [apok_iff.2 (show (s.length + [nth (words a0 a1).1 (diskOf a0.2.1 a1 i) 0].length) * 8 ≤ 140737488355328 by simp only [List.length_cons, List.length_nil]; omega)]; rfl, by simp [hs2]⟩) (fun s hs2 => by simp only [stx_spec_l6Data_61, mk_spec_l6Data_61, st_spec_l6Data_61, wr (show -9223372036854775808 ≤ a0.2.1.1 - 1 by omega) (by omega), ltb_f (show a0.2.1.1 - 1 ≤ ((a0.2.1.1 - 1).toNat : Int) by omega), cond_false]) [] rfl _ (by show _ < 18446744073709551616; omega)
    rw [h1, foldl_snoc]; rfl
noncomputable def o_spec_l6Data (a0 : dA) (a1 : Int) : Option (ResD U_spec_l6Data × MutD I_spec_l6Data) := bif q_spec_l6Data a0 a1 then (fun n => some ((n.1, n.2, ()), ())) (n_spec_l6Data a0 a1) else none
theorem ot_spec_l6Data (a0 : dA) (a1 : Int) (h : q_spec_l6Data a0 a1 = true) : o_spec_l6Data a0 a1 = (fun n => some ((n.1, n.2, ()), ())) (n_spec_l6Data a0 a1) := by unfold o_spec_l6Data; rw [h]; rfl
noncomputable def con_spec_l6Data : Con := ⟨I_spec_l6Data, U_spec_l6Data, fun x => o_spec_l6Data x.1 x.2.1⟩
theorem ok_spec_l6Data : ConOk Tryz.prog 211 con_spec_l6Data := (ok0_spec_l6Data).mono (fun x r hk h => pre_ok h (fun hq => nn_spec_l6Data x.1 x.2.1 hk hq))
end

/-! spec_l8Stripe -/
section
noncomputable def B_spec_l8Stripe : Code := (Tryz.f142.body).getD .skip
noncomputable def E_spec_l8Stripe : Env := envOf TT [(177, con_spec_l8At), (211, con_spec_l6Data)] []
theorem fr_spec_l8Stripe_0 : FrOk Tryz.prog ⟨E_spec_l8Stripe, 28, fun _ => none⟩ B_spec_l8Stripe := frOk_base mixed tt_ok ⟨ok_spec_l8At, ok_spec_l6Data, trivial⟩
noncomputable def D_spec_l8Stripe_0 : Nat → Option Seg := fun _ => none
abbrev I_spec_l8Stripe : List Par := [.rd tA, .rd tI]
abbrev U_spec_l8Stripe : List OT := [⟨false, tL, (.ow .fz)⟩, ⟨false, tB, .fz⟩]
noncomputable def raw_spec_l8Stripe (a0 : dA) (a1 : Int) : Option (ResD U_spec_l8Stripe × MutD I_spec_l8Stripe) :=
  let r1 := n_spec_l8At a0 a1
  bif (leb 0 r1) then
    bif (inb r1 a0.2.2.2.2.2.2.2.2.1.length) then
      bif (apok ([] : List Int).length ((nth a0.2.2.2.2.2.2.2.2.1 r1 (0, [])).2).length 8) then
        some (((([] : List Int) ++ ((nth a0.2.2.2.2.2.2.2.2.1 r1 (0, [])).2)), true, ()), ())
      else none
    else none
  else
    bif a0.2.2.2.2.2.2.2.2.2.2.2 then
      some ((([] : List Int), false, ()), ())
    else
      bnd (o_spec_l6Data a0 a1) fun r2 =>
      some ((r2.1.1, r2.1.2.1, ()), ())
theorem e_spec_l8Stripe (x : InD I_spec_l8Stripe) : execF ⟨E_spec_l8Stripe, 28, D_spec_l8Stripe_0⟩ Tryz.f142.results.toList B_spec_l8Stripe I_spec_l8Stripe U_spec_l8Stripe x = raw_spec_l8Stripe x.1 x.2.1 := by kernel_rfl
theorem ok0_spec_l8Stripe : ConOk Tryz.prog 142 ⟨I_spec_l8Stripe, U_spec_l8Stripe, fun x => raw_spec_l8Stripe x.1 x.2.1⟩ := conOk_exec (fr_spec_l8Stripe_0) Tryz.func142 (by kernel_rfl) (by kernel_rfl) Tryz.ntmps142.symm (by decide) (fun x r h => (e_spec_l8Stripe x).trans h)
noncomputable def n_spec_l8Stripe (a0 : dA) (a1 : Int) : List Int × Bool := stripeNow a0 a1
noncomputable def q_spec_l8Stripe (a0 : dA) (a1 : Int) : Bool := strOk a0.2.1 a1
theorem nn_spec_l8Stripe (a0 : dA) (a1 : Int) (hk : InOk I_spec_l8Stripe (a0, a1, ())) (hq : q_spec_l8Stripe a0 a1 = true) : raw_spec_l8Stripe a0 a1 = (fun n => some ((n.1, n.2, ()), ())) (n_spec_l8Stripe a0 a1) := by
  unfold raw_spec_l8Stripe n_spec_l8Stripe stripeNow n_spec_l8At
  rw [ot_spec_l6Data a0 a1 hq]
  simp only [List.nil_append]
  cases h : leb 0 (entAt a0.2.2.2.2.2.2.2.2.1 a1)
  · cases a0.2.2.2.2.2.2.2.2.2.2.2 <;> rfl
  · have h1 := (idxOf_in (d := ((0, []) : dW)) h).1
    have h2 : (nth a0.2.2.2.2.2.2.2.2.1 (entAt a0.2.2.2.2.2.2.2.2.1 a1) (0, [])).2.length * 8 ≤ 2 ^ 47 := nth_mem (P := fun x : dW => x.2.length * 8 ≤ 2 ^ 47) h1 (fun x hx => (hk.1.2.2.2.2.2.2.2.2.1.2 x hx).2.1)
    rw [show inb (entAt a0.2.2.2.2.2.2.2.2.1 a1) a0.2.2.2.2.2.2.2.2.1.length = true from h1, apok_iff.2 (show (([] : List Int).length + (nth a0.2.2.2.2.2.2.2.2.1 (entAt a0.2.2.2.2.2.2.2.2.1 a1) (0, [])).2.length) * 8 ≤ 140737488355328 by rw [List.length_nil]; omega)]; rfl
noncomputable def o_spec_l8Stripe (a0 : dA) (a1 : Int) : Option (ResD U_spec_l8Stripe × MutD I_spec_l8Stripe) := bif q_spec_l8Stripe a0 a1 then (fun n => some ((n.1, n.2, ()), ())) (n_spec_l8Stripe a0 a1) else none
theorem ot_spec_l8Stripe (a0 : dA) (a1 : Int) (h : q_spec_l8Stripe a0 a1 = true) : o_spec_l8Stripe a0 a1 = (fun n => some ((n.1, n.2, ()), ())) (n_spec_l8Stripe a0 a1) := by unfold o_spec_l8Stripe; rw [h]; rfl
noncomputable def con_spec_l8Stripe : Con := ⟨I_spec_l8Stripe, U_spec_l8Stripe, fun x => o_spec_l8Stripe x.1 x.2.1⟩
theorem ok_spec_l8Stripe : ConOk Tryz.prog 142 con_spec_l8Stripe := (ok0_spec_l8Stripe).mono (fun x r hk h => pre_ok h (fun hq => nn_spec_l8Stripe x.1 x.2.1 hk hq))
end

/-! spec_StripeOf -/
section
noncomputable def B_spec_StripeOf : Code := (Tryz.f143.body).getD .skip
noncomputable def E_spec_StripeOf : Env := envOf TT [(64, con_spec_Blocks), (98, con_spec_l1In)] []
theorem fr_spec_StripeOf_0 : FrOk Tryz.prog ⟨E_spec_StripeOf, 16, fun _ => none⟩ B_spec_StripeOf := frOk_base mixed tt_ok ⟨ok_spec_Blocks, ok_spec_l1In, trivial⟩
noncomputable def D_spec_StripeOf_0 : Nat → Option Seg := fun _ => none
abbrev I_spec_StripeOf : List Par := [.rd tG, .rd tI]
abbrev U_spec_StripeOf : List OT := [⟨false, tI, .fz⟩]
noncomputable def raw_spec_StripeOf (a0 : dG) (a1 : Int) : Option (ResD U_spec_StripeOf × MutD I_spec_StripeOf) :=
  let r1 := n_spec_Blocks a0
  let r2 := n_spec_l1In a1 0 (IntKind.i64.wrap (r1 - 1))
  bif (!r2) then
    some (((-1), ()), ())
  else
    bif ((IntKind.i64.wrap (a0.1 - 1)) != 0) then
      some (((IntKind.i64.wrap (a1.tdiv (IntKind.i64.wrap (a0.1 - 1)))), ()), ())
    else none
theorem e_spec_StripeOf (x : InD I_spec_StripeOf) : execF ⟨E_spec_StripeOf, 16, D_spec_StripeOf_0⟩ Tryz.f143.results.toList B_spec_StripeOf I_spec_StripeOf U_spec_StripeOf x = raw_spec_StripeOf x.1 x.2.1 := by kernel_rfl
theorem ok0_spec_StripeOf : ConOk Tryz.prog 143 ⟨I_spec_StripeOf, U_spec_StripeOf, fun x => raw_spec_StripeOf x.1 x.2.1⟩ := conOk_exec (fr_spec_StripeOf_0) Tryz.func143 (by kernel_rfl) (by kernel_rfl) Tryz.ntmps143.symm (by decide) (fun x r h => (e_spec_StripeOf x).trans h)
noncomputable def n_spec_StripeOf (a0 : dG) (a1 : Int) : Int := stripeOf a0 a1
theorem nn_spec_StripeOf (a0 : dG) (a1 : Int) (hk : InOk I_spec_StripeOf (a0, a1, ())) : raw_spec_StripeOf a0 a1 = (fun n => some ((n, ()), ())) (n_spec_StripeOf a0 a1) := by
  unfold raw_spec_StripeOf n_spec_StripeOf stripeOf
  simp only [blk_in]
  cases hb : blkOk a0 a1
  · rfl
  · obtain ⟨h1, h2, h3⟩ := blk_split hb
    have h4 := geo_iff.1 h1
    rw [wr (show -9223372036854775808 ≤ a0.1 - 1 by omega) (by omega), show (a0.1 - 1 != 0) = true from bne_iff_ne.2 (by omega), wr (by omega) (by omega)]; rfl
noncomputable def con_spec_StripeOf : Con := ⟨I_spec_StripeOf, U_spec_StripeOf, fun x => (fun n => some ((n, ()), ())) (n_spec_StripeOf x.1 x.2.1)⟩
theorem ok_spec_StripeOf : ConOk Tryz.prog 143 con_spec_StripeOf := (ok0_spec_StripeOf).mono (fun x r hk h => (nn_spec_StripeOf x.1 x.2.1 hk).trans h)
end

/-! spec_IndexOf -/
section
noncomputable def B_spec_IndexOf : Code := (Tryz.f144.body).getD .skip
noncomputable def E_spec_IndexOf : Env := envOf TT [(64, con_spec_Blocks), (98, con_spec_l1In)] []
theorem fr_spec_IndexOf_0 : FrOk Tryz.prog ⟨E_spec_IndexOf, 16, fun _ => none⟩ B_spec_IndexOf := frOk_base mixed tt_ok ⟨ok_spec_Blocks, ok_spec_l1In, trivial⟩
noncomputable def D_spec_IndexOf_0 : Nat → Option Seg := fun _ => none
abbrev I_spec_IndexOf : List Par := [.rd tG, .rd tI]
abbrev U_spec_IndexOf : List OT := [⟨false, tI, .fz⟩]
noncomputable def raw_spec_IndexOf (a0 : dG) (a1 : Int) : Option (ResD U_spec_IndexOf × MutD I_spec_IndexOf) :=
  let r1 := n_spec_Blocks a0
  let r2 := n_spec_l1In a1 0 (IntKind.i64.wrap (r1 - 1))
  bif (!r2) then
    some (((-1), ()), ())
  else
    bif ((IntKind.i64.wrap (a0.1 - 1)) != 0) then
      some (((a1.tmod (IntKind.i64.wrap (a0.1 - 1))), ()), ())
    else none
theorem e_spec_IndexOf (x : InD I_spec_IndexOf) : execF ⟨E_spec_IndexOf, 16, D_spec_IndexOf_0⟩ Tryz.f144.results.toList B_spec_IndexOf I_spec_IndexOf U_spec_IndexOf x = raw_spec_IndexOf x.1 x.2.1 := by kernel_rfl
theorem ok0_spec_IndexOf : ConOk Tryz.prog 144 ⟨I_spec_IndexOf, U_spec_IndexOf, fun x => raw_spec_IndexOf x.1 x.2.1⟩ := conOk_exec (fr_spec_IndexOf_0) Tryz.func144 (by kernel_rfl) (by kernel_rfl) Tryz.ntmps144.symm (by decide) (fun x r h => (e_spec_IndexOf x).trans h)
noncomputable def n_spec_IndexOf (a0 : dG) (a1 : Int) : Int := indexIn a0 a1
theorem nn_spec_IndexOf (a0 : dG) (a1 : Int) (hk : InOk I_spec_IndexOf (a0, a1, ())) : raw_spec_IndexOf a0 a1 = (fun n => some ((n, ()), ())) (n_spec_IndexOf a0 a1) := by
  unfold raw_spec_IndexOf n_spec_IndexOf indexIn
  simp only [blk_in]
  cases hb : blkOk a0 a1
  · rfl
  · obtain ⟨h1, h2, h3⟩ := blk_split hb
    have h4 := geo_iff.1 h1
    rw [wr (show -9223372036854775808 ≤ a0.1 - 1 by omega) (by omega), show (a0.1 - 1 != 0) = true from bne_iff_ne.2 (by omega)]; rfl
noncomputable def con_spec_IndexOf : Con := ⟨I_spec_IndexOf, U_spec_IndexOf, fun x => (fun n => some ((n, ()), ())) (n_spec_IndexOf x.1 x.2.1)⟩
theorem ok_spec_IndexOf : ConOk Tryz.prog 144 con_spec_IndexOf := (ok0_spec_IndexOf).mono (fun x r hk h => (nn_spec_IndexOf x.1 x.2.1 hk).trans h)
end
end Go.Tf
