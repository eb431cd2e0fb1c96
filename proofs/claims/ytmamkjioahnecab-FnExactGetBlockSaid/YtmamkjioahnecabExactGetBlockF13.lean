/- Functions of the program, and what they come to. -/
import Derived.Test.YtmamkjioahnecabExactGetBlockF12
namespace Go.Tf
open Go.Proofs
set_option synthInstance.maxHeartbeats 400000
set_option synthInstance.maxSize 10000
set_option linter.unusedVariables false
set_option linter.unusedSimpArgs false
set_option maxRecDepth 100000
/-! impl_DataOf -/
section
noncomputable def B_impl_DataOf : Code := (Try.f61.body).getD .skip
noncomputable def E_impl_DataOf : Env := envOf TT [(100, con_impl_Words), (101, con_impl_DiskOf)] []
theorem fr_impl_DataOf_0 : FrOk Try.prog ⟨E_impl_DataOf, 39, fun _ => none⟩ B_impl_DataOf := frOk_base mixed tt_ok ⟨ok_impl_Words, ok_impl_DiskOf, trivial⟩
noncomputable def D_impl_DataOf_0 : Nat → Option Seg := fun _ => none
def L_impl_DataOf_125 : Shape := ⟨[(1, false, [.int .i64]), (2, false, [.ptr 0 0]), (6, false, [.at 800000000]), (8, false, [.at 800000001]), (22, false, [.int .i64]), (23, false, [.int .i64])], [(0, [.int .i64, .int .i64, .int .i64, .br tM, .int .i64, .int .i64, .int .i64, .int .i64, .int .i64, .br tW, .int .i64, .bool, .bool])], [(800000000, tI, .fz), (800000001, tI, .fz)]⟩
def S_impl_DataOf_125 : Shape := ⟨[(1, false, [.int .i64]), (2, false, [.ptr 0 0]), (6, false, [.at 800000000]), (8, false, [.at 800000001]), (22, false, [.int .i64]), (23, false, [.ci .i64 0])], [(0, [.int .i64, .int .i64, .int .i64, .br tM, .int .i64, .int .i64, .int .i64, .int .i64, .int .i64, .br tW, .int .i64, .bool, .bool])], [(800000000, tI, .fz), (800000001, tI, .fz)]⟩
def O_impl_DataOf_125 : Shape := ⟨[(8, false, [.at 800000000])], [], [(800000000, tI, .fz)]⟩
def Z_impl_DataOf_125 : Shape := ⟨[], [], []⟩
abbrev mk_impl_DataOf_125 (v0 : Int) (v1 : Int) (v2 : Int) (v3 : dA) (v4 : List Int) (v5 : List Int) : (L_impl_DataOf_125).X := (((v0, ()), ((), ()), ((), ()), ((), ()), (v1, ()), (v2, ()), ()), ((v3.1, v3.2.1.1, v3.2.1.2, v3.2.2.1, v3.2.2.2.1, v3.2.2.2.2.1, v3.2.2.2.2.2.1, v3.2.2.2.2.2.2.1, v3.2.2.2.2.2.2.2.1, v3.2.2.2.2.2.2.2.2.1, v3.2.2.2.2.2.2.2.2.2.1, v3.2.2.2.2.2.2.2.2.2.2.1, v3.2.2.2.2.2.2.2.2.2.2.2, ()), ()), (v4, v5, ()))
abbrev ms_impl_DataOf_125 (v0 : Int) (v1 : Int) (v2 : dA) (v3 : List Int) (v4 : List Int) : (S_impl_DataOf_125).X := (((v0, ()), ((), ()), ((), ()), ((), ()), (v1, ()), ((), ()), ()), ((v2.1, v2.2.1.1, v2.2.1.2, v2.2.2.1, v2.2.2.2.1, v2.2.2.2.2.1, v2.2.2.2.2.2.1, v2.2.2.2.2.2.2.1, v2.2.2.2.2.2.2.2.1, v2.2.2.2.2.2.2.2.2.1, v2.2.2.2.2.2.2.2.2.2.1, v2.2.2.2.2.2.2.2.2.2.2.1, v2.2.2.2.2.2.2.2.2.2.2.2, ()), ()), (v3, v4, ()))
abbrev mo_impl_DataOf_125 (v0 : List Int) : (O_impl_DataOf_125).X := ((((), ()), ()), (), (v0, ()))
noncomputable def st_impl_DataOf_125 (v0 : Int) (v1 : Int) (v2 : Int) (v3 : Int) (v4 : Int) (v5 : Int) (v6 : List dM) (v7 : Int) (v8 : Int) (v9 : Int) (v10 : Int) (v11 : Int) (v12 : List dW) (v13 : Int) (v14 : Bool) (v15 : Bool) (v16 : List Int) (v17 : List Int) : Option ((L_impl_DataOf_125).X ⊕ ((O_impl_DataOf_125).X ⊕ (Z_impl_DataOf_125).X)) :=
  bif (ltb v2 v1) then
    let r3 := n_impl_DiskOf (v4, v5) v0 v2
    bif (inb r3 v16.length) then
      bif (apok v17.length ([(nth v16 r3 0)] : List Int).length 8) then
        some (.inl (((v0, ()), ((), ()), ((), ()), ((), ()), (v1, ()), ((IntKind.i64.wrap (v2 + 1)), ()), ()), ((v3, v4, v5, v6, v7, v8, v9, v10, v11, v12, v13, v14, v15, ()), ()), (v16, (v17 ++ ([(nth v16 r3 0)] : List Int)), ())))
      else none
    else none
  else
    some (.inr (.inl ((((), ()), ()), (), (v17, ()))))
noncomputable def stx_impl_DataOf_125 (x : (L_impl_DataOf_125).X) := st_impl_DataOf_125 x.1.1.1 x.1.2.2.2.2.1.1 x.1.2.2.2.2.2.1.1 x.2.1.1.1 x.2.1.1.2.1 x.2.1.1.2.2.1 x.2.1.1.2.2.2.1 x.2.1.1.2.2.2.2.1 x.2.1.1.2.2.2.2.2.1 x.2.1.1.2.2.2.2.2.2.1 x.2.1.1.2.2.2.2.2.2.2.1 x.2.1.1.2.2.2.2.2.2.2.2.1 x.2.1.1.2.2.2.2.2.2.2.2.2.1 x.2.1.1.2.2.2.2.2.2.2.2.2.2.1 x.2.1.1.2.2.2.2.2.2.2.2.2.2.2.1 x.2.1.1.2.2.2.2.2.2.2.2.2.2.2.2.1 x.2.2.1 x.2.2.2.1
def em_impl_DataOf_125 (x : (S_impl_DataOf_125).X) : (L_impl_DataOf_125).X := (((x.1.1.1, ()), ((), ()), ((), ()), ((), ()), (x.1.2.2.2.2.1.1, ()), (0, ()), ()), ((x.2.1.1.1, x.2.1.1.2.1, x.2.1.1.2.2.1, x.2.1.1.2.2.2.1, x.2.1.1.2.2.2.2.1, x.2.1.1.2.2.2.2.2.1, x.2.1.1.2.2.2.2.2.2.1, x.2.1.1.2.2.2.2.2.2.2.1, x.2.1.1.2.2.2.2.2.2.2.2.1, x.2.1.1.2.2.2.2.2.2.2.2.2.1, x.2.1.1.2.2.2.2.2.2.2.2.2.2.1, x.2.1.1.2.2.2.2.2.2.2.2.2.2.2.1, x.2.1.1.2.2.2.2.2.2.2.2.2.2.2.2.1, ()), ()), (x.2.2.1, x.2.2.2.1, ()))
noncomputable def c_impl_DataOf_125 : Code := (subN B_impl_DataOf 64 500).getD .skip
theorem a_impl_DataOf_125 : subN B_impl_DataOf 64 125 = some (.block 0 (.loop c_impl_DataOf_125)) := by kernel_rfl
theorem r_impl_DataOf_125 (x : (L_impl_DataOf_125).X) : roundT ⟨E_impl_DataOf, 39, D_impl_DataOf_0⟩ 0 c_impl_DataOf_125 500 L_impl_DataOf_125 O_impl_DataOf_125 Z_impl_DataOf_125 x = stx_impl_DataOf_125 x := by kernel_rfl
noncomputable def fu_impl_DataOf_125 (x : (S_impl_DataOf_125).X) : Nat := (fun (u0 : Int) (u1 : Int) (u2 : Int) (u3 : Int) (u4 : Int) (u5 : List dM) (u6 : Int) (u7 : Int) (u8 : Int) (u9 : Int) (u10 : Int) (u11 : List dW) (u12 : Int) (u13 : Bool) (u14 : Bool) (u15 : List Int) (u16 : List Int) => 18446744073709551616) x.1.1.1 x.1.2.2.2.2.1.1 x.2.1.1.1 x.2.1.1.2.1 x.2.1.1.2.2.1 x.2.1.1.2.2.2.1 x.2.1.1.2.2.2.2.1 x.2.1.1.2.2.2.2.2.1 x.2.1.1.2.2.2.2.2.2.1 x.2.1.1.2.2.2.2.2.2.2.1 x.2.1.1.2.2.2.2.2.2.2.2.1 x.2.1.1.2.2.2.2.2.2.2.2.2.1 x.2.1.1.2.2.2.2.2.2.2.2.2.2.1 x.2.1.1.2.2.2.2.2.2.2.2.2.2.2.1 x.2.1.1.2.2.2.2.2.2.2.2.2.2.2.2.1 x.2.2.1 x.2.2.2.1
noncomputable def F_impl_DataOf_125 (x : (S_impl_DataOf_125).X) : Option ((O_impl_DataOf_125).X ⊕ (Z_impl_DataOf_125).X) := loopN stx_impl_DataOf_125 (fu_impl_DataOf_125 x) (em_impl_DataOf_125 x)
noncomputable def sg_impl_DataOf_125 : Seg := ⟨S_impl_DataOf_125, O_impl_DataOf_125, Z_impl_DataOf_125, F_impl_DataOf_125⟩
noncomputable def D_impl_DataOf_1 : Nat → Option Seg := fun q => bif Nat.beq q 125 then some sg_impl_DataOf_125 else D_impl_DataOf_0 q
theorem fr_impl_DataOf_1 : FrOk Try.prog ⟨E_impl_DataOf, 39, D_impl_DataOf_1⟩ B_impl_DataOf := (fr_impl_DataOf_0).loop (sg := sg_impl_DataOf_125) L_impl_DataOf_125 em_impl_DataOf_125 (by decide) a_impl_DataOf_125 stx_impl_DataOf_125 fu_impl_DataOf_125 (by decide) (fun _ => rfl) (fun x r _ h => h) r_impl_DataOf_125
abbrev I_impl_DataOf : List Par := [.rd tA, .rd tI]
abbrev U_impl_DataOf : List OT := [⟨false, tL, (.ow .fz)⟩, ⟨false, tB, .fz⟩]
noncomputable def raw_impl_DataOf (a0 : dA) (a1 : Int) : Option (ResD U_impl_DataOf × MutD I_impl_DataOf) :=
  let r1 := n_impl_Words a0 a1
  bif (!r1.2) then
    some (([], false, ()), ())
  else
    segM (F_impl_DataOf_125 (((a1, ()), ((), ()), ((), ()), ((), ()), ((IntKind.i64.wrap (a0.2.1.1 - 1)), ()), ((), ()), ()), ((a0.1, a0.2.1.1, a0.2.1.2, a0.2.2.1, a0.2.2.2.1, a0.2.2.2.2.1, a0.2.2.2.2.2.1, a0.2.2.2.2.2.2.1, a0.2.2.2.2.2.2.2.1, a0.2.2.2.2.2.2.2.2.1, a0.2.2.2.2.2.2.2.2.2.1, a0.2.2.2.2.2.2.2.2.2.2.1, a0.2.2.2.2.2.2.2.2.2.2.2, ()), ()), (r1.1, ([] : List Int), ()))) (fun y3 =>
      some ((y3.2.2.1, true, ()), ())) (fun y3 =>
      none)
theorem e_impl_DataOf (x : InD I_impl_DataOf) : execF ⟨E_impl_DataOf, 39, D_impl_DataOf_1⟩ Try.f61.results.toList B_impl_DataOf I_impl_DataOf U_impl_DataOf x = raw_impl_DataOf x.1 x.2.1 := by kernel_rfl
theorem ok0_impl_DataOf : ConOk Try.prog 61 ⟨I_impl_DataOf, U_impl_DataOf, fun x => raw_impl_DataOf x.1 x.2.1⟩ := conOk_exec (fr_impl_DataOf_1) Try.func61 (by kernel_rfl) (by kernel_rfl) Try.ntmps61.symm (by decide) (fun x r h => (e_impl_DataOf x).trans h)
noncomputable def n_impl_DataOf (a0 : dA) (a1 : Int) : List Int × Bool := dataOf a0 a1
theorem nn_impl_DataOf (a0 : dA) (a1 : Int) (hk : InOk I_impl_DataOf (a0, a1, ())) : raw_impl_DataOf a0 a1 = (fun n => some ((n.1, n.2, ()), ())) (n_impl_DataOf a0 a1) := by
  unfold raw_impl_DataOf n_impl_DataOf dataOf n_impl_Words
  cases hc : (arrOk a0 && (!a0.2.2.2.2.2.2.2.2.2.2.2 && strOk a0.2.1 a1))
  · rfl
  simp only [Bool.and_eq_true] at hc
  have hg := geo_iff.1 (arrOk_geo hc.1)
  have hs := hc.2.2
  unfold dataA
  simp only [cond_true]
  cases hw : (words a0 a1).2
  · rfl
  · have hL := words_len hw
    have h1 : F_impl_DataOf_125 (ms_impl_DataOf_125 a1 (a0.2.1.1 - 1) a0 (words a0 a1).1 []) = some (.inl (mo_impl_DataOf_125 ((List.range (a0.2.1.1 - 1).toNat).foldl (fun l (i : Nat) => l ++ [nth (words a0 a1).1 (diskOf a0.2.1 a1 i) 0]) []))) :=
      loopN_rng (step := stx_impl_DataOf_125) (a0.2.1.1 - 1).toNat (fun i s => mk_impl_DataOf_125 a1 (a0.2.1.1 - 1) i a0 (words a0 a1).1 s) (fun l (i : Nat) => l ++ [nth (words a0 a1).1 (diskOf a0.2.1 a1 i) 0]) (fun i s => s.length = i) (fun s => .inl (mo_impl_DataOf_125 s)) (fun i s hi hs2 => ⟨by
        have hd := disk_in hs (show (0 : Int) ≤ i by omega) (show (i : Int) ≤ a0.2.1.1 - 2 by omega)
        simp only [stx_impl_DataOf_125, mk_impl_DataOf_125, st_impl_DataOf_125, ltb_t (show (i : Int) < a0.2.1.1 - 1 by omega), cond_true, wr (show -9223372036854775808 ≤ (i : Int) + 1 by omega) (by omega), Int.natCast_add, Int.natCast_one, Int.toNat_natCast, pr_eta, n_impl_DiskOf, inb_iff.2 (show 0 ≤ diskOf a0.2.1 a1 i ∧ diskOf a0.2.1 a1 i < (words a0 a1).1.length by omega)]
        rw [apok_iff.2 (show (s.length + [nth (words a0 a1).1 (diskOf a0.2.1 a1 i) 0].length) * 8 ≤ 140737488355328 by simp only [List.length_cons, List.length_nil]; omega)]; rfl, by simp [hs2]⟩) (fun s hs2 => by simp only [stx_impl_DataOf_125, mk_impl_DataOf_125, st_impl_DataOf_125, ltb_f (show a0.2.1.1 - 1 ≤ ((a0.2.1.1 - 1).toNat : Int) by omega), cond_false]) [] rfl _ (by show _ < 18446744073709551616; omega)
    simp only [wr (show -9223372036854775808 ≤ a0.2.1.1 - 1 by omega) (by omega)]
    rw [h1, foldl_snoc]; rfl
noncomputable def con_impl_DataOf : Con := ⟨I_impl_DataOf, U_impl_DataOf, fun x => (fun n => some ((n.1, n.2, ()), ())) (n_impl_DataOf x.1 x.2.1)⟩
theorem ok_impl_DataOf : ConOk Try.prog 61 con_impl_DataOf := (ok0_impl_DataOf).mono (fun x r hk h => (nn_impl_DataOf x.1 x.2.1 hk).trans h)
end

/-! impl_dataNow -/
section
noncomputable def B_impl_dataNow : Code := (Try.f27.body).getD .skip
noncomputable def E_impl_dataNow : Env := envOf TT [(59, con_impl_entOf), (60, con_impl_copyInts), (61, con_impl_DataOf)] []
theorem fr_impl_dataNow_0 : FrOk Try.prog ⟨E_impl_dataNow, 24, fun _ => none⟩ B_impl_dataNow := frOk_base mixed tt_ok ⟨ok_impl_entOf, ok_impl_copyInts, ok_impl_DataOf, trivial⟩
noncomputable def D_impl_dataNow_0 : Nat → Option Seg := fun _ => none
abbrev I_impl_dataNow : List Par := [.rd tA, .rd tI]
abbrev U_impl_dataNow : List OT := [⟨false, tL, (.ow .fz)⟩, ⟨false, tB, .fz⟩]
noncomputable def raw_impl_dataNow (a0 : dA) (a1 : Int) : Option (ResD U_impl_dataNow × MutD I_impl_dataNow) :=
  let r1 := n_impl_entOf a0 a1
  bif (leb 0 r1) then
    bif (inb r1 a0.2.2.2.2.2.2.2.2.1.length) then
      let r2 := n_impl_copyInts ((nth a0.2.2.2.2.2.2.2.2.1 r1 (0, [])).2)
      some ((r2, true, ()), ())
    else none
  else
    let r3 := n_impl_DataOf a0 a1
    some ((r3.1, r3.2, ()), ())
theorem e_impl_dataNow (x : InD I_impl_dataNow) : execF ⟨E_impl_dataNow, 24, D_impl_dataNow_0⟩ Try.f27.results.toList B_impl_dataNow I_impl_dataNow U_impl_dataNow x = raw_impl_dataNow x.1 x.2.1 := by kernel_rfl
theorem ok0_impl_dataNow : ConOk Try.prog 27 ⟨I_impl_dataNow, U_impl_dataNow, fun x => raw_impl_dataNow x.1 x.2.1⟩ := conOk_exec (fr_impl_dataNow_0) Try.func27 (by kernel_rfl) (by kernel_rfl) Try.ntmps27.symm (by decide) (fun x r h => (e_impl_dataNow x).trans h)
noncomputable def n_impl_dataNow (a0 : dA) (a1 : Int) : List Int × Bool := bif leb 0 (entAt a0.2.2.2.2.2.2.2.2.1 a1) then ((nth a0.2.2.2.2.2.2.2.2.1 (entAt a0.2.2.2.2.2.2.2.2.1 a1) (0, [])).2, true) else dataOf a0 a1
theorem nn_impl_dataNow (a0 : dA) (a1 : Int) (hk : InOk I_impl_dataNow (a0, a1, ())) : raw_impl_dataNow a0 a1 = (fun n => some ((n.1, n.2, ()), ())) (n_impl_dataNow a0 a1) := by
  unfold raw_impl_dataNow n_impl_dataNow n_impl_entOf n_impl_DataOf n_impl_copyInts
  simp only []
  cases h : leb 0 (entAt a0.2.2.2.2.2.2.2.2.1 a1)
  · rfl
  · rw [show inb (entAt a0.2.2.2.2.2.2.2.2.1 a1) a0.2.2.2.2.2.2.2.2.1.length = true from (idxOf_in (d := ((0, []) : dW)) h).1]; rfl
theorem dataNow_eq {a : dA} {s : Int} (h : arrOk a = true) (hs : strOk a.2.1 s = true) : n_impl_dataNow a s = stripeNow a s := by
  unfold n_impl_dataNow stripeNow dataOf
  rw [h, hs]
  cases a.2.2.2.2.2.2.2.2.2.2.2 <;> rfl
noncomputable def con_impl_dataNow : Con := ⟨I_impl_dataNow, U_impl_dataNow, fun x => (fun n => some ((n.1, n.2, ()), ())) (n_impl_dataNow x.1 x.2.1)⟩
theorem ok_impl_dataNow : ConOk Try.prog 27 con_impl_dataNow := (ok0_impl_dataNow).mono (fun x r hk h => (nn_impl_dataNow x.1 x.2.1 hk).trans h)
end

/-! impl_StripeOf -/
section
noncomputable def B_impl_StripeOf : Code := (Try.f28.body).getD .skip
noncomputable def E_impl_StripeOf : Env := envOf TT [(58, con_impl_hasBlock)] []
theorem fr_impl_StripeOf_0 : FrOk Try.prog ⟨E_impl_StripeOf, 14, fun _ => none⟩ B_impl_StripeOf := frOk_base mixed tt_ok ⟨ok_impl_hasBlock, trivial⟩
noncomputable def D_impl_StripeOf_0 : Nat → Option Seg := fun _ => none
abbrev I_impl_StripeOf : List Par := [.rd tG, .rd tI]
abbrev U_impl_StripeOf : List OT := [⟨false, tI, .fz⟩]
noncomputable def raw_impl_StripeOf (a0 : dG) (a1 : Int) : Option (ResD U_impl_StripeOf × MutD I_impl_StripeOf) :=
  let r1 := n_impl_hasBlock a0 a1
  bif (!r1) then
    some (((-1), ()), ())
  else
    bif ((IntKind.i64.wrap (a0.1 - 1)) != 0) then
      some (((IntKind.i64.wrap (a1.tdiv (IntKind.i64.wrap (a0.1 - 1)))), ()), ())
    else none
theorem e_impl_StripeOf (x : InD I_impl_StripeOf) : execF ⟨E_impl_StripeOf, 14, D_impl_StripeOf_0⟩ Try.f28.results.toList B_impl_StripeOf I_impl_StripeOf U_impl_StripeOf x = raw_impl_StripeOf x.1 x.2.1 := by kernel_rfl
theorem ok0_impl_StripeOf : ConOk Try.prog 28 ⟨I_impl_StripeOf, U_impl_StripeOf, fun x => raw_impl_StripeOf x.1 x.2.1⟩ := conOk_exec (fr_impl_StripeOf_0) Try.func28 (by kernel_rfl) (by kernel_rfl) Try.ntmps28.symm (by decide) (fun x r h => (e_impl_StripeOf x).trans h)
noncomputable def n_impl_StripeOf (a0 : dG) (a1 : Int) : Int := stripeOf a0 a1
theorem nn_impl_StripeOf (a0 : dG) (a1 : Int) (hk : InOk I_impl_StripeOf (a0, a1, ())) : raw_impl_StripeOf a0 a1 = (fun n => some ((n, ()), ())) (n_impl_StripeOf a0 a1) := by
  unfold raw_impl_StripeOf n_impl_StripeOf stripeOf
  rw [impl_blk_eq]
  cases hb : blkOk a0 a1
  · rfl
  · obtain ⟨h1, h2, h3⟩ := blk_split hb
    have h4 := geo_iff.1 h1
    rw [wr (show -9223372036854775808 ≤ a0.1 - 1 by omega) (by omega), show (a0.1 - 1 != 0) = true from bne_iff_ne.2 (by omega), wr (by omega) (by omega)]; rfl
noncomputable def con_impl_StripeOf : Con := ⟨I_impl_StripeOf, U_impl_StripeOf, fun x => (fun n => some ((n, ()), ())) (n_impl_StripeOf x.1 x.2.1)⟩
theorem ok_impl_StripeOf : ConOk Try.prog 28 con_impl_StripeOf := (ok0_impl_StripeOf).mono (fun x r hk h => (nn_impl_StripeOf x.1 x.2.1 hk).trans h)
end

/-! impl_IndexOf -/
section
noncomputable def B_impl_IndexOf : Code := (Try.f29.body).getD .skip
noncomputable def E_impl_IndexOf : Env := envOf TT [(58, con_impl_hasBlock)] []
theorem fr_impl_IndexOf_0 : FrOk Try.prog ⟨E_impl_IndexOf, 14, fun _ => none⟩ B_impl_IndexOf := frOk_base mixed tt_ok ⟨ok_impl_hasBlock, trivial⟩
noncomputable def D_impl_IndexOf_0 : Nat → Option Seg := fun _ => none
abbrev I_impl_IndexOf : List Par := [.rd tG, .rd tI]
abbrev U_impl_IndexOf : List OT := [⟨false, tI, .fz⟩]
noncomputable def raw_impl_IndexOf (a0 : dG) (a1 : Int) : Option (ResD U_impl_IndexOf × MutD I_impl_IndexOf) :=
  let r1 := n_impl_hasBlock a0 a1
  bif (!r1) then
    some (((-1), ()), ())
  else
    bif ((IntKind.i64.wrap (a0.1 - 1)) != 0) then
      some (((a1.tmod (IntKind.i64.wrap (a0.1 - 1))), ()), ())
    else none
theorem e_impl_IndexOf (x : InD I_impl_IndexOf) : execF ⟨E_impl_IndexOf, 14, D_impl_IndexOf_0⟩ Try.f29.results.toList B_impl_IndexOf I_impl_IndexOf U_impl_IndexOf x = raw_impl_IndexOf x.1 x.2.1 := by kernel_rfl
theorem ok0_impl_IndexOf : ConOk Try.prog 29 ⟨I_impl_IndexOf, U_impl_IndexOf, fun x => raw_impl_IndexOf x.1 x.2.1⟩ := conOk_exec (fr_impl_IndexOf_0) Try.func29 (by kernel_rfl) (by kernel_rfl) Try.ntmps29.symm (by decide) (fun x r h => (e_impl_IndexOf x).trans h)
noncomputable def n_impl_IndexOf (a0 : dG) (a1 : Int) : Int := indexIn a0 a1
theorem nn_impl_IndexOf (a0 : dG) (a1 : Int) (hk : InOk I_impl_IndexOf (a0, a1, ())) : raw_impl_IndexOf a0 a1 = (fun n => some ((n, ()), ())) (n_impl_IndexOf a0 a1) := by
  unfold raw_impl_IndexOf n_impl_IndexOf indexIn
  rw [impl_blk_eq]
  cases hb : blkOk a0 a1
  · rfl
  · obtain ⟨h1, h2, h3⟩ := blk_split hb
    have h4 := geo_iff.1 h1
    rw [wr (show -9223372036854775808 ≤ a0.1 - 1 by omega) (by omega), show (a0.1 - 1 != 0) = true from bne_iff_ne.2 (by omega)]; rfl
noncomputable def con_impl_IndexOf : Con := ⟨I_impl_IndexOf, U_impl_IndexOf, fun x => (fun n => some ((n, ()), ())) (n_impl_IndexOf x.1 x.2.1)⟩
theorem ok_impl_IndexOf : ConOk Try.prog 29 con_impl_IndexOf := (ok0_impl_IndexOf).mono (fun x r hk h => (nn_impl_IndexOf x.1 x.2.1 hk).trans h)
end

/-! impl_GetBlock -/
section
noncomputable def B_impl_GetBlock : Code := (Try.f9.body).getD .skip
noncomputable def E_impl_GetBlock : Env := envOf TT [(26, con_impl_blockCode), (27, con_impl_dataNow), (28, con_impl_StripeOf), (29, con_impl_IndexOf)] []
theorem fr_impl_GetBlock_0 : FrOk Try.prog ⟨E_impl_GetBlock, 33, fun _ => none⟩ B_impl_GetBlock := frOk_base mixed tt_ok ⟨ok_impl_blockCode, ok_impl_dataNow, ok_impl_StripeOf, ok_impl_IndexOf, trivial⟩
noncomputable def D_impl_GetBlock_0 : Nat → Option Seg := fun _ => none
abbrev I_impl_GetBlock : List Par := [.rd tA, .rd tI]
abbrev U_impl_GetBlock : List OT := [⟨false, tI, .fz⟩, ⟨false, tI, .fz⟩]
noncomputable def raw_impl_GetBlock (a0 : dA) (a1 : Int) : Option (ResD U_impl_GetBlock × MutD I_impl_GetBlock) :=
  let r1 := n_impl_blockCode a0 a1
  bif (r1 != 0) then
    some ((0, r1, ()), ())
  else
    let r2 := n_impl_StripeOf a0.2.1 a1
    let r3 := n_impl_dataNow a0 r2
    bif (!r3.2) then
      some ((0, 5, ()), ())
    else
      let r4 := n_impl_IndexOf a0.2.1 a1
      bif (inb r4 r3.1.length) then
        some (((nth r3.1 r4 0), 0, ()), ())
      else none
theorem e_impl_GetBlock (x : InD I_impl_GetBlock) : execF ⟨E_impl_GetBlock, 33, D_impl_GetBlock_0⟩ Try.f9.results.toList B_impl_GetBlock I_impl_GetBlock U_impl_GetBlock x = raw_impl_GetBlock x.1 x.2.1 := by kernel_rfl
theorem ok0_impl_GetBlock : ConOk Try.prog 9 ⟨I_impl_GetBlock, U_impl_GetBlock, fun x => raw_impl_GetBlock x.1 x.2.1⟩ := conOk_exec (fr_impl_GetBlock_0) Try.func9 (by kernel_rfl) (by kernel_rfl) Try.ntmps9.symm (by decide) (fun x r h => (e_impl_GetBlock x).trans h)
noncomputable def n_impl_GetBlock (a0 : dA) (a1 : Int) : Int × Int := getBlock a0 a1
theorem nn_impl_GetBlock (a0 : dA) (a1 : Int) (hk : InOk I_impl_GetBlock (a0, a1, ())) : raw_impl_GetBlock a0 a1 = (fun n => some ((n.1, n.2, ()), ())) (n_impl_GetBlock a0 a1) := by
  unfold raw_impl_GetBlock n_impl_GetBlock getBlock n_impl_StripeOf n_impl_IndexOf
  simp only [impl_code_eq]
  cases hc : (blockCode a0 a1 != 0)
  · obtain ⟨h1, h2, _⟩ := code_good (bne_eq_false_iff_eq.1 hc)
    have hs := stripeOf_ok h2
    rw [dataNow_eq h1 hs]
    simp only [cond_false]
    cases hn : (stripeNow a0 (stripeOf a0.2.1 a1)).2
    · rfl
    · have hl := stripeNow_len h1 hs hn
      obtain ⟨_, _, h5⟩ := blk_split h2
      have h6 : indexIn a0.2.1 a1 = a1.tmod (a0.2.1.1 - 1) := by unfold indexIn; rw [h2]; rfl
      rw [inb_iff.2 (show 0 ≤ indexIn a0.2.1 a1 ∧ indexIn a0.2.1 a1 < (stripeNow a0 (stripeOf a0.2.1 a1)).1.length by omega)]; rfl
  · rfl
noncomputable def con_impl_GetBlock : Con := ⟨I_impl_GetBlock, U_impl_GetBlock, fun x => (fun n => some ((n.1, n.2, ()), ())) (n_impl_GetBlock x.1 x.2.1)⟩
theorem ok_impl_GetBlock : ConOk Try.prog 9 con_impl_GetBlock := (ok0_impl_GetBlock).mono (fun x r hk h => (nn_impl_GetBlock x.1 x.2.1 hk).trans h)
end

/-! laws_eqGeo -/
section
noncomputable def B_laws_eqGeo : Code := (Try.f30.body).getD .skip
noncomputable def E_laws_eqGeo : Env := envOf TT [] []
theorem fr_laws_eqGeo_0 : FrOk Try.prog ⟨E_laws_eqGeo, 15, fun _ => none⟩ B_laws_eqGeo := frOk_base mixed tt_ok trivial
noncomputable def D_laws_eqGeo_0 : Nat → Option Seg := fun _ => none
abbrev I_laws_eqGeo : List Par := [.rd tG, .rd tG]
abbrev U_laws_eqGeo : List OT := [⟨false, tB, .fz⟩]
noncomputable def raw_laws_eqGeo (a0 : dG) (a1 : dG) : Option (ResD U_laws_eqGeo × MutD I_laws_eqGeo) :=
  bif (a0.1 != a1.1) then
    some ((false, ()), ())
  else
    bif (a0.2 != a1.2) then
      some ((false, ()), ())
    else
      some ((true, ()), ())
theorem e_laws_eqGeo (x : InD I_laws_eqGeo) : execF ⟨E_laws_eqGeo, 15, D_laws_eqGeo_0⟩ Try.f30.results.toList B_laws_eqGeo I_laws_eqGeo U_laws_eqGeo x = raw_laws_eqGeo x.1 x.2.1 := by kernel_rfl
theorem ok0_laws_eqGeo : ConOk Try.prog 30 ⟨I_laws_eqGeo, U_laws_eqGeo, fun x => raw_laws_eqGeo x.1 x.2.1⟩ := conOk_exec (fr_laws_eqGeo_0) Try.func30 (by kernel_rfl) (by kernel_rfl) Try.ntmps30.symm (by decide) (fun x r h => (e_laws_eqGeo x).trans h)
noncomputable def n_laws_eqGeo (a0 : dG) (a1 : dG) : Bool :=
  bif (a0.1 != a1.1) then
    false
  else
    bif (a0.2 != a1.2) then
      false
    else
      true
noncomputable def con_laws_eqGeo : Con := ⟨I_laws_eqGeo, U_laws_eqGeo, fun x => (fun n => some ((n, ()), ())) (n_laws_eqGeo x.1 x.2.1)⟩
theorem nn_laws_eqGeo (a0 : dG) (a1 : dG) : raw_laws_eqGeo a0 a1 = (fun n => some ((n, ()), ())) (n_laws_eqGeo a0 a1) := bif_ty (p := fun (n : Bool) => ((n, ()), ())) (bif_some (p := fun (n : Bool) => ((n, ()), ())) rfl (bif_some (p := fun (n : Bool) => ((n, ()), ())) rfl rfl))
theorem ok_laws_eqGeo : ConOk Try.prog 30 con_laws_eqGeo := (ok0_laws_eqGeo).mono (fun x r _ h => (nn_laws_eqGeo x.1 x.2.1).trans h)
theorem eqd_laws_eqGeo (a b : dG) : n_laws_eqGeo a b = decide (a = b) := by
  unfold n_laws_eqGeo
  simp only [eq_step1, eq_step2, eq_step3, eq_step4, eq_step5, Prod.ext_iff, Bool.decide_and, Bool.and_true]
theorem eqr_laws_eqGeo (a : dG) : n_laws_eqGeo a a = true := by rw [eqd_laws_eqGeo]; exact decide_eq_true rfl
end
end Go.Tf
