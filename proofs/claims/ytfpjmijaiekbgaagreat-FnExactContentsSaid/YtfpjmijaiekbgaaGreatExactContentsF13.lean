/- Functions of the program, and what they come to. -/
import Derived.Test.YtfpjmijaiekbgaaGreatExactContentsF12
namespace Go.Tf
open Go.Proofs
set_option synthInstance.maxHeartbeats 400000
set_option synthInstance.maxSize 10000
set_option linter.unusedVariables false
set_option linter.unusedSimpArgs false
set_option maxRecDepth 100000
/-! impl_entOf_1 -/
section
noncomputable def B_impl_entOf_1 : Code := (Tryz.f179.body).getD .skip
noncomputable def E_impl_entOf_1 : Env := envOf TT [] []
theorem fr_impl_entOf_1_0 : FrOk Tryz.prog ⟨E_impl_entOf_1, 8, fun _ => none⟩ B_impl_entOf_1 := frOk_base mixed tt_ok trivial
noncomputable def D_impl_entOf_1_0 : Nat → Option Seg := fun _ => none
abbrev I_impl_entOf_1 : List Par := [.rd tW, .rp tI]
abbrev U_impl_entOf_1 : List OT := [⟨false, tB, .fz⟩]
noncomputable def raw_impl_entOf_1 (a0 : dW) (a1 : Int) : Option (ResD U_impl_entOf_1 × MutD I_impl_entOf_1) :=
  some (((a0.1 == a1), ()), ())
theorem e_impl_entOf_1 (x : InD I_impl_entOf_1) : execF ⟨E_impl_entOf_1, 8, D_impl_entOf_1_0⟩ Tryz.f179.results.toList B_impl_entOf_1 I_impl_entOf_1 U_impl_entOf_1 x = raw_impl_entOf_1 x.1 x.2.1 := by kernel_rfl
theorem ok0_impl_entOf_1 : ConOk Tryz.prog 179 ⟨I_impl_entOf_1, U_impl_entOf_1, fun x => raw_impl_entOf_1 x.1 x.2.1⟩ := conOk_exec (fr_impl_entOf_1_0) Tryz.func179 (by kernel_rfl) (by kernel_rfl) Tryz.ntmps179.symm (by decide) (fun x r h => (e_impl_entOf_1 x).trans h)
noncomputable def n_impl_entOf_1 (a0 : dW) (a1 : Int) : Bool :=
  (a0.1 == a1)
noncomputable def con_impl_entOf_1 : Con := ⟨I_impl_entOf_1, U_impl_entOf_1, fun x => (fun n => some ((n, ()), ())) (n_impl_entOf_1 x.1 x.2.1)⟩
theorem nn_impl_entOf_1 (a0 : dW) (a1 : Int) : raw_impl_entOf_1 a0 a1 = (fun n => some ((n, ()), ())) (n_impl_entOf_1 a0 a1) := bif_ty (p := fun (n : Bool) => ((n, ()), ())) rfl
theorem ok_impl_entOf_1 : ConOk Tryz.prog 179 con_impl_entOf_1 := (ok0_impl_entOf_1).mono (fun x r _ h => (nn_impl_entOf_1 x.1 x.2.1).trans h)
end

/-! slices_IndexFunc_Ent -/
section
noncomputable def B_slices_IndexFunc_Ent : Code := (Tryz.f178.body).getD .skip
noncomputable def E_slices_IndexFunc_Ent : Env := envOf TT [(179, con_impl_entOf_1)] []
theorem fr_slices_IndexFunc_Ent_0 : FrOk Tryz.prog ⟨E_slices_IndexFunc_Ent, 19, fun _ => none⟩ B_slices_IndexFunc_Ent := frOk_base mixed tt_ok ⟨ok_impl_entOf_1, trivial⟩
noncomputable def D_slices_IndexFunc_Ent_0 : Nat → Option Seg := fun _ => none
def L_slices_IndexFunc_Ent_13 : Shape := ⟨[(0, false, [.br tW]), (1, false, [.fx 179 tI]), (7, false, [.int .i64]), (8, false, [.int .i64])], [], []⟩
def S_slices_IndexFunc_Ent_13 : Shape := ⟨[(0, false, [.br tW]), (1, false, [.fx 179 tI]), (7, false, [.int .i64]), (8, false, [.ci .i64 0])], [], []⟩
def O_slices_IndexFunc_Ent_13 : Shape := ⟨[], [], []⟩
def Z_slices_IndexFunc_Ent_13 : Shape := ⟨[(4, false, [.int .i64])], [], []⟩
abbrev mk_slices_IndexFunc_Ent_13 (v0 : List dW) (v1 : Int) (v2 : Int) (v3 : Int) : (L_slices_IndexFunc_Ent_13).X := (((v0, ()), (v1, ()), (v2, ()), (v3, ()), ()), (), ())
abbrev ms_slices_IndexFunc_Ent_13 (v0 : List dW) (v1 : Int) (v2 : Int) : (S_slices_IndexFunc_Ent_13).X := (((v0, ()), (v1, ()), (v2, ()), ((), ()), ()), (), ())
abbrev mo_slices_IndexFunc_Ent_13  : (O_slices_IndexFunc_Ent_13).X := ((), (), ())
abbrev mz_slices_IndexFunc_Ent_13 (v0 : Int) : (Z_slices_IndexFunc_Ent_13).X := (((v0, ()), ()), (), ())
noncomputable def st_slices_IndexFunc_Ent_13 (v0 : List dW) (v1 : Int) (v2 : Int) (v3 : Int) : Option ((L_slices_IndexFunc_Ent_13).X ⊕ ((O_slices_IndexFunc_Ent_13).X ⊕ (Z_slices_IndexFunc_Ent_13).X)) :=
  bif (ltb v3 v2) then
    bif (inb v3 v0.length) then
      let r2 := n_impl_entOf_1 (nth v0 v3 (0, [])) v1
      bif r2 then
        some (.inr (.inr (((v3, ()), ()), (), ())))
      else
        some (.inl (((v0, ()), (v1, ()), (v2, ()), ((IntKind.i64.wrap (v3 + 1)), ()), ()), (), ()))
    else none
  else
    some (.inr (.inl ((), (), ())))
noncomputable def stx_slices_IndexFunc_Ent_13 (x : (L_slices_IndexFunc_Ent_13).X) := st_slices_IndexFunc_Ent_13 x.1.1.1 x.1.2.1.1 x.1.2.2.1.1 x.1.2.2.2.1.1
def em_slices_IndexFunc_Ent_13 (x : (S_slices_IndexFunc_Ent_13).X) : (L_slices_IndexFunc_Ent_13).X := (((x.1.1.1, ()), (x.1.2.1.1, ()), (x.1.2.2.1.1, ()), (0, ()), ()), (), ())
noncomputable def c_slices_IndexFunc_Ent_13 : Code := (subN B_slices_IndexFunc_Ent 64 52).getD .skip
theorem a_slices_IndexFunc_Ent_13 : subN B_slices_IndexFunc_Ent 64 13 = some (.block 0 (.loop c_slices_IndexFunc_Ent_13)) := by kernel_rfl
theorem r_slices_IndexFunc_Ent_13 (x : (L_slices_IndexFunc_Ent_13).X) : roundT ⟨E_slices_IndexFunc_Ent, 19, D_slices_IndexFunc_Ent_0⟩ 0 c_slices_IndexFunc_Ent_13 52 L_slices_IndexFunc_Ent_13 O_slices_IndexFunc_Ent_13 Z_slices_IndexFunc_Ent_13 x = stx_slices_IndexFunc_Ent_13 x := by kernel_rfl
noncomputable def fu_slices_IndexFunc_Ent_13 (x : (S_slices_IndexFunc_Ent_13).X) : Nat := (fun (u0 : List dW) (u1 : Int) (u2 : Int) => 18446744073709551616) x.1.1.1 x.1.2.1.1 x.1.2.2.1.1
noncomputable def F_slices_IndexFunc_Ent_13 (x : (S_slices_IndexFunc_Ent_13).X) : Option ((O_slices_IndexFunc_Ent_13).X ⊕ (Z_slices_IndexFunc_Ent_13).X) := loopN stx_slices_IndexFunc_Ent_13 (fu_slices_IndexFunc_Ent_13 x) (em_slices_IndexFunc_Ent_13 x)
noncomputable def sg_slices_IndexFunc_Ent_13 : Seg := ⟨S_slices_IndexFunc_Ent_13, O_slices_IndexFunc_Ent_13, Z_slices_IndexFunc_Ent_13, F_slices_IndexFunc_Ent_13⟩
noncomputable def D_slices_IndexFunc_Ent_1 : Nat → Option Seg := fun q => bif Nat.beq q 13 then some sg_slices_IndexFunc_Ent_13 else D_slices_IndexFunc_Ent_0 q
theorem fr_slices_IndexFunc_Ent_1 : FrOk Tryz.prog ⟨E_slices_IndexFunc_Ent, 19, D_slices_IndexFunc_Ent_1⟩ B_slices_IndexFunc_Ent := (fr_slices_IndexFunc_Ent_0).loop (sg := sg_slices_IndexFunc_Ent_13) L_slices_IndexFunc_Ent_13 em_slices_IndexFunc_Ent_13 (by decide) a_slices_IndexFunc_Ent_13 stx_slices_IndexFunc_Ent_13 fu_slices_IndexFunc_Ent_13 (by decide) (fun _ => rfl) (fun x r _ h => h) r_slices_IndexFunc_Ent_13
abbrev I_slices_IndexFunc_Ent : List Par := [.rd tWs, .fn 179 tI]
abbrev U_slices_IndexFunc_Ent : List OT := [⟨false, tI, .fz⟩]
noncomputable def raw_slices_IndexFunc_Ent (a0 : List dW) (a1 : Int) : Option (ResD U_slices_IndexFunc_Ent × MutD I_slices_IndexFunc_Ent) :=
  segM (F_slices_IndexFunc_Ent_13 (((a0, ()), (a1, ()), ((a0.length : Int), ()), ((), ()), ()), (), ())) (fun y2 =>
    some (((-1), ()), ())) (fun y2 =>
    some ((y2.1.1.1, ()), ()))
theorem e_slices_IndexFunc_Ent (x : InD I_slices_IndexFunc_Ent) : execF ⟨E_slices_IndexFunc_Ent, 19, D_slices_IndexFunc_Ent_1⟩ Tryz.f178.results.toList B_slices_IndexFunc_Ent I_slices_IndexFunc_Ent U_slices_IndexFunc_Ent x = raw_slices_IndexFunc_Ent x.1 x.2.1 := by kernel_rfl
theorem ok0_slices_IndexFunc_Ent : ConOk Tryz.prog 178 ⟨I_slices_IndexFunc_Ent, U_slices_IndexFunc_Ent, fun x => raw_slices_IndexFunc_Ent x.1 x.2.1⟩ := conOk_exec (fr_slices_IndexFunc_Ent_1) Tryz.func178 (by kernel_rfl) (by kernel_rfl) Tryz.ntmps178.symm (by decide) (fun x r h => (e_slices_IndexFunc_Ent x).trans h)
noncomputable def n_slices_IndexFunc_Ent (a0 : List dW) (a1 : Int) : Int := entAt a0 a1
theorem nn_slices_IndexFunc_Ent (a0 : List dW) (a1 : Int) (hk : InOk I_slices_IndexFunc_Ent (a0, a1, ())) : raw_slices_IndexFunc_Ent a0 a1 = (fun n => some ((n, ()), ())) (n_slices_IndexFunc_Ent a0 a1) := by
  have hb : a0.length * 32 ≤ 2 ^ 47 := hk.1.1
  have h1 : F_slices_IndexFunc_Ent_13 (ms_slices_IndexFunc_Ent_13 a0 a1 a0.length) = some (bif leb 0 (entAt a0 a1) then .inr (mz_slices_IndexFunc_Ent_13 (entAt a0 a1)) else .inl mo_slices_IndexFunc_Ent_13) :=
    loopN_idx (step := stx_slices_IndexFunc_Ent_13) a0 (0, []) (fun i => mk_slices_IndexFunc_Ent_13 a0 a1 a0.length i) (fun e : dW => e.1 == a1) (fun i => .inr (mz_slices_IndexFunc_Ent_13 i)) _ (fun i hi => by
      simp only [stx_slices_IndexFunc_Ent_13, mk_slices_IndexFunc_Ent_13, st_slices_IndexFunc_Ent_13, ltb_t (show (i : Int) < a0.length by omega), cond_true, wr (show -9223372036854775808 ≤ (i : Int) + 1 by omega) (by omega), Int.natCast_add, Int.natCast_one, Int.toNat_natCast, inb_nat hi, nth_nat, n_impl_entOf_1]
      cases ((a0.getD i (0, [])).1 == a1) <;> rfl) (by simp only [stx_slices_IndexFunc_Ent_13, mk_slices_IndexFunc_Ent_13, st_slices_IndexFunc_Ent_13, ltb_f (Int.le_refl _), cond_false]) _ (by show _ < 18446744073709551616; omega)
  unfold raw_slices_IndexFunc_Ent n_slices_IndexFunc_Ent
  rw [h1]
  cases h : leb 0 (entAt a0 a1)
  · rw [show entAt a0 a1 = -1 from idx_neg h]; rfl
  · rfl
noncomputable def con_slices_IndexFunc_Ent : Con := ⟨I_slices_IndexFunc_Ent, U_slices_IndexFunc_Ent, fun x => (fun n => some ((n, ()), ())) (n_slices_IndexFunc_Ent x.1 x.2.1)⟩
theorem ok_slices_IndexFunc_Ent : ConOk Tryz.prog 178 con_slices_IndexFunc_Ent := (ok0_slices_IndexFunc_Ent).mono (fun x r hk h => (nn_slices_IndexFunc_Ent x.1 x.2.1 hk).trans h)
end

/-! impl_entOf -/
section
noncomputable def B_impl_entOf : Code := (Tryz.f101.body).getD .skip
noncomputable def E_impl_entOf : Env := envOf TT [(178, con_slices_IndexFunc_Ent)] []
theorem fr_impl_entOf_0 : FrOk Tryz.prog ⟨E_impl_entOf, 9, fun _ => none⟩ B_impl_entOf := frOk_base mixed tt_ok ⟨ok_slices_IndexFunc_Ent, trivial⟩
noncomputable def D_impl_entOf_0 : Nat → Option Seg := fun _ => none
abbrev I_impl_entOf : List Par := [.rd tA, .rd tI]
abbrev U_impl_entOf : List OT := [⟨false, tI, .fz⟩]
noncomputable def raw_impl_entOf (a0 : dA) (a1 : Int) : Option (ResD U_impl_entOf × MutD I_impl_entOf) :=
  let r1 := n_slices_IndexFunc_Ent a0.2.2.2.2.2.2.2.2.1 a1
  some ((r1, ()), ())
theorem e_impl_entOf (x : InD I_impl_entOf) : execF ⟨E_impl_entOf, 9, D_impl_entOf_0⟩ Tryz.f101.results.toList B_impl_entOf I_impl_entOf U_impl_entOf x = raw_impl_entOf x.1 x.2.1 := by kernel_rfl
theorem ok0_impl_entOf : ConOk Tryz.prog 101 ⟨I_impl_entOf, U_impl_entOf, fun x => raw_impl_entOf x.1 x.2.1⟩ := conOk_exec (fr_impl_entOf_0) Tryz.func101 (by kernel_rfl) (by kernel_rfl) Tryz.ntmps101.symm (by decide) (fun x r h => (e_impl_entOf x).trans h)
noncomputable def n_impl_entOf (a0 : dA) (a1 : Int) : Int := entAt a0.2.2.2.2.2.2.2.2.1 a1
theorem nn_impl_entOf (a0 : dA) (a1 : Int) (hk : InOk I_impl_entOf (a0, a1, ())) : raw_impl_entOf a0 a1 = (fun n => some ((n, ()), ())) (n_impl_entOf a0 a1) := rfl
noncomputable def con_impl_entOf : Con := ⟨I_impl_entOf, U_impl_entOf, fun x => (fun n => some ((n, ()), ())) (n_impl_entOf x.1 x.2.1)⟩
theorem ok_impl_entOf : ConOk Tryz.prog 101 con_impl_entOf := (ok0_impl_entOf).mono (fun x r hk h => (nn_impl_entOf x.1 x.2.1 hk).trans h)
end

/-! impl_dataNow -/
section
noncomputable def B_impl_dataNow : Code := (Tryz.f95.body).getD .skip
noncomputable def E_impl_dataNow : Env := envOf TT [(48, con_impl_DataOf), (101, con_impl_entOf), (151, con_impl_copyInts)] []
theorem fr_impl_dataNow_0 : FrOk Tryz.prog ⟨E_impl_dataNow, 24, fun _ => none⟩ B_impl_dataNow := frOk_base mixed tt_ok ⟨ok_impl_DataOf, ok_impl_entOf, ok_impl_copyInts, trivial⟩
noncomputable def D_impl_dataNow_0 : Nat → Option Seg := fun _ => none
abbrev I_impl_dataNow : List Par := [.rd tA, .rd tI]
abbrev U_impl_dataNow : List OT := [⟨false, tL, (.ow .fz)⟩, ⟨false, tB, .fz⟩]
noncomputable def raw_impl_dataNow (a0 : dA) (a1 : Int) : Option (ResD U_impl_dataNow × MutD I_impl_dataNow) :=
  let r1 := n_impl_entOf a0 a1
  bif (leb 0 r1) then
    bif (inb r1 a0.2.2.2.2.2.2.2.2.1.length) then
      let r2 := n_impl_copyInts ((nth a0.2.2.2.2.2.2.2.2.1 r1 (0, [])).2)
      some ((r2, true, ()), ())
    else none
  else
    let r3 := n_impl_DataOf a0 a1
    some ((r3.1, r3.2, ()), ())
theorem e_impl_dataNow (x : InD I_impl_dataNow) : execF ⟨E_impl_dataNow, 24, D_impl_dataNow_0⟩ Tryz.f95.results.toList B_impl_dataNow I_impl_dataNow U_impl_dataNow x = raw_impl_dataNow x.1 x.2.1 := by kernel_rfl
theorem ok0_impl_dataNow : ConOk Tryz.prog 95 ⟨I_impl_dataNow, U_impl_dataNow, fun x => raw_impl_dataNow x.1 x.2.1⟩ := conOk_exec (fr_impl_dataNow_0) Tryz.func95 (by kernel_rfl) (by kernel_rfl) Tryz.ntmps95.symm (by decide) (fun x r h => (e_impl_dataNow x).trans h)
noncomputable def n_impl_dataNow (a0 : dA) (a1 : Int) : List Int × Bool := bif leb 0 (entAt a0.2.2.2.2.2.2.2.2.1 a1) then ((nth a0.2.2.2.2.2.2.2.2.1 (entAt a0.2.2.2.2.2.2.2.2.1 a1) (0, [])).2, true) else dataOf a0 a1
theorem nn_impl_dataNow (a0 : dA) (a1 : Int) (hk : InOk I_impl_dataNow (a0, a1, ())) : raw_impl_dataNow a0 a1 = (fun n => some ((n.1, n.2, ()), ())) (n_impl_dataNow a0 a1) := by
  unfold raw_impl_dataNow n_impl_dataNow n_impl_entOf n_impl_DataOf n_impl_copyInts
  simp only []
  cases h : leb 0 (entAt a0.2.2.2.2.2.2.2.2.1 a1)
  · rfl
  · rw [show inb (entAt a0.2.2.2.2.2.2.2.2.1 a1) a0.2.2.2.2.2.2.2.2.1.length = true from (idxOf_in (d := ((0, []) : dW)) h).1]; rfl
theorem dataNow_eq {a : dA} {s : Int} (h : arrOk a = true) (hs : strOk a.2.1 s = true) : n_impl_dataNow a s = stripeNow a s := by
  unfold n_impl_dataNow stripeNow dataOf
  rw [h, hs]
  cases a.2.2.2.2.2.2.2.2.2.2.2 <;> rfl
noncomputable def con_impl_dataNow : Con := ⟨I_impl_dataNow, U_impl_dataNow, fun x => (fun n => some ((n.1, n.2, ()), ())) (n_impl_dataNow x.1 x.2.1)⟩
theorem ok_impl_dataNow : ConOk Tryz.prog 95 con_impl_dataNow := (ok0_impl_dataNow).mono (fun x r hk h => (nn_impl_dataNow x.1 x.2.1 hk).trans h)
end

/-! impl_IndexOf -/
section
noncomputable def B_impl_IndexOf : Code := (Tryz.f96.body).getD .skip
noncomputable def E_impl_IndexOf : Env := envOf TT [(174, con_impl_hasBlock)] []
theorem fr_impl_IndexOf_0 : FrOk Tryz.prog ⟨E_impl_IndexOf, 14, fun _ => none⟩ B_impl_IndexOf := frOk_base mixed tt_ok ⟨ok_impl_hasBlock, trivial⟩
noncomputable def D_impl_IndexOf_0 : Nat → Option Seg := fun _ => none
abbrev I_impl_IndexOf : List Par := [.rd tG, .rd tI]
abbrev U_impl_IndexOf : List OT := [⟨false, tI, .fz⟩]
noncomputable def raw_impl_IndexOf (a0 : dG) (a1 : Int) : Option (ResD U_impl_IndexOf × MutD I_impl_IndexOf) :=
  let r1 := n_impl_hasBlock a0 a1
  bif (!r1) then
    some (((-1), ()), ())
  else
    bif ((IntKind.i64.wrap (a0.1 - 1)) != 0) then
      some (((a1.tmod (IntKind.i64.wrap (a0.1 - 1))), ()), ())
    else none
theorem e_impl_IndexOf (x : InD I_impl_IndexOf) : execF ⟨E_impl_IndexOf, 14, D_impl_IndexOf_0⟩ Tryz.f96.results.toList B_impl_IndexOf I_impl_IndexOf U_impl_IndexOf x = raw_impl_IndexOf x.1 x.2.1 := by kernel_rfl
theorem ok0_impl_IndexOf : ConOk Tryz.prog 96 ⟨I_impl_IndexOf, U_impl_IndexOf, fun x => raw_impl_IndexOf x.1 x.2.1⟩ := conOk_exec (fr_impl_IndexOf_0) Tryz.func96 (by kernel_rfl) (by kernel_rfl) Tryz.ntmps96.symm (by decide) (fun x r h => (e_impl_IndexOf x).trans h)
noncomputable def n_impl_IndexOf (a0 : dG) (a1 : Int) : Int := indexIn a0 a1
theorem nn_impl_IndexOf (a0 : dG) (a1 : Int) (hk : InOk I_impl_IndexOf (a0, a1, ())) : raw_impl_IndexOf a0 a1 = (fun n => some ((n, ()), ())) (n_impl_IndexOf a0 a1) := by
  unfold raw_impl_IndexOf n_impl_IndexOf indexIn
  rw [impl_blk_eq]
  cases hb : blkOk a0 a1
  · rfl
  · obtain ⟨h1, h2, h3⟩ := blk_split hb
    have h4 := geo_iff.1 h1
    rw [wr (show -9223372036854775808 ≤ a0.1 - 1 by omega) (by omega), show (a0.1 - 1 != 0) = true from bne_iff_ne.2 (by omega)]; rfl
noncomputable def con_impl_IndexOf : Con := ⟨I_impl_IndexOf, U_impl_IndexOf, fun x => (fun n => some ((n, ()), ())) (n_impl_IndexOf x.1 x.2.1)⟩
theorem ok_impl_IndexOf : ConOk Tryz.prog 96 con_impl_IndexOf := (ok0_impl_IndexOf).mono (fun x r hk h => (nn_impl_IndexOf x.1 x.2.1 hk).trans h)
end

/-! impl_GetBlock -/
section
noncomputable def B_impl_GetBlock : Code := (Tryz.f69.body).getD .skip
noncomputable def E_impl_GetBlock : Env := envOf TT [(92, con_impl_blockCode), (94, con_impl_StripeOf), (95, con_impl_dataNow), (96, con_impl_IndexOf)] []
theorem fr_impl_GetBlock_0 : FrOk Tryz.prog ⟨E_impl_GetBlock, 33, fun _ => none⟩ B_impl_GetBlock := frOk_base mixed tt_ok ⟨ok_impl_blockCode, ok_impl_StripeOf, ok_impl_dataNow, ok_impl_IndexOf, trivial⟩
noncomputable def D_impl_GetBlock_0 : Nat → Option Seg := fun _ => none
abbrev I_impl_GetBlock : List Par := [.rd tA, .rd tI]
abbrev U_impl_GetBlock : List OT := [⟨false, tI, .fz⟩, ⟨false, tI, .fz⟩]
noncomputable def raw_impl_GetBlock (a0 : dA) (a1 : Int) : Option (ResD U_impl_GetBlock × MutD I_impl_GetBlock) :=
  let r1 := n_impl_blockCode a0 a1
  bif (r1 != 0) then
    some ((0, r1, ()), ())
  else
    let r2 := n_impl_StripeOf a0.2.1 a1
    let r3 := n_impl_dataNow a0 r2
    bif (!r3.2) then
      some ((0, 5, ()), ())
    else
      let r4 := n_impl_IndexOf a0.2.1 a1
      bif (inb r4 r3.1.length) then
        some (((nth r3.1 r4 0), 0, ()), ())
      else none
theorem e_impl_GetBlock (x : InD I_impl_GetBlock) : execF ⟨E_impl_GetBlock, 33, D_impl_GetBlock_0⟩ Tryz.f69.results.toList B_impl_GetBlock I_impl_GetBlock U_impl_GetBlock x = raw_impl_GetBlock x.1 x.2.1 := by kernel_rfl
theorem ok0_impl_GetBlock : ConOk Tryz.prog 69 ⟨I_impl_GetBlock, U_impl_GetBlock, fun x => raw_impl_GetBlock x.1 x.2.1⟩ := conOk_exec (fr_impl_GetBlock_0) Tryz.func69 (by kernel_rfl) (by kernel_rfl) Tryz.ntmps69.symm (by decide) (fun x r h => (e_impl_GetBlock x).trans h)
noncomputable def n_impl_GetBlock (a0 : dA) (a1 : Int) : Int × Int := getBlock a0 a1
theorem nn_impl_GetBlock (a0 : dA) (a1 : Int) (hk : InOk I_impl_GetBlock (a0, a1, ())) : raw_impl_GetBlock a0 a1 = (fun n => some ((n.1, n.2, ()), ())) (n_impl_GetBlock a0 a1) := by
  unfold raw_impl_GetBlock n_impl_GetBlock getBlock n_impl_StripeOf n_impl_IndexOf
  simp only [impl_code_eq]
  cases hc : (blockCode a0 a1 != 0)
  · obtain ⟨h1, h2, _⟩ := code_good (bne_eq_false_iff_eq.1 hc)
    have hs := stripeOf_ok h2
    rw [dataNow_eq h1 hs]
    simp only [cond_false]
    cases hn : (stripeNow a0 (stripeOf a0.2.1 a1)).2
    · rfl
    · have hl := stripeNow_len h1 hs hn
      obtain ⟨_, _, h5⟩ := blk_split h2
      have h6 : indexIn a0.2.1 a1 = a1.tmod (a0.2.1.1 - 1) := by unfold indexIn; rw [h2]; rfl
      rw [inb_iff.2 (show 0 ≤ indexIn a0.2.1 a1 ∧ indexIn a0.2.1 a1 < (stripeNow a0 (stripeOf a0.2.1 a1)).1.length by omega)]; rfl
  · rfl
noncomputable def con_impl_GetBlock : Con := ⟨I_impl_GetBlock, U_impl_GetBlock, fun x => (fun n => some ((n.1, n.2, ()), ())) (n_impl_GetBlock x.1 x.2.1)⟩
theorem ok_impl_GetBlock : ConOk Tryz.prog 69 con_impl_GetBlock := (ok0_impl_GetBlock).mono (fun x r hk h => (nn_impl_GetBlock x.1 x.2.1 hk).trans h)
end
end Go.Tf
