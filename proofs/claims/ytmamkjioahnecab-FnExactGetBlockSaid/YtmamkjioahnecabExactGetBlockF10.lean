/- Functions of the program, and what they come to. -/
import Derived.Test.YtmamkjioahnecabExactGetBlockF9
namespace Go.Tf
open Go.Proofs
set_option synthInstance.maxHeartbeats 400000
set_option synthInstance.maxSize 10000
set_option linter.unusedVariables false
set_option linter.unusedSimpArgs false
set_option maxRecDepth 100000
/-! impl_Blocks -/
section
noncomputable def B_impl_Blocks : Code := (Try.f97.body).getD .skip
noncomputable def E_impl_Blocks : Env := envOf TT [(71, con_impl_GeoOk)] []
theorem fr_impl_Blocks_0 : FrOk Try.prog ⟨E_impl_Blocks, 12, fun _ => none⟩ B_impl_Blocks := frOk_base mixed tt_ok ⟨ok_impl_GeoOk, trivial⟩
noncomputable def D_impl_Blocks_0 : Nat → Option Seg := fun _ => none
abbrev I_impl_Blocks : List Par := [.rd tG]
abbrev U_impl_Blocks : List OT := [⟨false, tI, .fz⟩]
noncomputable def raw_impl_Blocks (a0 : dG) : Option (ResD U_impl_Blocks × MutD I_impl_Blocks) :=
  let r1 := n_impl_GeoOk a0
  bif (!r1) then
    some ((0, ()), ())
  else
    some (((IntKind.i64.wrap (a0.2 * (IntKind.i64.wrap (a0.1 - 1)))), ()), ())
theorem e_impl_Blocks (x : InD I_impl_Blocks) : execF ⟨E_impl_Blocks, 12, D_impl_Blocks_0⟩ Try.f97.results.toList B_impl_Blocks I_impl_Blocks U_impl_Blocks x = raw_impl_Blocks x.1 := by kernel_rfl
theorem ok0_impl_Blocks : ConOk Try.prog 97 ⟨I_impl_Blocks, U_impl_Blocks, fun x => raw_impl_Blocks x.1⟩ := conOk_exec (fr_impl_Blocks_0) Try.func97 (by kernel_rfl) (by kernel_rfl) Try.ntmps97.symm (by decide) (fun x r h => (e_impl_Blocks x).trans h)
noncomputable def n_impl_Blocks (a0 : dG) : Int :=
  let r1 := n_impl_GeoOk a0
  bif (!r1) then
    0
  else
    (IntKind.i64.wrap (a0.2 * (IntKind.i64.wrap (a0.1 - 1))))
noncomputable def con_impl_Blocks : Con := ⟨I_impl_Blocks, U_impl_Blocks, fun x => (fun n => some ((n, ()), ())) (n_impl_Blocks x.1)⟩
theorem nn_impl_Blocks (a0 : dG) : raw_impl_Blocks a0 = (fun n => some ((n, ()), ())) (n_impl_Blocks a0) := bif_ty (p := fun (n : Int) => ((n, ()), ())) (bif_some (p := fun (n : Int) => ((n, ()), ())) rfl rfl)
theorem ok_impl_Blocks : ConOk Try.prog 97 con_impl_Blocks := (ok0_impl_Blocks).mono (fun x r _ h => (nn_impl_Blocks x.1).trans h)
theorem impl_Blocks_eq (a : Int × Int) : n_impl_Blocks a = n_spec_Blocks a := by kernel_rfl
end

/-! impl_hasBlock -/
section
noncomputable def B_impl_hasBlock : Code := (Try.f58.body).getD .skip
noncomputable def E_impl_hasBlock : Env := envOf TT [(72, con_impl_within), (97, con_impl_Blocks)] []
theorem fr_impl_hasBlock_0 : FrOk Try.prog ⟨E_impl_hasBlock, 10, fun _ => none⟩ B_impl_hasBlock := frOk_base mixed tt_ok ⟨ok_impl_within, ok_impl_Blocks, trivial⟩
noncomputable def D_impl_hasBlock_0 : Nat → Option Seg := fun _ => none
abbrev I_impl_hasBlock : List Par := [.rd tG, .rd tI]
abbrev U_impl_hasBlock : List OT := [⟨false, tB, .fz⟩]
noncomputable def raw_impl_hasBlock (a0 : dG) (a1 : Int) : Option (ResD U_impl_hasBlock × MutD I_impl_hasBlock) :=
  let r1 := n_impl_Blocks a0
  let r2 := n_impl_within a1 0 (IntKind.i64.wrap (r1 - 1))
  some ((r2, ()), ())
theorem e_impl_hasBlock (x : InD I_impl_hasBlock) : execF ⟨E_impl_hasBlock, 10, D_impl_hasBlock_0⟩ Try.f58.results.toList B_impl_hasBlock I_impl_hasBlock U_impl_hasBlock x = raw_impl_hasBlock x.1 x.2.1 := by kernel_rfl
theorem ok0_impl_hasBlock : ConOk Try.prog 58 ⟨I_impl_hasBlock, U_impl_hasBlock, fun x => raw_impl_hasBlock x.1 x.2.1⟩ := conOk_exec (fr_impl_hasBlock_0) Try.func58 (by kernel_rfl) (by kernel_rfl) Try.ntmps58.symm (by decide) (fun x r h => (e_impl_hasBlock x).trans h)
noncomputable def n_impl_hasBlock (a0 : dG) (a1 : Int) : Bool :=
  let r1 := n_impl_Blocks a0
  let r2 := n_impl_within a1 0 (IntKind.i64.wrap (r1 - 1))
  r2
noncomputable def con_impl_hasBlock : Con := ⟨I_impl_hasBlock, U_impl_hasBlock, fun x => (fun n => some ((n, ()), ())) (n_impl_hasBlock x.1 x.2.1)⟩
theorem nn_impl_hasBlock (a0 : dG) (a1 : Int) : raw_impl_hasBlock a0 a1 = (fun n => some ((n, ()), ())) (n_impl_hasBlock a0 a1) := bif_ty (p := fun (n : Bool) => ((n, ()), ())) rfl
theorem ok_impl_hasBlock : ConOk Try.prog 58 con_impl_hasBlock := (ok0_impl_hasBlock).mono (fun x r _ h => (nn_impl_hasBlock x.1 x.2.1).trans h)
theorem impl_blk_eq (g : dG) (b : Int) : n_impl_hasBlock g b = blkOk g b := by
  unfold n_impl_hasBlock
  simp only [impl_Blocks_eq, impl_in_eq, blk_in]
end

/-! impl_blockCode -/
section
noncomputable def B_impl_blockCode : Code := (Try.f26.body).getD .skip
noncomputable def E_impl_blockCode : Env := envOf TT [(38, con_impl_ArrOk), (58, con_impl_hasBlock)] []
theorem fr_impl_blockCode_0 : FrOk Try.prog ⟨E_impl_blockCode, 18, fun _ => none⟩ B_impl_blockCode := frOk_base mixed tt_ok ⟨ok_impl_ArrOk, ok_impl_hasBlock, trivial⟩
noncomputable def D_impl_blockCode_0 : Nat → Option Seg := fun _ => none
abbrev I_impl_blockCode : List Par := [.rd tA, .rd tI]
abbrev U_impl_blockCode : List OT := [⟨false, tI, .fz⟩]
noncomputable def raw_impl_blockCode (a0 : dA) (a1 : Int) : Option (ResD U_impl_blockCode × MutD I_impl_blockCode) :=
  let r1 := n_impl_ArrOk a0
  bif (!r1) then
    some ((1, ()), ())
  else
    bif a0.2.2.2.2.2.2.2.2.2.2.1 then
      some ((6, ()), ())
    else
      let r2 := n_impl_hasBlock a0.2.1 a1
      bif (!r2) then
        some ((2, ()), ())
      else
        some ((0, ()), ())
theorem e_impl_blockCode (x : InD I_impl_blockCode) : execF ⟨E_impl_blockCode, 18, D_impl_blockCode_0⟩ Try.f26.results.toList B_impl_blockCode I_impl_blockCode U_impl_blockCode x = raw_impl_blockCode x.1 x.2.1 := by kernel_rfl
theorem ok0_impl_blockCode : ConOk Try.prog 26 ⟨I_impl_blockCode, U_impl_blockCode, fun x => raw_impl_blockCode x.1 x.2.1⟩ := conOk_exec (fr_impl_blockCode_0) Try.func26 (by kernel_rfl) (by kernel_rfl) Try.ntmps26.symm (by decide) (fun x r h => (e_impl_blockCode x).trans h)
noncomputable def n_impl_blockCode (a0 : dA) (a1 : Int) : Int :=
  let r1 := n_impl_ArrOk a0
  bif (!r1) then
    1
  else
    bif a0.2.2.2.2.2.2.2.2.2.2.1 then
      6
    else
      let r2 := n_impl_hasBlock a0.2.1 a1
      bif (!r2) then
        2
      else
        0
noncomputable def con_impl_blockCode : Con := ⟨I_impl_blockCode, U_impl_blockCode, fun x => (fun n => some ((n, ()), ())) (n_impl_blockCode x.1 x.2.1)⟩
theorem nn_impl_blockCode (a0 : dA) (a1 : Int) : raw_impl_blockCode a0 a1 = (fun n => some ((n, ()), ())) (n_impl_blockCode a0 a1) := bif_ty (p := fun (n : Int) => ((n, ()), ())) (bif_some (p := fun (n : Int) => ((n, ()), ())) rfl (bif_some (p := fun (n : Int) => ((n, ()), ())) rfl (bif_some (p := fun (n : Int) => ((n, ()), ())) rfl rfl)))
theorem ok_impl_blockCode : ConOk Try.prog 26 con_impl_blockCode := (ok0_impl_blockCode).mono (fun x r _ h => (nn_impl_blockCode x.1 x.2.1).trans h)
theorem impl_code_eq (a : dA) (b : Int) : n_impl_blockCode a b = blockCode a b := by
  unfold n_impl_blockCode blockCode n_impl_ArrOk
  simp only [impl_blk_eq]
  cases arrOk a <;> cases a.2.2.2.2.2.2.2.2.2.2.1 <;> cases blkOk a.2.1 b <;> rfl
end

/-! impl_entOf_1 -/
section
noncomputable def B_impl_entOf_1 : Code := (Try.f99.body).getD .skip
noncomputable def E_impl_entOf_1 : Env := envOf TT [] []
theorem fr_impl_entOf_1_0 : FrOk Try.prog ⟨E_impl_entOf_1, 8, fun _ => none⟩ B_impl_entOf_1 := frOk_base mixed tt_ok trivial
noncomputable def D_impl_entOf_1_0 : Nat → Option Seg := fun _ => none
abbrev I_impl_entOf_1 : List Par := [.rd tW, .rp tI]
abbrev U_impl_entOf_1 : List OT := [⟨false, tB, .fz⟩]
noncomputable def raw_impl_entOf_1 (a0 : dW) (a1 : Int) : Option (ResD U_impl_entOf_1 × MutD I_impl_entOf_1) :=
  some (((a0.1 == a1), ()), ())
theorem e_impl_entOf_1 (x : InD I_impl_entOf_1) : execF ⟨E_impl_entOf_1, 8, D_impl_entOf_1_0⟩ Try.f99.results.toList B_impl_entOf_1 I_impl_entOf_1 U_impl_entOf_1 x = raw_impl_entOf_1 x.1 x.2.1 := by kernel_rfl
theorem ok0_impl_entOf_1 : ConOk Try.prog 99 ⟨I_impl_entOf_1, U_impl_entOf_1, fun x => raw_impl_entOf_1 x.1 x.2.1⟩ := conOk_exec (fr_impl_entOf_1_0) Try.func99 (by kernel_rfl) (by kernel_rfl) Try.ntmps99.symm (by decide) (fun x r h => (e_impl_entOf_1 x).trans h)
noncomputable def n_impl_entOf_1 (a0 : dW) (a1 : Int) : Bool :=
  (a0.1 == a1)
noncomputable def con_impl_entOf_1 : Con := ⟨I_impl_entOf_1, U_impl_entOf_1, fun x => (fun n => some ((n, ()), ())) (n_impl_entOf_1 x.1 x.2.1)⟩
theorem nn_impl_entOf_1 (a0 : dW) (a1 : Int) : raw_impl_entOf_1 a0 a1 = (fun n => some ((n, ()), ())) (n_impl_entOf_1 a0 a1) := bif_ty (p := fun (n : Bool) => ((n, ()), ())) rfl
theorem ok_impl_entOf_1 : ConOk Try.prog 99 con_impl_entOf_1 := (ok0_impl_entOf_1).mono (fun x r _ h => (nn_impl_entOf_1 x.1 x.2.1).trans h)
end

/-! slices_IndexFunc_Ent -/
section
noncomputable def B_slices_IndexFunc_Ent : Code := (Try.f98.body).getD .skip
noncomputable def E_slices_IndexFunc_Ent : Env := envOf TT [(99, con_impl_entOf_1)] []
theorem fr_slices_IndexFunc_Ent_0 : FrOk Try.prog ⟨E_slices_IndexFunc_Ent, 19, fun _ => none⟩ B_slices_IndexFunc_Ent := frOk_base mixed tt_ok ⟨ok_impl_entOf_1, trivial⟩
noncomputable def D_slices_IndexFunc_Ent_0 : Nat → Option Seg := fun _ => none
def L_slices_IndexFunc_Ent_13 : Shape := ⟨[(0, false, [.br tW]), (1, false, [.fx 99 tI]), (7, false, [.int .i64]), (8, false, [.int .i64])], [], []⟩
def S_slices_IndexFunc_Ent_13 : Shape := ⟨[(0, false, [.br tW]), (1, false, [.fx 99 tI]), (7, false, [.int .i64]), (8, false, [.ci .i64 0])], [], []⟩
def O_slices_IndexFunc_Ent_13 : Shape := ⟨[], [], []⟩
def Z_slices_IndexFunc_Ent_13 : Shape := ⟨[(4, false, [.int .i64])], [], []⟩
abbrev mk_slices_IndexFunc_Ent_13 (v0 : List dW) (v1 : Int) (v2 : Int) (v3 : Int) : (L_slices_IndexFunc_Ent_13).X := (((v0, ()), (v1, ()), (v2, ()), (v3, ()), ()), (), ())
abbrev ms_slices_IndexFunc_Ent_13 (v0 : List dW) (v1 : Int) (v2 : Int) : (S_slices_IndexFunc_Ent_13).X := (((v0, ()), (v1, ()), (v2, ()), ((), ()), ()), (), ())
abbrev mo_slices_IndexFunc_Ent_13  : (O_slices_IndexFunc_Ent_13).X := ((), (), ())
abbrev mz_slices_IndexFunc_Ent_13 (v0 : Int) : (Z_slices_IndexFunc_Ent_13).X := (((v0, ()), ()), (), ())
noncomputable def st_slices_IndexFunc_Ent_13 (v0 : List dW) (v1 : Int) (v2 : Int) (v3 : Int) : Option ((L_slices_IndexFunc_Ent_13).X ⊕ ((O_slices_IndexFunc_Ent_13).X ⊕ (Z_slices_IndexFunc_Ent_13).X)) :=
  bif (ltb v3 v2) then
    bif (inb v3 v0.length) then
      let r2 := n_impl_entOf_1 (nth v0 v3 (0, [])) v1
      bif r2 then
        some (.inr (.inr (((v3, ()), ()), (), ())))
      else
        some (.inl (((v0, ()), (v1, ()), (v2, ()), ((IntKind.i64.wrap (v3 + 1)), ()), ()), (), ()))
    else none
  else
    some (.inr (.inl ((), (), ())))
noncomputable def stx_slices_IndexFunc_Ent_13 (x : (L_slices_IndexFunc_Ent_13).X) := st_slices_IndexFunc_Ent_13 x.1.1.1 x.1.2.1.1 x.1.2.2.1.1 x.1.2.2.2.1.1
def em_slices_IndexFunc_Ent_13 (x : (S_slices_IndexFunc_Ent_13).X) : (L_slices_IndexFunc_Ent_13).X := (((x.1.1.1, ()), (x.1.2.1.1, ()), (x.1.2.2.1.1, ()), (0, ()), ()), (), ())
noncomputable def c_slices_IndexFunc_Ent_13 : Code := (subN B_slices_IndexFunc_Ent 64 52).getD .skip
theorem a_slices_IndexFunc_Ent_13 : subN B_slices_IndexFunc_Ent 64 13 = some (.block 0 (.loop c_slices_IndexFunc_Ent_13)) := by kernel_rfl
theorem r_slices_IndexFunc_Ent_13 (x : (L_slices_IndexFunc_Ent_13).X) : roundT ⟨E_slices_IndexFunc_Ent, 19, D_slices_IndexFunc_Ent_0⟩ 0 c_slices_IndexFunc_Ent_13 52 L_slices_IndexFunc_Ent_13 O_slices_IndexFunc_Ent_13 Z_slices_IndexFunc_Ent_13 x = stx_slices_IndexFunc_Ent_13 x := by kernel_rfl
noncomputable def fu_slices_IndexFunc_Ent_13 (x : (S_slices_IndexFunc_Ent_13).X) : Nat := (fun (u0 : List dW) (u1 : Int) (u2 : Int) => 18446744073709551616) x.1.1.1 x.1.2.1.1 x.1.2.2.1.1
noncomputable def F_slices_IndexFunc_Ent_13 (x : (S_slices_IndexFunc_Ent_13).X) : Option ((O_slices_IndexFunc_Ent_13).X ⊕ (Z_slices_IndexFunc_Ent_13).X) := loopN stx_slices_IndexFunc_Ent_13 (fu_slices_IndexFunc_Ent_13 x) (em_slices_IndexFunc_Ent_13 x)
noncomputable def sg_slices_IndexFunc_Ent_13 : Seg := ⟨S_slices_IndexFunc_Ent_13, O_slices_IndexFunc_Ent_13, Z_slices_IndexFunc_Ent_13, F_slices_IndexFunc_Ent_13⟩
noncomputable def D_slices_IndexFunc_Ent_1 : Nat → Option Seg := fun q => bif Nat.beq q 13 then some sg_slices_IndexFunc_Ent_13 else D_slices_IndexFunc_Ent_0 q
theorem fr_slices_IndexFunc_Ent_1 : FrOk Try.prog ⟨E_slices_IndexFunc_Ent, 19, D_slices_IndexFunc_Ent_1⟩ B_slices_IndexFunc_Ent := (fr_slices_IndexFunc_Ent_0).loop (sg := sg_slices_IndexFunc_Ent_13) L_slices_IndexFunc_Ent_13 em_slices_IndexFunc_Ent_13 (by decide) a_slices_IndexFunc_Ent_13 stx_slices_IndexFunc_Ent_13 fu_slices_IndexFunc_Ent_13 (by decide) (fun _ => rfl) (fun x r _ h => h) r_slices_IndexFunc_Ent_13
abbrev I_slices_IndexFunc_Ent : List Par := [.rd tWs, .fn 99 tI]
abbrev U_slices_IndexFunc_Ent : List OT := [⟨false, tI, .fz⟩]
noncomputable def raw_slices_IndexFunc_Ent (a0 : List dW) (a1 : Int) : Option (ResD U_slices_IndexFunc_Ent × MutD I_slices_IndexFunc_Ent) :=
  segM (F_slices_IndexFunc_Ent_13 (((a0, ()), (a1, ()), ((a0.length : Int), ()), ((), ()), ()), (), ())) (fun y2 =>
    some (((-1), ()), ())) (fun y2 =>
    some ((y2.1.1.1, ()), ()))
theorem e_slices_IndexFunc_Ent (x : InD I_slices_IndexFunc_Ent) : execF ⟨E_slices_IndexFunc_Ent, 19, D_slices_IndexFunc_Ent_1⟩ Try.f98.results.toList B_slices_IndexFunc_Ent I_slices_IndexFunc_Ent U_slices_IndexFunc_Ent x = raw_slices_IndexFunc_Ent x.1 x.2.1 := by kernel_rfl
theorem ok0_slices_IndexFunc_Ent : ConOk Try.prog 98 ⟨I_slices_IndexFunc_Ent, U_slices_IndexFunc_Ent, fun x => raw_slices_IndexFunc_Ent x.1 x.2.1⟩ := conOk_exec (fr_slices_IndexFunc_Ent_1) Try.func98 (by kernel_rfl) (by kernel_rfl) Try.ntmps98.symm (by decide) (fun x r h => (e_slices_IndexFunc_Ent x).trans h)
noncomputable def n_slices_IndexFunc_Ent (a0 : List dW) (a1 : Int) : Int := entAt a0 a1
theorem nn_slices_IndexFunc_Ent (a0 : List dW) (a1 : Int) (hk : InOk I_slices_IndexFunc_Ent (a0, a1, ())) : raw_slices_IndexFunc_Ent a0 a1 = (fun n => some ((n, ()), ())) (n_slices_IndexFunc_Ent a0 a1) := by
  have hb : a0.length * 32 ≤ 2 ^ 47 := hk.1.1
  have h1 : F_slices_IndexFunc_Ent_13 (ms_slices_IndexFunc_Ent_13 a0 a1 a0.length) = some (bif leb 0 (entAt a0 a1) then .inr (mz_slices_IndexFunc_Ent_13 (entAt a0 a1)) else .inl mo_slices_IndexFunc_Ent_13) :=
    loopN_idx (step := stx_slices_IndexFunc_Ent_13) a0 (0, []) (fun i => mk_slices_IndexFunc_Ent_13 a0 a1 a0.length i) (fun e : dW => e.1 == a1) (fun i => .inr (mz_slices_IndexFunc_Ent_13 i)) _ (fun i hi => by
      simp only [stx_slices_IndexFunc_Ent_13, mk_slices_IndexFunc_Ent_13, st_slices_IndexFunc_Ent_13, ltb_t (show (i : Int) < a0.length by omega), cond_true, wr (show -9223372036854775808 ≤ (i : Int) + 1 by omega) (by omega), Int.natCast_add, Int.natCast_one, Int.toNat_natCast, inb_nat hi, nth_nat, n_impl_entOf_1]
      cases ((a0.getD i (0, [])).1 == a1) <;> rfl) (by simp only [stx_slices_IndexFunc_Ent_13, mk_slices_IndexFunc_Ent_13, st_slices_IndexFunc_Ent_13, ltb_f (Int.le_refl _), cond_false]) _ (by show _ < 18446744073709551616; omega)
  unfold raw_slices_IndexFunc_Ent n_slices_IndexFunc_Ent
  rw [h1]
  cases h : leb 0 (entAt a0 a1)
  · rw [show entAt a0 a1 = -1 from idx_neg h]; rfl
  · rfl
noncomputable def con_slices_IndexFunc_Ent : Con := ⟨I_slices_IndexFunc_Ent, U_slices_IndexFunc_Ent, fun x => (fun n => some ((n, ()), ())) (n_slices_IndexFunc_Ent x.1 x.2.1)⟩
theorem ok_slices_IndexFunc_Ent : ConOk Try.prog 98 con_slices_IndexFunc_Ent := (ok0_slices_IndexFunc_Ent).mono (fun x r hk h => (nn_slices_IndexFunc_Ent x.1 x.2.1 hk).trans h)
end

/-! impl_entOf -/
section
noncomputable def B_impl_entOf : Code := (Try.f59.body).getD .skip
noncomputable def E_impl_entOf : Env := envOf TT [(98, con_slices_IndexFunc_Ent)] []
theorem fr_impl_entOf_0 : FrOk Try.prog ⟨E_impl_entOf, 9, fun _ => none⟩ B_impl_entOf := frOk_base mixed tt_ok ⟨ok_slices_IndexFunc_Ent, trivial⟩
noncomputable def D_impl_entOf_0 : Nat → Option Seg := fun _ => none
abbrev I_impl_entOf : List Par := [.rd tA, .rd tI]
abbrev U_impl_entOf : List OT := [⟨false, tI, .fz⟩]
noncomputable def raw_impl_entOf (a0 : dA) (a1 : Int) : Option (ResD U_impl_entOf × MutD I_impl_entOf) :=
  let r1 := n_slices_IndexFunc_Ent a0.2.2.2.2.2.2.2.2.1 a1
  some ((r1, ()), ())
theorem e_impl_entOf (x : InD I_impl_entOf) : execF ⟨E_impl_entOf, 9, D_impl_entOf_0⟩ Try.f59.results.toList B_impl_entOf I_impl_entOf U_impl_entOf x = raw_impl_entOf x.1 x.2.1 := by kernel_rfl
theorem ok0_impl_entOf : ConOk Try.prog 59 ⟨I_impl_entOf, U_impl_entOf, fun x => raw_impl_entOf x.1 x.2.1⟩ := conOk_exec (fr_impl_entOf_0) Try.func59 (by kernel_rfl) (by kernel_rfl) Try.ntmps59.symm (by decide) (fun x r h => (e_impl_entOf x).trans h)
noncomputable def n_impl_entOf (a0 : dA) (a1 : Int) : Int := entAt a0.2.2.2.2.2.2.2.2.1 a1
theorem nn_impl_entOf (a0 : dA) (a1 : Int) (hk : InOk I_impl_entOf (a0, a1, ())) : raw_impl_entOf a0 a1 = (fun n => some ((n, ()), ())) (n_impl_entOf a0 a1) := rfl
noncomputable def con_impl_entOf : Con := ⟨I_impl_entOf, U_impl_entOf, fun x => (fun n => some ((n, ()), ())) (n_impl_entOf x.1 x.2.1)⟩
theorem ok_impl_entOf : ConOk Try.prog 59 con_impl_entOf := (ok0_impl_entOf).mono (fun x r hk h => (nn_impl_entOf x.1 x.2.1 hk).trans h)
end
end Go.Tf
