/- Functions of the program, and what they come to. -/
import Derived.Test.YtfpjmijaiekbgaaGreatExactContentsF5
namespace Go.Tf
open Go.Proofs
set_option synthInstance.maxHeartbeats 400000
set_option synthInstance.maxSize 10000
set_option linter.unusedVariables false
set_option linter.unusedSimpArgs false
set_option maxRecDepth 100000
/-! spec_GetBlock -/
section
noncomputable def B_spec_GetBlock : Code := (Tryz.f65.body).getD .skip
noncomputable def E_spec_GetBlock : Env := envOf TT [(89, con_spec_l8Code), (142, con_spec_l8Stripe), (143, con_spec_StripeOf), (144, con_spec_IndexOf)] []
theorem fr_spec_GetBlock_0 : FrOk Tryz.prog ⟨E_spec_GetBlock, 33, fun _ => none⟩ B_spec_GetBlock := frOk_base mixed tt_ok ⟨ok_spec_l8Code, ok_spec_l8Stripe, ok_spec_StripeOf, ok_spec_IndexOf, trivial⟩
noncomputable def D_spec_GetBlock_0 : Nat → Option Seg := fun _ => none
abbrev I_spec_GetBlock : List Par := [.rd tA, .rd tI]
abbrev U_spec_GetBlock : List OT := [⟨false, tI, .fz⟩, ⟨false, tI, .fz⟩]
noncomputable def raw_spec_GetBlock (a0 : dA) (a1 : Int) : Option (ResD U_spec_GetBlock × MutD I_spec_GetBlock) :=
  let r1 := n_spec_l8Code a0 a1
  bif (r1 != 0) then
    some ((0, r1, ()), ())
  else
    let r2 := n_spec_StripeOf a0.2.1 a1
    bnd (o_spec_l8Stripe a0 r2) fun r3 =>
    bif (!r3.1.2.1) then
      some ((0, 5, ()), ())
    else
      let r4 := n_spec_IndexOf a0.2.1 a1
      bif (inb r4 r3.1.1.length) then
        some (((nth r3.1.1 r4 0), 0, ()), ())
      else none
theorem e_spec_GetBlock (x : InD I_spec_GetBlock) : execF ⟨E_spec_GetBlock, 33, D_spec_GetBlock_0⟩ Tryz.f65.results.toList B_spec_GetBlock I_spec_GetBlock U_spec_GetBlock x = raw_spec_GetBlock x.1 x.2.1 := by kernel_rfl
theorem ok0_spec_GetBlock : ConOk Tryz.prog 65 ⟨I_spec_GetBlock, U_spec_GetBlock, fun x => raw_spec_GetBlock x.1 x.2.1⟩ := conOk_exec (fr_spec_GetBlock_0) Tryz.func65 (by kernel_rfl) (by kernel_rfl) Tryz.ntmps65.symm (by decide) (fun x r h => (e_spec_GetBlock x).trans h)
noncomputable def n_spec_GetBlock (a0 : dA) (a1 : Int) : Int × Int := getBlock a0 a1
theorem nn_spec_GetBlock (a0 : dA) (a1 : Int) (hk : InOk I_spec_GetBlock (a0, a1, ())) : raw_spec_GetBlock a0 a1 = (fun n => some ((n.1, n.2, ()), ())) (n_spec_GetBlock a0 a1) := by
  unfold raw_spec_GetBlock n_spec_GetBlock getBlock n_spec_StripeOf n_spec_IndexOf
  simp only [spec_code_eq]
  cases hc : (blockCode a0 a1 != 0)
  · obtain ⟨h1, h2, _⟩ := code_good (bne_eq_false_iff_eq.1 hc)
    have hs := stripeOf_ok h2
    rw [ot_spec_l8Stripe a0 (stripeOf a0.2.1 a1) hs]
    simp only [bnd_some, cond_false, n_spec_l8Stripe]
    cases hn : (stripeNow a0 (stripeOf a0.2.1 a1)).2
    · rfl
    · have hl := stripeNow_len h1 hs hn
      obtain ⟨_, _, h5⟩ := blk_split h2
      have h6 : indexIn a0.2.1 a1 = a1.tmod (a0.2.1.1 - 1) := by unfold indexIn; rw [h2]; rfl
      rw [inb_iff.2 (show 0 ≤ indexIn a0.2.1 a1 ∧ indexIn a0.2.1 a1 < (stripeNow a0 (stripeOf a0.2.1 a1)).1.length by omega)]; rfl
  · rfl
noncomputable def con_spec_GetBlock : Con := ⟨I_spec_GetBlock, U_spec_GetBlock, fun x => (fun n => some ((n.1, n.2, ()), ())) (n_spec_GetBlock x.1 x.2.1)⟩
theorem ok_spec_GetBlock : ConOk Tryz.prog 65 con_spec_GetBlock := (ok0_spec_GetBlock).mono (fun x r hk h => (nn_spec_GetBlock x.1 x.2.1 hk).trans h)
end

/-! spec_Contents -/
section
noncomputable def B_spec_Contents : Code := (Tryz.f14.body).getD .skip
noncomputable def E_spec_Contents : Env := envOf TT [(64, con_spec_Blocks), (65, con_spec_GetBlock)] []
theorem fr_spec_Contents_0 : FrOk Tryz.prog ⟨E_spec_Contents, 29, fun _ => none⟩ B_spec_Contents := frOk_base mixed tt_ok ⟨ok_spec_Blocks, ok_spec_GetBlock, trivial⟩
noncomputable def D_spec_Contents_0 : Nat → Option Seg := fun _ => none
def L_spec_Contents_29 : Shape := ⟨[(1, false, [.ptr 0 0]), (3, false, [.at 800000000]), (4, false, [.int .i64])], [(0, [.int .i64, .int .i64, .int .i64, .br tM, .int .i64, .int .i64, .int .i64, .int .i64, .int .i64, .br tW, .int .i64, .bool, .bool])], [(800000000, tI, .fz)]⟩
def S_spec_Contents_29 : Shape := ⟨[(1, false, [.ptr 0 0]), (3, false, [.at 800000000]), (4, false, [.ci .i64 0])], [(0, [.int .i64, .int .i64, .int .i64, .br tM, .int .i64, .int .i64, .int .i64, .int .i64, .int .i64, .br tW, .int .i64, .bool, .bool])], [(800000000, tI, .fz)]⟩
def O_spec_Contents_29 : Shape := ⟨[(3, false, [.at 800000000])], [], [(800000000, tI, .fz)]⟩
def Z_spec_Contents_29 : Shape := ⟨[(2, false, [.at 800000000])], [], [(800000000, tI, .fz)]⟩
abbrev mk_spec_Contents_29 (v0 : Int) (v1 : dA) (v2 : List Int) : (L_spec_Contents_29).X := ((((), ()), ((), ()), (v0, ()), ()), ((v1.1, v1.2.1.1, v1.2.1.2, v1.2.2.1, v1.2.2.2.1, v1.2.2.2.2.1, v1.2.2.2.2.2.1, v1.2.2.2.2.2.2.1, v1.2.2.2.2.2.2.2.1, v1.2.2.2.2.2.2.2.2.1, v1.2.2.2.2.2.2.2.2.2.1, v1.2.2.2.2.2.2.2.2.2.2.1, v1.2.2.2.2.2.2.2.2.2.2.2, ()), ()), (v2, ()))
abbrev ms_spec_Contents_29 (v0 : dA) (v1 : List Int) : (S_spec_Contents_29).X := ((((), ()), ((), ()), ((), ()), ()), ((v0.1, v0.2.1.1, v0.2.1.2, v0.2.2.1, v0.2.2.2.1, v0.2.2.2.2.1, v0.2.2.2.2.2.1, v0.2.2.2.2.2.2.1, v0.2.2.2.2.2.2.2.1, v0.2.2.2.2.2.2.2.2.1, v0.2.2.2.2.2.2.2.2.2.1, v0.2.2.2.2.2.2.2.2.2.2.1, v0.2.2.2.2.2.2.2.2.2.2.2, ()), ()), (v1, ()))
abbrev mo_spec_Contents_29 (v0 : List Int) : (O_spec_Contents_29).X := ((((), ()), ()), (), (v0, ()))
abbrev mz_spec_Contents_29 (v0 : List Int) : (Z_spec_Contents_29).X := ((((), ()), ()), (), (v0, ()))
noncomputable def st_spec_Contents_29 (v0 : Int) (v1 : Int) (v2 : Int) (v3 : Int) (v4 : List dM) (v5 : Int) (v6 : Int) (v7 : Int) (v8 : Int) (v9 : Int) (v10 : List dW) (v11 : Int) (v12 : Bool) (v13 : Bool) (v14 : List Int) : Option ((L_spec_Contents_29).X ⊕ ((O_spec_Contents_29).X ⊕ (Z_spec_Contents_29).X)) :=
  let r3 := n_spec_Blocks (v2, v3)
  bif (ltb v0 r3) then
    let r4 := n_spec_GetBlock (v1, (v2, v3), v4, v5, v6, v7, v8, v9, v10, v11, v12, v13) v0
    bif (r4.2 != 0) then
      some (.inr (.inr ((((), ()), ()), (), (([] : List Int), ()))))
    else
      bif (apok v14.length ([r4.1] : List Int).length 8) then
        some (.inl ((((), ()), ((), ()), ((IntKind.i64.wrap (v0 + 1)), ()), ()), ((v1, v2, v3, v4, v5, v6, v7, v8, v9, v10, v11, v12, v13, ()), ()), ((v14 ++ ([r4.1] : List Int)), ())))
      else none
  else
    some (.inr (.inl ((((), ()), ()), (), (v14, ()))))
noncomputable def stx_spec_Contents_29 (x : (L_spec_Contents_29).X) := st_spec_Contents_29 x.1.2.2.1.1 x.2.1.1.1 x.2.1.1.2.1 x.2.1.1.2.2.1 x.2.1.1.2.2.2.1 x.2.1.1.2.2.2.2.1 x.2.1.1.2.2.2.2.2.1 x.2.1.1.2.2.2.2.2.2.1 x.2.1.1.2.2.2.2.2.2.2.1 x.2.1.1.2.2.2.2.2.2.2.2.1 x.2.1.1.2.2.2.2.2.2.2.2.2.1 x.2.1.1.2.2.2.2.2.2.2.2.2.2.1 x.2.1.1.2.2.2.2.2.2.2.2.2.2.2.1 x.2.1.1.2.2.2.2.2.2.2.2.2.2.2.2.1 x.2.2.1
def em_spec_Contents_29 (x : (S_spec_Contents_29).X) : (L_spec_Contents_29).X := ((((), ()), ((), ()), (0, ()), ()), ((x.2.1.1.1, x.2.1.1.2.1, x.2.1.1.2.2.1, x.2.1.1.2.2.2.1, x.2.1.1.2.2.2.2.1, x.2.1.1.2.2.2.2.2.1, x.2.1.1.2.2.2.2.2.2.1, x.2.1.1.2.2.2.2.2.2.2.1, x.2.1.1.2.2.2.2.2.2.2.2.1, x.2.1.1.2.2.2.2.2.2.2.2.2.1, x.2.1.1.2.2.2.2.2.2.2.2.2.2.1, x.2.1.1.2.2.2.2.2.2.2.2.2.2.2.1, x.2.1.1.2.2.2.2.2.2.2.2.2.2.2.2.1, ()), ()), (x.2.2.1, ()))
noncomputable def c_spec_Contents_29 : Code := (subN B_spec_Contents 64 116).getD .skip
theorem a_spec_Contents_29 : subN B_spec_Contents 64 29 = some (.block 0 (.loop c_spec_Contents_29)) := by kernel_rfl
theorem r_spec_Contents_29 (x : (L_spec_Contents_29).X) : roundT ⟨E_spec_Contents, 29, D_spec_Contents_0⟩ 0 c_spec_Contents_29 116 L_spec_Contents_29 O_spec_Contents_29 Z_spec_Contents_29 x = stx_spec_Contents_29 x := by kernel_rfl
noncomputable def fu_spec_Contents_29 (x : (S_spec_Contents_29).X) : Nat := (fun (u0 : Int) (u1 : Int) (u2 : Int) (u3 : List dM) (u4 : Int) (u5 : Int) (u6 : Int) (u7 : Int) (u8 : Int) (u9 : List dW) (u10 : Int) (u11 : Bool) (u12 : Bool) (u13 : List Int) => 18446744073709551616) x.2.1.1.1 x.2.1.1.2.1 x.2.1.1.2.2.1 x.2.1.1.2.2.2.1 x.2.1.1.2.2.2.2.1 x.2.1.1.2.2.2.2.2.1 x.2.1.1.2.2.2.2.2.2.1 x.2.1.1.2.2.2.2.2.2.2.1 x.2.1.1.2.2.2.2.2.2.2.2.1 x.2.1.1.2.2.2.2.2.2.2.2.2.1 x.2.1.1.2.2.2.2.2.2.2.2.2.2.1 x.2.1.1.2.2.2.2.2.2.2.2.2.2.2.1 x.2.1.1.2.2.2.2.2.2.2.2.2.2.2.2.1 x.2.2.1
noncomputable def F_spec_Contents_29 (x : (S_spec_Contents_29).X) : Option ((O_spec_Contents_29).X ⊕ (Z_spec_Contents_29).X) := loopN stx_spec_Contents_29 (fu_spec_Contents_29 x) (em_spec_Contents_29 x)
noncomputable def sg_spec_Contents_29 : Seg := ⟨S_spec_Contents_29, O_spec_Contents_29, Z_spec_Contents_29, F_spec_Contents_29⟩
noncomputable def D_spec_Contents_1 : Nat → Option Seg := fun q => bif Nat.beq q 29 then some sg_spec_Contents_29 else D_spec_Contents_0 q
theorem fr_spec_Contents_1 : FrOk Tryz.prog ⟨E_spec_Contents, 29, D_spec_Contents_1⟩ B_spec_Contents := (fr_spec_Contents_0).loop (sg := sg_spec_Contents_29) L_spec_Contents_29 em_spec_Contents_29 (by decide) a_spec_Contents_29 stx_spec_Contents_29 fu_spec_Contents_29 (by decide) (fun _ => rfl) (fun x r _ h => h) r_spec_Contents_29
abbrev I_spec_Contents : List Par := [.rd tA]
abbrev U_spec_Contents : List OT := [⟨false, tL, (.ow .fz)⟩]
noncomputable def raw_spec_Contents (a0 : dA) : Option (ResD U_spec_Contents × MutD I_spec_Contents) :=
  segM (F_spec_Contents_29 ((((), ()), ((), ()), ((), ()), ()), ((a0.1, a0.2.1.1, a0.2.1.2, a0.2.2.1, a0.2.2.2.1, a0.2.2.2.2.1, a0.2.2.2.2.2.1, a0.2.2.2.2.2.2.1, a0.2.2.2.2.2.2.2.1, a0.2.2.2.2.2.2.2.2.1, a0.2.2.2.2.2.2.2.2.2.1, a0.2.2.2.2.2.2.2.2.2.2.1, a0.2.2.2.2.2.2.2.2.2.2.2, ()), ()), (([] : List Int), ()))) (fun y4 =>
    some ((y4.2.2.1, ()), ())) (fun y4 =>
    some ((y4.2.2.1, ()), ()))
theorem e_spec_Contents (x : InD I_spec_Contents) : execF ⟨E_spec_Contents, 29, D_spec_Contents_1⟩ Tryz.f14.results.toList B_spec_Contents I_spec_Contents U_spec_Contents x = raw_spec_Contents x.1 := by kernel_rfl
theorem ok0_spec_Contents : ConOk Tryz.prog 14 ⟨I_spec_Contents, U_spec_Contents, fun x => raw_spec_Contents x.1⟩ := conOk_exec (fr_spec_Contents_1) Tryz.func14 (by kernel_rfl) (by kernel_rfl) Tryz.ntmps14.symm (by decide) (fun x r h => (e_spec_Contents x).trans h)
noncomputable def n_spec_Contents (a0 : dA) : List Int := contents a0
theorem nn_spec_Contents (a0 : dA) (hk : InOk I_spec_Contents (a0, ())) : raw_spec_Contents a0 = (fun n => some ((n, ()), ())) (n_spec_Contents a0) := by
  have hB := spec_Blocks_le a0.2.1
  have h1 : F_spec_Contents_29 (ms_spec_Contents_29 a0 []) = some (bif (List.range (n_spec_Blocks a0.2.1).toNat).all (fun (b : Nat) => !((getBlock a0 b).2 != 0)) then .inl (mo_spec_Contents_29 ((List.range (n_spec_Blocks a0.2.1).toNat).foldl (fun l (b : Nat) => l ++ [(getBlock a0 b).1]) [])) else .inr (mz_spec_Contents_29 [])) :=
    loopN_foldE (step := stx_spec_Contents_29) (n_spec_Blocks a0.2.1).toNat (fun i s => mk_spec_Contents_29 i a0 s) (fun (b : Nat) => !((getBlock a0 b).2 != 0)) (fun l (b : Nat) => l ++ [(getBlock a0 b).1]) (fun i s => s.length = i) (fun s => .inl (mo_spec_Contents_29 s)) _ (fun i s hi hs => by
      refine ⟨?_, fun _ => by simp [hs]⟩
      simp only [stx_spec_Contents_29, mk_spec_Contents_29, st_spec_Contents_29, ltb_t (show (i : Int) < n_spec_Blocks a0.2.1 by omega), cond_true, wr (show -9223372036854775808 ≤ (i : Int) + 1 by omega) (by omega), Int.natCast_add, Int.natCast_one, Int.toNat_natCast, pr_eta, n_spec_GetBlock, apok_iff.2 (show (s.length + [(getBlock a0 i).1].length) * 8 ≤ 140737488355328 by simp only [List.length_cons, List.length_nil]; omega)]
      cases ((getBlock a0 i).2 != 0) <;> rfl) (fun s hs => by simp only [stx_spec_Contents_29, mk_spec_Contents_29, st_spec_Contents_29, pr_eta, ltb_f (show n_spec_Blocks a0.2.1 ≤ ((n_spec_Blocks a0.2.1).toNat : Int) by omega), cond_false]) [] rfl _ (by show _ < 18446744073709551616; omega)
  unfold raw_spec_Contents n_spec_Contents contents
  rw [h1, foldl_snoc]
  cases (List.range (n_spec_Blocks a0.2.1).toNat).all (fun (b : Nat) => !((getBlock a0 b).2 != 0)) <;> rfl
noncomputable def con_spec_Contents : Con := ⟨I_spec_Contents, U_spec_Contents, fun x => (fun n => some ((n, ()), ())) (n_spec_Contents x.1)⟩
theorem ok_spec_Contents : ConOk Tryz.prog 14 con_spec_Contents := (ok0_spec_Contents).mono (fun x r hk h => (nn_spec_Contents x.1 hk).trans h)
end

/-! laws_toIntS -/
section
noncomputable def B_laws_toIntS : Code := (Tryz.f38.body).getD .skip
noncomputable def E_laws_toIntS : Env := envOf TT [] []
theorem fr_laws_toIntS_0 : FrOk Tryz.prog ⟨E_laws_toIntS, 22, fun _ => none⟩ B_laws_toIntS := frOk_base mixed tt_ok trivial
noncomputable def D_laws_toIntS_0 : Nat → Option Seg := fun _ => none
def L_laws_toIntS_29 : Shape := ⟨[(0, false, [.br tI]), (3, false, [.at 800000000]), (4, false, [.int .i64])], [], [(800000000, tI, .fz)]⟩
def S_laws_toIntS_29 : Shape := ⟨[(0, false, [.br tI]), (3, false, [.at 800000000]), (4, false, [.ci .i64 0])], [], [(800000000, tI, .fz)]⟩
def O_laws_toIntS_29 : Shape := ⟨[(3, false, [.at 800000000])], [], [(800000000, tI, .fz)]⟩
def Z_laws_toIntS_29 : Shape := ⟨[], [], []⟩
noncomputable def st_laws_toIntS_29 (v0 : List Int) (v1 : Int) (v2 : List Int) : Option ((L_laws_toIntS_29).X ⊕ ((O_laws_toIntS_29).X ⊕ (Z_laws_toIntS_29).X)) :=
  bif (ltb v1 (v0.length : Int)) then
    bif (inb v1 v0.length) then
      bif (inb v1 v2.length) then
        some (.inl (((v0, ()), ((), ()), ((IntKind.i64.wrap (v1 + 1)), ()), ()), (), ((v2.set (v1).toNat (nth v0 v1 0)), ())))
      else none
    else none
  else
    some (.inr (.inl ((((), ()), ()), (), (v2, ()))))
noncomputable def stx_laws_toIntS_29 (x : (L_laws_toIntS_29).X) := st_laws_toIntS_29 x.1.1.1 x.1.2.2.1.1 x.2.2.1
def em_laws_toIntS_29 (x : (S_laws_toIntS_29).X) : (L_laws_toIntS_29).X := (((x.1.1.1, ()), ((), ()), (0, ()), ()), (), (x.2.2.1, ()))
noncomputable def c_laws_toIntS_29 : Code := (subN B_laws_toIntS 64 116).getD .skip
theorem a_laws_toIntS_29 : subN B_laws_toIntS 64 29 = some (.block 0 (.loop c_laws_toIntS_29)) := by kernel_rfl
theorem r_laws_toIntS_29 (x : (L_laws_toIntS_29).X) : roundT ⟨E_laws_toIntS, 22, D_laws_toIntS_0⟩ 0 c_laws_toIntS_29 116 L_laws_toIntS_29 O_laws_toIntS_29 Z_laws_toIntS_29 x = stx_laws_toIntS_29 x := by kernel_rfl
noncomputable def fu_laws_toIntS_29 (x : (S_laws_toIntS_29).X) : Nat := (fun (u0 : List Int) (u1 : List Int) => 18446744073709551616) x.1.1.1 x.2.2.1
noncomputable def F_laws_toIntS_29 (x : (S_laws_toIntS_29).X) : Option ((O_laws_toIntS_29).X ⊕ (Z_laws_toIntS_29).X) := loopN stx_laws_toIntS_29 (fu_laws_toIntS_29 x) (em_laws_toIntS_29 x)
noncomputable def sg_laws_toIntS_29 : Seg := ⟨S_laws_toIntS_29, O_laws_toIntS_29, Z_laws_toIntS_29, F_laws_toIntS_29⟩
noncomputable def D_laws_toIntS_1 : Nat → Option Seg := fun q => bif Nat.beq q 29 then some sg_laws_toIntS_29 else D_laws_toIntS_0 q
theorem fr_laws_toIntS_1 : FrOk Tryz.prog ⟨E_laws_toIntS, 22, D_laws_toIntS_1⟩ B_laws_toIntS := (fr_laws_toIntS_0).loop (sg := sg_laws_toIntS_29) L_laws_toIntS_29 em_laws_toIntS_29 (by decide) a_laws_toIntS_29 stx_laws_toIntS_29 fu_laws_toIntS_29 (by decide) (fun _ => rfl) (fun x r _ h => h) r_laws_toIntS_29
abbrev I_laws_toIntS : List Par := [.rd tL]
abbrev U_laws_toIntS : List OT := [⟨false, tL, (.ow .fz)⟩]
noncomputable def raw_laws_toIntS (a0 : List Int) : Option (ResD U_laws_toIntS × MutD I_laws_toIntS) :=
  bif (mkok (a0.length : Int) 8) then
    segM (F_laws_toIntS_29 (((a0, ()), ((), ()), ((), ()), ()), (), ((List.replicate ((a0.length : Int)).toNat (0 : Int)), ()))) (fun y0 =>
      some ((y0.2.2.1, ()), ())) (fun y0 =>
      none)
  else none
theorem e_laws_toIntS (x : InD I_laws_toIntS) : execF ⟨E_laws_toIntS, 22, D_laws_toIntS_1⟩ Tryz.f38.results.toList B_laws_toIntS I_laws_toIntS U_laws_toIntS x = raw_laws_toIntS x.1 := by kernel_rfl
theorem ok0_laws_toIntS : ConOk Tryz.prog 38 ⟨I_laws_toIntS, U_laws_toIntS, fun x => raw_laws_toIntS x.1⟩ := conOk_exec (fr_laws_toIntS_1) Tryz.func38 (by kernel_rfl) (by kernel_rfl) Tryz.ntmps38.symm (by decide) (fun x r h => (e_laws_toIntS x).trans h)
noncomputable def n_laws_toIntS (a0 : List Int) : List Int := a0
theorem nn_laws_toIntS (a0 : List Int) (hk : InOk I_laws_toIntS (a0, ())) : raw_laws_toIntS a0 = (fun n => some ((n, ()), ())) (n_laws_toIntS a0) := by
  have hb : a0.length * 8 ≤ 2 ^ 47 := hk.1.1
  have hs : ∀ i, i < a0.length → (a0.take i ++ List.replicate (a0.length - i) (0 : Int)).set i (a0.getD i 0) = a0.take (i + 1) ++ List.replicate (a0.length - (i + 1)) 0 := fun i hi => by
    have hl : (a0.take i).length = i := by rw [List.length_take]; omega
    rw [List.set_append_right _ _ (by rw [hl]; exact Nat.le_refl _), hl, Nat.sub_self, List.take_add_one, List.append_assoc, show a0.length - i = (a0.length - (i + 1)) + 1 by omega, List.replicate_succ]
    simp [hi]
  have hl : F_laws_toIntS_29 (((a0, ()), ((), ()), ((), ()), ()), (), ((a0.take 0 ++ List.replicate (a0.length - 0) 0), ())) = some (.inl ((((), ()), ()), (), (a0.take a0.length ++ List.replicate (a0.length - a0.length) 0, ()))) :=
    loopN_up (step := stx_laws_toIntS_29) (fun i => (((a0, ()), ((), ()), ((i : Int), ()), ()), (), (a0.take i ++ List.replicate (a0.length - i) 0, ()))) a0.length _ (fun i hi => by
      have hL : (a0.take i ++ List.replicate (a0.length - i) (0 : Int)).length = a0.length := by rw [List.length_append, List.length_take, List.length_replicate]; omega
      simp only [stx_laws_toIntS_29, st_laws_toIntS_29, hL, inb_nat hi, nth_nat, Int.toNat_natCast, ltb_t (show (i : Int) < a0.length by omega), cond_true, wr (show -9223372036854775808 ≤ (i : Int) + 1 by omega) (by omega), Int.natCast_add, Int.natCast_one, hs i hi]) (by
      simp only [stx_laws_toIntS_29, st_laws_toIntS_29, ltb_f (Int.le_refl _), cond_false]) _ (by show _ < 18446744073709551616; omega)
  unfold raw_laws_toIntS n_laws_toIntS
  rw [List.take_zero, List.nil_append, Nat.sub_zero] at hl
  rw [show mkok (a0.length : Int) 8 = true by rw [mkok_iff]; omega, bif_t, Int.toNat_natCast, hl]
  simp [segM]
noncomputable def con_laws_toIntS : Con := ⟨I_laws_toIntS, U_laws_toIntS, fun x => (fun n => some ((n, ()), ())) (n_laws_toIntS x.1)⟩
theorem ok_laws_toIntS : ConOk Tryz.prog 38 con_laws_toIntS := (ok0_laws_toIntS).mono (fun x r hk h => (nn_laws_toIntS x.1 hk).trans h)
theorem id_laws_toIntS (a : List Int) : n_laws_toIntS a = a := by kernel_rfl
end

/-! laws_toIntSS -/
section
noncomputable def B_laws_toIntSS : Code := (Tryz.f189.body).getD .skip
noncomputable def E_laws_toIntSS : Env := envOf TT [(38, con_laws_toIntS)] []
theorem fr_laws_toIntSS_0 : FrOk Tryz.prog ⟨E_laws_toIntSS, 23, fun _ => none⟩ B_laws_toIntSS := frOk_base mixed tt_ok ⟨ok_laws_toIntS, trivial⟩
noncomputable def D_laws_toIntSS_0 : Nat → Option Seg := fun _ => none
def L_laws_toIntSS_29 : Shape := ⟨[(0, false, [.br tL]), (3, false, [.at 800000000]), (4, false, [.int .i64])], [], [(800000000, tL, (.ow .fz))]⟩
def S_laws_toIntSS_29 : Shape := ⟨[(0, false, [.br tL]), (3, false, [.at 800000000]), (4, false, [.ci .i64 0])], [], [(800000000, tL, (.ow .fz))]⟩
def O_laws_toIntSS_29 : Shape := ⟨[(3, false, [.at 800000000])], [], [(800000000, tL, (.ow .fz))]⟩
def Z_laws_toIntSS_29 : Shape := ⟨[], [], []⟩
noncomputable def st_laws_toIntSS_29 (v0 : List (List Int)) (v1 : Int) (v2 : List (List Int)) : Option ((L_laws_toIntSS_29).X ⊕ ((O_laws_toIntSS_29).X ⊕ (Z_laws_toIntSS_29).X)) :=
  bif (ltb v1 (v0.length : Int)) then
    bif (inb v1 v0.length) then
      let r2 := n_laws_toIntS (nth v0 v1 [])
      bif (inb v1 v2.length) then
        some (.inl (((v0, ()), ((), ()), ((IntKind.i64.wrap (v1 + 1)), ()), ()), (), ((v2.set (v1).toNat r2), ())))
      else none
    else none
  else
    some (.inr (.inl ((((), ()), ()), (), (v2, ()))))
noncomputable def stx_laws_toIntSS_29 (x : (L_laws_toIntSS_29).X) := st_laws_toIntSS_29 x.1.1.1 x.1.2.2.1.1 x.2.2.1
def em_laws_toIntSS_29 (x : (S_laws_toIntSS_29).X) : (L_laws_toIntSS_29).X := (((x.1.1.1, ()), ((), ()), (0, ()), ()), (), (x.2.2.1, ()))
noncomputable def c_laws_toIntSS_29 : Code := (subN B_laws_toIntSS 64 116).getD .skip
theorem a_laws_toIntSS_29 : subN B_laws_toIntSS 64 29 = some (.block 0 (.loop c_laws_toIntSS_29)) := by kernel_rfl
theorem r_laws_toIntSS_29 (x : (L_laws_toIntSS_29).X) : roundT ⟨E_laws_toIntSS, 23, D_laws_toIntSS_0⟩ 0 c_laws_toIntSS_29 116 L_laws_toIntSS_29 O_laws_toIntSS_29 Z_laws_toIntSS_29 x = stx_laws_toIntSS_29 x := by kernel_rfl
noncomputable def fu_laws_toIntSS_29 (x : (S_laws_toIntSS_29).X) : Nat := (fun (u0 : List (List Int)) (u1 : List (List Int)) => 18446744073709551616) x.1.1.1 x.2.2.1
noncomputable def F_laws_toIntSS_29 (x : (S_laws_toIntSS_29).X) : Option ((O_laws_toIntSS_29).X ⊕ (Z_laws_toIntSS_29).X) := loopN stx_laws_toIntSS_29 (fu_laws_toIntSS_29 x) (em_laws_toIntSS_29 x)
noncomputable def sg_laws_toIntSS_29 : Seg := ⟨S_laws_toIntSS_29, O_laws_toIntSS_29, Z_laws_toIntSS_29, F_laws_toIntSS_29⟩
noncomputable def D_laws_toIntSS_1 : Nat → Option Seg := fun q => bif Nat.beq q 29 then some sg_laws_toIntSS_29 else D_laws_toIntSS_0 q
theorem fr_laws_toIntSS_1 : FrOk Tryz.prog ⟨E_laws_toIntSS, 23, D_laws_toIntSS_1⟩ B_laws_toIntSS := (fr_laws_toIntSS_0).loop (sg := sg_laws_toIntSS_29) L_laws_toIntSS_29 em_laws_toIntSS_29 (by decide) a_laws_toIntSS_29 stx_laws_toIntSS_29 fu_laws_toIntSS_29 (by decide) (fun _ => rfl) (fun x r _ h => h) r_laws_toIntSS_29
abbrev I_laws_toIntSS : List Par := [.rd tLL]
abbrev U_laws_toIntSS : List OT := [⟨false, tLL, (.ow (.ow .fz))⟩]
noncomputable def raw_laws_toIntSS (a0 : List (List Int)) : Option (ResD U_laws_toIntSS × MutD I_laws_toIntSS) :=
  bif (mkok (a0.length : Int) 24) then
    segM (F_laws_toIntSS_29 (((a0, ()), ((), ()), ((), ()), ()), (), ((List.replicate ((a0.length : Int)).toNat ([] : List Int)), ()))) (fun y2 =>
      some ((y2.2.2.1, ()), ())) (fun y2 =>
      none)
  else none
theorem e_laws_toIntSS (x : InD I_laws_toIntSS) : execF ⟨E_laws_toIntSS, 23, D_laws_toIntSS_1⟩ Tryz.f189.results.toList B_laws_toIntSS I_laws_toIntSS U_laws_toIntSS x = raw_laws_toIntSS x.1 := by kernel_rfl
theorem ok0_laws_toIntSS : ConOk Tryz.prog 189 ⟨I_laws_toIntSS, U_laws_toIntSS, fun x => raw_laws_toIntSS x.1⟩ := conOk_exec (fr_laws_toIntSS_1) Tryz.func189 (by kernel_rfl) (by kernel_rfl) Tryz.ntmps189.symm (by decide) (fun x r h => (e_laws_toIntSS x).trans h)
noncomputable def n_laws_toIntSS (a0 : List (List Int)) : List (List Int) := a0
theorem nn_laws_toIntSS (a0 : List (List Int)) (hk : InOk I_laws_toIntSS (a0, ())) : raw_laws_toIntSS a0 = (fun n => some ((n, ()), ())) (n_laws_toIntSS a0) := by
  have hb : a0.length * 24 ≤ 2 ^ 47 := hk.1.1
  have hl : F_laws_toIntSS_29 (((a0, ()), ((), ()), ((), ()), ()), (), ((List.replicate a0.length ([] : List Int)), ())) = some (.inl ((((), ()), ()), (), (a0, ()))) :=
    loopN_fill (step := stx_laws_toIntSS_29) a0 ([] : List Int) (fun i m => (((a0, ()), ((), ()), ((i : Int), ()), ()), (), (m, ()))) (fun m => .inl ((((), ()), ()), (), (m, ()))) (fun i m hi hm => by
      simp only [stx_laws_toIntSS_29, st_laws_toIntSS_29, inb_nat (show i < m.length by omega), inb_nat hi, nth_nat, Int.toNat_natCast, ltb_t (show (i : Int) < a0.length by omega), cond_true, wr (show -9223372036854775808 ≤ (i : Int) + 1 by omega) (by omega), Int.natCast_add, Int.natCast_one, pr_eta, id_laws_toIntS]) (fun m hm => by
      simp only [stx_laws_toIntSS_29, st_laws_toIntSS_29, ltb_f (Int.le_refl _), cond_false]) _ (by show _ < 18446744073709551616; omega)
  unfold raw_laws_toIntSS n_laws_toIntSS
  rw [show mkok (a0.length : Int) 24 = true by rw [mkok_iff]; omega, bif_t, Int.toNat_natCast, hl]
  rfl
noncomputable def con_laws_toIntSS : Con := ⟨I_laws_toIntSS, U_laws_toIntSS, fun x => (fun n => some ((n, ()), ())) (n_laws_toIntSS x.1)⟩
theorem ok_laws_toIntSS : ConOk Tryz.prog 189 con_laws_toIntSS := (ok0_laws_toIntSS).mono (fun x r hk h => (nn_laws_toIntSS x.1 hk).trans h)
theorem id_laws_toIntSS (a : List (List Int)) : n_laws_toIntSS a = a := by kernel_rfl
end

/-! laws_toWr -/
section
noncomputable def B_laws_toWr : Code := (Tryz.f238.body).getD .skip
noncomputable def E_laws_toWr : Env := envOf TT [(38, con_laws_toIntS)] []
theorem fr_laws_toWr_0 : FrOk Tryz.prog ⟨E_laws_toWr, 12, fun _ => none⟩ B_laws_toWr := frOk_base mixed tt_ok ⟨ok_laws_toIntS, trivial⟩
noncomputable def D_laws_toWr_0 : Nat → Option Seg := fun _ => none
abbrev I_laws_toWr : List Par := [.rd tW]
abbrev U_laws_toWr : List OT := [⟨false, tW, (.pr .fz (.ow .fz))⟩]
noncomputable def raw_laws_toWr (a0 : dW) : Option (ResD U_laws_toWr × MutD I_laws_toWr) :=
  let r1 := n_laws_toIntS a0.2
  some (((a0.1, r1), ()), ())
theorem e_laws_toWr (x : InD I_laws_toWr) : execF ⟨E_laws_toWr, 12, D_laws_toWr_0⟩ Tryz.f238.results.toList B_laws_toWr I_laws_toWr U_laws_toWr x = raw_laws_toWr x.1 := by kernel_rfl
theorem ok0_laws_toWr : ConOk Tryz.prog 238 ⟨I_laws_toWr, U_laws_toWr, fun x => raw_laws_toWr x.1⟩ := conOk_exec (fr_laws_toWr_0) Tryz.func238 (by kernel_rfl) (by kernel_rfl) Tryz.ntmps238.symm (by decide) (fun x r h => (e_laws_toWr x).trans h)
noncomputable def n_laws_toWr (a0 : dW) : dW :=
  let r1 := n_laws_toIntS a0.2
  (a0.1, r1)
noncomputable def con_laws_toWr : Con := ⟨I_laws_toWr, U_laws_toWr, fun x => (fun n => some ((n, ()), ())) (n_laws_toWr x.1)⟩
theorem nn_laws_toWr (a0 : dW) : raw_laws_toWr a0 = (fun n => some ((n, ()), ())) (n_laws_toWr a0) := bif_ty (p := fun (n : dW) => ((n, ()), ())) rfl
theorem ok_laws_toWr : ConOk Tryz.prog 238 con_laws_toWr := (ok0_laws_toWr).mono (fun x r _ h => (nn_laws_toWr x.1).trans h)
theorem id_laws_toWr (a : dW) : n_laws_toWr a = a := by kernel_rfl
end

/-! laws_toWrS -/
section
noncomputable def B_laws_toWrS : Code := (Tryz.f190.body).getD .skip
noncomputable def E_laws_toWrS : Env := envOf TT [(238, con_laws_toWr)] []
theorem fr_laws_toWrS_0 : FrOk Tryz.prog ⟨E_laws_toWrS, 23, fun _ => none⟩ B_laws_toWrS := frOk_base mixed tt_ok ⟨ok_laws_toWr, trivial⟩
noncomputable def D_laws_toWrS_0 : Nat → Option Seg := fun _ => none
def L_laws_toWrS_29 : Shape := ⟨[(0, false, [.br tW]), (3, false, [.at 800000000]), (4, false, [.int .i64])], [], [(800000000, tW, (.pr .fz (.ow .fz)))]⟩
def S_laws_toWrS_29 : Shape := ⟨[(0, false, [.br tW]), (3, false, [.at 800000000]), (4, false, [.ci .i64 0])], [], [(800000000, tW, (.pr .fz (.ow .fz)))]⟩
def O_laws_toWrS_29 : Shape := ⟨[(3, false, [.at 800000000])], [], [(800000000, tW, (.pr .fz (.ow .fz)))]⟩
def Z_laws_toWrS_29 : Shape := ⟨[], [], []⟩
noncomputable def st_laws_toWrS_29 (v0 : List dW) (v1 : Int) (v2 : List dW) : Option ((L_laws_toWrS_29).X ⊕ ((O_laws_toWrS_29).X ⊕ (Z_laws_toWrS_29).X)) :=
  bif (ltb v1 (v0.length : Int)) then
    bif (inb v1 v0.length) then
      let r2 := n_laws_toWr (nth v0 v1 (0, []))
      bif (inb v1 v2.length) then
        some (.inl (((v0, ()), ((), ()), ((IntKind.i64.wrap (v1 + 1)), ()), ()), (), ((v2.set (v1).toNat r2), ())))
      else none
    else none
  else
    some (.inr (.inl ((((), ()), ()), (), (v2, ()))))
noncomputable def stx_laws_toWrS_29 (x : (L_laws_toWrS_29).X) := st_laws_toWrS_29 x.1.1.1 x.1.2.2.1.1 x.2.2.1
def em_laws_toWrS_29 (x : (S_laws_toWrS_29).X) : (L_laws_toWrS_29).X := (((x.1.1.1, ()), ((), ()), (0, ()), ()), (), (x.2.2.1, ()))
noncomputable def c_laws_toWrS_29 : Code := (subN B_laws_toWrS 64 116).getD .skip
theorem a_laws_toWrS_29 : subN B_laws_toWrS 64 29 = some (.block 0 (.loop c_laws_toWrS_29)) := by kernel_rfl
theorem r_laws_toWrS_29 (x : (L_laws_toWrS_29).X) : roundT ⟨E_laws_toWrS, 23, D_laws_toWrS_0⟩ 0 c_laws_toWrS_29 116 L_laws_toWrS_29 O_laws_toWrS_29 Z_laws_toWrS_29 x = stx_laws_toWrS_29 x := by kernel_rfl
noncomputable def fu_laws_toWrS_29 (x : (S_laws_toWrS_29).X) : Nat := (fun (u0 : List dW) (u1 : List dW) => 18446744073709551616) x.1.1.1 x.2.2.1
noncomputable def F_laws_toWrS_29 (x : (S_laws_toWrS_29).X) : Option ((O_laws_toWrS_29).X ⊕ (Z_laws_toWrS_29).X) := loopN stx_laws_toWrS_29 (fu_laws_toWrS_29 x) (em_laws_toWrS_29 x)
noncomputable def sg_laws_toWrS_29 : Seg := ⟨S_laws_toWrS_29, O_laws_toWrS_29, Z_laws_toWrS_29, F_laws_toWrS_29⟩
noncomputable def D_laws_toWrS_1 : Nat → Option Seg := fun q => bif Nat.beq q 29 then some sg_laws_toWrS_29 else D_laws_toWrS_0 q
theorem fr_laws_toWrS_1 : FrOk Tryz.prog ⟨E_laws_toWrS, 23, D_laws_toWrS_1⟩ B_laws_toWrS := (fr_laws_toWrS_0).loop (sg := sg_laws_toWrS_29) L_laws_toWrS_29 em_laws_toWrS_29 (by decide) a_laws_toWrS_29 stx_laws_toWrS_29 fu_laws_toWrS_29 (by decide) (fun _ => rfl) (fun x r _ h => h) r_laws_toWrS_29
abbrev I_laws_toWrS : List Par := [.rd tWs]
abbrev U_laws_toWrS : List OT := [⟨false, tWs, (.ow (.pr .fz (.ow .fz)))⟩]
noncomputable def raw_laws_toWrS (a0 : List dW) : Option (ResD U_laws_toWrS × MutD I_laws_toWrS) :=
  bif (mkok (a0.length : Int) 32) then
    segM (F_laws_toWrS_29 (((a0, ()), ((), ()), ((), ()), ()), (), ((List.replicate ((a0.length : Int)).toNat ((0, []) : dW)), ()))) (fun y2 =>
      some ((y2.2.2.1, ()), ())) (fun y2 =>
      none)
  else none
theorem e_laws_toWrS (x : InD I_laws_toWrS) : execF ⟨E_laws_toWrS, 23, D_laws_toWrS_1⟩ Tryz.f190.results.toList B_laws_toWrS I_laws_toWrS U_laws_toWrS x = raw_laws_toWrS x.1 := by kernel_rfl
theorem ok0_laws_toWrS : ConOk Tryz.prog 190 ⟨I_laws_toWrS, U_laws_toWrS, fun x => raw_laws_toWrS x.1⟩ := conOk_exec (fr_laws_toWrS_1) Tryz.func190 (by kernel_rfl) (by kernel_rfl) Tryz.ntmps190.symm (by decide) (fun x r h => (e_laws_toWrS x).trans h)
noncomputable def n_laws_toWrS (a0 : List (dW)) : List (dW) := a0
theorem nn_laws_toWrS (a0 : List (dW)) (hk : InOk I_laws_toWrS (a0, ())) : raw_laws_toWrS a0 = (fun n => some ((n, ()), ())) (n_laws_toWrS a0) := by
  have hb : a0.length * 32 ≤ 2 ^ 47 := hk.1.1
  have hl : F_laws_toWrS_29 (((a0, ()), ((), ()), ((), ()), ()), (), ((List.replicate a0.length ((0, []) : dW)), ())) = some (.inl ((((), ()), ()), (), (a0, ()))) :=
    loopN_fill (step := stx_laws_toWrS_29) a0 ((0, []) : dW) (fun i m => (((a0, ()), ((), ()), ((i : Int), ()), ()), (), (m, ()))) (fun m => .inl ((((), ()), ()), (), (m, ()))) (fun i m hi hm => by
      simp only [stx_laws_toWrS_29, st_laws_toWrS_29, inb_nat (show i < m.length by omega), inb_nat hi, nth_nat, Int.toNat_natCast, ltb_t (show (i : Int) < a0.length by omega), cond_true, wr (show -9223372036854775808 ≤ (i : Int) + 1 by omega) (by omega), Int.natCast_add, Int.natCast_one, pr_eta, id_laws_toWr]) (fun m hm => by
      simp only [stx_laws_toWrS_29, st_laws_toWrS_29, ltb_f (Int.le_refl _), cond_false]) _ (by show _ < 18446744073709551616; omega)
  unfold raw_laws_toWrS n_laws_toWrS
  rw [show mkok (a0.length : Int) 32 = true by rw [mkok_iff]; omega, bif_t, Int.toNat_natCast, hl]
  rfl
noncomputable def con_laws_toWrS : Con := ⟨I_laws_toWrS, U_laws_toWrS, fun x => (fun n => some ((n, ()), ())) (n_laws_toWrS x.1)⟩
theorem ok_laws_toWrS : ConOk Tryz.prog 190 con_laws_toWrS := (ok0_laws_toWrS).mono (fun x r hk h => (nn_laws_toWrS x.1 hk).trans h)
theorem id_laws_toWrS (a : List dW) : n_laws_toWrS a = a := by kernel_rfl
end
end Go.Tf
