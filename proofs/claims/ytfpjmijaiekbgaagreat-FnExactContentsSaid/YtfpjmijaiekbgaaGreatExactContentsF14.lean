/- Functions of the program, and what they come to. -/
import Derived.Test.YtfpjmijaiekbgaaGreatExactContentsF13
namespace Go.Tf
open Go.Proofs
set_option synthInstance.maxHeartbeats 400000
set_option synthInstance.maxSize 10000
set_option linter.unusedVariables false
set_option linter.unusedSimpArgs false
set_option maxRecDepth 100000
/-! impl_Contents -/
section
noncomputable def B_impl_Contents : Code := (Tryz.f16.body).getD .skip
noncomputable def E_impl_Contents : Env := envOf TT [(68, con_impl_Blocks), (69, con_impl_GetBlock)] []
theorem fr_impl_Contents_0 : FrOk Tryz.prog ⟨E_impl_Contents, 28, fun _ => none⟩ B_impl_Contents := frOk_base mixed tt_ok ⟨ok_impl_Blocks, ok_impl_GetBlock, trivial⟩
noncomputable def D_impl_Contents_0 : Nat → Option Seg := fun _ => none
def L_impl_Contents_29 : Shape := ⟨[(1, false, [.ptr 0 0]), (3, false, [.at 800000000]), (10, false, [.int .i64]), (11, false, [.int .i64])], [(0, [.int .i64, .int .i64, .int .i64, .br tM, .int .i64, .int .i64, .int .i64, .int .i64, .int .i64, .br tW, .int .i64, .bool, .bool])], [(800000000, tI, .fz)]⟩
def S_impl_Contents_29 : Shape := ⟨[(1, false, [.ptr 0 0]), (3, false, [.at 800000000]), (10, false, [.int .i64]), (11, false, [.ci .i64 0])], [(0, [.int .i64, .int .i64, .int .i64, .br tM, .int .i64, .int .i64, .int .i64, .int .i64, .int .i64, .br tW, .int .i64, .bool, .bool])], [(800000000, tI, .fz)]⟩
def O_impl_Contents_29 : Shape := ⟨[(3, false, [.at 800000000])], [], [(800000000, tI, .fz)]⟩
def Z_impl_Contents_29 : Shape := ⟨[(2, false, [.nil])], [], []⟩
abbrev mk_impl_Contents_29 (v0 : Int) (v1 : Int) (v2 : dA) (v3 : List Int) : (L_impl_Contents_29).X := ((((), ()), ((), ()), (v0, ()), (v1, ()), ()), ((v2.1, v2.2.1.1, v2.2.1.2, v2.2.2.1, v2.2.2.2.1, v2.2.2.2.2.1, v2.2.2.2.2.2.1, v2.2.2.2.2.2.2.1, v2.2.2.2.2.2.2.2.1, v2.2.2.2.2.2.2.2.2.1, v2.2.2.2.2.2.2.2.2.2.1, v2.2.2.2.2.2.2.2.2.2.2.1, v2.2.2.2.2.2.2.2.2.2.2.2, ()), ()), (v3, ()))
abbrev ms_impl_Contents_29 (v0 : Int) (v1 : dA) (v2 : List Int) : (S_impl_Contents_29).X := ((((), ()), ((), ()), (v0, ()), ((), ()), ()), ((v1.1, v1.2.1.1, v1.2.1.2, v1.2.2.1, v1.2.2.2.1, v1.2.2.2.2.1, v1.2.2.2.2.2.1, v1.2.2.2.2.2.2.1, v1.2.2.2.2.2.2.2.1, v1.2.2.2.2.2.2.2.2.1, v1.2.2.2.2.2.2.2.2.2.1, v1.2.2.2.2.2.2.2.2.2.2.1, v1.2.2.2.2.2.2.2.2.2.2.2, ()), ()), (v2, ()))
abbrev mo_impl_Contents_29 (v0 : List Int) : (O_impl_Contents_29).X := ((((), ()), ()), (), (v0, ()))
abbrev mz_impl_Contents_29  : (Z_impl_Contents_29).X := ((((), ()), ()), (), ())
noncomputable def st_impl_Contents_29 (v0 : Int) (v1 : Int) (v2 : Int) (v3 : Int) (v4 : Int) (v5 : List dM) (v6 : Int) (v7 : Int) (v8 : Int) (v9 : Int) (v10 : Int) (v11 : List dW) (v12 : Int) (v13 : Bool) (v14 : Bool) (v15 : List Int) : Option ((L_impl_Contents_29).X ⊕ ((O_impl_Contents_29).X ⊕ (Z_impl_Contents_29).X)) :=
  bif (ltb v1 v0) then
    let r3 := n_impl_GetBlock (v2, (v3, v4), v5, v6, v7, v8, v9, v10, v11, v12, v13, v14) v1
    bif (r3.2 != 0) then
      some (.inr (.inr ((((), ()), ()), (), ())))
    else
      bif (apok v15.length ([r3.1] : List Int).length 8) then
        some (.inl ((((), ()), ((), ()), (v0, ()), ((IntKind.i64.wrap (v1 + 1)), ()), ()), ((v2, v3, v4, v5, v6, v7, v8, v9, v10, v11, v12, v13, v14, ()), ()), ((v15 ++ ([r3.1] : List Int)), ())))
      else none
  else
    some (.inr (.inl ((((), ()), ()), (), (v15, ()))))
noncomputable def stx_impl_Contents_29 (x : (L_impl_Contents_29).X) := st_impl_Contents_29 x.1.2.2.1.1 x.1.2.2.2.1.1 x.2.1.1.1 x.2.1.1.2.1 x.2.1.1.2.2.1 x.2.1.1.2.2.2.1 x.2.1.1.2.2.2.2.1 x.2.1.1.2.2.2.2.2.1 x.2.1.1.2.2.2.2.2.2.1 x.2.1.1.2.2.2.2.2.2.2.1 x.2.1.1.2.2.2.2.2.2.2.2.1 x.2.1.1.2.2.2.2.2.2.2.2.2.1 x.2.1.1.2.2.2.2.2.2.2.2.2.2.1 x.2.1.1.2.2.2.2.2.2.2.2.2.2.2.1 x.2.1.1.2.2.2.2.2.2.2.2.2.2.2.2.1 x.2.2.1
def em_impl_Contents_29 (x : (S_impl_Contents_29).X) : (L_impl_Contents_29).X := ((((), ()), ((), ()), (x.1.2.2.1.1, ()), (0, ()), ()), ((x.2.1.1.1, x.2.1.1.2.1, x.2.1.1.2.2.1, x.2.1.1.2.2.2.1, x.2.1.1.2.2.2.2.1, x.2.1.1.2.2.2.2.2.1, x.2.1.1.2.2.2.2.2.2.1, x.2.1.1.2.2.2.2.2.2.2.1, x.2.1.1.2.2.2.2.2.2.2.2.1, x.2.1.1.2.2.2.2.2.2.2.2.2.1, x.2.1.1.2.2.2.2.2.2.2.2.2.2.1, x.2.1.1.2.2.2.2.2.2.2.2.2.2.2.1, x.2.1.1.2.2.2.2.2.2.2.2.2.2.2.2.1, ()), ()), (x.2.2.1, ()))
noncomputable def c_impl_Contents_29 : Code := (subN B_impl_Contents 64 116).getD .skip
theorem a_impl_Contents_29 : subN B_impl_Contents 64 29 = some (.block 0 (.loop c_impl_Contents_29)) := by kernel_rfl
theorem r_impl_Contents_29 (x : (L_impl_Contents_29).X) : roundT ⟨E_impl_Contents, 28, D_impl_Contents_0⟩ 0 c_impl_Contents_29 116 L_impl_Contents_29 O_impl_Contents_29 Z_impl_Contents_29 x = stx_impl_Contents_29 x := by kernel_rfl
noncomputable def fu_impl_Contents_29 (x : (S_impl_Contents_29).X) : Nat := (fun (u0 : Int) (u1 : Int) (u2 : Int) (u3 : Int) (u4 : List dM) (u5 : Int) (u6 : Int) (u7 : Int) (u8 : Int) (u9 : Int) (u10 : List dW) (u11 : Int) (u12 : Bool) (u13 : Bool) (u14 : List Int) => 18446744073709551616) x.1.2.2.1.1 x.2.1.1.1 x.2.1.1.2.1 x.2.1.1.2.2.1 x.2.1.1.2.2.2.1 x.2.1.1.2.2.2.2.1 x.2.1.1.2.2.2.2.2.1 x.2.1.1.2.2.2.2.2.2.1 x.2.1.1.2.2.2.2.2.2.2.1 x.2.1.1.2.2.2.2.2.2.2.2.1 x.2.1.1.2.2.2.2.2.2.2.2.2.1 x.2.1.1.2.2.2.2.2.2.2.2.2.2.1 x.2.1.1.2.2.2.2.2.2.2.2.2.2.2.1 x.2.1.1.2.2.2.2.2.2.2.2.2.2.2.2.1 x.2.2.1
noncomputable def F_impl_Contents_29 (x : (S_impl_Contents_29).X) : Option ((O_impl_Contents_29).X ⊕ (Z_impl_Contents_29).X) := loopN stx_impl_Contents_29 (fu_impl_Contents_29 x) (em_impl_Contents_29 x)
noncomputable def sg_impl_Contents_29 : Seg := ⟨S_impl_Contents_29, O_impl_Contents_29, Z_impl_Contents_29, F_impl_Contents_29⟩
noncomputable def D_impl_Contents_1 : Nat → Option Seg := fun q => bif Nat.beq q 29 then some sg_impl_Contents_29 else D_impl_Contents_0 q
theorem fr_impl_Contents_1 : FrOk Tryz.prog ⟨E_impl_Contents, 28, D_impl_Contents_1⟩ B_impl_Contents := (fr_impl_Contents_0).loop (sg := sg_impl_Contents_29) L_impl_Contents_29 em_impl_Contents_29 (by decide) a_impl_Contents_29 stx_impl_Contents_29 fu_impl_Contents_29 (by decide) (fun _ => rfl) (fun x r _ h => h) r_impl_Contents_29
abbrev I_impl_Contents : List Par := [.rd tA]
abbrev U_impl_Contents : List OT := [⟨false, tL, (.ow .fz)⟩]
noncomputable def raw_impl_Contents (a0 : dA) : Option (ResD U_impl_Contents × MutD I_impl_Contents) :=
  let r1 := n_impl_Blocks a0.2.1
  segM (F_impl_Contents_29 ((((), ()), ((), ()), (r1, ()), ((), ()), ()), ((a0.1, a0.2.1.1, a0.2.1.2, a0.2.2.1, a0.2.2.2.1, a0.2.2.2.2.1, a0.2.2.2.2.2.1, a0.2.2.2.2.2.2.1, a0.2.2.2.2.2.2.2.1, a0.2.2.2.2.2.2.2.2.1, a0.2.2.2.2.2.2.2.2.2.1, a0.2.2.2.2.2.2.2.2.2.2.1, a0.2.2.2.2.2.2.2.2.2.2.2, ()), ()), (([] : List Int), ()))) (fun y3 =>
    some ((y3.2.2.1, ()), ())) (fun y3 =>
    some (([], ()), ()))
theorem e_impl_Contents (x : InD I_impl_Contents) : execF ⟨E_impl_Contents, 28, D_impl_Contents_1⟩ Tryz.f16.results.toList B_impl_Contents I_impl_Contents U_impl_Contents x = raw_impl_Contents x.1 := by kernel_rfl
theorem ok0_impl_Contents : ConOk Tryz.prog 16 ⟨I_impl_Contents, U_impl_Contents, fun x => raw_impl_Contents x.1⟩ := conOk_exec (fr_impl_Contents_1) Tryz.func16 (by kernel_rfl) (by kernel_rfl) Tryz.ntmps16.symm (by decide) (fun x r h => (e_impl_Contents x).trans h)
noncomputable def n_impl_Contents (a0 : dA) : List Int := contents a0
theorem nn_impl_Contents (a0 : dA) (hk : InOk I_impl_Contents (a0, ())) : raw_impl_Contents a0 = (fun n => some ((n, ()), ())) (n_impl_Contents a0) := by
  have hB := spec_Blocks_le a0.2.1
  have h1 : F_impl_Contents_29 (ms_impl_Contents_29 (n_spec_Blocks a0.2.1) a0 []) = some (bif (List.range (n_spec_Blocks a0.2.1).toNat).all (fun (b : Nat) => !((getBlock a0 b).2 != 0)) then .inl (mo_impl_Contents_29 ((List.range (n_spec_Blocks a0.2.1).toNat).foldl (fun l (b : Nat) => l ++ [(getBlock a0 b).1]) [])) else .inr mz_impl_Contents_29) :=
    loopN_foldE (step := stx_impl_Contents_29) (n_spec_Blocks a0.2.1).toNat (fun i s => mk_impl_Contents_29 (n_spec_Blocks a0.2.1) i a0 s) (fun (b : Nat) => !((getBlock a0 b).2 != 0)) (fun l (b : Nat) => l ++ [(getBlock a0 b).1]) (fun i s => s.length = i) (fun s => .inl (mo_impl_Contents_29 s)) _ (fun i s hi hs => by
      refine ⟨?_, fun _ => by simp [hs]⟩
      simp only [stx_impl_Contents_29, mk_impl_Contents_29, st_impl_Contents_29, ltb_t (show (i : Int) < n_spec_Blocks a0.2.1 by omega), cond_true, wr (show -9223372036854775808 ≤ (i : Int) + 1 by omega) (by omega), Int.natCast_add, Int.natCast_one, Int.toNat_natCast, pr_eta, n_impl_GetBlock, apok_iff.2 (show (s.length + [(getBlock a0 i).1].length) * 8 ≤ 140737488355328 by simp only [List.length_cons, List.length_nil]; omega)]
      cases ((getBlock a0 i).2 != 0) <;> rfl) (fun s hs => by simp only [stx_impl_Contents_29, mk_impl_Contents_29, st_impl_Contents_29, ltb_f (show n_spec_Blocks a0.2.1 ≤ ((n_spec_Blocks a0.2.1).toNat : Int) by omega), cond_false]) [] rfl _ (by show _ < 18446744073709551616; omega)
  unfold raw_impl_Contents n_impl_Contents contents
  simp only [impl_Blocks_eq]
  rw [h1, foldl_snoc]
  cases (List.range (n_spec_Blocks a0.2.1).toNat).all (fun (b : Nat) => !((getBlock a0 b).2 != 0)) <;> rfl
noncomputable def con_impl_Contents : Con := ⟨I_impl_Contents, U_impl_Contents, fun x => (fun n => some ((n, ()), ())) (n_impl_Contents x.1)⟩
theorem ok_impl_Contents : ConOk Tryz.prog 16 con_impl_Contents := (ok0_impl_Contents).mono (fun x r hk h => (nn_impl_Contents x.1 hk).trans h)
end

/-! laws_eqIntS -/
section
noncomputable def B_laws_eqIntS : Code := (Tryz.f17.body).getD .skip
noncomputable def E_laws_eqIntS : Env := envOf TT [] []
theorem fr_laws_eqIntS_0 : FrOk Tryz.prog ⟨E_laws_eqIntS, 26, fun _ => none⟩ B_laws_eqIntS := frOk_base mixed tt_ok trivial
noncomputable def D_laws_eqIntS_0 : Nat → Option Seg := fun _ => none
def L_laws_eqIntS_29 : Shape := ⟨[(0, false, [.br tI]), (1, false, [.br tI]), (5, false, [.int .i64])], [], []⟩
def S_laws_eqIntS_29 : Shape := ⟨[(0, false, [.br tI]), (1, false, [.br tI]), (5, false, [.ci .i64 0])], [], []⟩
def O_laws_eqIntS_29 : Shape := ⟨[], [], []⟩
def Z_laws_eqIntS_29 : Shape := ⟨[(4, false, [.bool])], [], []⟩
noncomputable def st_laws_eqIntS_29 (v0 : List Int) (v1 : List Int) (v2 : Int) : Option ((L_laws_eqIntS_29).X ⊕ ((O_laws_eqIntS_29).X ⊕ (Z_laws_eqIntS_29).X)) :=
  bif (ltb v2 (v0.length : Int)) then
    bif (inb v2 v0.length) then
      bif (inb v2 v1.length) then
        bif ((nth v0 v2 0) != (nth v1 v2 0)) then
          some (.inr (.inr (((false, ()), ()), (), ())))
        else
          some (.inl (((v0, ()), (v1, ()), ((IntKind.i64.wrap (v2 + 1)), ()), ()), (), ()))
      else none
    else none
  else
    some (.inr (.inl ((), (), ())))
noncomputable def stx_laws_eqIntS_29 (x : (L_laws_eqIntS_29).X) := st_laws_eqIntS_29 x.1.1.1 x.1.2.1.1 x.1.2.2.1.1
def em_laws_eqIntS_29 (x : (S_laws_eqIntS_29).X) : (L_laws_eqIntS_29).X := (((x.1.1.1, ()), (x.1.2.1.1, ()), (0, ()), ()), (), ())
noncomputable def c_laws_eqIntS_29 : Code := (subN B_laws_eqIntS 64 116).getD .skip
theorem a_laws_eqIntS_29 : subN B_laws_eqIntS 64 29 = some (.block 0 (.loop c_laws_eqIntS_29)) := by kernel_rfl
theorem r_laws_eqIntS_29 (x : (L_laws_eqIntS_29).X) : roundT ⟨E_laws_eqIntS, 26, D_laws_eqIntS_0⟩ 0 c_laws_eqIntS_29 116 L_laws_eqIntS_29 O_laws_eqIntS_29 Z_laws_eqIntS_29 x = stx_laws_eqIntS_29 x := by kernel_rfl
noncomputable def fu_laws_eqIntS_29 (x : (S_laws_eqIntS_29).X) : Nat := (fun (u0 : List Int) (u1 : List Int) => 18446744073709551616) x.1.1.1 x.1.2.1.1
noncomputable def F_laws_eqIntS_29 (x : (S_laws_eqIntS_29).X) : Option ((O_laws_eqIntS_29).X ⊕ (Z_laws_eqIntS_29).X) := loopN stx_laws_eqIntS_29 (fu_laws_eqIntS_29 x) (em_laws_eqIntS_29 x)
noncomputable def sg_laws_eqIntS_29 : Seg := ⟨S_laws_eqIntS_29, O_laws_eqIntS_29, Z_laws_eqIntS_29, F_laws_eqIntS_29⟩
noncomputable def D_laws_eqIntS_1 : Nat → Option Seg := fun q => bif Nat.beq q 29 then some sg_laws_eqIntS_29 else D_laws_eqIntS_0 q
theorem fr_laws_eqIntS_1 : FrOk Tryz.prog ⟨E_laws_eqIntS, 26, D_laws_eqIntS_1⟩ B_laws_eqIntS := (fr_laws_eqIntS_0).loop (sg := sg_laws_eqIntS_29) L_laws_eqIntS_29 em_laws_eqIntS_29 (by decide) a_laws_eqIntS_29 stx_laws_eqIntS_29 fu_laws_eqIntS_29 (by decide) (fun _ => rfl) (fun x r _ h => h) r_laws_eqIntS_29
abbrev I_laws_eqIntS : List Par := [.rd tL, .rd tL]
abbrev U_laws_eqIntS : List OT := [⟨false, tB, .fz⟩]
noncomputable def raw_laws_eqIntS (a0 : List Int) (a1 : List Int) : Option (ResD U_laws_eqIntS × MutD I_laws_eqIntS) :=
  bif ((a0.length : Int) != (a1.length : Int)) then
    some ((false, ()), ())
  else
    segM (F_laws_eqIntS_29 (((a0, ()), (a1, ()), ((), ()), ()), (), ())) (fun y0 =>
      some ((true, ()), ())) (fun y0 =>
      some ((y0.1.1.1, ()), ()))
theorem e_laws_eqIntS (x : InD I_laws_eqIntS) : execF ⟨E_laws_eqIntS, 26, D_laws_eqIntS_1⟩ Tryz.f17.results.toList B_laws_eqIntS I_laws_eqIntS U_laws_eqIntS x = raw_laws_eqIntS x.1 x.2.1 := by kernel_rfl
theorem ok0_laws_eqIntS : ConOk Tryz.prog 17 ⟨I_laws_eqIntS, U_laws_eqIntS, fun x => raw_laws_eqIntS x.1 x.2.1⟩ := conOk_exec (fr_laws_eqIntS_1) Tryz.func17 (by kernel_rfl) (by kernel_rfl) Tryz.ntmps17.symm (by decide) (fun x r h => (e_laws_eqIntS x).trans h)
noncomputable def n_laws_eqIntS (a0 a1 : List Int) : Bool := decide (a0 = a1)
theorem nn_laws_eqIntS (a0 a1 : List Int) (hk : InOk I_laws_eqIntS (a0, a1, ())) : raw_laws_eqIntS a0 a1 = (fun n => some ((n, ()), ())) (n_laws_eqIntS a0 a1) := by
  have hb : a0.length * 8 ≤ 2 ^ 47 := hk.1.1
  have hl : a0.length = a1.length → F_laws_eqIntS_29 (((a0, ()), (a1, ()), ((), ()), ()), (), ()) = some (bif (List.range a0.length).any (fun i => a0.getD i 0 != a1.getD i 0) then .inr (((false, ()), ()), (), ()) else .inl ((), (), ())) := fun hL =>
    loopN_all (step := stx_laws_eqIntS_29) (fun i => (((a0, ()), (a1, ()), ((i : Int), ()), ()), (), ())) a0.length (fun i => a0.getD i 0 != a1.getD i 0) _ _ (fun i hi => by
      simp only [stx_laws_eqIntS_29, st_laws_eqIntS_29, inb_nat hi, inb_nat (hL ▸ hi), nth_nat, ltb_t (show (i : Int) < a0.length by omega), cond_true, wr (show -9223372036854775808 ≤ (i : Int) + 1 by omega) (by omega), Int.natCast_add, Int.natCast_one]
      cases (a0.getD i 0 != a1.getD i 0) <;> rfl) (by simp only [stx_laws_eqIntS_29, st_laws_eqIntS_29, ltb_f (Int.le_refl _), cond_false]) _ (by show _ < 18446744073709551616; omega)
  unfold raw_laws_eqIntS n_laws_eqIntS
  by_cases h : a0.length = a1.length
  · rw [show ((a0.length : Int) != (a1.length : Int)) = false by simp [h], bif_f, hl h]
    by_cases e : a0 = a1
    · subst e
      have : (List.range a0.length).any (fun i => a0.getD i 0 != a0.getD i 0) = false := by simp
      rw [this, decide_eq_true rfl]
      rfl
    · have : (List.range a0.length).any (fun i => a0.getD i 0 != a1.getD i 0) = true := by
        rcases Bool.eq_false_or_eq_true ((List.range a0.length).any (fun i => a0.getD i 0 != a1.getD i 0)) with h2 | h2
        · exact h2
        · refine absurd (List.ext_getElem h fun i h3 h4 => ?_) e
          rw [List.any_eq_false] at h2
          have := h2 i (List.mem_range.2 h3)
          simpa [h3, h4] using this
      rw [this, decide_eq_false e]
      rfl
  · rw [show ((a0.length : Int) != (a1.length : Int)) = true from bne_iff_ne.2 (by omega), bif_t, decide_eq_false (fun e => h (congrArg _ e))]
theorem eqd_laws_eqIntS (a b : List Int) : n_laws_eqIntS a b = decide (a = b) := rfl
noncomputable def con_laws_eqIntS : Con := ⟨I_laws_eqIntS, U_laws_eqIntS, fun x => (fun n => some ((n, ()), ())) (n_laws_eqIntS x.1 x.2.1)⟩
theorem ok_laws_eqIntS : ConOk Tryz.prog 17 con_laws_eqIntS := (ok0_laws_eqIntS).mono (fun x r hk h => (nn_laws_eqIntS x.1 x.2.1 hk).trans h)
theorem eqr_laws_eqIntS (a : List Int) : n_laws_eqIntS a a = true := by rw [eqd_laws_eqIntS]; exact decide_eq_true rfl
end

/-! laws_eqIntSS -/
section
noncomputable def B_laws_eqIntSS : Code := (Tryz.f193.body).getD .skip
noncomputable def E_laws_eqIntSS : Env := envOf TT [(17, con_laws_eqIntS)] []
theorem fr_laws_eqIntSS_0 : FrOk Tryz.prog ⟨E_laws_eqIntSS, 27, fun _ => none⟩ B_laws_eqIntSS := frOk_base mixed tt_ok ⟨ok_laws_eqIntS, trivial⟩
noncomputable def D_laws_eqIntSS_0 : Nat → Option Seg := fun _ => none
def L_laws_eqIntSS_29 : Shape := ⟨[(0, false, [.br tL]), (1, false, [.br tL]), (5, false, [.int .i64])], [], []⟩
def S_laws_eqIntSS_29 : Shape := ⟨[(0, false, [.br tL]), (1, false, [.br tL]), (5, false, [.ci .i64 0])], [], []⟩
def O_laws_eqIntSS_29 : Shape := ⟨[], [], []⟩
def Z_laws_eqIntSS_29 : Shape := ⟨[(4, false, [.bool])], [], []⟩
noncomputable def st_laws_eqIntSS_29 (v0 : List (List Int)) (v1 : List (List Int)) (v2 : Int) : Option ((L_laws_eqIntSS_29).X ⊕ ((O_laws_eqIntSS_29).X ⊕ (Z_laws_eqIntSS_29).X)) :=
  bif (ltb v2 (v0.length : Int)) then
    bif (inb v2 v0.length) then
      bif (inb v2 v1.length) then
        let r2 := n_laws_eqIntS (nth v0 v2 []) (nth v1 v2 [])
        bif (!r2) then
          some (.inr (.inr (((false, ()), ()), (), ())))
        else
          some (.inl (((v0, ()), (v1, ()), ((IntKind.i64.wrap (v2 + 1)), ()), ()), (), ()))
      else none
    else none
  else
    some (.inr (.inl ((), (), ())))
noncomputable def stx_laws_eqIntSS_29 (x : (L_laws_eqIntSS_29).X) := st_laws_eqIntSS_29 x.1.1.1 x.1.2.1.1 x.1.2.2.1.1
def em_laws_eqIntSS_29 (x : (S_laws_eqIntSS_29).X) : (L_laws_eqIntSS_29).X := (((x.1.1.1, ()), (x.1.2.1.1, ()), (0, ()), ()), (), ())
noncomputable def c_laws_eqIntSS_29 : Code := (subN B_laws_eqIntSS 64 116).getD .skip
theorem a_laws_eqIntSS_29 : subN B_laws_eqIntSS 64 29 = some (.block 0 (.loop c_laws_eqIntSS_29)) := by kernel_rfl
theorem r_laws_eqIntSS_29 (x : (L_laws_eqIntSS_29).X) : roundT ⟨E_laws_eqIntSS, 27, D_laws_eqIntSS_0⟩ 0 c_laws_eqIntSS_29 116 L_laws_eqIntSS_29 O_laws_eqIntSS_29 Z_laws_eqIntSS_29 x = stx_laws_eqIntSS_29 x := by kernel_rfl
noncomputable def fu_laws_eqIntSS_29 (x : (S_laws_eqIntSS_29).X) : Nat := (fun (u0 : List (List Int)) (u1 : List (List Int)) => 18446744073709551616) x.1.1.1 x.1.2.1.1
noncomputable def F_laws_eqIntSS_29 (x : (S_laws_eqIntSS_29).X) : Option ((O_laws_eqIntSS_29).X ⊕ (Z_laws_eqIntSS_29).X) := loopN stx_laws_eqIntSS_29 (fu_laws_eqIntSS_29 x) (em_laws_eqIntSS_29 x)
noncomputable def sg_laws_eqIntSS_29 : Seg := ⟨S_laws_eqIntSS_29, O_laws_eqIntSS_29, Z_laws_eqIntSS_29, F_laws_eqIntSS_29⟩
noncomputable def D_laws_eqIntSS_1 : Nat → Option Seg := fun q => bif Nat.beq q 29 then some sg_laws_eqIntSS_29 else D_laws_eqIntSS_0 q
theorem fr_laws_eqIntSS_1 : FrOk Tryz.prog ⟨E_laws_eqIntSS, 27, D_laws_eqIntSS_1⟩ B_laws_eqIntSS := (fr_laws_eqIntSS_0).loop (sg := sg_laws_eqIntSS_29) L_laws_eqIntSS_29 em_laws_eqIntSS_29 (by decide) a_laws_eqIntSS_29 stx_laws_eqIntSS_29 fu_laws_eqIntSS_29 (by decide) (fun _ => rfl) (fun x r _ h => h) r_laws_eqIntSS_29
abbrev I_laws_eqIntSS : List Par := [.rd tLL, .rd tLL]
abbrev U_laws_eqIntSS : List OT := [⟨false, tB, .fz⟩]
noncomputable def raw_laws_eqIntSS (a0 : List (List Int)) (a1 : List (List Int)) : Option (ResD U_laws_eqIntSS × MutD I_laws_eqIntSS) :=
  bif ((a0.length : Int) != (a1.length : Int)) then
    some ((false, ()), ())
  else
    segM (F_laws_eqIntSS_29 (((a0, ()), (a1, ()), ((), ()), ()), (), ())) (fun y2 =>
      some ((true, ()), ())) (fun y2 =>
      some ((y2.1.1.1, ()), ()))
theorem e_laws_eqIntSS (x : InD I_laws_eqIntSS) : execF ⟨E_laws_eqIntSS, 27, D_laws_eqIntSS_1⟩ Tryz.f193.results.toList B_laws_eqIntSS I_laws_eqIntSS U_laws_eqIntSS x = raw_laws_eqIntSS x.1 x.2.1 := by kernel_rfl
theorem ok0_laws_eqIntSS : ConOk Tryz.prog 193 ⟨I_laws_eqIntSS, U_laws_eqIntSS, fun x => raw_laws_eqIntSS x.1 x.2.1⟩ := conOk_exec (fr_laws_eqIntSS_1) Tryz.func193 (by kernel_rfl) (by kernel_rfl) Tryz.ntmps193.symm (by decide) (fun x r h => (e_laws_eqIntSS x).trans h)
noncomputable def n_laws_eqIntSS (a0 a1 : List (List Int)) : Bool := decide (a0 = a1)
theorem nn_laws_eqIntSS (a0 a1 : List (List Int)) (hk : InOk I_laws_eqIntSS (a0, a1, ())) : raw_laws_eqIntSS a0 a1 = (fun n => some ((n, ()), ())) (n_laws_eqIntSS a0 a1) := by
  have hb : a0.length * 24 ≤ 2 ^ 47 := hk.1.1
  unfold raw_laws_eqIntSS n_laws_eqIntSS
  by_cases h : a0.length = a1.length
  · have hl : F_laws_eqIntSS_29 (((a0, ()), (a1, ()), ((), ()), ()), (), ()) = some (bif decide (a0 = a1) then .inl ((), (), ()) else .inr (((false, ()), ()), (), ())) :=
      loopN_eq (step := stx_laws_eqIntSS_29) a0 a1 ([] : List Int) (fun i => (((a0, ()), (a1, ()), ((i : Int), ()), ()), (), ())) n_laws_eqIntS eqd_laws_eqIntS _ _ h (fun i hi => by
        simp only [stx_laws_eqIntSS_29, st_laws_eqIntSS_29, inb_nat (h ▸ hi), inb_nat hi, nth_nat, Int.toNat_natCast, ltb_t (show (i : Int) < a0.length by omega), cond_true, wr (show -9223372036854775808 ≤ (i : Int) + 1 by omega) (by omega), Int.natCast_add, Int.natCast_one, pr_eta]
        cases n_laws_eqIntS (a0.getD i []) (a1.getD i []) <;> rfl) (by simp only [stx_laws_eqIntSS_29, st_laws_eqIntSS_29, ltb_f (Int.le_refl _), cond_false]) _ (by show _ < 18446744073709551616; omega)
    rw [show ((a0.length : Int) != (a1.length : Int)) = false by simp [h], bif_f, hl]
    cases decide (a0 = a1) <;> rfl
  · rw [show ((a0.length : Int) != (a1.length : Int)) = true from bne_iff_ne.2 (by omega), bif_t, decide_eq_false (fun e => h (congrArg _ e))]
theorem eqd_laws_eqIntSS (a0 a1 : List (List Int)) : n_laws_eqIntSS a0 a1 = decide (a0 = a1) := rfl
noncomputable def con_laws_eqIntSS : Con := ⟨I_laws_eqIntSS, U_laws_eqIntSS, fun x => (fun n => some ((n, ()), ())) (n_laws_eqIntSS x.1 x.2.1)⟩
theorem ok_laws_eqIntSS : ConOk Tryz.prog 193 con_laws_eqIntSS := (ok0_laws_eqIntSS).mono (fun x r hk h => (nn_laws_eqIntSS x.1 x.2.1 hk).trans h)
theorem eqr_laws_eqIntSS (a : List (List Int)) : n_laws_eqIntSS a a = true := by rw [eqd_laws_eqIntSS]; exact decide_eq_true rfl
end

/-! laws_eqWr -/
section
noncomputable def B_laws_eqWr : Code := (Tryz.f240.body).getD .skip
noncomputable def E_laws_eqWr : Env := envOf TT [(17, con_laws_eqIntS)] []
theorem fr_laws_eqWr_0 : FrOk Tryz.prog ⟨E_laws_eqWr, 16, fun _ => none⟩ B_laws_eqWr := frOk_base mixed tt_ok ⟨ok_laws_eqIntS, trivial⟩
noncomputable def D_laws_eqWr_0 : Nat → Option Seg := fun _ => none
abbrev I_laws_eqWr : List Par := [.rd tW, .rd tW]
abbrev U_laws_eqWr : List OT := [⟨false, tB, .fz⟩]
noncomputable def raw_laws_eqWr (a0 : dW) (a1 : dW) : Option (ResD U_laws_eqWr × MutD I_laws_eqWr) :=
  bif (a0.1 != a1.1) then
    some ((false, ()), ())
  else
    let r1 := n_laws_eqIntS a0.2 a1.2
    bif (!r1) then
      some ((false, ()), ())
    else
      some ((true, ()), ())
theorem e_laws_eqWr (x : InD I_laws_eqWr) : execF ⟨E_laws_eqWr, 16, D_laws_eqWr_0⟩ Tryz.f240.results.toList B_laws_eqWr I_laws_eqWr U_laws_eqWr x = raw_laws_eqWr x.1 x.2.1 := by kernel_rfl
theorem ok0_laws_eqWr : ConOk Tryz.prog 240 ⟨I_laws_eqWr, U_laws_eqWr, fun x => raw_laws_eqWr x.1 x.2.1⟩ := conOk_exec (fr_laws_eqWr_0) Tryz.func240 (by kernel_rfl) (by kernel_rfl) Tryz.ntmps240.symm (by decide) (fun x r h => (e_laws_eqWr x).trans h)
noncomputable def n_laws_eqWr (a0 : dW) (a1 : dW) : Bool :=
  bif (a0.1 != a1.1) then
    false
  else
    let r1 := n_laws_eqIntS a0.2 a1.2
    bif (!r1) then
      false
    else
      true
noncomputable def con_laws_eqWr : Con := ⟨I_laws_eqWr, U_laws_eqWr, fun x => (fun n => some ((n, ()), ())) (n_laws_eqWr x.1 x.2.1)⟩
theorem nn_laws_eqWr (a0 : dW) (a1 : dW) : raw_laws_eqWr a0 a1 = (fun n => some ((n, ()), ())) (n_laws_eqWr a0 a1) := bif_ty (p := fun (n : Bool) => ((n, ()), ())) (bif_some (p := fun (n : Bool) => ((n, ()), ())) rfl (bif_some (p := fun (n : Bool) => ((n, ()), ())) rfl rfl))
theorem ok_laws_eqWr : ConOk Tryz.prog 240 con_laws_eqWr := (ok0_laws_eqWr).mono (fun x r _ h => (nn_laws_eqWr x.1 x.2.1).trans h)
theorem eqd_laws_eqWr (a b : dW) : n_laws_eqWr a b = decide (a = b) := by
  unfold n_laws_eqWr
  simp only [eq_step1, eq_step2, eq_step3, eq_step4, eq_step5, eqd_laws_eqIntS, Prod.ext_iff, Bool.decide_and, Bool.and_true]
theorem eqr_laws_eqWr (a : dW) : n_laws_eqWr a a = true := by rw [eqd_laws_eqWr]; exact decide_eq_true rfl
end

/-! laws_eqWrS -/
section
noncomputable def B_laws_eqWrS : Code := (Tryz.f194.body).getD .skip
noncomputable def E_laws_eqWrS : Env := envOf TT [(240, con_laws_eqWr)] []
theorem fr_laws_eqWrS_0 : FrOk Tryz.prog ⟨E_laws_eqWrS, 27, fun _ => none⟩ B_laws_eqWrS := frOk_base mixed tt_ok ⟨ok_laws_eqWr, trivial⟩
noncomputable def D_laws_eqWrS_0 : Nat → Option Seg := fun _ => none
def L_laws_eqWrS_29 : Shape := ⟨[(0, false, [.br tW]), (1, false, [.br tW]), (5, false, [.int .i64])], [], []⟩
def S_laws_eqWrS_29 : Shape := ⟨[(0, false, [.br tW]), (1, false, [.br tW]), (5, false, [.ci .i64 0])], [], []⟩
def O_laws_eqWrS_29 : Shape := ⟨[], [], []⟩
def Z_laws_eqWrS_29 : Shape := ⟨[(4, false, [.bool])], [], []⟩
noncomputable def st_laws_eqWrS_29 (v0 : List dW) (v1 : List dW) (v2 : Int) : Option ((L_laws_eqWrS_29).X ⊕ ((O_laws_eqWrS_29).X ⊕ (Z_laws_eqWrS_29).X)) :=
  bif (ltb v2 (v0.length : Int)) then
    bif (inb v2 v0.length) then
      bif (inb v2 v1.length) then
        let r2 := n_laws_eqWr (nth v0 v2 (0, [])) (nth v1 v2 (0, []))
        bif (!r2) then
          some (.inr (.inr (((false, ()), ()), (), ())))
        else
          some (.inl (((v0, ()), (v1, ()), ((IntKind.i64.wrap (v2 + 1)), ()), ()), (), ()))
      else none
    else none
  else
    some (.inr (.inl ((), (), ())))
noncomputable def stx_laws_eqWrS_29 (x : (L_laws_eqWrS_29).X) := st_laws_eqWrS_29 x.1.1.1 x.1.2.1.1 x.1.2.2.1.1
def em_laws_eqWrS_29 (x : (S_laws_eqWrS_29).X) : (L_laws_eqWrS_29).X := (((x.1.1.1, ()), (x.1.2.1.1, ()), (0, ()), ()), (), ())
noncomputable def c_laws_eqWrS_29 : Code := (subN B_laws_eqWrS 64 116).getD .skip
theorem a_laws_eqWrS_29 : subN B_laws_eqWrS 64 29 = some (.block 0 (.loop c_laws_eqWrS_29)) := by kernel_rfl
theorem r_laws_eqWrS_29 (x : (L_laws_eqWrS_29).X) : roundT ⟨E_laws_eqWrS, 27, D_laws_eqWrS_0⟩ 0 c_laws_eqWrS_29 116 L_laws_eqWrS_29 O_laws_eqWrS_29 Z_laws_eqWrS_29 x = stx_laws_eqWrS_29 x := by kernel_rfl
noncomputable def fu_laws_eqWrS_29 (x : (S_laws_eqWrS_29).X) : Nat := (fun (u0 : List dW) (u1 : List dW) => 18446744073709551616) x.1.1.1 x.1.2.1.1
noncomputable def F_laws_eqWrS_29 (x : (S_laws_eqWrS_29).X) : Option ((O_laws_eqWrS_29).X ⊕ (Z_laws_eqWrS_29).X) := loopN stx_laws_eqWrS_29 (fu_laws_eqWrS_29 x) (em_laws_eqWrS_29 x)
noncomputable def sg_laws_eqWrS_29 : Seg := ⟨S_laws_eqWrS_29, O_laws_eqWrS_29, Z_laws_eqWrS_29, F_laws_eqWrS_29⟩
noncomputable def D_laws_eqWrS_1 : Nat → Option Seg := fun q => bif Nat.beq q 29 then some sg_laws_eqWrS_29 else D_laws_eqWrS_0 q
theorem fr_laws_eqWrS_1 : FrOk Tryz.prog ⟨E_laws_eqWrS, 27, D_laws_eqWrS_1⟩ B_laws_eqWrS := (fr_laws_eqWrS_0).loop (sg := sg_laws_eqWrS_29) L_laws_eqWrS_29 em_laws_eqWrS_29 (by decide) a_laws_eqWrS_29 stx_laws_eqWrS_29 fu_laws_eqWrS_29 (by decide) (fun _ => rfl) (fun x r _ h => h) r_laws_eqWrS_29
abbrev I_laws_eqWrS : List Par := [.rd tWs, .rd tWs]
abbrev U_laws_eqWrS : List OT := [⟨false, tB, .fz⟩]
noncomputable def raw_laws_eqWrS (a0 : List dW) (a1 : List dW) : Option (ResD U_laws_eqWrS × MutD I_laws_eqWrS) :=
  bif ((a0.length : Int) != (a1.length : Int)) then
    some ((false, ()), ())
  else
    segM (F_laws_eqWrS_29 (((a0, ()), (a1, ()), ((), ()), ()), (), ())) (fun y2 =>
      some ((true, ()), ())) (fun y2 =>
      some ((y2.1.1.1, ()), ()))
theorem e_laws_eqWrS (x : InD I_laws_eqWrS) : execF ⟨E_laws_eqWrS, 27, D_laws_eqWrS_1⟩ Tryz.f194.results.toList B_laws_eqWrS I_laws_eqWrS U_laws_eqWrS x = raw_laws_eqWrS x.1 x.2.1 := by kernel_rfl
theorem ok0_laws_eqWrS : ConOk Tryz.prog 194 ⟨I_laws_eqWrS, U_laws_eqWrS, fun x => raw_laws_eqWrS x.1 x.2.1⟩ := conOk_exec (fr_laws_eqWrS_1) Tryz.func194 (by kernel_rfl) (by kernel_rfl) Tryz.ntmps194.symm (by decide) (fun x r h => (e_laws_eqWrS x).trans h)
noncomputable def n_laws_eqWrS (a0 a1 : List (dW)) : Bool := decide (a0 = a1)
theorem nn_laws_eqWrS (a0 a1 : List (dW)) (hk : InOk I_laws_eqWrS (a0, a1, ())) : raw_laws_eqWrS a0 a1 = (fun n => some ((n, ()), ())) (n_laws_eqWrS a0 a1) := by
  have hb : a0.length * 32 ≤ 2 ^ 47 := hk.1.1
  unfold raw_laws_eqWrS n_laws_eqWrS
  by_cases h : a0.length = a1.length
  · have hl : F_laws_eqWrS_29 (((a0, ()), (a1, ()), ((), ()), ()), (), ()) = some (bif decide (a0 = a1) then .inl ((), (), ()) else .inr (((false, ()), ()), (), ())) :=
      loopN_eq (step := stx_laws_eqWrS_29) a0 a1 ((0, []) : dW) (fun i => (((a0, ()), (a1, ()), ((i : Int), ()), ()), (), ())) n_laws_eqWr eqd_laws_eqWr _ _ h (fun i hi => by
        simp only [stx_laws_eqWrS_29, st_laws_eqWrS_29, inb_nat (h ▸ hi), inb_nat hi, nth_nat, Int.toNat_natCast, ltb_t (show (i : Int) < a0.length by omega), cond_true, wr (show -9223372036854775808 ≤ (i : Int) + 1 by omega) (by omega), Int.natCast_add, Int.natCast_one, pr_eta]
        cases n_laws_eqWr (a0.getD i (0, [])) (a1.getD i (0, [])) <;> rfl) (by simp only [stx_laws_eqWrS_29, st_laws_eqWrS_29, ltb_f (Int.le_refl _), cond_false]) _ (by show _ < 18446744073709551616; omega)
    rw [show ((a0.length : Int) != (a1.length : Int)) = false by simp [h], bif_f, hl]
    cases decide (a0 = a1) <;> rfl
  · rw [show ((a0.length : Int) != (a1.length : Int)) = true from bne_iff_ne.2 (by omega), bif_t, decide_eq_false (fun e => h (congrArg _ e))]
theorem eqd_laws_eqWrS (a0 a1 : List (dW)) : n_laws_eqWrS a0 a1 = decide (a0 = a1) := rfl
noncomputable def con_laws_eqWrS : Con := ⟨I_laws_eqWrS, U_laws_eqWrS, fun x => (fun n => some ((n, ()), ())) (n_laws_eqWrS x.1 x.2.1)⟩
theorem ok_laws_eqWrS : ConOk Tryz.prog 194 con_laws_eqWrS := (ok0_laws_eqWrS).mono (fun x r hk h => (nn_laws_eqWrS x.1 x.2.1 hk).trans h)
theorem eqr_laws_eqWrS (a : List dW) : n_laws_eqWrS a a = true := by rw [eqd_laws_eqWrS]; exact decide_eq_true rfl
end

/-! laws_eqMem -/
section
noncomputable def B_laws_eqMem : Code := (Tryz.f115.body).getD .skip
noncomputable def E_laws_eqMem : Env := envOf TT [(17, con_laws_eqIntS), (193, con_laws_eqIntSS), (194, con_laws_eqWrS)] []
theorem fr_laws_eqMem_0 : FrOk Tryz.prog ⟨E_laws_eqMem, 28, fun _ => none⟩ B_laws_eqMem := frOk_base mixed tt_ok ⟨ok_laws_eqIntS, ok_laws_eqIntSS, ok_laws_eqWrS, trivial⟩
noncomputable def D_laws_eqMem_0 : Nat → Option Seg := fun _ => none
abbrev I_laws_eqMem : List Par := [.rd tM, .rd tM]
abbrev U_laws_eqMem : List OT := [⟨false, tB, .fz⟩]
noncomputable def raw_laws_eqMem (a0 : dM) (a1 : dM) : Option (ResD U_laws_eqMem × MutD I_laws_eqMem) :=
  let r1 := n_laws_eqIntSS a0.1 a1.1
  bif (!r1) then
    some ((false, ()), ())
  else
    let r2 := n_laws_eqWrS a0.2.1 a1.2.1
    bif (!r2) then
      some ((false, ()), ())
    else
      bif (!(a0.2.2.1 == a1.2.2.1)) then
        some ((false, ()), ())
      else
        let r3 := n_laws_eqIntS a0.2.2.2 a1.2.2.2
        bif (!r3) then
          some ((false, ()), ())
        else
          some ((true, ()), ())
theorem e_laws_eqMem (x : InD I_laws_eqMem) : execF ⟨E_laws_eqMem, 28, D_laws_eqMem_0⟩ Tryz.f115.results.toList B_laws_eqMem I_laws_eqMem U_laws_eqMem x = raw_laws_eqMem x.1 x.2.1 := by kernel_rfl
theorem ok0_laws_eqMem : ConOk Tryz.prog 115 ⟨I_laws_eqMem, U_laws_eqMem, fun x => raw_laws_eqMem x.1 x.2.1⟩ := conOk_exec (fr_laws_eqMem_0) Tryz.func115 (by kernel_rfl) (by kernel_rfl) Tryz.ntmps115.symm (by decide) (fun x r h => (e_laws_eqMem x).trans h)
noncomputable def n_laws_eqMem (a0 : dM) (a1 : dM) : Bool :=
  let r1 := n_laws_eqIntSS a0.1 a1.1
  bif (!r1) then
    false
  else
    let r2 := n_laws_eqWrS a0.2.1 a1.2.1
    bif (!r2) then
      false
    else
      bif (!(a0.2.2.1 == a1.2.2.1)) then
        false
      else
        let r3 := n_laws_eqIntS a0.2.2.2 a1.2.2.2
        bif (!r3) then
          false
        else
          true
noncomputable def con_laws_eqMem : Con := ⟨I_laws_eqMem, U_laws_eqMem, fun x => (fun n => some ((n, ()), ())) (n_laws_eqMem x.1 x.2.1)⟩
theorem nn_laws_eqMem (a0 : dM) (a1 : dM) : raw_laws_eqMem a0 a1 = (fun n => some ((n, ()), ())) (n_laws_eqMem a0 a1) := bif_ty (p := fun (n : Bool) => ((n, ()), ())) (bif_some (p := fun (n : Bool) => ((n, ()), ())) rfl (bif_some (p := fun (n : Bool) => ((n, ()), ())) rfl (bif_some (p := fun (n : Bool) => ((n, ()), ())) rfl (bif_some (p := fun (n : Bool) => ((n, ()), ())) rfl rfl))))
theorem ok_laws_eqMem : ConOk Tryz.prog 115 con_laws_eqMem := (ok0_laws_eqMem).mono (fun x r _ h => (nn_laws_eqMem x.1 x.2.1).trans h)
theorem eqd_laws_eqMem (a b : dM) : n_laws_eqMem a b = decide (a = b) := by
  unfold n_laws_eqMem
  simp only [eq_step1, eq_step2, eq_step3, eq_step4, eq_step5, eqd_laws_eqIntS, eqd_laws_eqIntSS, eqd_laws_eqWrS, Prod.ext_iff, Bool.decide_and, Bool.and_true]
theorem eqr_laws_eqMem (a : dM) : n_laws_eqMem a a = true := by rw [eqd_laws_eqMem]; exact decide_eq_true rfl
end
end Go.Tf
