/- Functions of the program, and what they come to. -/
import Derived.Test.YtfpfaanblbakkaaExactDoCmdsTt
namespace Go.Tf
open Go.Proofs
set_option synthInstance.maxHeartbeats 400000
set_option synthInstance.maxSize 10000
set_option linter.unusedVariables false
set_option linter.unusedSimpArgs false
set_option maxRecDepth 100000
/-! laws_toGeo -/
section
noncomputable def B_laws_toGeo : Code := (Try.f15.body).getD .skip
noncomputable def E_laws_toGeo : Env := envOf TT [] []
theorem fr_laws_toGeo_0 : FrOk Try.prog ⟨E_laws_toGeo, 11, fun _ => none⟩ B_laws_toGeo := frOk_base mixed tt_ok trivial
noncomputable def D_laws_toGeo_0 : Nat → Option Seg := fun _ => none
abbrev I_laws_toGeo : List Par := [.rd tG]
abbrev U_laws_toGeo : List OT := [⟨false, tG, (.pr .fz .fz)⟩]
noncomputable def raw_laws_toGeo (a0 : Int × Int) : Option (ResD U_laws_toGeo × MutD I_laws_toGeo) :=
  some ((a0, ()), ())
theorem e_laws_toGeo (x : InD I_laws_toGeo) : execF ⟨E_laws_toGeo, 11, D_laws_toGeo_0⟩ Try.f15.results.toList B_laws_toGeo I_laws_toGeo U_laws_toGeo x = raw_laws_toGeo x.1 := by kernel_rfl
theorem ok0_laws_toGeo : ConOk Try.prog 15 ⟨I_laws_toGeo, U_laws_toGeo, fun x => raw_laws_toGeo x.1⟩ := conOk_exec (fr_laws_toGeo_0) Try.func15 (by kernel_rfl) (by kernel_rfl) Try.ntmps15.symm (by decide) (fun x r h => (e_laws_toGeo x).trans h)
noncomputable def n_laws_toGeo (a0 : Int × Int) : (Int × Int) :=
  a0
noncomputable def con_laws_toGeo : Con := ⟨I_laws_toGeo, U_laws_toGeo, fun x => (fun n => some ((n, ()), ())) (n_laws_toGeo x.1)⟩
theorem nn_laws_toGeo (a0 : Int × Int) : raw_laws_toGeo a0 = (fun n => some ((n, ()), ())) (n_laws_toGeo a0) := bif_ty (p := fun (n : (Int × Int)) => ((n, ()), ())) rfl
theorem ok_laws_toGeo : ConOk Try.prog 15 con_laws_toGeo := (ok0_laws_toGeo).mono (fun x r _ h => (nn_laws_toGeo x.1).trans h)
theorem id_laws_toGeo (a : Int × Int) : n_laws_toGeo a = a := by kernel_rfl
end

/-! laws_toIntS -/
section
noncomputable def B_laws_toIntS : Code := (Try.f22.body).getD .skip
noncomputable def E_laws_toIntS : Env := envOf TT [] []
theorem fr_laws_toIntS_0 : FrOk Try.prog ⟨E_laws_toIntS, 22, fun _ => none⟩ B_laws_toIntS := frOk_base mixed tt_ok trivial
noncomputable def D_laws_toIntS_0 : Nat → Option Seg := fun _ => none
def L_laws_toIntS_29 : Shape := ⟨[(0, false, [.br tI]), (3, false, [.at 800000000]), (4, false, [.int .i64])], [], [(800000000, tI, .fz)]⟩
def S_laws_toIntS_29 : Shape := ⟨[(0, false, [.br tI]), (3, false, [.at 800000000]), (4, false, [.ci .i64 0])], [], [(800000000, tI, .fz)]⟩
def O_laws_toIntS_29 : Shape := ⟨[(3, false, [.at 800000000])], [], [(800000000, tI, .fz)]⟩
def Z_laws_toIntS_29 : Shape := ⟨[], [], []⟩
noncomputable def st_laws_toIntS_29 (v0 : List Int) (v1 : Int) (v2 : List Int) : Option ((L_laws_toIntS_29).X ⊕ ((O_laws_toIntS_29).X ⊕ (Z_laws_toIntS_29).X)) :=
  bif (ltb v1 (v0.length : Int)) then
    bif (inb v1 v0.length) then
      bif (inb v1 v2.length) then
        some (.inl (((v0, ()), ((), ()), ((IntKind.i64.wrap (v1 + 1)), ()), ()), (), ((v2.set (v1).toNat (nth v0 v1 0)), ())))
      else none
    else none
  else
    some (.inr (.inl ((((), ()), ()), (), (v2, ()))))
noncomputable def stx_laws_toIntS_29 (x : (L_laws_toIntS_29).X) := st_laws_toIntS_29 x.1.1.1 x.1.2.2.1.1 x.2.2.1
def em_laws_toIntS_29 (x : (S_laws_toIntS_29).X) : (L_laws_toIntS_29).X := (((x.1.1.1, ()), ((), ()), (0, ()), ()), (), (x.2.2.1, ()))
noncomputable def c_laws_toIntS_29 : Code := (subN B_laws_toIntS 64 116).getD .skip
theorem a_laws_toIntS_29 : subN B_laws_toIntS 64 29 = some (.block 0 (.loop c_laws_toIntS_29)) := by kernel_rfl
theorem r_laws_toIntS_29 (x : (L_laws_toIntS_29).X) : roundT ⟨E_laws_toIntS, 22, D_laws_toIntS_0⟩ 0 c_laws_toIntS_29 116 L_laws_toIntS_29 O_laws_toIntS_29 Z_laws_toIntS_29 x = stx_laws_toIntS_29 x := by kernel_rfl
noncomputable def fu_laws_toIntS_29 (x : (S_laws_toIntS_29).X) : Nat := (fun (u0 : List Int) (u1 : List Int) => 18446744073709551616) x.1.1.1 x.2.2.1
noncomputable def F_laws_toIntS_29 (x : (S_laws_toIntS_29).X) : Option ((O_laws_toIntS_29).X ⊕ (Z_laws_toIntS_29).X) := loopN stx_laws_toIntS_29 (fu_laws_toIntS_29 x) (em_laws_toIntS_29 x)
noncomputable def sg_laws_toIntS_29 : Seg := ⟨S_laws_toIntS_29, O_laws_toIntS_29, Z_laws_toIntS_29, F_laws_toIntS_29⟩
noncomputable def D_laws_toIntS_1 : Nat → Option Seg := fun q => bif Nat.beq q 29 then some sg_laws_toIntS_29 else D_laws_toIntS_0 q
theorem fr_laws_toIntS_1 : FrOk Try.prog ⟨E_laws_toIntS, 22, D_laws_toIntS_1⟩ B_laws_toIntS := (fr_laws_toIntS_0).loop (sg := sg_laws_toIntS_29) L_laws_toIntS_29 em_laws_toIntS_29 (by decide) a_laws_toIntS_29 stx_laws_toIntS_29 fu_laws_toIntS_29 (by decide) (fun _ => rfl) (fun x r _ h => h) r_laws_toIntS_29
abbrev I_laws_toIntS : List Par := [.rd tL]
abbrev U_laws_toIntS : List OT := [⟨false, tL, (.ow .fz)⟩]
noncomputable def raw_laws_toIntS (a0 : List Int) : Option (ResD U_laws_toIntS × MutD I_laws_toIntS) :=
  bif (mkok (a0.length : Int) 8) then
    segM (F_laws_toIntS_29 (((a0, ()), ((), ()), ((), ()), ()), (), ((List.replicate ((a0.length : Int)).toNat (0 : Int)), ()))) (fun y0 =>
      some ((y0.2.2.1, ()), ())) (fun y0 =>
      none)
  else none
theorem e_laws_toIntS (x : InD I_laws_toIntS) : execF ⟨E_laws_toIntS, 22, D_laws_toIntS_1⟩ Try.f22.results.toList B_laws_toIntS I_laws_toIntS U_laws_toIntS x = raw_laws_toIntS x.1 := by kernel_rfl
theorem ok0_laws_toIntS : ConOk Try.prog 22 ⟨I_laws_toIntS, U_laws_toIntS, fun x => raw_laws_toIntS x.1⟩ := conOk_exec (fr_laws_toIntS_1) Try.func22 (by kernel_rfl) (by kernel_rfl) Try.ntmps22.symm (by decide) (fun x r h => (e_laws_toIntS x).trans h)
noncomputable def n_laws_toIntS (a0 : List Int) : List Int := a0
theorem nn_laws_toIntS (a0 : List Int) (hk : InOk I_laws_toIntS (a0, ())) : raw_laws_toIntS a0 = (fun n => some ((n, ()), ())) (n_laws_toIntS a0) := by
  have hb : a0.length * 8 ≤ 2 ^ 47 := hk.1.1
  have hs : ∀ i, i < a0.length → (a0.take i ++ List.replicate (a0.length - i) (0 : Int)).set i (a0.getD i 0) = a0.take (i + 1) ++ List.replicate (a0.length - (i + 1)) 0 := fun i hi => by
    have hl : (a0.take i).length = i := by rw [List.length_take]; omega
    rw [List.set_append_right _ _ (by rw [hl]; exact Nat.le_refl _), hl, Nat.sub_self, List.take_add_one, List.append_assoc, show a0.length - i = (a0.length - (i + 1)) + 1 by omega, List.replicate_succ]
    simp [hi]
  have hl : F_laws_toIntS_29 (((a0, ()), ((), ()), ((), ()), ()), (), ((a0.take 0 ++ List.replicate (a0.length - 0) 0), ())) = some (.inl ((((), ()), ()), (), (a0.take a0.length ++ List.replicate (a0.length - a0.length) 0, ()))) :=
    loopN_up (step := stx_laws_toIntS_29) (fun i => (((a0, ()), ((), ()), ((i : Int), ()), ()), (), (a0.take i ++ List.replicate (a0.length - i) 0, ()))) a0.length _ (fun i hi => by
      have hL : (a0.take i ++ List.replicate (a0.length - i) (0 : Int)).length = a0.length := by rw [List.length_append, List.length_take, List.length_replicate]; omega
      simp only [stx_laws_toIntS_29, st_laws_toIntS_29, hL, inb_nat hi, nth_nat, Int.toNat_natCast, ltb_t (show (i : Int) < a0.length by omega), cond_true, wr (show -9223372036854775808 ≤ (i : Int) + 1 by omega) (by omega), Int.natCast_add, Int.natCast_one, hs i hi]) (by
      simp only [stx_laws_toIntS_29, st_laws_toIntS_29, ltb_f (Int.le_refl _), cond_false]) _ (by show _ < 18446744073709551616; omega)
  unfold raw_laws_toIntS n_laws_toIntS
  rw [List.take_zero, List.nil_append, Nat.sub_zero] at hl
  rw [show mkok (a0.length : Int) 8 = true by rw [mkok_iff]; omega, bif_t, Int.toNat_natCast, hl]
  simp [segM]
noncomputable def con_laws_toIntS : Con := ⟨I_laws_toIntS, U_laws_toIntS, fun x => (fun n => some ((n, ()), ())) (n_laws_toIntS x.1)⟩
theorem ok_laws_toIntS : ConOk Try.prog 22 con_laws_toIntS := (ok0_laws_toIntS).mono (fun x r hk h => (nn_laws_toIntS x.1 hk).trans h)
theorem id_laws_toIntS (a : List Int) : n_laws_toIntS a = a := by kernel_rfl
end

/-! laws_eqIntS -/
section
noncomputable def B_laws_eqIntS : Code := (Try.f24.body).getD .skip
noncomputable def E_laws_eqIntS : Env := envOf TT [] []
theorem fr_laws_eqIntS_0 : FrOk Try.prog ⟨E_laws_eqIntS, 26, fun _ => none⟩ B_laws_eqIntS := frOk_base mixed tt_ok trivial
noncomputable def D_laws_eqIntS_0 : Nat → Option Seg := fun _ => none
def L_laws_eqIntS_29 : Shape := ⟨[(0, false, [.br tI]), (1, false, [.br tI]), (5, false, [.int .i64])], [], []⟩
def S_laws_eqIntS_29 : Shape := ⟨[(0, false, [.br tI]), (1, false, [.br tI]), (5, false, [.ci .i64 0])], [], []⟩
def O_laws_eqIntS_29 : Shape := ⟨[], [], []⟩
def Z_laws_eqIntS_29 : Shape := ⟨[(4, false, [.bool])], [], []⟩
noncomputable def st_laws_eqIntS_29 (v0 : List Int) (v1 : List Int) (v2 : Int) : Option ((L_laws_eqIntS_29).X ⊕ ((O_laws_eqIntS_29).X ⊕ (Z_laws_eqIntS_29).X)) :=
  bif (ltb v2 (v0.length : Int)) then
    bif (inb v2 v0.length) then
      bif (inb v2 v1.length) then
        bif ((nth v0 v2 0) != (nth v1 v2 0)) then
          some (.inr (.inr (((false, ()), ()), (), ())))
        else
          some (.inl (((v0, ()), (v1, ()), ((IntKind.i64.wrap (v2 + 1)), ()), ()), (), ()))
      else none
    else none
  else
    some (.inr (.inl ((), (), ())))
noncomputable def stx_laws_eqIntS_29 (x : (L_laws_eqIntS_29).X) := st_laws_eqIntS_29 x.1.1.1 x.1.2.1.1 x.1.2.2.1.1
def em_laws_eqIntS_29 (x : (S_laws_eqIntS_29).X) : (L_laws_eqIntS_29).X := (((x.1.1.1, ()), (x.1.2.1.1, ()), (0, ()), ()), (), ())
noncomputable def c_laws_eqIntS_29 : Code := (subN B_laws_eqIntS 64 116).getD .skip
theorem a_laws_eqIntS_29 : subN B_laws_eqIntS 64 29 = some (.block 0 (.loop c_laws_eqIntS_29)) := by kernel_rfl
theorem r_laws_eqIntS_29 (x : (L_laws_eqIntS_29).X) : roundT ⟨E_laws_eqIntS, 26, D_laws_eqIntS_0⟩ 0 c_laws_eqIntS_29 116 L_laws_eqIntS_29 O_laws_eqIntS_29 Z_laws_eqIntS_29 x = stx_laws_eqIntS_29 x := by kernel_rfl
noncomputable def fu_laws_eqIntS_29 (x : (S_laws_eqIntS_29).X) : Nat := (fun (u0 : List Int) (u1 : List Int) => 18446744073709551616) x.1.1.1 x.1.2.1.1
noncomputable def F_laws_eqIntS_29 (x : (S_laws_eqIntS_29).X) : Option ((O_laws_eqIntS_29).X ⊕ (Z_laws_eqIntS_29).X) := loopN stx_laws_eqIntS_29 (fu_laws_eqIntS_29 x) (em_laws_eqIntS_29 x)
noncomputable def sg_laws_eqIntS_29 : Seg := ⟨S_laws_eqIntS_29, O_laws_eqIntS_29, Z_laws_eqIntS_29, F_laws_eqIntS_29⟩
noncomputable def D_laws_eqIntS_1 : Nat → Option Seg := fun q => bif Nat.beq q 29 then some sg_laws_eqIntS_29 else D_laws_eqIntS_0 q
theorem fr_laws_eqIntS_1 : FrOk Try.prog ⟨E_laws_eqIntS, 26, D_laws_eqIntS_1⟩ B_laws_eqIntS := (fr_laws_eqIntS_0).loop (sg := sg_laws_eqIntS_29) L_laws_eqIntS_29 em_laws_eqIntS_29 (by decide) a_laws_eqIntS_29 stx_laws_eqIntS_29 fu_laws_eqIntS_29 (by decide) (fun _ => rfl) (fun x r _ h => h) r_laws_eqIntS_29
abbrev I_laws_eqIntS : List Par := [.rd tL, .rd tL]
abbrev U_laws_eqIntS : List OT := [⟨false, tB, .fz⟩]
noncomputable def raw_laws_eqIntS (a0 : List Int) (a1 : List Int) : Option (ResD U_laws_eqIntS × MutD I_laws_eqIntS) :=
  bif ((a0.length : Int) != (a1.length : Int)) then
    some ((false, ()), ())
  else
    segM (F_laws_eqIntS_29 (((a0, ()), (a1, ()), ((), ()), ()), (), ())) (fun y0 =>
      some ((true, ()), ())) (fun y0 =>
      some ((y0.1.1.1, ()), ()))
theorem e_laws_eqIntS (x : InD I_laws_eqIntS) : execF ⟨E_laws_eqIntS, 26, D_laws_eqIntS_1⟩ Try.f24.results.toList B_laws_eqIntS I_laws_eqIntS U_laws_eqIntS x = raw_laws_eqIntS x.1 x.2.1 := by kernel_rfl
theorem ok0_laws_eqIntS : ConOk Try.prog 24 ⟨I_laws_eqIntS, U_laws_eqIntS, fun x => raw_laws_eqIntS x.1 x.2.1⟩ := conOk_exec (fr_laws_eqIntS_1) Try.func24 (by kernel_rfl) (by kernel_rfl) Try.ntmps24.symm (by decide) (fun x r h => (e_laws_eqIntS x).trans h)
noncomputable def n_laws_eqIntS (a0 a1 : List Int) : Bool := decide (a0 = a1)
theorem nn_laws_eqIntS (a0 a1 : List Int) (hk : InOk I_laws_eqIntS (a0, a1, ())) : raw_laws_eqIntS a0 a1 = (fun n => some ((n, ()), ())) (n_laws_eqIntS a0 a1) := by
  have hb : a0.length * 8 ≤ 2 ^ 47 := hk.1.1
  have hl : a0.length = a1.length → F_laws_eqIntS_29 (((a0, ()), (a1, ()), ((), ()), ()), (), ()) = some (bif (List.range a0.length).any (fun i => a0.getD i 0 != a1.getD i 0) then .inr (((false, ()), ()), (), ()) else .inl ((), (), ())) := fun hL =>
    loopN_all (step := stx_laws_eqIntS_29) (fun i => (((a0, ()), (a1, ()), ((i : Int), ()), ()), (), ())) a0.length (fun i => a0.getD i 0 != a1.getD i 0) _ _ (fun i hi => by
      simp only [stx_laws_eqIntS_29, st_laws_eqIntS_29, inb_nat hi, inb_nat (hL ▸ hi), nth_nat, ltb_t (show (i : Int) < a0.length by omega), cond_true, wr (show -9223372036854775808 ≤ (i : Int) + 1 by omega) (by omega), Int.natCast_add, Int.natCast_one]
      cases (a0.getD i 0 != a1.getD i 0) <;> rfl) (by simp only [stx_laws_eqIntS_29, st_laws_eqIntS_29, ltb_f (Int.le_refl _), cond_false]) _ (by show _ < 18446744073709551616; omega)
  unfold raw_laws_eqIntS n_laws_eqIntS
  by_cases h : a0.length = a1.length
  · rw [show ((a0.length : Int) != (a1.length : Int)) = false by simp [h], bif_f, hl h]
    by_cases e : a0 = a1
    · subst e
      have : (List.range a0.length).any (fun i => a0.getD i 0 != a0.getD i 0) = false := by simp
      rw [this, decide_eq_true rfl]
      rfl
    · have : (List.range a0.length).any (fun i => a0.getD i 0 != a1.getD i 0) = true := by
        rcases Bool.eq_false_or_eq_true ((List.range a0.length).any (fun i => a0.getD i 0 != a1.getD i 0)) with h2 | h2
        · exact h2
        · refine absurd (List.ext_getElem h fun i h3 h4 => ?_) e
          rw [List.any_eq_false] at h2
          have := h2 i (List.mem_range.2 h3)
          simpa [h3, h4] using this
      rw [this, decide_eq_false e]
      rfl
  · rw [show ((a0.length : Int) != (a1.length : Int)) = true from bne_iff_ne.2 (by omega), bif_t, decide_eq_false (fun e => h (congrArg _ e))]
theorem eqd_laws_eqIntS (a b : List Int) : n_laws_eqIntS a b = decide (a = b) := rfl
noncomputable def con_laws_eqIntS : Con := ⟨I_laws_eqIntS, U_laws_eqIntS, fun x => (fun n => some ((n, ()), ())) (n_laws_eqIntS x.1 x.2.1)⟩
theorem ok_laws_eqIntS : ConOk Try.prog 24 con_laws_eqIntS := (ok0_laws_eqIntS).mono (fun x r hk h => (nn_laws_eqIntS x.1 x.2.1 hk).trans h)
theorem eqr_laws_eqIntS (a : List Int) : n_laws_eqIntS a a = true := by rw [eqd_laws_eqIntS]; exact decide_eq_true rfl
end

/-! laws_markIntS -/
section
noncomputable def B_laws_markIntS : Code := (Try.f26.body).getD .skip
noncomputable def E_laws_markIntS : Env := envOf TT [] []
theorem fr_laws_markIntS_0 : FrOk Try.prog ⟨E_laws_markIntS, 19, fun _ => none⟩ B_laws_markIntS := frOk_base mixed tt_ok trivial
noncomputable def D_laws_markIntS_0 : Nat → Option Seg := fun _ => none
def L_laws_markIntS_13 : Shape := ⟨[(0, false, [.at 1000001000]), (1, false, [.int .i64]), (5, false, [.int .i64])], [], [(1000001000, tI, .fz)]⟩
def S_laws_markIntS_13 : Shape := ⟨[(0, false, [.at 1000001000]), (1, false, [.int .i64]), (5, false, [.ci .i64 0])], [], [(1000001000, tI, .fz)]⟩
def O_laws_markIntS_13 : Shape := ⟨[(1, false, [.int .i64])], [], [(1000001000, tI, .fz)]⟩
def Z_laws_markIntS_13 : Shape := ⟨[], [], []⟩
noncomputable def st_laws_markIntS_13 (v0 : Int) (v1 : Int) (v2 : List Int) : Option ((L_laws_markIntS_13).X ⊕ ((O_laws_markIntS_13).X ⊕ (Z_laws_markIntS_13).X)) :=
  bif (ltb v1 (v2.length : Int)) then
    bif (inb v1 v2.length) then
      some (.inl ((((), ()), ((IntKind.i64.wrap (v0 + 1)), ()), ((IntKind.i64.wrap (v1 + 1)), ()), ()), (), ((v2.set (v1).toNat v0), ())))
    else none
  else
    some (.inr (.inl (((v0, ()), ()), (), (v2, ()))))
noncomputable def stx_laws_markIntS_13 (x : (L_laws_markIntS_13).X) := st_laws_markIntS_13 x.1.2.1.1 x.1.2.2.1.1 x.2.2.1
def em_laws_markIntS_13 (x : (S_laws_markIntS_13).X) : (L_laws_markIntS_13).X := ((((), ()), (x.1.2.1.1, ()), (0, ()), ()), (), (x.2.2.1, ()))
noncomputable def c_laws_markIntS_13 : Code := (subN B_laws_markIntS 64 52).getD .skip
theorem a_laws_markIntS_13 : subN B_laws_markIntS 64 13 = some (.block 0 (.loop c_laws_markIntS_13)) := by kernel_rfl
theorem r_laws_markIntS_13 (x : (L_laws_markIntS_13).X) : roundT ⟨E_laws_markIntS, 19, D_laws_markIntS_0⟩ 0 c_laws_markIntS_13 52 L_laws_markIntS_13 O_laws_markIntS_13 Z_laws_markIntS_13 x = stx_laws_markIntS_13 x := by kernel_rfl
noncomputable def fu_laws_markIntS_13 (x : (S_laws_markIntS_13).X) : Nat := (fun (u0 : Int) (u1 : List Int) => 18446744073709551616) x.1.2.1.1 x.2.2.1
noncomputable def F_laws_markIntS_13 (x : (S_laws_markIntS_13).X) : Option ((O_laws_markIntS_13).X ⊕ (Z_laws_markIntS_13).X) := loopN stx_laws_markIntS_13 (fu_laws_markIntS_13 x) (em_laws_markIntS_13 x)
noncomputable def sg_laws_markIntS_13 : Seg := ⟨S_laws_markIntS_13, O_laws_markIntS_13, Z_laws_markIntS_13, F_laws_markIntS_13⟩
noncomputable def D_laws_markIntS_1 : Nat → Option Seg := fun q => bif Nat.beq q 13 then some sg_laws_markIntS_13 else D_laws_markIntS_0 q
theorem fr_laws_markIntS_1 : FrOk Try.prog ⟨E_laws_markIntS, 19, D_laws_markIntS_1⟩ B_laws_markIntS := (fr_laws_markIntS_0).loop (sg := sg_laws_markIntS_13) L_laws_markIntS_13 em_laws_markIntS_13 (by decide) a_laws_markIntS_13 stx_laws_markIntS_13 fu_laws_markIntS_13 (by decide) (fun _ => rfl) (fun x r _ h => h) r_laws_markIntS_13
abbrev I_laws_markIntS : List Par := [.mt tL (.ow .fz), .rd tI]
abbrev U_laws_markIntS : List OT := [⟨false, tI, .fz⟩]
noncomputable def raw_laws_markIntS (a0 : List Int) (a1 : Int) : Option (ResD U_laws_markIntS × MutD I_laws_markIntS) :=
  segM (F_laws_markIntS_13 ((((), ()), (a1, ()), ((), ()), ()), (), (a0, ()))) (fun y0 =>
    some ((y0.1.1.1, ()), (y0.2.2.1, ()))) (fun y0 =>
    none)
theorem e_laws_markIntS (x : InD I_laws_markIntS) : execF ⟨E_laws_markIntS, 19, D_laws_markIntS_1⟩ Try.f26.results.toList B_laws_markIntS I_laws_markIntS U_laws_markIntS x = raw_laws_markIntS x.1 x.2.1 := by kernel_rfl
theorem ok0_laws_markIntS : ConOk Try.prog 26 ⟨I_laws_markIntS, U_laws_markIntS, fun x => raw_laws_markIntS x.1 x.2.1⟩ := conOk_exec (fr_laws_markIntS_1) Try.func26 (by kernel_rfl) (by kernel_rfl) Try.ntmps26.symm (by decide) (fun x r h => (e_laws_markIntS x).trans h)
/-- marks from k on -/
def marks (k : Int) : Nat → List Int
  | 0 => []
  | n + 1 => k :: marks (IntKind.i64.wrap (k + 1)) n
def markEnd (k : Int) : Nat → Int
  | 0 => k
  | n + 1 => markEnd (IntKind.i64.wrap (k + 1)) n
theorem marks_len : ∀ (n : Nat) (k : Int), (marks k n).length = n
  | 0, _ => rfl
  | n + 1, k => by simp [marks, marks_len n]
theorem marks_snoc : ∀ (n : Nat) (k : Int), marks k (n + 1) = marks k n ++ [markEnd k n]
  | 0, _ => rfl
  | n + 1, k => by rw [marks, marks_snoc n]; rfl
theorem markEnd_succ : ∀ (n : Nat) (k : Int), markEnd k (n + 1) = IntKind.i64.wrap (markEnd k n + 1)
  | 0, _ => rfl
  | n + 1, k => by rw [markEnd, markEnd_succ n]; rfl
noncomputable def n_laws_markIntS (a0 : List Int) (a1 : Int) : Int × List Int := (markEnd a1 a0.length, marks a1 a0.length)
theorem nn_laws_markIntS (a0 : List Int) (a1 : Int) (hk : InOk I_laws_markIntS (a0, a1, ())) : raw_laws_markIntS a0 a1 = (fun n => some ((n.1, ()), (n.2, ()))) (n_laws_markIntS a0 a1) := by
  have hb : a0.length * 8 ≤ 2 ^ 47 := hk.1.1
  have hs : ∀ i, i < a0.length → (marks a1 i ++ a0.drop i).set i (markEnd a1 i) = marks a1 (i + 1) ++ a0.drop (i + 1) := fun i hi => by
    rw [List.set_append_right _ _ (by rw [marks_len]; exact Nat.le_refl _), marks_len, Nat.sub_self, marks_snoc, List.append_assoc, List.drop_eq_getElem_cons hi]; rfl
  have hl : F_laws_markIntS_13 ((((), ()), (a1, ()), ((), ()), ()), (), (a0, ())) = some (.inl (((markEnd a1 a0.length, ()), ()), (), (marks a1 a0.length ++ a0.drop a0.length, ()))) :=
    loopN_up (step := stx_laws_markIntS_13) (fun i => ((((), ()), (markEnd a1 i, ()), ((i : Int), ()), ()), (), (marks a1 i ++ a0.drop i, ()))) a0.length _ (fun i hi => by
      have hL : (marks a1 i ++ a0.drop i).length = a0.length := by rw [List.length_append, marks_len, List.length_drop]; omega
      simp only [stx_laws_markIntS_13, st_laws_markIntS_13, hL, inb_nat hi, ltb_t (show (i : Int) < a0.length by omega), cond_true, wr (show -9223372036854775808 ≤ (i : Int) + 1 by omega) (by omega), Int.natCast_add, Int.natCast_one, markEnd_succ, Int.toNat_natCast, hs i hi]) (by
      have hL : (marks a1 a0.length ++ a0.drop a0.length).length = a0.length := by rw [List.length_append, marks_len, List.length_drop]; omega
      simp only [stx_laws_markIntS_13, st_laws_markIntS_13, hL, ltb_f (Int.le_refl _), cond_false]) _ (by show _ < 18446744073709551616; omega)
  rw [List.drop_length, List.append_nil] at hl
  unfold raw_laws_markIntS
  rw [hl]
  rfl
noncomputable def con_laws_markIntS : Con := ⟨I_laws_markIntS, U_laws_markIntS, fun x => (fun n => some ((n.1, ()), (n.2, ()))) (n_laws_markIntS x.1 x.2.1)⟩
theorem ok_laws_markIntS : ConOk Try.prog 26 con_laws_markIntS := (ok0_laws_markIntS).mono (fun x r hk h => (nn_laws_markIntS x.1 x.2.1 hk).trans h)
end

/-! laws_markCmd -/
section
noncomputable def B_laws_markCmd : Code := (Try.f27.body).getD .skip
noncomputable def E_laws_markCmd : Env := envOf TT [(26, con_laws_markIntS)] []
theorem fr_laws_markCmd_0 : FrOk Try.prog ⟨E_laws_markCmd, 10, fun _ => none⟩ B_laws_markCmd := frOk_base mixed tt_ok ⟨ok_laws_markIntS, trivial⟩
noncomputable def D_laws_markCmd_0 : Nat → Option Seg := fun _ => none
abbrev I_laws_markCmd : List Par := [.mt tC (.pr .fz (.pr .fz (.pr .fz (.pr .fz (.ow .fz))))), .rd tI]
abbrev U_laws_markCmd : List OT := [⟨false, tI, .fz⟩]
noncomputable def raw_laws_markCmd (a0 : Int × Int × Int × Int × (List Int)) (a1 : Int) : Option (ResD U_laws_markCmd × MutD I_laws_markCmd) :=
  let r1 := n_laws_markIntS a0.2.2.2.2 a1
  some ((r1.1, ()), ((a0.1, a0.2.1, a0.2.2.1, a0.2.2.2.1, r1.2), ()))
theorem e_laws_markCmd (x : InD I_laws_markCmd) : execF ⟨E_laws_markCmd, 10, D_laws_markCmd_0⟩ Try.f27.results.toList B_laws_markCmd I_laws_markCmd U_laws_markCmd x = raw_laws_markCmd x.1 x.2.1 := by kernel_rfl
theorem ok0_laws_markCmd : ConOk Try.prog 27 ⟨I_laws_markCmd, U_laws_markCmd, fun x => raw_laws_markCmd x.1 x.2.1⟩ := conOk_exec (fr_laws_markCmd_0) Try.func27 (by kernel_rfl) (by kernel_rfl) Try.ntmps27.symm (by decide) (fun x r h => (e_laws_markCmd x).trans h)
noncomputable def n_laws_markCmd (a0 : Int × Int × Int × Int × (List Int)) (a1 : Int) : Int × (Int × Int × Int × Int × (List Int)) :=
  let r1 := n_laws_markIntS a0.2.2.2.2 a1
  (r1.1, (a0.1, a0.2.1, a0.2.2.1, a0.2.2.2.1, r1.2))
noncomputable def con_laws_markCmd : Con := ⟨I_laws_markCmd, U_laws_markCmd, fun x => (fun n => some ((n.1, ()), (n.2, ()))) (n_laws_markCmd x.1 x.2.1)⟩
theorem nn_laws_markCmd (a0 : Int × Int × Int × Int × (List Int)) (a1 : Int) : raw_laws_markCmd a0 a1 = (fun n => some ((n.1, ()), (n.2, ()))) (n_laws_markCmd a0 a1) := bif_ty (p := fun (n : Int × (Int × Int × Int × Int × (List Int))) => ((n.1, ()), (n.2, ()))) rfl
theorem ok_laws_markCmd : ConOk Try.prog 27 con_laws_markCmd := (ok0_laws_markCmd).mono (fun x r _ h => (nn_laws_markCmd x.1 x.2.1).trans h)
theorem markEnd_eq : ∀ (n : Nat) (k : Int), 0 ≤ k → k + n ≤ 9223372036854775807 → markEnd k n = k + n
  | 0, k, _, _ => by simp [markEnd]
  | n + 1, k, h, h2 => by
    rw [markEnd, wr (by omega) (by omega), markEnd_eq n (k + 1) (by omega) (by omega)]; omega
theorem markEnd_nn {n : Nat} (h : n ≤ 4611686018427387903) : ¬ markEnd 1 n < 0 := by rw [markEnd_eq n 1 (by omega) (by omega)]; omega
theorem dmark {n : Nat} (h : n ≤ 4611686018427387903) : ltb (markEnd 1 n) 0 = false := ltb_f (Int.not_lt.1 (markEnd_nn h))
end

/-! laws_heldIntS -/
section
noncomputable def B_laws_heldIntS : Code := (Try.f29.body).getD .skip
noncomputable def E_laws_heldIntS : Env := envOf TT [] []
theorem fr_laws_heldIntS_0 : FrOk Try.prog ⟨E_laws_heldIntS, 21, fun _ => none⟩ B_laws_heldIntS := frOk_base mixed tt_ok trivial
noncomputable def D_laws_heldIntS_0 : Nat → Option Seg := fun _ => none
def L_laws_heldIntS_13 : Shape := ⟨[(0, false, [.br tI]), (1, false, [.int .i64]), (5, false, [.int .i64])], [], []⟩
def S_laws_heldIntS_13 : Shape := ⟨[(0, false, [.br tI]), (1, false, [.int .i64]), (5, false, [.ci .i64 0])], [], []⟩
def O_laws_heldIntS_13 : Shape := ⟨[(1, false, [.int .i64])], [], []⟩
def Z_laws_heldIntS_13 : Shape := ⟨[(4, false, [.int .i64])], [], []⟩
noncomputable def st_laws_heldIntS_13 (v0 : List Int) (v1 : Int) (v2 : Int) : Option ((L_laws_heldIntS_13).X ⊕ ((O_laws_heldIntS_13).X ⊕ (Z_laws_heldIntS_13).X)) :=
  bif (ltb v2 (v0.length : Int)) then
    bif (inb v2 v0.length) then
      bif ((nth v0 v2 0) != v1) then
        some (.inr (.inr ((((-1), ()), ()), (), ())))
      else
        some (.inl (((v0, ()), ((IntKind.i64.wrap (v1 + 1)), ()), ((IntKind.i64.wrap (v2 + 1)), ()), ()), (), ()))
    else none
  else
    some (.inr (.inl (((v1, ()), ()), (), ())))
noncomputable def stx_laws_heldIntS_13 (x : (L_laws_heldIntS_13).X) := st_laws_heldIntS_13 x.1.1.1 x.1.2.1.1 x.1.2.2.1.1
def em_laws_heldIntS_13 (x : (S_laws_heldIntS_13).X) : (L_laws_heldIntS_13).X := (((x.1.1.1, ()), (x.1.2.1.1, ()), (0, ()), ()), (), ())
noncomputable def c_laws_heldIntS_13 : Code := (subN B_laws_heldIntS 64 52).getD .skip
theorem a_laws_heldIntS_13 : subN B_laws_heldIntS 64 13 = some (.block 0 (.loop c_laws_heldIntS_13)) := by kernel_rfl
theorem r_laws_heldIntS_13 (x : (L_laws_heldIntS_13).X) : roundT ⟨E_laws_heldIntS, 21, D_laws_heldIntS_0⟩ 0 c_laws_heldIntS_13 52 L_laws_heldIntS_13 O_laws_heldIntS_13 Z_laws_heldIntS_13 x = stx_laws_heldIntS_13 x := by kernel_rfl
noncomputable def fu_laws_heldIntS_13 (x : (S_laws_heldIntS_13).X) : Nat := (fun (u0 : List Int) (u1 : Int) => 18446744073709551616) x.1.1.1 x.1.2.1.1
noncomputable def F_laws_heldIntS_13 (x : (S_laws_heldIntS_13).X) : Option ((O_laws_heldIntS_13).X ⊕ (Z_laws_heldIntS_13).X) := loopN stx_laws_heldIntS_13 (fu_laws_heldIntS_13 x) (em_laws_heldIntS_13 x)
noncomputable def sg_laws_heldIntS_13 : Seg := ⟨S_laws_heldIntS_13, O_laws_heldIntS_13, Z_laws_heldIntS_13, F_laws_heldIntS_13⟩
noncomputable def D_laws_heldIntS_1 : Nat → Option Seg := fun q => bif Nat.beq q 13 then some sg_laws_heldIntS_13 else D_laws_heldIntS_0 q
theorem fr_laws_heldIntS_1 : FrOk Try.prog ⟨E_laws_heldIntS, 21, D_laws_heldIntS_1⟩ B_laws_heldIntS := (fr_laws_heldIntS_0).loop (sg := sg_laws_heldIntS_13) L_laws_heldIntS_13 em_laws_heldIntS_13 (by decide) a_laws_heldIntS_13 stx_laws_heldIntS_13 fu_laws_heldIntS_13 (by decide) (fun _ => rfl) (fun x r _ h => h) r_laws_heldIntS_13
abbrev I_laws_heldIntS : List Par := [.rd tL, .rd tI]
abbrev U_laws_heldIntS : List OT := [⟨false, tI, .fz⟩]
noncomputable def raw_laws_heldIntS (a0 : List Int) (a1 : Int) : Option (ResD U_laws_heldIntS × MutD I_laws_heldIntS) :=
  segM (F_laws_heldIntS_13 (((a0, ()), (a1, ()), ((), ()), ()), (), ())) (fun y0 =>
    some ((y0.1.1.1, ()), ())) (fun y0 =>
    some ((y0.1.1.1, ()), ()))
theorem e_laws_heldIntS (x : InD I_laws_heldIntS) : execF ⟨E_laws_heldIntS, 21, D_laws_heldIntS_1⟩ Try.f29.results.toList B_laws_heldIntS I_laws_heldIntS U_laws_heldIntS x = raw_laws_heldIntS x.1 x.2.1 := by kernel_rfl
theorem ok0_laws_heldIntS : ConOk Try.prog 29 ⟨I_laws_heldIntS, U_laws_heldIntS, fun x => raw_laws_heldIntS x.1 x.2.1⟩ := conOk_exec (fr_laws_heldIntS_1) Try.func29 (by kernel_rfl) (by kernel_rfl) Try.ntmps29.symm (by decide) (fun x r h => (e_laws_heldIntS x).trans h)
noncomputable def n_laws_heldIntS (a0 : List Int) (a1 : Int) : Int := bif (List.range a0.length).any (fun i => a0.getD i 0 != markEnd a1 i) then -1 else markEnd a1 a0.length
theorem nn_laws_heldIntS (a0 : List Int) (a1 : Int) (hk : InOk I_laws_heldIntS (a0, a1, ())) : raw_laws_heldIntS a0 a1 = (fun n => some ((n, ()), ())) (n_laws_heldIntS a0 a1) := by
  have hb : a0.length * 8 ≤ 2 ^ 47 := hk.1.1
  have hl : F_laws_heldIntS_13 (((a0, ()), (a1, ()), ((), ()), ()), (), ()) = some (bif (List.range a0.length).any (fun i => a0.getD i 0 != markEnd a1 i) then .inr ((((-1), ()), ()), (), ()) else .inl (((markEnd a1 a0.length, ()), ()), (), ())) :=
    loopN_all (step := stx_laws_heldIntS_13) (fun i => (((a0, ()), (markEnd a1 i, ()), ((i : Int), ()), ()), (), ())) a0.length (fun i => a0.getD i 0 != markEnd a1 i) _ _ (fun i hi => by
      simp only [stx_laws_heldIntS_13, st_laws_heldIntS_13, inb_nat hi, nth_nat, ltb_t (show (i : Int) < a0.length by omega), cond_true, wr (show -9223372036854775808 ≤ (i : Int) + 1 by omega) (by omega), Int.natCast_add, Int.natCast_one, markEnd_succ]
      cases (a0.getD i 0 != markEnd a1 i) <;> rfl) (by simp only [stx_laws_heldIntS_13, st_laws_heldIntS_13, ltb_f (Int.le_refl _), cond_false]) _ (by show _ < 18446744073709551616; omega)
  unfold raw_laws_heldIntS n_laws_heldIntS
  rw [hl]
  cases (List.range a0.length).any (fun i => a0.getD i 0 != markEnd a1 i) <;> rfl
theorem marks_get : ∀ (n i : Nat) (k : Int), i < n → (marks k n).getD i 0 = markEnd k i
  | n + 1, 0, k, _ => rfl
  | n + 1, i + 1, k, h => marks_get n i _ (by omega)
theorem held_marks (n : Nat) (k : Int) : n_laws_heldIntS (marks k n) k = markEnd k n := by
  unfold n_laws_heldIntS
  rw [marks_len]
  have : (List.range n).any (fun i => (marks k n).getD i 0 != markEnd k i) = false := by
    rw [List.any_eq_false]
    intro i hi
    rw [marks_get n i k (List.mem_range.1 hi)]
    simp
  rw [this]; rfl
noncomputable def con_laws_heldIntS : Con := ⟨I_laws_heldIntS, U_laws_heldIntS, fun x => (fun n => some ((n, ()), ())) (n_laws_heldIntS x.1 x.2.1)⟩
theorem ok_laws_heldIntS : ConOk Try.prog 29 con_laws_heldIntS := (ok0_laws_heldIntS).mono (fun x r hk h => (nn_laws_heldIntS x.1 x.2.1 hk).trans h)
end
end Go.Tf
