/- Functions of the program, and what they come to. -/
import Derived.Test.YtljhekjbdmnmnaaExactCmdCodeF0
namespace Go.Tf
open Go.Proofs
set_option linter.unusedVariables false
set_option linter.unusedSimpArgs false
set_option maxRecDepth 100000
/-! impl_Blocks -/
section
noncomputable def B_impl_Blocks : Code := (Try.f28.body).getD .skip
noncomputable def E_impl_Blocks : Env := envOf TT [(47, con_impl_GeoOk)] []
theorem fr_impl_Blocks_0 : FrOk Try.prog ⟨E_impl_Blocks, 12, fun _ => none⟩ B_impl_Blocks := frOk_base mixed tt_ok ⟨ok_impl_GeoOk, trivial⟩
noncomputable def D_impl_Blocks_0 : Nat → Option Seg := fun _ => none
abbrev I_impl_Blocks : List Par := [.rd tG]
abbrev U_impl_Blocks : List OT := [⟨false, tI, .fz⟩]
noncomputable def raw_impl_Blocks (a0 : Int × Int) : Option (ResD U_impl_Blocks × MutD I_impl_Blocks) :=
  let r1 := n_impl_GeoOk a0
  bif (!r1) then
    some ((0, ()), ())
  else
    some (((IntKind.i64.wrap (a0.2 * (IntKind.i64.wrap (a0.1 - 1)))), ()), ())
theorem e_impl_Blocks (x : InD I_impl_Blocks) : execF ⟨E_impl_Blocks, 12, D_impl_Blocks_0⟩ Try.f28.results.toList B_impl_Blocks I_impl_Blocks U_impl_Blocks x = raw_impl_Blocks x.1 := by kernel_rfl
theorem ok0_impl_Blocks : ConOk Try.prog 28 ⟨I_impl_Blocks, U_impl_Blocks, fun x => raw_impl_Blocks x.1⟩ := conOk_exec (fr_impl_Blocks_0) Try.func28 (by kernel_rfl) (by kernel_rfl) Try.ntmps28.symm (by decide) (fun x r h => (e_impl_Blocks x).trans h)
noncomputable def n_impl_Blocks (a0 : Int × Int) : Int :=
  let r1 := n_impl_GeoOk a0
  bif (!r1) then
    0
  else
    (IntKind.i64.wrap (a0.2 * (IntKind.i64.wrap (a0.1 - 1))))
noncomputable def con_impl_Blocks : Con := ⟨I_impl_Blocks, U_impl_Blocks, fun x => (fun n => some ((n, ()), ())) (n_impl_Blocks x.1)⟩
theorem nn_impl_Blocks (a0 : Int × Int) : raw_impl_Blocks a0 = (fun n => some ((n, ()), ())) (n_impl_Blocks a0) := bif_ty (p := fun (n : Int) => ((n, ()), ())) (bif_some (p := fun (n : Int) => ((n, ()), ())) rfl rfl)
theorem ok_impl_Blocks : ConOk Try.prog 28 con_impl_Blocks := (ok0_impl_Blocks).mono (fun x r _ h => (nn_impl_Blocks x.1).trans h)
theorem impl_Blocks_eq (a : Int × Int) : n_impl_Blocks a = n_spec_Blocks a := by kernel_rfl
end

/-! laws_eqIntS -/
section
noncomputable def B_laws_eqIntS : Code := (Try.f12.body).getD .skip
noncomputable def E_laws_eqIntS : Env := envOf TT [] []
theorem fr_laws_eqIntS_0 : FrOk Try.prog ⟨E_laws_eqIntS, 26, fun _ => none⟩ B_laws_eqIntS := frOk_base mixed tt_ok trivial
noncomputable def D_laws_eqIntS_0 : Nat → Option Seg := fun _ => none
def L_laws_eqIntS_29 : Shape := ⟨[(0, false, [.br tI]), (1, false, [.br tI]), (5, false, [.int .i64])], [], []⟩
def S_laws_eqIntS_29 : Shape := ⟨[(0, false, [.br tI]), (1, false, [.br tI]), (5, false, [.ci .i64 0])], [], []⟩
def O_laws_eqIntS_29 : Shape := ⟨[], [], []⟩
def Z_laws_eqIntS_29 : Shape := ⟨[(4, false, [.bool])], [], []⟩
noncomputable def st_laws_eqIntS_29 (v0 : List Int) (v1 : List Int) (v2 : Int) : Option ((L_laws_eqIntS_29).X ⊕ ((O_laws_eqIntS_29).X ⊕ (Z_laws_eqIntS_29).X)) :=
  bif (ltb v2 (v0.length : Int)) then
    bif (inb v2 v0.length) then
      bif (inb v2 v1.length) then
        bif ((nth v0 v2 0) != (nth v1 v2 0)) then
          some (.inr (.inr (((false, ()), ()), (), ())))
        else
          some (.inl (((v0, ()), (v1, ()), ((IntKind.i64.wrap (v2 + 1)), ()), ()), (), ()))
      else none
    else none
  else
    some (.inr (.inl ((), (), ())))
noncomputable def stx_laws_eqIntS_29 (x : (L_laws_eqIntS_29).X) := st_laws_eqIntS_29 x.1.1.1 x.1.2.1.1 x.1.2.2.1.1
def em_laws_eqIntS_29 (x : (S_laws_eqIntS_29).X) : (L_laws_eqIntS_29).X := (((x.1.1.1, ()), (x.1.2.1.1, ()), (0, ()), ()), (), ())
noncomputable def c_laws_eqIntS_29 : Code := (subN B_laws_eqIntS 64 116).getD .skip
theorem a_laws_eqIntS_29 : subN B_laws_eqIntS 64 29 = some (.block 0 (.loop c_laws_eqIntS_29)) := by kernel_rfl
theorem r_laws_eqIntS_29 (x : (L_laws_eqIntS_29).X) : roundT ⟨E_laws_eqIntS, 26, D_laws_eqIntS_0⟩ 0 c_laws_eqIntS_29 116 L_laws_eqIntS_29 O_laws_eqIntS_29 Z_laws_eqIntS_29 x = stx_laws_eqIntS_29 x := by kernel_rfl
noncomputable def fu_laws_eqIntS_29 (x : (S_laws_eqIntS_29).X) : Nat := (fun (u0 : List Int) (u1 : List Int) => 18446744073709551616) x.1.1.1 x.1.2.1.1
noncomputable def F_laws_eqIntS_29 (x : (S_laws_eqIntS_29).X) : Option ((O_laws_eqIntS_29).X ⊕ (Z_laws_eqIntS_29).X) := loopN stx_laws_eqIntS_29 (fu_laws_eqIntS_29 x) (em_laws_eqIntS_29 x)
noncomputable def sg_laws_eqIntS_29 : Seg := ⟨S_laws_eqIntS_29, O_laws_eqIntS_29, Z_laws_eqIntS_29, F_laws_eqIntS_29⟩
noncomputable def D_laws_eqIntS_1 : Nat → Option Seg := fun q => bif Nat.beq q 29 then some sg_laws_eqIntS_29 else D_laws_eqIntS_0 q
theorem fr_laws_eqIntS_1 : FrOk Try.prog ⟨E_laws_eqIntS, 26, D_laws_eqIntS_1⟩ B_laws_eqIntS := (fr_laws_eqIntS_0).loop (sg := sg_laws_eqIntS_29) L_laws_eqIntS_29 em_laws_eqIntS_29 (by decide) a_laws_eqIntS_29 stx_laws_eqIntS_29 fu_laws_eqIntS_29 (by decide) (fun _ => rfl) (fun x r _ h => h) r_laws_eqIntS_29
abbrev I_laws_eqIntS : List Par := [.rd tL, .rd tL]
abbrev U_laws_eqIntS : List OT := [⟨false, tB, .fz⟩]
noncomputable def raw_laws_eqIntS (a0 : List Int) (a1 : List Int) : Option (ResD U_laws_eqIntS × MutD I_laws_eqIntS) :=
  bif ((a0.length : Int) != (a1.length : Int)) then
    some ((false, ()), ())
  else
    segM (F_laws_eqIntS_29 (((a0, ()), (a1, ()), ((), ()), ()), (), ())) (fun y0 =>
      some ((true, ()), ())) (fun y0 =>
      some ((y0.1.1.1, ()), ()))
theorem e_laws_eqIntS (x : InD I_laws_eqIntS) : execF ⟨E_laws_eqIntS, 26, D_laws_eqIntS_1⟩ Try.f12.results.toList B_laws_eqIntS I_laws_eqIntS U_laws_eqIntS x = raw_laws_eqIntS x.1 x.2.1 := by kernel_rfl
theorem ok0_laws_eqIntS : ConOk Try.prog 12 ⟨I_laws_eqIntS, U_laws_eqIntS, fun x => raw_laws_eqIntS x.1 x.2.1⟩ := conOk_exec (fr_laws_eqIntS_1) Try.func12 (by kernel_rfl) (by kernel_rfl) Try.ntmps12.symm (by decide) (fun x r h => (e_laws_eqIntS x).trans h)
noncomputable def n_laws_eqIntS (a0 a1 : List Int) : Bool := decide (a0 = a1)
theorem nn_laws_eqIntS (a0 a1 : List Int) (hk : InOk I_laws_eqIntS (a0, a1, ())) : raw_laws_eqIntS a0 a1 = (fun n => some ((n, ()), ())) (n_laws_eqIntS a0 a1) := by
  have hb : a0.length * 8 ≤ 2 ^ 47 := hk.1.1
  have hl : a0.length = a1.length → F_laws_eqIntS_29 (((a0, ()), (a1, ()), ((), ()), ()), (), ()) = some (bif (List.range a0.length).any (fun i => a0.getD i 0 != a1.getD i 0) then .inr (((false, ()), ()), (), ()) else .inl ((), (), ())) := fun hL =>
    loopN_all (step := stx_laws_eqIntS_29) (fun i => (((a0, ()), (a1, ()), ((i : Int), ()), ()), (), ())) a0.length (fun i => a0.getD i 0 != a1.getD i 0) _ _ (fun i hi => by
      simp only [stx_laws_eqIntS_29, st_laws_eqIntS_29, inb_nat hi, inb_nat (hL ▸ hi), nth_nat, ltb_t (show (i : Int) < a0.length by omega), cond_true, wr (show -9223372036854775808 ≤ (i : Int) + 1 by omega) (by omega), Int.natCast_add, Int.natCast_one]
      cases (a0.getD i 0 != a1.getD i 0) <;> rfl) (by simp only [stx_laws_eqIntS_29, st_laws_eqIntS_29, ltb_f (Int.le_refl _), cond_false]) _ (by show _ < 18446744073709551616; omega)
  unfold raw_laws_eqIntS n_laws_eqIntS
  by_cases h : a0.length = a1.length
  · rw [show ((a0.length : Int) != (a1.length : Int)) = false by simp [h], bif_f, hl h]
    by_cases e : a0 = a1
    · subst e
      have : (List.range a0.length).any (fun i => a0.getD i 0 != a0.getD i 0) = false := by simp
      rw [this, decide_eq_true rfl]
      rfl
    · have : (List.range a0.length).any (fun i => a0.getD i 0 != a1.getD i 0) = true := by
        rcases Bool.eq_false_or_eq_true ((List.range a0.length).any (fun i => a0.getD i 0 != a1.getD i 0)) with h2 | h2
        · exact h2
        · refine absurd (List.ext_getElem h fun i h3 h4 => ?_) e
          rw [List.any_eq_false] at h2
          have := h2 i (List.mem_range.2 h3)
          simpa [h3, h4] using this
      rw [this, decide_eq_false e]
      rfl
  · rw [show ((a0.length : Int) != (a1.length : Int)) = true from bne_iff_ne.2 (by omega), bif_t, decide_eq_false (fun e => h (congrArg _ e))]
noncomputable def con_laws_eqIntS : Con := ⟨I_laws_eqIntS, U_laws_eqIntS, fun x => (fun n => some ((n, ()), ())) (n_laws_eqIntS x.1 x.2.1)⟩
theorem ok_laws_eqIntS : ConOk Try.prog 12 con_laws_eqIntS := (ok0_laws_eqIntS).mono (fun x r hk h => (nn_laws_eqIntS x.1 x.2.1 hk).trans h)
end

/-! laws_szIntS -/
section
noncomputable def B_laws_szIntS : Code := (Try.f37.body).getD .skip
noncomputable def E_laws_szIntS : Env := envOf TT [] []
theorem fr_laws_szIntS_0 : FrOk Try.prog ⟨E_laws_szIntS, 12, fun _ => none⟩ B_laws_szIntS := frOk_base mixed tt_ok trivial
noncomputable def D_laws_szIntS_0 : Nat → Option Seg := fun _ => none
abbrev I_laws_szIntS : List Par := [.rd tL, .rd tI]
abbrev U_laws_szIntS : List OT := [⟨false, tI, .fz⟩]
noncomputable def raw_laws_szIntS (a0 : List Int) (a1 : Int) : Option (ResD U_laws_szIntS × MutD I_laws_szIntS) :=
  bif (ltb (IntKind.i64.wrap (a1 - (a0.length : Int))) 0) then
    some (((-1), ()), ())
  else
    some (((IntKind.i64.wrap (a1 - (a0.length : Int))), ()), ())
theorem e_laws_szIntS (x : InD I_laws_szIntS) : execF ⟨E_laws_szIntS, 12, D_laws_szIntS_0⟩ Try.f37.results.toList B_laws_szIntS I_laws_szIntS U_laws_szIntS x = raw_laws_szIntS x.1 x.2.1 := by kernel_rfl
theorem ok0_laws_szIntS : ConOk Try.prog 37 ⟨I_laws_szIntS, U_laws_szIntS, fun x => raw_laws_szIntS x.1 x.2.1⟩ := conOk_exec (fr_laws_szIntS_0) Try.func37 (by kernel_rfl) (by kernel_rfl) Try.ntmps37.symm (by decide) (fun x r h => (e_laws_szIntS x).trans h)
noncomputable def n_laws_szIntS (a0 : List Int) (a1 : Int) : Int :=
  bif (ltb (IntKind.i64.wrap (a1 - (a0.length : Int))) 0) then
    (-1)
  else
    (IntKind.i64.wrap (a1 - (a0.length : Int)))
noncomputable def con_laws_szIntS : Con := ⟨I_laws_szIntS, U_laws_szIntS, fun x => (fun n => some ((n, ()), ())) (n_laws_szIntS x.1 x.2.1)⟩
theorem nn_laws_szIntS (a0 : List Int) (a1 : Int) : raw_laws_szIntS a0 a1 = (fun n => some ((n, ()), ())) (n_laws_szIntS a0 a1) := bif_ty (p := fun (n : Int) => ((n, ()), ())) (bif_some (p := fun (n : Int) => ((n, ()), ())) rfl rfl)
theorem ok_laws_szIntS : ConOk Try.prog 37 con_laws_szIntS := (ok0_laws_szIntS).mono (fun x r _ h => (nn_laws_szIntS x.1 x.2.1).trans h)
theorem szIntS_nn {a : List Int} {k : Int} (hk : 0 ≤ k) (hk2 : k ≤ 1048576) (ha : a.length ≤ 17592186044416) (h : ¬ n_laws_szIntS a k < 0) : (a.length : Int) ≤ k ∧ n_laws_szIntS a k = k - a.length := by
  unfold n_laws_szIntS at h ⊢
  rw [wr (by omega) (by omega)] at h ⊢
  by_cases h1 : k - (a.length : Int) < 0
  · rw [ltb_t h1] at h; exact absurd (show (-1 : Int) < 0 by omega) h
  · rw [ltb_f (Int.not_lt.1 h1)]; exact ⟨by omega, rfl⟩
end

/-! laws_szCmd -/
section
noncomputable def B_laws_szCmd : Code := (Try.f15.body).getD .skip
noncomputable def E_laws_szCmd : Env := envOf TT [(37, con_laws_szIntS)] []
theorem fr_laws_szCmd_0 : FrOk Try.prog ⟨E_laws_szCmd, 12, fun _ => none⟩ B_laws_szCmd := frOk_base mixed tt_ok ⟨ok_laws_szIntS, trivial⟩
noncomputable def D_laws_szCmd_0 : Nat → Option Seg := fun _ => none
abbrev I_laws_szCmd : List Par := [.rd tC, .rd tI]
abbrev U_laws_szCmd : List OT := [⟨false, tI, .fz⟩]
noncomputable def raw_laws_szCmd (a0 : Int × Int × Int × Int × (List Int)) (a1 : Int) : Option (ResD U_laws_szCmd × MutD I_laws_szCmd) :=
  let r1 := n_laws_szIntS a0.2.2.2.2 a1
  bif (ltb r1 0) then
    some (((-1), ()), ())
  else
    some ((r1, ()), ())
theorem e_laws_szCmd (x : InD I_laws_szCmd) : execF ⟨E_laws_szCmd, 12, D_laws_szCmd_0⟩ Try.f15.results.toList B_laws_szCmd I_laws_szCmd U_laws_szCmd x = raw_laws_szCmd x.1 x.2.1 := by kernel_rfl
theorem ok0_laws_szCmd : ConOk Try.prog 15 ⟨I_laws_szCmd, U_laws_szCmd, fun x => raw_laws_szCmd x.1 x.2.1⟩ := conOk_exec (fr_laws_szCmd_0) Try.func15 (by kernel_rfl) (by kernel_rfl) Try.ntmps15.symm (by decide) (fun x r h => (e_laws_szCmd x).trans h)
noncomputable def n_laws_szCmd (a0 : Int × Int × Int × Int × (List Int)) (a1 : Int) : Int :=
  let r1 := n_laws_szIntS a0.2.2.2.2 a1
  bif (ltb r1 0) then
    (-1)
  else
    r1
noncomputable def con_laws_szCmd : Con := ⟨I_laws_szCmd, U_laws_szCmd, fun x => (fun n => some ((n, ()), ())) (n_laws_szCmd x.1 x.2.1)⟩
theorem nn_laws_szCmd (a0 : Int × Int × Int × Int × (List Int)) (a1 : Int) : raw_laws_szCmd a0 a1 = (fun n => some ((n, ()), ())) (n_laws_szCmd a0 a1) := bif_ty (p := fun (n : Int) => ((n, ()), ())) (bif_some (p := fun (n : Int) => ((n, ()), ())) rfl rfl)
theorem ok_laws_szCmd : ConOk Try.prog 15 con_laws_szCmd := (ok0_laws_szCmd).mono (fun x r _ h => (nn_laws_szCmd x.1 x.2.1).trans h)
end

/-! spec_l1Word -/
section
noncomputable def B_spec_l1Word : Code := (Try.f55.body).getD .skip
noncomputable def E_spec_l1Word : Env := envOf TT [(38, con_spec_l1In)] []
theorem fr_spec_l1Word_0 : FrOk Try.prog ⟨E_spec_l1Word, 5, fun _ => none⟩ B_spec_l1Word := frOk_base mixed tt_ok ⟨ok_spec_l1In, trivial⟩
noncomputable def D_spec_l1Word_0 : Nat → Option Seg := fun _ => none
abbrev I_spec_l1Word : List Par := [.rd tI]
abbrev U_spec_l1Word : List OT := [⟨false, tB, .fz⟩]
noncomputable def raw_spec_l1Word (a0 : Int) : Option (ResD U_spec_l1Word × MutD I_spec_l1Word) :=
  let r1 := n_spec_l1In a0 0 65535
  some ((r1, ()), ())
theorem e_spec_l1Word (x : InD I_spec_l1Word) : execF ⟨E_spec_l1Word, 5, D_spec_l1Word_0⟩ Try.f55.results.toList B_spec_l1Word I_spec_l1Word U_spec_l1Word x = raw_spec_l1Word x.1 := by kernel_rfl
theorem ok0_spec_l1Word : ConOk Try.prog 55 ⟨I_spec_l1Word, U_spec_l1Word, fun x => raw_spec_l1Word x.1⟩ := conOk_exec (fr_spec_l1Word_0) Try.func55 (by kernel_rfl) (by kernel_rfl) Try.ntmps55.symm (by decide) (fun x r h => (e_spec_l1Word x).trans h)
noncomputable def n_spec_l1Word (a0 : Int) : Bool :=
  let r1 := n_spec_l1In a0 0 65535
  r1
noncomputable def con_spec_l1Word : Con := ⟨I_spec_l1Word, U_spec_l1Word, fun x => (fun n => some ((n, ()), ())) (n_spec_l1Word x.1)⟩
theorem nn_spec_l1Word (a0 : Int) : raw_spec_l1Word a0 = (fun n => some ((n, ()), ())) (n_spec_l1Word a0) := bif_ty (p := fun (n : Bool) => ((n, ()), ())) rfl
theorem ok_spec_l1Word : ConOk Try.prog 55 con_spec_l1Word := (ok0_spec_l1Word).mono (fun x r _ h => (nn_spec_l1Word x.1).trans h)
end

/-! spec_l1Words -/
section
noncomputable def B_spec_l1Words : Code := (Try.f39.body).getD .skip
noncomputable def E_spec_l1Words : Env := envOf TT [(55, con_spec_l1Word)] []
theorem fr_spec_l1Words_0 : FrOk Try.prog ⟨E_spec_l1Words, 16, fun _ => none⟩ B_spec_l1Words := frOk_base mixed tt_ok ⟨ok_spec_l1Word, trivial⟩
noncomputable def D_spec_l1Words_0 : Nat → Option Seg := fun _ => none
def L_spec_l1Words_13 : Shape := ⟨[(0, false, [.br tI]), (3, false, [.int .i64])], [], []⟩
def S_spec_l1Words_13 : Shape := ⟨[(0, false, [.br tI]), (3, false, [.ci .i64 0])], [], []⟩
def O_spec_l1Words_13 : Shape := ⟨[], [], []⟩
def Z_spec_l1Words_13 : Shape := ⟨[(2, false, [.bool])], [], []⟩
noncomputable def st_spec_l1Words_13 (v0 : List Int) (v1 : Int) : Option ((L_spec_l1Words_13).X ⊕ ((O_spec_l1Words_13).X ⊕ (Z_spec_l1Words_13).X)) :=
  bif (ltb v1 (v0.length : Int)) then
    bif (inb v1 v0.length) then
      let r2 := n_spec_l1Word (nth v0 v1 0)
      bif (!r2) then
        some (.inr (.inr (((false, ()), ()), (), ())))
      else
        some (.inl (((v0, ()), ((IntKind.i64.wrap (v1 + 1)), ()), ()), (), ()))
    else none
  else
    some (.inr (.inl ((), (), ())))
noncomputable def stx_spec_l1Words_13 (x : (L_spec_l1Words_13).X) := st_spec_l1Words_13 x.1.1.1 x.1.2.1.1
def em_spec_l1Words_13 (x : (S_spec_l1Words_13).X) : (L_spec_l1Words_13).X := (((x.1.1.1, ()), (0, ()), ()), (), ())
noncomputable def c_spec_l1Words_13 : Code := (subN B_spec_l1Words 64 52).getD .skip
theorem a_spec_l1Words_13 : subN B_spec_l1Words 64 13 = some (.block 0 (.loop c_spec_l1Words_13)) := by kernel_rfl
theorem r_spec_l1Words_13 (x : (L_spec_l1Words_13).X) : roundT ⟨E_spec_l1Words, 16, D_spec_l1Words_0⟩ 0 c_spec_l1Words_13 52 L_spec_l1Words_13 O_spec_l1Words_13 Z_spec_l1Words_13 x = stx_spec_l1Words_13 x := by kernel_rfl
noncomputable def fu_spec_l1Words_13 (x : (S_spec_l1Words_13).X) : Nat := (fun (u0 : List Int) => 18446744073709551616) x.1.1.1
noncomputable def F_spec_l1Words_13 (x : (S_spec_l1Words_13).X) : Option ((O_spec_l1Words_13).X ⊕ (Z_spec_l1Words_13).X) := loopN stx_spec_l1Words_13 (fu_spec_l1Words_13 x) (em_spec_l1Words_13 x)
noncomputable def sg_spec_l1Words_13 : Seg := ⟨S_spec_l1Words_13, O_spec_l1Words_13, Z_spec_l1Words_13, F_spec_l1Words_13⟩
noncomputable def D_spec_l1Words_1 : Nat → Option Seg := fun q => bif Nat.beq q 13 then some sg_spec_l1Words_13 else D_spec_l1Words_0 q
theorem fr_spec_l1Words_1 : FrOk Try.prog ⟨E_spec_l1Words, 16, D_spec_l1Words_1⟩ B_spec_l1Words := (fr_spec_l1Words_0).loop (sg := sg_spec_l1Words_13) L_spec_l1Words_13 em_spec_l1Words_13 (by decide) a_spec_l1Words_13 stx_spec_l1Words_13 fu_spec_l1Words_13 (by decide) (fun _ => rfl) (fun x r _ h => h) r_spec_l1Words_13
abbrev I_spec_l1Words : List Par := [.rd tL]
abbrev U_spec_l1Words : List OT := [⟨false, tB, .fz⟩]
noncomputable def raw_spec_l1Words (a0 : List Int) : Option (ResD U_spec_l1Words × MutD I_spec_l1Words) :=
  segM (F_spec_l1Words_13 (((a0, ()), ((), ()), ()), (), ())) (fun y2 =>
    some ((true, ()), ())) (fun y2 =>
    some ((y2.1.1.1, ()), ()))
theorem e_spec_l1Words (x : InD I_spec_l1Words) : execF ⟨E_spec_l1Words, 16, D_spec_l1Words_1⟩ Try.f39.results.toList B_spec_l1Words I_spec_l1Words U_spec_l1Words x = raw_spec_l1Words x.1 := by kernel_rfl
theorem ok0_spec_l1Words : ConOk Try.prog 39 ⟨I_spec_l1Words, U_spec_l1Words, fun x => raw_spec_l1Words x.1⟩ := conOk_exec (fr_spec_l1Words_1) Try.func39 (by kernel_rfl) (by kernel_rfl) Try.ntmps39.symm (by decide) (fun x r h => (e_spec_l1Words x).trans h)
noncomputable def n_spec_l1Words (a0 : List Int) : Bool := a0.all n_spec_l1Word
theorem nn_spec_l1Words (a0 : List Int) (hk : InOk I_spec_l1Words (a0, ())) : raw_spec_l1Words a0 = (fun n => some ((n, ()), ())) (n_spec_l1Words a0) := by
  have hb : a0.length * 8 ≤ 2 ^ 47 := hk.1.1
  have hl : F_spec_l1Words_13 (((a0, ()), ((), ()), ()), (), ()) = some (bif a0.all n_spec_l1Word then .inl ((), (), ()) else .inr (((false, ()), ()), (), ())) :=
    loopN_list_all (step := stx_spec_l1Words_13) a0 0 (fun i => (((a0, ()), ((i : Int), ()), ()), (), ())) n_spec_l1Word _ _ (fun i hi => by
      simp only [stx_spec_l1Words_13, st_spec_l1Words_13, inb_nat hi, nth_nat, ltb_t (show (i : Int) < a0.length by omega), cond_true, wr (show -9223372036854775808 ≤ (i : Int) + 1 by omega) (by omega), Int.natCast_add, Int.natCast_one]
      cases n_spec_l1Word (a0.getD i 0) <;> rfl) (by simp only [stx_spec_l1Words_13, st_spec_l1Words_13, ltb_f (Int.le_refl _), cond_false]) _ (by show _ < 18446744073709551616; omega)
  unfold raw_spec_l1Words n_spec_l1Words
  rw [hl]
  cases a0.all n_spec_l1Word <;> rfl
noncomputable def con_spec_l1Words : Con := ⟨I_spec_l1Words, U_spec_l1Words, fun x => (fun n => some ((n, ()), ())) (n_spec_l1Words x.1)⟩
theorem ok_spec_l1Words : ConOk Try.prog 39 con_spec_l1Words := (ok0_spec_l1Words).mono (fun x r hk h => (nn_spec_l1Words x.1 hk).trans h)
end
end Go.Tf
