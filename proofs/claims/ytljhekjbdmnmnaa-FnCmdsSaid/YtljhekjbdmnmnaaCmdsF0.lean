/- Functions of the program, and what they come to. -/
import Derived.Test.YtljhekjbdmnmnaaCmdsTt
namespace Go.Tf
open Go.Proofs
set_option linter.unusedVariables false
set_option linter.unusedSimpArgs false
set_option maxRecDepth 100000
/-! spec_l1In -/
section
noncomputable def B_spec_l1In : Code := (Try.f38.body).getD .skip
noncomputable def E_spec_l1In : Env := envOf TT [] []
theorem fr_spec_l1In_0 : FrOk Try.prog ⟨E_spec_l1In, 15, fun _ => none⟩ B_spec_l1In := frOk_base mixed tt_ok trivial
noncomputable def D_spec_l1In_0 : Nat → Option Seg := fun _ => none
abbrev I_spec_l1In : List Par := [.rd tI, .rd tI, .rd tI]
abbrev U_spec_l1In : List OT := [⟨false, tB, .fz⟩]
noncomputable def raw_spec_l1In (a0 : Int) (a1 : Int) (a2 : Int) : Option (ResD U_spec_l1In × MutD I_spec_l1In) :=
  bif (leb a1 a0) then
    some (((leb a0 a2), ()), ())
  else
    some ((false, ()), ())
theorem e_spec_l1In (x : InD I_spec_l1In) : execF ⟨E_spec_l1In, 15, D_spec_l1In_0⟩ Try.f38.results.toList B_spec_l1In I_spec_l1In U_spec_l1In x = raw_spec_l1In x.1 x.2.1 x.2.2.1 := by kernel_rfl
theorem ok0_spec_l1In : ConOk Try.prog 38 ⟨I_spec_l1In, U_spec_l1In, fun x => raw_spec_l1In x.1 x.2.1 x.2.2.1⟩ := conOk_exec (fr_spec_l1In_0) Try.func38 (by kernel_rfl) (by kernel_rfl) Try.ntmps38.symm (by decide) (fun x r h => (e_spec_l1In x).trans h)
noncomputable def n_spec_l1In (a0 : Int) (a1 : Int) (a2 : Int) : Bool :=
  bif (leb a1 a0) then
    (leb a0 a2)
  else
    false
noncomputable def con_spec_l1In : Con := ⟨I_spec_l1In, U_spec_l1In, fun x => (fun n => some ((n, ()), ())) (n_spec_l1In x.1 x.2.1 x.2.2.1)⟩
theorem nn_spec_l1In (a0 : Int) (a1 : Int) (a2 : Int) : raw_spec_l1In a0 a1 a2 = (fun n => some ((n, ()), ())) (n_spec_l1In a0 a1 a2) := bif_ty (p := fun (n : Bool) => ((n, ()), ())) (bif_some (p := fun (n : Bool) => ((n, ()), ())) rfl rfl)
theorem ok_spec_l1In : ConOk Try.prog 38 con_spec_l1In := (ok0_spec_l1In).mono (fun x r _ h => (nn_spec_l1In x.1 x.2.1 x.2.2.1).trans h)
theorem in_iff {a b c : Int} : n_spec_l1In a b c = true ↔ b ≤ a ∧ a ≤ c := by
  unfold n_spec_l1In
  cases h : leb b a
  · have := mt leb_t (by rw [h]; simp : ¬ leb b a = true)
    simp [this]
  · simp [leb_iff, leb_iff.1 h]
theorem in_t {a b c : Int} (h : b ≤ a) (h2 : a ≤ c) : n_spec_l1In a b c = true := in_iff.2 ⟨h, h2⟩
theorem in_f {a b c : Int} (h : ¬ (b ≤ a ∧ a ≤ c)) : n_spec_l1In a b c = false := by
  cases e : n_spec_l1In a b c
  · rfl
  · exact absurd (in_iff.1 e) h
end

/-! spec_GeoOk -/
section
noncomputable def B_spec_GeoOk : Code := (Try.f49.body).getD .skip
noncomputable def E_spec_GeoOk : Env := envOf TT [(38, con_spec_l1In)] []
theorem fr_spec_GeoOk_0 : FrOk Try.prog ⟨E_spec_GeoOk, 11, fun _ => none⟩ B_spec_GeoOk := frOk_base mixed tt_ok ⟨ok_spec_l1In, trivial⟩
noncomputable def D_spec_GeoOk_0 : Nat → Option Seg := fun _ => none
abbrev I_spec_GeoOk : List Par := [.rd tG]
abbrev U_spec_GeoOk : List OT := [⟨false, tB, .fz⟩]
noncomputable def raw_spec_GeoOk (a0 : Int × Int) : Option (ResD U_spec_GeoOk × MutD I_spec_GeoOk) :=
  let r1 := n_spec_l1In a0.1 3 5
  bif r1 then
    let r2 := n_spec_l1In a0.2 1 8
    some ((r2, ()), ())
  else
    some ((false, ()), ())
theorem e_spec_GeoOk (x : InD I_spec_GeoOk) : execF ⟨E_spec_GeoOk, 11, D_spec_GeoOk_0⟩ Try.f49.results.toList B_spec_GeoOk I_spec_GeoOk U_spec_GeoOk x = raw_spec_GeoOk x.1 := by kernel_rfl
theorem ok0_spec_GeoOk : ConOk Try.prog 49 ⟨I_spec_GeoOk, U_spec_GeoOk, fun x => raw_spec_GeoOk x.1⟩ := conOk_exec (fr_spec_GeoOk_0) Try.func49 (by kernel_rfl) (by kernel_rfl) Try.ntmps49.symm (by decide) (fun x r h => (e_spec_GeoOk x).trans h)
noncomputable def n_spec_GeoOk (a0 : Int × Int) : Bool :=
  let r1 := n_spec_l1In a0.1 3 5
  bif r1 then
    let r2 := n_spec_l1In a0.2 1 8
    r2
  else
    false
noncomputable def con_spec_GeoOk : Con := ⟨I_spec_GeoOk, U_spec_GeoOk, fun x => (fun n => some ((n, ()), ())) (n_spec_GeoOk x.1)⟩
theorem nn_spec_GeoOk (a0 : Int × Int) : raw_spec_GeoOk a0 = (fun n => some ((n, ()), ())) (n_spec_GeoOk a0) := bif_ty (p := fun (n : Bool) => ((n, ()), ())) (bif_some (p := fun (n : Bool) => ((n, ()), ())) rfl rfl)
theorem ok_spec_GeoOk : ConOk Try.prog 49 con_spec_GeoOk := (ok0_spec_GeoOk).mono (fun x r _ h => (nn_spec_GeoOk x.1).trans h)
theorem geo_iff {a : Int × Int} : n_spec_GeoOk a = true ↔ (3 ≤ a.1 ∧ a.1 ≤ 5) ∧ 1 ≤ a.2 ∧ a.2 ≤ 8 := by
  unfold n_spec_GeoOk
  cases h : n_spec_l1In a.1 3 5
  · have : ¬ (3 ≤ a.1 ∧ a.1 ≤ 5) := fun e => by rw [in_iff.2 e] at h; simp at h
    simp [this]
  · simp only [cond_true, in_iff]
    exact ⟨fun e => ⟨in_iff.1 h, e⟩, fun e => e.2⟩
end

/-! spec_Blocks -/
section
noncomputable def B_spec_Blocks : Code := (Try.f36.body).getD .skip
noncomputable def E_spec_Blocks : Env := envOf TT [(49, con_spec_GeoOk)] []
theorem fr_spec_Blocks_0 : FrOk Try.prog ⟨E_spec_Blocks, 12, fun _ => none⟩ B_spec_Blocks := frOk_base mixed tt_ok ⟨ok_spec_GeoOk, trivial⟩
noncomputable def D_spec_Blocks_0 : Nat → Option Seg := fun _ => none
abbrev I_spec_Blocks : List Par := [.rd tG]
abbrev U_spec_Blocks : List OT := [⟨false, tI, .fz⟩]
noncomputable def raw_spec_Blocks (a0 : Int × Int) : Option (ResD U_spec_Blocks × MutD I_spec_Blocks) :=
  let r1 := n_spec_GeoOk a0
  bif (!r1) then
    some ((0, ()), ())
  else
    some (((IntKind.i64.wrap (a0.2 * (IntKind.i64.wrap (a0.1 - 1)))), ()), ())
theorem e_spec_Blocks (x : InD I_spec_Blocks) : execF ⟨E_spec_Blocks, 12, D_spec_Blocks_0⟩ Try.f36.results.toList B_spec_Blocks I_spec_Blocks U_spec_Blocks x = raw_spec_Blocks x.1 := by kernel_rfl
theorem ok0_spec_Blocks : ConOk Try.prog 36 ⟨I_spec_Blocks, U_spec_Blocks, fun x => raw_spec_Blocks x.1⟩ := conOk_exec (fr_spec_Blocks_0) Try.func36 (by kernel_rfl) (by kernel_rfl) Try.ntmps36.symm (by decide) (fun x r h => (e_spec_Blocks x).trans h)
noncomputable def n_spec_Blocks (a0 : Int × Int) : Int :=
  let r1 := n_spec_GeoOk a0
  bif (!r1) then
    0
  else
    (IntKind.i64.wrap (a0.2 * (IntKind.i64.wrap (a0.1 - 1))))
noncomputable def con_spec_Blocks : Con := ⟨I_spec_Blocks, U_spec_Blocks, fun x => (fun n => some ((n, ()), ())) (n_spec_Blocks x.1)⟩
theorem nn_spec_Blocks (a0 : Int × Int) : raw_spec_Blocks a0 = (fun n => some ((n, ()), ())) (n_spec_Blocks a0) := bif_ty (p := fun (n : Int) => ((n, ()), ())) (bif_some (p := fun (n : Int) => ((n, ()), ())) rfl rfl)
theorem ok_spec_Blocks : ConOk Try.prog 36 con_spec_Blocks := (ok0_spec_Blocks).mono (fun x r _ h => (nn_spec_Blocks x.1).trans h)
theorem spec_Blocks_le (a : Int × Int) : 0 ≤ n_spec_Blocks a ∧ n_spec_Blocks a ≤ 32 := by
  unfold n_spec_Blocks
  cases h : n_spec_GeoOk a
  · simp
  · obtain ⟨⟨h1, h2⟩, h3, h4⟩ := geo_iff.1 h
    have h5 : 0 ≤ a.2 * (a.1 - 1) := Int.mul_nonneg (by omega) (by omega)
    have h6 : a.2 * (a.1 - 1) ≤ 8 * 4 := Int.mul_le_mul h4 (by omega) (by omega) (by omega)
    simp only [Bool.not_true, cond_false, wr (show -9223372036854775808 ≤ a.1 - 1 by omega) (by omega), wr (show -9223372036854775808 ≤ a.2 * (a.1 - 1) by omega) (by omega)]
    omega
theorem spec_Blocks_eq {a : Int × Int} (h : n_spec_GeoOk a = true) : n_spec_Blocks a = a.2 * (a.1 - 1) := by
  unfold n_spec_Blocks
  obtain ⟨⟨h1, h2⟩, h3, h4⟩ := geo_iff.1 h
  have h5 : 0 ≤ a.2 * (a.1 - 1) := Int.mul_nonneg (by omega) (by omega)
  have h6 : a.2 * (a.1 - 1) ≤ 8 * 4 := Int.mul_le_mul h4 (by omega) (by omega) (by omega)
  simp only [h, Bool.not_true, cond_false, wr (show -9223372036854775808 ≤ a.1 - 1 by omega) (by omega), wr (show -9223372036854775808 ≤ a.2 * (a.1 - 1) by omega) (by omega)]
end

/-! impl_within -/
section
noncomputable def B_impl_within : Code := (Try.f40.body).getD .skip
noncomputable def E_impl_within : Env := envOf TT [] []
theorem fr_impl_within_0 : FrOk Try.prog ⟨E_impl_within, 15, fun _ => none⟩ B_impl_within := frOk_base mixed tt_ok trivial
noncomputable def D_impl_within_0 : Nat → Option Seg := fun _ => none
abbrev I_impl_within : List Par := [.rd tI, .rd tI, .rd tI]
abbrev U_impl_within : List OT := [⟨false, tB, .fz⟩]
noncomputable def raw_impl_within (a0 : Int) (a1 : Int) (a2 : Int) : Option (ResD U_impl_within × MutD I_impl_within) :=
  bif (leb a1 a0) then
    some (((leb a0 a2), ()), ())
  else
    some ((false, ()), ())
theorem e_impl_within (x : InD I_impl_within) : execF ⟨E_impl_within, 15, D_impl_within_0⟩ Try.f40.results.toList B_impl_within I_impl_within U_impl_within x = raw_impl_within x.1 x.2.1 x.2.2.1 := by kernel_rfl
theorem ok0_impl_within : ConOk Try.prog 40 ⟨I_impl_within, U_impl_within, fun x => raw_impl_within x.1 x.2.1 x.2.2.1⟩ := conOk_exec (fr_impl_within_0) Try.func40 (by kernel_rfl) (by kernel_rfl) Try.ntmps40.symm (by decide) (fun x r h => (e_impl_within x).trans h)
noncomputable def n_impl_within (a0 : Int) (a1 : Int) (a2 : Int) : Bool :=
  bif (leb a1 a0) then
    (leb a0 a2)
  else
    false
noncomputable def con_impl_within : Con := ⟨I_impl_within, U_impl_within, fun x => (fun n => some ((n, ()), ())) (n_impl_within x.1 x.2.1 x.2.2.1)⟩
theorem nn_impl_within (a0 : Int) (a1 : Int) (a2 : Int) : raw_impl_within a0 a1 a2 = (fun n => some ((n, ()), ())) (n_impl_within a0 a1 a2) := bif_ty (p := fun (n : Bool) => ((n, ()), ())) (bif_some (p := fun (n : Bool) => ((n, ()), ())) rfl rfl)
theorem ok_impl_within : ConOk Try.prog 40 con_impl_within := (ok0_impl_within).mono (fun x r _ h => (nn_impl_within x.1 x.2.1 x.2.2.1).trans h)
theorem impl_in_eq (a b c : Int) : n_impl_within a b c = n_spec_l1In a b c := by kernel_rfl
end

/-! spec_l1Word -/
section
noncomputable def B_spec_l1Word : Code := (Try.f55.body).getD .skip
noncomputable def E_spec_l1Word : Env := envOf TT [(38, con_spec_l1In)] []
theorem fr_spec_l1Word_0 : FrOk Try.prog ⟨E_spec_l1Word, 5, fun _ => none⟩ B_spec_l1Word := frOk_base mixed tt_ok ⟨ok_spec_l1In, trivial⟩
noncomputable def D_spec_l1Word_0 : Nat → Option Seg := fun _ => none
abbrev I_spec_l1Word : List Par := [.rd tI]
abbrev U_spec_l1Word : List OT := [⟨false, tB, .fz⟩]
noncomputable def raw_spec_l1Word (a0 : Int) : Option (ResD U_spec_l1Word × MutD I_spec_l1Word) :=
  let r1 := n_spec_l1In a0 0 65535
  some ((r1, ()), ())
theorem e_spec_l1Word (x : InD I_spec_l1Word) : execF ⟨E_spec_l1Word, 5, D_spec_l1Word_0⟩ Try.f55.results.toList B_spec_l1Word I_spec_l1Word U_spec_l1Word x = raw_spec_l1Word x.1 := by kernel_rfl
theorem ok0_spec_l1Word : ConOk Try.prog 55 ⟨I_spec_l1Word, U_spec_l1Word, fun x => raw_spec_l1Word x.1⟩ := conOk_exec (fr_spec_l1Word_0) Try.func55 (by kernel_rfl) (by kernel_rfl) Try.ntmps55.symm (by decide) (fun x r h => (e_spec_l1Word x).trans h)
noncomputable def n_spec_l1Word (a0 : Int) : Bool :=
  let r1 := n_spec_l1In a0 0 65535
  r1
noncomputable def con_spec_l1Word : Con := ⟨I_spec_l1Word, U_spec_l1Word, fun x => (fun n => some ((n, ()), ())) (n_spec_l1Word x.1)⟩
theorem nn_spec_l1Word (a0 : Int) : raw_spec_l1Word a0 = (fun n => some ((n, ()), ())) (n_spec_l1Word a0) := bif_ty (p := fun (n : Bool) => ((n, ()), ())) rfl
theorem ok_spec_l1Word : ConOk Try.prog 55 con_spec_l1Word := (ok0_spec_l1Word).mono (fun x r _ h => (nn_spec_l1Word x.1).trans h)
end

/-! spec_l1Words -/
section
noncomputable def B_spec_l1Words : Code := (Try.f39.body).getD .skip
noncomputable def E_spec_l1Words : Env := envOf TT [(55, con_spec_l1Word)] []
theorem fr_spec_l1Words_0 : FrOk Try.prog ⟨E_spec_l1Words, 16, fun _ => none⟩ B_spec_l1Words := frOk_base mixed tt_ok ⟨ok_spec_l1Word, trivial⟩
noncomputable def D_spec_l1Words_0 : Nat → Option Seg := fun _ => none
def L_spec_l1Words_13 : Shape := ⟨[(0, false, [.br tI]), (3, false, [.int .i64])], [], []⟩
def S_spec_l1Words_13 : Shape := ⟨[(0, false, [.br tI]), (3, false, [.ci .i64 0])], [], []⟩
def O_spec_l1Words_13 : Shape := ⟨[], [], []⟩
def Z_spec_l1Words_13 : Shape := ⟨[(2, false, [.bool])], [], []⟩
noncomputable def st_spec_l1Words_13 (v0 : List Int) (v1 : Int) : Option ((L_spec_l1Words_13).X ⊕ ((O_spec_l1Words_13).X ⊕ (Z_spec_l1Words_13).X)) :=
  bif (ltb v1 (v0.length : Int)) then
    bif (inb v1 v0.length) then
      let r2 := n_spec_l1Word (nth v0 v1 0)
      bif (!r2) then
        some (.inr (.inr (((false, ()), ()), (), ())))
      else
        some (.inl (((v0, ()), ((IntKind.i64.wrap (v1 + 1)), ()), ()), (), ()))
    else none
  else
    some (.inr (.inl ((), (), ())))
noncomputable def stx_spec_l1Words_13 (x : (L_spec_l1Words_13).X) := st_spec_l1Words_13 x.1.1.1 x.1.2.1.1
def em_spec_l1Words_13 (x : (S_spec_l1Words_13).X) : (L_spec_l1Words_13).X := (((x.1.1.1, ()), (0, ()), ()), (), ())
noncomputable def c_spec_l1Words_13 : Code := (subN B_spec_l1Words 64 52).getD .skip
theorem a_spec_l1Words_13 : subN B_spec_l1Words 64 13 = some (.block 0 (.loop c_spec_l1Words_13)) := by kernel_rfl
theorem r_spec_l1Words_13 (x : (L_spec_l1Words_13).X) : roundT ⟨E_spec_l1Words, 16, D_spec_l1Words_0⟩ 0 c_spec_l1Words_13 52 L_spec_l1Words_13 O_spec_l1Words_13 Z_spec_l1Words_13 x = stx_spec_l1Words_13 x := by kernel_rfl
noncomputable def fu_spec_l1Words_13 (x : (S_spec_l1Words_13).X) : Nat := (fun (u0 : List Int) => 18446744073709551616) x.1.1.1
noncomputable def F_spec_l1Words_13 (x : (S_spec_l1Words_13).X) : Option ((O_spec_l1Words_13).X ⊕ (Z_spec_l1Words_13).X) := loopN stx_spec_l1Words_13 (fu_spec_l1Words_13 x) (em_spec_l1Words_13 x)
noncomputable def sg_spec_l1Words_13 : Seg := ⟨S_spec_l1Words_13, O_spec_l1Words_13, Z_spec_l1Words_13, F_spec_l1Words_13⟩
noncomputable def D_spec_l1Words_1 : Nat → Option Seg := fun q => bif Nat.beq q 13 then some sg_spec_l1Words_13 else D_spec_l1Words_0 q
theorem fr_spec_l1Words_1 : FrOk Try.prog ⟨E_spec_l1Words, 16, D_spec_l1Words_1⟩ B_spec_l1Words := (fr_spec_l1Words_0).loop (sg := sg_spec_l1Words_13) L_spec_l1Words_13 em_spec_l1Words_13 (by decide) a_spec_l1Words_13 stx_spec_l1Words_13 fu_spec_l1Words_13 (by decide) (fun _ => rfl) (fun x r _ h => h) r_spec_l1Words_13
abbrev I_spec_l1Words : List Par := [.rd tL]
abbrev U_spec_l1Words : List OT := [⟨false, tB, .fz⟩]
noncomputable def raw_spec_l1Words (a0 : List Int) : Option (ResD U_spec_l1Words × MutD I_spec_l1Words) :=
  segM (F_spec_l1Words_13 (((a0, ()), ((), ()), ()), (), ())) (fun y2 =>
    some ((true, ()), ())) (fun y2 =>
    some ((y2.1.1.1, ()), ()))
theorem e_spec_l1Words (x : InD I_spec_l1Words) : execF ⟨E_spec_l1Words, 16, D_spec_l1Words_1⟩ Try.f39.results.toList B_spec_l1Words I_spec_l1Words U_spec_l1Words x = raw_spec_l1Words x.1 := by kernel_rfl
theorem ok0_spec_l1Words : ConOk Try.prog 39 ⟨I_spec_l1Words, U_spec_l1Words, fun x => raw_spec_l1Words x.1⟩ := conOk_exec (fr_spec_l1Words_1) Try.func39 (by kernel_rfl) (by kernel_rfl) Try.ntmps39.symm (by decide) (fun x r h => (e_spec_l1Words x).trans h)
noncomputable def n_spec_l1Words (a0 : List Int) : Bool := a0.all n_spec_l1Word
theorem nn_spec_l1Words (a0 : List Int) (hk : InOk I_spec_l1Words (a0, ())) : raw_spec_l1Words a0 = (fun n => some ((n, ()), ())) (n_spec_l1Words a0) := by
  have hb : a0.length * 8 ≤ 2 ^ 47 := hk.1.1
  have hl : F_spec_l1Words_13 (((a0, ()), ((), ()), ()), (), ()) = some (bif a0.all n_spec_l1Word then .inl ((), (), ()) else .inr (((false, ()), ()), (), ())) :=
    loopN_list_all (step := stx_spec_l1Words_13) a0 0 (fun i => (((a0, ()), ((i : Int), ()), ()), (), ())) n_spec_l1Word _ _ (fun i hi => by
      simp only [stx_spec_l1Words_13, st_spec_l1Words_13, inb_nat hi, nth_nat, ltb_t (show (i : Int) < a0.length by omega), cond_true, wr (show -9223372036854775808 ≤ (i : Int) + 1 by omega) (by omega), Int.natCast_add, Int.natCast_one]
      cases n_spec_l1Word (a0.getD i 0) <;> rfl) (by simp only [stx_spec_l1Words_13, st_spec_l1Words_13, ltb_f (Int.le_refl _), cond_false]) _ (by show _ < 18446744073709551616; omega)
  unfold raw_spec_l1Words n_spec_l1Words
  rw [hl]
  cases a0.all n_spec_l1Word <;> rfl
noncomputable def con_spec_l1Words : Con := ⟨I_spec_l1Words, U_spec_l1Words, fun x => (fun n => some ((n, ()), ())) (n_spec_l1Words x.1)⟩
theorem ok_spec_l1Words : ConOk Try.prog 39 con_spec_l1Words := (ok0_spec_l1Words).mono (fun x r hk h => (nn_spec_l1Words x.1 hk).trans h)
end
end Go.Tf
