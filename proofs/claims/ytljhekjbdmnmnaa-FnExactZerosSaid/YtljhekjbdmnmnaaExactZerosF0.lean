/- Functions of the program, and what they come to. -/
import Derived.Test.YtljhekjbdmnmnaaExactZerosTt
namespace Go.Tf
open Go.Proofs
set_option linter.unusedVariables false
set_option linter.unusedSimpArgs false
set_option maxRecDepth 100000
/-! spec_l1In -/
section
noncomputable def B_spec_l1In : Code := (Try.f38.body).getD .skip
noncomputable def E_spec_l1In : Env := envOf TT [] []
theorem fr_spec_l1In_0 : FrOk Try.prog ⟨E_spec_l1In, 15, fun _ => none⟩ B_spec_l1In := frOk_base mixed tt_ok trivial
noncomputable def D_spec_l1In_0 : Nat → Option Seg := fun _ => none
abbrev I_spec_l1In : List Par := [.rd tI, .rd tI, .rd tI]
abbrev U_spec_l1In : List OT := [⟨false, tB, .fz⟩]
noncomputable def raw_spec_l1In (a0 : Int) (a1 : Int) (a2 : Int) : Option (ResD U_spec_l1In × MutD I_spec_l1In) :=
  bif (decide (a0 ≥ a1)) then
    some (((decide (a0 ≤ a2)), ()), ())
  else
    some ((false, ()), ())
theorem e_spec_l1In (x : InD I_spec_l1In) : execF ⟨E_spec_l1In, 15, D_spec_l1In_0⟩ Try.f38.results.toList B_spec_l1In I_spec_l1In U_spec_l1In x = raw_spec_l1In x.1 x.2.1 x.2.2.1 := by kernel_rfl
theorem ok0_spec_l1In : ConOk Try.prog 38 ⟨I_spec_l1In, U_spec_l1In, fun x => raw_spec_l1In x.1 x.2.1 x.2.2.1⟩ := conOk_exec (fr_spec_l1In_0) Try.func38 (by kernel_rfl) (by kernel_rfl) Try.ntmps38.symm (by decide) (fun x r h => (e_spec_l1In x).trans h)
noncomputable def n_spec_l1In (a0 : Int) (a1 : Int) (a2 : Int) : Bool :=
  bif (decide (a0 ≥ a1)) then
    (decide (a0 ≤ a2))
  else
    false
noncomputable def con_spec_l1In : Con := ⟨I_spec_l1In, U_spec_l1In, fun x => (fun n => some ((n, ()), ())) (n_spec_l1In x.1 x.2.1 x.2.2.1)⟩
theorem nn_spec_l1In (a0 : Int) (a1 : Int) (a2 : Int) : raw_spec_l1In a0 a1 a2 = (fun n => some ((n, ()), ())) (n_spec_l1In a0 a1 a2) := bif_ty (p := fun n => ((n, ()), ())) (bif_some (p := fun n => ((n, ()), ())) rfl rfl)
theorem ok_spec_l1In : ConOk Try.prog 38 con_spec_l1In := (ok0_spec_l1In).mono (fun x r _ h => (nn_spec_l1In x.1 x.2.1 x.2.2.1).trans h)
end

/-! spec_GeoOk -/
section
noncomputable def B_spec_GeoOk : Code := (Try.f49.body).getD .skip
noncomputable def E_spec_GeoOk : Env := envOf TT [(38, con_spec_l1In)] []
theorem fr_spec_GeoOk_0 : FrOk Try.prog ⟨E_spec_GeoOk, 11, fun _ => none⟩ B_spec_GeoOk := frOk_base mixed tt_ok ⟨ok_spec_l1In, trivial⟩
noncomputable def D_spec_GeoOk_0 : Nat → Option Seg := fun _ => none
abbrev I_spec_GeoOk : List Par := [.rd tG]
abbrev U_spec_GeoOk : List OT := [⟨false, tB, .fz⟩]
noncomputable def raw_spec_GeoOk (a0 : Int × Int) : Option (ResD U_spec_GeoOk × MutD I_spec_GeoOk) :=
  let r1 := n_spec_l1In a0.1 3 5
  bif r1 then
    let r2 := n_spec_l1In a0.2 1 8
    some ((r2, ()), ())
  else
    some ((false, ()), ())
theorem e_spec_GeoOk (x : InD I_spec_GeoOk) : execF ⟨E_spec_GeoOk, 11, D_spec_GeoOk_0⟩ Try.f49.results.toList B_spec_GeoOk I_spec_GeoOk U_spec_GeoOk x = raw_spec_GeoOk x.1 := by kernel_rfl
theorem ok0_spec_GeoOk : ConOk Try.prog 49 ⟨I_spec_GeoOk, U_spec_GeoOk, fun x => raw_spec_GeoOk x.1⟩ := conOk_exec (fr_spec_GeoOk_0) Try.func49 (by kernel_rfl) (by kernel_rfl) Try.ntmps49.symm (by decide) (fun x r h => (e_spec_GeoOk x).trans h)
noncomputable def n_spec_GeoOk (a0 : Int × Int) : Bool :=
  let r1 := n_spec_l1In a0.1 3 5
  bif r1 then
    let r2 := n_spec_l1In a0.2 1 8
    r2
  else
    false
noncomputable def con_spec_GeoOk : Con := ⟨I_spec_GeoOk, U_spec_GeoOk, fun x => (fun n => some ((n, ()), ())) (n_spec_GeoOk x.1)⟩
theorem nn_spec_GeoOk (a0 : Int × Int) : raw_spec_GeoOk a0 = (fun n => some ((n, ()), ())) (n_spec_GeoOk a0) := bif_ty (p := fun n => ((n, ()), ())) (bif_some (p := fun n => ((n, ()), ())) rfl rfl)
theorem ok_spec_GeoOk : ConOk Try.prog 49 con_spec_GeoOk := (ok0_spec_GeoOk).mono (fun x r _ h => (nn_spec_GeoOk x.1).trans h)
end

/-! spec_Blocks -/
section
noncomputable def B_spec_Blocks : Code := (Try.f36.body).getD .skip
noncomputable def E_spec_Blocks : Env := envOf TT [(49, con_spec_GeoOk)] []
theorem fr_spec_Blocks_0 : FrOk Try.prog ⟨E_spec_Blocks, 12, fun _ => none⟩ B_spec_Blocks := frOk_base mixed tt_ok ⟨ok_spec_GeoOk, trivial⟩
noncomputable def D_spec_Blocks_0 : Nat → Option Seg := fun _ => none
abbrev I_spec_Blocks : List Par := [.rd tG]
abbrev U_spec_Blocks : List OT := [⟨false, tI, .fz⟩]
noncomputable def raw_spec_Blocks (a0 : Int × Int) : Option (ResD U_spec_Blocks × MutD I_spec_Blocks) :=
  let r1 := n_spec_GeoOk a0
  bif (!r1) then
    some ((0, ()), ())
  else
    some (((IntKind.i64.wrap (a0.2 * (IntKind.i64.wrap (a0.1 - 1)))), ()), ())
theorem e_spec_Blocks (x : InD I_spec_Blocks) : execF ⟨E_spec_Blocks, 12, D_spec_Blocks_0⟩ Try.f36.results.toList B_spec_Blocks I_spec_Blocks U_spec_Blocks x = raw_spec_Blocks x.1 := by kernel_rfl
theorem ok0_spec_Blocks : ConOk Try.prog 36 ⟨I_spec_Blocks, U_spec_Blocks, fun x => raw_spec_Blocks x.1⟩ := conOk_exec (fr_spec_Blocks_0) Try.func36 (by kernel_rfl) (by kernel_rfl) Try.ntmps36.symm (by decide) (fun x r h => (e_spec_Blocks x).trans h)
noncomputable def n_spec_Blocks (a0 : Int × Int) : Int :=
  let r1 := n_spec_GeoOk a0
  bif (!r1) then
    0
  else
    (IntKind.i64.wrap (a0.2 * (IntKind.i64.wrap (a0.1 - 1))))
noncomputable def con_spec_Blocks : Con := ⟨I_spec_Blocks, U_spec_Blocks, fun x => (fun n => some ((n, ()), ())) (n_spec_Blocks x.1)⟩
theorem nn_spec_Blocks (a0 : Int × Int) : raw_spec_Blocks a0 = (fun n => some ((n, ()), ())) (n_spec_Blocks a0) := bif_ty (p := fun n => ((n, ()), ())) (bif_some (p := fun n => ((n, ()), ())) rfl rfl)
theorem ok_spec_Blocks : ConOk Try.prog 36 con_spec_Blocks := (ok0_spec_Blocks).mono (fun x r _ h => (nn_spec_Blocks x.1).trans h)
end

/-! spec_Zeros -/
section
noncomputable def B_spec_Zeros : Code := (Try.f9.body).getD .skip
noncomputable def E_spec_Zeros : Env := envOf TT [(36, con_spec_Blocks)] []
theorem fr_spec_Zeros_0 : FrOk Try.prog ⟨E_spec_Zeros, 16, fun _ => none⟩ B_spec_Zeros := frOk_base mixed tt_ok ⟨ok_spec_Blocks, trivial⟩
noncomputable def D_spec_Zeros_0 : Nat → Option Seg := fun _ => none
def L_spec_Zeros_29 : Shape := ⟨[(1, false, [.ptr 0 0]), (3, false, [.at 800000000]), (4, false, [.int .i64])], [(0, [.int .i64, .int .i64])], [(800000000, tI, .fz)]⟩
def S_spec_Zeros_29 : Shape := ⟨[(1, false, [.ptr 0 0]), (3, false, [.at 800000000]), (4, false, [.ci .i64 0])], [(0, [.int .i64, .int .i64])], [(800000000, tI, .fz)]⟩
def O_spec_Zeros_29 : Shape := ⟨[(3, false, [.at 800000000])], [], [(800000000, tI, .fz)]⟩
def Z_spec_Zeros_29 : Shape := ⟨[], [], []⟩
noncomputable def st_spec_Zeros_29 (v0 : Int) (v1 : Int) (v2 : Int) (v3 : List Int) : Option ((L_spec_Zeros_29).X ⊕ ((O_spec_Zeros_29).X ⊕ (Z_spec_Zeros_29).X)) :=
  let r2 := n_spec_Blocks (v1, v2)
  bif (decide (v0 < r2)) then
    bif (apok v3.length ([0] : List Int).length 8) then
      some (.inl ((((), ()), ((), ()), ((IntKind.i64.wrap (v0 + 1)), ()), ()), ((v1, v2, ()), ()), ((v3 ++ ([0] : List Int)), ())))
    else none
  else
    some (.inr (.inl ((((), ()), ()), (), (v3, ()))))
noncomputable def stx_spec_Zeros_29 (x : (L_spec_Zeros_29).X) := st_spec_Zeros_29 x.1.2.2.1.1 x.2.1.1.1 x.2.1.1.2.1 x.2.2.1
def em_spec_Zeros_29 (x : (S_spec_Zeros_29).X) : (L_spec_Zeros_29).X := ((((), ()), ((), ()), (0, ()), ()), ((x.2.1.1.1, x.2.1.1.2.1, ()), ()), (x.2.2.1, ()))
noncomputable def c_spec_Zeros_29 : Code := (subN B_spec_Zeros 64 116).getD .skip
theorem a_spec_Zeros_29 : subN B_spec_Zeros 64 29 = some (.block 0 (.loop c_spec_Zeros_29)) := by kernel_rfl
theorem r_spec_Zeros_29 (x : (L_spec_Zeros_29).X) : roundT ⟨E_spec_Zeros, 16, D_spec_Zeros_0⟩ 0 c_spec_Zeros_29 116 L_spec_Zeros_29 O_spec_Zeros_29 Z_spec_Zeros_29 x = stx_spec_Zeros_29 x := by kernel_rfl
noncomputable def fu_spec_Zeros_29 (x : (S_spec_Zeros_29).X) : Nat := (fun (u0 : Int) (u1 : Int) (u2 : List Int) => 18446744073709551616) x.2.1.1.1 x.2.1.1.2.1 x.2.2.1
noncomputable def F_spec_Zeros_29 (x : (S_spec_Zeros_29).X) : Option ((O_spec_Zeros_29).X ⊕ (Z_spec_Zeros_29).X) := loopN stx_spec_Zeros_29 (fu_spec_Zeros_29 x) (em_spec_Zeros_29 x)
noncomputable def sg_spec_Zeros_29 : Seg := ⟨S_spec_Zeros_29, O_spec_Zeros_29, Z_spec_Zeros_29, F_spec_Zeros_29⟩
noncomputable def D_spec_Zeros_1 : Nat → Option Seg := fun q => bif Nat.beq q 29 then some sg_spec_Zeros_29 else D_spec_Zeros_0 q
theorem fr_spec_Zeros_1 : FrOk Try.prog ⟨E_spec_Zeros, 16, D_spec_Zeros_1⟩ B_spec_Zeros := (fr_spec_Zeros_0).loop (sg := sg_spec_Zeros_29) L_spec_Zeros_29 em_spec_Zeros_29 (by decide) a_spec_Zeros_29 stx_spec_Zeros_29 fu_spec_Zeros_29 (by decide) (fun _ => rfl) (fun x r _ h => h) r_spec_Zeros_29
abbrev I_spec_Zeros : List Par := [.rd tG]
abbrev U_spec_Zeros : List OT := [⟨false, tL, (.ow .fz)⟩]
noncomputable def raw_spec_Zeros (a0 : Int × Int) : Option (ResD U_spec_Zeros × MutD I_spec_Zeros) :=
  segM (F_spec_Zeros_29 ((((), ()), ((), ()), ((), ()), ()), ((a0.1, a0.2, ()), ()), (([] : List Int), ()))) (fun y2 =>
    some ((y2.2.2.1, ()), ())) (fun y2 =>
    none)
theorem e_spec_Zeros (x : InD I_spec_Zeros) : execF ⟨E_spec_Zeros, 16, D_spec_Zeros_1⟩ Try.f9.results.toList B_spec_Zeros I_spec_Zeros U_spec_Zeros x = raw_spec_Zeros x.1 := by kernel_rfl
theorem ok0_spec_Zeros : ConOk Try.prog 9 ⟨I_spec_Zeros, U_spec_Zeros, fun x => raw_spec_Zeros x.1⟩ := conOk_exec (fr_spec_Zeros_1) Try.func9 (by kernel_rfl) (by kernel_rfl) Try.ntmps9.symm (by decide) (fun x r h => (e_spec_Zeros x).trans h)
theorem spec_Blocks_le (a : Int × Int) : 0 ≤ n_spec_Blocks a ∧ n_spec_Blocks a ≤ 32 := by
  unfold n_spec_Blocks n_spec_GeoOk n_spec_l1In
  by_cases h1 : a.1 ≥ 3
  · by_cases h2 : a.1 ≤ 5
    · by_cases h3 : a.2 ≥ 1
      · by_cases h4 : a.2 ≤ 8
        · have h5 : 0 ≤ a.2 * (a.1 - 1) := Int.mul_nonneg (by omega) (by omega)
          have h6 : a.2 * (a.1 - 1) ≤ 8 * 4 := Int.mul_le_mul h4 (by omega) (by omega) (by omega)
          simp only [h1, h2, h3, h4, decide_true, cond_true, Bool.not_true, cond_false, wr (show -9223372036854775808 ≤ a.1 - 1 by omega) (by omega), wr (show -9223372036854775808 ≤ a.2 * (a.1 - 1) by omega) (by omega)]
          omega
        · simp [h1, h2, h3, h4]
      · simp [h1, h2, h3]
    · simp [h1, h2]
  · simp [h1]
noncomputable def n_spec_Zeros (a0 : Int × Int) : List Int := List.replicate (n_spec_Blocks a0).toNat 0
theorem nn_spec_Zeros (a0 : Int × Int) (hk : InOk I_spec_Zeros (a0, ())) : raw_spec_Zeros a0 = (fun n => some ((n, ()), ())) (n_spec_Zeros a0) := by
  have hb := spec_Blocks_le a0
  have hl : F_spec_Zeros_29 ((((), ()), ((), ()), ((), ()), ()), ((a0.1, a0.2, ()), ()), (([] : List Int), ())) = some (.inl ((((), ()), ()), (), (List.replicate (n_spec_Blocks a0).toNat 0, ()))) :=
    loopN_up (step := stx_spec_Zeros_29) (fun i => ((((), ()), ((), ()), ((i : Int), ()), ()), ((a0.1, a0.2, ()), ()), (List.replicate i (0 : Int), ()))) (n_spec_Blocks a0).toNat _ (fun i hi => by
      have : apok (List.replicate i (0 : Int)).length ([0] : List Int).length 8 = true := by rw [apok_iff, List.length_replicate, List.length_singleton]; omega
      simp only [stx_spec_Zeros_29, st_spec_Zeros_29, this, decide_eq_true (show (i : Int) < n_spec_Blocks a0 by omega), cond_true, wr (show -9223372036854775808 ≤ (i : Int) + 1 by omega) (by omega), Int.natCast_add, Int.natCast_one, List.replicate_succ']) (by
      simp only [stx_spec_Zeros_29, st_spec_Zeros_29, decide_eq_false (show ¬ (((n_spec_Blocks a0).toNat : Int) < n_spec_Blocks a0) by omega), cond_false]) _ (by show _ < 18446744073709551616; omega)
  unfold raw_spec_Zeros
  rw [hl]
  rfl
noncomputable def con_spec_Zeros : Con := ⟨I_spec_Zeros, U_spec_Zeros, fun x => (fun n => some ((n, ()), ())) (n_spec_Zeros x.1)⟩
theorem ok_spec_Zeros : ConOk Try.prog 9 con_spec_Zeros := (ok0_spec_Zeros).mono (fun x r hk h => (nn_spec_Zeros x.1 hk).trans h)
end

/-! laws_toGeo -/
section
noncomputable def B_laws_toGeo : Code := (Try.f10.body).getD .skip
noncomputable def E_laws_toGeo : Env := envOf TT [] []
theorem fr_laws_toGeo_0 : FrOk Try.prog ⟨E_laws_toGeo, 11, fun _ => none⟩ B_laws_toGeo := frOk_base mixed tt_ok trivial
noncomputable def D_laws_toGeo_0 : Nat → Option Seg := fun _ => none
abbrev I_laws_toGeo : List Par := [.rd tG]
abbrev U_laws_toGeo : List OT := [⟨false, tG, (.pr .fz .fz)⟩]
noncomputable def raw_laws_toGeo (a0 : Int × Int) : Option (ResD U_laws_toGeo × MutD I_laws_toGeo) :=
  some ((a0, ()), ())
theorem e_laws_toGeo (x : InD I_laws_toGeo) : execF ⟨E_laws_toGeo, 11, D_laws_toGeo_0⟩ Try.f10.results.toList B_laws_toGeo I_laws_toGeo U_laws_toGeo x = raw_laws_toGeo x.1 := by kernel_rfl
theorem ok0_laws_toGeo : ConOk Try.prog 10 ⟨I_laws_toGeo, U_laws_toGeo, fun x => raw_laws_toGeo x.1⟩ := conOk_exec (fr_laws_toGeo_0) Try.func10 (by kernel_rfl) (by kernel_rfl) Try.ntmps10.symm (by decide) (fun x r h => (e_laws_toGeo x).trans h)
noncomputable def n_laws_toGeo (a0 : Int × Int) : (Int × Int) :=
  a0
noncomputable def con_laws_toGeo : Con := ⟨I_laws_toGeo, U_laws_toGeo, fun x => (fun n => some ((n, ()), ())) (n_laws_toGeo x.1)⟩
theorem nn_laws_toGeo (a0 : Int × Int) : raw_laws_toGeo a0 = (fun n => some ((n, ()), ())) (n_laws_toGeo a0) := bif_ty (p := fun n => ((n, ()), ())) rfl
theorem ok_laws_toGeo : ConOk Try.prog 10 con_laws_toGeo := (ok0_laws_toGeo).mono (fun x r _ h => (nn_laws_toGeo x.1).trans h)
end

/-! impl_within -/
section
noncomputable def B_impl_within : Code := (Try.f40.body).getD .skip
noncomputable def E_impl_within : Env := envOf TT [] []
theorem fr_impl_within_0 : FrOk Try.prog ⟨E_impl_within, 15, fun _ => none⟩ B_impl_within := frOk_base mixed tt_ok trivial
noncomputable def D_impl_within_0 : Nat → Option Seg := fun _ => none
abbrev I_impl_within : List Par := [.rd tI, .rd tI, .rd tI]
abbrev U_impl_within : List OT := [⟨false, tB, .fz⟩]
noncomputable def raw_impl_within (a0 : Int) (a1 : Int) (a2 : Int) : Option (ResD U_impl_within × MutD I_impl_within) :=
  bif (decide (a0 ≥ a1)) then
    some (((decide (a0 ≤ a2)), ()), ())
  else
    some ((false, ()), ())
theorem e_impl_within (x : InD I_impl_within) : execF ⟨E_impl_within, 15, D_impl_within_0⟩ Try.f40.results.toList B_impl_within I_impl_within U_impl_within x = raw_impl_within x.1 x.2.1 x.2.2.1 := by kernel_rfl
theorem ok0_impl_within : ConOk Try.prog 40 ⟨I_impl_within, U_impl_within, fun x => raw_impl_within x.1 x.2.1 x.2.2.1⟩ := conOk_exec (fr_impl_within_0) Try.func40 (by kernel_rfl) (by kernel_rfl) Try.ntmps40.symm (by decide) (fun x r h => (e_impl_within x).trans h)
noncomputable def n_impl_within (a0 : Int) (a1 : Int) (a2 : Int) : Bool :=
  bif (decide (a0 ≥ a1)) then
    (decide (a0 ≤ a2))
  else
    false
noncomputable def con_impl_within : Con := ⟨I_impl_within, U_impl_within, fun x => (fun n => some ((n, ()), ())) (n_impl_within x.1 x.2.1 x.2.2.1)⟩
theorem nn_impl_within (a0 : Int) (a1 : Int) (a2 : Int) : raw_impl_within a0 a1 a2 = (fun n => some ((n, ()), ())) (n_impl_within a0 a1 a2) := bif_ty (p := fun n => ((n, ()), ())) (bif_some (p := fun n => ((n, ()), ())) rfl rfl)
theorem ok_impl_within : ConOk Try.prog 40 con_impl_within := (ok0_impl_within).mono (fun x r _ h => (nn_impl_within x.1 x.2.1 x.2.2.1).trans h)
end
end Go.Tf
