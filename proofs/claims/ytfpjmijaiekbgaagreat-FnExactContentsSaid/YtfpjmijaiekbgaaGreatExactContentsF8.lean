/- Functions of the program, and what they come to. -/
import Derived.Test.YtfpjmijaiekbgaaGreatExactContentsF7
namespace Go.Tf
open Go.Proofs
set_option synthInstance.maxHeartbeats 400000
set_option synthInstance.maxSize 10000
set_option linter.unusedVariables false
set_option linter.unusedSimpArgs false
set_option maxRecDepth 100000
/-! impl_within -/
section
noncomputable def B_impl_within : Code := (Tryz.f114.body).getD .skip
noncomputable def E_impl_within : Env := envOf TT [] []
theorem fr_impl_within_0 : FrOk Tryz.prog ⟨E_impl_within, 15, fun _ => none⟩ B_impl_within := frOk_base mixed tt_ok trivial
noncomputable def D_impl_within_0 : Nat → Option Seg := fun _ => none
abbrev I_impl_within : List Par := [.rd tI, .rd tI, .rd tI]
abbrev U_impl_within : List OT := [⟨false, tB, .fz⟩]
noncomputable def raw_impl_within (a0 : Int) (a1 : Int) (a2 : Int) : Option (ResD U_impl_within × MutD I_impl_within) :=
  bif (leb a1 a0) then
    some (((leb a0 a2), ()), ())
  else
    some ((false, ()), ())
theorem e_impl_within (x : InD I_impl_within) : execF ⟨E_impl_within, 15, D_impl_within_0⟩ Tryz.f114.results.toList B_impl_within I_impl_within U_impl_within x = raw_impl_within x.1 x.2.1 x.2.2.1 := by kernel_rfl
theorem ok0_impl_within : ConOk Tryz.prog 114 ⟨I_impl_within, U_impl_within, fun x => raw_impl_within x.1 x.2.1 x.2.2.1⟩ := conOk_exec (fr_impl_within_0) Tryz.func114 (by kernel_rfl) (by kernel_rfl) Tryz.ntmps114.symm (by decide) (fun x r h => (e_impl_within x).trans h)
noncomputable def n_impl_within (a0 : Int) (a1 : Int) (a2 : Int) : Bool :=
  bif (leb a1 a0) then
    (leb a0 a2)
  else
    false
noncomputable def con_impl_within : Con := ⟨I_impl_within, U_impl_within, fun x => (fun n => some ((n, ()), ())) (n_impl_within x.1 x.2.1 x.2.2.1)⟩
theorem nn_impl_within (a0 : Int) (a1 : Int) (a2 : Int) : raw_impl_within a0 a1 a2 = (fun n => some ((n, ()), ())) (n_impl_within a0 a1 a2) := bif_ty (p := fun (n : Bool) => ((n, ()), ())) (bif_some (p := fun (n : Bool) => ((n, ()), ())) rfl rfl)
theorem ok_impl_within : ConOk Tryz.prog 114 con_impl_within := (ok0_impl_within).mono (fun x r _ h => (nn_impl_within x.1 x.2.1 x.2.2.1).trans h)
theorem impl_in_eq (a b c : Int) : n_impl_within a b c = n_spec_l1In a b c := by kernel_rfl
end

/-! impl_GeoOk -/
section
noncomputable def B_impl_GeoOk : Code := (Tryz.f129.body).getD .skip
noncomputable def E_impl_GeoOk : Env := envOf TT [(114, con_impl_within)] []
theorem fr_impl_GeoOk_0 : FrOk Tryz.prog ⟨E_impl_GeoOk, 11, fun _ => none⟩ B_impl_GeoOk := frOk_base mixed tt_ok ⟨ok_impl_within, trivial⟩
noncomputable def D_impl_GeoOk_0 : Nat → Option Seg := fun _ => none
abbrev I_impl_GeoOk : List Par := [.rd tG]
abbrev U_impl_GeoOk : List OT := [⟨false, tB, .fz⟩]
noncomputable def raw_impl_GeoOk (a0 : dG) : Option (ResD U_impl_GeoOk × MutD I_impl_GeoOk) :=
  let r1 := n_impl_within a0.1 3 5
  bif r1 then
    let r2 := n_impl_within a0.2 1 8
    some ((r2, ()), ())
  else
    some ((false, ()), ())
theorem e_impl_GeoOk (x : InD I_impl_GeoOk) : execF ⟨E_impl_GeoOk, 11, D_impl_GeoOk_0⟩ Tryz.f129.results.toList B_impl_GeoOk I_impl_GeoOk U_impl_GeoOk x = raw_impl_GeoOk x.1 := by kernel_rfl
theorem ok0_impl_GeoOk : ConOk Tryz.prog 129 ⟨I_impl_GeoOk, U_impl_GeoOk, fun x => raw_impl_GeoOk x.1⟩ := conOk_exec (fr_impl_GeoOk_0) Tryz.func129 (by kernel_rfl) (by kernel_rfl) Tryz.ntmps129.symm (by decide) (fun x r h => (e_impl_GeoOk x).trans h)
noncomputable def n_impl_GeoOk (a0 : dG) : Bool :=
  let r1 := n_impl_within a0.1 3 5
  bif r1 then
    let r2 := n_impl_within a0.2 1 8
    r2
  else
    false
noncomputable def con_impl_GeoOk : Con := ⟨I_impl_GeoOk, U_impl_GeoOk, fun x => (fun n => some ((n, ()), ())) (n_impl_GeoOk x.1)⟩
theorem nn_impl_GeoOk (a0 : dG) : raw_impl_GeoOk a0 = (fun n => some ((n, ()), ())) (n_impl_GeoOk a0) := bif_ty (p := fun (n : Bool) => ((n, ()), ())) (bif_some (p := fun (n : Bool) => ((n, ()), ())) rfl rfl)
theorem ok_impl_GeoOk : ConOk Tryz.prog 129 con_impl_GeoOk := (ok0_impl_GeoOk).mono (fun x r _ h => (nn_impl_GeoOk x.1).trans h)
theorem geo_eq (a : Int × Int) : n_impl_GeoOk a = n_spec_GeoOk a := by kernel_rfl
end

/-! impl_Blocks -/
section
noncomputable def B_impl_Blocks : Code := (Tryz.f68.body).getD .skip
noncomputable def E_impl_Blocks : Env := envOf TT [(129, con_impl_GeoOk)] []
theorem fr_impl_Blocks_0 : FrOk Tryz.prog ⟨E_impl_Blocks, 12, fun _ => none⟩ B_impl_Blocks := frOk_base mixed tt_ok ⟨ok_impl_GeoOk, trivial⟩
noncomputable def D_impl_Blocks_0 : Nat → Option Seg := fun _ => none
abbrev I_impl_Blocks : List Par := [.rd tG]
abbrev U_impl_Blocks : List OT := [⟨false, tI, .fz⟩]
noncomputable def raw_impl_Blocks (a0 : dG) : Option (ResD U_impl_Blocks × MutD I_impl_Blocks) :=
  let r1 := n_impl_GeoOk a0
  bif (!r1) then
    some ((0, ()), ())
  else
    some (((IntKind.i64.wrap (a0.2 * (IntKind.i64.wrap (a0.1 - 1)))), ()), ())
theorem e_impl_Blocks (x : InD I_impl_Blocks) : execF ⟨E_impl_Blocks, 12, D_impl_Blocks_0⟩ Tryz.f68.results.toList B_impl_Blocks I_impl_Blocks U_impl_Blocks x = raw_impl_Blocks x.1 := by kernel_rfl
theorem ok0_impl_Blocks : ConOk Tryz.prog 68 ⟨I_impl_Blocks, U_impl_Blocks, fun x => raw_impl_Blocks x.1⟩ := conOk_exec (fr_impl_Blocks_0) Tryz.func68 (by kernel_rfl) (by kernel_rfl) Tryz.ntmps68.symm (by decide) (fun x r h => (e_impl_Blocks x).trans h)
noncomputable def n_impl_Blocks (a0 : dG) : Int :=
  let r1 := n_impl_GeoOk a0
  bif (!r1) then
    0
  else
    (IntKind.i64.wrap (a0.2 * (IntKind.i64.wrap (a0.1 - 1))))
noncomputable def con_impl_Blocks : Con := ⟨I_impl_Blocks, U_impl_Blocks, fun x => (fun n => some ((n, ()), ())) (n_impl_Blocks x.1)⟩
theorem nn_impl_Blocks (a0 : dG) : raw_impl_Blocks a0 = (fun n => some ((n, ()), ())) (n_impl_Blocks a0) := bif_ty (p := fun (n : Int) => ((n, ()), ())) (bif_some (p := fun (n : Int) => ((n, ()), ())) rfl rfl)
theorem ok_impl_Blocks : ConOk Tryz.prog 68 con_impl_Blocks := (ok0_impl_Blocks).mono (fun x r _ h => (nn_impl_Blocks x.1).trans h)
theorem impl_Blocks_eq (a : Int × Int) : n_impl_Blocks a = n_spec_Blocks a := by kernel_rfl
end

/-! impl_lostOk -/
section
noncomputable def B_impl_lostOk : Code := (Tryz.f130.body).getD .skip
noncomputable def E_impl_lostOk : Env := envOf TT [(114, con_impl_within)] []
theorem fr_impl_lostOk_0 : FrOk Tryz.prog ⟨E_impl_lostOk, 26, fun _ => none⟩ B_impl_lostOk := frOk_base mixed tt_ok ⟨ok_impl_within, trivial⟩
noncomputable def D_impl_lostOk_0 : Nat → Option Seg := fun _ => none
abbrev I_impl_lostOk : List Par := [.rd tG, .rd tI, .rd tI]
abbrev U_impl_lostOk : List OT := [⟨false, tB, .fz⟩]
noncomputable def raw_impl_lostOk (a0 : dG) (a1 : Int) (a2 : Int) : Option (ResD U_impl_lostOk × MutD I_impl_lostOk) :=
  let r1 := n_impl_within a1 (-1) (IntKind.i64.wrap (a0.1 - 1))
  bif r1 then
    let r2 := n_impl_within a2 0 a0.2
    bif r2 then
      bif (!(a2 == 0)) then
        some (((a1 != (-1)), ()), ())
      else
        some ((true, ()), ())
    else
      some ((false, ()), ())
  else
    some ((false, ()), ())
theorem e_impl_lostOk (x : InD I_impl_lostOk) : execF ⟨E_impl_lostOk, 26, D_impl_lostOk_0⟩ Tryz.f130.results.toList B_impl_lostOk I_impl_lostOk U_impl_lostOk x = raw_impl_lostOk x.1 x.2.1 x.2.2.1 := by kernel_rfl
theorem ok0_impl_lostOk : ConOk Tryz.prog 130 ⟨I_impl_lostOk, U_impl_lostOk, fun x => raw_impl_lostOk x.1 x.2.1 x.2.2.1⟩ := conOk_exec (fr_impl_lostOk_0) Tryz.func130 (by kernel_rfl) (by kernel_rfl) Tryz.ntmps130.symm (by decide) (fun x r h => (e_impl_lostOk x).trans h)
noncomputable def n_impl_lostOk (a0 : dG) (a1 : Int) (a2 : Int) : Bool :=
  let r1 := n_impl_within a1 (-1) (IntKind.i64.wrap (a0.1 - 1))
  bif r1 then
    let r2 := n_impl_within a2 0 a0.2
    bif r2 then
      bif (!(a2 == 0)) then
        (a1 != (-1))
      else
        true
    else
      false
  else
    false
noncomputable def con_impl_lostOk : Con := ⟨I_impl_lostOk, U_impl_lostOk, fun x => (fun n => some ((n, ()), ())) (n_impl_lostOk x.1 x.2.1 x.2.2.1)⟩
theorem nn_impl_lostOk (a0 : dG) (a1 : Int) (a2 : Int) : raw_impl_lostOk a0 a1 a2 = (fun n => some ((n, ()), ())) (n_impl_lostOk a0 a1 a2) := bif_ty (p := fun (n : Bool) => ((n, ()), ())) (bif_some (p := fun (n : Bool) => ((n, ()), ())) (bif_some (p := fun (n : Bool) => ((n, ()), ())) (bif_some (p := fun (n : Bool) => ((n, ()), ())) rfl rfl) rfl) rfl)
theorem ok_impl_lostOk : ConOk Tryz.prog 130 con_impl_lostOk := (ok0_impl_lostOk).mono (fun x r _ h => (nn_impl_lostOk x.1 x.2.1 x.2.2.1).trans h)
end

/-! impl_isWord -/
section
noncomputable def B_impl_isWord : Code := (Tryz.f93.body).getD .skip
noncomputable def E_impl_isWord : Env := envOf TT [(114, con_impl_within)] []
theorem fr_impl_isWord_0 : FrOk Tryz.prog ⟨E_impl_isWord, 5, fun _ => none⟩ B_impl_isWord := frOk_base mixed tt_ok ⟨ok_impl_within, trivial⟩
noncomputable def D_impl_isWord_0 : Nat → Option Seg := fun _ => none
abbrev I_impl_isWord : List Par := [.rd tI]
abbrev U_impl_isWord : List OT := [⟨false, tB, .fz⟩]
noncomputable def raw_impl_isWord (a0 : Int) : Option (ResD U_impl_isWord × MutD I_impl_isWord) :=
  let r1 := n_impl_within a0 0 65535
  some ((r1, ()), ())
theorem e_impl_isWord (x : InD I_impl_isWord) : execF ⟨E_impl_isWord, 5, D_impl_isWord_0⟩ Tryz.f93.results.toList B_impl_isWord I_impl_isWord U_impl_isWord x = raw_impl_isWord x.1 := by kernel_rfl
theorem ok0_impl_isWord : ConOk Tryz.prog 93 ⟨I_impl_isWord, U_impl_isWord, fun x => raw_impl_isWord x.1⟩ := conOk_exec (fr_impl_isWord_0) Tryz.func93 (by kernel_rfl) (by kernel_rfl) Tryz.ntmps93.symm (by decide) (fun x r h => (e_impl_isWord x).trans h)
noncomputable def n_impl_isWord (a0 : Int) : Bool :=
  let r1 := n_impl_within a0 0 65535
  r1
noncomputable def con_impl_isWord : Con := ⟨I_impl_isWord, U_impl_isWord, fun x => (fun n => some ((n, ()), ())) (n_impl_isWord x.1)⟩
theorem nn_impl_isWord (a0 : Int) : raw_impl_isWord a0 = (fun n => some ((n, ()), ())) (n_impl_isWord a0) := bif_ty (p := fun (n : Bool) => ((n, ()), ())) rfl
theorem ok_impl_isWord : ConOk Tryz.prog 93 con_impl_isWord := (ok0_impl_isWord).mono (fun x r _ h => (nn_impl_isWord x.1).trans h)
end

/-! impl_hasStripe -/
section
noncomputable def B_impl_hasStripe : Code := (Tryz.f100.body).getD .skip
noncomputable def E_impl_hasStripe : Env := envOf TT [(114, con_impl_within), (129, con_impl_GeoOk)] []
theorem fr_impl_hasStripe_0 : FrOk Tryz.prog ⟨E_impl_hasStripe, 14, fun _ => none⟩ B_impl_hasStripe := frOk_base mixed tt_ok ⟨ok_impl_within, ok_impl_GeoOk, trivial⟩
noncomputable def D_impl_hasStripe_0 : Nat → Option Seg := fun _ => none
abbrev I_impl_hasStripe : List Par := [.rd tG, .rd tI]
abbrev U_impl_hasStripe : List OT := [⟨false, tB, .fz⟩]
noncomputable def raw_impl_hasStripe (a0 : dG) (a1 : Int) : Option (ResD U_impl_hasStripe × MutD I_impl_hasStripe) :=
  let r1 := n_impl_GeoOk a0
  bif r1 then
    let r2 := n_impl_within a1 0 (IntKind.i64.wrap (a0.2 - 1))
    some ((r2, ()), ())
  else
    some ((false, ()), ())
theorem e_impl_hasStripe (x : InD I_impl_hasStripe) : execF ⟨E_impl_hasStripe, 14, D_impl_hasStripe_0⟩ Tryz.f100.results.toList B_impl_hasStripe I_impl_hasStripe U_impl_hasStripe x = raw_impl_hasStripe x.1 x.2.1 := by kernel_rfl
theorem ok0_impl_hasStripe : ConOk Tryz.prog 100 ⟨I_impl_hasStripe, U_impl_hasStripe, fun x => raw_impl_hasStripe x.1 x.2.1⟩ := conOk_exec (fr_impl_hasStripe_0) Tryz.func100 (by kernel_rfl) (by kernel_rfl) Tryz.ntmps100.symm (by decide) (fun x r h => (e_impl_hasStripe x).trans h)
noncomputable def n_impl_hasStripe (a0 : dG) (a1 : Int) : Bool :=
  let r1 := n_impl_GeoOk a0
  bif r1 then
    let r2 := n_impl_within a1 0 (IntKind.i64.wrap (a0.2 - 1))
    r2
  else
    false
noncomputable def con_impl_hasStripe : Con := ⟨I_impl_hasStripe, U_impl_hasStripe, fun x => (fun n => some ((n, ()), ())) (n_impl_hasStripe x.1 x.2.1)⟩
theorem nn_impl_hasStripe (a0 : dG) (a1 : Int) : raw_impl_hasStripe a0 a1 = (fun n => some ((n, ()), ())) (n_impl_hasStripe a0 a1) := bif_ty (p := fun (n : Bool) => ((n, ()), ())) (bif_some (p := fun (n : Bool) => ((n, ()), ())) rfl rfl)
theorem ok_impl_hasStripe : ConOk Tryz.prog 100 con_impl_hasStripe := (ok0_impl_hasStripe).mono (fun x r _ h => (nn_impl_hasStripe x.1 x.2.1).trans h)
theorem impl_str_eq (g : dG) (s : Int) : n_impl_hasStripe g s = strOk g s := by
  unfold n_impl_hasStripe strOk
  rw [geo_eq]
  cases hg : n_spec_GeoOk g
  · rfl
  have := geo_iff.1 hg
  rw [impl_in_eq, in_eq, wr (by omega) (by omega)]; rfl
end
end Go.Tf
