/- Functions of the program, and what they come to. -/
import Derived.Test.YtgmadfpnljibhaaExactSpoilAtF5
namespace Go.Tf
open Go.Proofs
set_option synthInstance.maxHeartbeats 400000
set_option synthInstance.maxSize 10000
set_option linter.unusedVariables false
set_option linter.unusedSimpArgs false
set_option maxRecDepth 100000
/-! laws_toArr -/
section
noncomputable def B_laws_toArr : Code := (Try.f28.body).getD .skip
noncomputable def E_laws_toArr : Env := envOf TT [(63, con_laws_toGeo), (64, con_laws_toMemS), (65, con_laws_toEntS)] []
theorem fr_laws_toArr_0 : FrOk Try.prog ⟨E_laws_toArr, 44, fun _ => none⟩ B_laws_toArr := frOk_base mixed tt_ok ⟨ok_laws_toGeo, ok_laws_toMemS, ok_laws_toEntS, trivial⟩
noncomputable def D_laws_toArr_0 : Nat → Option Seg := fun _ => none
abbrev I_laws_toArr : List Par := [.rd tA]
abbrev U_laws_toArr : List OT := [⟨false, tA, (.pr .fz (.pr (.pr .fz .fz) (.pr (.ow (.pr (.ow (.ow .fz)) (.pr (.ow (.pr .fz (.ow .fz))) (.pr .fz (.ow .fz))))) (.pr .fz (.pr .fz (.pr .fz (.pr .fz (.pr .fz (.pr (.ow (.pr .fz (.ow .fz))) (.pr .fz (.pr .fz .fz)))))))))))⟩]
noncomputable def raw_laws_toArr (a0 : dA) : Option (ResD U_laws_toArr × MutD I_laws_toArr) :=
  let r1 := n_laws_toGeo a0.2.1
  let r2 := n_laws_toMemS a0.2.2.1
  let r3 := n_laws_toEntS a0.2.2.2.2.2.2.2.2.1
  some (((a0.1, r1, r2, a0.2.2.2.1, a0.2.2.2.2.1, a0.2.2.2.2.2.1, a0.2.2.2.2.2.2.1, a0.2.2.2.2.2.2.2.1, r3, a0.2.2.2.2.2.2.2.2.2), ()), ())
theorem e_laws_toArr (x : InD I_laws_toArr) : execF ⟨E_laws_toArr, 44, D_laws_toArr_0⟩ Try.f28.results.toList B_laws_toArr I_laws_toArr U_laws_toArr x = raw_laws_toArr x.1 := by kernel_rfl
theorem ok0_laws_toArr : ConOk Try.prog 28 ⟨I_laws_toArr, U_laws_toArr, fun x => raw_laws_toArr x.1⟩ := conOk_exec (fr_laws_toArr_0) Try.func28 (by kernel_rfl) (by kernel_rfl) Try.ntmps28.symm (by decide) (fun x r h => (e_laws_toArr x).trans h)
noncomputable def n_laws_toArr (a0 : dA) : dA :=
  let r1 := n_laws_toGeo a0.2.1
  let r2 := n_laws_toMemS a0.2.2.1
  let r3 := n_laws_toEntS a0.2.2.2.2.2.2.2.2.1
  (a0.1, r1, r2, a0.2.2.2.1, a0.2.2.2.2.1, a0.2.2.2.2.2.1, a0.2.2.2.2.2.2.1, a0.2.2.2.2.2.2.2.1, r3, a0.2.2.2.2.2.2.2.2.2)
noncomputable def con_laws_toArr : Con := ⟨I_laws_toArr, U_laws_toArr, fun x => (fun n => some ((n, ()), ())) (n_laws_toArr x.1)⟩
theorem nn_laws_toArr (a0 : dA) : raw_laws_toArr a0 = (fun n => some ((n, ()), ())) (n_laws_toArr a0) := bif_ty (p := fun (n : dA) => ((n, ()), ())) rfl
theorem ok_laws_toArr : ConOk Try.prog 28 con_laws_toArr := (ok0_laws_toArr).mono (fun x r _ h => (nn_laws_toArr x.1).trans h)
theorem id_laws_toArr (a : dA) : n_laws_toArr a = a := by kernel_rfl
end

/-! impl_within -/
section
noncomputable def B_impl_within : Code := (Try.f39.body).getD .skip
noncomputable def E_impl_within : Env := envOf TT [] []
theorem fr_impl_within_0 : FrOk Try.prog ⟨E_impl_within, 15, fun _ => none⟩ B_impl_within := frOk_base mixed tt_ok trivial
noncomputable def D_impl_within_0 : Nat → Option Seg := fun _ => none
abbrev I_impl_within : List Par := [.rd tI, .rd tI, .rd tI]
abbrev U_impl_within : List OT := [⟨false, tB, .fz⟩]
noncomputable def raw_impl_within (a0 a1 a2 : Int) : Option (ResD U_impl_within × MutD I_impl_within) :=
  bif (leb a1 a0) then
    some (((leb a0 a2), ()), ())
  else
    some ((false, ()), ())
theorem e_impl_within (x : InD I_impl_within) : execF ⟨E_impl_within, 15, D_impl_within_0⟩ Try.f39.results.toList B_impl_within I_impl_within U_impl_within x = raw_impl_within x.1 x.2.1 x.2.2.1 := by kernel_rfl
theorem ok0_impl_within : ConOk Try.prog 39 ⟨I_impl_within, U_impl_within, fun x => raw_impl_within x.1 x.2.1 x.2.2.1⟩ := conOk_exec (fr_impl_within_0) Try.func39 (by kernel_rfl) (by kernel_rfl) Try.ntmps39.symm (by decide) (fun x r h => (e_impl_within x).trans h)
noncomputable def n_impl_within (a0 a1 a2 : Int) : Bool :=
  bif (leb a1 a0) then
    (leb a0 a2)
  else
    false
noncomputable def con_impl_within : Con := ⟨I_impl_within, U_impl_within, fun x => (fun n => some ((n, ()), ())) (n_impl_within x.1 x.2.1 x.2.2.1)⟩
theorem nn_impl_within (a0 a1 a2 : Int) : raw_impl_within a0 a1 a2 = (fun n => some ((n, ()), ())) (n_impl_within a0 a1 a2) := bif_ty (p := fun (n : Bool) => ((n, ()), ())) (bif_some (p := fun (n : Bool) => ((n, ()), ())) rfl rfl)
theorem ok_impl_within : ConOk Try.prog 39 con_impl_within := (ok0_impl_within).mono (fun x r _ h => (nn_impl_within x.1 x.2.1 x.2.2.1).trans h)
theorem impl_in_eq (a b c : Int) : n_impl_within a b c = n_spec_l1In a b c := by kernel_rfl
end

/-! impl_GeoOk -/
section
noncomputable def B_impl_GeoOk : Code := (Try.f40.body).getD .skip
noncomputable def E_impl_GeoOk : Env := envOf TT [(39, con_impl_within)] []
theorem fr_impl_GeoOk_0 : FrOk Try.prog ⟨E_impl_GeoOk, 11, fun _ => none⟩ B_impl_GeoOk := frOk_base mixed tt_ok ⟨ok_impl_within, trivial⟩
noncomputable def D_impl_GeoOk_0 : Nat → Option Seg := fun _ => none
abbrev I_impl_GeoOk : List Par := [.rd tG]
abbrev U_impl_GeoOk : List OT := [⟨false, tB, .fz⟩]
noncomputable def raw_impl_GeoOk (a0 : dG) : Option (ResD U_impl_GeoOk × MutD I_impl_GeoOk) :=
  let r1 := n_impl_within a0.1 3 5
  bif r1 then
    let r2 := n_impl_within a0.2 1 8
    some ((r2, ()), ())
  else
    some ((false, ()), ())
theorem e_impl_GeoOk (x : InD I_impl_GeoOk) : execF ⟨E_impl_GeoOk, 11, D_impl_GeoOk_0⟩ Try.f40.results.toList B_impl_GeoOk I_impl_GeoOk U_impl_GeoOk x = raw_impl_GeoOk x.1 := by kernel_rfl
theorem ok0_impl_GeoOk : ConOk Try.prog 40 ⟨I_impl_GeoOk, U_impl_GeoOk, fun x => raw_impl_GeoOk x.1⟩ := conOk_exec (fr_impl_GeoOk_0) Try.func40 (by kernel_rfl) (by kernel_rfl) Try.ntmps40.symm (by decide) (fun x r h => (e_impl_GeoOk x).trans h)
noncomputable def n_impl_GeoOk (a0 : dG) : Bool :=
  let r1 := n_impl_within a0.1 3 5
  bif r1 then
    let r2 := n_impl_within a0.2 1 8
    r2
  else
    false
noncomputable def con_impl_GeoOk : Con := ⟨I_impl_GeoOk, U_impl_GeoOk, fun x => (fun n => some ((n, ()), ())) (n_impl_GeoOk x.1)⟩
theorem nn_impl_GeoOk (a0 : dG) : raw_impl_GeoOk a0 = (fun n => some ((n, ()), ())) (n_impl_GeoOk a0) := bif_ty (p := fun (n : Bool) => ((n, ()), ())) (bif_some (p := fun (n : Bool) => ((n, ()), ())) rfl rfl)
theorem ok_impl_GeoOk : ConOk Try.prog 40 con_impl_GeoOk := (ok0_impl_GeoOk).mono (fun x r _ h => (nn_impl_GeoOk x.1).trans h)
theorem geo_eq (a : Int × Int) : n_impl_GeoOk a = n_spec_GeoOk a := by kernel_rfl
end

/-! impl_lostOk -/
section
noncomputable def B_impl_lostOk : Code := (Try.f41.body).getD .skip
noncomputable def E_impl_lostOk : Env := envOf TT [(39, con_impl_within)] []
theorem fr_impl_lostOk_0 : FrOk Try.prog ⟨E_impl_lostOk, 26, fun _ => none⟩ B_impl_lostOk := frOk_base mixed tt_ok ⟨ok_impl_within, trivial⟩
noncomputable def D_impl_lostOk_0 : Nat → Option Seg := fun _ => none
abbrev I_impl_lostOk : List Par := [.rd tG, .rd tI, .rd tI]
abbrev U_impl_lostOk : List OT := [⟨false, tB, .fz⟩]
noncomputable def raw_impl_lostOk (a0 : dG) (a1 a2 : Int) : Option (ResD U_impl_lostOk × MutD I_impl_lostOk) :=
  let r1 := n_impl_within a1 (-1) (IntKind.i64.wrap (a0.1 - 1))
  bif r1 then
    let r2 := n_impl_within a2 0 a0.2
    bif r2 then
      bif (!(a2 == 0)) then
        some (((a1 != (-1)), ()), ())
      else
        some ((true, ()), ())
    else
      some ((false, ()), ())
  else
    some ((false, ()), ())
theorem e_impl_lostOk (x : InD I_impl_lostOk) : execF ⟨E_impl_lostOk, 26, D_impl_lostOk_0⟩ Try.f41.results.toList B_impl_lostOk I_impl_lostOk U_impl_lostOk x = raw_impl_lostOk x.1 x.2.1 x.2.2.1 := by kernel_rfl
theorem ok0_impl_lostOk : ConOk Try.prog 41 ⟨I_impl_lostOk, U_impl_lostOk, fun x => raw_impl_lostOk x.1 x.2.1 x.2.2.1⟩ := conOk_exec (fr_impl_lostOk_0) Try.func41 (by kernel_rfl) (by kernel_rfl) Try.ntmps41.symm (by decide) (fun x r h => (e_impl_lostOk x).trans h)
noncomputable def n_impl_lostOk (a0 : dG) (a1 a2 : Int) : Bool :=
  let r1 := n_impl_within a1 (-1) (IntKind.i64.wrap (a0.1 - 1))
  bif r1 then
    let r2 := n_impl_within a2 0 a0.2
    bif r2 then
      bif (!(a2 == 0)) then
        (a1 != (-1))
      else
        true
    else
      false
  else
    false
noncomputable def con_impl_lostOk : Con := ⟨I_impl_lostOk, U_impl_lostOk, fun x => (fun n => some ((n, ()), ())) (n_impl_lostOk x.1 x.2.1 x.2.2.1)⟩
theorem nn_impl_lostOk (a0 : dG) (a1 a2 : Int) : raw_impl_lostOk a0 a1 a2 = (fun n => some ((n, ()), ())) (n_impl_lostOk a0 a1 a2) := bif_ty (p := fun (n : Bool) => ((n, ()), ())) (bif_some (p := fun (n : Bool) => ((n, ()), ())) (bif_some (p := fun (n : Bool) => ((n, ()), ())) (bif_some (p := fun (n : Bool) => ((n, ()), ())) rfl rfl) rfl) rfl)
theorem ok_impl_lostOk : ConOk Try.prog 41 con_impl_lostOk := (ok0_impl_lostOk).mono (fun x r _ h => (nn_impl_lostOk x.1 x.2.1 x.2.2.1).trans h)
end

/-! impl_hasStripe -/
section
noncomputable def B_impl_hasStripe : Code := (Try.f36.body).getD .skip
noncomputable def E_impl_hasStripe : Env := envOf TT [(39, con_impl_within), (40, con_impl_GeoOk)] []
theorem fr_impl_hasStripe_0 : FrOk Try.prog ⟨E_impl_hasStripe, 14, fun _ => none⟩ B_impl_hasStripe := frOk_base mixed tt_ok ⟨ok_impl_within, ok_impl_GeoOk, trivial⟩
noncomputable def D_impl_hasStripe_0 : Nat → Option Seg := fun _ => none
abbrev I_impl_hasStripe : List Par := [.rd tG, .rd tI]
abbrev U_impl_hasStripe : List OT := [⟨false, tB, .fz⟩]
noncomputable def raw_impl_hasStripe (a0 : dG) (a1 : Int) : Option (ResD U_impl_hasStripe × MutD I_impl_hasStripe) :=
  let r1 := n_impl_GeoOk a0
  bif r1 then
    let r2 := n_impl_within a1 0 (IntKind.i64.wrap (a0.2 - 1))
    some ((r2, ()), ())
  else
    some ((false, ()), ())
theorem e_impl_hasStripe (x : InD I_impl_hasStripe) : execF ⟨E_impl_hasStripe, 14, D_impl_hasStripe_0⟩ Try.f36.results.toList B_impl_hasStripe I_impl_hasStripe U_impl_hasStripe x = raw_impl_hasStripe x.1 x.2.1 := by kernel_rfl
theorem ok0_impl_hasStripe : ConOk Try.prog 36 ⟨I_impl_hasStripe, U_impl_hasStripe, fun x => raw_impl_hasStripe x.1 x.2.1⟩ := conOk_exec (fr_impl_hasStripe_0) Try.func36 (by kernel_rfl) (by kernel_rfl) Try.ntmps36.symm (by decide) (fun x r h => (e_impl_hasStripe x).trans h)
noncomputable def n_impl_hasStripe (a0 : dG) (a1 : Int) : Bool :=
  let r1 := n_impl_GeoOk a0
  bif r1 then
    let r2 := n_impl_within a1 0 (IntKind.i64.wrap (a0.2 - 1))
    r2
  else
    false
noncomputable def con_impl_hasStripe : Con := ⟨I_impl_hasStripe, U_impl_hasStripe, fun x => (fun n => some ((n, ()), ())) (n_impl_hasStripe x.1 x.2.1)⟩
theorem nn_impl_hasStripe (a0 : dG) (a1 : Int) : raw_impl_hasStripe a0 a1 = (fun n => some ((n, ()), ())) (n_impl_hasStripe a0 a1) := bif_ty (p := fun (n : Bool) => ((n, ()), ())) (bif_some (p := fun (n : Bool) => ((n, ()), ())) rfl rfl)
theorem ok_impl_hasStripe : ConOk Try.prog 36 con_impl_hasStripe := (ok0_impl_hasStripe).mono (fun x r _ h => (nn_impl_hasStripe x.1 x.2.1).trans h)
theorem impl_str_eq (g : dG) (s : Int) : n_impl_hasStripe g s = strOk g s := by
  unfold n_impl_hasStripe strOk
  rw [geo_eq]
  cases hg : n_spec_GeoOk g
  · rfl
  have := geo_iff.1 hg
  rw [impl_in_eq, in_eq, wr (by omega) (by omega)]; rfl
end

/-! impl_isWord -/
section
noncomputable def B_impl_isWord : Code := (Try.f160.body).getD .skip
noncomputable def E_impl_isWord : Env := envOf TT [(39, con_impl_within)] []
theorem fr_impl_isWord_0 : FrOk Try.prog ⟨E_impl_isWord, 5, fun _ => none⟩ B_impl_isWord := frOk_base mixed tt_ok ⟨ok_impl_within, trivial⟩
noncomputable def D_impl_isWord_0 : Nat → Option Seg := fun _ => none
abbrev I_impl_isWord : List Par := [.rd tI]
abbrev U_impl_isWord : List OT := [⟨false, tB, .fz⟩]
noncomputable def raw_impl_isWord (a0 : Int) : Option (ResD U_impl_isWord × MutD I_impl_isWord) :=
  let r1 := n_impl_within a0 0 65535
  some ((r1, ()), ())
theorem e_impl_isWord (x : InD I_impl_isWord) : execF ⟨E_impl_isWord, 5, D_impl_isWord_0⟩ Try.f160.results.toList B_impl_isWord I_impl_isWord U_impl_isWord x = raw_impl_isWord x.1 := by kernel_rfl
theorem ok0_impl_isWord : ConOk Try.prog 160 ⟨I_impl_isWord, U_impl_isWord, fun x => raw_impl_isWord x.1⟩ := conOk_exec (fr_impl_isWord_0) Try.func160 (by kernel_rfl) (by kernel_rfl) Try.ntmps160.symm (by decide) (fun x r h => (e_impl_isWord x).trans h)
noncomputable def n_impl_isWord (a0 : Int) : Bool :=
  let r1 := n_impl_within a0 0 65535
  r1
noncomputable def con_impl_isWord : Con := ⟨I_impl_isWord, U_impl_isWord, fun x => (fun n => some ((n, ()), ())) (n_impl_isWord x.1)⟩
theorem nn_impl_isWord (a0 : Int) : raw_impl_isWord a0 = (fun n => some ((n, ()), ())) (n_impl_isWord a0) := bif_ty (p := fun (n : Bool) => ((n, ()), ())) rfl
theorem ok_impl_isWord : ConOk Try.prog 160 con_impl_isWord := (ok0_impl_isWord).mono (fun x r _ h => (nn_impl_isWord x.1).trans h)
end
end Go.Tf
