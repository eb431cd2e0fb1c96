/- Functions of the program, and what they come to. -/
import Derived.Test.YtfpfaanblbakkaaExactDoCmdF1
namespace Go.Tf
open Go.Proofs
set_option synthInstance.maxHeartbeats 400000
set_option synthInstance.maxSize 10000
set_option linter.unusedVariables false
set_option linter.unusedSimpArgs false
set_option maxRecDepth 100000
/-! laws_toCmd -/
section
noncomputable def B_laws_toCmd : Code := (Try.f16.body).getD .skip
noncomputable def E_laws_toCmd : Env := envOf TT [(22, con_laws_toIntS)] []
theorem fr_laws_toCmd_0 : FrOk Try.prog ⟨E_laws_toCmd, 21, fun _ => none⟩ B_laws_toCmd := frOk_base mixed tt_ok ⟨ok_laws_toIntS, trivial⟩
noncomputable def D_laws_toCmd_0 : Nat → Option Seg := fun _ => none
abbrev I_laws_toCmd : List Par := [.rd tC]
abbrev U_laws_toCmd : List OT := [⟨false, tC, (.pr .fz (.pr .fz (.pr .fz (.pr .fz (.ow .fz)))))⟩]
noncomputable def raw_laws_toCmd (a0 : Int × Int × Int × Int × (List Int)) : Option (ResD U_laws_toCmd × MutD I_laws_toCmd) :=
  let r1 := n_laws_toIntS a0.2.2.2.2
  some (((a0.1, a0.2.1, a0.2.2.1, a0.2.2.2.1, r1), ()), ())
theorem e_laws_toCmd (x : InD I_laws_toCmd) : execF ⟨E_laws_toCmd, 21, D_laws_toCmd_0⟩ Try.f16.results.toList B_laws_toCmd I_laws_toCmd U_laws_toCmd x = raw_laws_toCmd x.1 := by kernel_rfl
theorem ok0_laws_toCmd : ConOk Try.prog 16 ⟨I_laws_toCmd, U_laws_toCmd, fun x => raw_laws_toCmd x.1⟩ := conOk_exec (fr_laws_toCmd_0) Try.func16 (by kernel_rfl) (by kernel_rfl) Try.ntmps16.symm (by decide) (fun x r h => (e_laws_toCmd x).trans h)
noncomputable def n_laws_toCmd (a0 : Int × Int × Int × Int × List Int) : Int × Int × Int × Int × List Int := a0
theorem nn_laws_toCmd (a0 : Int × Int × Int × Int × List Int) (hk : InOk I_laws_toCmd (a0, ())) : raw_laws_toCmd a0 = (fun n => some ((n, ()), ())) (n_laws_toCmd a0) := rfl
noncomputable def con_laws_toCmd : Con := ⟨I_laws_toCmd, U_laws_toCmd, fun x => (fun n => some ((n, ()), ())) (n_laws_toCmd x.1)⟩
theorem ok_laws_toCmd : ConOk Try.prog 16 con_laws_toCmd := (ok0_laws_toCmd).mono (fun x r hk h => (nn_laws_toCmd x.1 hk).trans h)
theorem id_laws_toCmd (a : Int × Int × Int × Int × (List Int)) : n_laws_toCmd a = a := by kernel_rfl
end

/-! impl_within -/
section
noncomputable def B_impl_within : Code := (Try.f107.body).getD .skip
noncomputable def E_impl_within : Env := envOf TT [] []
theorem fr_impl_within_0 : FrOk Try.prog ⟨E_impl_within, 15, fun _ => none⟩ B_impl_within := frOk_base mixed tt_ok trivial
noncomputable def D_impl_within_0 : Nat → Option Seg := fun _ => none
abbrev I_impl_within : List Par := [.rd tI, .rd tI, .rd tI]
abbrev U_impl_within : List OT := [⟨false, tB, .fz⟩]
noncomputable def raw_impl_within (a0 : Int) (a1 : Int) (a2 : Int) : Option (ResD U_impl_within × MutD I_impl_within) :=
  bif (leb a1 a0) then
    some (((leb a0 a2), ()), ())
  else
    some ((false, ()), ())
theorem e_impl_within (x : InD I_impl_within) : execF ⟨E_impl_within, 15, D_impl_within_0⟩ Try.f107.results.toList B_impl_within I_impl_within U_impl_within x = raw_impl_within x.1 x.2.1 x.2.2.1 := by kernel_rfl
theorem ok0_impl_within : ConOk Try.prog 107 ⟨I_impl_within, U_impl_within, fun x => raw_impl_within x.1 x.2.1 x.2.2.1⟩ := conOk_exec (fr_impl_within_0) Try.func107 (by kernel_rfl) (by kernel_rfl) Try.ntmps107.symm (by decide) (fun x r h => (e_impl_within x).trans h)
noncomputable def n_impl_within (a0 : Int) (a1 : Int) (a2 : Int) : Bool :=
  bif (leb a1 a0) then
    (leb a0 a2)
  else
    false
noncomputable def con_impl_within : Con := ⟨I_impl_within, U_impl_within, fun x => (fun n => some ((n, ()), ())) (n_impl_within x.1 x.2.1 x.2.2.1)⟩
theorem nn_impl_within (a0 : Int) (a1 : Int) (a2 : Int) : raw_impl_within a0 a1 a2 = (fun n => some ((n, ()), ())) (n_impl_within a0 a1 a2) := bif_ty (p := fun (n : Bool) => ((n, ()), ())) (bif_some (p := fun (n : Bool) => ((n, ()), ())) rfl rfl)
theorem ok_impl_within : ConOk Try.prog 107 con_impl_within := (ok0_impl_within).mono (fun x r _ h => (nn_impl_within x.1 x.2.1 x.2.2.1).trans h)
theorem impl_in_eq (a b c : Int) : n_impl_within a b c = n_spec_l1In a b c := by kernel_rfl
end

/-! impl_GeoOk -/
section
noncomputable def B_impl_GeoOk : Code := (Try.f106.body).getD .skip
noncomputable def E_impl_GeoOk : Env := envOf TT [(107, con_impl_within)] []
theorem fr_impl_GeoOk_0 : FrOk Try.prog ⟨E_impl_GeoOk, 11, fun _ => none⟩ B_impl_GeoOk := frOk_base mixed tt_ok ⟨ok_impl_within, trivial⟩
noncomputable def D_impl_GeoOk_0 : Nat → Option Seg := fun _ => none
abbrev I_impl_GeoOk : List Par := [.rd tG]
abbrev U_impl_GeoOk : List OT := [⟨false, tB, .fz⟩]
noncomputable def raw_impl_GeoOk (a0 : Int × Int) : Option (ResD U_impl_GeoOk × MutD I_impl_GeoOk) :=
  let r1 := n_impl_within a0.1 3 5
  bif r1 then
    let r2 := n_impl_within a0.2 1 8
    some ((r2, ()), ())
  else
    some ((false, ()), ())
theorem e_impl_GeoOk (x : InD I_impl_GeoOk) : execF ⟨E_impl_GeoOk, 11, D_impl_GeoOk_0⟩ Try.f106.results.toList B_impl_GeoOk I_impl_GeoOk U_impl_GeoOk x = raw_impl_GeoOk x.1 := by kernel_rfl
theorem ok0_impl_GeoOk : ConOk Try.prog 106 ⟨I_impl_GeoOk, U_impl_GeoOk, fun x => raw_impl_GeoOk x.1⟩ := conOk_exec (fr_impl_GeoOk_0) Try.func106 (by kernel_rfl) (by kernel_rfl) Try.ntmps106.symm (by decide) (fun x r h => (e_impl_GeoOk x).trans h)
noncomputable def n_impl_GeoOk (a0 : Int × Int) : Bool :=
  let r1 := n_impl_within a0.1 3 5
  bif r1 then
    let r2 := n_impl_within a0.2 1 8
    r2
  else
    false
noncomputable def con_impl_GeoOk : Con := ⟨I_impl_GeoOk, U_impl_GeoOk, fun x => (fun n => some ((n, ()), ())) (n_impl_GeoOk x.1)⟩
theorem nn_impl_GeoOk (a0 : Int × Int) : raw_impl_GeoOk a0 = (fun n => some ((n, ()), ())) (n_impl_GeoOk a0) := bif_ty (p := fun (n : Bool) => ((n, ()), ())) (bif_some (p := fun (n : Bool) => ((n, ()), ())) rfl rfl)
theorem ok_impl_GeoOk : ConOk Try.prog 106 con_impl_GeoOk := (ok0_impl_GeoOk).mono (fun x r _ h => (nn_impl_GeoOk x.1).trans h)
theorem geo_eq (a : Int × Int) : n_impl_GeoOk a = n_spec_GeoOk a := by kernel_rfl
end

/-! impl_Blocks -/
section
noncomputable def B_impl_Blocks : Code := (Try.f71.body).getD .skip
noncomputable def E_impl_Blocks : Env := envOf TT [(106, con_impl_GeoOk)] []
theorem fr_impl_Blocks_0 : FrOk Try.prog ⟨E_impl_Blocks, 12, fun _ => none⟩ B_impl_Blocks := frOk_base mixed tt_ok ⟨ok_impl_GeoOk, trivial⟩
noncomputable def D_impl_Blocks_0 : Nat → Option Seg := fun _ => none
abbrev I_impl_Blocks : List Par := [.rd tG]
abbrev U_impl_Blocks : List OT := [⟨false, tI, .fz⟩]
noncomputable def raw_impl_Blocks (a0 : Int × Int) : Option (ResD U_impl_Blocks × MutD I_impl_Blocks) :=
  let r1 := n_impl_GeoOk a0
  bif (!r1) then
    some ((0, ()), ())
  else
    some (((IntKind.i64.wrap (a0.2 * (IntKind.i64.wrap (a0.1 - 1)))), ()), ())
theorem e_impl_Blocks (x : InD I_impl_Blocks) : execF ⟨E_impl_Blocks, 12, D_impl_Blocks_0⟩ Try.f71.results.toList B_impl_Blocks I_impl_Blocks U_impl_Blocks x = raw_impl_Blocks x.1 := by kernel_rfl
theorem ok0_impl_Blocks : ConOk Try.prog 71 ⟨I_impl_Blocks, U_impl_Blocks, fun x => raw_impl_Blocks x.1⟩ := conOk_exec (fr_impl_Blocks_0) Try.func71 (by kernel_rfl) (by kernel_rfl) Try.ntmps71.symm (by decide) (fun x r h => (e_impl_Blocks x).trans h)
noncomputable def n_impl_Blocks (a0 : Int × Int) : Int :=
  let r1 := n_impl_GeoOk a0
  bif (!r1) then
    0
  else
    (IntKind.i64.wrap (a0.2 * (IntKind.i64.wrap (a0.1 - 1))))
noncomputable def con_impl_Blocks : Con := ⟨I_impl_Blocks, U_impl_Blocks, fun x => (fun n => some ((n, ()), ())) (n_impl_Blocks x.1)⟩
theorem nn_impl_Blocks (a0 : Int × Int) : raw_impl_Blocks a0 = (fun n => some ((n, ()), ())) (n_impl_Blocks a0) := bif_ty (p := fun (n : Int) => ((n, ()), ())) (bif_some (p := fun (n : Int) => ((n, ()), ())) rfl rfl)
theorem ok_impl_Blocks : ConOk Try.prog 71 con_impl_Blocks := (ok0_impl_Blocks).mono (fun x r _ h => (nn_impl_Blocks x.1).trans h)
theorem impl_Blocks_eq (a : Int × Int) : n_impl_Blocks a = n_spec_Blocks a := by kernel_rfl
end

/-! impl_runOf -/
section
noncomputable def B_impl_runOf : Code := (Try.f72.body).getD .skip
noncomputable def E_impl_runOf : Env := envOf TT [] []
theorem fr_impl_runOf_0 : FrOk Try.prog ⟨E_impl_runOf, 18, fun _ => none⟩ B_impl_runOf := frOk_base mixed tt_ok trivial
noncomputable def D_impl_runOf_0 : Nat → Option Seg := fun _ => none
abbrev I_impl_runOf : List Par := [.rd tC]
abbrev U_impl_runOf : List OT := [⟨false, tI, .fz⟩]
noncomputable def raw_impl_runOf (a0 : Int × Int × Int × Int × (List Int)) : Option (ResD U_impl_runOf × MutD I_impl_runOf) :=
  bif (a0.1 == 1) then
    bif (a0.1 == 1) then
      some ((a0.2.2.2.1, ()), ())
    else
      bif (a0.1 == 2) then
        bif (a0.1 == 2) then
          some (((a0.2.2.2.2.length : Int), ()), ())
        else
          bif (a0.1 == 5) then
            some ((1, ()), ())
          else
            some ((0, ()), ())
      else
        bif (a0.1 == 3) then
          some (((a0.2.2.2.2.length : Int), ()), ())
        else
          bif (a0.1 == 5) then
            some ((1, ()), ())
          else
            some ((0, ()), ())
  else
    bif (a0.1 == 6) then
      some ((a0.2.2.2.1, ()), ())
    else
      bif (a0.1 == 2) then
        bif (a0.1 == 2) then
          some (((a0.2.2.2.2.length : Int), ()), ())
        else
          bif (a0.1 == 5) then
            some ((1, ()), ())
          else
            some ((0, ()), ())
      else
        bif (a0.1 == 3) then
          some (((a0.2.2.2.2.length : Int), ()), ())
        else
          bif (a0.1 == 5) then
            some ((1, ()), ())
          else
            some ((0, ()), ())
theorem e_impl_runOf (x : InD I_impl_runOf) : execF ⟨E_impl_runOf, 18, D_impl_runOf_0⟩ Try.f72.results.toList B_impl_runOf I_impl_runOf U_impl_runOf x = raw_impl_runOf x.1 := by kernel_rfl
theorem ok0_impl_runOf : ConOk Try.prog 72 ⟨I_impl_runOf, U_impl_runOf, fun x => raw_impl_runOf x.1⟩ := conOk_exec (fr_impl_runOf_0) Try.func72 (by kernel_rfl) (by kernel_rfl) Try.ntmps72.symm (by decide) (fun x r h => (e_impl_runOf x).trans h)
noncomputable def n_impl_runOf (a0 : Int × Int × Int × Int × (List Int)) : Int :=
  bif (a0.1 == 1) then
    bif (a0.1 == 1) then
      a0.2.2.2.1
    else
      bif (a0.1 == 2) then
        bif (a0.1 == 2) then
          (a0.2.2.2.2.length : Int)
        else
          bif (a0.1 == 5) then
            1
          else
            0
      else
        bif (a0.1 == 3) then
          (a0.2.2.2.2.length : Int)
        else
          bif (a0.1 == 5) then
            1
          else
            0
  else
    bif (a0.1 == 6) then
      a0.2.2.2.1
    else
      bif (a0.1 == 2) then
        bif (a0.1 == 2) then
          (a0.2.2.2.2.length : Int)
        else
          bif (a0.1 == 5) then
            1
          else
            0
      else
        bif (a0.1 == 3) then
          (a0.2.2.2.2.length : Int)
        else
          bif (a0.1 == 5) then
            1
          else
            0
noncomputable def con_impl_runOf : Con := ⟨I_impl_runOf, U_impl_runOf, fun x => (fun n => some ((n, ()), ())) (n_impl_runOf x.1)⟩
theorem nn_impl_runOf (a0 : Int × Int × Int × Int × (List Int)) : raw_impl_runOf a0 = (fun n => some ((n, ()), ())) (n_impl_runOf a0) := bif_ty (p := fun (n : Int) => ((n, ()), ())) (bif_some (p := fun (n : Int) => ((n, ()), ())) (bif_some (p := fun (n : Int) => ((n, ()), ())) rfl (bif_some (p := fun (n : Int) => ((n, ()), ())) (bif_some (p := fun (n : Int) => ((n, ()), ())) rfl (bif_some (p := fun (n : Int) => ((n, ()), ())) rfl rfl)) (bif_some (p := fun (n : Int) => ((n, ()), ())) rfl (bif_some (p := fun (n : Int) => ((n, ()), ())) rfl rfl)))) (bif_some (p := fun (n : Int) => ((n, ()), ())) rfl (bif_some (p := fun (n : Int) => ((n, ()), ())) (bif_some (p := fun (n : Int) => ((n, ()), ())) rfl (bif_some (p := fun (n : Int) => ((n, ()), ())) rfl rfl)) (bif_some (p := fun (n : Int) => ((n, ()), ())) rfl (bif_some (p := fun (n : Int) => ((n, ()), ())) rfl rfl)))))
theorem ok_impl_runOf : ConOk Try.prog 72 con_impl_runOf := (ok0_impl_runOf).mono (fun x r _ h => (nn_impl_runOf x.1).trans h)
end

/-! impl_isWord -/
section
noncomputable def B_impl_isWord : Code := (Try.f153.body).getD .skip
noncomputable def E_impl_isWord : Env := envOf TT [(107, con_impl_within)] []
theorem fr_impl_isWord_0 : FrOk Try.prog ⟨E_impl_isWord, 5, fun _ => none⟩ B_impl_isWord := frOk_base mixed tt_ok ⟨ok_impl_within, trivial⟩
noncomputable def D_impl_isWord_0 : Nat → Option Seg := fun _ => none
abbrev I_impl_isWord : List Par := [.rd tI]
abbrev U_impl_isWord : List OT := [⟨false, tB, .fz⟩]
noncomputable def raw_impl_isWord (a0 : Int) : Option (ResD U_impl_isWord × MutD I_impl_isWord) :=
  let r1 := n_impl_within a0 0 65535
  some ((r1, ()), ())
theorem e_impl_isWord (x : InD I_impl_isWord) : execF ⟨E_impl_isWord, 5, D_impl_isWord_0⟩ Try.f153.results.toList B_impl_isWord I_impl_isWord U_impl_isWord x = raw_impl_isWord x.1 := by kernel_rfl
theorem ok0_impl_isWord : ConOk Try.prog 153 ⟨I_impl_isWord, U_impl_isWord, fun x => raw_impl_isWord x.1⟩ := conOk_exec (fr_impl_isWord_0) Try.func153 (by kernel_rfl) (by kernel_rfl) Try.ntmps153.symm (by decide) (fun x r h => (e_impl_isWord x).trans h)
noncomputable def n_impl_isWord (a0 : Int) : Bool :=
  let r1 := n_impl_within a0 0 65535
  r1
noncomputable def con_impl_isWord : Con := ⟨I_impl_isWord, U_impl_isWord, fun x => (fun n => some ((n, ()), ())) (n_impl_isWord x.1)⟩
theorem nn_impl_isWord (a0 : Int) : raw_impl_isWord a0 = (fun n => some ((n, ()), ())) (n_impl_isWord a0) := bif_ty (p := fun (n : Bool) => ((n, ()), ())) rfl
theorem ok_impl_isWord : ConOk Try.prog 153 con_impl_isWord := (ok0_impl_isWord).mono (fun x r _ h => (nn_impl_isWord x.1).trans h)
end
end Go.Tf
