/- Functions of the program, and what they come to. -/
import Derived.Test.YtljhekjbdmnmnaaExactCmdCodeF2
namespace Go.Tf
open Go.Proofs
set_option linter.unusedVariables false
set_option linter.unusedSimpArgs false
set_option maxRecDepth 100000
/-! impl_sizeOk -/
section
noncomputable def B_impl_sizeOk : Code := (Try.f48.body).getD .skip
noncomputable def E_impl_sizeOk : Env := envOf TT [(40, con_impl_within), (41, con_impl_wordsOk)] []
theorem fr_impl_sizeOk_0 : FrOk Try.prog ⟨E_impl_sizeOk, 34, fun _ => none⟩ B_impl_sizeOk := frOk_base mixed tt_ok ⟨ok_impl_within, ok_impl_wordsOk, trivial⟩
noncomputable def D_impl_sizeOk_0 : Nat → Option Seg := fun _ => none
abbrev I_impl_sizeOk : List Par := [.rd tC]
abbrev U_impl_sizeOk : List OT := [⟨false, tB, .fz⟩]
noncomputable def raw_impl_sizeOk (a0 : Int × Int × Int × Int × (List Int)) : Option (ResD U_impl_sizeOk × MutD I_impl_sizeOk) :=
  bif (a0.1 == 1) then
    bif (a0.1 == 1) then
      let r1 := n_impl_within a0.2.2.2.1 1 6
      some ((r1, ()), ())
    else
      bif (a0.1 == 2) then
        bif (a0.1 == 2) then
          let r2 := n_impl_within (a0.2.2.2.2.length : Int) 1 6
          bif r2 then
            let r3 := n_impl_wordsOk a0.2.2.2.2
            some ((r3, ()), ())
          else
            some ((false, ()), ())
        else
          bif (a0.1 == 5) then
            bif ((a0.2.2.2.2.length : Int) == 2) then
              let r4 := n_impl_wordsOk a0.2.2.2.2
              some ((r4, ()), ())
            else
              some ((false, ()), ())
          else
            some ((true, ()), ())
      else
        bif (a0.1 == 3) then
          let r5 := n_impl_within (a0.2.2.2.2.length : Int) 1 6
          bif r5 then
            let r6 := n_impl_wordsOk a0.2.2.2.2
            some ((r6, ()), ())
          else
            some ((false, ()), ())
        else
          bif (a0.1 == 5) then
            bif ((a0.2.2.2.2.length : Int) == 2) then
              let r7 := n_impl_wordsOk a0.2.2.2.2
              some ((r7, ()), ())
            else
              some ((false, ()), ())
          else
            some ((true, ()), ())
  else
    bif (a0.1 == 6) then
      let r8 := n_impl_within a0.2.2.2.1 1 6
      some ((r8, ()), ())
    else
      bif (a0.1 == 2) then
        bif (a0.1 == 2) then
          let r9 := n_impl_within (a0.2.2.2.2.length : Int) 1 6
          bif r9 then
            let r10 := n_impl_wordsOk a0.2.2.2.2
            some ((r10, ()), ())
          else
            some ((false, ()), ())
        else
          bif (a0.1 == 5) then
            bif ((a0.2.2.2.2.length : Int) == 2) then
              let r11 := n_impl_wordsOk a0.2.2.2.2
              some ((r11, ()), ())
            else
              some ((false, ()), ())
          else
            some ((true, ()), ())
      else
        bif (a0.1 == 3) then
          let r12 := n_impl_within (a0.2.2.2.2.length : Int) 1 6
          bif r12 then
            let r13 := n_impl_wordsOk a0.2.2.2.2
            some ((r13, ()), ())
          else
            some ((false, ()), ())
        else
          bif (a0.1 == 5) then
            bif ((a0.2.2.2.2.length : Int) == 2) then
              let r14 := n_impl_wordsOk a0.2.2.2.2
              some ((r14, ()), ())
            else
              some ((false, ()), ())
          else
            some ((true, ()), ())
theorem e_impl_sizeOk (x : InD I_impl_sizeOk) : execF ⟨E_impl_sizeOk, 34, D_impl_sizeOk_0⟩ Try.f48.results.toList B_impl_sizeOk I_impl_sizeOk U_impl_sizeOk x = raw_impl_sizeOk x.1 := by kernel_rfl
theorem ok0_impl_sizeOk : ConOk Try.prog 48 ⟨I_impl_sizeOk, U_impl_sizeOk, fun x => raw_impl_sizeOk x.1⟩ := conOk_exec (fr_impl_sizeOk_0) Try.func48 (by kernel_rfl) (by kernel_rfl) Try.ntmps48.symm (by decide) (fun x r h => (e_impl_sizeOk x).trans h)
noncomputable def n_impl_sizeOk (a0 : Int × Int × Int × Int × (List Int)) : Bool :=
  bif (a0.1 == 1) then
    bif (a0.1 == 1) then
      let r1 := n_impl_within a0.2.2.2.1 1 6
      r1
    else
      bif (a0.1 == 2) then
        bif (a0.1 == 2) then
          let r2 := n_impl_within (a0.2.2.2.2.length : Int) 1 6
          bif r2 then
            let r3 := n_impl_wordsOk a0.2.2.2.2
            r3
          else
            false
        else
          bif (a0.1 == 5) then
            bif ((a0.2.2.2.2.length : Int) == 2) then
              let r4 := n_impl_wordsOk a0.2.2.2.2
              r4
            else
              false
          else
            true
      else
        bif (a0.1 == 3) then
          let r5 := n_impl_within (a0.2.2.2.2.length : Int) 1 6
          bif r5 then
            let r6 := n_impl_wordsOk a0.2.2.2.2
            r6
          else
            false
        else
          bif (a0.1 == 5) then
            bif ((a0.2.2.2.2.length : Int) == 2) then
              let r7 := n_impl_wordsOk a0.2.2.2.2
              r7
            else
              false
          else
            true
  else
    bif (a0.1 == 6) then
      let r8 := n_impl_within a0.2.2.2.1 1 6
      r8
    else
      bif (a0.1 == 2) then
        bif (a0.1 == 2) then
          let r9 := n_impl_within (a0.2.2.2.2.length : Int) 1 6
          bif r9 then
            let r10 := n_impl_wordsOk a0.2.2.2.2
            r10
          else
            false
        else
          bif (a0.1 == 5) then
            bif ((a0.2.2.2.2.length : Int) == 2) then
              let r11 := n_impl_wordsOk a0.2.2.2.2
              r11
            else
              false
          else
            true
      else
        bif (a0.1 == 3) then
          let r12 := n_impl_within (a0.2.2.2.2.length : Int) 1 6
          bif r12 then
            let r13 := n_impl_wordsOk a0.2.2.2.2
            r13
          else
            false
        else
          bif (a0.1 == 5) then
            bif ((a0.2.2.2.2.length : Int) == 2) then
              let r14 := n_impl_wordsOk a0.2.2.2.2
              r14
            else
              false
          else
            true
noncomputable def con_impl_sizeOk : Con := ⟨I_impl_sizeOk, U_impl_sizeOk, fun x => (fun n => some ((n, ()), ())) (n_impl_sizeOk x.1)⟩
theorem nn_impl_sizeOk (a0 : Int × Int × Int × Int × (List Int)) : raw_impl_sizeOk a0 = (fun n => some ((n, ()), ())) (n_impl_sizeOk a0) := bif_ty (p := fun (n : Bool) => ((n, ()), ())) (bif_some (p := fun (n : Bool) => ((n, ()), ())) (bif_some (p := fun (n : Bool) => ((n, ()), ())) rfl (bif_some (p := fun (n : Bool) => ((n, ()), ())) (bif_some (p := fun (n : Bool) => ((n, ()), ())) (bif_some (p := fun (n : Bool) => ((n, ()), ())) rfl rfl) (bif_some (p := fun (n : Bool) => ((n, ()), ())) (bif_some (p := fun (n : Bool) => ((n, ()), ())) rfl rfl) rfl)) (bif_some (p := fun (n : Bool) => ((n, ()), ())) (bif_some (p := fun (n : Bool) => ((n, ()), ())) rfl rfl) (bif_some (p := fun (n : Bool) => ((n, ()), ())) (bif_some (p := fun (n : Bool) => ((n, ()), ())) rfl rfl) rfl)))) (bif_some (p := fun (n : Bool) => ((n, ()), ())) rfl (bif_some (p := fun (n : Bool) => ((n, ()), ())) (bif_some (p := fun (n : Bool) => ((n, ()), ())) (bif_some (p := fun (n : Bool) => ((n, ()), ())) rfl rfl) (bif_some (p := fun (n : Bool) => ((n, ()), ())) (bif_some (p := fun (n : Bool) => ((n, ()), ())) rfl rfl) rfl)) (bif_some (p := fun (n : Bool) => ((n, ()), ())) (bif_some (p := fun (n : Bool) => ((n, ()), ())) rfl rfl) (bif_some (p := fun (n : Bool) => ((n, ()), ())) (bif_some (p := fun (n : Bool) => ((n, ()), ())) rfl rfl) rfl)))))
theorem ok_impl_sizeOk : ConOk Try.prog 48 con_impl_sizeOk := (ok0_impl_sizeOk).mono (fun x r _ h => (nn_impl_sizeOk x.1).trans h)
end

/-! impl_CmdCode -/
section
noncomputable def B_impl_CmdCode : Code := (Try.f30.body).getD .skip
noncomputable def E_impl_CmdCode : Env := envOf TT [(28, con_impl_Blocks), (40, con_impl_within), (46, con_impl_runOf), (47, con_impl_GeoOk), (48, con_impl_sizeOk)] []
theorem fr_impl_CmdCode_0 : FrOk Try.prog ⟨E_impl_CmdCode, 40, fun _ => none⟩ B_impl_CmdCode := frOk_base mixed tt_ok ⟨ok_impl_Blocks, ok_impl_within, ok_impl_runOf, ok_impl_GeoOk, ok_impl_sizeOk, trivial⟩
noncomputable def D_impl_CmdCode_0 : Nat → Option Seg := fun _ => none
abbrev I_impl_CmdCode : List Par := [.rd tG, .rd tC]
abbrev U_impl_CmdCode : List OT := [⟨false, tI, .fz⟩]
noncomputable def raw_impl_CmdCode (a0 : Int × Int) (a1 : Int × Int × Int × Int × (List Int)) : Option (ResD U_impl_CmdCode × MutD I_impl_CmdCode) :=
  let r1 := n_impl_GeoOk a0
  bif (!(!r1)) then
    let r2 := n_impl_within a1.1 1 6
    bif (!(!r2)) then
      let r3 := n_impl_within a1.2.1 1 999
      bif (!r3) then
        some ((1, ()), ())
      else
        let r4 := n_impl_sizeOk a1
        bif (!r4) then
          some ((3, ()), ())
        else
          bif (a1.1 != 4) then
            let r5 := n_impl_Blocks a0
            let r6 := n_impl_runOf a1
            let r7 := n_impl_within a1.2.2.1 0 (IntKind.i64.wrap (r5 - r6))
            bif (!r7) then
              some ((2, ()), ())
            else
              some ((0, ()), ())
          else
            some ((0, ()), ())
    else
      some ((1, ()), ())
  else
    some ((1, ()), ())
theorem e_impl_CmdCode (x : InD I_impl_CmdCode) : execF ⟨E_impl_CmdCode, 40, D_impl_CmdCode_0⟩ Try.f30.results.toList B_impl_CmdCode I_impl_CmdCode U_impl_CmdCode x = raw_impl_CmdCode x.1 x.2.1 := by kernel_rfl
theorem ok0_impl_CmdCode : ConOk Try.prog 30 ⟨I_impl_CmdCode, U_impl_CmdCode, fun x => raw_impl_CmdCode x.1 x.2.1⟩ := conOk_exec (fr_impl_CmdCode_0) Try.func30 (by kernel_rfl) (by kernel_rfl) Try.ntmps30.symm (by decide) (fun x r h => (e_impl_CmdCode x).trans h)
noncomputable def n_impl_CmdCode (a0 : Int × Int) (a1 : Int × Int × Int × Int × (List Int)) : Int :=
  let r1 := n_impl_GeoOk a0
  bif (!(!r1)) then
    let r2 := n_impl_within a1.1 1 6
    bif (!(!r2)) then
      let r3 := n_impl_within a1.2.1 1 999
      bif (!r3) then
        1
      else
        let r4 := n_impl_sizeOk a1
        bif (!r4) then
          3
        else
          bif (a1.1 != 4) then
            let r5 := n_impl_Blocks a0
            let r6 := n_impl_runOf a1
            let r7 := n_impl_within a1.2.2.1 0 (IntKind.i64.wrap (r5 - r6))
            bif (!r7) then
              2
            else
              0
          else
            0
    else
      1
  else
    1
noncomputable def con_impl_CmdCode : Con := ⟨I_impl_CmdCode, U_impl_CmdCode, fun x => (fun n => some ((n, ()), ())) (n_impl_CmdCode x.1 x.2.1)⟩
theorem nn_impl_CmdCode (a0 : Int × Int) (a1 : Int × Int × Int × Int × (List Int)) : raw_impl_CmdCode a0 a1 = (fun n => some ((n, ()), ())) (n_impl_CmdCode a0 a1) := bif_ty (p := fun (n : Int) => ((n, ()), ())) (bif_some (p := fun (n : Int) => ((n, ()), ())) (bif_some (p := fun (n : Int) => ((n, ()), ())) (bif_some (p := fun (n : Int) => ((n, ()), ())) rfl (bif_some (p := fun (n : Int) => ((n, ()), ())) rfl (bif_some (p := fun (n : Int) => ((n, ()), ())) (bif_some (p := fun (n : Int) => ((n, ()), ())) rfl rfl) rfl))) rfl) rfl)
theorem ok_impl_CmdCode : ConOk Try.prog 30 con_impl_CmdCode := (ok0_impl_CmdCode).mono (fun x r _ h => (nn_impl_CmdCode x.1 x.2.1).trans h)
end

/-! spec_l13Size -/
section
noncomputable def B_spec_l13Size : Code := (Try.f50.body).getD .skip
noncomputable def E_spec_l13Size : Env := envOf TT [(38, con_spec_l1In), (39, con_spec_l1Words)] []
theorem fr_spec_l13Size_0 : FrOk Try.prog ⟨E_spec_l13Size, 34, fun _ => none⟩ B_spec_l13Size := frOk_base mixed tt_ok ⟨ok_spec_l1In, ok_spec_l1Words, trivial⟩
noncomputable def D_spec_l13Size_0 : Nat → Option Seg := fun _ => none
abbrev I_spec_l13Size : List Par := [.rd tC]
abbrev U_spec_l13Size : List OT := [⟨false, tB, .fz⟩]
noncomputable def raw_spec_l13Size (a0 : Int × Int × Int × Int × (List Int)) : Option (ResD U_spec_l13Size × MutD I_spec_l13Size) :=
  bif (a0.1 == 1) then
    bif (a0.1 == 1) then
      let r1 := n_spec_l1In a0.2.2.2.1 1 6
      some ((r1, ()), ())
    else
      bif (a0.1 == 2) then
        bif (a0.1 == 2) then
          let r2 := n_spec_l1In (a0.2.2.2.2.length : Int) 1 6
          bif r2 then
            let r3 := n_spec_l1Words a0.2.2.2.2
            some ((r3, ()), ())
          else
            some ((false, ()), ())
        else
          bif (a0.1 == 5) then
            bif ((a0.2.2.2.2.length : Int) == 2) then
              let r4 := n_spec_l1Words a0.2.2.2.2
              some ((r4, ()), ())
            else
              some ((false, ()), ())
          else
            some ((true, ()), ())
      else
        bif (a0.1 == 3) then
          let r5 := n_spec_l1In (a0.2.2.2.2.length : Int) 1 6
          bif r5 then
            let r6 := n_spec_l1Words a0.2.2.2.2
            some ((r6, ()), ())
          else
            some ((false, ()), ())
        else
          bif (a0.1 == 5) then
            bif ((a0.2.2.2.2.length : Int) == 2) then
              let r7 := n_spec_l1Words a0.2.2.2.2
              some ((r7, ()), ())
            else
              some ((false, ()), ())
          else
            some ((true, ()), ())
  else
    bif (a0.1 == 6) then
      let r8 := n_spec_l1In a0.2.2.2.1 1 6
      some ((r8, ()), ())
    else
      bif (a0.1 == 2) then
        bif (a0.1 == 2) then
          let r9 := n_spec_l1In (a0.2.2.2.2.length : Int) 1 6
          bif r9 then
            let r10 := n_spec_l1Words a0.2.2.2.2
            some ((r10, ()), ())
          else
            some ((false, ()), ())
        else
          bif (a0.1 == 5) then
            bif ((a0.2.2.2.2.length : Int) == 2) then
              let r11 := n_spec_l1Words a0.2.2.2.2
              some ((r11, ()), ())
            else
              some ((false, ()), ())
          else
            some ((true, ()), ())
      else
        bif (a0.1 == 3) then
          let r12 := n_spec_l1In (a0.2.2.2.2.length : Int) 1 6
          bif r12 then
            let r13 := n_spec_l1Words a0.2.2.2.2
            some ((r13, ()), ())
          else
            some ((false, ()), ())
        else
          bif (a0.1 == 5) then
            bif ((a0.2.2.2.2.length : Int) == 2) then
              let r14 := n_spec_l1Words a0.2.2.2.2
              some ((r14, ()), ())
            else
              some ((false, ()), ())
          else
            some ((true, ()), ())
theorem e_spec_l13Size (x : InD I_spec_l13Size) : execF ⟨E_spec_l13Size, 34, D_spec_l13Size_0⟩ Try.f50.results.toList B_spec_l13Size I_spec_l13Size U_spec_l13Size x = raw_spec_l13Size x.1 := by kernel_rfl
theorem ok0_spec_l13Size : ConOk Try.prog 50 ⟨I_spec_l13Size, U_spec_l13Size, fun x => raw_spec_l13Size x.1⟩ := conOk_exec (fr_spec_l13Size_0) Try.func50 (by kernel_rfl) (by kernel_rfl) Try.ntmps50.symm (by decide) (fun x r h => (e_spec_l13Size x).trans h)
noncomputable def n_spec_l13Size (a0 : Int × Int × Int × Int × (List Int)) : Bool :=
  bif (a0.1 == 1) then
    bif (a0.1 == 1) then
      let r1 := n_spec_l1In a0.2.2.2.1 1 6
      r1
    else
      bif (a0.1 == 2) then
        bif (a0.1 == 2) then
          let r2 := n_spec_l1In (a0.2.2.2.2.length : Int) 1 6
          bif r2 then
            let r3 := n_spec_l1Words a0.2.2.2.2
            r3
          else
            false
        else
          bif (a0.1 == 5) then
            bif ((a0.2.2.2.2.length : Int) == 2) then
              let r4 := n_spec_l1Words a0.2.2.2.2
              r4
            else
              false
          else
            true
      else
        bif (a0.1 == 3) then
          let r5 := n_spec_l1In (a0.2.2.2.2.length : Int) 1 6
          bif r5 then
            let r6 := n_spec_l1Words a0.2.2.2.2
            r6
          else
            false
        else
          bif (a0.1 == 5) then
            bif ((a0.2.2.2.2.length : Int) == 2) then
              let r7 := n_spec_l1Words a0.2.2.2.2
              r7
            else
              false
          else
            true
  else
    bif (a0.1 == 6) then
      let r8 := n_spec_l1In a0.2.2.2.1 1 6
      r8
    else
      bif (a0.1 == 2) then
        bif (a0.1 == 2) then
          let r9 := n_spec_l1In (a0.2.2.2.2.length : Int) 1 6
          bif r9 then
            let r10 := n_spec_l1Words a0.2.2.2.2
            r10
          else
            false
        else
          bif (a0.1 == 5) then
            bif ((a0.2.2.2.2.length : Int) == 2) then
              let r11 := n_spec_l1Words a0.2.2.2.2
              r11
            else
              false
          else
            true
      else
        bif (a0.1 == 3) then
          let r12 := n_spec_l1In (a0.2.2.2.2.length : Int) 1 6
          bif r12 then
            let r13 := n_spec_l1Words a0.2.2.2.2
            r13
          else
            false
        else
          bif (a0.1 == 5) then
            bif ((a0.2.2.2.2.length : Int) == 2) then
              let r14 := n_spec_l1Words a0.2.2.2.2
              r14
            else
              false
          else
            true
noncomputable def con_spec_l13Size : Con := ⟨I_spec_l13Size, U_spec_l13Size, fun x => (fun n => some ((n, ()), ())) (n_spec_l13Size x.1)⟩
theorem nn_spec_l13Size (a0 : Int × Int × Int × Int × (List Int)) : raw_spec_l13Size a0 = (fun n => some ((n, ()), ())) (n_spec_l13Size a0) := bif_ty (p := fun (n : Bool) => ((n, ()), ())) (bif_some (p := fun (n : Bool) => ((n, ()), ())) (bif_some (p := fun (n : Bool) => ((n, ()), ())) rfl (bif_some (p := fun (n : Bool) => ((n, ()), ())) (bif_some (p := fun (n : Bool) => ((n, ()), ())) (bif_some (p := fun (n : Bool) => ((n, ()), ())) rfl rfl) (bif_some (p := fun (n : Bool) => ((n, ()), ())) (bif_some (p := fun (n : Bool) => ((n, ()), ())) rfl rfl) rfl)) (bif_some (p := fun (n : Bool) => ((n, ()), ())) (bif_some (p := fun (n : Bool) => ((n, ()), ())) rfl rfl) (bif_some (p := fun (n : Bool) => ((n, ()), ())) (bif_some (p := fun (n : Bool) => ((n, ()), ())) rfl rfl) rfl)))) (bif_some (p := fun (n : Bool) => ((n, ()), ())) rfl (bif_some (p := fun (n : Bool) => ((n, ()), ())) (bif_some (p := fun (n : Bool) => ((n, ()), ())) (bif_some (p := fun (n : Bool) => ((n, ()), ())) rfl rfl) (bif_some (p := fun (n : Bool) => ((n, ()), ())) (bif_some (p := fun (n : Bool) => ((n, ()), ())) rfl rfl) rfl)) (bif_some (p := fun (n : Bool) => ((n, ()), ())) (bif_some (p := fun (n : Bool) => ((n, ()), ())) rfl rfl) (bif_some (p := fun (n : Bool) => ((n, ()), ())) (bif_some (p := fun (n : Bool) => ((n, ()), ())) rfl rfl) rfl)))))
theorem ok_spec_l13Size : ConOk Try.prog 50 con_spec_l13Size := (ok0_spec_l13Size).mono (fun x r _ h => (nn_spec_l13Size x.1).trans h)
end

/-! spec_l13Len -/
section
noncomputable def B_spec_l13Len : Code := (Try.f51.body).getD .skip
noncomputable def E_spec_l13Len : Env := envOf TT [] []
theorem fr_spec_l13Len_0 : FrOk Try.prog ⟨E_spec_l13Len, 18, fun _ => none⟩ B_spec_l13Len := frOk_base mixed tt_ok trivial
noncomputable def D_spec_l13Len_0 : Nat → Option Seg := fun _ => none
abbrev I_spec_l13Len : List Par := [.rd tC]
abbrev U_spec_l13Len : List OT := [⟨false, tI, .fz⟩]
noncomputable def raw_spec_l13Len (a0 : Int × Int × Int × Int × (List Int)) : Option (ResD U_spec_l13Len × MutD I_spec_l13Len) :=
  bif (a0.1 == 1) then
    bif (a0.1 == 1) then
      some ((a0.2.2.2.1, ()), ())
    else
      bif (a0.1 == 2) then
        bif (a0.1 == 2) then
          some (((a0.2.2.2.2.length : Int), ()), ())
        else
          bif (a0.1 == 5) then
            some ((1, ()), ())
          else
            some ((0, ()), ())
      else
        bif (a0.1 == 3) then
          some (((a0.2.2.2.2.length : Int), ()), ())
        else
          bif (a0.1 == 5) then
            some ((1, ()), ())
          else
            some ((0, ()), ())
  else
    bif (a0.1 == 6) then
      some ((a0.2.2.2.1, ()), ())
    else
      bif (a0.1 == 2) then
        bif (a0.1 == 2) then
          some (((a0.2.2.2.2.length : Int), ()), ())
        else
          bif (a0.1 == 5) then
            some ((1, ()), ())
          else
            some ((0, ()), ())
      else
        bif (a0.1 == 3) then
          some (((a0.2.2.2.2.length : Int), ()), ())
        else
          bif (a0.1 == 5) then
            some ((1, ()), ())
          else
            some ((0, ()), ())
theorem e_spec_l13Len (x : InD I_spec_l13Len) : execF ⟨E_spec_l13Len, 18, D_spec_l13Len_0⟩ Try.f51.results.toList B_spec_l13Len I_spec_l13Len U_spec_l13Len x = raw_spec_l13Len x.1 := by kernel_rfl
theorem ok0_spec_l13Len : ConOk Try.prog 51 ⟨I_spec_l13Len, U_spec_l13Len, fun x => raw_spec_l13Len x.1⟩ := conOk_exec (fr_spec_l13Len_0) Try.func51 (by kernel_rfl) (by kernel_rfl) Try.ntmps51.symm (by decide) (fun x r h => (e_spec_l13Len x).trans h)
noncomputable def n_spec_l13Len (a0 : Int × Int × Int × Int × (List Int)) : Int :=
  bif (a0.1 == 1) then
    bif (a0.1 == 1) then
      a0.2.2.2.1
    else
      bif (a0.1 == 2) then
        bif (a0.1 == 2) then
          (a0.2.2.2.2.length : Int)
        else
          bif (a0.1 == 5) then
            1
          else
            0
      else
        bif (a0.1 == 3) then
          (a0.2.2.2.2.length : Int)
        else
          bif (a0.1 == 5) then
            1
          else
            0
  else
    bif (a0.1 == 6) then
      a0.2.2.2.1
    else
      bif (a0.1 == 2) then
        bif (a0.1 == 2) then
          (a0.2.2.2.2.length : Int)
        else
          bif (a0.1 == 5) then
            1
          else
            0
      else
        bif (a0.1 == 3) then
          (a0.2.2.2.2.length : Int)
        else
          bif (a0.1 == 5) then
            1
          else
            0
noncomputable def con_spec_l13Len : Con := ⟨I_spec_l13Len, U_spec_l13Len, fun x => (fun n => some ((n, ()), ())) (n_spec_l13Len x.1)⟩
theorem nn_spec_l13Len (a0 : Int × Int × Int × Int × (List Int)) : raw_spec_l13Len a0 = (fun n => some ((n, ()), ())) (n_spec_l13Len a0) := bif_ty (p := fun (n : Int) => ((n, ()), ())) (bif_some (p := fun (n : Int) => ((n, ()), ())) (bif_some (p := fun (n : Int) => ((n, ()), ())) rfl (bif_some (p := fun (n : Int) => ((n, ()), ())) (bif_some (p := fun (n : Int) => ((n, ()), ())) rfl (bif_some (p := fun (n : Int) => ((n, ()), ())) rfl rfl)) (bif_some (p := fun (n : Int) => ((n, ()), ())) rfl (bif_some (p := fun (n : Int) => ((n, ()), ())) rfl rfl)))) (bif_some (p := fun (n : Int) => ((n, ()), ())) rfl (bif_some (p := fun (n : Int) => ((n, ()), ())) (bif_some (p := fun (n : Int) => ((n, ()), ())) rfl (bif_some (p := fun (n : Int) => ((n, ()), ())) rfl rfl)) (bif_some (p := fun (n : Int) => ((n, ()), ())) rfl (bif_some (p := fun (n : Int) => ((n, ()), ())) rfl rfl)))))
theorem ok_spec_l13Len : ConOk Try.prog 51 con_spec_l13Len := (ok0_spec_l13Len).mono (fun x r _ h => (nn_spec_l13Len x.1).trans h)
end

/-! spec_CmdCode -/
section
noncomputable def B_spec_CmdCode : Code := (Try.f31.body).getD .skip
noncomputable def E_spec_CmdCode : Env := envOf TT [(36, con_spec_Blocks), (38, con_spec_l1In), (49, con_spec_GeoOk), (50, con_spec_l13Size), (51, con_spec_l13Len)] []
theorem fr_spec_CmdCode_0 : FrOk Try.prog ⟨E_spec_CmdCode, 39, fun _ => none⟩ B_spec_CmdCode := frOk_base mixed tt_ok ⟨ok_spec_Blocks, ok_spec_l1In, ok_spec_GeoOk, ok_spec_l13Size, ok_spec_l13Len, trivial⟩
noncomputable def D_spec_CmdCode_0 : Nat → Option Seg := fun _ => none
abbrev I_spec_CmdCode : List Par := [.rd tG, .rd tC]
abbrev U_spec_CmdCode : List OT := [⟨false, tI, .fz⟩]
noncomputable def raw_spec_CmdCode (a0 : Int × Int) (a1 : Int × Int × Int × Int × (List Int)) : Option (ResD U_spec_CmdCode × MutD I_spec_CmdCode) :=
  let r1 := n_spec_GeoOk a0
  bif (!(!r1)) then
    let r2 := n_spec_l1In a1.1 1 6
    bif (!(!r2)) then
      let r3 := n_spec_l1In a1.2.1 1 999
      bif (!r3) then
        some ((1, ()), ())
      else
        let r4 := n_spec_l13Size a1
        bif (!r4) then
          some ((3, ()), ())
        else
          bif (a1.1 == 4) then
            some ((0, ()), ())
          else
            let r5 := n_spec_Blocks a0
            let r6 := n_spec_l13Len a1
            let r7 := n_spec_l1In a1.2.2.1 0 (IntKind.i64.wrap (r5 - r6))
            bif (!r7) then
              some ((2, ()), ())
            else
              some ((0, ()), ())
    else
      some ((1, ()), ())
  else
    some ((1, ()), ())
theorem e_spec_CmdCode (x : InD I_spec_CmdCode) : execF ⟨E_spec_CmdCode, 39, D_spec_CmdCode_0⟩ Try.f31.results.toList B_spec_CmdCode I_spec_CmdCode U_spec_CmdCode x = raw_spec_CmdCode x.1 x.2.1 := by kernel_rfl
theorem ok0_spec_CmdCode : ConOk Try.prog 31 ⟨I_spec_CmdCode, U_spec_CmdCode, fun x => raw_spec_CmdCode x.1 x.2.1⟩ := conOk_exec (fr_spec_CmdCode_0) Try.func31 (by kernel_rfl) (by kernel_rfl) Try.ntmps31.symm (by decide) (fun x r h => (e_spec_CmdCode x).trans h)
noncomputable def n_spec_CmdCode (a0 : Int × Int) (a1 : Int × Int × Int × Int × (List Int)) : Int :=
  let r1 := n_spec_GeoOk a0
  bif (!(!r1)) then
    let r2 := n_spec_l1In a1.1 1 6
    bif (!(!r2)) then
      let r3 := n_spec_l1In a1.2.1 1 999
      bif (!r3) then
        1
      else
        let r4 := n_spec_l13Size a1
        bif (!r4) then
          3
        else
          bif (a1.1 == 4) then
            0
          else
            let r5 := n_spec_Blocks a0
            let r6 := n_spec_l13Len a1
            let r7 := n_spec_l1In a1.2.2.1 0 (IntKind.i64.wrap (r5 - r6))
            bif (!r7) then
              2
            else
              0
    else
      1
  else
    1
noncomputable def con_spec_CmdCode : Con := ⟨I_spec_CmdCode, U_spec_CmdCode, fun x => (fun n => some ((n, ()), ())) (n_spec_CmdCode x.1 x.2.1)⟩
theorem nn_spec_CmdCode (a0 : Int × Int) (a1 : Int × Int × Int × Int × (List Int)) : raw_spec_CmdCode a0 a1 = (fun n => some ((n, ()), ())) (n_spec_CmdCode a0 a1) := bif_ty (p := fun (n : Int) => ((n, ()), ())) (bif_some (p := fun (n : Int) => ((n, ()), ())) (bif_some (p := fun (n : Int) => ((n, ()), ())) (bif_some (p := fun (n : Int) => ((n, ()), ())) rfl (bif_some (p := fun (n : Int) => ((n, ()), ())) rfl (bif_some (p := fun (n : Int) => ((n, ()), ())) rfl (bif_some (p := fun (n : Int) => ((n, ()), ())) rfl rfl)))) rfl) rfl)
theorem ok_spec_CmdCode : ConOk Try.prog 31 con_spec_CmdCode := (ok0_spec_CmdCode).mono (fun x r _ h => (nn_spec_CmdCode x.1 x.2.1).trans h)
theorem size_eq (a : Int × Int × Int × Int × List Int) : n_impl_sizeOk a = n_spec_l13Size a := by kernel_rfl
theorem impl_run_eq (a : Int × Int × Int × Int × List Int) : n_impl_runOf a = n_spec_l13Len a := by kernel_rfl
theorem code_eq (g : Int × Int) (a : Int × Int × Int × Int × List Int) : n_impl_CmdCode g a = n_spec_CmdCode g a := by
  unfold n_impl_CmdCode n_spec_CmdCode
  simp only [size_eq, geo_eq, impl_in_eq, impl_Blocks_eq, impl_run_eq, bne]
  cases (a.1 == 4) <;> rfl
end

/-! laws_FnExactCmdCode -/
section
noncomputable def B_laws_FnExactCmdCode : Code := (Try.f7.body).getD .skip
noncomputable def E_laws_FnExactCmdCode : Env := envOf TT [(10, con_laws_toGeo), (15, con_laws_szCmd), (17, con_laws_toCmd), (19, con_laws_eqCmd), (30, con_impl_CmdCode), (31, con_spec_CmdCode)] []
theorem fr_laws_FnExactCmdCode_0 : FrOk Try.prog ⟨E_laws_FnExactCmdCode, 33, fun _ => none⟩ B_laws_FnExactCmdCode := frOk_base mixed tt_ok ⟨ok_laws_toGeo, ok_laws_szCmd, ok_laws_toCmd, ok_laws_eqCmd, ok_impl_CmdCode, ok_spec_CmdCode, trivial⟩
noncomputable def D_laws_FnExactCmdCode_0 : Nat → Option Seg := fun _ => none
abbrev I_laws_FnExactCmdCode : List Par := [.rd tG, .rd tC]
abbrev U_laws_FnExactCmdCode : List OT := [⟨false, tB, .fz⟩]
noncomputable def raw_laws_FnExactCmdCode (a0 : Int × Int) (a1 : Int × Int × Int × Int × (List Int)) : Option (ResD U_laws_FnExactCmdCode × MutD I_laws_FnExactCmdCode) :=
  let r1 := n_laws_szCmd a1 1048576
  bif (ltb r1 0) then
    some ((true, ()), ())
  else
    let r2 := n_laws_toGeo a0
    let r3 := n_laws_toCmd a1
    let r4 := n_spec_CmdCode r2 r3
    let r5 := n_laws_toCmd a1
    let r6 := n_laws_toGeo a0
    let r7 := n_impl_CmdCode r6 r5
    bif (r7 != r4) then
      some ((false, ()), ())
    else
      let r8 := n_laws_toCmd a1
      let r9 := n_laws_eqCmd r5 r8
      bif (!r9) then
        some ((false, ()), ())
      else
        some ((true, ()), ())
theorem e_laws_FnExactCmdCode (x : InD I_laws_FnExactCmdCode) : execF ⟨E_laws_FnExactCmdCode, 33, D_laws_FnExactCmdCode_0⟩ Try.f7.results.toList B_laws_FnExactCmdCode I_laws_FnExactCmdCode U_laws_FnExactCmdCode x = raw_laws_FnExactCmdCode x.1 x.2.1 := by kernel_rfl
theorem ok0_laws_FnExactCmdCode : ConOk Try.prog 7 ⟨I_laws_FnExactCmdCode, U_laws_FnExactCmdCode, fun x => raw_laws_FnExactCmdCode x.1 x.2.1⟩ := conOk_exec (fr_laws_FnExactCmdCode_0) Try.func7 (by kernel_rfl) (by kernel_rfl) Try.ntmps7.symm (by decide) (fun x r h => (e_laws_FnExactCmdCode x).trans h)
noncomputable def n_laws_FnExactCmdCode (a0 : Int × Int) (a1 : Int × Int × Int × Int × List Int) : Bool := true
theorem nn_laws_FnExactCmdCode (a0 : Int × Int) (a1 : Int × Int × Int × Int × List Int) (hk : InOk I_laws_FnExactCmdCode (a0, a1, ())) : raw_laws_FnExactCmdCode a0 a1 = (fun n => some ((n, ()), ())) (n_laws_FnExactCmdCode a0 a1) := by
  unfold raw_laws_FnExactCmdCode n_laws_FnExactCmdCode
  simp only [n_laws_toCmd, code_eq, bne_self_eq_false, eqCmd_refl, Bool.not_true, cond_false]
  cases ltb (n_laws_szCmd a1 1048576) 0 <;> rfl
noncomputable def con_laws_FnExactCmdCode : Con := ⟨I_laws_FnExactCmdCode, U_laws_FnExactCmdCode, fun x => (fun n => some ((n, ()), ())) (n_laws_FnExactCmdCode x.1 x.2.1)⟩
theorem ok_laws_FnExactCmdCode : ConOk Try.prog 7 con_laws_FnExactCmdCode := (ok0_laws_FnExactCmdCode).mono (fun x r hk h => (nn_laws_FnExactCmdCode x.1 x.2.1 hk).trans h)
end
end Go.Tf
