/- Functions of the program, and what they come to. -/
import Derived.Test.YtfpfaanblbakkaaExactDoCmdF3
namespace Go.Tf
open Go.Proofs
set_option synthInstance.maxHeartbeats 400000
set_option synthInstance.maxSize 10000
set_option linter.unusedVariables false
set_option linter.unusedSimpArgs false
set_option maxRecDepth 100000
/-! impl_sizeOk -/
section
noncomputable def B_impl_sizeOk : Code := (Try.f108.body).getD .skip
noncomputable def E_impl_sizeOk : Env := envOf TT [(107, con_impl_within), (138, con_impl_wordsOk)] []
theorem fr_impl_sizeOk_0 : FrOk Try.prog ⟨E_impl_sizeOk, 34, fun _ => none⟩ B_impl_sizeOk := frOk_base mixed tt_ok ⟨ok_impl_within, ok_impl_wordsOk, trivial⟩
noncomputable def D_impl_sizeOk_0 : Nat → Option Seg := fun _ => none
abbrev I_impl_sizeOk : List Par := [.rd tC]
abbrev U_impl_sizeOk : List OT := [⟨false, tB, .fz⟩]
noncomputable def raw_impl_sizeOk (a0 : Int × Int × Int × Int × (List Int)) : Option (ResD U_impl_sizeOk × MutD I_impl_sizeOk) :=
  bif (a0.1 == 1) then
    bif (a0.1 == 1) then
      let r1 := n_impl_within a0.2.2.2.1 1 6
      some ((r1, ()), ())
    else
      bif (a0.1 == 2) then
        bif (a0.1 == 2) then
          let r2 := n_impl_within (a0.2.2.2.2.length : Int) 1 6
          bif r2 then
            let r3 := n_impl_wordsOk a0.2.2.2.2
            some ((r3, ()), ())
          else
            some ((false, ()), ())
        else
          bif (a0.1 == 5) then
            bif ((a0.2.2.2.2.length : Int) == 2) then
              let r4 := n_impl_wordsOk a0.2.2.2.2
              some ((r4, ()), ())
            else
              some ((false, ()), ())
          else
            some ((true, ()), ())
      else
        bif (a0.1 == 3) then
          let r5 := n_impl_within (a0.2.2.2.2.length : Int) 1 6
          bif r5 then
            let r6 := n_impl_wordsOk a0.2.2.2.2
            some ((r6, ()), ())
          else
            some ((false, ()), ())
        else
          bif (a0.1 == 5) then
            bif ((a0.2.2.2.2.length : Int) == 2) then
              let r7 := n_impl_wordsOk a0.2.2.2.2
              some ((r7, ()), ())
            else
              some ((false, ()), ())
          else
            some ((true, ()), ())
  else
    bif (a0.1 == 6) then
      let r8 := n_impl_within a0.2.2.2.1 1 6
      some ((r8, ()), ())
    else
      bif (a0.1 == 2) then
        bif (a0.1 == 2) then
          let r9 := n_impl_within (a0.2.2.2.2.length : Int) 1 6
          bif r9 then
            let r10 := n_impl_wordsOk a0.2.2.2.2
            some ((r10, ()), ())
          else
            some ((false, ()), ())
        else
          bif (a0.1 == 5) then
            bif ((a0.2.2.2.2.length : Int) == 2) then
              let r11 := n_impl_wordsOk a0.2.2.2.2
              some ((r11, ()), ())
            else
              some ((false, ()), ())
          else
            some ((true, ()), ())
      else
        bif (a0.1 == 3) then
          let r12 := n_impl_within (a0.2.2.2.2.length : Int) 1 6
          bif r12 then
            let r13 := n_impl_wordsOk a0.2.2.2.2
            some ((r13, ()), ())
          else
            some ((false, ()), ())
        else
          bif (a0.1 == 5) then
            bif ((a0.2.2.2.2.length : Int) == 2) then
              let r14 := n_impl_wordsOk a0.2.2.2.2
              some ((r14, ()), ())
            else
              some ((false, ()), ())
          else
            some ((true, ()), ())
theorem e_impl_sizeOk (x : InD I_impl_sizeOk) : execF ⟨E_impl_sizeOk, 34, D_impl_sizeOk_0⟩ Try.f108.results.toList B_impl_sizeOk I_impl_sizeOk U_impl_sizeOk x = raw_impl_sizeOk x.1 := by kernel_rfl
theorem ok0_impl_sizeOk : ConOk Try.prog 108 ⟨I_impl_sizeOk, U_impl_sizeOk, fun x => raw_impl_sizeOk x.1⟩ := conOk_exec (fr_impl_sizeOk_0) Try.func108 (by kernel_rfl) (by kernel_rfl) Try.ntmps108.symm (by decide) (fun x r h => (e_impl_sizeOk x).trans h)
noncomputable def n_impl_sizeOk (a0 : Int × Int × Int × Int × (List Int)) : Bool :=
  bif (a0.1 == 1) then
    bif (a0.1 == 1) then
      let r1 := n_impl_within a0.2.2.2.1 1 6
      r1
    else
      bif (a0.1 == 2) then
        bif (a0.1 == 2) then
          let r2 := n_impl_within (a0.2.2.2.2.length : Int) 1 6
          bif r2 then
            let r3 := n_impl_wordsOk a0.2.2.2.2
            r3
          else
            false
        else
          bif (a0.1 == 5) then
            bif ((a0.2.2.2.2.length : Int) == 2) then
              let r4 := n_impl_wordsOk a0.2.2.2.2
              r4
            else
              false
          else
            true
      else
        bif (a0.1 == 3) then
          let r5 := n_impl_within (a0.2.2.2.2.length : Int) 1 6
          bif r5 then
            let r6 := n_impl_wordsOk a0.2.2.2.2
            r6
          else
            false
        else
          bif (a0.1 == 5) then
            bif ((a0.2.2.2.2.length : Int) == 2) then
              let r7 := n_impl_wordsOk a0.2.2.2.2
              r7
            else
              false
          else
            true
  else
    bif (a0.1 == 6) then
      let r8 := n_impl_within a0.2.2.2.1 1 6
      r8
    else
      bif (a0.1 == 2) then
        bif (a0.1 == 2) then
          let r9 := n_impl_within (a0.2.2.2.2.length : Int) 1 6
          bif r9 then
            let r10 := n_impl_wordsOk a0.2.2.2.2
            r10
          else
            false
        else
          bif (a0.1 == 5) then
            bif ((a0.2.2.2.2.length : Int) == 2) then
              let r11 := n_impl_wordsOk a0.2.2.2.2
              r11
            else
              false
          else
            true
      else
        bif (a0.1 == 3) then
          let r12 := n_impl_within (a0.2.2.2.2.length : Int) 1 6
          bif r12 then
            let r13 := n_impl_wordsOk a0.2.2.2.2
            r13
          else
            false
        else
          bif (a0.1 == 5) then
            bif ((a0.2.2.2.2.length : Int) == 2) then
              let r14 := n_impl_wordsOk a0.2.2.2.2
              r14
            else
              false
          else
            true
noncomputable def con_impl_sizeOk : Con := ⟨I_impl_sizeOk, U_impl_sizeOk, fun x => (fun n => some ((n, ()), ())) (n_impl_sizeOk x.1)⟩
theorem nn_impl_sizeOk (a0 : Int × Int × Int × Int × (List Int)) : raw_impl_sizeOk a0 = (fun n => some ((n, ()), ())) (n_impl_sizeOk a0) := bif_ty (p := fun (n : Bool) => ((n, ()), ())) (bif_some (p := fun (n : Bool) => ((n, ()), ())) (bif_some (p := fun (n : Bool) => ((n, ()), ())) rfl (bif_some (p := fun (n : Bool) => ((n, ()), ())) (bif_some (p := fun (n : Bool) => ((n, ()), ())) (bif_some (p := fun (n : Bool) => ((n, ()), ())) rfl rfl) (bif_some (p := fun (n : Bool) => ((n, ()), ())) (bif_some (p := fun (n : Bool) => ((n, ()), ())) rfl rfl) rfl)) (bif_some (p := fun (n : Bool) => ((n, ()), ())) (bif_some (p := fun (n : Bool) => ((n, ()), ())) rfl rfl) (bif_some (p := fun (n : Bool) => ((n, ()), ())) (bif_some (p := fun (n : Bool) => ((n, ()), ())) rfl rfl) rfl)))) (bif_some (p := fun (n : Bool) => ((n, ()), ())) rfl (bif_some (p := fun (n : Bool) => ((n, ()), ())) (bif_some (p := fun (n : Bool) => ((n, ()), ())) (bif_some (p := fun (n : Bool) => ((n, ()), ())) rfl rfl) (bif_some (p := fun (n : Bool) => ((n, ()), ())) (bif_some (p := fun (n : Bool) => ((n, ()), ())) rfl rfl) rfl)) (bif_some (p := fun (n : Bool) => ((n, ()), ())) (bif_some (p := fun (n : Bool) => ((n, ()), ())) rfl rfl) (bif_some (p := fun (n : Bool) => ((n, ()), ())) (bif_some (p := fun (n : Bool) => ((n, ()), ())) rfl rfl) rfl)))))
theorem ok_impl_sizeOk : ConOk Try.prog 108 con_impl_sizeOk := (ok0_impl_sizeOk).mono (fun x r _ h => (nn_impl_sizeOk x.1).trans h)
end

/-! impl_CmdCode -/
section
noncomputable def B_impl_CmdCode : Code := (Try.f70.body).getD .skip
noncomputable def E_impl_CmdCode : Env := envOf TT [(71, con_impl_Blocks), (72, con_impl_runOf), (106, con_impl_GeoOk), (107, con_impl_within), (108, con_impl_sizeOk)] []
theorem fr_impl_CmdCode_0 : FrOk Try.prog ⟨E_impl_CmdCode, 40, fun _ => none⟩ B_impl_CmdCode := frOk_base mixed tt_ok ⟨ok_impl_Blocks, ok_impl_runOf, ok_impl_GeoOk, ok_impl_within, ok_impl_sizeOk, trivial⟩
noncomputable def D_impl_CmdCode_0 : Nat → Option Seg := fun _ => none
abbrev I_impl_CmdCode : List Par := [.rd tG, .rd tC]
abbrev U_impl_CmdCode : List OT := [⟨false, tI, .fz⟩]
noncomputable def raw_impl_CmdCode (a0 : Int × Int) (a1 : Int × Int × Int × Int × (List Int)) : Option (ResD U_impl_CmdCode × MutD I_impl_CmdCode) :=
  let r1 := n_impl_GeoOk a0
  bif (!(!r1)) then
    let r2 := n_impl_within a1.1 1 6
    bif (!(!r2)) then
      let r3 := n_impl_within a1.2.1 1 999
      bif (!r3) then
        some ((1, ()), ())
      else
        let r4 := n_impl_sizeOk a1
        bif (!r4) then
          some ((3, ()), ())
        else
          bif (a1.1 != 4) then
            let r5 := n_impl_Blocks a0
            let r6 := n_impl_runOf a1
            let r7 := n_impl_within a1.2.2.1 0 (IntKind.i64.wrap (r5 - r6))
            bif (!r7) then
              some ((2, ()), ())
            else
              some ((0, ()), ())
          else
            some ((0, ()), ())
    else
      some ((1, ()), ())
  else
    some ((1, ()), ())
theorem e_impl_CmdCode (x : InD I_impl_CmdCode) : execF ⟨E_impl_CmdCode, 40, D_impl_CmdCode_0⟩ Try.f70.results.toList B_impl_CmdCode I_impl_CmdCode U_impl_CmdCode x = raw_impl_CmdCode x.1 x.2.1 := by kernel_rfl
theorem ok0_impl_CmdCode : ConOk Try.prog 70 ⟨I_impl_CmdCode, U_impl_CmdCode, fun x => raw_impl_CmdCode x.1 x.2.1⟩ := conOk_exec (fr_impl_CmdCode_0) Try.func70 (by kernel_rfl) (by kernel_rfl) Try.ntmps70.symm (by decide) (fun x r h => (e_impl_CmdCode x).trans h)
noncomputable def n_impl_CmdCode (a0 : Int × Int) (a1 : Int × Int × Int × Int × (List Int)) : Int :=
  let r1 := n_impl_GeoOk a0
  bif (!(!r1)) then
    let r2 := n_impl_within a1.1 1 6
    bif (!(!r2)) then
      let r3 := n_impl_within a1.2.1 1 999
      bif (!r3) then
        1
      else
        let r4 := n_impl_sizeOk a1
        bif (!r4) then
          3
        else
          bif (a1.1 != 4) then
            let r5 := n_impl_Blocks a0
            let r6 := n_impl_runOf a1
            let r7 := n_impl_within a1.2.2.1 0 (IntKind.i64.wrap (r5 - r6))
            bif (!r7) then
              2
            else
              0
          else
            0
    else
      1
  else
    1
noncomputable def con_impl_CmdCode : Con := ⟨I_impl_CmdCode, U_impl_CmdCode, fun x => (fun n => some ((n, ()), ())) (n_impl_CmdCode x.1 x.2.1)⟩
theorem nn_impl_CmdCode (a0 : Int × Int) (a1 : Int × Int × Int × Int × (List Int)) : raw_impl_CmdCode a0 a1 = (fun n => some ((n, ()), ())) (n_impl_CmdCode a0 a1) := bif_ty (p := fun (n : Int) => ((n, ()), ())) (bif_some (p := fun (n : Int) => ((n, ()), ())) (bif_some (p := fun (n : Int) => ((n, ()), ())) (bif_some (p := fun (n : Int) => ((n, ()), ())) rfl (bif_some (p := fun (n : Int) => ((n, ()), ())) rfl (bif_some (p := fun (n : Int) => ((n, ()), ())) (bif_some (p := fun (n : Int) => ((n, ()), ())) rfl rfl) rfl))) rfl) rfl)
theorem ok_impl_CmdCode : ConOk Try.prog 70 con_impl_CmdCode := (ok0_impl_CmdCode).mono (fun x r _ h => (nn_impl_CmdCode x.1 x.2.1).trans h)
theorem size_eq (a : Int × Int × Int × Int × List Int) : n_impl_sizeOk a = n_spec_l13Size a := by kernel_rfl
theorem impl_run_eq (a : Int × Int × Int × Int × List Int) : n_impl_runOf a = n_spec_l13Len a := by kernel_rfl
theorem code_eq (g : Int × Int) (a : Int × Int × Int × Int × List Int) : n_impl_CmdCode g a = n_spec_CmdCode g a := by
  unfold n_impl_CmdCode n_spec_CmdCode
  simp only [size_eq, geo_eq, impl_in_eq, impl_Blocks_eq, impl_run_eq, bne]
  cases (a.1 == 4) <;> rfl
end

/-! impl_SpanOf -/
section
noncomputable def B_impl_SpanOf : Code := (Try.f17.body).getD .skip
noncomputable def E_impl_SpanOf : Env := envOf TT [(70, con_impl_CmdCode), (71, con_impl_Blocks), (72, con_impl_runOf)] []
theorem fr_impl_SpanOf_0 : FrOk Try.prog ⟨E_impl_SpanOf, 24, fun _ => none⟩ B_impl_SpanOf := frOk_base mixed tt_ok ⟨ok_impl_CmdCode, ok_impl_Blocks, ok_impl_runOf, trivial⟩
noncomputable def D_impl_SpanOf_0 : Nat → Option Seg := fun _ => none
abbrev I_impl_SpanOf : List Par := [.rd tG, .rd tC]
abbrev U_impl_SpanOf : List OT := [⟨false, tI, .fz⟩, ⟨false, tI, .fz⟩]
noncomputable def raw_impl_SpanOf (a0 : Int × Int) (a1 : Int × Int × Int × Int × (List Int)) : Option (ResD U_impl_SpanOf × MutD I_impl_SpanOf) :=
  let r1 := n_impl_CmdCode a0 a1
  bif (r1 != 0) then
    some ((0, 0, ()), ())
  else
    bif (a1.1 == 4) then
      let r2 := n_impl_Blocks a0
      some ((0, r2, ()), ())
    else
      let r3 := n_impl_runOf a1
      some ((a1.2.2.1, (IntKind.i64.wrap (a1.2.2.1 + r3)), ()), ())
theorem e_impl_SpanOf (x : InD I_impl_SpanOf) : execF ⟨E_impl_SpanOf, 24, D_impl_SpanOf_0⟩ Try.f17.results.toList B_impl_SpanOf I_impl_SpanOf U_impl_SpanOf x = raw_impl_SpanOf x.1 x.2.1 := by kernel_rfl
theorem ok0_impl_SpanOf : ConOk Try.prog 17 ⟨I_impl_SpanOf, U_impl_SpanOf, fun x => raw_impl_SpanOf x.1 x.2.1⟩ := conOk_exec (fr_impl_SpanOf_0) Try.func17 (by kernel_rfl) (by kernel_rfl) Try.ntmps17.symm (by decide) (fun x r h => (e_impl_SpanOf x).trans h)
noncomputable def n_impl_SpanOf (a0 : Int × Int) (a1 : Int × Int × Int × Int × (List Int)) : Int × Int :=
  let r1 := n_impl_CmdCode a0 a1
  bif (r1 != 0) then
    (0, 0)
  else
    bif (a1.1 == 4) then
      let r2 := n_impl_Blocks a0
      (0, r2)
    else
      let r3 := n_impl_runOf a1
      (a1.2.2.1, (IntKind.i64.wrap (a1.2.2.1 + r3)))
noncomputable def con_impl_SpanOf : Con := ⟨I_impl_SpanOf, U_impl_SpanOf, fun x => (fun n => some ((n.1, n.2, ()), ())) (n_impl_SpanOf x.1 x.2.1)⟩
theorem nn_impl_SpanOf (a0 : Int × Int) (a1 : Int × Int × Int × Int × (List Int)) : raw_impl_SpanOf a0 a1 = (fun n => some ((n.1, n.2, ()), ())) (n_impl_SpanOf a0 a1) := bif_ty (p := fun (n : Int × Int) => ((n.1, n.2, ()), ())) (bif_some (p := fun (n : Int × Int) => ((n.1, n.2, ()), ())) rfl (bif_some (p := fun (n : Int × Int) => ((n.1, n.2, ()), ())) rfl rfl))
theorem ok_impl_SpanOf : ConOk Try.prog 17 con_impl_SpanOf := (ok0_impl_SpanOf).mono (fun x r _ h => (nn_impl_SpanOf x.1 x.2.1).trans h)
theorem span_eq (g : dG) (a : dC) : n_impl_SpanOf g a = n_spec_SpanOf g a := by
  unfold n_impl_SpanOf n_spec_SpanOf
  simp only [code_eq, impl_Blocks_eq, impl_run_eq]
theorem span_good {g : dG} {op id lba n : Int} {v : List Int} (h : n_spec_CmdCode g (op, id, lba, n, v) = 0) (h4 : op ≠ 4) : n_impl_SpanOf g (op, id, lba, n, v) = (lba, lba + n_spec_l13Len (op, id, lba, n, v)) := by
  rw [span_eq]
  unfold n_spec_SpanOf
  have hB := spec_Blocks_le g
  obtain ⟨hg, ho, _, hs, hl⟩ := code0 h
  have hz := size_len hs ho h4
  have hl : 0 ≤ lba ∧ lba ≤ IntKind.i64.wrap (n_spec_Blocks g - n_spec_l13Len (op, id, lba, n, v)) := hl.resolve_left h4
  rw [wr (by omega) (by omega)] at hl
  simp only [h, bne_self_eq_false, cond_false, show (op == 4) = false from beq_eq_false_iff_ne.2 h4, wr (show -9223372036854775808 ≤ lba + n_spec_l13Len (op, id, lba, n, v) by omega) (by omega)]
end

/-! impl_copyInts -/
section
noncomputable def B_impl_copyInts : Code := (Try.f74.body).getD .skip
noncomputable def E_impl_copyInts : Env := envOf TT [] []
theorem fr_impl_copyInts_0 : FrOk Try.prog ⟨E_impl_copyInts, 6, fun _ => none⟩ B_impl_copyInts := frOk_base mixed tt_ok trivial
noncomputable def D_impl_copyInts_0 : Nat → Option Seg := fun _ => none
abbrev I_impl_copyInts : List Par := [.rd tL]
abbrev U_impl_copyInts : List OT := [⟨false, tL, (.ow .fz)⟩]
noncomputable def raw_impl_copyInts (a0 : List Int) : Option (ResD U_impl_copyInts × MutD I_impl_copyInts) :=
  bif (apok ([] : List Int).length a0.length 8) then
    some (((([] : List Int) ++ a0), ()), ())
  else none
theorem e_impl_copyInts (x : InD I_impl_copyInts) : execF ⟨E_impl_copyInts, 6, D_impl_copyInts_0⟩ Try.f74.results.toList B_impl_copyInts I_impl_copyInts U_impl_copyInts x = raw_impl_copyInts x.1 := by kernel_rfl
theorem ok0_impl_copyInts : ConOk Try.prog 74 ⟨I_impl_copyInts, U_impl_copyInts, fun x => raw_impl_copyInts x.1⟩ := conOk_exec (fr_impl_copyInts_0) Try.func74 (by kernel_rfl) (by kernel_rfl) Try.ntmps74.symm (by decide) (fun x r h => (e_impl_copyInts x).trans h)
noncomputable def n_impl_copyInts (a0 : List Int) : List Int := a0
theorem nn_impl_copyInts (a0 : List Int) (hk : InOk I_impl_copyInts (a0, ())) : raw_impl_copyInts a0 = (fun n => some ((n, ()), ())) (n_impl_copyInts a0) := by
  have hb : a0.length * 8 ≤ 2 ^ 47 := hk.1.1
  unfold raw_impl_copyInts n_impl_copyInts
  rw [show apok ([] : List Int).length a0.length 8 = true by rw [apok_iff, List.length_nil]; omega]
  rfl
noncomputable def con_impl_copyInts : Con := ⟨I_impl_copyInts, U_impl_copyInts, fun x => (fun n => some ((n, ()), ())) (n_impl_copyInts x.1)⟩
theorem ok_impl_copyInts : ConOk Try.prog 74 con_impl_copyInts := (ok0_impl_copyInts).mono (fun x r hk h => (nn_impl_copyInts x.1 hk).trans h)
end

/-! impl_DoCmd -/
section
noncomputable def B_impl_DoCmd : Code := (Try.f23.body).getD .skip
noncomputable def E_impl_DoCmd : Env := envOf TT [(17, con_impl_SpanOf), (70, con_impl_CmdCode), (71, con_impl_Blocks), (74, con_impl_copyInts)] []
theorem fr_impl_DoCmd_0 : FrOk Try.prog ⟨E_impl_DoCmd, 84, fun _ => none⟩ B_impl_DoCmd := frOk_base mixed tt_ok ⟨ok_impl_SpanOf, ok_impl_CmdCode, ok_impl_Blocks, ok_impl_copyInts, trivial⟩
noncomputable def D_impl_DoCmd_0 : Nat → Option Seg := fun _ => none
abbrev I_impl_DoCmd : List Par := [.rd tG, .rd tL, .rd tC]
abbrev U_impl_DoCmd : List OT := [⟨false, tL, (.ow .fz)⟩, ⟨false, tN, (.pr .fz (.pr .fz (.ow .fz)))⟩]
noncomputable def raw_impl_DoCmd (a0 : Int × Int) (a1 : List Int) (a2 : Int × Int × Int × Int × (List Int)) : Option (ResD U_impl_DoCmd × MutD I_impl_DoCmd) :=
  let r1 := n_impl_copyInts a1
  let r2 := n_impl_CmdCode a0 a2
  let r3 := n_impl_Blocks a0
  bif ((a1.length : Int) != r3) then
    some ((r1, (a2.2.1, 1, []), ()), ())
  else
    bif (r2 != 0) then
      some ((r1, (a2.2.1, r2, []), ()), ())
    else
      let r4 := n_impl_SpanOf a0 a2
      bif (a2.1 == 1) then
        bif (cutok r4.1 r4.2 a1.length) then
          let r5 := n_impl_copyInts ((a1.drop (r4.1).toNat).take (r4.2 - r4.1).toNat)
          some ((r1, (a2.2.1, r2, r5), ()), ())
        else none
      else
        bif (a2.1 == 2) then
          bif (a2.1 == 2) then
            bif (cutok r4.1 r4.2 r1.length) then
              some (((r1.take (r4.1).toNat ++ (a2.2.2.2.2.take (r4.2 - r4.1).toNat) ++ r1.drop ((r4.1).toNat + (a2.2.2.2.2.take (r4.2 - r4.1).toNat).length)), (a2.2.1, r2, []), ()), ())
            else none
          else
            bif (a2.1 == 6) then
              bif (cutok r4.1 r4.2 r1.length) then
                some (((r1.take (r4.1).toNat ++ (List.replicate (r4.2 - r4.1).toNat (0 : Int)) ++ r1.drop ((r4.1).toNat + (List.replicate (r4.2 - r4.1).toNat (0 : Int)).length)), (a2.2.1, r2, []), ()), ())
              else none
            else
              bif (a2.1 == 5) then
                bif (inb r4.1 a1.length) then
                  bif (inb 0 a2.2.2.2.2.length) then
                    bif ((nth a1 r4.1 0) == (nth a2.2.2.2.2 0 0)) then
                      bif (inb 1 a2.2.2.2.2.length) then
                        bif (inb r4.1 r1.length) then
                          some (((r1.set (r4.1).toNat (nth a2.2.2.2.2 1 0)), (a2.2.1, r2, []), ()), ())
                        else none
                      else none
                    else
                      some ((r1, (a2.2.1, 4, []), ()), ())
                  else none
                else none
              else
                some ((r1, (a2.2.1, r2, []), ()), ())
        else
          bif (a2.1 == 3) then
            bif (cutok r4.1 r4.2 r1.length) then
              some (((r1.take (r4.1).toNat ++ (a2.2.2.2.2.take (r4.2 - r4.1).toNat) ++ r1.drop ((r4.1).toNat + (a2.2.2.2.2.take (r4.2 - r4.1).toNat).length)), (a2.2.1, r2, []), ()), ())
            else none
          else
            bif (a2.1 == 6) then
              bif (cutok r4.1 r4.2 r1.length) then
                some (((r1.take (r4.1).toNat ++ (List.replicate (r4.2 - r4.1).toNat (0 : Int)) ++ r1.drop ((r4.1).toNat + (List.replicate (r4.2 - r4.1).toNat (0 : Int)).length)), (a2.2.1, r2, []), ()), ())
              else none
            else
              bif (a2.1 == 5) then
                bif (inb r4.1 a1.length) then
                  bif (inb 0 a2.2.2.2.2.length) then
                    bif ((nth a1 r4.1 0) == (nth a2.2.2.2.2 0 0)) then
                      bif (inb 1 a2.2.2.2.2.length) then
                        bif (inb r4.1 r1.length) then
                          some (((r1.set (r4.1).toNat (nth a2.2.2.2.2 1 0)), (a2.2.1, r2, []), ()), ())
                        else none
                      else none
                    else
                      some ((r1, (a2.2.1, 4, []), ()), ())
                  else none
                else none
              else
                some ((r1, (a2.2.1, r2, []), ()), ())
theorem e_impl_DoCmd (x : InD I_impl_DoCmd) : execF ⟨E_impl_DoCmd, 84, D_impl_DoCmd_0⟩ Try.f23.results.toList B_impl_DoCmd I_impl_DoCmd U_impl_DoCmd x = raw_impl_DoCmd x.1 x.2.1 x.2.2.1 := by kernel_rfl
theorem ok0_impl_DoCmd : ConOk Try.prog 23 ⟨I_impl_DoCmd, U_impl_DoCmd, fun x => raw_impl_DoCmd x.1 x.2.1 x.2.2.1⟩ := conOk_exec (fr_impl_DoCmd_0) Try.func23 (by kernel_rfl) (by kernel_rfl) Try.ntmps23.symm (by decide) (fun x r h => (e_impl_DoCmd x).trans h)
noncomputable def n_impl_DoCmd (a0 : dG) (a1 : List Int) (a2 : dC) : List Int × dN := pDo a0 a1 a2
theorem nn_impl_DoCmd (a0 : dG) (a1 : List Int) (a2 : dC) (hk : InOk I_impl_DoCmd (a0, a1, a2, ())) : raw_impl_DoCmd a0 a1 a2 = (fun n => some ((n.1, n.2, ()), ())) (n_impl_DoCmd a0 a1 a2) := by
  have hB := spec_Blocks_le a0
  unfold raw_impl_DoCmd n_impl_DoCmd pDo
  simp only [code_eq, impl_Blocks_eq, n_impl_copyInts]
  by_cases h1 : (a1.length : Int) = n_spec_Blocks a0
  · by_cases h2 : n_spec_CmdCode a0 a2 = 0
    · rw [show ((a1.length : Int) != n_spec_Blocks a0) = false by simp [h1], show (n_spec_CmdCode a0 a2 != 0) = false by simp [h2]]
      obtain ⟨op, id, lba, n, v⟩ := a2
      simp only [cond_false, h2]
      rcases good_cmd h2 with rfl | ⟨p, ⟨rfl | rfl, q1, q2, q3⟩ | ⟨rfl | rfl, q1, q2, q3⟩ | ⟨rfl, q1, q3⟩⟩
      · rfl
      · rw [span_good h2 (by decide)]
        show (bif cutok lba (lba + n) a1.length then some ((a1, (id, 0, (a1.drop lba.toNat).take (lba + n - lba).toNat), ()), ()) else none) = _
        rw [cutok_iff.2 (show 0 ≤ lba ∧ lba ≤ lba + n ∧ lba + n ≤ a1.length by omega), show (lba + n - lba).toNat = n.toNat by omega]
        rfl
      · rw [span_good h2 (by decide)]
        show (bif cutok lba (lba + n) a1.length then some ((patch a1 lba.toNat (List.replicate (lba + n - lba).toNat 0), (id, 0, []), ()), ()) else none) = _
        rw [cutok_iff.2 (show 0 ≤ lba ∧ lba ≤ lba + n ∧ lba + n ≤ a1.length by omega), show (lba + n - lba).toNat = n.toNat by omega]
        rfl
      · rw [span_good h2 (by decide)]
        show (bif cutok lba (lba + v.length) a1.length then some ((patch a1 lba.toNat (v.take (lba + v.length - lba).toNat), (id, 0, []), ()), ()) else none) = _
        rw [cutok_iff.2 (show 0 ≤ lba ∧ lba ≤ lba + v.length ∧ lba + v.length ≤ a1.length by omega), show (lba + (v.length : Int) - lba).toNat = v.length by omega, List.take_length]
        rfl
      · rw [span_good h2 (by decide)]
        show (bif cutok lba (lba + v.length) a1.length then some ((patch a1 lba.toNat (v.take (lba + v.length - lba).toNat), (id, 0, []), ()), ()) else none) = _
        rw [cutok_iff.2 (show 0 ≤ lba ∧ lba ≤ lba + v.length ∧ lba + v.length ≤ a1.length by omega), show (lba + (v.length : Int) - lba).toNat = v.length by omega, List.take_length]
        rfl
      · rw [span_good h2 (by decide)]
        show (bif inb lba a1.length then bif inb 0 v.length then bif nth a1 lba 0 == nth v 0 0 then bif inb 1 v.length then bif inb lba a1.length then some ((a1.set lba.toNat (nth v 1 0), (id, 0, []), ()), ()) else none else none else some ((a1, (id, 4, []), ()), ()) else none else none) = _
        rw [inb_iff.2 (show 0 ≤ lba ∧ lba < a1.length by omega), inb_iff.2 (show (0 : Int) ≤ 0 ∧ (0 : Int) < v.length by omega), inb_iff.2 (show (0 : Int) ≤ 1 ∧ (1 : Int) < v.length by omega)]
        cases (nth a1 lba 0 == nth v 0 0) <;> rfl
    · rw [show ((a1.length : Int) != n_spec_Blocks a0) = false by simp [h1], show (n_spec_CmdCode a0 a2 != 0) = true from bne_iff_ne.2 h2]
      rfl
  · rw [show ((a1.length : Int) != n_spec_Blocks a0) = true from bne_iff_ne.2 h1]
    rfl
noncomputable def con_impl_DoCmd : Con := ⟨I_impl_DoCmd, U_impl_DoCmd, fun x => (fun n => some ((n.1, n.2, ()), ())) (n_impl_DoCmd x.1 x.2.1 x.2.2.1)⟩
theorem ok_impl_DoCmd : ConOk Try.prog 23 con_impl_DoCmd := (ok0_impl_DoCmd).mono (fun x r hk h => (nn_impl_DoCmd x.1 x.2.1 x.2.2.1 hk).trans h)
end

/-! laws_eqAns -/
section
noncomputable def B_laws_eqAns : Code := (Try.f25.body).getD .skip
noncomputable def E_laws_eqAns : Env := envOf TT [(24, con_laws_eqIntS)] []
theorem fr_laws_eqAns_0 : FrOk Try.prog ⟨E_laws_eqAns, 21, fun _ => none⟩ B_laws_eqAns := frOk_base mixed tt_ok ⟨ok_laws_eqIntS, trivial⟩
noncomputable def D_laws_eqAns_0 : Nat → Option Seg := fun _ => none
abbrev I_laws_eqAns : List Par := [.rd tN, .rd tN]
abbrev U_laws_eqAns : List OT := [⟨false, tB, .fz⟩]
noncomputable def raw_laws_eqAns (a0 : Int × Int × (List Int)) (a1 : Int × Int × (List Int)) : Option (ResD U_laws_eqAns × MutD I_laws_eqAns) :=
  bif (a0.1 != a1.1) then
    some ((false, ()), ())
  else
    bif (a0.2.1 != a1.2.1) then
      some ((false, ()), ())
    else
      let r1 := n_laws_eqIntS a0.2.2 a1.2.2
      bif (!r1) then
        some ((false, ()), ())
      else
        some ((true, ()), ())
theorem e_laws_eqAns (x : InD I_laws_eqAns) : execF ⟨E_laws_eqAns, 21, D_laws_eqAns_0⟩ Try.f25.results.toList B_laws_eqAns I_laws_eqAns U_laws_eqAns x = raw_laws_eqAns x.1 x.2.1 := by kernel_rfl
theorem ok0_laws_eqAns : ConOk Try.prog 25 ⟨I_laws_eqAns, U_laws_eqAns, fun x => raw_laws_eqAns x.1 x.2.1⟩ := conOk_exec (fr_laws_eqAns_0) Try.func25 (by kernel_rfl) (by kernel_rfl) Try.ntmps25.symm (by decide) (fun x r h => (e_laws_eqAns x).trans h)
noncomputable def n_laws_eqAns (a0 : Int × Int × (List Int)) (a1 : Int × Int × (List Int)) : Bool :=
  bif (a0.1 != a1.1) then
    false
  else
    bif (a0.2.1 != a1.2.1) then
      false
    else
      let r1 := n_laws_eqIntS a0.2.2 a1.2.2
      bif (!r1) then
        false
      else
        true
noncomputable def con_laws_eqAns : Con := ⟨I_laws_eqAns, U_laws_eqAns, fun x => (fun n => some ((n, ()), ())) (n_laws_eqAns x.1 x.2.1)⟩
theorem nn_laws_eqAns (a0 : Int × Int × (List Int)) (a1 : Int × Int × (List Int)) : raw_laws_eqAns a0 a1 = (fun n => some ((n, ()), ())) (n_laws_eqAns a0 a1) := bif_ty (p := fun (n : Bool) => ((n, ()), ())) (bif_some (p := fun (n : Bool) => ((n, ()), ())) rfl (bif_some (p := fun (n : Bool) => ((n, ()), ())) rfl (bif_some (p := fun (n : Bool) => ((n, ()), ())) rfl rfl)))
theorem ok_laws_eqAns : ConOk Try.prog 25 con_laws_eqAns := (ok0_laws_eqAns).mono (fun x r _ h => (nn_laws_eqAns x.1 x.2.1).trans h)
theorem eqd_laws_eqAns (a b : Int × Int × (List Int)) : n_laws_eqAns a b = decide (a = b) := by
  unfold n_laws_eqAns
  simp only [eq_step1, eq_step2, eq_step3, eq_step4, eq_step5, eqd_laws_eqIntS, Prod.ext_iff, Bool.decide_and, Bool.and_true]
theorem eqr_laws_eqAns (a : Int × Int × (List Int)) : n_laws_eqAns a a = true := by rw [eqd_laws_eqAns]; exact decide_eq_true rfl
end
end Go.Tf
