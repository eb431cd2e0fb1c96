/- Functions of the program, and what they come to. -/
import Derived.Test.YtljhekjbdmnmnaaClashesF2
namespace Go.Tf
open Go.Proofs
set_option linter.unusedVariables false
set_option linter.unusedSimpArgs false
set_option maxRecDepth 100000
/-! impl_runOf -/
section
noncomputable def B_impl_runOf : Code := (Try.f46.body).getD .skip
noncomputable def E_impl_runOf : Env := envOf TT [] []
theorem fr_impl_runOf_0 : FrOk Try.prog ⟨E_impl_runOf, 18, fun _ => none⟩ B_impl_runOf := frOk_base mixed tt_ok trivial
noncomputable def D_impl_runOf_0 : Nat → Option Seg := fun _ => none
abbrev I_impl_runOf : List Par := [.rd tC]
abbrev U_impl_runOf : List OT := [⟨false, tI, .fz⟩]
noncomputable def raw_impl_runOf (a0 : Int × Int × Int × Int × (List Int)) : Option (ResD U_impl_runOf × MutD I_impl_runOf) :=
  bif (a0.1 == 1) then
    bif (a0.1 == 1) then
      some ((a0.2.2.2.1, ()), ())
    else
      bif (a0.1 == 2) then
        bif (a0.1 == 2) then
          some (((a0.2.2.2.2.length : Int), ()), ())
        else
          bif (a0.1 == 5) then
            some ((1, ()), ())
          else
            some ((0, ()), ())
      else
        bif (a0.1 == 3) then
          some (((a0.2.2.2.2.length : Int), ()), ())
        else
          bif (a0.1 == 5) then
            some ((1, ()), ())
          else
            some ((0, ()), ())
  else
    bif (a0.1 == 6) then
      some ((a0.2.2.2.1, ()), ())
    else
      bif (a0.1 == 2) then
        bif (a0.1 == 2) then
          some (((a0.2.2.2.2.length : Int), ()), ())
        else
          bif (a0.1 == 5) then
            some ((1, ()), ())
          else
            some ((0, ()), ())
      else
        bif (a0.1 == 3) then
          some (((a0.2.2.2.2.length : Int), ()), ())
        else
          bif (a0.1 == 5) then
            some ((1, ()), ())
          else
            some ((0, ()), ())
theorem e_impl_runOf (x : InD I_impl_runOf) : execF ⟨E_impl_runOf, 18, D_impl_runOf_0⟩ Try.f46.results.toList B_impl_runOf I_impl_runOf U_impl_runOf x = raw_impl_runOf x.1 := by kernel_rfl
theorem ok0_impl_runOf : ConOk Try.prog 46 ⟨I_impl_runOf, U_impl_runOf, fun x => raw_impl_runOf x.1⟩ := conOk_exec (fr_impl_runOf_0) Try.func46 (by kernel_rfl) (by kernel_rfl) Try.ntmps46.symm (by decide) (fun x r h => (e_impl_runOf x).trans h)
noncomputable def n_impl_runOf (a0 : Int × Int × Int × Int × (List Int)) : Int :=
  bif (a0.1 == 1) then
    bif (a0.1 == 1) then
      a0.2.2.2.1
    else
      bif (a0.1 == 2) then
        bif (a0.1 == 2) then
          (a0.2.2.2.2.length : Int)
        else
          bif (a0.1 == 5) then
            1
          else
            0
      else
        bif (a0.1 == 3) then
          (a0.2.2.2.2.length : Int)
        else
          bif (a0.1 == 5) then
            1
          else
            0
  else
    bif (a0.1 == 6) then
      a0.2.2.2.1
    else
      bif (a0.1 == 2) then
        bif (a0.1 == 2) then
          (a0.2.2.2.2.length : Int)
        else
          bif (a0.1 == 5) then
            1
          else
            0
      else
        bif (a0.1 == 3) then
          (a0.2.2.2.2.length : Int)
        else
          bif (a0.1 == 5) then
            1
          else
            0
noncomputable def con_impl_runOf : Con := ⟨I_impl_runOf, U_impl_runOf, fun x => (fun n => some ((n, ()), ())) (n_impl_runOf x.1)⟩
theorem nn_impl_runOf (a0 : Int × Int × Int × Int × (List Int)) : raw_impl_runOf a0 = (fun n => some ((n, ()), ())) (n_impl_runOf a0) := bif_ty (p := fun (n : Int) => ((n, ()), ())) (bif_some (p := fun (n : Int) => ((n, ()), ())) (bif_some (p := fun (n : Int) => ((n, ()), ())) rfl (bif_some (p := fun (n : Int) => ((n, ()), ())) (bif_some (p := fun (n : Int) => ((n, ()), ())) rfl (bif_some (p := fun (n : Int) => ((n, ()), ())) rfl rfl)) (bif_some (p := fun (n : Int) => ((n, ()), ())) rfl (bif_some (p := fun (n : Int) => ((n, ()), ())) rfl rfl)))) (bif_some (p := fun (n : Int) => ((n, ()), ())) rfl (bif_some (p := fun (n : Int) => ((n, ()), ())) (bif_some (p := fun (n : Int) => ((n, ()), ())) rfl (bif_some (p := fun (n : Int) => ((n, ()), ())) rfl rfl)) (bif_some (p := fun (n : Int) => ((n, ()), ())) rfl (bif_some (p := fun (n : Int) => ((n, ()), ())) rfl rfl)))))
theorem ok_impl_runOf : ConOk Try.prog 46 con_impl_runOf := (ok0_impl_runOf).mono (fun x r _ h => (nn_impl_runOf x.1).trans h)
end

/-! impl_sizeOk -/
section
noncomputable def B_impl_sizeOk : Code := (Try.f48.body).getD .skip
noncomputable def E_impl_sizeOk : Env := envOf TT [(40, con_impl_within), (41, con_impl_wordsOk)] []
theorem fr_impl_sizeOk_0 : FrOk Try.prog ⟨E_impl_sizeOk, 34, fun _ => none⟩ B_impl_sizeOk := frOk_base mixed tt_ok ⟨ok_impl_within, ok_impl_wordsOk, trivial⟩
noncomputable def D_impl_sizeOk_0 : Nat → Option Seg := fun _ => none
abbrev I_impl_sizeOk : List Par := [.rd tC]
abbrev U_impl_sizeOk : List OT := [⟨false, tB, .fz⟩]
noncomputable def raw_impl_sizeOk (a0 : Int × Int × Int × Int × (List Int)) : Option (ResD U_impl_sizeOk × MutD I_impl_sizeOk) :=
  bif (a0.1 == 1) then
    bif (a0.1 == 1) then
      let r1 := n_impl_within a0.2.2.2.1 1 6
      some ((r1, ()), ())
    else
      bif (a0.1 == 2) then
        bif (a0.1 == 2) then
          let r2 := n_impl_within (a0.2.2.2.2.length : Int) 1 6
          bif r2 then
            let r3 := n_impl_wordsOk a0.2.2.2.2
            some ((r3, ()), ())
          else
            some ((false, ()), ())
        else
          bif (a0.1 == 5) then
            bif ((a0.2.2.2.2.length : Int) == 2) then
              let r4 := n_impl_wordsOk a0.2.2.2.2
              some ((r4, ()), ())
            else
              some ((false, ()), ())
          else
            some ((true, ()), ())
      else
        bif (a0.1 == 3) then
          let r5 := n_impl_within (a0.2.2.2.2.length : Int) 1 6
          bif r5 then
            let r6 := n_impl_wordsOk a0.2.2.2.2
            some ((r6, ()), ())
          else
            some ((false, ()), ())
        else
          bif (a0.1 == 5) then
            bif ((a0.2.2.2.2.length : Int) == 2) then
              let r7 := n_impl_wordsOk a0.2.2.2.2
              some ((r7, ()), ())
            else
              some ((false, ()), ())
          else
            some ((true, ()), ())
  else
    bif (a0.1 == 6) then
      let r8 := n_impl_within a0.2.2.2.1 1 6
      some ((r8, ()), ())
    else
      bif (a0.1 == 2) then
        bif (a0.1 == 2) then
          let r9 := n_impl_within (a0.2.2.2.2.length : Int) 1 6
          bif r9 then
            let r10 := n_impl_wordsOk a0.2.2.2.2
            some ((r10, ()), ())
          else
            some ((false, ()), ())
        else
          bif (a0.1 == 5) then
            bif ((a0.2.2.2.2.length : Int) == 2) then
              let r11 := n_impl_wordsOk a0.2.2.2.2
              some ((r11, ()), ())
            else
              some ((false, ()), ())
          else
            some ((true, ()), ())
      else
        bif (a0.1 == 3) then
          let r12 := n_impl_within (a0.2.2.2.2.length : Int) 1 6
          bif r12 then
            let r13 := n_impl_wordsOk a0.2.2.2.2
            some ((r13, ()), ())
          else
            some ((false, ()), ())
        else
          bif (a0.1 == 5) then
            bif ((a0.2.2.2.2.length : Int) == 2) then
              let r14 := n_impl_wordsOk a0.2.2.2.2
              some ((r14, ()), ())
            else
              some ((false, ()), ())
          else
            some ((true, ()), ())
theorem e_impl_sizeOk (x : InD I_impl_sizeOk) : execF ⟨E_impl_sizeOk, 34, D_impl_sizeOk_0⟩ Try.f48.results.toList B_impl_sizeOk I_impl_sizeOk U_impl_sizeOk x = raw_impl_sizeOk x.1 := by kernel_rfl
theorem ok0_impl_sizeOk : ConOk Try.prog 48 ⟨I_impl_sizeOk, U_impl_sizeOk, fun x => raw_impl_sizeOk x.1⟩ := conOk_exec (fr_impl_sizeOk_0) Try.func48 (by kernel_rfl) (by kernel_rfl) Try.ntmps48.symm (by decide) (fun x r h => (e_impl_sizeOk x).trans h)
noncomputable def n_impl_sizeOk (a0 : Int × Int × Int × Int × (List Int)) : Bool :=
  bif (a0.1 == 1) then
    bif (a0.1 == 1) then
      let r1 := n_impl_within a0.2.2.2.1 1 6
      r1
    else
      bif (a0.1 == 2) then
        bif (a0.1 == 2) then
          let r2 := n_impl_within (a0.2.2.2.2.length : Int) 1 6
          bif r2 then
            let r3 := n_impl_wordsOk a0.2.2.2.2
            r3
          else
            false
        else
          bif (a0.1 == 5) then
            bif ((a0.2.2.2.2.length : Int) == 2) then
              let r4 := n_impl_wordsOk a0.2.2.2.2
              r4
            else
              false
          else
            true
      else
        bif (a0.1 == 3) then
          let r5 := n_impl_within (a0.2.2.2.2.length : Int) 1 6
          bif r5 then
            let r6 := n_impl_wordsOk a0.2.2.2.2
            r6
          else
            false
        else
          bif (a0.1 == 5) then
            bif ((a0.2.2.2.2.length : Int) == 2) then
              let r7 := n_impl_wordsOk a0.2.2.2.2
              r7
            else
              false
          else
            true
  else
    bif (a0.1 == 6) then
      let r8 := n_impl_within a0.2.2.2.1 1 6
      r8
    else
      bif (a0.1 == 2) then
        bif (a0.1 == 2) then
          let r9 := n_impl_within (a0.2.2.2.2.length : Int) 1 6
          bif r9 then
            let r10 := n_impl_wordsOk a0.2.2.2.2
            r10
          else
            false
        else
          bif (a0.1 == 5) then
            bif ((a0.2.2.2.2.length : Int) == 2) then
              let r11 := n_impl_wordsOk a0.2.2.2.2
              r11
            else
              false
          else
            true
      else
        bif (a0.1 == 3) then
          let r12 := n_impl_within (a0.2.2.2.2.length : Int) 1 6
          bif r12 then
            let r13 := n_impl_wordsOk a0.2.2.2.2
            r13
          else
            false
        else
          bif (a0.1 == 5) then
            bif ((a0.2.2.2.2.length : Int) == 2) then
              let r14 := n_impl_wordsOk a0.2.2.2.2
              r14
            else
              false
          else
            true
noncomputable def con_impl_sizeOk : Con := ⟨I_impl_sizeOk, U_impl_sizeOk, fun x => (fun n => some ((n, ()), ())) (n_impl_sizeOk x.1)⟩
theorem nn_impl_sizeOk (a0 : Int × Int × Int × Int × (List Int)) : raw_impl_sizeOk a0 = (fun n => some ((n, ()), ())) (n_impl_sizeOk a0) := bif_ty (p := fun (n : Bool) => ((n, ()), ())) (bif_some (p := fun (n : Bool) => ((n, ()), ())) (bif_some (p := fun (n : Bool) => ((n, ()), ())) rfl (bif_some (p := fun (n : Bool) => ((n, ()), ())) (bif_some (p := fun (n : Bool) => ((n, ()), ())) (bif_some (p := fun (n : Bool) => ((n, ()), ())) rfl rfl) (bif_some (p := fun (n : Bool) => ((n, ()), ())) (bif_some (p := fun (n : Bool) => ((n, ()), ())) rfl rfl) rfl)) (bif_some (p := fun (n : Bool) => ((n, ()), ())) (bif_some (p := fun (n : Bool) => ((n, ()), ())) rfl rfl) (bif_some (p := fun (n : Bool) => ((n, ()), ())) (bif_some (p := fun (n : Bool) => ((n, ()), ())) rfl rfl) rfl)))) (bif_some (p := fun (n : Bool) => ((n, ()), ())) rfl (bif_some (p := fun (n : Bool) => ((n, ()), ())) (bif_some (p := fun (n : Bool) => ((n, ()), ())) (bif_some (p := fun (n : Bool) => ((n, ()), ())) rfl rfl) (bif_some (p := fun (n : Bool) => ((n, ()), ())) (bif_some (p := fun (n : Bool) => ((n, ()), ())) rfl rfl) rfl)) (bif_some (p := fun (n : Bool) => ((n, ()), ())) (bif_some (p := fun (n : Bool) => ((n, ()), ())) rfl rfl) (bif_some (p := fun (n : Bool) => ((n, ()), ())) (bif_some (p := fun (n : Bool) => ((n, ()), ())) rfl rfl) rfl)))))
theorem ok_impl_sizeOk : ConOk Try.prog 48 con_impl_sizeOk := (ok0_impl_sizeOk).mono (fun x r _ h => (nn_impl_sizeOk x.1).trans h)
end

/-! impl_CmdCode -/
section
noncomputable def B_impl_CmdCode : Code := (Try.f30.body).getD .skip
noncomputable def E_impl_CmdCode : Env := envOf TT [(28, con_impl_Blocks), (40, con_impl_within), (46, con_impl_runOf), (47, con_impl_GeoOk), (48, con_impl_sizeOk)] []
theorem fr_impl_CmdCode_0 : FrOk Try.prog ⟨E_impl_CmdCode, 40, fun _ => none⟩ B_impl_CmdCode := frOk_base mixed tt_ok ⟨ok_impl_Blocks, ok_impl_within, ok_impl_runOf, ok_impl_GeoOk, ok_impl_sizeOk, trivial⟩
noncomputable def D_impl_CmdCode_0 : Nat → Option Seg := fun _ => none
abbrev I_impl_CmdCode : List Par := [.rd tG, .rd tC]
abbrev U_impl_CmdCode : List OT := [⟨false, tI, .fz⟩]
noncomputable def raw_impl_CmdCode (a0 : Int × Int) (a1 : Int × Int × Int × Int × (List Int)) : Option (ResD U_impl_CmdCode × MutD I_impl_CmdCode) :=
  let r1 := n_impl_GeoOk a0
  bif (!(!r1)) then
    let r2 := n_impl_within a1.1 1 6
    bif (!(!r2)) then
      let r3 := n_impl_within a1.2.1 1 999
      bif (!r3) then
        some ((1, ()), ())
      else
        let r4 := n_impl_sizeOk a1
        bif (!r4) then
          some ((3, ()), ())
        else
          bif (a1.1 != 4) then
            let r5 := n_impl_Blocks a0
            let r6 := n_impl_runOf a1
            let r7 := n_impl_within a1.2.2.1 0 (IntKind.i64.wrap (r5 - r6))
            bif (!r7) then
              some ((2, ()), ())
            else
              some ((0, ()), ())
          else
            some ((0, ()), ())
    else
      some ((1, ()), ())
  else
    some ((1, ()), ())
theorem e_impl_CmdCode (x : InD I_impl_CmdCode) : execF ⟨E_impl_CmdCode, 40, D_impl_CmdCode_0⟩ Try.f30.results.toList B_impl_CmdCode I_impl_CmdCode U_impl_CmdCode x = raw_impl_CmdCode x.1 x.2.1 := by kernel_rfl
theorem ok0_impl_CmdCode : ConOk Try.prog 30 ⟨I_impl_CmdCode, U_impl_CmdCode, fun x => raw_impl_CmdCode x.1 x.2.1⟩ := conOk_exec (fr_impl_CmdCode_0) Try.func30 (by kernel_rfl) (by kernel_rfl) Try.ntmps30.symm (by decide) (fun x r h => (e_impl_CmdCode x).trans h)
noncomputable def n_impl_CmdCode (a0 : Int × Int) (a1 : Int × Int × Int × Int × (List Int)) : Int :=
  let r1 := n_impl_GeoOk a0
  bif (!(!r1)) then
    let r2 := n_impl_within a1.1 1 6
    bif (!(!r2)) then
      let r3 := n_impl_within a1.2.1 1 999
      bif (!r3) then
        1
      else
        let r4 := n_impl_sizeOk a1
        bif (!r4) then
          3
        else
          bif (a1.1 != 4) then
            let r5 := n_impl_Blocks a0
            let r6 := n_impl_runOf a1
            let r7 := n_impl_within a1.2.2.1 0 (IntKind.i64.wrap (r5 - r6))
            bif (!r7) then
              2
            else
              0
          else
            0
    else
      1
  else
    1
noncomputable def con_impl_CmdCode : Con := ⟨I_impl_CmdCode, U_impl_CmdCode, fun x => (fun n => some ((n, ()), ())) (n_impl_CmdCode x.1 x.2.1)⟩
theorem nn_impl_CmdCode (a0 : Int × Int) (a1 : Int × Int × Int × Int × (List Int)) : raw_impl_CmdCode a0 a1 = (fun n => some ((n, ()), ())) (n_impl_CmdCode a0 a1) := bif_ty (p := fun (n : Int) => ((n, ()), ())) (bif_some (p := fun (n : Int) => ((n, ()), ())) (bif_some (p := fun (n : Int) => ((n, ()), ())) (bif_some (p := fun (n : Int) => ((n, ()), ())) rfl (bif_some (p := fun (n : Int) => ((n, ()), ())) rfl (bif_some (p := fun (n : Int) => ((n, ()), ())) (bif_some (p := fun (n : Int) => ((n, ()), ())) rfl rfl) rfl))) rfl) rfl)
theorem ok_impl_CmdCode : ConOk Try.prog 30 con_impl_CmdCode := (ok0_impl_CmdCode).mono (fun x r _ h => (nn_impl_CmdCode x.1 x.2.1).trans h)
theorem impl_words_in {l : List Int} (h : ∀ x ∈ l, n_spec_l1In x 0 65535 = true) : n_impl_wordsOk l = true := by
  unfold n_impl_wordsOk
  rw [List.all_eq_true]
  intro x hx
  have : n_impl_isWord x = n_spec_l1In x 0 65535 := by kernel_rfl
  rw [this]; exact h x hx
theorem run_ok {g : Int × Int} {c : Int × Int × Int × Int × List Int} (h : CmdOk g c) (h4 : c.1 ≠ 4) : 1 ≤ n_impl_runOf c ∧ n_impl_runOf c ≤ 6 ∧ 0 ≤ c.2.2.1 ∧ c.2.2.1 ≤ n_spec_Blocks g - n_impl_runOf c := by
  obtain ⟨op, id, lba, n, l⟩ := c
  obtain ⟨h1, hl, h2, _, h3⟩ := h
  simp only at h1 hl h2 h3 h4
  unfold n_impl_runOf
  rcases h3.resolve_left h4 with ⟨p, ⟨rfl | rfl, q, r⟩ | ⟨rfl | rfl, q, r⟩ | ⟨rfl, q, r⟩⟩
  · exact ⟨q.1, q.2, p, r⟩
  · exact ⟨q.1, q.2, p, r⟩
  · exact ⟨by show (1 : Int) ≤ l.length; omega, by show (l.length : Int) ≤ 6; omega, p, r⟩
  · exact ⟨by show (1 : Int) ≤ l.length; omega, by show (l.length : Int) ≤ 6; omega, p, r⟩
  · exact ⟨by show (1 : Int) ≤ 1; omega, by show (1 : Int) ≤ 6; omega, p, r⟩
theorem code_ok {g : Int × Int} {c : Int × Int × Int × Int × List Int} (hg : n_spec_GeoOk g = true) (h : CmdOk g c) : n_impl_CmdCode g c = 0 := by
  have hB := spec_Blocks_le g
  have h0 := h
  obtain ⟨op, id, lba, n, l⟩ := c
  obtain ⟨h1, hl, h2, _, h3⟩ := h
  simp only at h1 hl h2 h3
  have hsz : n_impl_sizeOk (op, id, lba, n, l) = true ∧ 1 ≤ op ∧ op ≤ 6 := by
    unfold n_impl_sizeOk
    have hw := impl_words_in h2
    rcases h3 with rfl | ⟨p, ⟨rfl | rfl, q, r⟩ | ⟨rfl | rfl, q, r⟩ | ⟨rfl, q, r⟩⟩
    · exact ⟨rfl, by omega, by omega⟩
    · exact ⟨(impl_in_eq _ _ _).trans (in_t q.1 q.2), by omega, by omega⟩
    · exact ⟨(impl_in_eq _ _ _).trans (in_t q.1 q.2), by omega, by omega⟩
    · refine ⟨?_, by omega, by omega⟩
      show (bif n_impl_within (l.length : Int) 1 6 then n_impl_wordsOk l else false) = true
      rw [impl_in_eq, in_t (by omega) (by omega), hw]; rfl
    · refine ⟨?_, by omega, by omega⟩
      show (bif n_impl_within (l.length : Int) 1 6 then n_impl_wordsOk l else false) = true
      rw [impl_in_eq, in_t (by omega) (by omega), hw]; rfl
    · refine ⟨?_, by omega, by omega⟩
      show (bif (l.length : Int) == 2 then n_impl_wordsOk l else false) = true
      rw [q, hw]; rfl
  unfold n_impl_CmdCode
  rw [geo_eq, hg]
  simp only [Bool.not_true, Bool.not_false, cond_true, impl_in_eq, in_t hsz.2.1 hsz.2.2, in_t h1.1 h1.2, hsz.1, cond_false]
  by_cases h4 : op = 4
  · subst h4; rfl
  · rw [show (op != 4) = true from bne_iff_ne.2 h4, bif_t, impl_Blocks_eq]
    have hr := run_ok h0 h4
    simp only at hr
    rw [wr (show -9223372036854775808 ≤ n_spec_Blocks g - n_impl_runOf (op, id, lba, n, l) by omega) (by omega), in_t hr.2.2.1 hr.2.2.2]
    rfl
end

/-! impl_SpanOf -/
section
noncomputable def B_impl_SpanOf : Code := (Try.f27.body).getD .skip
noncomputable def E_impl_SpanOf : Env := envOf TT [(28, con_impl_Blocks), (30, con_impl_CmdCode), (46, con_impl_runOf)] []
theorem fr_impl_SpanOf_0 : FrOk Try.prog ⟨E_impl_SpanOf, 24, fun _ => none⟩ B_impl_SpanOf := frOk_base mixed tt_ok ⟨ok_impl_Blocks, ok_impl_CmdCode, ok_impl_runOf, trivial⟩
noncomputable def D_impl_SpanOf_0 : Nat → Option Seg := fun _ => none
abbrev I_impl_SpanOf : List Par := [.rd tG, .rd tC]
abbrev U_impl_SpanOf : List OT := [⟨false, tI, .fz⟩, ⟨false, tI, .fz⟩]
noncomputable def raw_impl_SpanOf (a0 : Int × Int) (a1 : Int × Int × Int × Int × (List Int)) : Option (ResD U_impl_SpanOf × MutD I_impl_SpanOf) :=
  let r1 := n_impl_CmdCode a0 a1
  bif (r1 != 0) then
    some ((0, 0, ()), ())
  else
    bif (a1.1 == 4) then
      let r2 := n_impl_Blocks a0
      some ((0, r2, ()), ())
    else
      let r3 := n_impl_runOf a1
      some ((a1.2.2.1, (IntKind.i64.wrap (a1.2.2.1 + r3)), ()), ())
theorem e_impl_SpanOf (x : InD I_impl_SpanOf) : execF ⟨E_impl_SpanOf, 24, D_impl_SpanOf_0⟩ Try.f27.results.toList B_impl_SpanOf I_impl_SpanOf U_impl_SpanOf x = raw_impl_SpanOf x.1 x.2.1 := by kernel_rfl
theorem ok0_impl_SpanOf : ConOk Try.prog 27 ⟨I_impl_SpanOf, U_impl_SpanOf, fun x => raw_impl_SpanOf x.1 x.2.1⟩ := conOk_exec (fr_impl_SpanOf_0) Try.func27 (by kernel_rfl) (by kernel_rfl) Try.ntmps27.symm (by decide) (fun x r h => (e_impl_SpanOf x).trans h)
noncomputable def n_impl_SpanOf (a0 : Int × Int) (a1 : Int × Int × Int × Int × (List Int)) : Int × Int :=
  let r1 := n_impl_CmdCode a0 a1
  bif (r1 != 0) then
    (0, 0)
  else
    bif (a1.1 == 4) then
      let r2 := n_impl_Blocks a0
      (0, r2)
    else
      let r3 := n_impl_runOf a1
      (a1.2.2.1, (IntKind.i64.wrap (a1.2.2.1 + r3)))
noncomputable def con_impl_SpanOf : Con := ⟨I_impl_SpanOf, U_impl_SpanOf, fun x => (fun n => some ((n.1, n.2, ()), ())) (n_impl_SpanOf x.1 x.2.1)⟩
theorem nn_impl_SpanOf (a0 : Int × Int) (a1 : Int × Int × Int × Int × (List Int)) : raw_impl_SpanOf a0 a1 = (fun n => some ((n.1, n.2, ()), ())) (n_impl_SpanOf a0 a1) := bif_ty (p := fun (n : Int × Int) => ((n.1, n.2, ()), ())) (bif_some (p := fun (n : Int × Int) => ((n.1, n.2, ()), ())) rfl (bif_some (p := fun (n : Int × Int) => ((n.1, n.2, ()), ())) rfl rfl))
theorem ok_impl_SpanOf : ConOk Try.prog 27 con_impl_SpanOf := (ok0_impl_SpanOf).mono (fun x r _ h => (nn_impl_SpanOf x.1 x.2.1).trans h)
theorem span_ok {g : Int × Int} {c : Int × Int × Int × Int × List Int} (hg : n_spec_GeoOk g = true) (h : CmdOk g c) :
    0 ≤ (n_impl_SpanOf g c).1 ∧ (n_impl_SpanOf g c).1 < (n_impl_SpanOf g c).2 ∧ (n_impl_SpanOf g c).2 ≤ n_spec_Blocks g ∧ (c.1 = 4 → (n_impl_SpanOf g c).1 = 0 ∧ (n_impl_SpanOf g c).2 = n_spec_Blocks g) := by
  have hB := spec_Blocks_ge hg
  have hB2 := (spec_Blocks_le g).2
  unfold n_impl_SpanOf
  rw [code_ok hg h]
  simp only [bne_self_eq_false, cond_false]
  by_cases h4 : c.1 = 4
  · rw [h4]
    simp only [beq_self_eq_true, cond_true, impl_Blocks_eq]
    exact ⟨by omega, by omega, by omega, fun _ => by simp⟩
  · rw [show (c.1 == 4) = false from beq_eq_false_iff_ne.2 h4]
    simp only [cond_false]
    have hr := run_ok h h4
    rw [wr (by omega) (by omega)]
    exact ⟨hr.2.2.1, by omega, by omega, fun e => absurd e h4⟩
end

/-! impl_Clash -/
section
noncomputable def B_impl_Clash : Code := (Try.f29.body).getD .skip
noncomputable def E_impl_Clash : Env := envOf TT [(27, con_impl_SpanOf)] []
theorem fr_impl_Clash_0 : FrOk Try.prog ⟨E_impl_Clash, 30, fun _ => none⟩ B_impl_Clash := frOk_base mixed tt_ok ⟨ok_impl_SpanOf, trivial⟩
noncomputable def D_impl_Clash_0 : Nat → Option Seg := fun _ => none
abbrev I_impl_Clash : List Par := [.rd tG, .rd tC, .rd tC]
abbrev U_impl_Clash : List OT := [⟨false, tB, .fz⟩]
noncomputable def raw_impl_Clash (a0 : Int × Int) (a1 : Int × Int × Int × Int × (List Int)) (a2 : Int × Int × Int × Int × (List Int)) : Option (ResD U_impl_Clash × MutD I_impl_Clash) :=
  let r1 := n_impl_SpanOf a0 a1
  let r2 := n_impl_SpanOf a0 a2
  some (((ltb (bif (ltb r1.1 r2.1) then r2.1 else r1.1) (bif (ltb r2.2 r1.2) then r2.2 else r1.2)), ()), ())
theorem e_impl_Clash (x : InD I_impl_Clash) : execF ⟨E_impl_Clash, 30, D_impl_Clash_0⟩ Try.f29.results.toList B_impl_Clash I_impl_Clash U_impl_Clash x = raw_impl_Clash x.1 x.2.1 x.2.2.1 := by kernel_rfl
theorem ok0_impl_Clash : ConOk Try.prog 29 ⟨I_impl_Clash, U_impl_Clash, fun x => raw_impl_Clash x.1 x.2.1 x.2.2.1⟩ := conOk_exec (fr_impl_Clash_0) Try.func29 (by kernel_rfl) (by kernel_rfl) Try.ntmps29.symm (by decide) (fun x r h => (e_impl_Clash x).trans h)
noncomputable def n_impl_Clash (a0 : Int × Int) (a1 : Int × Int × Int × Int × (List Int)) (a2 : Int × Int × Int × Int × (List Int)) : Bool :=
  let r1 := n_impl_SpanOf a0 a1
  let r2 := n_impl_SpanOf a0 a2
  (ltb (bif (ltb r1.1 r2.1) then r2.1 else r1.1) (bif (ltb r2.2 r1.2) then r2.2 else r1.2))
noncomputable def con_impl_Clash : Con := ⟨I_impl_Clash, U_impl_Clash, fun x => (fun n => some ((n, ()), ())) (n_impl_Clash x.1 x.2.1 x.2.2.1)⟩
theorem nn_impl_Clash (a0 : Int × Int) (a1 : Int × Int × Int × Int × (List Int)) (a2 : Int × Int × Int × Int × (List Int)) : raw_impl_Clash a0 a1 a2 = (fun n => some ((n, ()), ())) (n_impl_Clash a0 a1 a2) := bif_ty (p := fun (n : Bool) => ((n, ()), ())) rfl
theorem ok_impl_Clash : ConOk Try.prog 29 con_impl_Clash := (ok0_impl_Clash).mono (fun x r _ h => (nn_impl_Clash x.1 x.2.1 x.2.2.1).trans h)
theorem clash_iff {g : Int × Int} {a b : Int × Int × Int × Int × List Int} : n_impl_Clash g a b = true ↔ (n_impl_SpanOf g a).1 < (n_impl_SpanOf g a).2 ∧ (n_impl_SpanOf g b).1 < (n_impl_SpanOf g a).2 ∧ (n_impl_SpanOf g a).1 < (n_impl_SpanOf g b).2 ∧ (n_impl_SpanOf g b).1 < (n_impl_SpanOf g b).2 := by
  unfold n_impl_Clash
  simp only
  generalize (n_impl_SpanOf g a).1 = x
  generalize (n_impl_SpanOf g a).2 = y
  generalize (n_impl_SpanOf g b).1 = u
  generalize (n_impl_SpanOf g b).2 = v
  by_cases h1 : x < u <;> by_cases h2 : v < y
  · rw [ltb_t h1, ltb_t h2, bif_t, bif_t, ltb_iff]; omega
  · rw [ltb_t h1, ltb_f (show y ≤ v by omega), bif_t, bif_f, ltb_iff]; omega
  · rw [ltb_f (show u ≤ x by omega), ltb_t h2, bif_t, bif_f, ltb_iff]; omega
  · rw [ltb_f (show u ≤ x by omega), ltb_f (show y ≤ v by omega), bif_f, bif_f, ltb_iff]; omega
end

/-! laws_FnClashes -/
section
noncomputable def B_laws_FnClashes : Code := (Try.f6.body).getD .skip
noncomputable def E_laws_FnClashes : Env := envOf TT [(25, con_laws_big), (26, con_spec_DrawCmds), (27, con_impl_SpanOf), (28, con_impl_Blocks), (29, con_impl_Clash), (30, con_impl_CmdCode)] []
theorem fr_laws_FnClashes_0 : FrOk Try.prog ⟨E_laws_FnClashes, 93, fun _ => none⟩ B_laws_FnClashes := frOk_base mixed tt_ok ⟨ok_laws_big, ok_spec_DrawCmds, ok_impl_SpanOf, ok_impl_Blocks, ok_impl_Clash, ok_impl_CmdCode, trivial⟩
noncomputable def D_laws_FnClashes_0 : Nat → Option Seg := fun _ => none
def L_laws_FnClashes_509 : Shape := ⟨[(3, false, [.ptr 12672 0]), (4, false, [.ptr 12736 0]), (5, false, [.ptr 12800 0]), (6, false, [.int .i64]), (7, false, [.int .i64]), (8, false, [.int .i64]), (9, false, [.int .i64]), (10, false, [.bool]), (11, false, [.int .i64])], [(12672, [.int .i64, .int .i64]), (12736, [.int .i64, .int .i64, .int .i64, .int .i64, .fz tI]), (12800, [.int .i64, .int .i64, .int .i64, .int .i64, .fz tI])], []⟩
def S_laws_FnClashes_509 : Shape := ⟨[(3, false, [.ptr 12672 0]), (4, false, [.ptr 12736 0]), (5, false, [.ptr 12800 0]), (6, false, [.int .i64]), (7, false, [.int .i64]), (8, false, [.int .i64]), (9, false, [.int .i64]), (10, false, [.cb false]), (11, false, [.ci .i64 0])], [(12672, [.int .i64, .int .i64]), (12736, [.int .i64, .int .i64, .int .i64, .int .i64, .fz tI]), (12800, [.int .i64, .int .i64, .int .i64, .int .i64, .fz tI])], []⟩
def O_laws_FnClashes_509 : Shape := ⟨[(3, false, [.ptr 12672 0]), (4, false, [.ptr 12736 0]), (5, false, [.ptr 12800 0]), (10, false, [.bool])], [(12672, [.int .i64, .int .i64]), (12736, [.int .i64, .int .i64, .int .i64, .int .i64, .fz tI]), (12800, [.int .i64, .int .i64, .int .i64, .int .i64, .fz tI])], []⟩
def Z_laws_FnClashes_509 : Shape := ⟨[], [], []⟩
noncomputable def st_laws_FnClashes_509 (v0 : Int) (v1 : Int) (v2 : Int) (v3 : Int) (v4 : Bool) (v5 : Int) (v6 : Int) (v7 : Int) (v8 : Int) (v9 : Int) (v10 : Int) (v11 : Int) (v12 : List Int) (v13 : Int) (v14 : Int) (v15 : Int) (v16 : Int) (v17 : List Int) : Option ((L_laws_FnClashes_509).X ⊕ ((O_laws_FnClashes_509).X ⊕ (Z_laws_FnClashes_509).X)) :=
  let r6 := n_impl_Blocks (v6, v7)
  bif (ltb v5 r6) then
    bif (!v4) then
      bif (leb v0 v5) then
        bif (ltb v5 v1) then
          bif (leb v2 v5) then
            some (.inl ((((), ()), ((), ()), ((), ()), (v0, ()), (v1, ()), (v2, ()), (v3, ()), ((ltb v5 v3), ()), ((IntKind.i64.wrap (v5 + 1)), ()), ()), ((v6, v7, ()), (v8, v9, v10, v11, v12, ()), (v13, v14, v15, v16, v17, ()), ()), ()))
          else
            some (.inl ((((), ()), ((), ()), ((), ()), (v0, ()), (v1, ()), (v2, ()), (v3, ()), (false, ()), ((IntKind.i64.wrap (v5 + 1)), ()), ()), ((v6, v7, ()), (v8, v9, v10, v11, v12, ()), (v13, v14, v15, v16, v17, ()), ()), ()))
        else
          some (.inl ((((), ()), ((), ()), ((), ()), (v0, ()), (v1, ()), (v2, ()), (v3, ()), (false, ()), ((IntKind.i64.wrap (v5 + 1)), ()), ()), ((v6, v7, ()), (v8, v9, v10, v11, v12, ()), (v13, v14, v15, v16, v17, ()), ()), ()))
      else
        some (.inl ((((), ()), ((), ()), ((), ()), (v0, ()), (v1, ()), (v2, ()), (v3, ()), (false, ()), ((IntKind.i64.wrap (v5 + 1)), ()), ()), ((v6, v7, ()), (v8, v9, v10, v11, v12, ()), (v13, v14, v15, v16, v17, ()), ()), ()))
    else
      some (.inl ((((), ()), ((), ()), ((), ()), (v0, ()), (v1, ()), (v2, ()), (v3, ()), (true, ()), ((IntKind.i64.wrap (v5 + 1)), ()), ()), ((v6, v7, ()), (v8, v9, v10, v11, v12, ()), (v13, v14, v15, v16, v17, ()), ()), ()))
  else
    some (.inr (.inl ((((), ()), ((), ()), ((), ()), (v4, ()), ()), ((v6, v7, ()), (v8, v9, v10, v11, v12, ()), (v13, v14, v15, v16, v17, ()), ()), ())))
noncomputable def stx_laws_FnClashes_509 (x : (L_laws_FnClashes_509).X) := st_laws_FnClashes_509 x.1.2.2.2.1.1 x.1.2.2.2.2.1.1 x.1.2.2.2.2.2.1.1 x.1.2.2.2.2.2.2.1.1 x.1.2.2.2.2.2.2.2.1.1 x.1.2.2.2.2.2.2.2.2.1.1 x.2.1.1.1 x.2.1.1.2.1 x.2.1.2.1.1 x.2.1.2.1.2.1 x.2.1.2.1.2.2.1 x.2.1.2.1.2.2.2.1 x.2.1.2.1.2.2.2.2.1 x.2.1.2.2.1.1 x.2.1.2.2.1.2.1 x.2.1.2.2.1.2.2.1 x.2.1.2.2.1.2.2.2.1 x.2.1.2.2.1.2.2.2.2.1
def em_laws_FnClashes_509 (x : (S_laws_FnClashes_509).X) : (L_laws_FnClashes_509).X := ((((), ()), ((), ()), ((), ()), (x.1.2.2.2.1.1, ()), (x.1.2.2.2.2.1.1, ()), (x.1.2.2.2.2.2.1.1, ()), (x.1.2.2.2.2.2.2.1.1, ()), (false, ()), (0, ()), ()), ((x.2.1.1.1, x.2.1.1.2.1, ()), (x.2.1.2.1.1, x.2.1.2.1.2.1, x.2.1.2.1.2.2.1, x.2.1.2.1.2.2.2.1, x.2.1.2.1.2.2.2.2.1, ()), (x.2.1.2.2.1.1, x.2.1.2.2.1.2.1, x.2.1.2.2.1.2.2.1, x.2.1.2.2.1.2.2.2.1, x.2.1.2.2.1.2.2.2.2.1, ()), ()), ())
noncomputable def c_laws_FnClashes_509 : Code := (subN B_laws_FnClashes 64 2036).getD .skip
theorem a_laws_FnClashes_509 : subN B_laws_FnClashes 64 509 = some (.block 0 (.loop c_laws_FnClashes_509)) := by kernel_rfl
theorem r_laws_FnClashes_509 (x : (L_laws_FnClashes_509).X) : roundT ⟨E_laws_FnClashes, 93, D_laws_FnClashes_0⟩ 0 c_laws_FnClashes_509 2036 L_laws_FnClashes_509 O_laws_FnClashes_509 Z_laws_FnClashes_509 x = stx_laws_FnClashes_509 x := by kernel_rfl
noncomputable def fu_laws_FnClashes_509 (x : (S_laws_FnClashes_509).X) : Nat := (fun (u0 : Int) (u1 : Int) (u2 : Int) (u3 : Int) (u4 : Int) (u5 : Int) (u6 : Int) (u7 : Int) (u8 : Int) (u9 : Int) (u10 : List Int) (u11 : Int) (u12 : Int) (u13 : Int) (u14 : Int) (u15 : List Int) => 18446744073709551616) x.1.2.2.2.1.1 x.1.2.2.2.2.1.1 x.1.2.2.2.2.2.1.1 x.1.2.2.2.2.2.2.1.1 x.2.1.1.1 x.2.1.1.2.1 x.2.1.2.1.1 x.2.1.2.1.2.1 x.2.1.2.1.2.2.1 x.2.1.2.1.2.2.2.1 x.2.1.2.1.2.2.2.2.1 x.2.1.2.2.1.1 x.2.1.2.2.1.2.1 x.2.1.2.2.1.2.2.1 x.2.1.2.2.1.2.2.2.1 x.2.1.2.2.1.2.2.2.2.1
noncomputable def F_laws_FnClashes_509 (x : (S_laws_FnClashes_509).X) : Option ((O_laws_FnClashes_509).X ⊕ (Z_laws_FnClashes_509).X) := loopN stx_laws_FnClashes_509 (fu_laws_FnClashes_509 x) (em_laws_FnClashes_509 x)
noncomputable def sg_laws_FnClashes_509 : Seg := ⟨S_laws_FnClashes_509, O_laws_FnClashes_509, Z_laws_FnClashes_509, F_laws_FnClashes_509⟩
noncomputable def D_laws_FnClashes_1 : Nat → Option Seg := fun q => bif Nat.beq q 509 then some sg_laws_FnClashes_509 else D_laws_FnClashes_0 q
theorem fr_laws_FnClashes_1 : FrOk Try.prog ⟨E_laws_FnClashes, 93, D_laws_FnClashes_1⟩ B_laws_FnClashes := (fr_laws_FnClashes_0).loop (sg := sg_laws_FnClashes_509) L_laws_FnClashes_509 em_laws_FnClashes_509 (by decide) a_laws_FnClashes_509 stx_laws_FnClashes_509 fu_laws_FnClashes_509 (by decide) (fun _ => rfl) (fun x r _ h => h) r_laws_FnClashes_509
abbrev I_laws_FnClashes : List Par := [.kp tYs .fz]
abbrev U_laws_FnClashes : List OT := [⟨false, tB, .fz⟩]
noncomputable def raw_laws_FnClashes (a0 : List Int) : Option (ResD U_laws_FnClashes × MutD I_laws_FnClashes) :=
  let r1 := n_laws_big a0
  bif r1 then
    some ((true, ()), ())
  else
    bnd (raw_spec_DrawCmds a0) fun r2 =>
    let r3 := n_impl_SpanOf r2.1.1 r2.1.2.1
    let r4 := n_impl_SpanOf r2.1.1 r2.1.2.2.1
    segM (F_laws_FnClashes_509 ((((), ()), ((), ()), ((), ()), (r3.1, ()), (r3.2, ()), (r4.1, ()), (r4.2, ()), ((), ()), ((), ()), ()), ((r2.1.1.1, r2.1.1.2, ()), (r2.1.2.1.1, r2.1.2.1.2.1, r2.1.2.1.2.2.1, r2.1.2.1.2.2.2.1, r2.1.2.1.2.2.2.2, ()), (r2.1.2.2.1.1, r2.1.2.2.1.2.1, r2.1.2.2.1.2.2.1, r2.1.2.2.1.2.2.2.1, r2.1.2.2.1.2.2.2.2, ()), ()), ())) (fun y6 =>
      let r8 := n_impl_Clash (y6.2.1.1.1, y6.2.1.1.2.1) (y6.2.1.2.1.1, y6.2.1.2.1.2.1, y6.2.1.2.1.2.2.1, y6.2.1.2.1.2.2.2.1, y6.2.1.2.1.2.2.2.2.1) (y6.2.1.2.2.1.1, y6.2.1.2.2.1.2.1, y6.2.1.2.2.1.2.2.1, y6.2.1.2.2.1.2.2.2.1, y6.2.1.2.2.1.2.2.2.2.1)
      bif (r8 == y6.1.2.2.2.1.1) then
        let r9 := n_impl_Clash (y6.2.1.1.1, y6.2.1.1.2.1) (y6.2.1.2.2.1.1, y6.2.1.2.2.1.2.1, y6.2.1.2.2.1.2.2.1, y6.2.1.2.2.1.2.2.2.1, y6.2.1.2.2.1.2.2.2.2.1) (y6.2.1.2.1.1, y6.2.1.2.1.2.1, y6.2.1.2.1.2.2.1, y6.2.1.2.1.2.2.2.1, y6.2.1.2.1.2.2.2.2.1)
        bif (r9 == y6.1.2.2.2.1.1) then
          let r10 := n_impl_Clash (y6.2.1.1.1, y6.2.1.1.2.1) (y6.2.1.2.1.1, y6.2.1.2.1.2.1, y6.2.1.2.1.2.2.1, y6.2.1.2.1.2.2.2.1, y6.2.1.2.1.2.2.2.2.1) (y6.2.1.2.1.1, y6.2.1.2.1.2.1, y6.2.1.2.1.2.2.1, y6.2.1.2.1.2.2.2.1, y6.2.1.2.1.2.2.2.2.1)
          bif r10 then
            let r11 := n_impl_CmdCode (y6.2.1.1.1, y6.2.1.1.2.1) (y6.2.1.2.1.1, y6.2.1.2.1.2.1, y6.2.1.2.1.2.2.1, y6.2.1.2.1.2.2.2.1, y6.2.1.2.1.2.2.2.2.1)
            bif (r11 == 0) then
              bif (!(y6.2.1.2.1.1 != 4)) then
                some ((y6.1.2.2.2.1.1, ()), ())
              else
                some ((true, ()), ())
            else
              some ((false, ()), ())
          else
            some ((false, ()), ())
        else
          some ((false, ()), ())
      else
        some ((false, ()), ())) (fun y6 =>
      none)
theorem e_laws_FnClashes (x : InD I_laws_FnClashes) : execF ⟨E_laws_FnClashes, 93, D_laws_FnClashes_1⟩ Try.f6.results.toList B_laws_FnClashes I_laws_FnClashes U_laws_FnClashes x = raw_laws_FnClashes x.1 := by kernel_rfl
theorem ok0_laws_FnClashes : ConOk Try.prog 6 ⟨I_laws_FnClashes, U_laws_FnClashes, fun x => raw_laws_FnClashes x.1⟩ := conOk_exec (fr_laws_FnClashes_1) Try.func6 (by kernel_rfl) (by kernel_rfl) Try.ntmps6.symm (by decide) (fun x r h => (e_laws_FnClashes x).trans h)
noncomputable def n_laws_FnClashes (a0 : List Int) : Bool := true
theorem clashes_loop (g : Int × Int) (a b : Int × Int × Int × Int × List Int) (x y u v : Int) :
    F_laws_FnClashes_509 ((((), ()), ((), ()), ((), ()), (x, ()), (y, ()), (u, ()), (v, ()), ((), ()), ((), ()), ()), ((g.1, g.2, ()), (a.1, a.2.1, a.2.2.1, a.2.2.2.1, a.2.2.2.2, ()), (b.1, b.2.1, b.2.2.1, b.2.2.2.1, b.2.2.2.2, ()), ()), ()) =
      some (.inl ((((), ()), ((), ()), ((), ()), ((List.range (n_spec_Blocks g).toNat).any (fun i => leb x i && ltb i y && leb u i && ltb i v), ()), ()), ((g.1, g.2, ()), (a.1, a.2.1, a.2.2.1, a.2.2.2.1, a.2.2.2.2, ()), (b.1, b.2.1, b.2.2.1, b.2.2.2.1, b.2.2.2.2, ()), ()), ())) := by
  have hB := spec_Blocks_le g
  refine loopN_up (step := stx_laws_FnClashes_509) (fun i => ((((), ()), ((), ()), ((), ()), (x, ()), (y, ()), (u, ()), (v, ()), ((List.range i).any (fun i => leb x i && ltb i y && leb u i && ltb i v), ()), ((i : Int), ()), ()), ((g.1, g.2, ()), (a.1, a.2.1, a.2.2.1, a.2.2.2.1, a.2.2.2.2, ()), (b.1, b.2.1, b.2.2.1, b.2.2.2.1, b.2.2.2.2, ()), ()), ())) (n_spec_Blocks g).toNat _ (fun i hi => ?_) ?_ _ (by show _ < 18446744073709551616; omega)
  · simp only [stx_laws_FnClashes_509, st_laws_FnClashes_509, impl_Blocks_eq, ltb_t (show (i : Int) < n_spec_Blocks g by omega), cond_true, wr (show -9223372036854775808 ≤ (i : Int) + 1 by omega) (by omega), Int.natCast_add, Int.natCast_one, List.range_succ, List.any_append, List.any_cons, List.any_nil, Bool.or_false]
    cases (List.range i).any (fun i => leb x i && ltb i y && leb u i && ltb i v) <;> cases leb x i <;> cases ltb i y <;> cases leb u i <;> cases ltb i v <;> rfl
  · simp only [stx_laws_FnClashes_509, st_laws_FnClashes_509, impl_Blocks_eq, ltb_f (show n_spec_Blocks g ≤ ((n_spec_Blocks g).toNat : Int) by omega), cond_false]
theorem nn_laws_FnClashes (a0 : List Int) (hk : InOk I_laws_FnClashes (a0, ())) : raw_laws_FnClashes a0 = (fun n => some ((n, ()), ())) (n_laws_FnClashes a0) := by
  unfold raw_laws_FnClashes n_laws_FnClashes
  obtain ⟨g, a, b, e, hg, ha, hb⟩ := dr_DrawCmds a0 (by have : a0.length * 1 ≤ 2 ^ 47 := hk.1.1; omega)
  have sa := span_ok hg ha
  have sb := span_ok hg hb
  have hB := spec_Blocks_le g
  have hany : ((List.range (n_spec_Blocks g).toNat).any (fun i => leb (n_impl_SpanOf g a).1 i && ltb i (n_impl_SpanOf g a).2 && leb (n_impl_SpanOf g b).1 i && ltb i (n_impl_SpanOf g b).2)) = n_impl_Clash g a b := by
    rw [Bool.eq_iff_iff, clash_iff, List.any_eq_true]
    simp only [List.mem_range, Bool.and_eq_true, ltb_iff, leb_iff]
    constructor
    · rintro ⟨i, hi, ⟨⟨h1, h2⟩, h3⟩, h4⟩
      omega
    · intro h
      refine ⟨(max (n_impl_SpanOf g a).1 (n_impl_SpanOf g b).1).toNat, by omega, ⟨⟨by omega, by omega⟩, by omega⟩, by omega⟩
  have hsym : n_impl_Clash g b a = n_impl_Clash g a b := by
    rw [Bool.eq_iff_iff, clash_iff, clash_iff]; omega
  have hself : n_impl_Clash g a a = true := by rw [clash_iff]; omega
  simp only [e, bnd_some]
  rw [clashes_loop g a b, segM_inl]
  simp only [hany]
  rw [show ((g.1, g.2) : Int × Int) = g from rfl, show ((a.1, a.2.1, a.2.2.1, a.2.2.2.1, a.2.2.2.2) : Int × Int × Int × Int × List Int) = a from rfl, show ((b.1, b.2.1, b.2.2.1, b.2.2.2.1, b.2.2.2.2) : Int × Int × Int × Int × List Int) = b from rfl]
  simp only [hsym, hself, code_ok hg ha, beq_self_eq_true, cond_true]
  cases n_laws_big a0
  · by_cases h4 : a.1 = 4
    · have : n_impl_Clash g a b = true := by
        rw [clash_iff]
        have := sa.2.2.2 h4
        omega
      rw [this, h4]; rfl
    · rw [show (a.1 != 4) = true from bne_iff_ne.2 h4]; rfl
  · rfl
noncomputable def con_laws_FnClashes : Con := ⟨I_laws_FnClashes, U_laws_FnClashes, fun x => (fun n => some ((n, ()), ())) (n_laws_FnClashes x.1)⟩
theorem ok_laws_FnClashes : ConOk Try.prog 6 con_laws_FnClashes := (ok0_laws_FnClashes).mono (fun x r hk h => (nn_laws_FnClashes x.1 hk).trans h)
end
end Go.Tf
