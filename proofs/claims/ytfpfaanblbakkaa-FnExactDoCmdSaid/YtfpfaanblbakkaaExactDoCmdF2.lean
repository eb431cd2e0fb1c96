/- Functions of the program, and what they come to. -/
import Derived.Test.YtfpfaanblbakkaaExactDoCmdF1
namespace Go.Tf
open Go.Proofs
set_option synthInstance.maxHeartbeats 400000
set_option synthInstance.maxSize 10000
set_option linter.unusedVariables false
set_option linter.unusedSimpArgs false
set_option maxRecDepth 100000
/-! spec_l1Words -/
section
noncomputable def B_spec_l1Words : Code := (Try.f137.body).getD .skip
noncomputable def E_spec_l1Words : Env := envOf TT [(152, con_spec_l1Word)] []
theorem fr_spec_l1Words_0 : FrOk Try.prog ⟨E_spec_l1Words, 16, fun _ => none⟩ B_spec_l1Words := frOk_base mixed tt_ok ⟨ok_spec_l1Word, trivial⟩
noncomputable def D_spec_l1Words_0 : Nat → Option Seg := fun _ => none
def L_spec_l1Words_13 : Shape := ⟨[(0, false, [.br tI]), (3, false, [.int .i64])], [], []⟩
def S_spec_l1Words_13 : Shape := ⟨[(0, false, [.br tI]), (3, false, [.ci .i64 0])], [], []⟩
def O_spec_l1Words_13 : Shape := ⟨[], [], []⟩
def Z_spec_l1Words_13 : Shape := ⟨[(2, false, [.bool])], [], []⟩
noncomputable def st_spec_l1Words_13 (v0 : List Int) (v1 : Int) : Option ((L_spec_l1Words_13).X ⊕ ((O_spec_l1Words_13).X ⊕ (Z_spec_l1Words_13).X)) :=
  bif (ltb v1 (v0.length : Int)) then
    bif (inb v1 v0.length) then
      let r2 := n_spec_l1Word (nth v0 v1 0)
      bif (!r2) then
        some (.inr (.inr (((false, ()), ()), (), ())))
      else
        some (.inl (((v0, ()), ((IntKind.i64.wrap (v1 + 1)), ()), ()), (), ()))
    else none
  else
    some (.inr (.inl ((), (), ())))
noncomputable def stx_spec_l1Words_13 (x : (L_spec_l1Words_13).X) := st_spec_l1Words_13 x.1.1.1 x.1.2.1.1
def em_spec_l1Words_13 (x : (S_spec_l1Words_13).X) : (L_spec_l1Words_13).X := (((x.1.1.1, ()), (0, ()), ()), (), ())
noncomputable def c_spec_l1Words_13 : Code := (subN B_spec_l1Words 64 52).getD .skip
theorem a_spec_l1Words_13 : subN B_spec_l1Words 64 13 = some (.block 0 (.loop c_spec_l1Words_13)) := by kernel_rfl
theorem r_spec_l1Words_13 (x : (L_spec_l1Words_13).X) : roundT ⟨E_spec_l1Words, 16, D_spec_l1Words_0⟩ 0 c_spec_l1Words_13 52 L_spec_l1Words_13 O_spec_l1Words_13 Z_spec_l1Words_13 x = stx_spec_l1Words_13 x := by kernel_rfl
noncomputable def fu_spec_l1Words_13 (x : (S_spec_l1Words_13).X) : Nat := (fun (u0 : List Int) => 18446744073709551616) x.1.1.1
noncomputable def F_spec_l1Words_13 (x : (S_spec_l1Words_13).X) : Option ((O_spec_l1Words_13).X ⊕ (Z_spec_l1Words_13).X) := loopN stx_spec_l1Words_13 (fu_spec_l1Words_13 x) (em_spec_l1Words_13 x)
noncomputable def sg_spec_l1Words_13 : Seg := ⟨S_spec_l1Words_13, O_spec_l1Words_13, Z_spec_l1Words_13, F_spec_l1Words_13⟩
noncomputable def D_spec_l1Words_1 : Nat → Option Seg := fun q => bif Nat.beq q 13 then some sg_spec_l1Words_13 else D_spec_l1Words_0 q
theorem fr_spec_l1Words_1 : FrOk Try.prog ⟨E_spec_l1Words, 16, D_spec_l1Words_1⟩ B_spec_l1Words := (fr_spec_l1Words_0).loop (sg := sg_spec_l1Words_13) L_spec_l1Words_13 em_spec_l1Words_13 (by decide) a_spec_l1Words_13 stx_spec_l1Words_13 fu_spec_l1Words_13 (by decide) (fun _ => rfl) (fun x r _ h => h) r_spec_l1Words_13
abbrev I_spec_l1Words : List Par := [.rd tL]
abbrev U_spec_l1Words : List OT := [⟨false, tB, .fz⟩]
noncomputable def raw_spec_l1Words (a0 : List Int) : Option (ResD U_spec_l1Words × MutD I_spec_l1Words) :=
  segM (F_spec_l1Words_13 (((a0, ()), ((), ()), ()), (), ())) (fun y2 =>
    some ((true, ()), ())) (fun y2 =>
    some ((y2.1.1.1, ()), ()))
theorem e_spec_l1Words (x : InD I_spec_l1Words) : execF ⟨E_spec_l1Words, 16, D_spec_l1Words_1⟩ Try.f137.results.toList B_spec_l1Words I_spec_l1Words U_spec_l1Words x = raw_spec_l1Words x.1 := by kernel_rfl
theorem ok0_spec_l1Words : ConOk Try.prog 137 ⟨I_spec_l1Words, U_spec_l1Words, fun x => raw_spec_l1Words x.1⟩ := conOk_exec (fr_spec_l1Words_1) Try.func137 (by kernel_rfl) (by kernel_rfl) Try.ntmps137.symm (by decide) (fun x r h => (e_spec_l1Words x).trans h)
noncomputable def n_spec_l1Words (a0 : List Int) : Bool := a0.all n_spec_l1Word
theorem nn_spec_l1Words (a0 : List Int) (hk : InOk I_spec_l1Words (a0, ())) : raw_spec_l1Words a0 = (fun n => some ((n, ()), ())) (n_spec_l1Words a0) := by
  have hb : a0.length * 8 ≤ 2 ^ 47 := hk.1.1
  have hl : F_spec_l1Words_13 (((a0, ()), ((), ()), ()), (), ()) = some (bif a0.all n_spec_l1Word then .inl ((), (), ()) else .inr (((false, ()), ()), (), ())) :=
    loopN_list_all (step := stx_spec_l1Words_13) a0 0 (fun i => (((a0, ()), ((i : Int), ()), ()), (), ())) n_spec_l1Word _ _ (fun i hi => by
      simp only [stx_spec_l1Words_13, st_spec_l1Words_13, inb_nat hi, nth_nat, ltb_t (show (i : Int) < a0.length by omega), cond_true, wr (show -9223372036854775808 ≤ (i : Int) + 1 by omega) (by omega), Int.natCast_add, Int.natCast_one]
      cases n_spec_l1Word (a0.getD i 0) <;> rfl) (by simp only [stx_spec_l1Words_13, st_spec_l1Words_13, ltb_f (Int.le_refl _), cond_false]) _ (by show _ < 18446744073709551616; omega)
  unfold raw_spec_l1Words n_spec_l1Words
  rw [hl]
  cases a0.all n_spec_l1Word <;> rfl
noncomputable def con_spec_l1Words : Con := ⟨I_spec_l1Words, U_spec_l1Words, fun x => (fun n => some ((n, ()), ())) (n_spec_l1Words x.1)⟩
theorem ok_spec_l1Words : ConOk Try.prog 137 con_spec_l1Words := (ok0_spec_l1Words).mono (fun x r hk h => (nn_spec_l1Words x.1 hk).trans h)
end

/-! spec_l13Size -/
section
noncomputable def B_spec_l13Size : Code := (Try.f105.body).getD .skip
noncomputable def E_spec_l13Size : Env := envOf TT [(96, con_spec_l1In), (137, con_spec_l1Words)] []
theorem fr_spec_l13Size_0 : FrOk Try.prog ⟨E_spec_l13Size, 34, fun _ => none⟩ B_spec_l13Size := frOk_base mixed tt_ok ⟨ok_spec_l1In, ok_spec_l1Words, trivial⟩
noncomputable def D_spec_l13Size_0 : Nat → Option Seg := fun _ => none
abbrev I_spec_l13Size : List Par := [.rd tC]
abbrev U_spec_l13Size : List OT := [⟨false, tB, .fz⟩]
noncomputable def raw_spec_l13Size (a0 : Int × Int × Int × Int × (List Int)) : Option (ResD U_spec_l13Size × MutD I_spec_l13Size) :=
  bif (a0.1 == 1) then
    bif (a0.1 == 1) then
      let r1 := n_spec_l1In a0.2.2.2.1 1 6
      some ((r1, ()), ())
    else
      bif (a0.1 == 2) then
        bif (a0.1 == 2) then
          let r2 := n_spec_l1In (a0.2.2.2.2.length : Int) 1 6
          bif r2 then
            let r3 := n_spec_l1Words a0.2.2.2.2
            some ((r3, ()), ())
          else
            some ((false, ()), ())
        else
          bif (a0.1 == 5) then
            bif ((a0.2.2.2.2.length : Int) == 2) then
              let r4 := n_spec_l1Words a0.2.2.2.2
              some ((r4, ()), ())
            else
              some ((false, ()), ())
          else
            some ((true, ()), ())
      else
        bif (a0.1 == 3) then
          let r5 := n_spec_l1In (a0.2.2.2.2.length : Int) 1 6
          bif r5 then
            let r6 := n_spec_l1Words a0.2.2.2.2
            some ((r6, ()), ())
          else
            some ((false, ()), ())
        else
          bif (a0.1 == 5) then
            bif ((a0.2.2.2.2.length : Int) == 2) then
              let r7 := n_spec_l1Words a0.2.2.2.2
              some ((r7, ()), ())
            else
              some ((false, ()), ())
          else
            some ((true, ()), ())
  else
    bif (a0.1 == 6) then
      let r8 := n_spec_l1In a0.2.2.2.1 1 6
      some ((r8, ()), ())
    else
      bif (a0.1 == 2) then
        bif (a0.1 == 2) then
          let r9 := n_spec_l1In (a0.2.2.2.2.length : Int) 1 6
          bif r9 then
            let r10 := n_spec_l1Words a0.2.2.2.2
            some ((r10, ()), ())
          else
            some ((false, ()), ())
        else
          bif (a0.1 == 5) then
            bif ((a0.2.2.2.2.length : Int) == 2) then
              let r11 := n_spec_l1Words a0.2.2.2.2
              some ((r11, ()), ())
            else
              some ((false, ()), ())
          else
            some ((true, ()), ())
      else
        bif (a0.1 == 3) then
          let r12 := n_spec_l1In (a0.2.2.2.2.length : Int) 1 6
          bif r12 then
            let r13 := n_spec_l1Words a0.2.2.2.2
            some ((r13, ()), ())
          else
            some ((false, ()), ())
        else
          bif (a0.1 == 5) then
            bif ((a0.2.2.2.2.length : Int) == 2) then
              let r14 := n_spec_l1Words a0.2.2.2.2
              some ((r14, ()), ())
            else
              some ((false, ()), ())
          else
            some ((true, ()), ())
theorem e_spec_l13Size (x : InD I_spec_l13Size) : execF ⟨E_spec_l13Size, 34, D_spec_l13Size_0⟩ Try.f105.results.toList B_spec_l13Size I_spec_l13Size U_spec_l13Size x = raw_spec_l13Size x.1 := by kernel_rfl
theorem ok0_spec_l13Size : ConOk Try.prog 105 ⟨I_spec_l13Size, U_spec_l13Size, fun x => raw_spec_l13Size x.1⟩ := conOk_exec (fr_spec_l13Size_0) Try.func105 (by kernel_rfl) (by kernel_rfl) Try.ntmps105.symm (by decide) (fun x r h => (e_spec_l13Size x).trans h)
noncomputable def n_spec_l13Size (a0 : Int × Int × Int × Int × (List Int)) : Bool :=
  bif (a0.1 == 1) then
    bif (a0.1 == 1) then
      let r1 := n_spec_l1In a0.2.2.2.1 1 6
      r1
    else
      bif (a0.1 == 2) then
        bif (a0.1 == 2) then
          let r2 := n_spec_l1In (a0.2.2.2.2.length : Int) 1 6
          bif r2 then
            let r3 := n_spec_l1Words a0.2.2.2.2
            r3
          else
            false
        else
          bif (a0.1 == 5) then
            bif ((a0.2.2.2.2.length : Int) == 2) then
              let r4 := n_spec_l1Words a0.2.2.2.2
              r4
            else
              false
          else
            true
      else
        bif (a0.1 == 3) then
          let r5 := n_spec_l1In (a0.2.2.2.2.length : Int) 1 6
          bif r5 then
            let r6 := n_spec_l1Words a0.2.2.2.2
            r6
          else
            false
        else
          bif (a0.1 == 5) then
            bif ((a0.2.2.2.2.length : Int) == 2) then
              let r7 := n_spec_l1Words a0.2.2.2.2
              r7
            else
              false
          else
            true
  else
    bif (a0.1 == 6) then
      let r8 := n_spec_l1In a0.2.2.2.1 1 6
      r8
    else
      bif (a0.1 == 2) then
        bif (a0.1 == 2) then
          let r9 := n_spec_l1In (a0.2.2.2.2.length : Int) 1 6
          bif r9 then
            let r10 := n_spec_l1Words a0.2.2.2.2
            r10
          else
            false
        else
          bif (a0.1 == 5) then
            bif ((a0.2.2.2.2.length : Int) == 2) then
              let r11 := n_spec_l1Words a0.2.2.2.2
              r11
            else
              false
          else
            true
      else
        bif (a0.1 == 3) then
          let r12 := n_spec_l1In (a0.2.2.2.2.length : Int) 1 6
          bif r12 then
            let r13 := n_spec_l1Words a0.2.2.2.2
            r13
          else
            false
        else
          bif (a0.1 == 5) then
            bif ((a0.2.2.2.2.length : Int) == 2) then
              let r14 := n_spec_l1Words a0.2.2.2.2
              r14
            else
              false
          else
            true
noncomputable def con_spec_l13Size : Con := ⟨I_spec_l13Size, U_spec_l13Size, fun x => (fun n => some ((n, ()), ())) (n_spec_l13Size x.1)⟩
theorem nn_spec_l13Size (a0 : Int × Int × Int × Int × (List Int)) : raw_spec_l13Size a0 = (fun n => some ((n, ()), ())) (n_spec_l13Size a0) := bif_ty (p := fun (n : Bool) => ((n, ()), ())) (bif_some (p := fun (n : Bool) => ((n, ()), ())) (bif_some (p := fun (n : Bool) => ((n, ()), ())) rfl (bif_some (p := fun (n : Bool) => ((n, ()), ())) (bif_some (p := fun (n : Bool) => ((n, ()), ())) (bif_some (p := fun (n : Bool) => ((n, ()), ())) rfl rfl) (bif_some (p := fun (n : Bool) => ((n, ()), ())) (bif_some (p := fun (n : Bool) => ((n, ()), ())) rfl rfl) rfl)) (bif_some (p := fun (n : Bool) => ((n, ()), ())) (bif_some (p := fun (n : Bool) => ((n, ()), ())) rfl rfl) (bif_some (p := fun (n : Bool) => ((n, ()), ())) (bif_some (p := fun (n : Bool) => ((n, ()), ())) rfl rfl) rfl)))) (bif_some (p := fun (n : Bool) => ((n, ()), ())) rfl (bif_some (p := fun (n : Bool) => ((n, ()), ())) (bif_some (p := fun (n : Bool) => ((n, ()), ())) (bif_some (p := fun (n : Bool) => ((n, ()), ())) rfl rfl) (bif_some (p := fun (n : Bool) => ((n, ()), ())) (bif_some (p := fun (n : Bool) => ((n, ()), ())) rfl rfl) rfl)) (bif_some (p := fun (n : Bool) => ((n, ()), ())) (bif_some (p := fun (n : Bool) => ((n, ()), ())) rfl rfl) (bif_some (p := fun (n : Bool) => ((n, ()), ())) (bif_some (p := fun (n : Bool) => ((n, ()), ())) rfl rfl) rfl)))))
theorem ok_spec_l13Size : ConOk Try.prog 105 con_spec_l13Size := (ok0_spec_l13Size).mono (fun x r _ h => (nn_spec_l13Size x.1).trans h)
end

/-! spec_CmdCode -/
section
noncomputable def B_spec_CmdCode : Code := (Try.f67.body).getD .skip
noncomputable def E_spec_CmdCode : Env := envOf TT [(68, con_spec_Blocks), (69, con_spec_l13Len), (96, con_spec_l1In), (104, con_spec_GeoOk), (105, con_spec_l13Size)] []
theorem fr_spec_CmdCode_0 : FrOk Try.prog ⟨E_spec_CmdCode, 39, fun _ => none⟩ B_spec_CmdCode := frOk_base mixed tt_ok ⟨ok_spec_Blocks, ok_spec_l13Len, ok_spec_l1In, ok_spec_GeoOk, ok_spec_l13Size, trivial⟩
noncomputable def D_spec_CmdCode_0 : Nat → Option Seg := fun _ => none
abbrev I_spec_CmdCode : List Par := [.rd tG, .rd tC]
abbrev U_spec_CmdCode : List OT := [⟨false, tI, .fz⟩]
noncomputable def raw_spec_CmdCode (a0 : Int × Int) (a1 : Int × Int × Int × Int × (List Int)) : Option (ResD U_spec_CmdCode × MutD I_spec_CmdCode) :=
  let r1 := n_spec_GeoOk a0
  bif (!(!r1)) then
    let r2 := n_spec_l1In a1.1 1 6
    bif (!(!r2)) then
      let r3 := n_spec_l1In a1.2.1 1 999
      bif (!r3) then
        some ((1, ()), ())
      else
        let r4 := n_spec_l13Size a1
        bif (!r4) then
          some ((3, ()), ())
        else
          bif (a1.1 == 4) then
            some ((0, ()), ())
          else
            let r5 := n_spec_Blocks a0
            let r6 := n_spec_l13Len a1
            let r7 := n_spec_l1In a1.2.2.1 0 (IntKind.i64.wrap (r5 - r6))
            bif (!r7) then
              some ((2, ()), ())
            else
              some ((0, ()), ())
    else
      some ((1, ()), ())
  else
    some ((1, ()), ())
theorem e_spec_CmdCode (x : InD I_spec_CmdCode) : execF ⟨E_spec_CmdCode, 39, D_spec_CmdCode_0⟩ Try.f67.results.toList B_spec_CmdCode I_spec_CmdCode U_spec_CmdCode x = raw_spec_CmdCode x.1 x.2.1 := by kernel_rfl
theorem ok0_spec_CmdCode : ConOk Try.prog 67 ⟨I_spec_CmdCode, U_spec_CmdCode, fun x => raw_spec_CmdCode x.1 x.2.1⟩ := conOk_exec (fr_spec_CmdCode_0) Try.func67 (by kernel_rfl) (by kernel_rfl) Try.ntmps67.symm (by decide) (fun x r h => (e_spec_CmdCode x).trans h)
noncomputable def n_spec_CmdCode (a0 : Int × Int) (a1 : Int × Int × Int × Int × (List Int)) : Int :=
  let r1 := n_spec_GeoOk a0
  bif (!(!r1)) then
    let r2 := n_spec_l1In a1.1 1 6
    bif (!(!r2)) then
      let r3 := n_spec_l1In a1.2.1 1 999
      bif (!r3) then
        1
      else
        let r4 := n_spec_l13Size a1
        bif (!r4) then
          3
        else
          bif (a1.1 == 4) then
            0
          else
            let r5 := n_spec_Blocks a0
            let r6 := n_spec_l13Len a1
            let r7 := n_spec_l1In a1.2.2.1 0 (IntKind.i64.wrap (r5 - r6))
            bif (!r7) then
              2
            else
              0
    else
      1
  else
    1
noncomputable def con_spec_CmdCode : Con := ⟨I_spec_CmdCode, U_spec_CmdCode, fun x => (fun n => some ((n, ()), ())) (n_spec_CmdCode x.1 x.2.1)⟩
theorem nn_spec_CmdCode (a0 : Int × Int) (a1 : Int × Int × Int × Int × (List Int)) : raw_spec_CmdCode a0 a1 = (fun n => some ((n, ()), ())) (n_spec_CmdCode a0 a1) := bif_ty (p := fun (n : Int) => ((n, ()), ())) (bif_some (p := fun (n : Int) => ((n, ()), ())) (bif_some (p := fun (n : Int) => ((n, ()), ())) (bif_some (p := fun (n : Int) => ((n, ()), ())) rfl (bif_some (p := fun (n : Int) => ((n, ()), ())) rfl (bif_some (p := fun (n : Int) => ((n, ()), ())) rfl (bif_some (p := fun (n : Int) => ((n, ()), ())) rfl rfl)))) rfl) rfl)
theorem ok_spec_CmdCode : ConOk Try.prog 67 con_spec_CmdCode := (ok0_spec_CmdCode).mono (fun x r _ h => (nn_spec_CmdCode x.1 x.2.1).trans h)
theorem code0 {g : dG} {c : dC} (h : n_spec_CmdCode g c = 0) : n_spec_GeoOk g = true ∧ (1 ≤ c.1 ∧ c.1 ≤ 6) ∧ (1 ≤ c.2.1 ∧ c.2.1 ≤ 999) ∧ n_spec_l13Size c = true ∧ (c.1 = 4 ∨ (0 ≤ c.2.2.1 ∧ c.2.2.1 ≤ IntKind.i64.wrap (n_spec_Blocks g - n_spec_l13Len c))) := by
  unfold n_spec_CmdCode at h
  cases hg : n_spec_GeoOk g
  · rw [hg] at h; exact absurd (show (1 : Int) = 0 from h) (by decide)
  cases ho : n_spec_l1In c.1 1 6
  · simp only [hg, ho] at h; exact absurd (show (1 : Int) = 0 from h) (by decide)
  cases hi : n_spec_l1In c.2.1 1 999
  · simp only [hg, ho, hi] at h; exact absurd (show (1 : Int) = 0 from h) (by decide)
  cases hs : n_spec_l13Size c
  · simp only [hg, ho, hi, hs] at h; exact absurd (show (3 : Int) = 0 from h) (by decide)
  refine ⟨rfl, in_iff.1 ho, in_iff.1 hi, rfl, ?_⟩
  by_cases h4 : c.1 = 4
  · exact .inl h4
  · right
    cases hl : n_spec_l1In c.2.2.1 0 (IntKind.i64.wrap (n_spec_Blocks g - n_spec_l13Len c))
    · simp only [hg, ho, hi, hs, hl, show (c.1 == 4) = false from beq_eq_false_iff_ne.2 h4] at h; exact absurd (show (2 : Int) = 0 from h) (by decide)
    · exact in_iff.1 hl
theorem size_len {c : dC} (h : n_spec_l13Size c = true) (ho : 1 ≤ c.1 ∧ c.1 ≤ 6) (h4 : c.1 ≠ 4) : 1 ≤ n_spec_l13Len c ∧ n_spec_l13Len c ≤ 6 := by
  obtain ⟨op, id, lba, n, l⟩ := c
  simp only at ho h4
  have : op = 1 ∨ op = 2 ∨ op = 3 ∨ op = 5 ∨ op = 6 := by omega
  have h23 : ∀ b : Bool, (bif n_spec_l1In (l.length : Int) 1 6 then b else false) = true → 1 ≤ (l.length : Int) ∧ (l.length : Int) ≤ 6 := fun b hb => by
    cases hi : n_spec_l1In (l.length : Int) 1 6
    · rw [hi] at hb; cases hb
    · exact in_iff.1 hi
  rcases this with rfl | rfl | rfl | rfl | rfl
  · exact in_iff.1 (show n_spec_l1In n 1 6 = true from h)
  · exact h23 _ h
  · exact h23 _ h
  · exact ⟨by show (1 : Int) ≤ 1; omega, by show (1 : Int) ≤ 6; omega⟩
  · exact in_iff.1 (show n_spec_l1In n 1 6 = true from h)
/-- what a good command of each kind is -/
theorem good_cmd {g : dG} {op id lba n : Int} {v : List Int} (h : n_spec_CmdCode g (op, id, lba, n, v) = 0) :
    op = 4 ∨ (0 ≤ lba ∧ (((op = 1 ∨ op = 6) ∧ 1 ≤ n ∧ n ≤ 6 ∧ lba ≤ n_spec_Blocks g - n) ∨ ((op = 2 ∨ op = 3) ∧ 1 ≤ v.length ∧ v.length ≤ 6 ∧ lba ≤ n_spec_Blocks g - v.length) ∨ (op = 5 ∧ v.length = 2 ∧ lba ≤ n_spec_Blocks g - 1))) := by
  obtain ⟨hg, ho, _, hs, hl⟩ := code0 h
  by_cases h4 : op = 4
  · exact .inl h4
  · right
    have hz := size_len hs ho h4
    have hl := hl.resolve_left h4
    have hB := spec_Blocks_le g
    rw [wr (by omega) (by omega)] at hl
    refine ⟨hl.1, ?_⟩
    have hl2 : lba ≤ n_spec_Blocks g - n_spec_l13Len (op, id, lba, n, v) := hl.2
    clear hl
    simp only at ho
    have : op = 1 ∨ op = 2 ∨ op = 3 ∨ op = 5 ∨ op = 6 := by omega
    rcases this with rfl | rfl | rfl | rfl | rfl
    · exact .inl ⟨.inl rfl, hz.1, hz.2, hl2⟩
    · exact .inr (.inl ⟨.inl rfl, by have : (1 : Int) ≤ v.length := hz.1; omega, by have : (v.length : Int) ≤ 6 := hz.2; omega, hl2⟩)
    · exact .inr (.inl ⟨.inr rfl, by have : (1 : Int) ≤ v.length := hz.1; omega, by have : (v.length : Int) ≤ 6 := hz.2; omega, hl2⟩)
    · refine .inr (.inr ⟨rfl, ?_, hl2⟩)
      have : (bif (v.length : Int) == 2 then n_spec_l1Words v else false) = true := hs
      cases he : ((v.length : Int) == 2)
      · rw [he] at this; cases this
      · have := beq_iff_eq.1 he; omega
    · exact .inl ⟨.inr rfl, hz.1, hz.2, hl2⟩
/-- a list with a stretch written over -/
def patch (l : List Int) (lo : Nat) (m : List Int) : List Int := l.take lo ++ m ++ l.drop (lo + m.length)
theorem patch_len {l m : List Int} {lo : Nat} (h : lo + m.length ≤ l.length) : (patch l lo m).length = l.length := by
  unfold patch
  rw [List.length_append, List.length_append, List.length_take, List.length_drop]; omega
theorem patch_snoc {l : List Int} {lo : Nat} {m : List Int} {x : Int} (h : lo + m.length < l.length) : (patch l lo m).set (lo + m.length) x = patch l lo (m ++ [x]) := by
  unfold patch
  have h1 : (l.take lo ++ m).length = lo + m.length := by rw [List.length_append, List.length_take]; omega
  rw [List.set_append_right _ _ (by omega), h1, Nat.sub_self, List.drop_eq_getElem_cons h, List.set_cons_zero, List.length_append, List.length_singleton]
  simp [Nat.add_assoc]
/-- what a command does -/
noncomputable def pDo (g : dG) (l : List Int) (c : dC) : List Int × dN :=
  bif (l.length : Int) != n_spec_Blocks g then (l, (c.2.1, 1, []))
  else bif n_spec_CmdCode g c != 0 then (l, (c.2.1, n_spec_CmdCode g c, []))
  else bif c.1 == 1 then (l, (c.2.1, 0, (l.drop c.2.2.1.toNat).take c.2.2.2.1.toNat))
  else bif c.1 == 6 then (patch l c.2.2.1.toNat (List.replicate c.2.2.2.1.toNat 0), (c.2.1, 0, []))
  else bif c.1 == 5 then (bif nth l c.2.2.1 0 == nth c.2.2.2.2 0 0 then (l.set c.2.2.1.toNat (nth c.2.2.2.2 1 0), (c.2.1, 0, [])) else (l, (c.2.1, 4, [])))
  else bif c.1 == 4 then (l, (c.2.1, 0, [])) else (patch l c.2.2.1.toNat c.2.2.2.2, (c.2.1, 0, []))
theorem pDo_len (g : dG) (l : List Int) (c : dC) : (pDo g l c).1.length = l.length := by
  unfold pDo
  by_cases h1 : (l.length : Int) = n_spec_Blocks g
  · by_cases h2 : n_spec_CmdCode g c = 0
    · rw [show ((l.length : Int) != n_spec_Blocks g) = false by simp [h1], show (n_spec_CmdCode g c != 0) = false by simp [h2]]
      obtain ⟨op, id, lba, n, v⟩ := c
      rcases good_cmd h2 with rfl | ⟨p, ⟨rfl | rfl, q1, q2, q3⟩ | ⟨rfl | rfl, q1, q2, q3⟩ | ⟨rfl, q1, q3⟩⟩
      · rfl
      · rfl
      · exact patch_len (by rw [List.length_replicate]; show lba.toNat + n.toNat ≤ _; omega)
      · exact patch_len (by show lba.toNat + v.length ≤ _; omega)
      · exact patch_len (by show lba.toNat + v.length ≤ _; omega)
      · show (bif nth l lba 0 == nth v 0 0 then (l.set lba.toNat (nth v 1 0), ((id, 0, []) : dN)) else (l, (id, 4, []))).1.length = l.length
        cases (nth l lba 0 == nth v 0 0)
        · rfl
        · exact List.length_set
    · rw [show ((l.length : Int) != n_spec_Blocks g) = false by simp [h1], show (n_spec_CmdCode g c != 0) = true from bne_iff_ne.2 h2]
      rfl
  · rw [show ((l.length : Int) != n_spec_Blocks g) = true from bne_iff_ne.2 h1]
    rfl
theorem pDo_vals (g : dG) (l : List Int) (c : dC) : (pDo g l c).2.2.2.length ≤ l.length := by
  unfold pDo
  cases ((l.length : Int) != n_spec_Blocks g)
  · cases (n_spec_CmdCode g c != 0)
    · cases (c.1 == 1)
      · cases (c.1 == 6)
        · cases (c.1 == 5)
          · cases (c.1 == 4) <;> exact Nat.zero_le _
          · cases (nth l c.2.2.1 0 == nth c.2.2.2.2 0 0) <;> exact Nat.zero_le _
        · exact Nat.zero_le _
      · show ((l.drop c.2.2.1.toNat).take c.2.2.2.1.toNat).length ≤ _
        rw [List.length_take, List.length_drop]; omega
    · exact Nat.zero_le _
  · exact Nat.zero_le _
noncomputable def doOne (g : dG) (s : List Int × List dN) (c : dC) : List Int × List dN := ((pDo g s.1 c).1, s.2 ++ [(pDo g s.1 c).2])
noncomputable def doAll (g : dG) (l : List Int) (cs : List dC) : List Int × List dN := (cs.take 400).foldl (doOne g) (l, [])
theorem doFold (g : dG) (cs : List dC) : ∀ (s : List Int × List dN), ((cs.foldl (doOne g) s).1.length = s.1.length) ∧ (cs.foldl (doOne g) s).2.length = s.2.length + cs.length ∧ ((∀ a ∈ s.2, a.2.2.length ≤ s.1.length) → ∀ a ∈ (cs.foldl (doOne g) s).2, a.2.2.length ≤ s.1.length) := by
  induction cs with
  | nil => intro s; exact ⟨rfl, by simp, fun h => h⟩
  | cons c cs ih =>
    intro s
    obtain ⟨h1, h2, h3⟩ := ih (doOne g s c)
    have hl : (doOne g s c).1.length = s.1.length := pDo_len g s.1 c
    rw [hl] at h1 h3
    refine ⟨h1, by rw [List.foldl_cons, h2]; show (s.2 ++ [(pDo g s.1 c).2]).length + cs.length = _; rw [List.length_append]; simp only [List.length_cons, List.length_nil]; omega, fun h => h3 fun a ha => ?_⟩
    rcases List.mem_append.1 (show a ∈ s.2 ++ [(pDo g s.1 c).2] from ha) with ha | ha
    · exact h a ha
    · rw [List.mem_singleton.1 ha]; exact pDo_vals g s.1 c
end

/-! spec_l14Do -/
section
noncomputable def B_spec_l14Do : Code := (Try.f73.body).getD .skip
noncomputable def E_spec_l14Do : Env := envOf TT [] []
theorem fr_spec_l14Do_0 : FrOk Try.prog ⟨E_spec_l14Do, 85, fun _ => none⟩ B_spec_l14Do := frOk_base mixed tt_ok trivial
noncomputable def D_spec_l14Do_0 : Nat → Option Seg := fun _ => none
def L_spec_l14Do_1885 : Shape := ⟨[(0, false, [.at 1000001000]), (3, false, [.ptr 0 0]), (4, false, [.ptr 64 0]), (5, false, [.ptr 4288 0]), (6, false, [.int .i64])], [(0, [.int .i64, .int .i64, .int .i64, .int .i64, .br tI]), (64, [.int .i64, .int .i64, .nil]), (4288, [.int .i64, .int .i64, .nil])], [(1000001000, tI, .fz)]⟩
def S_spec_l14Do_1885 : Shape := ⟨[(0, false, [.at 1000001000]), (3, false, [.ptr 0 0]), (4, false, [.ptr 64 0]), (5, false, [.ptr 4288 0]), (6, false, [.ci .i64 0])], [(0, [.int .i64, .int .i64, .int .i64, .int .i64, .br tI]), (64, [.int .i64, .int .i64, .nil]), (4288, [.int .i64, .int .i64, .nil])], [(1000001000, tI, .fz)]⟩
def O_spec_l14Do_1885 : Shape := ⟨[(4, false, [.ptr 64 0]), (5, false, [.ptr 4288 0])], [(64, [.int .i64, .int .i64, .nil]), (4288, [.int .i64, .int .i64, .nil])], [(1000001000, tI, .fz)]⟩
def Z_spec_l14Do_1885 : Shape := ⟨[], [], []⟩
noncomputable def st_spec_l14Do_1885 (v0 : Int) (v1 : Int) (v2 : Int) (v3 : Int) (v4 : Int) (v5 : List Int) (v6 : Int) (v7 : Int) (v8 : Int) (v9 : Int) (v10 : List Int) : Option ((L_spec_l14Do_1885).X ⊕ ((O_spec_l14Do_1885).X ⊕ (Z_spec_l14Do_1885).X)) :=
  bif (ltb v0 (v5.length : Int)) then
    bif (inb v0 v5.length) then
      bif (inb (IntKind.i64.wrap (v3 + v0)) v10.length) then
        some (.inl ((((), ()), ((), ()), ((), ()), ((), ()), ((IntKind.i64.wrap (v0 + 1)), ()), ()), ((v1, v2, v3, v4, v5, ()), (v6, v7, (), ()), (v8, v9, (), ()), ()), ((v10.set ((IntKind.i64.wrap (v3 + v0))).toNat (nth v5 v0 0)), ())))
      else none
    else none
  else
    some (.inr (.inl ((((), ()), ((), ()), ()), ((v6, v7, (), ()), (v8, v9, (), ()), ()), (v10, ()))))
noncomputable def stx_spec_l14Do_1885 (x : (L_spec_l14Do_1885).X) := st_spec_l14Do_1885 x.1.2.2.2.2.1.1 x.2.1.1.1 x.2.1.1.2.1 x.2.1.1.2.2.1 x.2.1.1.2.2.2.1 x.2.1.1.2.2.2.2.1 x.2.1.2.1.1 x.2.1.2.1.2.1 x.2.1.2.2.1.1 x.2.1.2.2.1.2.1 x.2.2.1
def em_spec_l14Do_1885 (x : (S_spec_l14Do_1885).X) : (L_spec_l14Do_1885).X := ((((), ()), ((), ()), ((), ()), ((), ()), (0, ()), ()), ((x.2.1.1.1, x.2.1.1.2.1, x.2.1.1.2.2.1, x.2.1.1.2.2.2.1, x.2.1.1.2.2.2.2.1, ()), (x.2.1.2.1.1, x.2.1.2.1.2.1, (), ()), (x.2.1.2.2.1.1, x.2.1.2.2.1.2.1, (), ()), ()), (x.2.2.1, ()))
noncomputable def c_spec_l14Do_1885 : Code := (subN B_spec_l14Do 64 7540).getD .skip
theorem a_spec_l14Do_1885 : subN B_spec_l14Do 64 1885 = some (.block 1 (.loop c_spec_l14Do_1885)) := by kernel_rfl
theorem r_spec_l14Do_1885 (x : (L_spec_l14Do_1885).X) : roundT ⟨E_spec_l14Do, 85, D_spec_l14Do_0⟩ 1 c_spec_l14Do_1885 7540 L_spec_l14Do_1885 O_spec_l14Do_1885 Z_spec_l14Do_1885 x = stx_spec_l14Do_1885 x := by kernel_rfl
noncomputable def fu_spec_l14Do_1885 (x : (S_spec_l14Do_1885).X) : Nat := (fun (u0 : Int) (u1 : Int) (u2 : Int) (u3 : Int) (u4 : List Int) (u5 : Int) (u6 : Int) (u7 : Int) (u8 : Int) (u9 : List Int) => 18446744073709551616) x.2.1.1.1 x.2.1.1.2.1 x.2.1.1.2.2.1 x.2.1.1.2.2.2.1 x.2.1.1.2.2.2.2.1 x.2.1.2.1.1 x.2.1.2.1.2.1 x.2.1.2.2.1.1 x.2.1.2.2.1.2.1 x.2.2.1
noncomputable def F_spec_l14Do_1885 (x : (S_spec_l14Do_1885).X) : Option ((O_spec_l14Do_1885).X ⊕ (Z_spec_l14Do_1885).X) := loopN stx_spec_l14Do_1885 (fu_spec_l14Do_1885 x) (em_spec_l14Do_1885 x)
noncomputable def sg_spec_l14Do_1885 : Seg := ⟨S_spec_l14Do_1885, O_spec_l14Do_1885, Z_spec_l14Do_1885, F_spec_l14Do_1885⟩
noncomputable def D_spec_l14Do_1 : Nat → Option Seg := fun q => bif Nat.beq q 1885 then some sg_spec_l14Do_1885 else D_spec_l14Do_0 q
theorem fr_spec_l14Do_1 : FrOk Try.prog ⟨E_spec_l14Do, 85, D_spec_l14Do_1⟩ B_spec_l14Do := (fr_spec_l14Do_0).loop (sg := sg_spec_l14Do_1885) L_spec_l14Do_1885 em_spec_l14Do_1885 (by decide) a_spec_l14Do_1885 stx_spec_l14Do_1885 fu_spec_l14Do_1885 (by decide) (fun _ => rfl) (fun x r _ h => h) r_spec_l14Do_1885
def L_spec_l14Do_7549 : Shape := ⟨[(0, false, [.at 1000001000]), (3, false, [.ptr 0 0]), (4, false, [.ptr 64 0]), (5, false, [.ptr 4288 0]), (7, false, [.int .i64])], [(0, [.int .i64, .int .i64, .int .i64, .int .i64, .br tI]), (64, [.int .i64, .int .i64, .nil]), (4288, [.int .i64, .int .i64, .nil])], [(1000001000, tI, .fz)]⟩
def S_spec_l14Do_7549 : Shape := ⟨[(0, false, [.at 1000001000]), (3, false, [.ptr 0 0]), (4, false, [.ptr 64 0]), (5, false, [.ptr 4288 0]), (7, false, [.ci .i64 0])], [(0, [.int .i64, .int .i64, .int .i64, .int .i64, .br tI]), (64, [.int .i64, .int .i64, .nil]), (4288, [.int .i64, .int .i64, .nil])], [(1000001000, tI, .fz)]⟩
def O_spec_l14Do_7549 : Shape := ⟨[(4, false, [.ptr 64 0]), (5, false, [.ptr 4288 0])], [(64, [.int .i64, .int .i64, .nil]), (4288, [.int .i64, .int .i64, .nil])], [(1000001000, tI, .fz)]⟩
def Z_spec_l14Do_7549 : Shape := ⟨[], [], []⟩
noncomputable def st_spec_l14Do_7549 (v0 : Int) (v1 : Int) (v2 : Int) (v3 : Int) (v4 : Int) (v5 : List Int) (v6 : Int) (v7 : Int) (v8 : Int) (v9 : Int) (v10 : List Int) : Option ((L_spec_l14Do_7549).X ⊕ ((O_spec_l14Do_7549).X ⊕ (Z_spec_l14Do_7549).X)) :=
  bif (ltb v0 v4) then
    bif (inb (IntKind.i64.wrap (v3 + v0)) v10.length) then
      some (.inl ((((), ()), ((), ()), ((), ()), ((), ()), ((IntKind.i64.wrap (v0 + 1)), ()), ()), ((v1, v2, v3, v4, v5, ()), (v6, v7, (), ()), (v8, v9, (), ()), ()), ((v10.set ((IntKind.i64.wrap (v3 + v0))).toNat 0), ())))
    else none
  else
    some (.inr (.inl ((((), ()), ((), ()), ()), ((v6, v7, (), ()), (v8, v9, (), ()), ()), (v10, ()))))
noncomputable def stx_spec_l14Do_7549 (x : (L_spec_l14Do_7549).X) := st_spec_l14Do_7549 x.1.2.2.2.2.1.1 x.2.1.1.1 x.2.1.1.2.1 x.2.1.1.2.2.1 x.2.1.1.2.2.2.1 x.2.1.1.2.2.2.2.1 x.2.1.2.1.1 x.2.1.2.1.2.1 x.2.1.2.2.1.1 x.2.1.2.2.1.2.1 x.2.2.1
def em_spec_l14Do_7549 (x : (S_spec_l14Do_7549).X) : (L_spec_l14Do_7549).X := ((((), ()), ((), ()), ((), ()), ((), ()), (0, ()), ()), ((x.2.1.1.1, x.2.1.1.2.1, x.2.1.1.2.2.1, x.2.1.1.2.2.2.1, x.2.1.1.2.2.2.2.1, ()), (x.2.1.2.1.1, x.2.1.2.1.2.1, (), ()), (x.2.1.2.2.1.1, x.2.1.2.2.1.2.1, (), ()), ()), (x.2.2.1, ()))
noncomputable def c_spec_l14Do_7549 : Code := (subN B_spec_l14Do 64 30196).getD .skip
theorem a_spec_l14Do_7549 : subN B_spec_l14Do 64 7549 = some (.block 3 (.loop c_spec_l14Do_7549)) := by kernel_rfl
theorem r_spec_l14Do_7549 (x : (L_spec_l14Do_7549).X) : roundT ⟨E_spec_l14Do, 85, D_spec_l14Do_1⟩ 3 c_spec_l14Do_7549 30196 L_spec_l14Do_7549 O_spec_l14Do_7549 Z_spec_l14Do_7549 x = stx_spec_l14Do_7549 x := by kernel_rfl
noncomputable def fu_spec_l14Do_7549 (x : (S_spec_l14Do_7549).X) : Nat := (fun (u0 : Int) (u1 : Int) (u2 : Int) (u3 : Int) (u4 : List Int) (u5 : Int) (u6 : Int) (u7 : Int) (u8 : Int) (u9 : List Int) => 18446744073709551616) x.2.1.1.1 x.2.1.1.2.1 x.2.1.1.2.2.1 x.2.1.1.2.2.2.1 x.2.1.1.2.2.2.2.1 x.2.1.2.1.1 x.2.1.2.1.2.1 x.2.1.2.2.1.1 x.2.1.2.2.1.2.1 x.2.2.1
noncomputable def F_spec_l14Do_7549 (x : (S_spec_l14Do_7549).X) : Option ((O_spec_l14Do_7549).X ⊕ (Z_spec_l14Do_7549).X) := loopN stx_spec_l14Do_7549 (fu_spec_l14Do_7549 x) (em_spec_l14Do_7549 x)
noncomputable def sg_spec_l14Do_7549 : Seg := ⟨S_spec_l14Do_7549, O_spec_l14Do_7549, Z_spec_l14Do_7549, F_spec_l14Do_7549⟩
noncomputable def D_spec_l14Do_2 : Nat → Option Seg := fun q => bif Nat.beq q 7549 then some sg_spec_l14Do_7549 else D_spec_l14Do_1 q
theorem fr_spec_l14Do_2 : FrOk Try.prog ⟨E_spec_l14Do, 85, D_spec_l14Do_2⟩ B_spec_l14Do := (fr_spec_l14Do_1).loop (sg := sg_spec_l14Do_7549) L_spec_l14Do_7549 em_spec_l14Do_7549 (by decide) a_spec_l14Do_7549 stx_spec_l14Do_7549 fu_spec_l14Do_7549 (by decide) (fun _ => rfl) (fun x r _ h => h) r_spec_l14Do_7549
abbrev I_spec_l14Do : List Par := [.mt tL (.ow .fz), .rd tC]
abbrev U_spec_l14Do : List OT := [⟨false, tN, (.pr .fz (.pr .fz (.ow .fz)))⟩]
noncomputable def raw_spec_l14Do (a0 : List Int) (a1 : Int × Int × Int × Int × (List Int)) : Option (ResD U_spec_l14Do × MutD I_spec_l14Do) :=
  bif (a1.1 == 1) then
    bif (cutok a1.2.2.1 (IntKind.i64.wrap (a1.2.2.1 + a1.2.2.2.1)) a0.length) then
      bif (apok ([] : List Int).length ((a0.drop (a1.2.2.1).toNat).take ((IntKind.i64.wrap (a1.2.2.1 + a1.2.2.2.1)) - a1.2.2.1).toNat).length 8) then
        some (((a1.2.1, 0, (([] : List Int) ++ ((a0.drop (a1.2.2.1).toNat).take ((IntKind.i64.wrap (a1.2.2.1 + a1.2.2.2.1)) - a1.2.2.1).toNat))), ()), (a0, ()))
      else none
    else none
  else
    bif (a1.1 == 2) then
      bif (a1.1 == 2) then
        segM (F_spec_l14Do_1885 ((((), ()), ((), ()), ((), ()), ((), ()), ((), ()), ()), ((a1.1, a1.2.1, a1.2.2.1, a1.2.2.2.1, a1.2.2.2.2, ()), (0, 0, (), ()), (a1.2.1, 0, (), ()), ()), (a0, ()))) (fun y0 =>
          some (((y0.2.1.2.1.1, y0.2.1.2.1.2.1, []), ()), (y0.2.2.1, ()))) (fun y0 =>
          none)
      else
        bif (a1.1 == 6) then
          segM (F_spec_l14Do_7549 ((((), ()), ((), ()), ((), ()), ((), ()), ((), ()), ()), ((a1.1, a1.2.1, a1.2.2.1, a1.2.2.2.1, a1.2.2.2.2, ()), (0, 0, (), ()), (a1.2.1, 0, (), ()), ()), (a0, ()))) (fun y1 =>
            some (((y1.2.1.2.1.1, y1.2.1.2.1.2.1, []), ()), (y1.2.2.1, ()))) (fun y1 =>
            none)
        else
          bif (a1.1 == 5) then
            bif (inb a1.2.2.1 a0.length) then
              bif (inb 0 a1.2.2.2.2.length) then
                bif ((nth a0 a1.2.2.1 0) != (nth a1.2.2.2.2 0 0)) then
                  some (((a1.2.1, 4, []), ()), (a0, ()))
                else
                  bif (inb 1 a1.2.2.2.2.length) then
                    bif (inb a1.2.2.1 a0.length) then
                      some (((a1.2.1, 0, []), ()), ((a0.set (a1.2.2.1).toNat (nth a1.2.2.2.2 1 0)), ()))
                    else none
                  else none
              else none
            else none
          else
            some (((a1.2.1, 0, []), ()), (a0, ()))
    else
      bif (a1.1 == 3) then
        segM (F_spec_l14Do_1885 ((((), ()), ((), ()), ((), ()), ((), ()), ((), ()), ()), ((a1.1, a1.2.1, a1.2.2.1, a1.2.2.2.1, a1.2.2.2.2, ()), (0, 0, (), ()), (a1.2.1, 0, (), ()), ()), (a0, ()))) (fun y2 =>
          some (((y2.2.1.2.1.1, y2.2.1.2.1.2.1, []), ()), (y2.2.2.1, ()))) (fun y2 =>
          none)
      else
        bif (a1.1 == 6) then
          segM (F_spec_l14Do_7549 ((((), ()), ((), ()), ((), ()), ((), ()), ((), ()), ()), ((a1.1, a1.2.1, a1.2.2.1, a1.2.2.2.1, a1.2.2.2.2, ()), (0, 0, (), ()), (a1.2.1, 0, (), ()), ()), (a0, ()))) (fun y3 =>
            some (((y3.2.1.2.1.1, y3.2.1.2.1.2.1, []), ()), (y3.2.2.1, ()))) (fun y3 =>
            none)
        else
          bif (a1.1 == 5) then
            bif (inb a1.2.2.1 a0.length) then
              bif (inb 0 a1.2.2.2.2.length) then
                bif ((nth a0 a1.2.2.1 0) != (nth a1.2.2.2.2 0 0)) then
                  some (((a1.2.1, 4, []), ()), (a0, ()))
                else
                  bif (inb 1 a1.2.2.2.2.length) then
                    bif (inb a1.2.2.1 a0.length) then
                      some (((a1.2.1, 0, []), ()), ((a0.set (a1.2.2.1).toNat (nth a1.2.2.2.2 1 0)), ()))
                    else none
                  else none
              else none
            else none
          else
            some (((a1.2.1, 0, []), ()), (a0, ()))
theorem e_spec_l14Do (x : InD I_spec_l14Do) : execF ⟨E_spec_l14Do, 85, D_spec_l14Do_2⟩ Try.f73.results.toList B_spec_l14Do I_spec_l14Do U_spec_l14Do x = raw_spec_l14Do x.1 x.2.1 := by kernel_rfl
theorem ok0_spec_l14Do : ConOk Try.prog 73 ⟨I_spec_l14Do, U_spec_l14Do, fun x => raw_spec_l14Do x.1 x.2.1⟩ := conOk_exec (fr_spec_l14Do_2) Try.func73 (by kernel_rfl) (by kernel_rfl) Try.ntmps73.symm (by decide) (fun x r h => (e_spec_l14Do x).trans h)
noncomputable def con_spec_l14Do : Con := ⟨I_spec_l14Do, U_spec_l14Do, fun x => raw_spec_l14Do x.1 x.2.1⟩
theorem ok_spec_l14Do : ConOk Try.prog 73 con_spec_l14Do := ok0_spec_l14Do
end

/-! spec_DoCmd -/
section
noncomputable def B_spec_DoCmd : Code := (Try.f21.body).getD .skip
noncomputable def E_spec_DoCmd : Env := envOf TT [(67, con_spec_CmdCode), (68, con_spec_Blocks), (73, con_spec_l14Do)] []
theorem fr_spec_DoCmd_0 : FrOk Try.prog ⟨E_spec_DoCmd, 34, fun _ => none⟩ B_spec_DoCmd := frOk_base mixed tt_ok ⟨ok_spec_CmdCode, ok_spec_Blocks, ok_spec_l14Do, trivial⟩
noncomputable def D_spec_DoCmd_0 : Nat → Option Seg := fun _ => none
abbrev I_spec_DoCmd : List Par := [.rd tG, .rd tL, .rd tC]
abbrev U_spec_DoCmd : List OT := [⟨false, tL, (.ow .fz)⟩, ⟨false, tN, (.pr .fz (.pr .fz (.ow .fz)))⟩]
noncomputable def raw_spec_DoCmd (a0 : Int × Int) (a1 : List Int) (a2 : Int × Int × Int × Int × (List Int)) : Option (ResD U_spec_DoCmd × MutD I_spec_DoCmd) :=
  bif (apok ([] : List Int).length a1.length 8) then
    let r1 := n_spec_CmdCode a0 a2
    let r2 := n_spec_Blocks a0
    bif ((a1.length : Int) != r2) then
      some (((([] : List Int) ++ a1), (a2.2.1, 1, []), ()), ())
    else
      bif (r1 != 0) then
        some (((([] : List Int) ++ a1), (a2.2.1, r1, []), ()), ())
      else
        bnd (raw_spec_l14Do (([] : List Int) ++ a1) a2) fun r3 =>
        some ((r3.2.1, r3.1.1, ()), ())
  else none
theorem e_spec_DoCmd (x : InD I_spec_DoCmd) : execF ⟨E_spec_DoCmd, 34, D_spec_DoCmd_0⟩ Try.f21.results.toList B_spec_DoCmd I_spec_DoCmd U_spec_DoCmd x = raw_spec_DoCmd x.1 x.2.1 x.2.2.1 := by kernel_rfl
theorem ok0_spec_DoCmd : ConOk Try.prog 21 ⟨I_spec_DoCmd, U_spec_DoCmd, fun x => raw_spec_DoCmd x.1 x.2.1 x.2.2.1⟩ := conOk_exec (fr_spec_DoCmd_0) Try.func21 (by kernel_rfl) (by kernel_rfl) Try.ntmps21.symm (by decide) (fun x r h => (e_spec_DoCmd x).trans h)
theorem do_write (op id lba n x1 x2 y1 : Int) (v l : List Int) (h0 : 0 ≤ lba) (hv : v.length ≤ 6) (hl : lba + v.length ≤ l.length) (hb : l.length ≤ 1000) :
    F_spec_l14Do_1885 ((((), ()), ((), ()), ((), ()), ((), ()), ((), ()), ()), ((op, id, lba, n, v, ()), (x1, x2, (), ()), (y1, 0, (), ()), ()), (l, ())) = some (.inl ((((), ()), ((), ()), ()), ((x1, x2, (), ()), (y1, 0, (), ()), ()), (patch l lba.toNat v, ()))) := by
  have h := loopN_up (step := stx_spec_l14Do_1885) (fun i => ((((), ()), ((), ()), ((), ()), ((), ()), ((i : Int), ()), ()), ((op, id, lba, n, v, ()), (x1, x2, (), ()), (y1, 0, (), ()), ()), (patch l lba.toNat (v.take i), ()))) v.length (.inl ((((), ()), ((), ()), ()), ((x1, x2, (), ()), (y1, 0, (), ()), ()), (patch l lba.toNat (v.take v.length), ()))) (fun i hi => by
    have hp : (patch l lba.toNat (v.take i)).length = l.length := patch_len (by rw [List.length_take]; omega)
    simp only [stx_spec_l14Do_1885, st_spec_l14Do_1885, ltb_t (show (i : Int) < v.length by omega), inb_nat hi, nth_nat, hp, wr (show -9223372036854775808 ≤ lba + (i : Int) by omega) (by omega), inb_iff.2 (show 0 ≤ lba + (i : Int) ∧ lba + (i : Int) < l.length by omega), cond_true,
      wr (show -9223372036854775808 ≤ (i : Int) + 1 by omega) (by omega), Int.natCast_add, Int.natCast_one]
    have hi2 : (v.take i).length = i := by rw [List.length_take]; omega
    have := patch_snoc (l := l) (lo := lba.toNat) (m := v.take i) (x := v.getD i 0) (by omega)
    rw [hi2] at this
    rw [show (lba + (i : Int)).toNat = lba.toNat + i by omega, this, getD_get hi, List.take_append_getElem hi]) (by
    simp only [stx_spec_l14Do_1885, st_spec_l14Do_1885, ltb_f (Int.le_refl _), cond_false]) 18446744073709551616 (by omega)
  rw [List.take_length] at h
  have h0' : patch l lba.toNat (v.take 0) = l := by unfold patch; simp
  simp only [h0'] at h
  exact h
theorem do_zero (op id lba n x1 x2 y1 : Int) (v l : List Int) (h0 : 0 ≤ lba) (hn : 0 ≤ n) (hv : n ≤ 6) (hl : lba + n ≤ l.length) (hb : l.length ≤ 1000) :
    F_spec_l14Do_7549 ((((), ()), ((), ()), ((), ()), ((), ()), ((), ()), ()), ((op, id, lba, n, v, ()), (x1, x2, (), ()), (y1, 0, (), ()), ()), (l, ())) = some (.inl ((((), ()), ((), ()), ()), ((x1, x2, (), ()), (y1, 0, (), ()), ()), (patch l lba.toNat (List.replicate n.toNat 0), ()))) := by
  have h := loopN_up (step := stx_spec_l14Do_7549) (fun i => ((((), ()), ((), ()), ((), ()), ((), ()), ((i : Int), ()), ()), ((op, id, lba, n, v, ()), (x1, x2, (), ()), (y1, 0, (), ()), ()), (patch l lba.toNat (List.replicate i 0), ()))) n.toNat (.inl ((((), ()), ((), ()), ()), ((x1, x2, (), ()), (y1, 0, (), ()), ()), (patch l lba.toNat (List.replicate n.toNat 0), ()))) (fun i hi => by
    have hp : (patch l lba.toNat (List.replicate i 0)).length = l.length := patch_len (by rw [List.length_replicate]; omega)
    simp only [stx_spec_l14Do_7549, st_spec_l14Do_7549, ltb_t (show (i : Int) < n by omega), hp, wr (show -9223372036854775808 ≤ lba + (i : Int) by omega) (by omega), inb_iff.2 (show 0 ≤ lba + (i : Int) ∧ lba + (i : Int) < l.length by omega), cond_true,
      wr (show -9223372036854775808 ≤ (i : Int) + 1 by omega) (by omega), Int.natCast_add, Int.natCast_one]
    have := patch_snoc (l := l) (lo := lba.toNat) (m := List.replicate i 0) (x := 0) (by rw [List.length_replicate]; omega)
    rw [List.length_replicate] at this
    rw [show (lba + (i : Int)).toNat = lba.toNat + i by omega, this, ← List.replicate_succ']) (by
    simp only [stx_spec_l14Do_7549, st_spec_l14Do_7549, ltb_f (show n ≤ (n.toNat : Int) by omega), cond_false]) 18446744073709551616 (by omega)
  have h0' : patch l lba.toNat (List.replicate 0 0) = l := by unfold patch; simp
  simp only [h0'] at h
  exact h
noncomputable def n_spec_DoCmd (a0 : dG) (a1 : List Int) (a2 : dC) : List Int × dN := pDo a0 a1 a2
theorem nn_spec_DoCmd (a0 : dG) (a1 : List Int) (a2 : dC) (hk : InOk I_spec_DoCmd (a0, a1, a2, ())) : raw_spec_DoCmd a0 a1 a2 = (fun n => some ((n.1, n.2, ()), ())) (n_spec_DoCmd a0 a1 a2) := by
  have hb : a1.length * 8 ≤ 2 ^ 47 := hk.2.1.1
  have hB := spec_Blocks_le a0
  unfold raw_spec_DoCmd n_spec_DoCmd pDo
  simp only [show apok ([] : List Int).length a1.length 8 = true from apok_iff.2 (by simp only [List.length_nil]; omega), cond_true, List.nil_append]
  by_cases h1 : (a1.length : Int) = n_spec_Blocks a0
  · by_cases h2 : n_spec_CmdCode a0 a2 = 0
    · rw [show ((a1.length : Int) != n_spec_Blocks a0) = false by simp [h1], show (n_spec_CmdCode a0 a2 != 0) = false by simp [h2]]
      obtain ⟨op, id, lba, n, v⟩ := a2
      simp only [cond_false]
      unfold raw_spec_l14Do
      rcases good_cmd h2 with rfl | ⟨p, ⟨rfl | rfl, q1, q2, q3⟩ | ⟨rfl | rfl, q1, q2, q3⟩ | ⟨rfl, q1, q3⟩⟩
      · rfl
      · have hw : IntKind.i64.wrap (lba + n) = lba + n := wr (by omega) (by omega)
        simp only [beq_self_eq_true, cond_true, hw, cutok_iff.2 (show 0 ≤ lba ∧ lba ≤ lba + n ∧ lba + n ≤ a1.length by omega), show (lba + n - lba).toNat = n.toNat by omega, List.nil_append,
          show apok ([] : List Int).length ((a1.drop lba.toNat).take n.toNat).length 8 = true from apok_iff.2 (by rw [List.length_nil, List.length_take]; omega)]
        rfl
      · show bnd (segM (F_spec_l14Do_7549 _) _ _) _ = _
        rw [do_zero 6 id lba n 0 0 id v a1 p (by omega) q2 (by omega) (by omega)]
        rfl
      · show bnd (segM (F_spec_l14Do_1885 _) _ _) _ = _
        rw [do_write 2 id lba n 0 0 id v a1 p q2 (by omega) (by omega)]
        rfl
      · show bnd (segM (F_spec_l14Do_1885 _) _ _) _ = _
        rw [do_write 3 id lba n 0 0 id v a1 p q2 (by omega) (by omega)]
        rfl
      · show bnd (bif inb lba a1.length then bif inb 0 v.length then bif nth a1 lba 0 != nth v 0 0 then _ else bif inb 1 v.length then bif inb lba a1.length then _ else _ else _ else _ else _) _ = _
        rw [inb_iff.2 (show 0 ≤ lba ∧ lba < a1.length by omega), inb_iff.2 (show (0 : Int) ≤ 0 ∧ (0 : Int) < v.length by omega), inb_iff.2 (show (0 : Int) ≤ 1 ∧ (1 : Int) < v.length by omega), bne]
        cases (nth a1 lba 0 == nth v 0 0) <;> rfl
    · rw [show ((a1.length : Int) != n_spec_Blocks a0) = false by simp [h1], show (n_spec_CmdCode a0 a2 != 0) = true from bne_iff_ne.2 h2]
      rfl
  · rw [show ((a1.length : Int) != n_spec_Blocks a0) = true from bne_iff_ne.2 h1]
    rfl
noncomputable def con_spec_DoCmd : Con := ⟨I_spec_DoCmd, U_spec_DoCmd, fun x => (fun n => some ((n.1, n.2, ()), ())) (n_spec_DoCmd x.1 x.2.1 x.2.2.1)⟩
theorem ok_spec_DoCmd : ConOk Try.prog 21 con_spec_DoCmd := (ok0_spec_DoCmd).mono (fun x r hk h => (nn_spec_DoCmd x.1 x.2.1 x.2.2.1 hk).trans h)
end

/-! spec_SpanOf -/
section
noncomputable def B_spec_SpanOf : Code := (Try.f14.body).getD .skip
noncomputable def E_spec_SpanOf : Env := envOf TT [(67, con_spec_CmdCode), (68, con_spec_Blocks), (69, con_spec_l13Len)] []
theorem fr_spec_SpanOf_0 : FrOk Try.prog ⟨E_spec_SpanOf, 22, fun _ => none⟩ B_spec_SpanOf := frOk_base mixed tt_ok ⟨ok_spec_CmdCode, ok_spec_Blocks, ok_spec_l13Len, trivial⟩
noncomputable def D_spec_SpanOf_0 : Nat → Option Seg := fun _ => none
abbrev I_spec_SpanOf : List Par := [.rd tG, .rd tC]
abbrev U_spec_SpanOf : List OT := [⟨false, tI, .fz⟩, ⟨false, tI, .fz⟩]
noncomputable def raw_spec_SpanOf (a0 : Int × Int) (a1 : Int × Int × Int × Int × (List Int)) : Option (ResD U_spec_SpanOf × MutD I_spec_SpanOf) :=
  let r1 := n_spec_CmdCode a0 a1
  bif (r1 != 0) then
    some ((0, 0, ()), ())
  else
    bif (a1.1 == 4) then
      let r2 := n_spec_Blocks a0
      some ((0, r2, ()), ())
    else
      let r3 := n_spec_l13Len a1
      some ((a1.2.2.1, (IntKind.i64.wrap (a1.2.2.1 + r3)), ()), ())
theorem e_spec_SpanOf (x : InD I_spec_SpanOf) : execF ⟨E_spec_SpanOf, 22, D_spec_SpanOf_0⟩ Try.f14.results.toList B_spec_SpanOf I_spec_SpanOf U_spec_SpanOf x = raw_spec_SpanOf x.1 x.2.1 := by kernel_rfl
theorem ok0_spec_SpanOf : ConOk Try.prog 14 ⟨I_spec_SpanOf, U_spec_SpanOf, fun x => raw_spec_SpanOf x.1 x.2.1⟩ := conOk_exec (fr_spec_SpanOf_0) Try.func14 (by kernel_rfl) (by kernel_rfl) Try.ntmps14.symm (by decide) (fun x r h => (e_spec_SpanOf x).trans h)
noncomputable def n_spec_SpanOf (a0 : Int × Int) (a1 : Int × Int × Int × Int × (List Int)) : Int × Int :=
  let r1 := n_spec_CmdCode a0 a1
  bif (r1 != 0) then
    (0, 0)
  else
    bif (a1.1 == 4) then
      let r2 := n_spec_Blocks a0
      (0, r2)
    else
      let r3 := n_spec_l13Len a1
      (a1.2.2.1, (IntKind.i64.wrap (a1.2.2.1 + r3)))
noncomputable def con_spec_SpanOf : Con := ⟨I_spec_SpanOf, U_spec_SpanOf, fun x => (fun n => some ((n.1, n.2, ()), ())) (n_spec_SpanOf x.1 x.2.1)⟩
theorem nn_spec_SpanOf (a0 : Int × Int) (a1 : Int × Int × Int × Int × (List Int)) : raw_spec_SpanOf a0 a1 = (fun n => some ((n.1, n.2, ()), ())) (n_spec_SpanOf a0 a1) := bif_ty (p := fun (n : Int × Int) => ((n.1, n.2, ()), ())) (bif_some (p := fun (n : Int × Int) => ((n.1, n.2, ()), ())) rfl (bif_some (p := fun (n : Int × Int) => ((n.1, n.2, ()), ())) rfl rfl))
theorem ok_spec_SpanOf : ConOk Try.prog 14 con_spec_SpanOf := (ok0_spec_SpanOf).mono (fun x r _ h => (nn_spec_SpanOf x.1 x.2.1).trans h)
theorem span_cases (g : dG) (c : dC) : ((n_spec_SpanOf g c).1 = 0 ∧ (n_spec_SpanOf g c).2 = 0) ∨ (n_spec_CmdCode g c = 0 ∧ 0 ≤ (n_spec_SpanOf g c).1 ∧ (n_spec_SpanOf g c).1 < (n_spec_SpanOf g c).2 ∧ (n_spec_SpanOf g c).2 ≤ n_spec_Blocks g) := by
  unfold n_spec_SpanOf
  by_cases h : n_spec_CmdCode g c = 0
  · right
    obtain ⟨hg, ho, hi, hs, hl⟩ := code0 h
    have hB : 2 ≤ n_spec_Blocks g := by
      rw [spec_Blocks_eq hg]
      obtain ⟨⟨h1, h2⟩, h3, h4⟩ := geo_iff.1 hg
      have : 1 * 2 ≤ g.2 * (g.1 - 1) := Int.mul_le_mul h3 (by omega) (by omega) (by omega)
      omega
    have hB2 := (spec_Blocks_le g).2
    rw [h]
    by_cases h4 : c.1 = 4
    · rw [h4]
      exact ⟨rfl, by show (0 : Int) ≤ 0; omega, by show (0 : Int) < n_spec_Blocks g; omega, by show n_spec_Blocks g ≤ _; omega⟩
    · rw [show (c.1 == 4) = false from beq_eq_false_iff_ne.2 h4]
      have hz := size_len hs ho h4
      have hl := hl.resolve_left h4
      rw [wr (show -9223372036854775808 ≤ n_spec_Blocks g - n_spec_l13Len c by omega) (by omega)] at hl
      refine ⟨rfl, hl.1, ?_, ?_⟩
      · show c.2.2.1 < IntKind.i64.wrap (c.2.2.1 + n_spec_l13Len c); rw [wr (by omega) (by omega)]; omega
      · show IntKind.i64.wrap (c.2.2.1 + n_spec_l13Len c) ≤ _; rw [wr (by omega) (by omega)]; omega
  · left
    simp only [show (n_spec_CmdCode g c != 0) = true from bne_iff_ne.2 h, cond_true, and_self]
end
end Go.Tf
