/- Functions of the program, and what they come to. -/
import Derived.Test.YtgmadfpnljibhaaModelsF4
namespace Go.Tf
open Go.Proofs
set_option synthInstance.maxHeartbeats 400000
set_option synthInstance.maxSize 10000
set_option linter.unusedVariables false
set_option linter.unusedSimpArgs false
set_option maxRecDepth 100000
/-! spec_l1Word -/
section
noncomputable def B_spec_l1Word : Code := (Try.f162.body).getD .skip
noncomputable def E_spec_l1Word : Env := envOf TT [(60, con_spec_l1In)] []
theorem fr_spec_l1Word_0 : FrOk Try.prog ⟨E_spec_l1Word, 5, fun _ => none⟩ B_spec_l1Word := frOk_base mixed tt_ok ⟨ok_spec_l1In, trivial⟩
noncomputable def D_spec_l1Word_0 : Nat → Option Seg := fun _ => none
abbrev I_spec_l1Word : List Par := [.rd tI]
abbrev U_spec_l1Word : List OT := [⟨false, tB, .fz⟩]
noncomputable def raw_spec_l1Word (a0 : Int) : Option (ResD U_spec_l1Word × MutD I_spec_l1Word) :=
  let r1 := n_spec_l1In a0 0 65535
  some ((r1, ()), ())
theorem e_spec_l1Word (x : InD I_spec_l1Word) : execF ⟨E_spec_l1Word, 5, D_spec_l1Word_0⟩ Try.f162.results.toList B_spec_l1Word I_spec_l1Word U_spec_l1Word x = raw_spec_l1Word x.1 := by kernel_rfl
theorem ok0_spec_l1Word : ConOk Try.prog 162 ⟨I_spec_l1Word, U_spec_l1Word, fun x => raw_spec_l1Word x.1⟩ := conOk_exec (fr_spec_l1Word_0) Try.func162 (by kernel_rfl) (by kernel_rfl) Try.ntmps162.symm (by decide) (fun x r h => (e_spec_l1Word x).trans h)
noncomputable def n_spec_l1Word (a0 : Int) : Bool :=
  let r1 := n_spec_l1In a0 0 65535
  r1
noncomputable def con_spec_l1Word : Con := ⟨I_spec_l1Word, U_spec_l1Word, fun x => (fun n => some ((n, ()), ())) (n_spec_l1Word x.1)⟩
theorem nn_spec_l1Word (a0 : Int) : raw_spec_l1Word a0 = (fun n => some ((n, ()), ())) (n_spec_l1Word a0) := bif_ty (p := fun (n : Bool) => ((n, ()), ())) rfl
theorem ok_spec_l1Word : ConOk Try.prog 162 con_spec_l1Word := (ok0_spec_l1Word).mono (fun x r _ h => (nn_spec_l1Word x.1).trans h)
end

/-! spec_l1Words -/
section
noncomputable def B_spec_l1Words : Code := (Try.f136.body).getD .skip
noncomputable def E_spec_l1Words : Env := envOf TT [(162, con_spec_l1Word)] []
theorem fr_spec_l1Words_0 : FrOk Try.prog ⟨E_spec_l1Words, 16, fun _ => none⟩ B_spec_l1Words := frOk_base mixed tt_ok ⟨ok_spec_l1Word, trivial⟩
noncomputable def D_spec_l1Words_0 : Nat → Option Seg := fun _ => none
def L_spec_l1Words_13 : Shape := ⟨[(0, false, [.br tI]), (3, false, [.int .i64])], [], []⟩
def S_spec_l1Words_13 : Shape := ⟨[(0, false, [.br tI]), (3, false, [.ci .i64 0])], [], []⟩
def O_spec_l1Words_13 : Shape := ⟨[], [], []⟩
def Z_spec_l1Words_13 : Shape := ⟨[(2, false, [.bool])], [], []⟩
noncomputable def st_spec_l1Words_13 (v0 : List Int) (v1 : Int) : Option ((L_spec_l1Words_13).X ⊕ ((O_spec_l1Words_13).X ⊕ (Z_spec_l1Words_13).X)) :=
  bif (ltb v1 (v0.length : Int)) then
    bif (inb v1 v0.length) then
      let r2 := n_spec_l1Word (nth v0 v1 0)
      bif (!r2) then
        some (.inr (.inr (((false, ()), ()), (), ())))
      else
        some (.inl (((v0, ()), ((IntKind.i64.wrap (v1 + 1)), ()), ()), (), ()))
    else none
  else
    some (.inr (.inl ((), (), ())))
noncomputable def stx_spec_l1Words_13 (x : (L_spec_l1Words_13).X) := st_spec_l1Words_13 x.1.1.1 x.1.2.1.1
def em_spec_l1Words_13 (x : (S_spec_l1Words_13).X) : (L_spec_l1Words_13).X := (((x.1.1.1, ()), (0, ()), ()), (), ())
noncomputable def c_spec_l1Words_13 : Code := (subN B_spec_l1Words 64 52).getD .skip
theorem a_spec_l1Words_13 : subN B_spec_l1Words 64 13 = some (.block 0 (.loop c_spec_l1Words_13)) := by kernel_rfl
theorem r_spec_l1Words_13 (x : (L_spec_l1Words_13).X) : roundT ⟨E_spec_l1Words, 16, D_spec_l1Words_0⟩ 0 c_spec_l1Words_13 52 L_spec_l1Words_13 O_spec_l1Words_13 Z_spec_l1Words_13 x = stx_spec_l1Words_13 x := by kernel_rfl
def fu_spec_l1Words_13 (x : (S_spec_l1Words_13).X) : Nat := 18446744073709551616
noncomputable def F_spec_l1Words_13 (x : (S_spec_l1Words_13).X) : Option ((O_spec_l1Words_13).X ⊕ (Z_spec_l1Words_13).X) := loopN stx_spec_l1Words_13 (fu_spec_l1Words_13 x) (em_spec_l1Words_13 x)
noncomputable def sg_spec_l1Words_13 : Seg := ⟨S_spec_l1Words_13, O_spec_l1Words_13, Z_spec_l1Words_13, F_spec_l1Words_13⟩
noncomputable def D_spec_l1Words_1 : Nat → Option Seg := fun q => bif Nat.beq q 13 then some sg_spec_l1Words_13 else D_spec_l1Words_0 q
theorem fr_spec_l1Words_1 : FrOk Try.prog ⟨E_spec_l1Words, 16, D_spec_l1Words_1⟩ B_spec_l1Words := (fr_spec_l1Words_0).loop (sg := sg_spec_l1Words_13) L_spec_l1Words_13 em_spec_l1Words_13 (by decide) a_spec_l1Words_13 stx_spec_l1Words_13 fu_spec_l1Words_13 (by decide) (fun _ => rfl) (fun x r _ h => h) r_spec_l1Words_13
abbrev I_spec_l1Words : List Par := [.rd tL]
abbrev U_spec_l1Words : List OT := [⟨false, tB, .fz⟩]
noncomputable def raw_spec_l1Words (a0 : List Int) : Option (ResD U_spec_l1Words × MutD I_spec_l1Words) :=
  segM (F_spec_l1Words_13 (((a0, ()), ((), ()), ()), (), ())) (fun y2 =>
    some ((true, ()), ())) (fun y2 =>
    some ((y2.1.1.1, ()), ()))
theorem e_spec_l1Words (x : InD I_spec_l1Words) : execF ⟨E_spec_l1Words, 16, D_spec_l1Words_1⟩ Try.f136.results.toList B_spec_l1Words I_spec_l1Words U_spec_l1Words x = raw_spec_l1Words x.1 := by kernel_rfl
theorem ok0_spec_l1Words : ConOk Try.prog 136 ⟨I_spec_l1Words, U_spec_l1Words, fun x => raw_spec_l1Words x.1⟩ := conOk_exec (fr_spec_l1Words_1) Try.func136 (by kernel_rfl) (by kernel_rfl) Try.ntmps136.symm (by decide) (fun x r h => (e_spec_l1Words x).trans h)
noncomputable def n_spec_l1Words (a0 : List Int) : Bool := a0.all n_spec_l1Word
theorem nn_spec_l1Words (a0 : List Int) (hk : InOk I_spec_l1Words (a0, ())) : raw_spec_l1Words a0 = (fun n => some ((n, ()), ())) (n_spec_l1Words a0) := by
  have hb : a0.length * 8 ≤ 2 ^ 47 := hk.1.1
  have hl : F_spec_l1Words_13 (((a0, ()), ((), ()), ()), (), ()) = some (bif a0.all n_spec_l1Word then .inl ((), (), ()) else .inr (((false, ()), ()), (), ())) :=
    loopN_list_all (step := stx_spec_l1Words_13) a0 0 (fun i => (((a0, ()), ((i : Int), ()), ()), (), ())) n_spec_l1Word _ _ (fun i hi => by
      simp only [stx_spec_l1Words_13, st_spec_l1Words_13, inb_nat hi, nth_nat, ltb_t (show (i : Int) < a0.length by omega), cond_true, wr (show -9223372036854775808 ≤ (i : Int) + 1 by omega) (by omega), Int.natCast_add, Int.natCast_one]
      cases n_spec_l1Word (a0.getD i 0) <;> rfl) (by simp only [stx_spec_l1Words_13, st_spec_l1Words_13, ltb_f (Int.le_refl _), cond_false]) _ (by show _ < 18446744073709551616; omega)
  unfold raw_spec_l1Words n_spec_l1Words
  rw [hl]
  cases a0.all n_spec_l1Word <;> rfl
noncomputable def con_spec_l1Words : Con := ⟨I_spec_l1Words, U_spec_l1Words, fun x => (fun n => some ((n, ()), ())) (n_spec_l1Words x.1)⟩
theorem ok_spec_l1Words : ConOk Try.prog 136 con_spec_l1Words := (ok0_spec_l1Words).mono (fun x r hk h => (nn_spec_l1Words x.1 hk).trans h)
theorem impl_word_eq (a : Int) : n_impl_isWord a = n_spec_l1Word a := by kernel_rfl
theorem impl_words_eq (a : List Int) : n_impl_wordsOk a = a.all n_spec_l1Word := by
  unfold n_impl_wordsOk; rw [show n_impl_isWord = n_spec_l1Word from funext impl_word_eq]
end

/-! spec_l13Size -/
section
noncomputable def B_spec_l13Size : Code := (Try.f132.body).getD .skip
noncomputable def E_spec_l13Size : Env := envOf TT [(60, con_spec_l1In), (136, con_spec_l1Words)] []
theorem fr_spec_l13Size_0 : FrOk Try.prog ⟨E_spec_l13Size, 34, fun _ => none⟩ B_spec_l13Size := frOk_base mixed tt_ok ⟨ok_spec_l1In, ok_spec_l1Words, trivial⟩
noncomputable def D_spec_l13Size_0 : Nat → Option Seg := fun _ => none
abbrev I_spec_l13Size : List Par := [.rd tC]
abbrev U_spec_l13Size : List OT := [⟨false, tB, .fz⟩]
noncomputable def raw_spec_l13Size (a0 : dC) : Option (ResD U_spec_l13Size × MutD I_spec_l13Size) :=
  bif (a0.1 == 1) then
    bif (a0.1 == 1) then
      let r1 := n_spec_l1In a0.2.2.2.1 1 6
      some ((r1, ()), ())
    else
      bif (a0.1 == 2) then
        bif (a0.1 == 2) then
          let r2 := n_spec_l1In (a0.2.2.2.2.length : Int) 1 6
          bif r2 then
            let r3 := n_spec_l1Words a0.2.2.2.2
            some ((r3, ()), ())
          else
            some ((false, ()), ())
        else
          bif (a0.1 == 5) then
            bif ((a0.2.2.2.2.length : Int) == 2) then
              let r4 := n_spec_l1Words a0.2.2.2.2
              some ((r4, ()), ())
            else
              some ((false, ()), ())
          else
            some ((true, ()), ())
      else
        bif (a0.1 == 3) then
          let r5 := n_spec_l1In (a0.2.2.2.2.length : Int) 1 6
          bif r5 then
            let r6 := n_spec_l1Words a0.2.2.2.2
            some ((r6, ()), ())
          else
            some ((false, ()), ())
        else
          bif (a0.1 == 5) then
            bif ((a0.2.2.2.2.length : Int) == 2) then
              let r7 := n_spec_l1Words a0.2.2.2.2
              some ((r7, ()), ())
            else
              some ((false, ()), ())
          else
            some ((true, ()), ())
  else
    bif (a0.1 == 6) then
      let r8 := n_spec_l1In a0.2.2.2.1 1 6
      some ((r8, ()), ())
    else
      bif (a0.1 == 2) then
        bif (a0.1 == 2) then
          let r9 := n_spec_l1In (a0.2.2.2.2.length : Int) 1 6
          bif r9 then
            let r10 := n_spec_l1Words a0.2.2.2.2
            some ((r10, ()), ())
          else
            some ((false, ()), ())
        else
          bif (a0.1 == 5) then
            bif ((a0.2.2.2.2.length : Int) == 2) then
              let r11 := n_spec_l1Words a0.2.2.2.2
              some ((r11, ()), ())
            else
              some ((false, ()), ())
          else
            some ((true, ()), ())
      else
        bif (a0.1 == 3) then
          let r12 := n_spec_l1In (a0.2.2.2.2.length : Int) 1 6
          bif r12 then
            let r13 := n_spec_l1Words a0.2.2.2.2
            some ((r13, ()), ())
          else
            some ((false, ()), ())
        else
          bif (a0.1 == 5) then
            bif ((a0.2.2.2.2.length : Int) == 2) then
              let r14 := n_spec_l1Words a0.2.2.2.2
              some ((r14, ()), ())
            else
              some ((false, ()), ())
          else
            some ((true, ()), ())
theorem e_spec_l13Size (x : InD I_spec_l13Size) : execF ⟨E_spec_l13Size, 34, D_spec_l13Size_0⟩ Try.f132.results.toList B_spec_l13Size I_spec_l13Size U_spec_l13Size x = raw_spec_l13Size x.1 := by kernel_rfl
theorem ok0_spec_l13Size : ConOk Try.prog 132 ⟨I_spec_l13Size, U_spec_l13Size, fun x => raw_spec_l13Size x.1⟩ := conOk_exec (fr_spec_l13Size_0) Try.func132 (by kernel_rfl) (by kernel_rfl) Try.ntmps132.symm (by decide) (fun x r h => (e_spec_l13Size x).trans h)
noncomputable def n_spec_l13Size (a0 : dC) : Bool :=
  bif (a0.1 == 1) then
    bif (a0.1 == 1) then
      let r1 := n_spec_l1In a0.2.2.2.1 1 6
      r1
    else
      bif (a0.1 == 2) then
        bif (a0.1 == 2) then
          let r2 := n_spec_l1In (a0.2.2.2.2.length : Int) 1 6
          bif r2 then
            let r3 := n_spec_l1Words a0.2.2.2.2
            r3
          else
            false
        else
          bif (a0.1 == 5) then
            bif ((a0.2.2.2.2.length : Int) == 2) then
              let r4 := n_spec_l1Words a0.2.2.2.2
              r4
            else
              false
          else
            true
      else
        bif (a0.1 == 3) then
          let r5 := n_spec_l1In (a0.2.2.2.2.length : Int) 1 6
          bif r5 then
            let r6 := n_spec_l1Words a0.2.2.2.2
            r6
          else
            false
        else
          bif (a0.1 == 5) then
            bif ((a0.2.2.2.2.length : Int) == 2) then
              let r7 := n_spec_l1Words a0.2.2.2.2
              r7
            else
              false
          else
            true
  else
    bif (a0.1 == 6) then
      let r8 := n_spec_l1In a0.2.2.2.1 1 6
      r8
    else
      bif (a0.1 == 2) then
        bif (a0.1 == 2) then
          let r9 := n_spec_l1In (a0.2.2.2.2.length : Int) 1 6
          bif r9 then
            let r10 := n_spec_l1Words a0.2.2.2.2
            r10
          else
            false
        else
          bif (a0.1 == 5) then
            bif ((a0.2.2.2.2.length : Int) == 2) then
              let r11 := n_spec_l1Words a0.2.2.2.2
              r11
            else
              false
          else
            true
      else
        bif (a0.1 == 3) then
          let r12 := n_spec_l1In (a0.2.2.2.2.length : Int) 1 6
          bif r12 then
            let r13 := n_spec_l1Words a0.2.2.2.2
            r13
          else
            false
        else
          bif (a0.1 == 5) then
            bif ((a0.2.2.2.2.length : Int) == 2) then
              let r14 := n_spec_l1Words a0.2.2.2.2
              r14
            else
              false
          else
            true
noncomputable def con_spec_l13Size : Con := ⟨I_spec_l13Size, U_spec_l13Size, fun x => (fun n => some ((n, ()), ())) (n_spec_l13Size x.1)⟩
theorem nn_spec_l13Size (a0 : dC) : raw_spec_l13Size a0 = (fun n => some ((n, ()), ())) (n_spec_l13Size a0) := bif_ty (p := fun (n : Bool) => ((n, ()), ())) (bif_some (p := fun (n : Bool) => ((n, ()), ())) (bif_some (p := fun (n : Bool) => ((n, ()), ())) rfl (bif_some (p := fun (n : Bool) => ((n, ()), ())) (bif_some (p := fun (n : Bool) => ((n, ()), ())) (bif_some (p := fun (n : Bool) => ((n, ()), ())) rfl rfl) (bif_some (p := fun (n : Bool) => ((n, ()), ())) (bif_some (p := fun (n : Bool) => ((n, ()), ())) rfl rfl) rfl)) (bif_some (p := fun (n : Bool) => ((n, ()), ())) (bif_some (p := fun (n : Bool) => ((n, ()), ())) rfl rfl) (bif_some (p := fun (n : Bool) => ((n, ()), ())) (bif_some (p := fun (n : Bool) => ((n, ()), ())) rfl rfl) rfl)))) (bif_some (p := fun (n : Bool) => ((n, ()), ())) rfl (bif_some (p := fun (n : Bool) => ((n, ()), ())) (bif_some (p := fun (n : Bool) => ((n, ()), ())) (bif_some (p := fun (n : Bool) => ((n, ()), ())) rfl rfl) (bif_some (p := fun (n : Bool) => ((n, ()), ())) (bif_some (p := fun (n : Bool) => ((n, ()), ())) rfl rfl) rfl)) (bif_some (p := fun (n : Bool) => ((n, ()), ())) (bif_some (p := fun (n : Bool) => ((n, ()), ())) rfl rfl) (bif_some (p := fun (n : Bool) => ((n, ()), ())) (bif_some (p := fun (n : Bool) => ((n, ()), ())) rfl rfl) rfl)))))
theorem ok_spec_l13Size : ConOk Try.prog 132 con_spec_l13Size := (ok0_spec_l13Size).mono (fun x r _ h => (nn_spec_l13Size x.1).trans h)
end

/-! spec_CmdCode -/
section
noncomputable def B_spec_CmdCode : Code := (Try.f94.body).getD .skip
noncomputable def E_spec_CmdCode : Env := envOf TT [(60, con_spec_l1In), (89, con_spec_Blocks), (91, con_spec_GeoOk), (95, con_spec_l13Len), (132, con_spec_l13Size)] []
theorem fr_spec_CmdCode_0 : FrOk Try.prog ⟨E_spec_CmdCode, 39, fun _ => none⟩ B_spec_CmdCode := frOk_base mixed tt_ok ⟨ok_spec_l1In, ok_spec_Blocks, ok_spec_GeoOk, ok_spec_l13Len, ok_spec_l13Size, trivial⟩
noncomputable def D_spec_CmdCode_0 : Nat → Option Seg := fun _ => none
abbrev I_spec_CmdCode : List Par := [.rd tG, .rd tC]
abbrev U_spec_CmdCode : List OT := [⟨false, tI, .fz⟩]
noncomputable def raw_spec_CmdCode (a0 : dG) (a1 : dC) : Option (ResD U_spec_CmdCode × MutD I_spec_CmdCode) :=
  let r1 := n_spec_GeoOk a0
  bif (!(!r1)) then
    let r2 := n_spec_l1In a1.1 1 6
    bif (!(!r2)) then
      let r3 := n_spec_l1In a1.2.1 1 999
      bif (!r3) then
        some ((1, ()), ())
      else
        let r4 := n_spec_l13Size a1
        bif (!r4) then
          some ((3, ()), ())
        else
          bif (a1.1 == 4) then
            some ((0, ()), ())
          else
            let r5 := n_spec_Blocks a0
            let r6 := n_spec_l13Len a1
            let r7 := n_spec_l1In a1.2.2.1 0 (IntKind.i64.wrap (r5 - r6))
            bif (!r7) then
              some ((2, ()), ())
            else
              some ((0, ()), ())
    else
      some ((1, ()), ())
  else
    some ((1, ()), ())
theorem e_spec_CmdCode (x : InD I_spec_CmdCode) : execF ⟨E_spec_CmdCode, 39, D_spec_CmdCode_0⟩ Try.f94.results.toList B_spec_CmdCode I_spec_CmdCode U_spec_CmdCode x = raw_spec_CmdCode x.1 x.2.1 := by kernel_rfl
theorem ok0_spec_CmdCode : ConOk Try.prog 94 ⟨I_spec_CmdCode, U_spec_CmdCode, fun x => raw_spec_CmdCode x.1 x.2.1⟩ := conOk_exec (fr_spec_CmdCode_0) Try.func94 (by kernel_rfl) (by kernel_rfl) Try.ntmps94.symm (by decide) (fun x r h => (e_spec_CmdCode x).trans h)
noncomputable def n_spec_CmdCode (a0 : dG) (a1 : dC) : Int :=
  let r1 := n_spec_GeoOk a0
  bif (!(!r1)) then
    let r2 := n_spec_l1In a1.1 1 6
    bif (!(!r2)) then
      let r3 := n_spec_l1In a1.2.1 1 999
      bif (!r3) then
        1
      else
        let r4 := n_spec_l13Size a1
        bif (!r4) then
          3
        else
          bif (a1.1 == 4) then
            0
          else
            let r5 := n_spec_Blocks a0
            let r6 := n_spec_l13Len a1
            let r7 := n_spec_l1In a1.2.2.1 0 (IntKind.i64.wrap (r5 - r6))
            bif (!r7) then
              2
            else
              0
    else
      1
  else
    1
noncomputable def con_spec_CmdCode : Con := ⟨I_spec_CmdCode, U_spec_CmdCode, fun x => (fun n => some ((n, ()), ())) (n_spec_CmdCode x.1 x.2.1)⟩
theorem nn_spec_CmdCode (a0 : dG) (a1 : dC) : raw_spec_CmdCode a0 a1 = (fun n => some ((n, ()), ())) (n_spec_CmdCode a0 a1) := bif_ty (p := fun (n : Int) => ((n, ()), ())) (bif_some (p := fun (n : Int) => ((n, ()), ())) (bif_some (p := fun (n : Int) => ((n, ()), ())) (bif_some (p := fun (n : Int) => ((n, ()), ())) rfl (bif_some (p := fun (n : Int) => ((n, ()), ())) rfl (bif_some (p := fun (n : Int) => ((n, ()), ())) rfl (bif_some (p := fun (n : Int) => ((n, ()), ())) rfl rfl)))) rfl) rfl)
theorem ok_spec_CmdCode : ConOk Try.prog 94 con_spec_CmdCode := (ok0_spec_CmdCode).mono (fun x r _ h => (nn_spec_CmdCode x.1 x.2.1).trans h)
theorem size_eq (a : Int × Int × Int × Int × List Int) : n_impl_sizeOk a = n_spec_l13Size a := by kernel_rfl
theorem impl_run_eq (a : Int × Int × Int × Int × List Int) : n_impl_runOf a = n_spec_l13Len a := by kernel_rfl
theorem code_eq (g : Int × Int) (a : Int × Int × Int × Int × List Int) : n_impl_CmdCode g a = n_spec_CmdCode g a := by
  unfold n_impl_CmdCode n_spec_CmdCode
  simp only [size_eq, geo_eq, impl_in_eq, impl_Blocks_eq, impl_run_eq, bne]
  cases (a.1 == 4) <;> rfl
theorem code0 {g : dG} {c : dC} (h : n_spec_CmdCode g c = 0) : n_spec_GeoOk g = true ∧ (1 ≤ c.1 ∧ c.1 ≤ 6) ∧ (1 ≤ c.2.1 ∧ c.2.1 ≤ 999) ∧ n_spec_l13Size c = true ∧ (c.1 = 4 ∨ (0 ≤ c.2.2.1 ∧ c.2.2.1 ≤ IntKind.i64.wrap (n_spec_Blocks g - n_spec_l13Len c))) := by
  unfold n_spec_CmdCode at h
  cases hg : n_spec_GeoOk g
  · rw [hg] at h; exact absurd (show (1 : Int) = 0 from h) (by decide)
  cases ho : n_spec_l1In c.1 1 6
  · simp only [hg, ho] at h; exact absurd (show (1 : Int) = 0 from h) (by decide)
  cases hi : n_spec_l1In c.2.1 1 999
  · simp only [hg, ho, hi] at h; exact absurd (show (1 : Int) = 0 from h) (by decide)
  cases hs : n_spec_l13Size c
  · simp only [hg, ho, hi, hs] at h; exact absurd (show (3 : Int) = 0 from h) (by decide)
  refine ⟨rfl, in_iff.1 ho, in_iff.1 hi, rfl, ?_⟩
  by_cases h4 : c.1 = 4
  · exact .inl h4
  · right
    cases hl : n_spec_l1In c.2.2.1 0 (IntKind.i64.wrap (n_spec_Blocks g - n_spec_l13Len c))
    · simp only [hg, ho, hi, hs, hl, show (c.1 == 4) = false from beq_eq_false_iff_ne.2 h4] at h; exact absurd (show (2 : Int) = 0 from h) (by decide)
    · exact in_iff.1 hl
theorem size_len {c : dC} (h : n_spec_l13Size c = true) (ho : 1 ≤ c.1 ∧ c.1 ≤ 6) (h4 : c.1 ≠ 4) : 1 ≤ n_spec_l13Len c ∧ n_spec_l13Len c ≤ 6 := by
  obtain ⟨op, id, lba, n, l⟩ := c
  simp only at ho h4
  have : op = 1 ∨ op = 2 ∨ op = 3 ∨ op = 5 ∨ op = 6 := by omega
  have h23 : ∀ b : Bool, (bif n_spec_l1In (l.length : Int) 1 6 then b else false) = true → 1 ≤ (l.length : Int) ∧ (l.length : Int) ≤ 6 := fun b hb => by
    cases hi : n_spec_l1In (l.length : Int) 1 6
    · rw [hi] at hb; cases hb
    · exact in_iff.1 hi
  rcases this with rfl | rfl | rfl | rfl | rfl
  · exact in_iff.1 (show n_spec_l1In n 1 6 = true from h)
  · exact h23 _ h
  · exact h23 _ h
  · exact ⟨by show (1 : Int) ≤ 1; omega, by show (1 : Int) ≤ 6; omega⟩
  · exact in_iff.1 (show n_spec_l1In n 1 6 = true from h)
/-- what a good command of each kind is -/
theorem good_cmd {g : dG} {op id lba n : Int} {v : List Int} (h : n_spec_CmdCode g (op, id, lba, n, v) = 0) :
    op = 4 ∨ (0 ≤ lba ∧ (((op = 1 ∨ op = 6) ∧ 1 ≤ n ∧ n ≤ 6 ∧ lba ≤ n_spec_Blocks g - n) ∨ ((op = 2 ∨ op = 3) ∧ 1 ≤ v.length ∧ v.length ≤ 6 ∧ lba ≤ n_spec_Blocks g - v.length) ∨ (op = 5 ∧ v.length = 2 ∧ lba ≤ n_spec_Blocks g - 1))) := by
  obtain ⟨hg, ho, _, hs, hl⟩ := code0 h
  by_cases h4 : op = 4
  · exact .inl h4
  · right
    have hz := size_len hs ho h4
    have hl := hl.resolve_left h4
    have hB := spec_Blocks_le g
    rw [wr (by omega) (by omega)] at hl
    refine ⟨hl.1, ?_⟩
    have hl2 : lba ≤ n_spec_Blocks g - n_spec_l13Len (op, id, lba, n, v) := hl.2
    clear hl
    simp only at ho
    have : op = 1 ∨ op = 2 ∨ op = 3 ∨ op = 5 ∨ op = 6 := by omega
    rcases this with rfl | rfl | rfl | rfl | rfl
    · exact .inl ⟨.inl rfl, hz.1, hz.2, hl2⟩
    · exact .inr (.inl ⟨.inl rfl, by have : (1 : Int) ≤ v.length := hz.1; omega, by have : (v.length : Int) ≤ 6 := hz.2; omega, hl2⟩)
    · exact .inr (.inl ⟨.inr rfl, by have : (1 : Int) ≤ v.length := hz.1; omega, by have : (v.length : Int) ≤ 6 := hz.2; omega, hl2⟩)
    · refine .inr (.inr ⟨rfl, ?_, hl2⟩)
      have : (bif (v.length : Int) == 2 then n_spec_l1Words v else false) = true := hs
      cases he : ((v.length : Int) == 2)
      · rw [he] at this; cases this
      · have := beq_iff_eq.1 he; omega
    · exact .inl ⟨.inr rfl, hz.1, hz.2, hl2⟩
/-- a list with a stretch written over -/
def patch (l : List Int) (lo : Nat) (m : List Int) : List Int := l.take lo ++ m ++ l.drop (lo + m.length)
theorem patch_len {l m : List Int} {lo : Nat} (h : lo + m.length ≤ l.length) : (patch l lo m).length = l.length := by
  unfold patch
  rw [List.length_append, List.length_append, List.length_take, List.length_drop]; omega
theorem patch_snoc {l : List Int} {lo : Nat} {m : List Int} {x : Int} (h : lo + m.length < l.length) : (patch l lo m).set (lo + m.length) x = patch l lo (m ++ [x]) := by
  unfold patch
  have h1 : (l.take lo ++ m).length = lo + m.length := by rw [List.length_append, List.length_take]; omega
  rw [List.set_append_right _ _ (by omega), h1, Nat.sub_self, List.drop_eq_getElem_cons h, List.set_cons_zero, List.length_append, List.length_singleton]
  simp [Nat.add_assoc]
/-- what a command does -/
noncomputable def pDo (g : dG) (l : List Int) (c : dC) : List Int × dN :=
  bif (l.length : Int) != n_spec_Blocks g then (l, (c.2.1, 1, []))
  else bif n_spec_CmdCode g c != 0 then (l, (c.2.1, n_spec_CmdCode g c, []))
  else bif c.1 == 1 then (l, (c.2.1, 0, (l.drop c.2.2.1.toNat).take c.2.2.2.1.toNat))
  else bif c.1 == 6 then (patch l c.2.2.1.toNat (List.replicate c.2.2.2.1.toNat 0), (c.2.1, 0, []))
  else bif c.1 == 5 then (bif nth l c.2.2.1 0 == nth c.2.2.2.2 0 0 then (l.set c.2.2.1.toNat (nth c.2.2.2.2 1 0), (c.2.1, 0, [])) else (l, (c.2.1, 4, [])))
  else bif c.1 == 4 then (l, (c.2.1, 0, [])) else (patch l c.2.2.1.toNat c.2.2.2.2, (c.2.1, 0, []))
theorem pDo_len (g : dG) (l : List Int) (c : dC) : (pDo g l c).1.length = l.length := by
  unfold pDo
  by_cases h1 : (l.length : Int) = n_spec_Blocks g
  · by_cases h2 : n_spec_CmdCode g c = 0
    · rw [show ((l.length : Int) != n_spec_Blocks g) = false by simp [h1], show (n_spec_CmdCode g c != 0) = false by simp [h2]]
      obtain ⟨op, id, lba, n, v⟩ := c
      rcases good_cmd h2 with rfl | ⟨p, ⟨rfl | rfl, q1, q2, q3⟩ | ⟨rfl | rfl, q1, q2, q3⟩ | ⟨rfl, q1, q3⟩⟩
      · rfl
      · rfl
      · exact patch_len (by rw [List.length_replicate]; show lba.toNat + n.toNat ≤ _; omega)
      · exact patch_len (by show lba.toNat + v.length ≤ _; omega)
      · exact patch_len (by show lba.toNat + v.length ≤ _; omega)
      · show (bif nth l lba 0 == nth v 0 0 then (l.set lba.toNat (nth v 1 0), ((id, 0, []) : dN)) else (l, (id, 4, []))).1.length = l.length
        cases (nth l lba 0 == nth v 0 0)
        · rfl
        · exact List.length_set
    · rw [show ((l.length : Int) != n_spec_Blocks g) = false by simp [h1], show (n_spec_CmdCode g c != 0) = true from bne_iff_ne.2 h2]
      rfl
  · rw [show ((l.length : Int) != n_spec_Blocks g) = true from bne_iff_ne.2 h1]
    rfl
theorem pDo_vals (g : dG) (l : List Int) (c : dC) : (pDo g l c).2.2.2.length ≤ l.length := by
  unfold pDo
  cases ((l.length : Int) != n_spec_Blocks g)
  · cases (n_spec_CmdCode g c != 0)
    · cases (c.1 == 1)
      · cases (c.1 == 6)
        · cases (c.1 == 5)
          · cases (c.1 == 4) <;> exact Nat.zero_le _
          · cases (nth l c.2.2.1 0 == nth c.2.2.2.2 0 0) <;> exact Nat.zero_le _
        · exact Nat.zero_le _
      · show ((l.drop c.2.2.1.toNat).take c.2.2.2.1.toNat).length ≤ _
        rw [List.length_take, List.length_drop]; omega
    · exact Nat.zero_le _
  · exact Nat.zero_le _
noncomputable def doOne (g : dG) (s : List Int × List dN) (c : dC) : List Int × List dN := ((pDo g s.1 c).1, s.2 ++ [(pDo g s.1 c).2])
noncomputable def doAll (g : dG) (l : List Int) (cs : List dC) : List Int × List dN := (cs.take 400).foldl (doOne g) (l, [])
theorem doFold (g : dG) (cs : List dC) : ∀ (s : List Int × List dN), ((cs.foldl (doOne g) s).1.length = s.1.length) ∧ (cs.foldl (doOne g) s).2.length = s.2.length + cs.length ∧ ((∀ a ∈ s.2, a.2.2.length ≤ s.1.length) → ∀ a ∈ (cs.foldl (doOne g) s).2, a.2.2.length ≤ s.1.length) := by
  induction cs with
  | nil => intro s; exact ⟨rfl, by simp, fun h => h⟩
  | cons c cs ih =>
    intro s
    obtain ⟨h1, h2, h3⟩ := ih (doOne g s c)
    have hl : (doOne g s c).1.length = s.1.length := pDo_len g s.1 c
    rw [hl] at h1 h3
    refine ⟨h1, by rw [List.foldl_cons, h2]; show (s.2 ++ [(pDo g s.1 c).2]).length + cs.length = _; rw [List.length_append]; simp only [List.length_cons, List.length_nil]; omega, fun h => h3 fun a ha => ?_⟩
    rcases List.mem_append.1 (show a ∈ s.2 ++ [(pDo g s.1 c).2] from ha) with ha | ha
    · exact h a ha
    · rw [List.mem_singleton.1 ha]; exact pDo_vals g s.1 c
end

/-! spec_SpanOf -/
section
noncomputable def B_spec_SpanOf : Code := (Try.f54.body).getD .skip
noncomputable def E_spec_SpanOf : Env := envOf TT [(89, con_spec_Blocks), (94, con_spec_CmdCode), (95, con_spec_l13Len)] []
theorem fr_spec_SpanOf_0 : FrOk Try.prog ⟨E_spec_SpanOf, 22, fun _ => none⟩ B_spec_SpanOf := frOk_base mixed tt_ok ⟨ok_spec_Blocks, ok_spec_CmdCode, ok_spec_l13Len, trivial⟩
noncomputable def D_spec_SpanOf_0 : Nat → Option Seg := fun _ => none
abbrev I_spec_SpanOf : List Par := [.rd tG, .rd tC]
abbrev U_spec_SpanOf : List OT := [⟨false, tI, .fz⟩, ⟨false, tI, .fz⟩]
noncomputable def raw_spec_SpanOf (a0 : dG) (a1 : dC) : Option (ResD U_spec_SpanOf × MutD I_spec_SpanOf) :=
  let r1 := n_spec_CmdCode a0 a1
  bif (r1 != 0) then
    some ((0, 0, ()), ())
  else
    bif (a1.1 == 4) then
      let r2 := n_spec_Blocks a0
      some ((0, r2, ()), ())
    else
      let r3 := n_spec_l13Len a1
      some ((a1.2.2.1, (IntKind.i64.wrap (a1.2.2.1 + r3)), ()), ())
theorem e_spec_SpanOf (x : InD I_spec_SpanOf) : execF ⟨E_spec_SpanOf, 22, D_spec_SpanOf_0⟩ Try.f54.results.toList B_spec_SpanOf I_spec_SpanOf U_spec_SpanOf x = raw_spec_SpanOf x.1 x.2.1 := by kernel_rfl
theorem ok0_spec_SpanOf : ConOk Try.prog 54 ⟨I_spec_SpanOf, U_spec_SpanOf, fun x => raw_spec_SpanOf x.1 x.2.1⟩ := conOk_exec (fr_spec_SpanOf_0) Try.func54 (by kernel_rfl) (by kernel_rfl) Try.ntmps54.symm (by decide) (fun x r h => (e_spec_SpanOf x).trans h)
noncomputable def n_spec_SpanOf (a0 : dG) (a1 : dC) : Int × Int :=
  let r1 := n_spec_CmdCode a0 a1
  bif (r1 != 0) then
    (0, 0)
  else
    bif (a1.1 == 4) then
      let r2 := n_spec_Blocks a0
      (0, r2)
    else
      let r3 := n_spec_l13Len a1
      (a1.2.2.1, (IntKind.i64.wrap (a1.2.2.1 + r3)))
noncomputable def con_spec_SpanOf : Con := ⟨I_spec_SpanOf, U_spec_SpanOf, fun x => (fun n => some ((n.1, n.2, ()), ())) (n_spec_SpanOf x.1 x.2.1)⟩
theorem nn_spec_SpanOf (a0 : dG) (a1 : dC) : raw_spec_SpanOf a0 a1 = (fun n => some ((n.1, n.2, ()), ())) (n_spec_SpanOf a0 a1) := bif_ty (p := fun (n : Int × Int) => ((n.1, n.2, ()), ())) (bif_some (p := fun (n : Int × Int) => ((n.1, n.2, ()), ())) rfl (bif_some (p := fun (n : Int × Int) => ((n.1, n.2, ()), ())) rfl rfl))
theorem ok_spec_SpanOf : ConOk Try.prog 54 con_spec_SpanOf := (ok0_spec_SpanOf).mono (fun x r _ h => (nn_spec_SpanOf x.1 x.2.1).trans h)
theorem span_eq (g : dG) (a : dC) : n_impl_SpanOf g a = n_spec_SpanOf g a := by
  unfold n_impl_SpanOf n_spec_SpanOf
  simp only [code_eq, impl_Blocks_eq, impl_run_eq]
theorem span_cases (g : dG) (c : dC) : ((n_spec_SpanOf g c).1 = 0 ∧ (n_spec_SpanOf g c).2 = 0) ∨ (n_spec_CmdCode g c = 0 ∧ 0 ≤ (n_spec_SpanOf g c).1 ∧ (n_spec_SpanOf g c).1 < (n_spec_SpanOf g c).2 ∧ (n_spec_SpanOf g c).2 ≤ n_spec_Blocks g) := by
  unfold n_spec_SpanOf
  by_cases h : n_spec_CmdCode g c = 0
  · right
    obtain ⟨hg, ho, hi, hs, hl⟩ := code0 h
    have hB : 2 ≤ n_spec_Blocks g := by
      rw [spec_Blocks_eq hg]
      obtain ⟨⟨h1, h2⟩, h3, h4⟩ := geo_iff.1 hg
      have : 1 * 2 ≤ g.2 * (g.1 - 1) := Int.mul_le_mul h3 (by omega) (by omega) (by omega)
      omega
    have hB2 := (spec_Blocks_le g).2
    rw [h]
    by_cases h4 : c.1 = 4
    · rw [h4]
      exact ⟨rfl, by show (0 : Int) ≤ 0; omega, by show (0 : Int) < n_spec_Blocks g; omega, by show n_spec_Blocks g ≤ _; omega⟩
    · rw [show (c.1 == 4) = false from beq_eq_false_iff_ne.2 h4]
      have hz := size_len hs ho h4
      have hl := hl.resolve_left h4
      rw [wr (show -9223372036854775808 ≤ n_spec_Blocks g - n_spec_l13Len c by omega) (by omega)] at hl
      refine ⟨rfl, hl.1, ?_, ?_⟩
      · show c.2.2.1 < IntKind.i64.wrap (c.2.2.1 + n_spec_l13Len c); rw [wr (by omega) (by omega)]; omega
      · show IntKind.i64.wrap (c.2.2.1 + n_spec_l13Len c) ≤ _; rw [wr (by omega) (by omega)]; omega
  · left
    simp only [show (n_spec_CmdCode g c != 0) = true from bne_iff_ne.2 h, cond_true, and_self]
theorem span_good {g : dG} {op id lba n : Int} {v : List Int} (h : n_spec_CmdCode g (op, id, lba, n, v) = 0) (h4 : op ≠ 4) : n_impl_SpanOf g (op, id, lba, n, v) = (lba, lba + n_spec_l13Len (op, id, lba, n, v)) := by
  rw [span_eq]
  unfold n_spec_SpanOf
  have hB := spec_Blocks_le g
  obtain ⟨hg, ho, _, hs, hl⟩ := code0 h
  have hz := size_len hs ho h4
  have hl : 0 ≤ lba ∧ lba ≤ IntKind.i64.wrap (n_spec_Blocks g - n_spec_l13Len (op, id, lba, n, v)) := hl.resolve_left h4
  rw [wr (by omega) (by omega)] at hl
  simp only [h, bne_self_eq_false, cond_false, show (op == 4) = false from beq_eq_false_iff_ne.2 h4, wr (show -9223372036854775808 ≤ lba + n_spec_l13Len (op, id, lba, n, v) by omega) (by omega)]
end

/-! impl_DoCmd -/
section
noncomputable def B_impl_DoCmd : Code := (Try.f50.body).getD .skip
noncomputable def E_impl_DoCmd : Env := envOf TT [(49, con_impl_copyInts), (53, con_impl_SpanOf), (55, con_impl_Blocks), (92, con_impl_CmdCode)] []
theorem fr_impl_DoCmd_0 : FrOk Try.prog ⟨E_impl_DoCmd, 84, fun _ => none⟩ B_impl_DoCmd := frOk_base mixed tt_ok ⟨ok_impl_copyInts, ok_impl_SpanOf, ok_impl_Blocks, ok_impl_CmdCode, trivial⟩
noncomputable def D_impl_DoCmd_0 : Nat → Option Seg := fun _ => none
abbrev I_impl_DoCmd : List Par := [.rd tG, .rd tL, .rd tC]
abbrev U_impl_DoCmd : List OT := [⟨false, tL, (.ow .fz)⟩, ⟨false, tN, (.pr .fz (.pr .fz (.ow .fz)))⟩]
noncomputable def raw_impl_DoCmd (a0 : dG) (a1 : List Int) (a2 : dC) : Option (ResD U_impl_DoCmd × MutD I_impl_DoCmd) :=
  let r1 := n_impl_copyInts a1
  let r2 := n_impl_CmdCode a0 a2
  let r3 := n_impl_Blocks a0
  bif ((a1.length : Int) != r3) then
    some ((r1, (a2.2.1, 1, []), ()), ())
  else
    bif (r2 != 0) then
      some ((r1, (a2.2.1, r2, []), ()), ())
    else
      let r4 := n_impl_SpanOf a0 a2
      bif (a2.1 == 1) then
        bif (cutok r4.1 r4.2 a1.length) then
          let r5 := n_impl_copyInts ((a1.drop (r4.1).toNat).take (r4.2 - r4.1).toNat)
          some ((r1, (a2.2.1, r2, r5), ()), ())
        else none
      else
        bif (a2.1 == 2) then
          bif (a2.1 == 2) then
            bif (cutok r4.1 r4.2 r1.length) then
              some (((r1.take (r4.1).toNat ++ (a2.2.2.2.2.take (r4.2 - r4.1).toNat) ++ r1.drop ((r4.1).toNat + (a2.2.2.2.2.take (r4.2 - r4.1).toNat).length)), (a2.2.1, r2, []), ()), ())
            else none
          else
            bif (a2.1 == 6) then
              bif (cutok r4.1 r4.2 r1.length) then
                some (((r1.take (r4.1).toNat ++ (List.replicate (r4.2 - r4.1).toNat (0 : Int)) ++ r1.drop ((r4.1).toNat + (List.replicate (r4.2 - r4.1).toNat (0 : Int)).length)), (a2.2.1, r2, []), ()), ())
              else none
            else
              bif (a2.1 == 5) then
                bif (inb r4.1 a1.length) then
                  bif (inb 0 a2.2.2.2.2.length) then
                    bif ((nth a1 r4.1 0) == (nth a2.2.2.2.2 0 0)) then
                      bif (inb 1 a2.2.2.2.2.length) then
                        bif (inb r4.1 r1.length) then
                          some (((r1.set (r4.1).toNat (nth a2.2.2.2.2 1 0)), (a2.2.1, r2, []), ()), ())
                        else none
                      else none
                    else
                      some ((r1, (a2.2.1, 4, []), ()), ())
                  else none
                else none
              else
                some ((r1, (a2.2.1, r2, []), ()), ())
        else
          bif (a2.1 == 3) then
            bif (cutok r4.1 r4.2 r1.length) then
              some (((r1.take (r4.1).toNat ++ (a2.2.2.2.2.take (r4.2 - r4.1).toNat) ++ r1.drop ((r4.1).toNat + (a2.2.2.2.2.take (r4.2 - r4.1).toNat).length)), (a2.2.1, r2, []), ()), ())
            else none
          else
            bif (a2.1 == 6) then
              bif (cutok r4.1 r4.2 r1.length) then
                some (((r1.take (r4.1).toNat ++ (List.replicate (r4.2 - r4.1).toNat (0 : Int)) ++ r1.drop ((r4.1).toNat + (List.replicate (r4.2 - r4.1).toNat (0 : Int)).length)), (a2.2.1, r2, []), ()), ())
              else none
            else
              bif (a2.1 == 5) then
                bif (inb r4.1 a1.length) then
                  bif (inb 0 a2.2.2.2.2.length) then
                    bif ((nth a1 r4.1 0) == (nth a2.2.2.2.2 0 0)) then
                      bif (inb 1 a2.2.2.2.2.length) then
                        bif (inb r4.1 r1.length) then
                          some (((r1.set (r4.1).toNat (nth a2.2.2.2.2 1 0)), (a2.2.1, r2, []), ()), ())
                        else none
                      else none
                    else
                      some ((r1, (a2.2.1, 4, []), ()), ())
                  else none
                else none
              else
                some ((r1, (a2.2.1, r2, []), ()), ())
theorem e_impl_DoCmd (x : InD I_impl_DoCmd) : execF ⟨E_impl_DoCmd, 84, D_impl_DoCmd_0⟩ Try.f50.results.toList B_impl_DoCmd I_impl_DoCmd U_impl_DoCmd x = raw_impl_DoCmd x.1 x.2.1 x.2.2.1 := by kernel_rfl
theorem ok0_impl_DoCmd : ConOk Try.prog 50 ⟨I_impl_DoCmd, U_impl_DoCmd, fun x => raw_impl_DoCmd x.1 x.2.1 x.2.2.1⟩ := conOk_exec (fr_impl_DoCmd_0) Try.func50 (by kernel_rfl) (by kernel_rfl) Try.ntmps50.symm (by decide) (fun x r h => (e_impl_DoCmd x).trans h)
noncomputable def n_impl_DoCmd (a0 : dG) (a1 : List Int) (a2 : dC) : List Int × dN := pDo a0 a1 a2
theorem nn_impl_DoCmd (a0 : dG) (a1 : List Int) (a2 : dC) (hk : InOk I_impl_DoCmd (a0, a1, a2, ())) : raw_impl_DoCmd a0 a1 a2 = (fun n => some ((n.1, n.2, ()), ())) (n_impl_DoCmd a0 a1 a2) := by
  have hB := spec_Blocks_le a0
  unfold raw_impl_DoCmd n_impl_DoCmd pDo
  simp only [code_eq, impl_Blocks_eq, n_impl_copyInts]
  by_cases h1 : (a1.length : Int) = n_spec_Blocks a0
  · by_cases h2 : n_spec_CmdCode a0 a2 = 0
    · rw [show ((a1.length : Int) != n_spec_Blocks a0) = false by simp [h1], show (n_spec_CmdCode a0 a2 != 0) = false by simp [h2]]
      obtain ⟨op, id, lba, n, v⟩ := a2
      simp only [cond_false, h2]
      rcases good_cmd h2 with rfl | ⟨p, ⟨rfl | rfl, q1, q2, q3⟩ | ⟨rfl | rfl, q1, q2, q3⟩ | ⟨rfl, q1, q3⟩⟩
      · rfl
      · rw [span_good h2 (by decide)]
        show (bif cutok lba (lba + n) a1.length then some ((a1, (id, 0, (a1.drop lba.toNat).take (lba + n - lba).toNat), ()), ()) else none) = _
        rw [cutok_iff.2 (show 0 ≤ lba ∧ lba ≤ lba + n ∧ lba + n ≤ a1.length by omega), show (lba + n - lba).toNat = n.toNat by omega]
        rfl
      · rw [span_good h2 (by decide)]
        show (bif cutok lba (lba + n) a1.length then some ((patch a1 lba.toNat (List.replicate (lba + n - lba).toNat 0), (id, 0, []), ()), ()) else none) = _
        rw [cutok_iff.2 (show 0 ≤ lba ∧ lba ≤ lba + n ∧ lba + n ≤ a1.length by omega), show (lba + n - lba).toNat = n.toNat by omega]
        rfl
      · rw [span_good h2 (by decide)]
        show (bif cutok lba (lba + v.length) a1.length then some ((patch a1 lba.toNat (v.take (lba + v.length - lba).toNat), (id, 0, []), ()), ()) else none) = _
        rw [cutok_iff.2 (show 0 ≤ lba ∧ lba ≤ lba + v.length ∧ lba + v.length ≤ a1.length by omega), show (lba + (v.length : Int) - lba).toNat = v.length by omega, List.take_length]
        rfl
      · rw [span_good h2 (by decide)]
        show (bif cutok lba (lba + v.length) a1.length then some ((patch a1 lba.toNat (v.take (lba + v.length - lba).toNat), (id, 0, []), ()), ()) else none) = _
        rw [cutok_iff.2 (show 0 ≤ lba ∧ lba ≤ lba + v.length ∧ lba + v.length ≤ a1.length by omega), show (lba + (v.length : Int) - lba).toNat = v.length by omega, List.take_length]
        rfl
      · rw [span_good h2 (by decide)]
        show (bif inb lba a1.length then bif inb 0 v.length then bif nth a1 lba 0 == nth v 0 0 then bif inb 1 v.length then bif inb lba a1.length then some ((a1.set lba.toNat (nth v 1 0), (id, 0, []), ()), ()) else none else none else some ((a1, (id, 4, []), ()), ()) else none else none) = _
        rw [inb_iff.2 (show 0 ≤ lba ∧ lba < a1.length by omega), inb_iff.2 (show (0 : Int) ≤ 0 ∧ (0 : Int) < v.length by omega), inb_iff.2 (show (0 : Int) ≤ 1 ∧ (1 : Int) < v.length by omega)]
        cases (nth a1 lba 0 == nth v 0 0) <;> rfl
    · rw [show ((a1.length : Int) != n_spec_Blocks a0) = false by simp [h1], show (n_spec_CmdCode a0 a2 != 0) = true from bne_iff_ne.2 h2]
      rfl
  · rw [show ((a1.length : Int) != n_spec_Blocks a0) = true from bne_iff_ne.2 h1]
    rfl
noncomputable def con_impl_DoCmd : Con := ⟨I_impl_DoCmd, U_impl_DoCmd, fun x => (fun n => some ((n.1, n.2, ()), ())) (n_impl_DoCmd x.1 x.2.1 x.2.2.1)⟩
theorem ok_impl_DoCmd : ConOk Try.prog 50 con_impl_DoCmd := (ok0_impl_DoCmd).mono (fun x r hk h => (nn_impl_DoCmd x.1 x.2.1 x.2.2.1 hk).trans h)
end
end Go.Tf
