/- Functions of the program, and what they come to. -/
import Derived.Test.YtgmadfpnljibhaaModelsF3
namespace Go.Tf
open Go.Proofs
set_option synthInstance.maxHeartbeats 400000
set_option synthInstance.maxSize 10000
set_option linter.unusedVariables false
set_option linter.unusedSimpArgs false
set_option maxRecDepth 100000
/-! impl_isWord -/
section
noncomputable def B_impl_isWord : Code := (Try.f160.body).getD .skip
noncomputable def E_impl_isWord : Env := envOf TT [(39, con_impl_within)] []
theorem fr_impl_isWord_0 : FrOk Try.prog ⟨E_impl_isWord, 5, fun _ => none⟩ B_impl_isWord := frOk_base mixed tt_ok ⟨ok_impl_within, trivial⟩
noncomputable def D_impl_isWord_0 : Nat → Option Seg := fun _ => none
abbrev I_impl_isWord : List Par := [.rd tI]
abbrev U_impl_isWord : List OT := [⟨false, tB, .fz⟩]
noncomputable def raw_impl_isWord (a0 : Int) : Option (ResD U_impl_isWord × MutD I_impl_isWord) :=
  let r1 := n_impl_within a0 0 65535
  some ((r1, ()), ())
theorem e_impl_isWord (x : InD I_impl_isWord) : execF ⟨E_impl_isWord, 5, D_impl_isWord_0⟩ Try.f160.results.toList B_impl_isWord I_impl_isWord U_impl_isWord x = raw_impl_isWord x.1 := by kernel_rfl
theorem ok0_impl_isWord : ConOk Try.prog 160 ⟨I_impl_isWord, U_impl_isWord, fun x => raw_impl_isWord x.1⟩ := conOk_exec (fr_impl_isWord_0) Try.func160 (by kernel_rfl) (by kernel_rfl) Try.ntmps160.symm (by decide) (fun x r h => (e_impl_isWord x).trans h)
noncomputable def n_impl_isWord (a0 : Int) : Bool :=
  let r1 := n_impl_within a0 0 65535
  r1
noncomputable def con_impl_isWord : Con := ⟨I_impl_isWord, U_impl_isWord, fun x => (fun n => some ((n, ()), ())) (n_impl_isWord x.1)⟩
theorem nn_impl_isWord (a0 : Int) : raw_impl_isWord a0 = (fun n => some ((n, ()), ())) (n_impl_isWord a0) := bif_ty (p := fun (n : Bool) => ((n, ()), ())) rfl
theorem ok_impl_isWord : ConOk Try.prog 160 con_impl_isWord := (ok0_impl_isWord).mono (fun x r _ h => (nn_impl_isWord x.1).trans h)
end

/-! impl_wordsOk -/
section
noncomputable def B_impl_wordsOk : Code := (Try.f129.body).getD .skip
noncomputable def E_impl_wordsOk : Env := envOf TT [(160, con_impl_isWord)] []
theorem fr_impl_wordsOk_0 : FrOk Try.prog ⟨E_impl_wordsOk, 15, fun _ => none⟩ B_impl_wordsOk := frOk_base mixed tt_ok ⟨ok_impl_isWord, trivial⟩
noncomputable def D_impl_wordsOk_0 : Nat → Option Seg := fun _ => none
def L_impl_wordsOk_13 : Shape := ⟨[(5, false, [.br tI]), (6, false, [.int .i64]), (7, false, [.int .i64])], [], []⟩
def S_impl_wordsOk_13 : Shape := ⟨[(5, false, [.br tI]), (6, false, [.int .i64]), (7, false, [.ci .i64 0])], [], []⟩
def O_impl_wordsOk_13 : Shape := ⟨[], [], []⟩
def Z_impl_wordsOk_13 : Shape := ⟨[(2, false, [.bool])], [], []⟩
noncomputable def st_impl_wordsOk_13 (v0 : List Int) (v1 v2 : Int) : Option ((L_impl_wordsOk_13).X ⊕ ((O_impl_wordsOk_13).X ⊕ (Z_impl_wordsOk_13).X)) :=
  bif (ltb v2 v1) then
    bif (inb v2 v0.length) then
      let r2 := n_impl_isWord (nth v0 v2 0)
      bif (!r2) then
        some (.inr (.inr (((false, ()), ()), (), ())))
      else
        some (.inl (((v0, ()), (v1, ()), ((IntKind.i64.wrap (v2 + 1)), ()), ()), (), ()))
    else none
  else
    some (.inr (.inl ((), (), ())))
noncomputable def stx_impl_wordsOk_13 (x : (L_impl_wordsOk_13).X) := st_impl_wordsOk_13 x.1.1.1 x.1.2.1.1 x.1.2.2.1.1
def em_impl_wordsOk_13 (x : (S_impl_wordsOk_13).X) : (L_impl_wordsOk_13).X := (((x.1.1.1, ()), (x.1.2.1.1, ()), (0, ()), ()), (), ())
noncomputable def c_impl_wordsOk_13 : Code := (subN B_impl_wordsOk 64 52).getD .skip
theorem a_impl_wordsOk_13 : subN B_impl_wordsOk 64 13 = some (.block 0 (.loop c_impl_wordsOk_13)) := by kernel_rfl
theorem r_impl_wordsOk_13 (x : (L_impl_wordsOk_13).X) : roundT ⟨E_impl_wordsOk, 15, D_impl_wordsOk_0⟩ 0 c_impl_wordsOk_13 52 L_impl_wordsOk_13 O_impl_wordsOk_13 Z_impl_wordsOk_13 x = stx_impl_wordsOk_13 x := by kernel_rfl
def fu_impl_wordsOk_13 (x : (S_impl_wordsOk_13).X) : Nat := 18446744073709551616
noncomputable def F_impl_wordsOk_13 (x : (S_impl_wordsOk_13).X) : Option ((O_impl_wordsOk_13).X ⊕ (Z_impl_wordsOk_13).X) := loopN stx_impl_wordsOk_13 (fu_impl_wordsOk_13 x) (em_impl_wordsOk_13 x)
noncomputable def sg_impl_wordsOk_13 : Seg := ⟨S_impl_wordsOk_13, O_impl_wordsOk_13, Z_impl_wordsOk_13, F_impl_wordsOk_13⟩
noncomputable def D_impl_wordsOk_1 : Nat → Option Seg := fun q => bif Nat.beq q 13 then some sg_impl_wordsOk_13 else D_impl_wordsOk_0 q
theorem fr_impl_wordsOk_1 : FrOk Try.prog ⟨E_impl_wordsOk, 15, D_impl_wordsOk_1⟩ B_impl_wordsOk := (fr_impl_wordsOk_0).loop (sg := sg_impl_wordsOk_13) L_impl_wordsOk_13 em_impl_wordsOk_13 (by decide) a_impl_wordsOk_13 stx_impl_wordsOk_13 fu_impl_wordsOk_13 (by decide) (fun _ => rfl) (fun x r _ h => h) r_impl_wordsOk_13
abbrev I_impl_wordsOk : List Par := [.rd tL]
abbrev U_impl_wordsOk : List OT := [⟨false, tB, .fz⟩]
noncomputable def raw_impl_wordsOk (a0 : List Int) : Option (ResD U_impl_wordsOk × MutD I_impl_wordsOk) :=
  segM (F_impl_wordsOk_13 (((a0, ()), ((a0.length : Int), ()), ((), ()), ()), (), ())) (fun y2 =>
    some ((true, ()), ())) (fun y2 =>
    some ((y2.1.1.1, ()), ()))
theorem e_impl_wordsOk (x : InD I_impl_wordsOk) : execF ⟨E_impl_wordsOk, 15, D_impl_wordsOk_1⟩ Try.f129.results.toList B_impl_wordsOk I_impl_wordsOk U_impl_wordsOk x = raw_impl_wordsOk x.1 := by kernel_rfl
theorem ok0_impl_wordsOk : ConOk Try.prog 129 ⟨I_impl_wordsOk, U_impl_wordsOk, fun x => raw_impl_wordsOk x.1⟩ := conOk_exec (fr_impl_wordsOk_1) Try.func129 (by kernel_rfl) (by kernel_rfl) Try.ntmps129.symm (by decide) (fun x r h => (e_impl_wordsOk x).trans h)
noncomputable def n_impl_wordsOk (a0 : List Int) : Bool := a0.all n_impl_isWord
theorem nn_impl_wordsOk (a0 : List Int) (hk : InOk I_impl_wordsOk (a0, ())) : raw_impl_wordsOk a0 = (fun n => some ((n, ()), ())) (n_impl_wordsOk a0) := by
  have hb : a0.length * 8 ≤ 2 ^ 47 := hk.1.1
  have hl : F_impl_wordsOk_13 (((a0, ()), ((a0.length : Int), ()), ((), ()), ()), (), ()) = some (bif a0.all n_impl_isWord then .inl ((), (), ()) else .inr (((false, ()), ()), (), ())) :=
    loopN_list_all (step := stx_impl_wordsOk_13) a0 0 (fun i => (((a0, ()), ((a0.length : Int), ()), ((i : Int), ()), ()), (), ())) n_impl_isWord _ _ (fun i hi => by
      simp only [stx_impl_wordsOk_13, st_impl_wordsOk_13, inb_nat hi, nth_nat, ltb_t (show (i : Int) < a0.length by omega), cond_true, wr (show -9223372036854775808 ≤ (i : Int) + 1 by omega) (by omega), Int.natCast_add, Int.natCast_one]
      cases n_impl_isWord (a0.getD i 0) <;> rfl) (by simp only [stx_impl_wordsOk_13, st_impl_wordsOk_13, ltb_f (Int.le_refl _), cond_false]) _ (by show _ < 18446744073709551616; omega)
  unfold raw_impl_wordsOk n_impl_wordsOk
  rw [hl]
  cases a0.all n_impl_isWord <;> rfl
noncomputable def con_impl_wordsOk : Con := ⟨I_impl_wordsOk, U_impl_wordsOk, fun x => (fun n => some ((n, ()), ())) (n_impl_wordsOk x.1)⟩
theorem ok_impl_wordsOk : ConOk Try.prog 129 con_impl_wordsOk := (ok0_impl_wordsOk).mono (fun x r hk h => (nn_impl_wordsOk x.1 hk).trans h)
end

/-! impl_sizeOk -/
section
noncomputable def B_impl_sizeOk : Code := (Try.f131.body).getD .skip
noncomputable def E_impl_sizeOk : Env := envOf TT [(39, con_impl_within), (129, con_impl_wordsOk)] []
theorem fr_impl_sizeOk_0 : FrOk Try.prog ⟨E_impl_sizeOk, 34, fun _ => none⟩ B_impl_sizeOk := frOk_base mixed tt_ok ⟨ok_impl_within, ok_impl_wordsOk, trivial⟩
noncomputable def D_impl_sizeOk_0 : Nat → Option Seg := fun _ => none
abbrev I_impl_sizeOk : List Par := [.rd tC]
abbrev U_impl_sizeOk : List OT := [⟨false, tB, .fz⟩]
noncomputable def raw_impl_sizeOk (a0 : dC) : Option (ResD U_impl_sizeOk × MutD I_impl_sizeOk) :=
  bif (a0.1 == 1) then
    bif (a0.1 == 1) then
      let r1 := n_impl_within a0.2.2.2.1 1 6
      some ((r1, ()), ())
    else
      bif (a0.1 == 2) then
        bif (a0.1 == 2) then
          let r2 := n_impl_within (a0.2.2.2.2.length : Int) 1 6
          bif r2 then
            let r3 := n_impl_wordsOk a0.2.2.2.2
            some ((r3, ()), ())
          else
            some ((false, ()), ())
        else
          bif (a0.1 == 5) then
            bif ((a0.2.2.2.2.length : Int) == 2) then
              let r4 := n_impl_wordsOk a0.2.2.2.2
              some ((r4, ()), ())
            else
              some ((false, ()), ())
          else
            some ((true, ()), ())
      else
        bif (a0.1 == 3) then
          let r5 := n_impl_within (a0.2.2.2.2.length : Int) 1 6
          bif r5 then
            let r6 := n_impl_wordsOk a0.2.2.2.2
            some ((r6, ()), ())
          else
            some ((false, ()), ())
        else
          bif (a0.1 == 5) then
            bif ((a0.2.2.2.2.length : Int) == 2) then
              let r7 := n_impl_wordsOk a0.2.2.2.2
              some ((r7, ()), ())
            else
              some ((false, ()), ())
          else
            some ((true, ()), ())
  else
    bif (a0.1 == 6) then
      let r8 := n_impl_within a0.2.2.2.1 1 6
      some ((r8, ()), ())
    else
      bif (a0.1 == 2) then
        bif (a0.1 == 2) then
          let r9 := n_impl_within (a0.2.2.2.2.length : Int) 1 6
          bif r9 then
            let r10 := n_impl_wordsOk a0.2.2.2.2
            some ((r10, ()), ())
          else
            some ((false, ()), ())
        else
          bif (a0.1 == 5) then
            bif ((a0.2.2.2.2.length : Int) == 2) then
              let r11 := n_impl_wordsOk a0.2.2.2.2
              some ((r11, ()), ())
            else
              some ((false, ()), ())
          else
            some ((true, ()), ())
      else
        bif (a0.1 == 3) then
          let r12 := n_impl_within (a0.2.2.2.2.length : Int) 1 6
          bif r12 then
            let r13 := n_impl_wordsOk a0.2.2.2.2
            some ((r13, ()), ())
          else
            some ((false, ()), ())
        else
          bif (a0.1 == 5) then
            bif ((a0.2.2.2.2.length : Int) == 2) then
              let r14 := n_impl_wordsOk a0.2.2.2.2
              some ((r14, ()), ())
            else
              some ((false, ()), ())
          else
            some ((true, ()), ())
theorem e_impl_sizeOk (x : InD I_impl_sizeOk) : execF ⟨E_impl_sizeOk, 34, D_impl_sizeOk_0⟩ Try.f131.results.toList B_impl_sizeOk I_impl_sizeOk U_impl_sizeOk x = raw_impl_sizeOk x.1 := by kernel_rfl
theorem ok0_impl_sizeOk : ConOk Try.prog 131 ⟨I_impl_sizeOk, U_impl_sizeOk, fun x => raw_impl_sizeOk x.1⟩ := conOk_exec (fr_impl_sizeOk_0) Try.func131 (by kernel_rfl) (by kernel_rfl) Try.ntmps131.symm (by decide) (fun x r h => (e_impl_sizeOk x).trans h)
noncomputable def n_impl_sizeOk (a0 : dC) : Bool :=
  bif (a0.1 == 1) then
    bif (a0.1 == 1) then
      let r1 := n_impl_within a0.2.2.2.1 1 6
      r1
    else
      bif (a0.1 == 2) then
        bif (a0.1 == 2) then
          let r2 := n_impl_within (a0.2.2.2.2.length : Int) 1 6
          bif r2 then
            let r3 := n_impl_wordsOk a0.2.2.2.2
            r3
          else
            false
        else
          bif (a0.1 == 5) then
            bif ((a0.2.2.2.2.length : Int) == 2) then
              let r4 := n_impl_wordsOk a0.2.2.2.2
              r4
            else
              false
          else
            true
      else
        bif (a0.1 == 3) then
          let r5 := n_impl_within (a0.2.2.2.2.length : Int) 1 6
          bif r5 then
            let r6 := n_impl_wordsOk a0.2.2.2.2
            r6
          else
            false
        else
          bif (a0.1 == 5) then
            bif ((a0.2.2.2.2.length : Int) == 2) then
              let r7 := n_impl_wordsOk a0.2.2.2.2
              r7
            else
              false
          else
            true
  else
    bif (a0.1 == 6) then
      let r8 := n_impl_within a0.2.2.2.1 1 6
      r8
    else
      bif (a0.1 == 2) then
        bif (a0.1 == 2) then
          let r9 := n_impl_within (a0.2.2.2.2.length : Int) 1 6
          bif r9 then
            let r10 := n_impl_wordsOk a0.2.2.2.2
            r10
          else
            false
        else
          bif (a0.1 == 5) then
            bif ((a0.2.2.2.2.length : Int) == 2) then
              let r11 := n_impl_wordsOk a0.2.2.2.2
              r11
            else
              false
          else
            true
      else
        bif (a0.1 == 3) then
          let r12 := n_impl_within (a0.2.2.2.2.length : Int) 1 6
          bif r12 then
            let r13 := n_impl_wordsOk a0.2.2.2.2
            r13
          else
            false
        else
          bif (a0.1 == 5) then
            bif ((a0.2.2.2.2.length : Int) == 2) then
              let r14 := n_impl_wordsOk a0.2.2.2.2
              r14
            else
              false
          else
            true
noncomputable def con_impl_sizeOk : Con := ⟨I_impl_sizeOk, U_impl_sizeOk, fun x => (fun n => some ((n, ()), ())) (n_impl_sizeOk x.1)⟩
theorem nn_impl_sizeOk (a0 : dC) : raw_impl_sizeOk a0 = (fun n => some ((n, ()), ())) (n_impl_sizeOk a0) := bif_ty (p := fun (n : Bool) => ((n, ()), ())) (bif_some (p := fun (n : Bool) => ((n, ()), ())) (bif_some (p := fun (n : Bool) => ((n, ()), ())) rfl (bif_some (p := fun (n : Bool) => ((n, ()), ())) (bif_some (p := fun (n : Bool) => ((n, ()), ())) (bif_some (p := fun (n : Bool) => ((n, ()), ())) rfl rfl) (bif_some (p := fun (n : Bool) => ((n, ()), ())) (bif_some (p := fun (n : Bool) => ((n, ()), ())) rfl rfl) rfl)) (bif_some (p := fun (n : Bool) => ((n, ()), ())) (bif_some (p := fun (n : Bool) => ((n, ()), ())) rfl rfl) (bif_some (p := fun (n : Bool) => ((n, ()), ())) (bif_some (p := fun (n : Bool) => ((n, ()), ())) rfl rfl) rfl)))) (bif_some (p := fun (n : Bool) => ((n, ()), ())) rfl (bif_some (p := fun (n : Bool) => ((n, ()), ())) (bif_some (p := fun (n : Bool) => ((n, ()), ())) (bif_some (p := fun (n : Bool) => ((n, ()), ())) rfl rfl) (bif_some (p := fun (n : Bool) => ((n, ()), ())) (bif_some (p := fun (n : Bool) => ((n, ()), ())) rfl rfl) rfl)) (bif_some (p := fun (n : Bool) => ((n, ()), ())) (bif_some (p := fun (n : Bool) => ((n, ()), ())) rfl rfl) (bif_some (p := fun (n : Bool) => ((n, ()), ())) (bif_some (p := fun (n : Bool) => ((n, ()), ())) rfl rfl) rfl)))))
theorem ok_impl_sizeOk : ConOk Try.prog 131 con_impl_sizeOk := (ok0_impl_sizeOk).mono (fun x r _ h => (nn_impl_sizeOk x.1).trans h)
end

/-! impl_CmdCode -/
section
noncomputable def B_impl_CmdCode : Code := (Try.f92.body).getD .skip
noncomputable def E_impl_CmdCode : Env := envOf TT [(39, con_impl_within), (40, con_impl_GeoOk), (55, con_impl_Blocks), (93, con_impl_runOf), (131, con_impl_sizeOk)] []
theorem fr_impl_CmdCode_0 : FrOk Try.prog ⟨E_impl_CmdCode, 40, fun _ => none⟩ B_impl_CmdCode := frOk_base mixed tt_ok ⟨ok_impl_within, ok_impl_GeoOk, ok_impl_Blocks, ok_impl_runOf, ok_impl_sizeOk, trivial⟩
noncomputable def D_impl_CmdCode_0 : Nat → Option Seg := fun _ => none
abbrev I_impl_CmdCode : List Par := [.rd tG, .rd tC]
abbrev U_impl_CmdCode : List OT := [⟨false, tI, .fz⟩]
noncomputable def raw_impl_CmdCode (a0 : dG) (a1 : dC) : Option (ResD U_impl_CmdCode × MutD I_impl_CmdCode) :=
  let r1 := n_impl_GeoOk a0
  bif (!(!r1)) then
    let r2 := n_impl_within a1.1 1 6
    bif (!(!r2)) then
      let r3 := n_impl_within a1.2.1 1 999
      bif (!r3) then
        some ((1, ()), ())
      else
        let r4 := n_impl_sizeOk a1
        bif (!r4) then
          some ((3, ()), ())
        else
          bif (a1.1 != 4) then
            let r5 := n_impl_Blocks a0
            let r6 := n_impl_runOf a1
            let r7 := n_impl_within a1.2.2.1 0 (IntKind.i64.wrap (r5 - r6))
            bif (!r7) then
              some ((2, ()), ())
            else
              some ((0, ()), ())
          else
            some ((0, ()), ())
    else
      some ((1, ()), ())
  else
    some ((1, ()), ())
theorem e_impl_CmdCode (x : InD I_impl_CmdCode) : execF ⟨E_impl_CmdCode, 40, D_impl_CmdCode_0⟩ Try.f92.results.toList B_impl_CmdCode I_impl_CmdCode U_impl_CmdCode x = raw_impl_CmdCode x.1 x.2.1 := by kernel_rfl
theorem ok0_impl_CmdCode : ConOk Try.prog 92 ⟨I_impl_CmdCode, U_impl_CmdCode, fun x => raw_impl_CmdCode x.1 x.2.1⟩ := conOk_exec (fr_impl_CmdCode_0) Try.func92 (by kernel_rfl) (by kernel_rfl) Try.ntmps92.symm (by decide) (fun x r h => (e_impl_CmdCode x).trans h)
noncomputable def n_impl_CmdCode (a0 : dG) (a1 : dC) : Int :=
  let r1 := n_impl_GeoOk a0
  bif (!(!r1)) then
    let r2 := n_impl_within a1.1 1 6
    bif (!(!r2)) then
      let r3 := n_impl_within a1.2.1 1 999
      bif (!r3) then
        1
      else
        let r4 := n_impl_sizeOk a1
        bif (!r4) then
          3
        else
          bif (a1.1 != 4) then
            let r5 := n_impl_Blocks a0
            let r6 := n_impl_runOf a1
            let r7 := n_impl_within a1.2.2.1 0 (IntKind.i64.wrap (r5 - r6))
            bif (!r7) then
              2
            else
              0
          else
            0
    else
      1
  else
    1
noncomputable def con_impl_CmdCode : Con := ⟨I_impl_CmdCode, U_impl_CmdCode, fun x => (fun n => some ((n, ()), ())) (n_impl_CmdCode x.1 x.2.1)⟩
theorem nn_impl_CmdCode (a0 : dG) (a1 : dC) : raw_impl_CmdCode a0 a1 = (fun n => some ((n, ()), ())) (n_impl_CmdCode a0 a1) := bif_ty (p := fun (n : Int) => ((n, ()), ())) (bif_some (p := fun (n : Int) => ((n, ()), ())) (bif_some (p := fun (n : Int) => ((n, ()), ())) (bif_some (p := fun (n : Int) => ((n, ()), ())) rfl (bif_some (p := fun (n : Int) => ((n, ()), ())) rfl (bif_some (p := fun (n : Int) => ((n, ()), ())) (bif_some (p := fun (n : Int) => ((n, ()), ())) rfl rfl) rfl))) rfl) rfl)
theorem ok_impl_CmdCode : ConOk Try.prog 92 con_impl_CmdCode := (ok0_impl_CmdCode).mono (fun x r _ h => (nn_impl_CmdCode x.1 x.2.1).trans h)
theorem impl_words_in {l : List Int} (h : ∀ x ∈ l, n_spec_l1In x 0 65535 = true) : n_impl_wordsOk l = true := by
  unfold n_impl_wordsOk
  rw [List.all_eq_true]
  intro x hx
  have : n_impl_isWord x = n_spec_l1In x 0 65535 := by kernel_rfl
  rw [this]; exact h x hx
theorem run_ok {g : Int × Int} {c : Int × Int × Int × Int × List Int} (h : CmdOk g c) (h4 : c.1 ≠ 4) : 1 ≤ n_impl_runOf c ∧ n_impl_runOf c ≤ 6 ∧ 0 ≤ c.2.2.1 ∧ c.2.2.1 ≤ n_spec_Blocks g - n_impl_runOf c := by
  obtain ⟨op, id, lba, n, l⟩ := c
  obtain ⟨h1, hl, h2, _, h3⟩ := h
  simp only at h1 hl h2 h3 h4
  unfold n_impl_runOf
  rcases h3.resolve_left h4 with ⟨p, ⟨rfl | rfl, q, r⟩ | ⟨rfl | rfl, q, r⟩ | ⟨rfl, q, r⟩⟩
  · exact ⟨q.1, q.2, p, r⟩
  · exact ⟨q.1, q.2, p, r⟩
  · exact ⟨by show (1 : Int) ≤ l.length; omega, by show (l.length : Int) ≤ 6; omega, p, r⟩
  · exact ⟨by show (1 : Int) ≤ l.length; omega, by show (l.length : Int) ≤ 6; omega, p, r⟩
  · exact ⟨by show (1 : Int) ≤ 1; omega, by show (1 : Int) ≤ 6; omega, p, r⟩
theorem code_ok {g : Int × Int} {c : Int × Int × Int × Int × List Int} (hg : n_spec_GeoOk g = true) (h : CmdOk g c) : n_impl_CmdCode g c = 0 := by
  have hB := spec_Blocks_le g
  have h0 := h
  obtain ⟨op, id, lba, n, l⟩ := c
  obtain ⟨h1, hl, h2, _, h3⟩ := h
  simp only at h1 hl h2 h3
  have hsz : n_impl_sizeOk (op, id, lba, n, l) = true ∧ 1 ≤ op ∧ op ≤ 6 := by
    unfold n_impl_sizeOk
    have hw := impl_words_in h2
    rcases h3 with rfl | ⟨p, ⟨rfl | rfl, q, r⟩ | ⟨rfl | rfl, q, r⟩ | ⟨rfl, q, r⟩⟩
    · exact ⟨rfl, by omega, by omega⟩
    · exact ⟨(impl_in_eq _ _ _).trans (in_t q.1 q.2), by omega, by omega⟩
    · exact ⟨(impl_in_eq _ _ _).trans (in_t q.1 q.2), by omega, by omega⟩
    · refine ⟨?_, by omega, by omega⟩
      show (bif n_impl_within (l.length : Int) 1 6 then n_impl_wordsOk l else false) = true
      rw [impl_in_eq, in_t (by omega) (by omega), hw]; rfl
    · refine ⟨?_, by omega, by omega⟩
      show (bif n_impl_within (l.length : Int) 1 6 then n_impl_wordsOk l else false) = true
      rw [impl_in_eq, in_t (by omega) (by omega), hw]; rfl
    · refine ⟨?_, by omega, by omega⟩
      show (bif (l.length : Int) == 2 then n_impl_wordsOk l else false) = true
      rw [q, hw]; rfl
  unfold n_impl_CmdCode
  rw [geo_eq, hg]
  simp only [Bool.not_true, Bool.not_false, cond_true, impl_in_eq, in_t hsz.2.1 hsz.2.2, in_t h1.1 h1.2, hsz.1, cond_false]
  by_cases h4 : op = 4
  · subst h4; rfl
  · rw [show (op != 4) = true from bne_iff_ne.2 h4, bif_t, impl_Blocks_eq]
    have hr := run_ok h0 h4
    simp only at hr
    rw [wr (show -9223372036854775808 ≤ n_spec_Blocks g - n_impl_runOf (op, id, lba, n, l) by omega) (by omega), in_t hr.2.2.1 hr.2.2.2]
    rfl
end

/-! impl_SpanOf -/
section
noncomputable def B_impl_SpanOf : Code := (Try.f53.body).getD .skip
noncomputable def E_impl_SpanOf : Env := envOf TT [(55, con_impl_Blocks), (92, con_impl_CmdCode), (93, con_impl_runOf)] []
theorem fr_impl_SpanOf_0 : FrOk Try.prog ⟨E_impl_SpanOf, 24, fun _ => none⟩ B_impl_SpanOf := frOk_base mixed tt_ok ⟨ok_impl_Blocks, ok_impl_CmdCode, ok_impl_runOf, trivial⟩
noncomputable def D_impl_SpanOf_0 : Nat → Option Seg := fun _ => none
abbrev I_impl_SpanOf : List Par := [.rd tG, .rd tC]
abbrev U_impl_SpanOf : List OT := [⟨false, tI, .fz⟩, ⟨false, tI, .fz⟩]
noncomputable def raw_impl_SpanOf (a0 : dG) (a1 : dC) : Option (ResD U_impl_SpanOf × MutD I_impl_SpanOf) :=
  let r1 := n_impl_CmdCode a0 a1
  bif (r1 != 0) then
    some ((0, 0, ()), ())
  else
    bif (a1.1 == 4) then
      let r2 := n_impl_Blocks a0
      some ((0, r2, ()), ())
    else
      let r3 := n_impl_runOf a1
      some ((a1.2.2.1, (IntKind.i64.wrap (a1.2.2.1 + r3)), ()), ())
theorem e_impl_SpanOf (x : InD I_impl_SpanOf) : execF ⟨E_impl_SpanOf, 24, D_impl_SpanOf_0⟩ Try.f53.results.toList B_impl_SpanOf I_impl_SpanOf U_impl_SpanOf x = raw_impl_SpanOf x.1 x.2.1 := by kernel_rfl
theorem ok0_impl_SpanOf : ConOk Try.prog 53 ⟨I_impl_SpanOf, U_impl_SpanOf, fun x => raw_impl_SpanOf x.1 x.2.1⟩ := conOk_exec (fr_impl_SpanOf_0) Try.func53 (by kernel_rfl) (by kernel_rfl) Try.ntmps53.symm (by decide) (fun x r h => (e_impl_SpanOf x).trans h)
noncomputable def n_impl_SpanOf (a0 : dG) (a1 : dC) : Int × Int :=
  let r1 := n_impl_CmdCode a0 a1
  bif (r1 != 0) then
    (0, 0)
  else
    bif (a1.1 == 4) then
      let r2 := n_impl_Blocks a0
      (0, r2)
    else
      let r3 := n_impl_runOf a1
      (a1.2.2.1, (IntKind.i64.wrap (a1.2.2.1 + r3)))
noncomputable def con_impl_SpanOf : Con := ⟨I_impl_SpanOf, U_impl_SpanOf, fun x => (fun n => some ((n.1, n.2, ()), ())) (n_impl_SpanOf x.1 x.2.1)⟩
theorem nn_impl_SpanOf (a0 : dG) (a1 : dC) : raw_impl_SpanOf a0 a1 = (fun n => some ((n.1, n.2, ()), ())) (n_impl_SpanOf a0 a1) := bif_ty (p := fun (n : Int × Int) => ((n.1, n.2, ()), ())) (bif_some (p := fun (n : Int × Int) => ((n.1, n.2, ()), ())) rfl (bif_some (p := fun (n : Int × Int) => ((n.1, n.2, ()), ())) rfl rfl))
theorem ok_impl_SpanOf : ConOk Try.prog 53 con_impl_SpanOf := (ok0_impl_SpanOf).mono (fun x r _ h => (nn_impl_SpanOf x.1 x.2.1).trans h)
theorem span_ok {g : Int × Int} {c : Int × Int × Int × Int × List Int} (hg : n_spec_GeoOk g = true) (h : CmdOk g c) :
    0 ≤ (n_impl_SpanOf g c).1 ∧ (n_impl_SpanOf g c).1 < (n_impl_SpanOf g c).2 ∧ (n_impl_SpanOf g c).2 ≤ n_spec_Blocks g ∧ (c.1 = 4 → (n_impl_SpanOf g c).1 = 0 ∧ (n_impl_SpanOf g c).2 = n_spec_Blocks g) := by
  have hB := spec_Blocks_ge hg
  have hB2 := (spec_Blocks_le g).2
  unfold n_impl_SpanOf
  rw [code_ok hg h]
  simp only [bne_self_eq_false, cond_false]
  by_cases h4 : c.1 = 4
  · rw [h4]
    simp only [beq_self_eq_true, cond_true, impl_Blocks_eq]
    exact ⟨by omega, by omega, by omega, fun _ => by simp⟩
  · rw [show (c.1 == 4) = false from beq_eq_false_iff_ne.2 h4]
    simp only [cond_false]
    have hr := run_ok h h4
    rw [wr (by omega) (by omega)]
    exact ⟨hr.2.2.1, by omega, by omega, fun e => absurd e h4⟩
end

/-! spec_l13Len -/
section
noncomputable def B_spec_l13Len : Code := (Try.f95.body).getD .skip
noncomputable def E_spec_l13Len : Env := envOf TT [] []
theorem fr_spec_l13Len_0 : FrOk Try.prog ⟨E_spec_l13Len, 18, fun _ => none⟩ B_spec_l13Len := frOk_base mixed tt_ok trivial
noncomputable def D_spec_l13Len_0 : Nat → Option Seg := fun _ => none
abbrev I_spec_l13Len : List Par := [.rd tC]
abbrev U_spec_l13Len : List OT := [⟨false, tI, .fz⟩]
noncomputable def raw_spec_l13Len (a0 : dC) : Option (ResD U_spec_l13Len × MutD I_spec_l13Len) :=
  bif (a0.1 == 1) then
    bif (a0.1 == 1) then
      some ((a0.2.2.2.1, ()), ())
    else
      bif (a0.1 == 2) then
        bif (a0.1 == 2) then
          some (((a0.2.2.2.2.length : Int), ()), ())
        else
          bif (a0.1 == 5) then
            some ((1, ()), ())
          else
            some ((0, ()), ())
      else
        bif (a0.1 == 3) then
          some (((a0.2.2.2.2.length : Int), ()), ())
        else
          bif (a0.1 == 5) then
            some ((1, ()), ())
          else
            some ((0, ()), ())
  else
    bif (a0.1 == 6) then
      some ((a0.2.2.2.1, ()), ())
    else
      bif (a0.1 == 2) then
        bif (a0.1 == 2) then
          some (((a0.2.2.2.2.length : Int), ()), ())
        else
          bif (a0.1 == 5) then
            some ((1, ()), ())
          else
            some ((0, ()), ())
      else
        bif (a0.1 == 3) then
          some (((a0.2.2.2.2.length : Int), ()), ())
        else
          bif (a0.1 == 5) then
            some ((1, ()), ())
          else
            some ((0, ()), ())
theorem e_spec_l13Len (x : InD I_spec_l13Len) : execF ⟨E_spec_l13Len, 18, D_spec_l13Len_0⟩ Try.f95.results.toList B_spec_l13Len I_spec_l13Len U_spec_l13Len x = raw_spec_l13Len x.1 := by kernel_rfl
theorem ok0_spec_l13Len : ConOk Try.prog 95 ⟨I_spec_l13Len, U_spec_l13Len, fun x => raw_spec_l13Len x.1⟩ := conOk_exec (fr_spec_l13Len_0) Try.func95 (by kernel_rfl) (by kernel_rfl) Try.ntmps95.symm (by decide) (fun x r h => (e_spec_l13Len x).trans h)
noncomputable def n_spec_l13Len (a0 : dC) : Int :=
  bif (a0.1 == 1) then
    bif (a0.1 == 1) then
      a0.2.2.2.1
    else
      bif (a0.1 == 2) then
        bif (a0.1 == 2) then
          (a0.2.2.2.2.length : Int)
        else
          bif (a0.1 == 5) then
            1
          else
            0
      else
        bif (a0.1 == 3) then
          (a0.2.2.2.2.length : Int)
        else
          bif (a0.1 == 5) then
            1
          else
            0
  else
    bif (a0.1 == 6) then
      a0.2.2.2.1
    else
      bif (a0.1 == 2) then
        bif (a0.1 == 2) then
          (a0.2.2.2.2.length : Int)
        else
          bif (a0.1 == 5) then
            1
          else
            0
      else
        bif (a0.1 == 3) then
          (a0.2.2.2.2.length : Int)
        else
          bif (a0.1 == 5) then
            1
          else
            0
noncomputable def con_spec_l13Len : Con := ⟨I_spec_l13Len, U_spec_l13Len, fun x => (fun n => some ((n, ()), ())) (n_spec_l13Len x.1)⟩
theorem nn_spec_l13Len (a0 : dC) : raw_spec_l13Len a0 = (fun n => some ((n, ()), ())) (n_spec_l13Len a0) := bif_ty (p := fun (n : Int) => ((n, ()), ())) (bif_some (p := fun (n : Int) => ((n, ()), ())) (bif_some (p := fun (n : Int) => ((n, ()), ())) rfl (bif_some (p := fun (n : Int) => ((n, ()), ())) (bif_some (p := fun (n : Int) => ((n, ()), ())) rfl (bif_some (p := fun (n : Int) => ((n, ()), ())) rfl rfl)) (bif_some (p := fun (n : Int) => ((n, ()), ())) rfl (bif_some (p := fun (n : Int) => ((n, ()), ())) rfl rfl)))) (bif_some (p := fun (n : Int) => ((n, ()), ())) rfl (bif_some (p := fun (n : Int) => ((n, ()), ())) (bif_some (p := fun (n : Int) => ((n, ()), ())) rfl (bif_some (p := fun (n : Int) => ((n, ()), ())) rfl rfl)) (bif_some (p := fun (n : Int) => ((n, ()), ())) rfl (bif_some (p := fun (n : Int) => ((n, ()), ())) rfl rfl)))))
theorem ok_spec_l13Len : ConOk Try.prog 95 con_spec_l13Len := (ok0_spec_l13Len).mono (fun x r _ h => (nn_spec_l13Len x.1).trans h)
end
end Go.Tf
