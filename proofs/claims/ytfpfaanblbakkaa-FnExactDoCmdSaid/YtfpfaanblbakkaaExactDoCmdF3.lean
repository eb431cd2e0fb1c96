/- Functions of the program, and what they come to. -/
import Derived.Test.YtfpfaanblbakkaaExactDoCmdF2
namespace Go.Tf
open Go.Proofs
set_option synthInstance.maxHeartbeats 400000
set_option synthInstance.maxSize 10000
set_option linter.unusedVariables false
set_option linter.unusedSimpArgs false
set_option maxRecDepth 100000
/-! impl_wordsOk -/
section
noncomputable def B_impl_wordsOk : Code := (Try.f138.body).getD .skip
noncomputable def E_impl_wordsOk : Env := envOf TT [(153, con_impl_isWord)] []
theorem fr_impl_wordsOk_0 : FrOk Try.prog ⟨E_impl_wordsOk, 15, fun _ => none⟩ B_impl_wordsOk := frOk_base mixed tt_ok ⟨ok_impl_isWord, trivial⟩
noncomputable def D_impl_wordsOk_0 : Nat → Option Seg := fun _ => none
def L_impl_wordsOk_13 : Shape := ⟨[(5, false, [.br tI]), (6, false, [.int .i64]), (7, false, [.int .i64])], [], []⟩
def S_impl_wordsOk_13 : Shape := ⟨[(5, false, [.br tI]), (6, false, [.int .i64]), (7, false, [.ci .i64 0])], [], []⟩
def O_impl_wordsOk_13 : Shape := ⟨[], [], []⟩
def Z_impl_wordsOk_13 : Shape := ⟨[(2, false, [.bool])], [], []⟩
noncomputable def st_impl_wordsOk_13 (v0 : List Int) (v1 : Int) (v2 : Int) : Option ((L_impl_wordsOk_13).X ⊕ ((O_impl_wordsOk_13).X ⊕ (Z_impl_wordsOk_13).X)) :=
  bif (ltb v2 v1) then
    bif (inb v2 v0.length) then
      let r2 := n_impl_isWord (nth v0 v2 0)
      bif (!r2) then
        some (.inr (.inr (((false, ()), ()), (), ())))
      else
        some (.inl (((v0, ()), (v1, ()), ((IntKind.i64.wrap (v2 + 1)), ()), ()), (), ()))
    else none
  else
    some (.inr (.inl ((), (), ())))
noncomputable def stx_impl_wordsOk_13 (x : (L_impl_wordsOk_13).X) := st_impl_wordsOk_13 x.1.1.1 x.1.2.1.1 x.1.2.2.1.1
def em_impl_wordsOk_13 (x : (S_impl_wordsOk_13).X) : (L_impl_wordsOk_13).X := (((x.1.1.1, ()), (x.1.2.1.1, ()), (0, ()), ()), (), ())
noncomputable def c_impl_wordsOk_13 : Code := (subN B_impl_wordsOk 64 52).getD .skip
theorem a_impl_wordsOk_13 : subN B_impl_wordsOk 64 13 = some (.block 0 (.loop c_impl_wordsOk_13)) := by kernel_rfl
theorem r_impl_wordsOk_13 (x : (L_impl_wordsOk_13).X) : roundT ⟨E_impl_wordsOk, 15, D_impl_wordsOk_0⟩ 0 c_impl_wordsOk_13 52 L_impl_wordsOk_13 O_impl_wordsOk_13 Z_impl_wordsOk_13 x = stx_impl_wordsOk_13 x := by kernel_rfl
noncomputable def fu_impl_wordsOk_13 (x : (S_impl_wordsOk_13).X) : Nat := (fun (u0 : List Int) (u1 : Int) => 18446744073709551616) x.1.1.1 x.1.2.1.1
noncomputable def F_impl_wordsOk_13 (x : (S_impl_wordsOk_13).X) : Option ((O_impl_wordsOk_13).X ⊕ (Z_impl_wordsOk_13).X) := loopN stx_impl_wordsOk_13 (fu_impl_wordsOk_13 x) (em_impl_wordsOk_13 x)
noncomputable def sg_impl_wordsOk_13 : Seg := ⟨S_impl_wordsOk_13, O_impl_wordsOk_13, Z_impl_wordsOk_13, F_impl_wordsOk_13⟩
noncomputable def D_impl_wordsOk_1 : Nat → Option Seg := fun q => bif Nat.beq q 13 then some sg_impl_wordsOk_13 else D_impl_wordsOk_0 q
theorem fr_impl_wordsOk_1 : FrOk Try.prog ⟨E_impl_wordsOk, 15, D_impl_wordsOk_1⟩ B_impl_wordsOk := (fr_impl_wordsOk_0).loop (sg := sg_impl_wordsOk_13) L_impl_wordsOk_13 em_impl_wordsOk_13 (by decide) a_impl_wordsOk_13 stx_impl_wordsOk_13 fu_impl_wordsOk_13 (by decide) (fun _ => rfl) (fun x r _ h => h) r_impl_wordsOk_13
abbrev I_impl_wordsOk : List Par := [.rd tL]
abbrev U_impl_wordsOk : List OT := [⟨false, tB, .fz⟩]
noncomputable def raw_impl_wordsOk (a0 : List Int) : Option (ResD U_impl_wordsOk × MutD I_impl_wordsOk) :=
  segM (F_impl_wordsOk_13 (((a0, ()), ((a0.length : Int), ()), ((), ()), ()), (), ())) (fun y2 =>
    some ((true, ()), ())) (fun y2 =>
    some ((y2.1.1.1, ()), ()))
theorem e_impl_wordsOk (x : InD I_impl_wordsOk) : execF ⟨E_impl_wordsOk, 15, D_impl_wordsOk_1⟩ Try.f138.results.toList B_impl_wordsOk I_impl_wordsOk U_impl_wordsOk x = raw_impl_wordsOk x.1 := by kernel_rfl
theorem ok0_impl_wordsOk : ConOk Try.prog 138 ⟨I_impl_wordsOk, U_impl_wordsOk, fun x => raw_impl_wordsOk x.1⟩ := conOk_exec (fr_impl_wordsOk_1) Try.func138 (by kernel_rfl) (by kernel_rfl) Try.ntmps138.symm (by decide) (fun x r h => (e_impl_wordsOk x).trans h)
noncomputable def n_impl_wordsOk (a0 : List Int) : Bool := a0.all n_impl_isWord
theorem nn_impl_wordsOk (a0 : List Int) (hk : InOk I_impl_wordsOk (a0, ())) : raw_impl_wordsOk a0 = (fun n => some ((n, ()), ())) (n_impl_wordsOk a0) := by
  have hb : a0.length * 8 ≤ 2 ^ 47 := hk.1.1
  have hl : F_impl_wordsOk_13 (((a0, ()), ((a0.length : Int), ()), ((), ()), ()), (), ()) = some (bif a0.all n_impl_isWord then .inl ((), (), ()) else .inr (((false, ()), ()), (), ())) :=
    loopN_list_all (step := stx_impl_wordsOk_13) a0 0 (fun i => (((a0, ()), ((a0.length : Int), ()), ((i : Int), ()), ()), (), ())) n_impl_isWord _ _ (fun i hi => by
      simp only [stx_impl_wordsOk_13, st_impl_wordsOk_13, inb_nat hi, nth_nat, ltb_t (show (i : Int) < a0.length by omega), cond_true, wr (show -9223372036854775808 ≤ (i : Int) + 1 by omega) (by omega), Int.natCast_add, Int.natCast_one]
      cases n_impl_isWord (a0.getD i 0) <;> rfl) (by simp only [stx_impl_wordsOk_13, st_impl_wordsOk_13, ltb_f (Int.le_refl _), cond_false]) _ (by show _ < 18446744073709551616; omega)
  unfold raw_impl_wordsOk n_impl_wordsOk
  rw [hl]
  cases a0.all n_impl_isWord <;> rfl
noncomputable def con_impl_wordsOk : Con := ⟨I_impl_wordsOk, U_impl_wordsOk, fun x => (fun n => some ((n, ()), ())) (n_impl_wordsOk x.1)⟩
theorem ok_impl_wordsOk : ConOk Try.prog 138 con_impl_wordsOk := (ok0_impl_wordsOk).mono (fun x r hk h => (nn_impl_wordsOk x.1 hk).trans h)
theorem impl_word_eq (a : Int) : n_impl_isWord a = n_spec_l1Word a := by kernel_rfl
theorem impl_words_eq (a : List Int) : n_impl_wordsOk a = a.all n_spec_l1Word := by
  unfold n_impl_wordsOk; rw [show n_impl_isWord = n_spec_l1Word from funext impl_word_eq]
end

/-! impl_sizeOk -/
section
noncomputable def B_impl_sizeOk : Code := (Try.f108.body).getD .skip
noncomputable def E_impl_sizeOk : Env := envOf TT [(107, con_impl_within), (138, con_impl_wordsOk)] []
theorem fr_impl_sizeOk_0 : FrOk Try.prog ⟨E_impl_sizeOk, 34, fun _ => none⟩ B_impl_sizeOk := frOk_base mixed tt_ok ⟨ok_impl_within, ok_impl_wordsOk, trivial⟩
noncomputable def D_impl_sizeOk_0 : Nat → Option Seg := fun _ => none
abbrev I_impl_sizeOk : List Par := [.rd tC]
abbrev U_impl_sizeOk : List OT := [⟨false, tB, .fz⟩]
noncomputable def raw_impl_sizeOk (a0 : Int × Int × Int × Int × (List Int)) : Option (ResD U_impl_sizeOk × MutD I_impl_sizeOk) :=
  bif (a0.1 == 1) then
    bif (a0.1 == 1) then
      let r1 := n_impl_within a0.2.2.2.1 1 6
      some ((r1, ()), ())
    else
      bif (a0.1 == 2) then
        bif (a0.1 == 2) then
          let r2 := n_impl_within (a0.2.2.2.2.length : Int) 1 6
          bif r2 then
            let r3 := n_impl_wordsOk a0.2.2.2.2
            some ((r3, ()), ())
          else
            some ((false, ()), ())
        else
          bif (a0.1 == 5) then
            bif ((a0.2.2.2.2.length : Int) == 2) then
              let r4 := n_impl_wordsOk a0.2.2.2.2
              some ((r4, ()), ())
            else
              some ((false, ()), ())
          else
            some ((true, ()), ())
      else
        bif (a0.1 == 3) then
          let r5 := n_impl_within (a0.2.2.2.2.length : Int) 1 6
          bif r5 then
            let r6 := n_impl_wordsOk a0.2.2.2.2
            some ((r6, ()), ())
          else
            some ((false, ()), ())
        else
          bif (a0.1 == 5) then
            bif ((a0.2.2.2.2.length : Int) == 2) then
              let r7 := n_impl_wordsOk a0.2.2.2.2
              some ((r7, ()), ())
            else
              some ((false, ()), ())
          else
            some ((true, ()), ())
  else
    bif (a0.1 == 6) then
      let r8 := n_impl_within a0.2.2.2.1 1 6
      some ((r8, ()), ())
    else
      bif (a0.1 == 2) then
        bif (a0.1 == 2) then
          let r9 := n_impl_within (a0.2.2.2.2.length : Int) 1 6
          bif r9 then
            let r10 := n_impl_wordsOk a0.2.2.2.2
            some ((r10, ()), ())
          else
            some ((false, ()), ())
        else
          bif (a0.1 == 5) then
            bif ((a0.2.2.2.2.length : Int) == 2) then
              let r11 := n_impl_wordsOk a0.2.2.2.2
              some ((r11, ()), ())
            else
              some ((false, ()), ())
          else
            some ((true, ()), ())
      else
        bif (a0.1 == 3) then
          let r12 := n_impl_within (a0.2.2.2.2.length : Int) 1 6
          bif r12 then
            let r13 := n_impl_wordsOk a0.2.2.2.2
            some ((r13, ()), ())
          else
            some ((false, ()), ())
        else
          bif (a0.1 == 5) then
            bif ((a0.2.2.2.2.length : Int) == 2) then
              let r14 := n_impl_wordsOk a0.2.2.2.2
              some ((r14, ()), ())
            else
              some ((false, ()), ())
          else
            some ((true, ()), ())
theorem e_impl_sizeOk (x : InD I_impl_sizeOk) : execF ⟨E_impl_sizeOk, 34, D_impl_sizeOk_0⟩ Try.f108.results.toList B_impl_sizeOk I_impl_sizeOk U_impl_sizeOk x = raw_impl_sizeOk x.1 := by kernel_rfl
theorem ok0_impl_sizeOk : ConOk Try.prog 108 ⟨I_impl_sizeOk, U_impl_sizeOk, fun x => raw_impl_sizeOk x.1⟩ := conOk_exec (fr_impl_sizeOk_0) Try.func108 (by kernel_rfl) (by kernel_rfl) Try.ntmps108.symm (by decide) (fun x r h => (e_impl_sizeOk x).trans h)
noncomputable def n_impl_sizeOk (a0 : Int × Int × Int × Int × (List Int)) : Bool :=
  bif (a0.1 == 1) then
    bif (a0.1 == 1) then
      let r1 := n_impl_within a0.2.2.2.1 1 6
      r1
    else
      bif (a0.1 == 2) then
        bif (a0.1 == 2) then
          let r2 := n_impl_within (a0.2.2.2.2.length : Int) 1 6
          bif r2 then
            let r3 := n_impl_wordsOk a0.2.2.2.2
            r3
          else
            false
        else
          bif (a0.1 == 5) then
            bif ((a0.2.2.2.2.length : Int) == 2) then
              let r4 := n_impl_wordsOk a0.2.2.2.2
              r4
            else
              false
          else
            true
      else
        bif (a0.1 == 3) then
          let r5 := n_impl_within (a0.2.2.2.2.length : Int) 1 6
          bif r5 then
            let r6 := n_impl_wordsOk a0.2.2.2.2
            r6
          else
            false
        else
          bif (a0.1 == 5) then
            bif ((a0.2.2.2.2.length : Int) == 2) then
              let r7 := n_impl_wordsOk a0.2.2.2.2
              r7
            else
              false
          else
            true
  else
    bif (a0.1 == 6) then
      let r8 := n_impl_within a0.2.2.2.1 1 6
      r8
    else
      bif (a0.1 == 2) then
        bif (a0.1 == 2) then
          let r9 := n_impl_within (a0.2.2.2.2.length : Int) 1 6
          bif r9 then
            let r10 := n_impl_wordsOk a0.2.2.2.2
            r10
          else
            false
        else
          bif (a0.1 == 5) then
            bif ((a0.2.2.2.2.length : Int) == 2) then
              let r11 := n_impl_wordsOk a0.2.2.2.2
              r11
            else
              false
          else
            true
      else
        bif (a0.1 == 3) then
          let r12 := n_impl_within (a0.2.2.2.2.length : Int) 1 6
          bif r12 then
            let r13 := n_impl_wordsOk a0.2.2.2.2
            r13
          else
            false
        else
          bif (a0.1 == 5) then
            bif ((a0.2.2.2.2.length : Int) == 2) then
              let r14 := n_impl_wordsOk a0.2.2.2.2
              r14
            else
              false
          else
            true
noncomputable def con_impl_sizeOk : Con := ⟨I_impl_sizeOk, U_impl_sizeOk, fun x => (fun n => some ((n, ()), ())) (n_impl_sizeOk x.1)⟩
theorem nn_impl_sizeOk (a0 : Int × Int × Int × Int × (List Int)) : raw_impl_sizeOk a0 = (fun n => some ((n, ()), ())) (n_impl_sizeOk a0) := bif_ty (p := fun (n : Bool) => ((n, ()), ())) (bif_some (p := fun (n : Bool) => ((n, ()), ())) (bif_some (p := fun (n : Bool) => ((n, ()), ())) rfl (bif_some (p := fun (n : Bool) => ((n, ()), ())) (bif_some (p := fun (n : Bool) => ((n, ()), ())) (bif_some (p := fun (n : Bool) => ((n, ()), ())) rfl rfl) (bif_some (p := fun (n : Bool) => ((n, ()), ())) (bif_some (p := fun (n : Bool) => ((n, ()), ())) rfl rfl) rfl)) (bif_some (p := fun (n : Bool) => ((n, ()), ())) (bif_some (p := fun (n : Bool) => ((n, ()), ())) rfl rfl) (bif_some (p := fun (n : Bool) => ((n, ()), ())) (bif_some (p := fun (n : Bool) => ((n, ()), ())) rfl rfl) rfl)))) (bif_some (p := fun (n : Bool) => ((n, ()), ())) rfl (bif_some (p := fun (n : Bool) => ((n, ()), ())) (bif_some (p := fun (n : Bool) => ((n, ()), ())) (bif_some (p := fun (n : Bool) => ((n, ()), ())) rfl rfl) (bif_some (p := fun (n : Bool) => ((n, ()), ())) (bif_some (p := fun (n : Bool) => ((n, ()), ())) rfl rfl) rfl)) (bif_some (p := fun (n : Bool) => ((n, ()), ())) (bif_some (p := fun (n : Bool) => ((n, ()), ())) rfl rfl) (bif_some (p := fun (n : Bool) => ((n, ()), ())) (bif_some (p := fun (n : Bool) => ((n, ()), ())) rfl rfl) rfl)))))
theorem ok_impl_sizeOk : ConOk Try.prog 108 con_impl_sizeOk := (ok0_impl_sizeOk).mono (fun x r _ h => (nn_impl_sizeOk x.1).trans h)
end

/-! impl_CmdCode -/
section
noncomputable def B_impl_CmdCode : Code := (Try.f70.body).getD .skip
noncomputable def E_impl_CmdCode : Env := envOf TT [(71, con_impl_Blocks), (72, con_impl_runOf), (106, con_impl_GeoOk), (107, con_impl_within), (108, con_impl_sizeOk)] []
theorem fr_impl_CmdCode_0 : FrOk Try.prog ⟨E_impl_CmdCode, 40, fun _ => none⟩ B_impl_CmdCode := frOk_base mixed tt_ok ⟨ok_impl_Blocks, ok_impl_runOf, ok_impl_GeoOk, ok_impl_within, ok_impl_sizeOk, trivial⟩
noncomputable def D_impl_CmdCode_0 : Nat → Option Seg := fun _ => none
abbrev I_impl_CmdCode : List Par := [.rd tG, .rd tC]
abbrev U_impl_CmdCode : List OT := [⟨false, tI, .fz⟩]
noncomputable def raw_impl_CmdCode (a0 : Int × Int) (a1 : Int × Int × Int × Int × (List Int)) : Option (ResD U_impl_CmdCode × MutD I_impl_CmdCode) :=
  let r1 := n_impl_GeoOk a0
  bif (!(!r1)) then
    let r2 := n_impl_within a1.1 1 6
    bif (!(!r2)) then
      let r3 := n_impl_within a1.2.1 1 999
      bif (!r3) then
        some ((1, ()), ())
      else
        let r4 := n_impl_sizeOk a1
        bif (!r4) then
          some ((3, ()), ())
        else
          bif (a1.1 != 4) then
            let r5 := n_impl_Blocks a0
            let r6 := n_impl_runOf a1
            let r7 := n_impl_within a1.2.2.1 0 (IntKind.i64.wrap (r5 - r6))
            bif (!r7) then
              some ((2, ()), ())
            else
              some ((0, ()), ())
          else
            some ((0, ()), ())
    else
      some ((1, ()), ())
  else
    some ((1, ()), ())
theorem e_impl_CmdCode (x : InD I_impl_CmdCode) : execF ⟨E_impl_CmdCode, 40, D_impl_CmdCode_0⟩ Try.f70.results.toList B_impl_CmdCode I_impl_CmdCode U_impl_CmdCode x = raw_impl_CmdCode x.1 x.2.1 := by kernel_rfl
theorem ok0_impl_CmdCode : ConOk Try.prog 70 ⟨I_impl_CmdCode, U_impl_CmdCode, fun x => raw_impl_CmdCode x.1 x.2.1⟩ := conOk_exec (fr_impl_CmdCode_0) Try.func70 (by kernel_rfl) (by kernel_rfl) Try.ntmps70.symm (by decide) (fun x r h => (e_impl_CmdCode x).trans h)
noncomputable def n_impl_CmdCode (a0 : Int × Int) (a1 : Int × Int × Int × Int × (List Int)) : Int :=
  let r1 := n_impl_GeoOk a0
  bif (!(!r1)) then
    let r2 := n_impl_within a1.1 1 6
    bif (!(!r2)) then
      let r3 := n_impl_within a1.2.1 1 999
      bif (!r3) then
        1
      else
        let r4 := n_impl_sizeOk a1
        bif (!r4) then
          3
        else
          bif (a1.1 != 4) then
            let r5 := n_impl_Blocks a0
            let r6 := n_impl_runOf a1
            let r7 := n_impl_within a1.2.2.1 0 (IntKind.i64.wrap (r5 - r6))
            bif (!r7) then
              2
            else
              0
          else
            0
    else
      1
  else
    1
noncomputable def con_impl_CmdCode : Con := ⟨I_impl_CmdCode, U_impl_CmdCode, fun x => (fun n => some ((n, ()), ())) (n_impl_CmdCode x.1 x.2.1)⟩
theorem nn_impl_CmdCode (a0 : Int × Int) (a1 : Int × Int × Int × Int × (List Int)) : raw_impl_CmdCode a0 a1 = (fun n => some ((n, ()), ())) (n_impl_CmdCode a0 a1) := bif_ty (p := fun (n : Int) => ((n, ()), ())) (bif_some (p := fun (n : Int) => ((n, ()), ())) (bif_some (p := fun (n : Int) => ((n, ()), ())) (bif_some (p := fun (n : Int) => ((n, ()), ())) rfl (bif_some (p := fun (n : Int) => ((n, ()), ())) rfl (bif_some (p := fun (n : Int) => ((n, ()), ())) (bif_some (p := fun (n : Int) => ((n, ()), ())) rfl rfl) rfl))) rfl) rfl)
theorem ok_impl_CmdCode : ConOk Try.prog 70 con_impl_CmdCode := (ok0_impl_CmdCode).mono (fun x r _ h => (nn_impl_CmdCode x.1 x.2.1).trans h)
theorem size_eq (a : Int × Int × Int × Int × List Int) : n_impl_sizeOk a = n_spec_l13Size a := by kernel_rfl
theorem impl_run_eq (a : Int × Int × Int × Int × List Int) : n_impl_runOf a = n_spec_l13Len a := by kernel_rfl
theorem code_eq (g : Int × Int) (a : Int × Int × Int × Int × List Int) : n_impl_CmdCode g a = n_spec_CmdCode g a := by
  unfold n_impl_CmdCode n_spec_CmdCode
  simp only [size_eq, geo_eq, impl_in_eq, impl_Blocks_eq, impl_run_eq, bne]
  cases (a.1 == 4) <;> rfl
end

/-! impl_SpanOf -/
section
noncomputable def B_impl_SpanOf : Code := (Try.f17.body).getD .skip
noncomputable def E_impl_SpanOf : Env := envOf TT [(70, con_impl_CmdCode), (71, con_impl_Blocks), (72, con_impl_runOf)] []
theorem fr_impl_SpanOf_0 : FrOk Try.prog ⟨E_impl_SpanOf, 24, fun _ => none⟩ B_impl_SpanOf := frOk_base mixed tt_ok ⟨ok_impl_CmdCode, ok_impl_Blocks, ok_impl_runOf, trivial⟩
noncomputable def D_impl_SpanOf_0 : Nat → Option Seg := fun _ => none
abbrev I_impl_SpanOf : List Par := [.rd tG, .rd tC]
abbrev U_impl_SpanOf : List OT := [⟨false, tI, .fz⟩, ⟨false, tI, .fz⟩]
noncomputable def raw_impl_SpanOf (a0 : Int × Int) (a1 : Int × Int × Int × Int × (List Int)) : Option (ResD U_impl_SpanOf × MutD I_impl_SpanOf) :=
  let r1 := n_impl_CmdCode a0 a1
  bif (r1 != 0) then
    some ((0, 0, ()), ())
  else
    bif (a1.1 == 4) then
      let r2 := n_impl_Blocks a0
      some ((0, r2, ()), ())
    else
      let r3 := n_impl_runOf a1
      some ((a1.2.2.1, (IntKind.i64.wrap (a1.2.2.1 + r3)), ()), ())
theorem e_impl_SpanOf (x : InD I_impl_SpanOf) : execF ⟨E_impl_SpanOf, 24, D_impl_SpanOf_0⟩ Try.f17.results.toList B_impl_SpanOf I_impl_SpanOf U_impl_SpanOf x = raw_impl_SpanOf x.1 x.2.1 := by kernel_rfl
theorem ok0_impl_SpanOf : ConOk Try.prog 17 ⟨I_impl_SpanOf, U_impl_SpanOf, fun x => raw_impl_SpanOf x.1 x.2.1⟩ := conOk_exec (fr_impl_SpanOf_0) Try.func17 (by kernel_rfl) (by kernel_rfl) Try.ntmps17.symm (by decide) (fun x r h => (e_impl_SpanOf x).trans h)
noncomputable def n_impl_SpanOf (a0 : Int × Int) (a1 : Int × Int × Int × Int × (List Int)) : Int × Int :=
  let r1 := n_impl_CmdCode a0 a1
  bif (r1 != 0) then
    (0, 0)
  else
    bif (a1.1 == 4) then
      let r2 := n_impl_Blocks a0
      (0, r2)
    else
      let r3 := n_impl_runOf a1
      (a1.2.2.1, (IntKind.i64.wrap (a1.2.2.1 + r3)))
noncomputable def con_impl_SpanOf : Con := ⟨I_impl_SpanOf, U_impl_SpanOf, fun x => (fun n => some ((n.1, n.2, ()), ())) (n_impl_SpanOf x.1 x.2.1)⟩
theorem nn_impl_SpanOf (a0 : Int × Int) (a1 : Int × Int × Int × Int × (List Int)) : raw_impl_SpanOf a0 a1 = (fun n => some ((n.1, n.2, ()), ())) (n_impl_SpanOf a0 a1) := bif_ty (p := fun (n : Int × Int) => ((n.1, n.2, ()), ())) (bif_some (p := fun (n : Int × Int) => ((n.1, n.2, ()), ())) rfl (bif_some (p := fun (n : Int × Int) => ((n.1, n.2, ()), ())) rfl rfl))
theorem ok_impl_SpanOf : ConOk Try.prog 17 con_impl_SpanOf := (ok0_impl_SpanOf).mono (fun x r _ h => (nn_impl_SpanOf x.1 x.2.1).trans h)
end

/-! laws_eqIntS -/
section
noncomputable def B_laws_eqIntS : Code := (Try.f24.body).getD .skip
noncomputable def E_laws_eqIntS : Env := envOf TT [] []
theorem fr_laws_eqIntS_0 : FrOk Try.prog ⟨E_laws_eqIntS, 26, fun _ => none⟩ B_laws_eqIntS := frOk_base mixed tt_ok trivial
noncomputable def D_laws_eqIntS_0 : Nat → Option Seg := fun _ => none
def L_laws_eqIntS_29 : Shape := ⟨[(0, false, [.br tI]), (1, false, [.br tI]), (5, false, [.int .i64])], [], []⟩
def S_laws_eqIntS_29 : Shape := ⟨[(0, false, [.br tI]), (1, false, [.br tI]), (5, false, [.ci .i64 0])], [], []⟩
def O_laws_eqIntS_29 : Shape := ⟨[], [], []⟩
def Z_laws_eqIntS_29 : Shape := ⟨[(4, false, [.bool])], [], []⟩
noncomputable def st_laws_eqIntS_29 (v0 : List Int) (v1 : List Int) (v2 : Int) : Option ((L_laws_eqIntS_29).X ⊕ ((O_laws_eqIntS_29).X ⊕ (Z_laws_eqIntS_29).X)) :=
  bif (ltb v2 (v0.length : Int)) then
    bif (inb v2 v0.length) then
      bif (inb v2 v1.length) then
        bif ((nth v0 v2 0) != (nth v1 v2 0)) then
          some (.inr (.inr (((false, ()), ()), (), ())))
        else
          some (.inl (((v0, ()), (v1, ()), ((IntKind.i64.wrap (v2 + 1)), ()), ()), (), ()))
      else none
    else none
  else
    some (.inr (.inl ((), (), ())))
noncomputable def stx_laws_eqIntS_29 (x : (L_laws_eqIntS_29).X) := st_laws_eqIntS_29 x.1.1.1 x.1.2.1.1 x.1.2.2.1.1
def em_laws_eqIntS_29 (x : (S_laws_eqIntS_29).X) : (L_laws_eqIntS_29).X := (((x.1.1.1, ()), (x.1.2.1.1, ()), (0, ()), ()), (), ())
noncomputable def c_laws_eqIntS_29 : Code := (subN B_laws_eqIntS 64 116).getD .skip
theorem a_laws_eqIntS_29 : subN B_laws_eqIntS 64 29 = some (.block 0 (.loop c_laws_eqIntS_29)) := by kernel_rfl
theorem r_laws_eqIntS_29 (x : (L_laws_eqIntS_29).X) : roundT ⟨E_laws_eqIntS, 26, D_laws_eqIntS_0⟩ 0 c_laws_eqIntS_29 116 L_laws_eqIntS_29 O_laws_eqIntS_29 Z_laws_eqIntS_29 x = stx_laws_eqIntS_29 x := by kernel_rfl
noncomputable def fu_laws_eqIntS_29 (x : (S_laws_eqIntS_29).X) : Nat := (fun (u0 : List Int) (u1 : List Int) => 18446744073709551616) x.1.1.1 x.1.2.1.1
noncomputable def F_laws_eqIntS_29 (x : (S_laws_eqIntS_29).X) : Option ((O_laws_eqIntS_29).X ⊕ (Z_laws_eqIntS_29).X) := loopN stx_laws_eqIntS_29 (fu_laws_eqIntS_29 x) (em_laws_eqIntS_29 x)
noncomputable def sg_laws_eqIntS_29 : Seg := ⟨S_laws_eqIntS_29, O_laws_eqIntS_29, Z_laws_eqIntS_29, F_laws_eqIntS_29⟩
noncomputable def D_laws_eqIntS_1 : Nat → Option Seg := fun q => bif Nat.beq q 29 then some sg_laws_eqIntS_29 else D_laws_eqIntS_0 q
theorem fr_laws_eqIntS_1 : FrOk Try.prog ⟨E_laws_eqIntS, 26, D_laws_eqIntS_1⟩ B_laws_eqIntS := (fr_laws_eqIntS_0).loop (sg := sg_laws_eqIntS_29) L_laws_eqIntS_29 em_laws_eqIntS_29 (by decide) a_laws_eqIntS_29 stx_laws_eqIntS_29 fu_laws_eqIntS_29 (by decide) (fun _ => rfl) (fun x r _ h => h) r_laws_eqIntS_29
abbrev I_laws_eqIntS : List Par := [.rd tL, .rd tL]
abbrev U_laws_eqIntS : List OT := [⟨false, tB, .fz⟩]
noncomputable def raw_laws_eqIntS (a0 : List Int) (a1 : List Int) : Option (ResD U_laws_eqIntS × MutD I_laws_eqIntS) :=
  bif ((a0.length : Int) != (a1.length : Int)) then
    some ((false, ()), ())
  else
    segM (F_laws_eqIntS_29 (((a0, ()), (a1, ()), ((), ()), ()), (), ())) (fun y0 =>
      some ((true, ()), ())) (fun y0 =>
      some ((y0.1.1.1, ()), ()))
theorem e_laws_eqIntS (x : InD I_laws_eqIntS) : execF ⟨E_laws_eqIntS, 26, D_laws_eqIntS_1⟩ Try.f24.results.toList B_laws_eqIntS I_laws_eqIntS U_laws_eqIntS x = raw_laws_eqIntS x.1 x.2.1 := by kernel_rfl
theorem ok0_laws_eqIntS : ConOk Try.prog 24 ⟨I_laws_eqIntS, U_laws_eqIntS, fun x => raw_laws_eqIntS x.1 x.2.1⟩ := conOk_exec (fr_laws_eqIntS_1) Try.func24 (by kernel_rfl) (by kernel_rfl) Try.ntmps24.symm (by decide) (fun x r h => (e_laws_eqIntS x).trans h)
noncomputable def n_laws_eqIntS (a0 a1 : List Int) : Bool := decide (a0 = a1)
theorem nn_laws_eqIntS (a0 a1 : List Int) (hk : InOk I_laws_eqIntS (a0, a1, ())) : raw_laws_eqIntS a0 a1 = (fun n => some ((n, ()), ())) (n_laws_eqIntS a0 a1) := by
  have hb : a0.length * 8 ≤ 2 ^ 47 := hk.1.1
  have hl : a0.length = a1.length → F_laws_eqIntS_29 (((a0, ()), (a1, ()), ((), ()), ()), (), ()) = some (bif (List.range a0.length).any (fun i => a0.getD i 0 != a1.getD i 0) then .inr (((false, ()), ()), (), ()) else .inl ((), (), ())) := fun hL =>
    loopN_all (step := stx_laws_eqIntS_29) (fun i => (((a0, ()), (a1, ()), ((i : Int), ()), ()), (), ())) a0.length (fun i => a0.getD i 0 != a1.getD i 0) _ _ (fun i hi => by
      simp only [stx_laws_eqIntS_29, st_laws_eqIntS_29, inb_nat hi, inb_nat (hL ▸ hi), nth_nat, ltb_t (show (i : Int) < a0.length by omega), cond_true, wr (show -9223372036854775808 ≤ (i : Int) + 1 by omega) (by omega), Int.natCast_add, Int.natCast_one]
      cases (a0.getD i 0 != a1.getD i 0) <;> rfl) (by simp only [stx_laws_eqIntS_29, st_laws_eqIntS_29, ltb_f (Int.le_refl _), cond_false]) _ (by show _ < 18446744073709551616; omega)
  unfold raw_laws_eqIntS n_laws_eqIntS
  by_cases h : a0.length = a1.length
  · rw [show ((a0.length : Int) != (a1.length : Int)) = false by simp [h], bif_f, hl h]
    by_cases e : a0 = a1
    · subst e
      have : (List.range a0.length).any (fun i => a0.getD i 0 != a0.getD i 0) = false := by simp
      rw [this, decide_eq_true rfl]
      rfl
    · have : (List.range a0.length).any (fun i => a0.getD i 0 != a1.getD i 0) = true := by
        rcases Bool.eq_false_or_eq_true ((List.range a0.length).any (fun i => a0.getD i 0 != a1.getD i 0)) with h2 | h2
        · exact h2
        · refine absurd (List.ext_getElem h fun i h3 h4 => ?_) e
          rw [List.any_eq_false] at h2
          have := h2 i (List.mem_range.2 h3)
          simpa [h3, h4] using this
      rw [this, decide_eq_false e]
      rfl
  · rw [show ((a0.length : Int) != (a1.length : Int)) = true from bne_iff_ne.2 (by omega), bif_t, decide_eq_false (fun e => h (congrArg _ e))]
theorem eqd_laws_eqIntS (a b : List Int) : n_laws_eqIntS a b = decide (a = b) := rfl
noncomputable def con_laws_eqIntS : Con := ⟨I_laws_eqIntS, U_laws_eqIntS, fun x => (fun n => some ((n, ()), ())) (n_laws_eqIntS x.1 x.2.1)⟩
theorem ok_laws_eqIntS : ConOk Try.prog 24 con_laws_eqIntS := (ok0_laws_eqIntS).mono (fun x r hk h => (nn_laws_eqIntS x.1 x.2.1 hk).trans h)
theorem eqr_laws_eqIntS (a : List Int) : n_laws_eqIntS a a = true := by rw [eqd_laws_eqIntS]; exact decide_eq_true rfl
end

/-! laws_eqCmd -/
section
noncomputable def B_laws_eqCmd : Code := (Try.f18.body).getD .skip
noncomputable def E_laws_eqCmd : Env := envOf TT [(24, con_laws_eqIntS)] []
theorem fr_laws_eqCmd_0 : FrOk Try.prog ⟨E_laws_eqCmd, 31, fun _ => none⟩ B_laws_eqCmd := frOk_base mixed tt_ok ⟨ok_laws_eqIntS, trivial⟩
noncomputable def D_laws_eqCmd_0 : Nat → Option Seg := fun _ => none
abbrev I_laws_eqCmd : List Par := [.rd tC, .rd tC]
abbrev U_laws_eqCmd : List OT := [⟨false, tB, .fz⟩]
noncomputable def raw_laws_eqCmd (a0 : Int × Int × Int × Int × (List Int)) (a1 : Int × Int × Int × Int × (List Int)) : Option (ResD U_laws_eqCmd × MutD I_laws_eqCmd) :=
  bif (a0.1 != a1.1) then
    some ((false, ()), ())
  else
    bif (a0.2.1 != a1.2.1) then
      some ((false, ()), ())
    else
      bif (a0.2.2.1 != a1.2.2.1) then
        some ((false, ()), ())
      else
        bif (a0.2.2.2.1 != a1.2.2.2.1) then
          some ((false, ()), ())
        else
          let r1 := n_laws_eqIntS a0.2.2.2.2 a1.2.2.2.2
          bif (!r1) then
            some ((false, ()), ())
          else
            some ((true, ()), ())
theorem e_laws_eqCmd (x : InD I_laws_eqCmd) : execF ⟨E_laws_eqCmd, 31, D_laws_eqCmd_0⟩ Try.f18.results.toList B_laws_eqCmd I_laws_eqCmd U_laws_eqCmd x = raw_laws_eqCmd x.1 x.2.1 := by kernel_rfl
theorem ok0_laws_eqCmd : ConOk Try.prog 18 ⟨I_laws_eqCmd, U_laws_eqCmd, fun x => raw_laws_eqCmd x.1 x.2.1⟩ := conOk_exec (fr_laws_eqCmd_0) Try.func18 (by kernel_rfl) (by kernel_rfl) Try.ntmps18.symm (by decide) (fun x r h => (e_laws_eqCmd x).trans h)
noncomputable def n_laws_eqCmd (a0 : Int × Int × Int × Int × (List Int)) (a1 : Int × Int × Int × Int × (List Int)) : Bool :=
  bif (a0.1 != a1.1) then
    false
  else
    bif (a0.2.1 != a1.2.1) then
      false
    else
      bif (a0.2.2.1 != a1.2.2.1) then
        false
      else
        bif (a0.2.2.2.1 != a1.2.2.2.1) then
          false
        else
          let r1 := n_laws_eqIntS a0.2.2.2.2 a1.2.2.2.2
          bif (!r1) then
            false
          else
            true
noncomputable def con_laws_eqCmd : Con := ⟨I_laws_eqCmd, U_laws_eqCmd, fun x => (fun n => some ((n, ()), ())) (n_laws_eqCmd x.1 x.2.1)⟩
theorem nn_laws_eqCmd (a0 : Int × Int × Int × Int × (List Int)) (a1 : Int × Int × Int × Int × (List Int)) : raw_laws_eqCmd a0 a1 = (fun n => some ((n, ()), ())) (n_laws_eqCmd a0 a1) := bif_ty (p := fun (n : Bool) => ((n, ()), ())) (bif_some (p := fun (n : Bool) => ((n, ()), ())) rfl (bif_some (p := fun (n : Bool) => ((n, ()), ())) rfl (bif_some (p := fun (n : Bool) => ((n, ()), ())) rfl (bif_some (p := fun (n : Bool) => ((n, ()), ())) rfl (bif_some (p := fun (n : Bool) => ((n, ()), ())) rfl rfl)))))
theorem ok_laws_eqCmd : ConOk Try.prog 18 con_laws_eqCmd := (ok0_laws_eqCmd).mono (fun x r _ h => (nn_laws_eqCmd x.1 x.2.1).trans h)
theorem eqd_laws_eqCmd (a b : Int × Int × Int × Int × (List Int)) : n_laws_eqCmd a b = decide (a = b) := by
  unfold n_laws_eqCmd
  simp only [eq_step1, eq_step2, eq_step3, eq_step4, eq_step5, eqd_laws_eqIntS, Prod.ext_iff, Bool.decide_and, Bool.and_true]
theorem eqr_laws_eqCmd (a : Int × Int × Int × Int × (List Int)) : n_laws_eqCmd a a = true := by rw [eqd_laws_eqCmd]; exact decide_eq_true rfl
theorem eqInt_refl (a : List Int) : n_laws_eqIntS a a = true := by unfold n_laws_eqIntS; simp
theorem eqCmd_refl (a : Int × Int × Int × Int × List Int) : n_laws_eqCmd a a = true := by unfold n_laws_eqCmd; simp only [bne_self_eq_false, cond_false, eqInt_refl, Bool.not_true]
end
end Go.Tf
