/- Functions of the program, and what they come to. -/
import Derived.Test.YtmamkjioahnecabExactFailDiskF15
namespace Go.Tf
open Go.Proofs
set_option synthInstance.maxHeartbeats 400000
set_option synthInstance.maxSize 10000
set_option linter.unusedVariables false
set_option linter.unusedSimpArgs false
set_option maxRecDepth 100000
/-! laws_heldArr -/
section
noncomputable def B_laws_heldArr : Code := (Try.f14.body).getD .skip
noncomputable def E_laws_heldArr : Env := envOf TT [(44, con_laws_heldMemS), (45, con_laws_heldEntS)] []
theorem fr_laws_heldArr_0 : FrOk Try.prog ⟨E_laws_heldArr, 18, fun _ => none⟩ B_laws_heldArr := frOk_base mixed tt_ok ⟨ok_laws_heldMemS, ok_laws_heldEntS, trivial⟩
noncomputable def D_laws_heldArr_0 : Nat → Option Seg := fun _ => none
abbrev I_laws_heldArr : List Par := [.rd tA, .rd tI]
abbrev U_laws_heldArr : List OT := [⟨false, tI, .fz⟩]
noncomputable def raw_laws_heldArr (a0 : dA) (a1 : Int) : Option (ResD U_laws_heldArr × MutD I_laws_heldArr) :=
  let r1 := n_laws_heldMemS a0.2.2.1 a1
  bif (ltb r1 0) then
    some (((-1), ()), ())
  else
    let r2 := n_laws_heldEntS a0.2.2.2.2.2.2.2.2.1 r1
    bif (ltb r2 0) then
      some (((-1), ()), ())
    else
      some ((r2, ()), ())
theorem e_laws_heldArr (x : InD I_laws_heldArr) : execF ⟨E_laws_heldArr, 18, D_laws_heldArr_0⟩ Try.f14.results.toList B_laws_heldArr I_laws_heldArr U_laws_heldArr x = raw_laws_heldArr x.1 x.2.1 := by kernel_rfl
theorem ok0_laws_heldArr : ConOk Try.prog 14 ⟨I_laws_heldArr, U_laws_heldArr, fun x => raw_laws_heldArr x.1 x.2.1⟩ := conOk_exec (fr_laws_heldArr_0) Try.func14 (by kernel_rfl) (by kernel_rfl) Try.ntmps14.symm (by decide) (fun x r h => (e_laws_heldArr x).trans h)
noncomputable def n_laws_heldArr (a0 : dA) (a1 : Int) : Int :=
  let r1 := n_laws_heldMemS a0.2.2.1 a1
  bif (ltb r1 0) then
    (-1)
  else
    let r2 := n_laws_heldEntS a0.2.2.2.2.2.2.2.2.1 r1
    bif (ltb r2 0) then
      (-1)
    else
      r2
noncomputable def con_laws_heldArr : Con := ⟨I_laws_heldArr, U_laws_heldArr, fun x => (fun n => some ((n, ()), ())) (n_laws_heldArr x.1 x.2.1)⟩
theorem nn_laws_heldArr (a0 : dA) (a1 : Int) : raw_laws_heldArr a0 a1 = (fun n => some ((n, ()), ())) (n_laws_heldArr a0 a1) := bif_ty (p := fun (n : Int) => ((n, ()), ())) (bif_some (p := fun (n : Int) => ((n, ()), ())) rfl (bif_some (p := fun (n : Int) => ((n, ()), ())) rfl rfl))
theorem ok_laws_heldArr : ConOk Try.prog 14 con_laws_heldArr := (ok0_laws_heldArr).mono (fun x r _ h => (nn_laws_heldArr x.1 x.2.1).trans h)
theorem mk_arr {x : dA} (h : mArr x ≤ 4611686018427387904) : (n_laws_markArr x 1).1 = 1 + (mArr x : Nat) ∧ n_laws_heldArr (n_laws_markArr x 1).2 1 = 1 + (mArr x : Nat) := by
  unfold mArr at h ⊢
  obtain ⟨a1, a2⟩ := held_memS x.2.2.1 1 (by omega) (by omega)
  obtain ⟨b1, b2⟩ := held_entS x.2.2.2.2.2.2.2.2.1 (1 + (mMems x.2.2.1 : Nat)) (by omega) (by omega)
  unfold n_laws_markArr n_laws_heldArr
  simp only [n_laws_markMemS, n_laws_markEntS, n_laws_heldMemS, n_laws_heldEntS, a1, a2, b1, b2, Option.getD_some]
  rw [ltb_f (show (0 : Int) ≤ 1 + (mMems x.2.2.1 : Nat) by omega), cond_false, ltb_f (by omega), cond_false]
  omega
/-- a result with its marks -/
noncomputable abbrev markedA (x : dA) : dA := (x.1, x.2.1, (n_laws_markArr x 1).2.2.2.1, x.2.2.2.1, x.2.2.2.2.1, x.2.2.2.2.2.1, x.2.2.2.2.2.2.1, x.2.2.2.2.2.2.2.1, (n_laws_markArr x 1).2.2.2.2.2.2.2.2.2.1, x.2.2.2.2.2.2.2.2.2)
theorem mk_arr3 {x : dA} (h : mArr x ≤ 4611686018427387904) : ltb (n_laws_markArr x 1).1 0 = false ∧ ltb (n_laws_heldArr (markedA x) 1) 0 = false ∧ (n_laws_heldArr (markedA x) 1 != (n_laws_markArr x 1).1) = false := by
  obtain ⟨h1, h2⟩ := mk_arr h
  rw [show markedA x = (n_laws_markArr x 1).2 from rfl, h1, h2]
  exact ⟨ltb_f (by omega), ltb_f (by omega), by simp⟩
end

/-! laws_FnExactFailDisk -/
section
noncomputable def B_laws_FnExactFailDisk : Code := (Try.f4.body).getD .skip
noncomputable def E_laws_FnExactFailDisk : Env := envOf TT [(6, con_laws_szArr), (8, con_laws_toArr), (10, con_laws_eqArr), (11, con_spec_FailDisk), (12, con_impl_FailDisk), (13, con_laws_markArr), (14, con_laws_heldArr)] []
theorem fr_laws_FnExactFailDisk_0 : FrOk Try.prog ⟨E_laws_FnExactFailDisk, 74, fun _ => none⟩ B_laws_FnExactFailDisk := frOk_base mixed tt_ok ⟨ok_laws_szArr, ok_laws_toArr, ok_laws_eqArr, ok_spec_FailDisk, ok_impl_FailDisk, ok_laws_markArr, ok_laws_heldArr, trivial⟩
noncomputable def D_laws_FnExactFailDisk_0 : Nat → Option Seg := fun _ => none
abbrev I_laws_FnExactFailDisk : List Par := [.rd tA, .rd tI]
abbrev U_laws_FnExactFailDisk : List OT := [⟨false, tB, .fz⟩]
noncomputable def raw_laws_FnExactFailDisk (a0 : dA) (a1 : Int) : Option (ResD U_laws_FnExactFailDisk × MutD I_laws_FnExactFailDisk) :=
  let r1 := n_laws_szArr a0 1048576
  bif (ltb r1 0) then
    some ((true, ()), ())
  else
    let r2 := n_laws_toArr a0
    let r3 := n_spec_FailDisk r2 a1
    let r4 := n_laws_toArr a0
    let r5 := n_impl_FailDisk r4 a1
    let r6 := n_laws_eqArr r5 r3
    bif (!r6) then
      some ((false, ()), ())
    else
      let r7 := n_laws_toArr a0
      let r8 := n_laws_eqArr r4 r7
      bif (!r8) then
        some ((false, ()), ())
      else
        let r9 := n_laws_markArr r4 1
        bif (!(ltb r9.1 0)) then
          let r10 := n_laws_eqArr r5 r3
          bif (!r10) then
            some ((false, ()), ())
          else
            let r11 := n_laws_markArr r5 1
            let r12 := n_laws_heldArr (r5.1, r5.2.1, r11.2.2.2.1, r5.2.2.2.1, r5.2.2.2.2.1, r5.2.2.2.2.2.1, r5.2.2.2.2.2.2.1, r5.2.2.2.2.2.2.2.1, r11.2.2.2.2.2.2.2.2.2.1, r5.2.2.2.2.2.2.2.2.2) 1
            bif (ltb r12 0) then
              some ((false, ()), ())
            else
              bif (r12 != r11.1) then
                some ((false, ()), ())
              else
                let r13 := n_laws_toArr a0
                let r14 := n_impl_FailDisk r13 a1
                let r15 := n_laws_eqArr r14 r3
                bif (!r15) then
                  some ((false, ()), ())
                else
                  let r16 := n_laws_heldArr (r5.1, r5.2.1, r11.2.2.2.1, r5.2.2.2.1, r5.2.2.2.2.1, r5.2.2.2.2.2.1, r5.2.2.2.2.2.2.1, r5.2.2.2.2.2.2.2.1, r11.2.2.2.2.2.2.2.2.2.1, r5.2.2.2.2.2.2.2.2.2) 1
                  bif (ltb r16 0) then
                    some ((false, ()), ())
                  else
                    bif (r16 != r11.1) then
                      some ((false, ()), ())
                    else
                      some ((true, ()), ())
        else
          some ((false, ()), ())
theorem e_laws_FnExactFailDisk (x : InD I_laws_FnExactFailDisk) : execF ⟨E_laws_FnExactFailDisk, 74, D_laws_FnExactFailDisk_0⟩ Try.f4.results.toList B_laws_FnExactFailDisk I_laws_FnExactFailDisk U_laws_FnExactFailDisk x = raw_laws_FnExactFailDisk x.1 x.2.1 := by kernel_rfl
theorem ok0_laws_FnExactFailDisk : ConOk Try.prog 4 ⟨I_laws_FnExactFailDisk, U_laws_FnExactFailDisk, fun x => raw_laws_FnExactFailDisk x.1 x.2.1⟩ := conOk_exec (fr_laws_FnExactFailDisk_0) Try.func4 (by kernel_rfl) (by kernel_rfl) Try.ntmps4.symm (by decide) (fun x r h => (e_laws_FnExactFailDisk x).trans h)
noncomputable def n_laws_FnExactFailDisk (a0 : dA) (a1 : Int) : Bool := true
theorem nn_laws_FnExactFailDisk (a0 : dA) (a1 : Int) (hk : InOk I_laws_FnExactFailDisk (a0, a1, ())) : raw_laws_FnExactFailDisk a0 a1 = (fun n => some ((n, ()), ())) (n_laws_FnExactFailDisk a0 a1) := by
  unfold raw_laws_FnExactFailDisk n_laws_FnExactFailDisk n_impl_FailDisk n_spec_FailDisk
  cases h : ltb (n_laws_szArr a0 1048576) 0
  · have hs := szArr_le (a := a0) hk.1 h
    have hf := failDisk_small (m := a1) hs
    obtain ⟨f1, f2, f3⟩ := mk_arr3 (x := a0) (by omega)
    obtain ⟨g1, g2, g3⟩ := mk_arr3 (x := failDisk a0 a1) (by omega)
    simp only [h, id_laws_toArr, eqr_laws_eqArr, Bool.not_true, Bool.not_false, cond_true, cond_false, f1, g2, g3]
  · simp only [h, cond_true]
noncomputable def con_laws_FnExactFailDisk : Con := ⟨I_laws_FnExactFailDisk, U_laws_FnExactFailDisk, fun x => (fun n => some ((n, ()), ())) (n_laws_FnExactFailDisk x.1 x.2.1)⟩
theorem ok_laws_FnExactFailDisk : ConOk Try.prog 4 con_laws_FnExactFailDisk := (ok0_laws_FnExactFailDisk).mono (fun x r hk h => (nn_laws_FnExactFailDisk x.1 x.2.1 hk).trans h)
end
end Go.Tf
