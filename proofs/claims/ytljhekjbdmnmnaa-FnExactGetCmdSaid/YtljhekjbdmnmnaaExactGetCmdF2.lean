/- Functions of the program, and what they come to. -/
import Derived.Test.YtljhekjbdmnmnaaExactGetCmdF1
namespace Go.Tf
open Go.Proofs
set_option linter.unusedVariables false
set_option linter.unusedSimpArgs false
set_option maxRecDepth 100000
/-! laws_eqCmd -/
section
noncomputable def B_laws_eqCmd : Code := (Try.f19.body).getD .skip
noncomputable def E_laws_eqCmd : Env := envOf TT [(12, con_laws_eqIntS)] []
theorem fr_laws_eqCmd_0 : FrOk Try.prog ⟨E_laws_eqCmd, 31, fun _ => none⟩ B_laws_eqCmd := frOk_base mixed tt_ok ⟨ok_laws_eqIntS, trivial⟩
noncomputable def D_laws_eqCmd_0 : Nat → Option Seg := fun _ => none
abbrev I_laws_eqCmd : List Par := [.rd tC, .rd tC]
abbrev U_laws_eqCmd : List OT := [⟨false, tB, .fz⟩]
noncomputable def raw_laws_eqCmd (a0 : Int × Int × Int × Int × (List Int)) (a1 : Int × Int × Int × Int × (List Int)) : Option (ResD U_laws_eqCmd × MutD I_laws_eqCmd) :=
  bif (a0.1 != a1.1) then
    some ((false, ()), ())
  else
    bif (a0.2.1 != a1.2.1) then
      some ((false, ()), ())
    else
      bif (a0.2.2.1 != a1.2.2.1) then
        some ((false, ()), ())
      else
        bif (a0.2.2.2.1 != a1.2.2.2.1) then
          some ((false, ()), ())
        else
          let r1 := n_laws_eqIntS a0.2.2.2.2 a1.2.2.2.2
          bif (!r1) then
            some ((false, ()), ())
          else
            some ((true, ()), ())
theorem e_laws_eqCmd (x : InD I_laws_eqCmd) : execF ⟨E_laws_eqCmd, 31, D_laws_eqCmd_0⟩ Try.f19.results.toList B_laws_eqCmd I_laws_eqCmd U_laws_eqCmd x = raw_laws_eqCmd x.1 x.2.1 := by kernel_rfl
theorem ok0_laws_eqCmd : ConOk Try.prog 19 ⟨I_laws_eqCmd, U_laws_eqCmd, fun x => raw_laws_eqCmd x.1 x.2.1⟩ := conOk_exec (fr_laws_eqCmd_0) Try.func19 (by kernel_rfl) (by kernel_rfl) Try.ntmps19.symm (by decide) (fun x r h => (e_laws_eqCmd x).trans h)
noncomputable def n_laws_eqCmd (a0 : Int × Int × Int × Int × (List Int)) (a1 : Int × Int × Int × Int × (List Int)) : Bool :=
  bif (a0.1 != a1.1) then
    false
  else
    bif (a0.2.1 != a1.2.1) then
      false
    else
      bif (a0.2.2.1 != a1.2.2.1) then
        false
      else
        bif (a0.2.2.2.1 != a1.2.2.2.1) then
          false
        else
          let r1 := n_laws_eqIntS a0.2.2.2.2 a1.2.2.2.2
          bif (!r1) then
            false
          else
            true
noncomputable def con_laws_eqCmd : Con := ⟨I_laws_eqCmd, U_laws_eqCmd, fun x => (fun n => some ((n, ()), ())) (n_laws_eqCmd x.1 x.2.1)⟩
theorem nn_laws_eqCmd (a0 : Int × Int × Int × Int × (List Int)) (a1 : Int × Int × Int × Int × (List Int)) : raw_laws_eqCmd a0 a1 = (fun n => some ((n, ()), ())) (n_laws_eqCmd a0 a1) := bif_ty (p := fun (n : Bool) => ((n, ()), ())) (bif_some (p := fun (n : Bool) => ((n, ()), ())) rfl (bif_some (p := fun (n : Bool) => ((n, ()), ())) rfl (bif_some (p := fun (n : Bool) => ((n, ()), ())) rfl (bif_some (p := fun (n : Bool) => ((n, ()), ())) rfl (bif_some (p := fun (n : Bool) => ((n, ()), ())) rfl rfl)))))
theorem ok_laws_eqCmd : ConOk Try.prog 19 con_laws_eqCmd := (ok0_laws_eqCmd).mono (fun x r _ h => (nn_laws_eqCmd x.1 x.2.1).trans h)
theorem eqInt_refl (a : List Int) : n_laws_eqIntS a a = true := by unfold n_laws_eqIntS; simp
theorem eqCmd_refl (a : Int × Int × Int × Int × List Int) : n_laws_eqCmd a a = true := by unfold n_laws_eqCmd; simp only [bne_self_eq_false, cond_false, eqInt_refl, Bool.not_true]
end

/-! laws_markCmd -/
section
noncomputable def B_laws_markCmd : Code := (Try.f20.body).getD .skip
noncomputable def E_laws_markCmd : Env := envOf TT [(13, con_laws_markIntS)] []
theorem fr_laws_markCmd_0 : FrOk Try.prog ⟨E_laws_markCmd, 10, fun _ => none⟩ B_laws_markCmd := frOk_base mixed tt_ok ⟨ok_laws_markIntS, trivial⟩
noncomputable def D_laws_markCmd_0 : Nat → Option Seg := fun _ => none
abbrev I_laws_markCmd : List Par := [.mt tC (.pr .fz (.pr .fz (.pr .fz (.pr .fz (.ow .fz))))), .rd tI]
abbrev U_laws_markCmd : List OT := [⟨false, tI, .fz⟩]
noncomputable def raw_laws_markCmd (a0 : Int × Int × Int × Int × (List Int)) (a1 : Int) : Option (ResD U_laws_markCmd × MutD I_laws_markCmd) :=
  let r1 := n_laws_markIntS a0.2.2.2.2 a1
  some ((r1.1, ()), ((a0.1, a0.2.1, a0.2.2.1, a0.2.2.2.1, r1.2), ()))
theorem e_laws_markCmd (x : InD I_laws_markCmd) : execF ⟨E_laws_markCmd, 10, D_laws_markCmd_0⟩ Try.f20.results.toList B_laws_markCmd I_laws_markCmd U_laws_markCmd x = raw_laws_markCmd x.1 x.2.1 := by kernel_rfl
theorem ok0_laws_markCmd : ConOk Try.prog 20 ⟨I_laws_markCmd, U_laws_markCmd, fun x => raw_laws_markCmd x.1 x.2.1⟩ := conOk_exec (fr_laws_markCmd_0) Try.func20 (by kernel_rfl) (by kernel_rfl) Try.ntmps20.symm (by decide) (fun x r h => (e_laws_markCmd x).trans h)
noncomputable def n_laws_markCmd (a0 : Int × Int × Int × Int × (List Int)) (a1 : Int) : Int × (Int × Int × Int × Int × (List Int)) :=
  let r1 := n_laws_markIntS a0.2.2.2.2 a1
  (r1.1, (a0.1, a0.2.1, a0.2.2.1, a0.2.2.2.1, r1.2))
noncomputable def con_laws_markCmd : Con := ⟨I_laws_markCmd, U_laws_markCmd, fun x => (fun n => some ((n.1, ()), (n.2, ()))) (n_laws_markCmd x.1 x.2.1)⟩
theorem nn_laws_markCmd (a0 : Int × Int × Int × Int × (List Int)) (a1 : Int) : raw_laws_markCmd a0 a1 = (fun n => some ((n.1, ()), (n.2, ()))) (n_laws_markCmd a0 a1) := bif_ty (p := fun (n : Int × (Int × Int × Int × Int × (List Int))) => ((n.1, ()), (n.2, ()))) rfl
theorem ok_laws_markCmd : ConOk Try.prog 20 con_laws_markCmd := (ok0_laws_markCmd).mono (fun x r _ h => (nn_laws_markCmd x.1 x.2.1).trans h)
theorem markEnd_eq : ∀ (n : Nat) (k : Int), 0 ≤ k → k + n ≤ 9223372036854775807 → markEnd k n = k + n
  | 0, k, _, _ => by simp [markEnd]
  | n + 1, k, h, h2 => by
    rw [markEnd, wr (by omega) (by omega), markEnd_eq n (k + 1) (by omega) (by omega)]; omega
theorem markEnd_nn {n : Nat} (h : n ≤ 4611686018427387903) : ¬ markEnd 1 n < 0 := by rw [markEnd_eq n 1 (by omega) (by omega)]; omega
theorem dmark {n : Nat} (h : n ≤ 4611686018427387903) : ltb (markEnd 1 n) 0 = false := ltb_f (Int.not_lt.1 (markEnd_nn h))
end

/-! spec_GetCmd -/
section
noncomputable def B_spec_GetCmd : Code := (Try.f21.body).getD .skip
noncomputable def E_spec_GetCmd : Env := envOf TT [(16, con_spec_PutCmd)] []
theorem fr_spec_GetCmd_0 : FrOk Try.prog ⟨E_spec_GetCmd, 41, fun _ => none⟩ B_spec_GetCmd := frOk_base mixed tt_ok ⟨ok_spec_PutCmd, trivial⟩
noncomputable def D_spec_GetCmd_0 : Nat → Option Seg := fun _ => none
abbrev I_spec_GetCmd : List Par := [.rd tL]
abbrev U_spec_GetCmd : List OT := [⟨false, tC, (.pr .fz (.pr .fz (.pr .fz (.pr .fz (.ow .fz)))))⟩, ⟨false, tB, .fz⟩]
noncomputable def raw_spec_GetCmd (a0 : List Int) : Option (ResD U_spec_GetCmd × MutD I_spec_GetCmd) :=
  bif (!(ltb (a0.length : Int) 5)) then
    bif (inb 4 a0.length) then
      bif ((nth a0 4 0) != (IntKind.i64.wrap ((a0.length : Int) - 5))) then
        some (((0, 0, 0, 0, []), false, ()), ())
      else
        bif (inb 0 a0.length) then
          bif (inb 1 a0.length) then
            bif (inb 2 a0.length) then
              bif (inb 3 a0.length) then
                bif (cutok 5 (a0.length : Int) a0.length) then
                  bif (apok ([] : List Int).length ((a0.drop (5 : Int).toNat).take ((a0.length : Int) - 5).toNat).length 8) then
                    bnd (raw_spec_PutCmd ((nth a0 0 0), (nth a0 1 0), (nth a0 2 0), (nth a0 3 0), (([] : List Int) ++ ((a0.drop (5 : Int).toNat).take ((a0.length : Int) - 5).toNat)))) fun r1 =>
                    bif ((r1.1.1.length : Int) == 0) then
                      some (((0, 0, 0, 0, []), false, ()), ())
                    else
                      some ((((nth a0 0 0), (nth a0 1 0), (nth a0 2 0), (nth a0 3 0), (([] : List Int) ++ ((a0.drop (5 : Int).toNat).take ((a0.length : Int) - 5).toNat))), true, ()), ())
                  else none
                else none
              else none
            else none
          else none
        else none
    else none
  else
    some (((0, 0, 0, 0, []), false, ()), ())
theorem e_spec_GetCmd (x : InD I_spec_GetCmd) : execF ⟨E_spec_GetCmd, 41, D_spec_GetCmd_0⟩ Try.f21.results.toList B_spec_GetCmd I_spec_GetCmd U_spec_GetCmd x = raw_spec_GetCmd x.1 := by kernel_rfl
theorem ok0_spec_GetCmd : ConOk Try.prog 21 ⟨I_spec_GetCmd, U_spec_GetCmd, fun x => raw_spec_GetCmd x.1⟩ := conOk_exec (fr_spec_GetCmd_0) Try.func21 (by kernel_rfl) (by kernel_rfl) Try.ntmps21.symm (by decide) (fun x r h => (e_spec_GetCmd x).trans h)
noncomputable def n_spec_GetCmd (l : List Int) : (Int × Int × Int × Int × List Int) × Bool :=
  bif leb 5 (l.length : Int) && (nth l 4 0 == (l.length : Int) - 5) && !((pPut (nth l 0 0, nth l 1 0, nth l 2 0, nth l 3 0, l.drop 5)).length : Int) == 0 then ((nth l 0 0, nth l 1 0, nth l 2 0, nth l 3 0, l.drop 5), true) else ((0, 0, 0, 0, []), false)
theorem nn_spec_GetCmd (a0 : List Int) (hk : InOk I_spec_GetCmd (a0, ())) : raw_spec_GetCmd a0 = (fun n => some ((n.1, n.2, ()), ())) (n_spec_GetCmd a0) := by
  have hb : a0.length * 8 ≤ 2 ^ 47 := hk.1.1
  unfold raw_spec_GetCmd n_spec_GetCmd
  by_cases h : (a0.length : Int) < 5
  · rw [ltb_t h, leb_f h]; rfl
  · have ht : (a0.drop (5 : Int).toNat).take ((a0.length : Int) - 5).toNat = a0.drop 5 := List.take_of_length_le (by rw [List.length_drop]; show a0.length - 5 ≤ _; omega)
    rw [ltb_f (Int.not_lt.1 h), leb_t (Int.not_lt.1 h)]
    simp only [Bool.not_false, cond_true, inb_iff.2 (show (0 : Int) ≤ 4 ∧ (4 : Int) < a0.length by omega), inb_iff.2 (show (0 : Int) ≤ 0 ∧ (0 : Int) < a0.length by omega), inb_iff.2 (show (0 : Int) ≤ 1 ∧ (1 : Int) < a0.length by omega),
      inb_iff.2 (show (0 : Int) ≤ 2 ∧ (2 : Int) < a0.length by omega), inb_iff.2 (show (0 : Int) ≤ 3 ∧ (3 : Int) < a0.length by omega), cutok_iff.2 (show (0 : Int) ≤ 5 ∧ (5 : Int) ≤ a0.length ∧ (a0.length : Int) ≤ a0.length by omega), ht, List.nil_append,
      apok_iff.2 (show (([] : List Int).length + (a0.drop 5).length) * 8 ≤ 140737488355328 by rw [List.length_nil, List.length_drop]; omega), w_spec_PutCmd (nth a0 0 0, nth a0 1 0, nth a0 2 0, nth a0 3 0, a0.drop 5) (by show (a0.drop 5).length ≤ _; rw [List.length_drop]; omega),
      bnd_some, wr (show -9223372036854775808 ≤ (a0.length : Int) - 5 by omega) (by omega), bne, Bool.true_and]
    cases (nth a0 4 0 == (a0.length : Int) - 5)
    · rfl
    · cases (((pPut (nth a0 0 0, nth a0 1 0, nth a0 2 0, nth a0 3 0, a0.drop 5)).length : Int) == 0) <;> rfl
noncomputable def con_spec_GetCmd : Con := ⟨I_spec_GetCmd, U_spec_GetCmd, fun x => (fun n => some ((n.1, n.2, ()), ())) (n_spec_GetCmd x.1)⟩
theorem ok_spec_GetCmd : ConOk Try.prog 21 con_spec_GetCmd := (ok0_spec_GetCmd).mono (fun x r hk h => (nn_spec_GetCmd x.1 hk).trans h)
end

/-! impl_copyInts -/
section
noncomputable def B_impl_copyInts : Code := (Try.f42.body).getD .skip
noncomputable def E_impl_copyInts : Env := envOf TT [] []
theorem fr_impl_copyInts_0 : FrOk Try.prog ⟨E_impl_copyInts, 6, fun _ => none⟩ B_impl_copyInts := frOk_base mixed tt_ok trivial
noncomputable def D_impl_copyInts_0 : Nat → Option Seg := fun _ => none
abbrev I_impl_copyInts : List Par := [.rd tL]
abbrev U_impl_copyInts : List OT := [⟨false, tL, (.ow .fz)⟩]
noncomputable def raw_impl_copyInts (a0 : List Int) : Option (ResD U_impl_copyInts × MutD I_impl_copyInts) :=
  bif (apok ([] : List Int).length a0.length 8) then
    some (((([] : List Int) ++ a0), ()), ())
  else none
theorem e_impl_copyInts (x : InD I_impl_copyInts) : execF ⟨E_impl_copyInts, 6, D_impl_copyInts_0⟩ Try.f42.results.toList B_impl_copyInts I_impl_copyInts U_impl_copyInts x = raw_impl_copyInts x.1 := by kernel_rfl
theorem ok0_impl_copyInts : ConOk Try.prog 42 ⟨I_impl_copyInts, U_impl_copyInts, fun x => raw_impl_copyInts x.1⟩ := conOk_exec (fr_impl_copyInts_0) Try.func42 (by kernel_rfl) (by kernel_rfl) Try.ntmps42.symm (by decide) (fun x r h => (e_impl_copyInts x).trans h)
noncomputable def n_impl_copyInts (a0 : List Int) : List Int := a0
theorem nn_impl_copyInts (a0 : List Int) (hk : InOk I_impl_copyInts (a0, ())) : raw_impl_copyInts a0 = (fun n => some ((n, ()), ())) (n_impl_copyInts a0) := by
  have hb : a0.length * 8 ≤ 2 ^ 47 := hk.1.1
  unfold raw_impl_copyInts n_impl_copyInts
  rw [show apok ([] : List Int).length a0.length 8 = true by rw [apok_iff, List.length_nil]; omega]
  rfl
noncomputable def con_impl_copyInts : Con := ⟨I_impl_copyInts, U_impl_copyInts, fun x => (fun n => some ((n, ()), ())) (n_impl_copyInts x.1)⟩
theorem ok_impl_copyInts : ConOk Try.prog 42 con_impl_copyInts := (ok0_impl_copyInts).mono (fun x r hk h => (nn_impl_copyInts x.1 hk).trans h)
end

/-! impl_GetCmd -/
section
noncomputable def B_impl_GetCmd : Code := (Try.f23.body).getD .skip
noncomputable def E_impl_GetCmd : Env := envOf TT [(18, con_impl_PutCmd), (42, con_impl_copyInts)] []
theorem fr_impl_GetCmd_0 : FrOk Try.prog ⟨E_impl_GetCmd, 40, fun _ => none⟩ B_impl_GetCmd := frOk_base mixed tt_ok ⟨ok_impl_PutCmd, ok_impl_copyInts, trivial⟩
noncomputable def D_impl_GetCmd_0 : Nat → Option Seg := fun _ => none
abbrev I_impl_GetCmd : List Par := [.rd tL]
abbrev U_impl_GetCmd : List OT := [⟨false, tC, (.pr .fz (.pr .fz (.pr .fz (.pr .fz (.ow .fz)))))⟩, ⟨false, tB, .fz⟩]
noncomputable def raw_impl_GetCmd (a0 : List Int) : Option (ResD U_impl_GetCmd × MutD I_impl_GetCmd) :=
  bif (!(ltb (a0.length : Int) 5)) then
    bif (inb 4 a0.length) then
      bif ((nth a0 4 0) != (IntKind.i64.wrap ((a0.length : Int) - 5))) then
        some (((0, 0, 0, 0, []), false, ()), ())
      else
        bif (inb 0 a0.length) then
          bif (inb 1 a0.length) then
            bif (inb 2 a0.length) then
              bif (inb 3 a0.length) then
                bif (cutok 5 (a0.length : Int) a0.length) then
                  let r1 := n_impl_copyInts ((a0.drop (5 : Int).toNat).take ((a0.length : Int) - 5).toNat)
                  bnd (raw_impl_PutCmd ((nth a0 0 0), (nth a0 1 0), (nth a0 2 0), (nth a0 3 0), r1)) fun r2 =>
                  bif ((r2.1.1.length : Int) == 0) then
                    some (((0, 0, 0, 0, []), false, ()), ())
                  else
                    some ((((nth a0 0 0), (nth a0 1 0), (nth a0 2 0), (nth a0 3 0), r1), true, ()), ())
                else none
              else none
            else none
          else none
        else none
    else none
  else
    some (((0, 0, 0, 0, []), false, ()), ())
theorem e_impl_GetCmd (x : InD I_impl_GetCmd) : execF ⟨E_impl_GetCmd, 40, D_impl_GetCmd_0⟩ Try.f23.results.toList B_impl_GetCmd I_impl_GetCmd U_impl_GetCmd x = raw_impl_GetCmd x.1 := by kernel_rfl
theorem ok0_impl_GetCmd : ConOk Try.prog 23 ⟨I_impl_GetCmd, U_impl_GetCmd, fun x => raw_impl_GetCmd x.1⟩ := conOk_exec (fr_impl_GetCmd_0) Try.func23 (by kernel_rfl) (by kernel_rfl) Try.ntmps23.symm (by decide) (fun x r h => (e_impl_GetCmd x).trans h)
noncomputable def n_impl_GetCmd (l : List Int) : (Int × Int × Int × Int × List Int) × Bool := n_spec_GetCmd l
theorem nn_impl_GetCmd (a0 : List Int) (hk : InOk I_impl_GetCmd (a0, ())) : raw_impl_GetCmd a0 = (fun n => some ((n.1, n.2, ()), ())) (n_impl_GetCmd a0) := by
  have hb : a0.length * 8 ≤ 2 ^ 47 := hk.1.1
  unfold raw_impl_GetCmd n_impl_GetCmd n_spec_GetCmd n_impl_copyInts
  by_cases h : (a0.length : Int) < 5
  · rw [ltb_t h, leb_f h]; rfl
  · have ht : (a0.drop (5 : Int).toNat).take ((a0.length : Int) - 5).toNat = a0.drop 5 := List.take_of_length_le (by rw [List.length_drop]; show a0.length - 5 ≤ _; omega)
    rw [ltb_f (Int.not_lt.1 h), leb_t (Int.not_lt.1 h)]
    simp only [Bool.not_false, cond_true, inb_iff.2 (show (0 : Int) ≤ 4 ∧ (4 : Int) < a0.length by omega), inb_iff.2 (show (0 : Int) ≤ 0 ∧ (0 : Int) < a0.length by omega), inb_iff.2 (show (0 : Int) ≤ 1 ∧ (1 : Int) < a0.length by omega),
      inb_iff.2 (show (0 : Int) ≤ 2 ∧ (2 : Int) < a0.length by omega), inb_iff.2 (show (0 : Int) ≤ 3 ∧ (3 : Int) < a0.length by omega), cutok_iff.2 (show (0 : Int) ≤ 5 ∧ (5 : Int) ≤ a0.length ∧ (a0.length : Int) ≤ a0.length by omega), ht,
      w_impl_PutCmd (nth a0 0 0, nth a0 1 0, nth a0 2 0, nth a0 3 0, a0.drop 5) (by show (a0.drop 5).length ≤ _; rw [List.length_drop]; omega),
      bnd_some, wr (show -9223372036854775808 ≤ (a0.length : Int) - 5 by omega) (by omega), bne, Bool.true_and]
    cases (nth a0 4 0 == (a0.length : Int) - 5)
    · rfl
    · cases (((pPut (nth a0 0 0, nth a0 1 0, nth a0 2 0, nth a0 3 0, a0.drop 5)).length : Int) == 0) <;> rfl
noncomputable def con_impl_GetCmd : Con := ⟨I_impl_GetCmd, U_impl_GetCmd, fun x => (fun n => some ((n.1, n.2, ()), ())) (n_impl_GetCmd x.1)⟩
theorem ok_impl_GetCmd : ConOk Try.prog 23 con_impl_GetCmd := (ok0_impl_GetCmd).mono (fun x r hk h => (nn_impl_GetCmd x.1 hk).trans h)
end

/-! laws_heldCmd -/
section
noncomputable def B_laws_heldCmd : Code := (Try.f24.body).getD .skip
noncomputable def E_laws_heldCmd : Env := envOf TT [(14, con_laws_heldIntS)] []
theorem fr_laws_heldCmd_0 : FrOk Try.prog ⟨E_laws_heldCmd, 12, fun _ => none⟩ B_laws_heldCmd := frOk_base mixed tt_ok ⟨ok_laws_heldIntS, trivial⟩
noncomputable def D_laws_heldCmd_0 : Nat → Option Seg := fun _ => none
abbrev I_laws_heldCmd : List Par := [.rd tC, .rd tI]
abbrev U_laws_heldCmd : List OT := [⟨false, tI, .fz⟩]
noncomputable def raw_laws_heldCmd (a0 : Int × Int × Int × Int × (List Int)) (a1 : Int) : Option (ResD U_laws_heldCmd × MutD I_laws_heldCmd) :=
  let r1 := n_laws_heldIntS a0.2.2.2.2 a1
  bif (ltb r1 0) then
    some (((-1), ()), ())
  else
    some ((r1, ()), ())
theorem e_laws_heldCmd (x : InD I_laws_heldCmd) : execF ⟨E_laws_heldCmd, 12, D_laws_heldCmd_0⟩ Try.f24.results.toList B_laws_heldCmd I_laws_heldCmd U_laws_heldCmd x = raw_laws_heldCmd x.1 x.2.1 := by kernel_rfl
theorem ok0_laws_heldCmd : ConOk Try.prog 24 ⟨I_laws_heldCmd, U_laws_heldCmd, fun x => raw_laws_heldCmd x.1 x.2.1⟩ := conOk_exec (fr_laws_heldCmd_0) Try.func24 (by kernel_rfl) (by kernel_rfl) Try.ntmps24.symm (by decide) (fun x r h => (e_laws_heldCmd x).trans h)
noncomputable def n_laws_heldCmd (a0 : Int × Int × Int × Int × (List Int)) (a1 : Int) : Int :=
  let r1 := n_laws_heldIntS a0.2.2.2.2 a1
  bif (ltb r1 0) then
    (-1)
  else
    r1
noncomputable def con_laws_heldCmd : Con := ⟨I_laws_heldCmd, U_laws_heldCmd, fun x => (fun n => some ((n, ()), ())) (n_laws_heldCmd x.1 x.2.1)⟩
theorem nn_laws_heldCmd (a0 : Int × Int × Int × Int × (List Int)) (a1 : Int) : raw_laws_heldCmd a0 a1 = (fun n => some ((n, ()), ())) (n_laws_heldCmd a0 a1) := bif_ty (p := fun (n : Int) => ((n, ()), ())) (bif_some (p := fun (n : Int) => ((n, ()), ())) rfl rfl)
theorem ok_laws_heldCmd : ConOk Try.prog 24 con_laws_heldCmd := (ok0_laws_heldCmd).mono (fun x r _ h => (nn_laws_heldCmd x.1 x.2.1).trans h)
theorem held_cmd {a b c d : Int} {n : Nat} (h : n ≤ 4611686018427387903) : n_laws_heldCmd (a, b, c, d, marks 1 n) 1 = markEnd 1 n := by
  unfold n_laws_heldCmd
  simp only [held_marks, dmark h, cond_false]
end
end Go.Tf
