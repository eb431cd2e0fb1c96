/- Functions of the program, and what they come to. -/
import Derived.Test.YtljhekjbdmnmnaaCmdsF0
namespace Go.Tf
open Go.Proofs
set_option linter.unusedVariables false
set_option linter.unusedSimpArgs false
set_option maxRecDepth 100000
/-! spec_PutCmd -/
section
noncomputable def B_spec_PutCmd : Code := (Try.f16.body).getD .skip
noncomputable def E_spec_PutCmd : Env := envOf TT [(38, con_spec_l1In), (39, con_spec_l1Words)] []
theorem fr_spec_PutCmd_0 : FrOk Try.prog ⟨E_spec_PutCmd, 36, fun _ => none⟩ B_spec_PutCmd := frOk_base mixed tt_ok ⟨ok_spec_l1In, ok_spec_l1Words, trivial⟩
noncomputable def D_spec_PutCmd_0 : Nat → Option Seg := fun _ => none
abbrev I_spec_PutCmd : List Par := [.rd tC]
abbrev U_spec_PutCmd : List OT := [⟨false, tL, (.ow .fz)⟩]
noncomputable def raw_spec_PutCmd (a0 : Int × Int × Int × Int × (List Int)) : Option (ResD U_spec_PutCmd × MutD I_spec_PutCmd) :=
  bif (apok ([a0.1, a0.2.1, a0.2.2.1, a0.2.2.2.1, (a0.2.2.2.2.length : Int)] : List Int).length a0.2.2.2.2.length 8) then
    let r1 := n_spec_l1In a0.1 1 6
    bif (!(!r1)) then
      let r2 := n_spec_l1Words (([a0.1, a0.2.1, a0.2.2.1, a0.2.2.2.1, (a0.2.2.2.2.length : Int)] : List Int) ++ a0.2.2.2.2)
      bif (!(!r2)) then
        bif (ltb 6 (a0.2.2.2.2.length : Int)) then
          some ((([] : List Int), ()), ())
        else
          some (((([a0.1, a0.2.1, a0.2.2.1, a0.2.2.2.1, (a0.2.2.2.2.length : Int)] : List Int) ++ a0.2.2.2.2), ()), ())
      else
        some ((([] : List Int), ()), ())
    else
      some ((([] : List Int), ()), ())
  else none
theorem e_spec_PutCmd (x : InD I_spec_PutCmd) : execF ⟨E_spec_PutCmd, 36, D_spec_PutCmd_0⟩ Try.f16.results.toList B_spec_PutCmd I_spec_PutCmd U_spec_PutCmd x = raw_spec_PutCmd x.1 := by kernel_rfl
theorem ok0_spec_PutCmd : ConOk Try.prog 16 ⟨I_spec_PutCmd, U_spec_PutCmd, fun x => raw_spec_PutCmd x.1⟩ := conOk_exec (fr_spec_PutCmd_0) Try.func16 (by kernel_rfl) (by kernel_rfl) Try.ntmps16.symm (by decide) (fun x r h => (e_spec_PutCmd x).trans h)
noncomputable def con_spec_PutCmd : Con := ⟨I_spec_PutCmd, U_spec_PutCmd, fun x => raw_spec_PutCmd x.1⟩
theorem ok_spec_PutCmd : ConOk Try.prog 16 con_spec_PutCmd := ok0_spec_PutCmd
/-- what both make of a command -/
noncomputable def pPut (a : Int × Int × Int × Int × List Int) : List Int :=
  bif n_spec_l1In a.1 1 6 && ((a.1 :: a.2.1 :: a.2.2.1 :: a.2.2.2.1 :: (a.2.2.2.2.length : Int) :: a.2.2.2.2).all n_spec_l1Word && decide (a.2.2.2.2.length ≤ 6)) then a.1 :: a.2.1 :: a.2.2.1 :: a.2.2.2.1 :: (a.2.2.2.2.length : Int) :: a.2.2.2.2 else []
theorem w_spec_PutCmd (a : Int × Int × Int × Int × List Int) (h : a.2.2.2.2.length ≤ 17592186044411) : raw_spec_PutCmd a = some ((pPut a, ()), ()) := by
  unfold raw_spec_PutCmd pPut
  rw [show apok ([a.1, a.2.1, a.2.2.1, a.2.2.2.1, (a.2.2.2.2.length : Int)] : List Int).length a.2.2.2.2.length 8 = true by rw [apok_iff]; simp only [List.length_cons, List.length_nil]; omega, bif_t]
  simp only [n_spec_l1Words, List.cons_append, List.nil_append]
  cases n_spec_l1In a.1 1 6
  · rfl
  · cases (a.1 :: a.2.1 :: a.2.2.1 :: a.2.2.2.1 :: (a.2.2.2.2.length : Int) :: a.2.2.2.2).all n_spec_l1Word
    · rfl
    · by_cases h6 : a.2.2.2.2.length ≤ 6
      · rw [decide_eq_true h6, ltb_f (show (a.2.2.2.2.length : Int) ≤ 6 by omega)]; rfl
      · rw [decide_eq_false h6, ltb_t (show 6 < (a.2.2.2.2.length : Int) by omega)]; rfl
theorem pPut_len (a : Int × Int × Int × Int × List Int) : (pPut a).length ≤ 11 := by
  unfold pPut
  rcases Bool.eq_false_or_eq_true (n_spec_l1In a.1 1 6 && ((a.1 :: a.2.1 :: a.2.2.1 :: a.2.2.2.1 :: (a.2.2.2.2.length : Int) :: a.2.2.2.2).all n_spec_l1Word && decide (a.2.2.2.2.length ≤ 6))) with h | h
  · rw [h, bif_t]
    simp only [Bool.and_eq_true, decide_eq_true_eq] at h
    simp only [List.length_cons]
    omega
  · rw [h, bif_f]; simp
theorem pPut_some {a : Int × Int × Int × Int × List Int} (h : pPut a ≠ []) : pPut a = a.1 :: a.2.1 :: a.2.2.1 :: a.2.2.2.1 :: (a.2.2.2.2.length : Int) :: a.2.2.2.2 := by
  revert h
  unfold pPut
  cases (n_spec_l1In a.1 1 6 && ((a.1 :: a.2.1 :: a.2.2.1 :: a.2.2.2.1 :: (a.2.2.2.2.length : Int) :: a.2.2.2.2).all n_spec_l1Word && decide (a.2.2.2.2.length ≤ 6)))
  · intro h; exact absurd rfl h
  · intro _; rfl
end

/-! impl_isWord -/
section
noncomputable def B_impl_isWord : Code := (Try.f56.body).getD .skip
noncomputable def E_impl_isWord : Env := envOf TT [(40, con_impl_within)] []
theorem fr_impl_isWord_0 : FrOk Try.prog ⟨E_impl_isWord, 5, fun _ => none⟩ B_impl_isWord := frOk_base mixed tt_ok ⟨ok_impl_within, trivial⟩
noncomputable def D_impl_isWord_0 : Nat → Option Seg := fun _ => none
abbrev I_impl_isWord : List Par := [.rd tI]
abbrev U_impl_isWord : List OT := [⟨false, tB, .fz⟩]
noncomputable def raw_impl_isWord (a0 : Int) : Option (ResD U_impl_isWord × MutD I_impl_isWord) :=
  let r1 := n_impl_within a0 0 65535
  some ((r1, ()), ())
theorem e_impl_isWord (x : InD I_impl_isWord) : execF ⟨E_impl_isWord, 5, D_impl_isWord_0⟩ Try.f56.results.toList B_impl_isWord I_impl_isWord U_impl_isWord x = raw_impl_isWord x.1 := by kernel_rfl
theorem ok0_impl_isWord : ConOk Try.prog 56 ⟨I_impl_isWord, U_impl_isWord, fun x => raw_impl_isWord x.1⟩ := conOk_exec (fr_impl_isWord_0) Try.func56 (by kernel_rfl) (by kernel_rfl) Try.ntmps56.symm (by decide) (fun x r h => (e_impl_isWord x).trans h)
noncomputable def n_impl_isWord (a0 : Int) : Bool :=
  let r1 := n_impl_within a0 0 65535
  r1
noncomputable def con_impl_isWord : Con := ⟨I_impl_isWord, U_impl_isWord, fun x => (fun n => some ((n, ()), ())) (n_impl_isWord x.1)⟩
theorem nn_impl_isWord (a0 : Int) : raw_impl_isWord a0 = (fun n => some ((n, ()), ())) (n_impl_isWord a0) := bif_ty (p := fun (n : Bool) => ((n, ()), ())) rfl
theorem ok_impl_isWord : ConOk Try.prog 56 con_impl_isWord := (ok0_impl_isWord).mono (fun x r _ h => (nn_impl_isWord x.1).trans h)
end

/-! impl_wordsOk -/
section
noncomputable def B_impl_wordsOk : Code := (Try.f41.body).getD .skip
noncomputable def E_impl_wordsOk : Env := envOf TT [(56, con_impl_isWord)] []
theorem fr_impl_wordsOk_0 : FrOk Try.prog ⟨E_impl_wordsOk, 15, fun _ => none⟩ B_impl_wordsOk := frOk_base mixed tt_ok ⟨ok_impl_isWord, trivial⟩
noncomputable def D_impl_wordsOk_0 : Nat → Option Seg := fun _ => none
def L_impl_wordsOk_13 : Shape := ⟨[(5, false, [.br tI]), (6, false, [.int .i64]), (7, false, [.int .i64])], [], []⟩
def S_impl_wordsOk_13 : Shape := ⟨[(5, false, [.br tI]), (6, false, [.int .i64]), (7, false, [.ci .i64 0])], [], []⟩
def O_impl_wordsOk_13 : Shape := ⟨[], [], []⟩
def Z_impl_wordsOk_13 : Shape := ⟨[(2, false, [.bool])], [], []⟩
noncomputable def st_impl_wordsOk_13 (v0 : List Int) (v1 : Int) (v2 : Int) : Option ((L_impl_wordsOk_13).X ⊕ ((O_impl_wordsOk_13).X ⊕ (Z_impl_wordsOk_13).X)) :=
  bif (ltb v2 v1) then
    bif (inb v2 v0.length) then
      let r2 := n_impl_isWord (nth v0 v2 0)
      bif (!r2) then
        some (.inr (.inr (((false, ()), ()), (), ())))
      else
        some (.inl (((v0, ()), (v1, ()), ((IntKind.i64.wrap (v2 + 1)), ()), ()), (), ()))
    else none
  else
    some (.inr (.inl ((), (), ())))
noncomputable def stx_impl_wordsOk_13 (x : (L_impl_wordsOk_13).X) := st_impl_wordsOk_13 x.1.1.1 x.1.2.1.1 x.1.2.2.1.1
def em_impl_wordsOk_13 (x : (S_impl_wordsOk_13).X) : (L_impl_wordsOk_13).X := (((x.1.1.1, ()), (x.1.2.1.1, ()), (0, ()), ()), (), ())
noncomputable def c_impl_wordsOk_13 : Code := (subN B_impl_wordsOk 64 52).getD .skip
theorem a_impl_wordsOk_13 : subN B_impl_wordsOk 64 13 = some (.block 0 (.loop c_impl_wordsOk_13)) := by kernel_rfl
theorem r_impl_wordsOk_13 (x : (L_impl_wordsOk_13).X) : roundT ⟨E_impl_wordsOk, 15, D_impl_wordsOk_0⟩ 0 c_impl_wordsOk_13 52 L_impl_wordsOk_13 O_impl_wordsOk_13 Z_impl_wordsOk_13 x = stx_impl_wordsOk_13 x := by kernel_rfl
noncomputable def fu_impl_wordsOk_13 (x : (S_impl_wordsOk_13).X) : Nat := (fun (u0 : List Int) (u1 : Int) => 18446744073709551616) x.1.1.1 x.1.2.1.1
noncomputable def F_impl_wordsOk_13 (x : (S_impl_wordsOk_13).X) : Option ((O_impl_wordsOk_13).X ⊕ (Z_impl_wordsOk_13).X) := loopN stx_impl_wordsOk_13 (fu_impl_wordsOk_13 x) (em_impl_wordsOk_13 x)
noncomputable def sg_impl_wordsOk_13 : Seg := ⟨S_impl_wordsOk_13, O_impl_wordsOk_13, Z_impl_wordsOk_13, F_impl_wordsOk_13⟩
noncomputable def D_impl_wordsOk_1 : Nat → Option Seg := fun q => bif Nat.beq q 13 then some sg_impl_wordsOk_13 else D_impl_wordsOk_0 q
theorem fr_impl_wordsOk_1 : FrOk Try.prog ⟨E_impl_wordsOk, 15, D_impl_wordsOk_1⟩ B_impl_wordsOk := (fr_impl_wordsOk_0).loop (sg := sg_impl_wordsOk_13) L_impl_wordsOk_13 em_impl_wordsOk_13 (by decide) a_impl_wordsOk_13 stx_impl_wordsOk_13 fu_impl_wordsOk_13 (by decide) (fun _ => rfl) (fun x r _ h => h) r_impl_wordsOk_13
abbrev I_impl_wordsOk : List Par := [.rd tL]
abbrev U_impl_wordsOk : List OT := [⟨false, tB, .fz⟩]
noncomputable def raw_impl_wordsOk (a0 : List Int) : Option (ResD U_impl_wordsOk × MutD I_impl_wordsOk) :=
  segM (F_impl_wordsOk_13 (((a0, ()), ((a0.length : Int), ()), ((), ()), ()), (), ())) (fun y2 =>
    some ((true, ()), ())) (fun y2 =>
    some ((y2.1.1.1, ()), ()))
theorem e_impl_wordsOk (x : InD I_impl_wordsOk) : execF ⟨E_impl_wordsOk, 15, D_impl_wordsOk_1⟩ Try.f41.results.toList B_impl_wordsOk I_impl_wordsOk U_impl_wordsOk x = raw_impl_wordsOk x.1 := by kernel_rfl
theorem ok0_impl_wordsOk : ConOk Try.prog 41 ⟨I_impl_wordsOk, U_impl_wordsOk, fun x => raw_impl_wordsOk x.1⟩ := conOk_exec (fr_impl_wordsOk_1) Try.func41 (by kernel_rfl) (by kernel_rfl) Try.ntmps41.symm (by decide) (fun x r h => (e_impl_wordsOk x).trans h)
noncomputable def n_impl_wordsOk (a0 : List Int) : Bool := a0.all n_impl_isWord
theorem nn_impl_wordsOk (a0 : List Int) (hk : InOk I_impl_wordsOk (a0, ())) : raw_impl_wordsOk a0 = (fun n => some ((n, ()), ())) (n_impl_wordsOk a0) := by
  have hb : a0.length * 8 ≤ 2 ^ 47 := hk.1.1
  have hl : F_impl_wordsOk_13 (((a0, ()), ((a0.length : Int), ()), ((), ()), ()), (), ()) = some (bif a0.all n_impl_isWord then .inl ((), (), ()) else .inr (((false, ()), ()), (), ())) :=
    loopN_list_all (step := stx_impl_wordsOk_13) a0 0 (fun i => (((a0, ()), ((a0.length : Int), ()), ((i : Int), ()), ()), (), ())) n_impl_isWord _ _ (fun i hi => by
      simp only [stx_impl_wordsOk_13, st_impl_wordsOk_13, inb_nat hi, nth_nat, ltb_t (show (i : Int) < a0.length by omega), cond_true, wr (show -9223372036854775808 ≤ (i : Int) + 1 by omega) (by omega), Int.natCast_add, Int.natCast_one]
      cases n_impl_isWord (a0.getD i 0) <;> rfl) (by simp only [stx_impl_wordsOk_13, st_impl_wordsOk_13, ltb_f (Int.le_refl _), cond_false]) _ (by show _ < 18446744073709551616; omega)
  unfold raw_impl_wordsOk n_impl_wordsOk
  rw [hl]
  cases a0.all n_impl_isWord <;> rfl
noncomputable def con_impl_wordsOk : Con := ⟨I_impl_wordsOk, U_impl_wordsOk, fun x => (fun n => some ((n, ()), ())) (n_impl_wordsOk x.1)⟩
theorem ok_impl_wordsOk : ConOk Try.prog 41 con_impl_wordsOk := (ok0_impl_wordsOk).mono (fun x r hk h => (nn_impl_wordsOk x.1 hk).trans h)
theorem impl_word_eq (a : Int) : n_impl_isWord a = n_spec_l1Word a := by kernel_rfl
theorem impl_words_eq (a : List Int) : n_impl_wordsOk a = a.all n_spec_l1Word := by
  unfold n_impl_wordsOk; rw [show n_impl_isWord = n_spec_l1Word from funext impl_word_eq]
end

/-! impl_PutCmd -/
section
noncomputable def B_impl_PutCmd : Code := (Try.f18.body).getD .skip
noncomputable def E_impl_PutCmd : Env := envOf TT [(40, con_impl_within), (41, con_impl_wordsOk)] []
theorem fr_impl_PutCmd_0 : FrOk Try.prog ⟨E_impl_PutCmd, 35, fun _ => none⟩ B_impl_PutCmd := frOk_base mixed tt_ok ⟨ok_impl_within, ok_impl_wordsOk, trivial⟩
noncomputable def D_impl_PutCmd_0 : Nat → Option Seg := fun _ => none
abbrev I_impl_PutCmd : List Par := [.rd tC]
abbrev U_impl_PutCmd : List OT := [⟨false, tL, (.ow .fz)⟩]
noncomputable def raw_impl_PutCmd (a0 : Int × Int × Int × Int × (List Int)) : Option (ResD U_impl_PutCmd × MutD I_impl_PutCmd) :=
  bif (apok ([a0.1, a0.2.1, a0.2.2.1, a0.2.2.2.1, (a0.2.2.2.2.length : Int)] : List Int).length a0.2.2.2.2.length 8) then
    let r1 := n_impl_within a0.1 1 6
    bif (!(!r1)) then
      bif (!(ltb 6 (a0.2.2.2.2.length : Int))) then
        let r2 := n_impl_wordsOk (([a0.1, a0.2.1, a0.2.2.1, a0.2.2.2.1, (a0.2.2.2.2.length : Int)] : List Int) ++ a0.2.2.2.2)
        bif (!r2) then
          some (([], ()), ())
        else
          some (((([a0.1, a0.2.1, a0.2.2.1, a0.2.2.2.1, (a0.2.2.2.2.length : Int)] : List Int) ++ a0.2.2.2.2), ()), ())
      else
        some (([], ()), ())
    else
      some (([], ()), ())
  else none
theorem e_impl_PutCmd (x : InD I_impl_PutCmd) : execF ⟨E_impl_PutCmd, 35, D_impl_PutCmd_0⟩ Try.f18.results.toList B_impl_PutCmd I_impl_PutCmd U_impl_PutCmd x = raw_impl_PutCmd x.1 := by kernel_rfl
theorem ok0_impl_PutCmd : ConOk Try.prog 18 ⟨I_impl_PutCmd, U_impl_PutCmd, fun x => raw_impl_PutCmd x.1⟩ := conOk_exec (fr_impl_PutCmd_0) Try.func18 (by kernel_rfl) (by kernel_rfl) Try.ntmps18.symm (by decide) (fun x r h => (e_impl_PutCmd x).trans h)
noncomputable def con_impl_PutCmd : Con := ⟨I_impl_PutCmd, U_impl_PutCmd, fun x => raw_impl_PutCmd x.1⟩
theorem ok_impl_PutCmd : ConOk Try.prog 18 con_impl_PutCmd := ok0_impl_PutCmd
theorem w_impl_PutCmd (a : Int × Int × Int × Int × List Int) (h : a.2.2.2.2.length ≤ 17592186044411) : raw_impl_PutCmd a = some ((pPut a, ()), ()) := by
  unfold raw_impl_PutCmd pPut
  rw [show apok ([a.1, a.2.1, a.2.2.1, a.2.2.2.1, (a.2.2.2.2.length : Int)] : List Int).length a.2.2.2.2.length 8 = true by rw [apok_iff]; simp only [List.length_cons, List.length_nil]; omega, bif_t]
  simp only [impl_words_eq, impl_in_eq, List.cons_append, List.nil_append]
  cases n_spec_l1In a.1 1 6
  · rfl
  · by_cases h6 : a.2.2.2.2.length ≤ 6
    · rw [decide_eq_true h6, ltb_f (show (a.2.2.2.2.length : Int) ≤ 6 by omega)]
      cases (a.1 :: a.2.1 :: a.2.2.1 :: a.2.2.2.1 :: (a.2.2.2.2.length : Int) :: a.2.2.2.2).all n_spec_l1Word <;> rfl
    · rw [decide_eq_false h6, ltb_t (show 6 < (a.2.2.2.2.length : Int) by omega)]
      cases (a.1 :: a.2.1 :: a.2.2.1 :: a.2.2.2.1 :: (a.2.2.2.2.length : Int) :: a.2.2.2.2).all n_spec_l1Word <;> rfl
end

/-! spec_GetCmd -/
section
noncomputable def B_spec_GetCmd : Code := (Try.f21.body).getD .skip
noncomputable def E_spec_GetCmd : Env := envOf TT [(16, con_spec_PutCmd)] []
theorem fr_spec_GetCmd_0 : FrOk Try.prog ⟨E_spec_GetCmd, 41, fun _ => none⟩ B_spec_GetCmd := frOk_base mixed tt_ok ⟨ok_spec_PutCmd, trivial⟩
noncomputable def D_spec_GetCmd_0 : Nat → Option Seg := fun _ => none
abbrev I_spec_GetCmd : List Par := [.rd tL]
abbrev U_spec_GetCmd : List OT := [⟨false, tC, (.pr .fz (.pr .fz (.pr .fz (.pr .fz (.ow .fz)))))⟩, ⟨false, tB, .fz⟩]
noncomputable def raw_spec_GetCmd (a0 : List Int) : Option (ResD U_spec_GetCmd × MutD I_spec_GetCmd) :=
  bif (!(ltb (a0.length : Int) 5)) then
    bif (inb 4 a0.length) then
      bif ((nth a0 4 0) != (IntKind.i64.wrap ((a0.length : Int) - 5))) then
        some (((0, 0, 0, 0, []), false, ()), ())
      else
        bif (inb 0 a0.length) then
          bif (inb 1 a0.length) then
            bif (inb 2 a0.length) then
              bif (inb 3 a0.length) then
                bif (cutok 5 (a0.length : Int) a0.length) then
                  bif (apok ([] : List Int).length ((a0.drop (5 : Int).toNat).take ((a0.length : Int) - 5).toNat).length 8) then
                    bnd (raw_spec_PutCmd ((nth a0 0 0), (nth a0 1 0), (nth a0 2 0), (nth a0 3 0), (([] : List Int) ++ ((a0.drop (5 : Int).toNat).take ((a0.length : Int) - 5).toNat)))) fun r1 =>
                    bif ((r1.1.1.length : Int) == 0) then
                      some (((0, 0, 0, 0, []), false, ()), ())
                    else
                      some ((((nth a0 0 0), (nth a0 1 0), (nth a0 2 0), (nth a0 3 0), (([] : List Int) ++ ((a0.drop (5 : Int).toNat).take ((a0.length : Int) - 5).toNat))), true, ()), ())
                  else none
                else none
              else none
            else none
          else none
        else none
    else none
  else
    some (((0, 0, 0, 0, []), false, ()), ())
theorem e_spec_GetCmd (x : InD I_spec_GetCmd) : execF ⟨E_spec_GetCmd, 41, D_spec_GetCmd_0⟩ Try.f21.results.toList B_spec_GetCmd I_spec_GetCmd U_spec_GetCmd x = raw_spec_GetCmd x.1 := by kernel_rfl
theorem ok0_spec_GetCmd : ConOk Try.prog 21 ⟨I_spec_GetCmd, U_spec_GetCmd, fun x => raw_spec_GetCmd x.1⟩ := conOk_exec (fr_spec_GetCmd_0) Try.func21 (by kernel_rfl) (by kernel_rfl) Try.ntmps21.symm (by decide) (fun x r h => (e_spec_GetCmd x).trans h)
noncomputable def n_spec_GetCmd (l : List Int) : (Int × Int × Int × Int × List Int) × Bool :=
  bif leb 5 (l.length : Int) && (nth l 4 0 == (l.length : Int) - 5) && !((pPut (nth l 0 0, nth l 1 0, nth l 2 0, nth l 3 0, l.drop 5)).length : Int) == 0 then ((nth l 0 0, nth l 1 0, nth l 2 0, nth l 3 0, l.drop 5), true) else ((0, 0, 0, 0, []), false)
theorem nn_spec_GetCmd (a0 : List Int) (hk : InOk I_spec_GetCmd (a0, ())) : raw_spec_GetCmd a0 = (fun n => some ((n.1, n.2, ()), ())) (n_spec_GetCmd a0) := by
  have hb : a0.length * 8 ≤ 2 ^ 47 := hk.1.1
  unfold raw_spec_GetCmd n_spec_GetCmd
  by_cases h : (a0.length : Int) < 5
  · rw [ltb_t h, leb_f h]; rfl
  · have ht : (a0.drop (5 : Int).toNat).take ((a0.length : Int) - 5).toNat = a0.drop 5 := List.take_of_length_le (by rw [List.length_drop]; show a0.length - 5 ≤ _; omega)
    rw [ltb_f (Int.not_lt.1 h), leb_t (Int.not_lt.1 h)]
    simp only [Bool.not_false, cond_true, inb_iff.2 (show (0 : Int) ≤ 4 ∧ (4 : Int) < a0.length by omega), inb_iff.2 (show (0 : Int) ≤ 0 ∧ (0 : Int) < a0.length by omega), inb_iff.2 (show (0 : Int) ≤ 1 ∧ (1 : Int) < a0.length by omega),
      inb_iff.2 (show (0 : Int) ≤ 2 ∧ (2 : Int) < a0.length by omega), inb_iff.2 (show (0 : Int) ≤ 3 ∧ (3 : Int) < a0.length by omega), cutok_iff.2 (show (0 : Int) ≤ 5 ∧ (5 : Int) ≤ a0.length ∧ (a0.length : Int) ≤ a0.length by omega), ht, List.nil_append,
      apok_iff.2 (show (([] : List Int).length + (a0.drop 5).length) * 8 ≤ 140737488355328 by rw [List.length_nil, List.length_drop]; omega), w_spec_PutCmd (nth a0 0 0, nth a0 1 0, nth a0 2 0, nth a0 3 0, a0.drop 5) (by show (a0.drop 5).length ≤ _; rw [List.length_drop]; omega),
      bnd_some, wr (show -9223372036854775808 ≤ (a0.length : Int) - 5 by omega) (by omega), bne, Bool.true_and]
    cases (nth a0 4 0 == (a0.length : Int) - 5)
    · rfl
    · cases (((pPut (nth a0 0 0, nth a0 1 0, nth a0 2 0, nth a0 3 0, a0.drop 5)).length : Int) == 0) <;> rfl
noncomputable def con_spec_GetCmd : Con := ⟨I_spec_GetCmd, U_spec_GetCmd, fun x => (fun n => some ((n.1, n.2, ()), ())) (n_spec_GetCmd x.1)⟩
theorem ok_spec_GetCmd : ConOk Try.prog 21 con_spec_GetCmd := (ok0_spec_GetCmd).mono (fun x r hk h => (nn_spec_GetCmd x.1 hk).trans h)
theorem get_put {x : Int × Int × Int × Int × List Int} (h : pPut x ≠ []) : n_spec_GetCmd (pPut x) = (x, true) := by
  have hl := pPut_some h
  have hd : (pPut x).drop 5 = x.2.2.2.2 := by rw [hl]; rfl
  unfold n_spec_GetCmd
  rw [hd]
  rw [show nth (pPut x) 0 0 = x.1 by rw [hl]; rfl, show nth (pPut x) 1 0 = x.2.1 by rw [hl]; rfl, show nth (pPut x) 2 0 = x.2.2.1 by rw [hl]; rfl, show nth (pPut x) 3 0 = x.2.2.2.1 by rw [hl]; rfl, show nth (pPut x) 4 0 = (x.2.2.2.2.length : Int) by rw [hl]; rfl]
  have hlen : ((pPut x).length : Int) = x.2.2.2.2.length + 5 := by rw [hl]; simp only [List.length_cons]; omega
  rw [hlen, leb_t (by omega), show ((x.2.2.2.2.length : Int) == x.2.2.2.2.length + 5 - 5) = true by rw [beq_iff_eq]; omega]
  rw [show ((x.2.2.2.2.length : Int) + 5 == 0) = false by rw [beq_eq_false_iff_ne]; omega]
  rfl
theorem put_get {l : List Int} (h : (n_spec_GetCmd l).2 = true) : pPut (n_spec_GetCmd l).1 = l ∧ (n_spec_GetCmd l).1.2.2.2.2.length ≤ l.length := by
  revert h
  unfold n_spec_GetCmd
  rcases Bool.eq_false_or_eq_true (leb 5 (l.length : Int) && (nth l 4 0 == (l.length : Int) - 5) && !((pPut (nth l 0 0, nth l 1 0, nth l 2 0, nth l 3 0, l.drop 5)).length : Int) == 0) with h | h
  · rw [h, bif_t]
    intro _
    simp only [Bool.and_eq_true, leb_iff, beq_iff_eq, Bool.not_eq_true', beq_eq_false_iff_ne] at h
    obtain ⟨⟨h1, h2⟩, h3⟩ := h
    refine ⟨?_, by show (l.drop 5).length ≤ _; rw [List.length_drop]; omega⟩
    show pPut (nth l 0 0, nth l 1 0, nth l 2 0, nth l 3 0, l.drop 5) = l
    rw [pPut_some (by intro e; rw [e] at h3; exact h3 rfl)]
    match l, h1, h2 with
    | [], h1, _ => simp at h1
    | [_], h1, _ => simp at h1
    | [_, _], h1, _ => simp at h1
    | [_, _, _], h1, _ => simp at h1
    | [_, _, _, _], h1, _ => simp at h1
    | a :: b :: c :: d :: e :: l, _, h2 =>
      have : e = (l.length : Int) := by
        have h2' : e = ((a :: b :: c :: d :: e :: l).length : Int) - 5 := h2
        simp only [List.length_cons] at h2'
        omega
      subst this
      rfl
  · rw [h, bif_f]
    intro h; cases h
end

/-! impl_copyInts -/
section
noncomputable def B_impl_copyInts : Code := (Try.f42.body).getD .skip
noncomputable def E_impl_copyInts : Env := envOf TT [] []
theorem fr_impl_copyInts_0 : FrOk Try.prog ⟨E_impl_copyInts, 6, fun _ => none⟩ B_impl_copyInts := frOk_base mixed tt_ok trivial
noncomputable def D_impl_copyInts_0 : Nat → Option Seg := fun _ => none
abbrev I_impl_copyInts : List Par := [.rd tL]
abbrev U_impl_copyInts : List OT := [⟨false, tL, (.ow .fz)⟩]
noncomputable def raw_impl_copyInts (a0 : List Int) : Option (ResD U_impl_copyInts × MutD I_impl_copyInts) :=
  bif (apok ([] : List Int).length a0.length 8) then
    some (((([] : List Int) ++ a0), ()), ())
  else none
theorem e_impl_copyInts (x : InD I_impl_copyInts) : execF ⟨E_impl_copyInts, 6, D_impl_copyInts_0⟩ Try.f42.results.toList B_impl_copyInts I_impl_copyInts U_impl_copyInts x = raw_impl_copyInts x.1 := by kernel_rfl
theorem ok0_impl_copyInts : ConOk Try.prog 42 ⟨I_impl_copyInts, U_impl_copyInts, fun x => raw_impl_copyInts x.1⟩ := conOk_exec (fr_impl_copyInts_0) Try.func42 (by kernel_rfl) (by kernel_rfl) Try.ntmps42.symm (by decide) (fun x r h => (e_impl_copyInts x).trans h)
noncomputable def n_impl_copyInts (a0 : List Int) : List Int := a0
theorem nn_impl_copyInts (a0 : List Int) (hk : InOk I_impl_copyInts (a0, ())) : raw_impl_copyInts a0 = (fun n => some ((n, ()), ())) (n_impl_copyInts a0) := by
  have hb : a0.length * 8 ≤ 2 ^ 47 := hk.1.1
  unfold raw_impl_copyInts n_impl_copyInts
  rw [show apok ([] : List Int).length a0.length 8 = true by rw [apok_iff, List.length_nil]; omega]
  rfl
noncomputable def con_impl_copyInts : Con := ⟨I_impl_copyInts, U_impl_copyInts, fun x => (fun n => some ((n, ()), ())) (n_impl_copyInts x.1)⟩
theorem ok_impl_copyInts : ConOk Try.prog 42 con_impl_copyInts := (ok0_impl_copyInts).mono (fun x r hk h => (nn_impl_copyInts x.1 hk).trans h)
end
end Go.Tf
