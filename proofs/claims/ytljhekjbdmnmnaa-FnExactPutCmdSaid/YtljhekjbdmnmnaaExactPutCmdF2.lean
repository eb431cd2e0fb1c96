/- Functions of the program, and what they come to. -/
import Derived.Test.YtljhekjbdmnmnaaExactPutCmdF1
namespace Go.Tf
open Go.Proofs
set_option linter.unusedVariables false
set_option linter.unusedSimpArgs false
set_option maxRecDepth 100000
/-! impl_isWord -/
section
noncomputable def B_impl_isWord : Code := (Try.f56.body).getD .skip
noncomputable def E_impl_isWord : Env := envOf TT [(40, con_impl_within)] []
theorem fr_impl_isWord_0 : FrOk Try.prog ⟨E_impl_isWord, 5, fun _ => none⟩ B_impl_isWord := frOk_base mixed tt_ok ⟨ok_impl_within, trivial⟩
noncomputable def D_impl_isWord_0 : Nat → Option Seg := fun _ => none
abbrev I_impl_isWord : List Par := [.rd tI]
abbrev U_impl_isWord : List OT := [⟨false, tB, .fz⟩]
noncomputable def raw_impl_isWord (a0 : Int) : Option (ResD U_impl_isWord × MutD I_impl_isWord) :=
  let r1 := n_impl_within a0 0 65535
  some ((r1, ()), ())
theorem e_impl_isWord (x : InD I_impl_isWord) : execF ⟨E_impl_isWord, 5, D_impl_isWord_0⟩ Try.f56.results.toList B_impl_isWord I_impl_isWord U_impl_isWord x = raw_impl_isWord x.1 := by kernel_rfl
theorem ok0_impl_isWord : ConOk Try.prog 56 ⟨I_impl_isWord, U_impl_isWord, fun x => raw_impl_isWord x.1⟩ := conOk_exec (fr_impl_isWord_0) Try.func56 (by kernel_rfl) (by kernel_rfl) Try.ntmps56.symm (by decide) (fun x r h => (e_impl_isWord x).trans h)
noncomputable def n_impl_isWord (a0 : Int) : Bool :=
  let r1 := n_impl_within a0 0 65535
  r1
noncomputable def con_impl_isWord : Con := ⟨I_impl_isWord, U_impl_isWord, fun x => (fun n => some ((n, ()), ())) (n_impl_isWord x.1)⟩
theorem nn_impl_isWord (a0 : Int) : raw_impl_isWord a0 = (fun n => some ((n, ()), ())) (n_impl_isWord a0) := bif_ty (p := fun (n : Bool) => ((n, ()), ())) rfl
theorem ok_impl_isWord : ConOk Try.prog 56 con_impl_isWord := (ok0_impl_isWord).mono (fun x r _ h => (nn_impl_isWord x.1).trans h)
end

/-! impl_wordsOk -/
section
noncomputable def B_impl_wordsOk : Code := (Try.f41.body).getD .skip
noncomputable def E_impl_wordsOk : Env := envOf TT [(56, con_impl_isWord)] []
theorem fr_impl_wordsOk_0 : FrOk Try.prog ⟨E_impl_wordsOk, 15, fun _ => none⟩ B_impl_wordsOk := frOk_base mixed tt_ok ⟨ok_impl_isWord, trivial⟩
noncomputable def D_impl_wordsOk_0 : Nat → Option Seg := fun _ => none
def L_impl_wordsOk_13 : Shape := ⟨[(5, false, [.br tI]), (6, false, [.int .i64]), (7, false, [.int .i64])], [], []⟩
def S_impl_wordsOk_13 : Shape := ⟨[(5, false, [.br tI]), (6, false, [.int .i64]), (7, false, [.ci .i64 0])], [], []⟩
def O_impl_wordsOk_13 : Shape := ⟨[], [], []⟩
def Z_impl_wordsOk_13 : Shape := ⟨[(2, false, [.bool])], [], []⟩
noncomputable def st_impl_wordsOk_13 (v0 : List Int) (v1 : Int) (v2 : Int) : Option ((L_impl_wordsOk_13).X ⊕ ((O_impl_wordsOk_13).X ⊕ (Z_impl_wordsOk_13).X)) :=
  bif (ltb v2 v1) then
    bif (inb v2 v0.length) then
      let r2 := n_impl_isWord (nth v0 v2 0)
      bif (!r2) then
        some (.inr (.inr (((false, ()), ()), (), ())))
      else
        some (.inl (((v0, ()), (v1, ()), ((IntKind.i64.wrap (v2 + 1)), ()), ()), (), ()))
    else none
  else
    some (.inr (.inl ((), (), ())))
noncomputable def stx_impl_wordsOk_13 (x : (L_impl_wordsOk_13).X) := st_impl_wordsOk_13 x.1.1.1 x.1.2.1.1 x.1.2.2.1.1
def em_impl_wordsOk_13 (x : (S_impl_wordsOk_13).X) : (L_impl_wordsOk_13).X := (((x.1.1.1, ()), (x.1.2.1.1, ()), (0, ()), ()), (), ())
noncomputable def c_impl_wordsOk_13 : Code := (subN B_impl_wordsOk 64 52).getD .skip
theorem a_impl_wordsOk_13 : subN B_impl_wordsOk 64 13 = some (.block 0 (.loop c_impl_wordsOk_13)) := by kernel_rfl
theorem r_impl_wordsOk_13 (x : (L_impl_wordsOk_13).X) : roundT ⟨E_impl_wordsOk, 15, D_impl_wordsOk_0⟩ 0 c_impl_wordsOk_13 52 L_impl_wordsOk_13 O_impl_wordsOk_13 Z_impl_wordsOk_13 x = stx_impl_wordsOk_13 x := by kernel_rfl
noncomputable def fu_impl_wordsOk_13 (x : (S_impl_wordsOk_13).X) : Nat := (fun (u0 : List Int) (u1 : Int) => 18446744073709551616) x.1.1.1 x.1.2.1.1
noncomputable def F_impl_wordsOk_13 (x : (S_impl_wordsOk_13).X) : Option ((O_impl_wordsOk_13).X ⊕ (Z_impl_wordsOk_13).X) := loopN stx_impl_wordsOk_13 (fu_impl_wordsOk_13 x) (em_impl_wordsOk_13 x)
noncomputable def sg_impl_wordsOk_13 : Seg := ⟨S_impl_wordsOk_13, O_impl_wordsOk_13, Z_impl_wordsOk_13, F_impl_wordsOk_13⟩
noncomputable def D_impl_wordsOk_1 : Nat → Option Seg := fun q => bif Nat.beq q 13 then some sg_impl_wordsOk_13 else D_impl_wordsOk_0 q
theorem fr_impl_wordsOk_1 : FrOk Try.prog ⟨E_impl_wordsOk, 15, D_impl_wordsOk_1⟩ B_impl_wordsOk := (fr_impl_wordsOk_0).loop (sg := sg_impl_wordsOk_13) L_impl_wordsOk_13 em_impl_wordsOk_13 (by decide) a_impl_wordsOk_13 stx_impl_wordsOk_13 fu_impl_wordsOk_13 (by decide) (fun _ => rfl) (fun x r _ h => h) r_impl_wordsOk_13
abbrev I_impl_wordsOk : List Par := [.rd tL]
abbrev U_impl_wordsOk : List OT := [⟨false, tB, .fz⟩]
noncomputable def raw_impl_wordsOk (a0 : List Int) : Option (ResD U_impl_wordsOk × MutD I_impl_wordsOk) :=
  segM (F_impl_wordsOk_13 (((a0, ()), ((a0.length : Int), ()), ((), ()), ()), (), ())) (fun y2 =>
    some ((true, ()), ())) (fun y2 =>
    some ((y2.1.1.1, ()), ()))
theorem e_impl_wordsOk (x : InD I_impl_wordsOk) : execF ⟨E_impl_wordsOk, 15, D_impl_wordsOk_1⟩ Try.f41.results.toList B_impl_wordsOk I_impl_wordsOk U_impl_wordsOk x = raw_impl_wordsOk x.1 := by kernel_rfl
theorem ok0_impl_wordsOk : ConOk Try.prog 41 ⟨I_impl_wordsOk, U_impl_wordsOk, fun x => raw_impl_wordsOk x.1⟩ := conOk_exec (fr_impl_wordsOk_1) Try.func41 (by kernel_rfl) (by kernel_rfl) Try.ntmps41.symm (by decide) (fun x r h => (e_impl_wordsOk x).trans h)
noncomputable def n_impl_wordsOk (a0 : List Int) : Bool := a0.all n_impl_isWord
theorem nn_impl_wordsOk (a0 : List Int) (hk : InOk I_impl_wordsOk (a0, ())) : raw_impl_wordsOk a0 = (fun n => some ((n, ()), ())) (n_impl_wordsOk a0) := by
  have hb : a0.length * 8 ≤ 2 ^ 47 := hk.1.1
  have hl : F_impl_wordsOk_13 (((a0, ()), ((a0.length : Int), ()), ((), ()), ()), (), ()) = some (bif a0.all n_impl_isWord then .inl ((), (), ()) else .inr (((false, ()), ()), (), ())) :=
    loopN_list_all (step := stx_impl_wordsOk_13) a0 0 (fun i => (((a0, ()), ((a0.length : Int), ()), ((i : Int), ()), ()), (), ())) n_impl_isWord _ _ (fun i hi => by
      simp only [stx_impl_wordsOk_13, st_impl_wordsOk_13, inb_nat hi, nth_nat, ltb_t (show (i : Int) < a0.length by omega), cond_true, wr (show -9223372036854775808 ≤ (i : Int) + 1 by omega) (by omega), Int.natCast_add, Int.natCast_one]
      cases n_impl_isWord (a0.getD i 0) <;> rfl) (by simp only [stx_impl_wordsOk_13, st_impl_wordsOk_13, ltb_f (Int.le_refl _), cond_false]) _ (by show _ < 18446744073709551616; omega)
  unfold raw_impl_wordsOk n_impl_wordsOk
  rw [hl]
  cases a0.all n_impl_isWord <;> rfl
noncomputable def con_impl_wordsOk : Con := ⟨I_impl_wordsOk, U_impl_wordsOk, fun x => (fun n => some ((n, ()), ())) (n_impl_wordsOk x.1)⟩
theorem ok_impl_wordsOk : ConOk Try.prog 41 con_impl_wordsOk := (ok0_impl_wordsOk).mono (fun x r hk h => (nn_impl_wordsOk x.1 hk).trans h)
theorem impl_word_eq (a : Int) : n_impl_isWord a = n_spec_l1Word a := by kernel_rfl
theorem impl_words_eq (a : List Int) : n_impl_wordsOk a = a.all n_spec_l1Word := by
  unfold n_impl_wordsOk; rw [show n_impl_isWord = n_spec_l1Word from funext impl_word_eq]
end

/-! impl_PutCmd -/
section
noncomputable def B_impl_PutCmd : Code := (Try.f18.body).getD .skip
noncomputable def E_impl_PutCmd : Env := envOf TT [(40, con_impl_within), (41, con_impl_wordsOk)] []
theorem fr_impl_PutCmd_0 : FrOk Try.prog ⟨E_impl_PutCmd, 35, fun _ => none⟩ B_impl_PutCmd := frOk_base mixed tt_ok ⟨ok_impl_within, ok_impl_wordsOk, trivial⟩
noncomputable def D_impl_PutCmd_0 : Nat → Option Seg := fun _ => none
abbrev I_impl_PutCmd : List Par := [.rd tC]
abbrev U_impl_PutCmd : List OT := [⟨false, tL, (.ow .fz)⟩]
noncomputable def raw_impl_PutCmd (a0 : Int × Int × Int × Int × (List Int)) : Option (ResD U_impl_PutCmd × MutD I_impl_PutCmd) :=
  bif (apok ([a0.1, a0.2.1, a0.2.2.1, a0.2.2.2.1, (a0.2.2.2.2.length : Int)] : List Int).length a0.2.2.2.2.length 8) then
    let r1 := n_impl_within a0.1 1 6
    bif (!(!r1)) then
      bif (!(ltb 6 (a0.2.2.2.2.length : Int))) then
        let r2 := n_impl_wordsOk (([a0.1, a0.2.1, a0.2.2.1, a0.2.2.2.1, (a0.2.2.2.2.length : Int)] : List Int) ++ a0.2.2.2.2)
        bif (!r2) then
          some (([], ()), ())
        else
          some (((([a0.1, a0.2.1, a0.2.2.1, a0.2.2.2.1, (a0.2.2.2.2.length : Int)] : List Int) ++ a0.2.2.2.2), ()), ())
      else
        some (([], ()), ())
    else
      some (([], ()), ())
  else none
theorem e_impl_PutCmd (x : InD I_impl_PutCmd) : execF ⟨E_impl_PutCmd, 35, D_impl_PutCmd_0⟩ Try.f18.results.toList B_impl_PutCmd I_impl_PutCmd U_impl_PutCmd x = raw_impl_PutCmd x.1 := by kernel_rfl
theorem ok0_impl_PutCmd : ConOk Try.prog 18 ⟨I_impl_PutCmd, U_impl_PutCmd, fun x => raw_impl_PutCmd x.1⟩ := conOk_exec (fr_impl_PutCmd_0) Try.func18 (by kernel_rfl) (by kernel_rfl) Try.ntmps18.symm (by decide) (fun x r h => (e_impl_PutCmd x).trans h)
noncomputable def con_impl_PutCmd : Con := ⟨I_impl_PutCmd, U_impl_PutCmd, fun x => raw_impl_PutCmd x.1⟩
theorem ok_impl_PutCmd : ConOk Try.prog 18 con_impl_PutCmd := ok0_impl_PutCmd
theorem w_impl_PutCmd (a : Int × Int × Int × Int × List Int) (h : a.2.2.2.2.length ≤ 17592186044411) : raw_impl_PutCmd a = some ((pPut a, ()), ()) := by
  unfold raw_impl_PutCmd pPut
  rw [show apok ([a.1, a.2.1, a.2.2.1, a.2.2.2.1, (a.2.2.2.2.length : Int)] : List Int).length a.2.2.2.2.length 8 = true by rw [apok_iff]; simp only [List.length_cons, List.length_nil]; omega, bif_t]
  simp only [impl_words_eq, impl_in_eq, List.cons_append, List.nil_append]
  cases n_spec_l1In a.1 1 6
  · rfl
  · by_cases h6 : a.2.2.2.2.length ≤ 6
    · rw [decide_eq_true h6, ltb_f (show (a.2.2.2.2.length : Int) ≤ 6 by omega)]
      cases (a.1 :: a.2.1 :: a.2.2.1 :: a.2.2.2.1 :: (a.2.2.2.2.length : Int) :: a.2.2.2.2).all n_spec_l1Word <;> rfl
    · rw [decide_eq_false h6, ltb_t (show 6 < (a.2.2.2.2.length : Int) by omega)]
      cases (a.1 :: a.2.1 :: a.2.2.1 :: a.2.2.2.1 :: (a.2.2.2.2.length : Int) :: a.2.2.2.2).all n_spec_l1Word <;> rfl
end

/-! laws_eqCmd -/
section
noncomputable def B_laws_eqCmd : Code := (Try.f19.body).getD .skip
noncomputable def E_laws_eqCmd : Env := envOf TT [(12, con_laws_eqIntS)] []
theorem fr_laws_eqCmd_0 : FrOk Try.prog ⟨E_laws_eqCmd, 31, fun _ => none⟩ B_laws_eqCmd := frOk_base mixed tt_ok ⟨ok_laws_eqIntS, trivial⟩
noncomputable def D_laws_eqCmd_0 : Nat → Option Seg := fun _ => none
abbrev I_laws_eqCmd : List Par := [.rd tC, .rd tC]
abbrev U_laws_eqCmd : List OT := [⟨false, tB, .fz⟩]
noncomputable def raw_laws_eqCmd (a0 : Int × Int × Int × Int × (List Int)) (a1 : Int × Int × Int × Int × (List Int)) : Option (ResD U_laws_eqCmd × MutD I_laws_eqCmd) :=
  bif (a0.1 != a1.1) then
    some ((false, ()), ())
  else
    bif (a0.2.1 != a1.2.1) then
      some ((false, ()), ())
    else
      bif (a0.2.2.1 != a1.2.2.1) then
        some ((false, ()), ())
      else
        bif (a0.2.2.2.1 != a1.2.2.2.1) then
          some ((false, ()), ())
        else
          let r1 := n_laws_eqIntS a0.2.2.2.2 a1.2.2.2.2
          bif (!r1) then
            some ((false, ()), ())
          else
            some ((true, ()), ())
theorem e_laws_eqCmd (x : InD I_laws_eqCmd) : execF ⟨E_laws_eqCmd, 31, D_laws_eqCmd_0⟩ Try.f19.results.toList B_laws_eqCmd I_laws_eqCmd U_laws_eqCmd x = raw_laws_eqCmd x.1 x.2.1 := by kernel_rfl
theorem ok0_laws_eqCmd : ConOk Try.prog 19 ⟨I_laws_eqCmd, U_laws_eqCmd, fun x => raw_laws_eqCmd x.1 x.2.1⟩ := conOk_exec (fr_laws_eqCmd_0) Try.func19 (by kernel_rfl) (by kernel_rfl) Try.ntmps19.symm (by decide) (fun x r h => (e_laws_eqCmd x).trans h)
noncomputable def n_laws_eqCmd (a0 : Int × Int × Int × Int × (List Int)) (a1 : Int × Int × Int × Int × (List Int)) : Bool :=
  bif (a0.1 != a1.1) then
    false
  else
    bif (a0.2.1 != a1.2.1) then
      false
    else
      bif (a0.2.2.1 != a1.2.2.1) then
        false
      else
        bif (a0.2.2.2.1 != a1.2.2.2.1) then
          false
        else
          let r1 := n_laws_eqIntS a0.2.2.2.2 a1.2.2.2.2
          bif (!r1) then
            false
          else
            true
noncomputable def con_laws_eqCmd : Con := ⟨I_laws_eqCmd, U_laws_eqCmd, fun x => (fun n => some ((n, ()), ())) (n_laws_eqCmd x.1 x.2.1)⟩
theorem nn_laws_eqCmd (a0 : Int × Int × Int × Int × (List Int)) (a1 : Int × Int × Int × Int × (List Int)) : raw_laws_eqCmd a0 a1 = (fun n => some ((n, ()), ())) (n_laws_eqCmd a0 a1) := bif_ty (p := fun (n : Bool) => ((n, ()), ())) (bif_some (p := fun (n : Bool) => ((n, ()), ())) rfl (bif_some (p := fun (n : Bool) => ((n, ()), ())) rfl (bif_some (p := fun (n : Bool) => ((n, ()), ())) rfl (bif_some (p := fun (n : Bool) => ((n, ()), ())) rfl (bif_some (p := fun (n : Bool) => ((n, ()), ())) rfl rfl)))))
theorem ok_laws_eqCmd : ConOk Try.prog 19 con_laws_eqCmd := (ok0_laws_eqCmd).mono (fun x r _ h => (nn_laws_eqCmd x.1 x.2.1).trans h)
theorem eqInt_refl (a : List Int) : n_laws_eqIntS a a = true := by unfold n_laws_eqIntS; simp
theorem eqCmd_refl (a : Int × Int × Int × Int × List Int) : n_laws_eqCmd a a = true := by unfold n_laws_eqCmd; simp only [bne_self_eq_false, cond_false, eqInt_refl, Bool.not_true]
end

/-! laws_markCmd -/
section
noncomputable def B_laws_markCmd : Code := (Try.f20.body).getD .skip
noncomputable def E_laws_markCmd : Env := envOf TT [(13, con_laws_markIntS)] []
theorem fr_laws_markCmd_0 : FrOk Try.prog ⟨E_laws_markCmd, 10, fun _ => none⟩ B_laws_markCmd := frOk_base mixed tt_ok ⟨ok_laws_markIntS, trivial⟩
noncomputable def D_laws_markCmd_0 : Nat → Option Seg := fun _ => none
abbrev I_laws_markCmd : List Par := [.mt tC (.pr .fz (.pr .fz (.pr .fz (.pr .fz (.ow .fz))))), .rd tI]
abbrev U_laws_markCmd : List OT := [⟨false, tI, .fz⟩]
noncomputable def raw_laws_markCmd (a0 : Int × Int × Int × Int × (List Int)) (a1 : Int) : Option (ResD U_laws_markCmd × MutD I_laws_markCmd) :=
  let r1 := n_laws_markIntS a0.2.2.2.2 a1
  some ((r1.1, ()), ((a0.1, a0.2.1, a0.2.2.1, a0.2.2.2.1, r1.2), ()))
theorem e_laws_markCmd (x : InD I_laws_markCmd) : execF ⟨E_laws_markCmd, 10, D_laws_markCmd_0⟩ Try.f20.results.toList B_laws_markCmd I_laws_markCmd U_laws_markCmd x = raw_laws_markCmd x.1 x.2.1 := by kernel_rfl
theorem ok0_laws_markCmd : ConOk Try.prog 20 ⟨I_laws_markCmd, U_laws_markCmd, fun x => raw_laws_markCmd x.1 x.2.1⟩ := conOk_exec (fr_laws_markCmd_0) Try.func20 (by kernel_rfl) (by kernel_rfl) Try.ntmps20.symm (by decide) (fun x r h => (e_laws_markCmd x).trans h)
noncomputable def n_laws_markCmd (a0 : Int × Int × Int × Int × (List Int)) (a1 : Int) : Int × (Int × Int × Int × Int × (List Int)) :=
  let r1 := n_laws_markIntS a0.2.2.2.2 a1
  (r1.1, (a0.1, a0.2.1, a0.2.2.1, a0.2.2.2.1, r1.2))
noncomputable def con_laws_markCmd : Con := ⟨I_laws_markCmd, U_laws_markCmd, fun x => (fun n => some ((n.1, ()), (n.2, ()))) (n_laws_markCmd x.1 x.2.1)⟩
theorem nn_laws_markCmd (a0 : Int × Int × Int × Int × (List Int)) (a1 : Int) : raw_laws_markCmd a0 a1 = (fun n => some ((n.1, ()), (n.2, ()))) (n_laws_markCmd a0 a1) := bif_ty (p := fun (n : Int × (Int × Int × Int × Int × (List Int))) => ((n.1, ()), (n.2, ()))) rfl
theorem ok_laws_markCmd : ConOk Try.prog 20 con_laws_markCmd := (ok0_laws_markCmd).mono (fun x r _ h => (nn_laws_markCmd x.1 x.2.1).trans h)
theorem markEnd_eq : ∀ (n : Nat) (k : Int), 0 ≤ k → k + n ≤ 9223372036854775807 → markEnd k n = k + n
  | 0, k, _, _ => by simp [markEnd]
  | n + 1, k, h, h2 => by
    rw [markEnd, wr (by omega) (by omega), markEnd_eq n (k + 1) (by omega) (by omega)]; omega
theorem markEnd_nn {n : Nat} (h : n ≤ 4611686018427387903) : ¬ markEnd 1 n < 0 := by rw [markEnd_eq n 1 (by omega) (by omega)]; omega
theorem dmark {n : Nat} (h : n ≤ 4611686018427387903) : ltb (markEnd 1 n) 0 = false := ltb_f (Int.not_lt.1 (markEnd_nn h))
end

/-! laws_FnExactPutCmd -/
section
noncomputable def B_laws_FnExactPutCmd : Code := (Try.f4.body).getD .skip
noncomputable def E_laws_FnExactPutCmd : Env := envOf TT [(12, con_laws_eqIntS), (13, con_laws_markIntS), (14, con_laws_heldIntS), (15, con_laws_szCmd), (16, con_spec_PutCmd), (17, con_laws_toCmd), (18, con_impl_PutCmd), (19, con_laws_eqCmd), (20, con_laws_markCmd)] []
theorem fr_laws_FnExactPutCmd_0 : FrOk Try.prog ⟨E_laws_FnExactPutCmd, 69, fun _ => none⟩ B_laws_FnExactPutCmd := frOk_base mixed tt_ok ⟨ok_laws_eqIntS, ok_laws_markIntS, ok_laws_heldIntS, ok_laws_szCmd, ok_spec_PutCmd, ok_laws_toCmd, ok_impl_PutCmd, ok_laws_eqCmd, ok_laws_markCmd, trivial⟩
noncomputable def D_laws_FnExactPutCmd_0 : Nat → Option Seg := fun _ => none
abbrev I_laws_FnExactPutCmd : List Par := [.rd tC]
abbrev U_laws_FnExactPutCmd : List OT := [⟨false, tB, .fz⟩]
noncomputable def raw_laws_FnExactPutCmd (a0 : Int × Int × Int × Int × (List Int)) : Option (ResD U_laws_FnExactPutCmd × MutD I_laws_FnExactPutCmd) :=
  let r1 := n_laws_szCmd a0 1048576
  bif (ltb r1 0) then
    some ((true, ()), ())
  else
    let r2 := n_laws_toCmd a0
    bnd (raw_spec_PutCmd r2) fun r3 =>
    let r4 := n_laws_toCmd a0
    bnd (raw_impl_PutCmd r4) fun r5 =>
    let r6 := n_laws_eqIntS r5.1.1 r3.1.1
    bif (!r6) then
      some ((false, ()), ())
    else
      let r7 := n_laws_toCmd a0
      let r8 := n_laws_eqCmd r4 r7
      bif (!r8) then
        some ((false, ()), ())
      else
        let r9 := n_laws_markCmd r4 1
        bif (!(ltb r9.1 0)) then
          let r10 := n_laws_eqIntS r5.1.1 r3.1.1
          bif (!r10) then
            some ((false, ()), ())
          else
            let r11 := n_laws_markIntS r5.1.1 1
            let r12 := n_laws_heldIntS r11.2 1
            bif (ltb r12 0) then
              some ((false, ()), ())
            else
              bif (r12 != r11.1) then
                some ((false, ()), ())
              else
                let r13 := n_laws_toCmd a0
                bnd (raw_impl_PutCmd r13) fun r14 =>
                let r15 := n_laws_eqIntS r14.1.1 r3.1.1
                bif (!r15) then
                  some ((false, ()), ())
                else
                  let r16 := n_laws_heldIntS r11.2 1
                  bif (ltb r16 0) then
                    some ((false, ()), ())
                  else
                    bif (r16 != r11.1) then
                      some ((false, ()), ())
                    else
                      some ((true, ()), ())
        else
          some ((false, ()), ())
theorem e_laws_FnExactPutCmd (x : InD I_laws_FnExactPutCmd) : execF ⟨E_laws_FnExactPutCmd, 69, D_laws_FnExactPutCmd_0⟩ Try.f4.results.toList B_laws_FnExactPutCmd I_laws_FnExactPutCmd U_laws_FnExactPutCmd x = raw_laws_FnExactPutCmd x.1 := by kernel_rfl
theorem ok0_laws_FnExactPutCmd : ConOk Try.prog 4 ⟨I_laws_FnExactPutCmd, U_laws_FnExactPutCmd, fun x => raw_laws_FnExactPutCmd x.1⟩ := conOk_exec (fr_laws_FnExactPutCmd_0) Try.func4 (by kernel_rfl) (by kernel_rfl) Try.ntmps4.symm (by decide) (fun x r h => (e_laws_FnExactPutCmd x).trans h)
noncomputable def n_laws_FnExactPutCmd (a0 : Int × Int × Int × Int × List Int) : Bool := true
theorem nn_laws_FnExactPutCmd (a0 : Int × Int × Int × Int × List Int) (hk : InOk I_laws_FnExactPutCmd (a0, ())) : raw_laws_FnExactPutCmd a0 = (fun n => some ((n, ()), ())) (n_laws_FnExactPutCmd a0) := by
  have hb : a0.2.2.2.2.length * 8 ≤ 2 ^ 47 := hk.1.2.2.2.2.1
  unfold raw_laws_FnExactPutCmd n_laws_FnExactPutCmd
  by_cases h : n_laws_szCmd a0 1048576 < 0
  · simp only [ltb_t h, cond_true]
  · have hs : a0.2.2.2.2.length ≤ 1048576 := by
      by_cases h2 : n_laws_szIntS a0.2.2.2.2 1048576 < 0
      · unfold n_laws_szCmd at h
        simp only [ltb_t h2, cond_true] at h
        omega
      · have := (szIntS_nn (by omega) (by omega) (by omega) h2).1
        omega
    have hp : (pPut a0).length ≤ 1048581 := by
      unfold pPut
      cases (n_spec_l1In a0.1 1 6 && ((a0.1 :: a0.2.1 :: a0.2.2.1 :: a0.2.2.2.1 :: (a0.2.2.2.2.length : Int) :: a0.2.2.2.2).all n_spec_l1Word && decide (a0.2.2.2.2.length ≤ 6)))
      · simp
      · simp only [cond_true, List.length_cons]; omega
    simp only [ltb_f (Int.not_lt.1 h), cond_false, n_laws_toCmd, w_spec_PutCmd a0 (by omega), w_impl_PutCmd a0 (by omega), bnd_some, eqInt_refl, eqCmd_refl, Bool.not_true, n_laws_markCmd, n_laws_markIntS, held_marks,
      dmark (show a0.2.2.2.2.length ≤ 4611686018427387903 by omega), dmark (show (pPut a0).length ≤ 4611686018427387903 by omega), Bool.not_false, cond_true, bne_self_eq_false]
noncomputable def con_laws_FnExactPutCmd : Con := ⟨I_laws_FnExactPutCmd, U_laws_FnExactPutCmd, fun x => (fun n => some ((n, ()), ())) (n_laws_FnExactPutCmd x.1)⟩
theorem ok_laws_FnExactPutCmd : ConOk Try.prog 4 con_laws_FnExactPutCmd := (ok0_laws_FnExactPutCmd).mono (fun x r hk h => (nn_laws_FnExactPutCmd x.1 hk).trans h)
end
end Go.Tf
