/- Functions of the program, and what they come to. -/
import Derived.Test.YtljhekjbdmnmnaaExactCmdCodeF1
namespace Go.Tf
open Go.Proofs
set_option linter.unusedVariables false
set_option linter.unusedSimpArgs false
set_option maxRecDepth 100000
/-! laws_toIntS -/
section
noncomputable def B_laws_toIntS : Code := (Try.f22.body).getD .skip
noncomputable def E_laws_toIntS : Env := envOf TT [] []
theorem fr_laws_toIntS_0 : FrOk Try.prog ⟨E_laws_toIntS, 22, fun _ => none⟩ B_laws_toIntS := frOk_base mixed tt_ok trivial
noncomputable def D_laws_toIntS_0 : Nat → Option Seg := fun _ => none
def L_laws_toIntS_29 : Shape := ⟨[(0, false, [.br tI]), (3, false, [.at 800000000]), (4, false, [.int .i64])], [], [(800000000, tI, .fz)]⟩
def S_laws_toIntS_29 : Shape := ⟨[(0, false, [.br tI]), (3, false, [.at 800000000]), (4, false, [.ci .i64 0])], [], [(800000000, tI, .fz)]⟩
def O_laws_toIntS_29 : Shape := ⟨[(3, false, [.at 800000000])], [], [(800000000, tI, .fz)]⟩
def Z_laws_toIntS_29 : Shape := ⟨[], [], []⟩
noncomputable def st_laws_toIntS_29 (v0 : List Int) (v1 : Int) (v2 : List Int) : Option ((L_laws_toIntS_29).X ⊕ ((O_laws_toIntS_29).X ⊕ (Z_laws_toIntS_29).X)) :=
  bif (ltb v1 (v0.length : Int)) then
    bif (inb v1 v0.length) then
      bif (inb v1 v2.length) then
        some (.inl (((v0, ()), ((), ()), ((IntKind.i64.wrap (v1 + 1)), ()), ()), (), ((v2.set (v1).toNat (nth v0 v1 0)), ())))
      else none
    else none
  else
    some (.inr (.inl ((((), ()), ()), (), (v2, ()))))
noncomputable def stx_laws_toIntS_29 (x : (L_laws_toIntS_29).X) := st_laws_toIntS_29 x.1.1.1 x.1.2.2.1.1 x.2.2.1
def em_laws_toIntS_29 (x : (S_laws_toIntS_29).X) : (L_laws_toIntS_29).X := (((x.1.1.1, ()), ((), ()), (0, ()), ()), (), (x.2.2.1, ()))
noncomputable def c_laws_toIntS_29 : Code := (subN B_laws_toIntS 64 116).getD .skip
theorem a_laws_toIntS_29 : subN B_laws_toIntS 64 29 = some (.block 0 (.loop c_laws_toIntS_29)) := by kernel_rfl
theorem r_laws_toIntS_29 (x : (L_laws_toIntS_29).X) : roundT ⟨E_laws_toIntS, 22, D_laws_toIntS_0⟩ 0 c_laws_toIntS_29 116 L_laws_toIntS_29 O_laws_toIntS_29 Z_laws_toIntS_29 x = stx_laws_toIntS_29 x := by kernel_rfl
noncomputable def fu_laws_toIntS_29 (x : (S_laws_toIntS_29).X) : Nat := (fun (u0 : List Int) (u1 : List Int) => 18446744073709551616) x.1.1.1 x.2.2.1
noncomputable def F_laws_toIntS_29 (x : (S_laws_toIntS_29).X) : Option ((O_laws_toIntS_29).X ⊕ (Z_laws_toIntS_29).X) := loopN stx_laws_toIntS_29 (fu_laws_toIntS_29 x) (em_laws_toIntS_29 x)
noncomputable def sg_laws_toIntS_29 : Seg := ⟨S_laws_toIntS_29, O_laws_toIntS_29, Z_laws_toIntS_29, F_laws_toIntS_29⟩
noncomputable def D_laws_toIntS_1 : Nat → Option Seg := fun q => bif Nat.beq q 29 then some sg_laws_toIntS_29 else D_laws_toIntS_0 q
theorem fr_laws_toIntS_1 : FrOk Try.prog ⟨E_laws_toIntS, 22, D_laws_toIntS_1⟩ B_laws_toIntS := (fr_laws_toIntS_0).loop (sg := sg_laws_toIntS_29) L_laws_toIntS_29 em_laws_toIntS_29 (by decide) a_laws_toIntS_29 stx_laws_toIntS_29 fu_laws_toIntS_29 (by decide) (fun _ => rfl) (fun x r _ h => h) r_laws_toIntS_29
abbrev I_laws_toIntS : List Par := [.rd tL]
abbrev U_laws_toIntS : List OT := [⟨false, tL, (.ow .fz)⟩]
noncomputable def raw_laws_toIntS (a0 : List Int) : Option (ResD U_laws_toIntS × MutD I_laws_toIntS) :=
  bif (mkok (a0.length : Int) 8) then
    segM (F_laws_toIntS_29 (((a0, ()), ((), ()), ((), ()), ()), (), ((List.replicate ((a0.length : Int)).toNat 0), ()))) (fun y0 =>
      some ((y0.2.2.1, ()), ())) (fun y0 =>
      none)
  else none
theorem e_laws_toIntS (x : InD I_laws_toIntS) : execF ⟨E_laws_toIntS, 22, D_laws_toIntS_1⟩ Try.f22.results.toList B_laws_toIntS I_laws_toIntS U_laws_toIntS x = raw_laws_toIntS x.1 := by kernel_rfl
theorem ok0_laws_toIntS : ConOk Try.prog 22 ⟨I_laws_toIntS, U_laws_toIntS, fun x => raw_laws_toIntS x.1⟩ := conOk_exec (fr_laws_toIntS_1) Try.func22 (by kernel_rfl) (by kernel_rfl) Try.ntmps22.symm (by decide) (fun x r h => (e_laws_toIntS x).trans h)
noncomputable def n_laws_toIntS (a0 : List Int) : List Int := a0
theorem nn_laws_toIntS (a0 : List Int) (hk : InOk I_laws_toIntS (a0, ())) : raw_laws_toIntS a0 = (fun n => some ((n, ()), ())) (n_laws_toIntS a0) := by
  have hb : a0.length * 8 ≤ 2 ^ 47 := hk.1.1
  have hs : ∀ i, i < a0.length → (a0.take i ++ List.replicate (a0.length - i) (0 : Int)).set i (a0.getD i 0) = a0.take (i + 1) ++ List.replicate (a0.length - (i + 1)) 0 := fun i hi => by
    have hl : (a0.take i).length = i := by rw [List.length_take]; omega
    rw [List.set_append_right _ _ (by rw [hl]; exact Nat.le_refl _), hl, Nat.sub_self, List.take_add_one, List.append_assoc, show a0.length - i = (a0.length - (i + 1)) + 1 by omega, List.replicate_succ]
    simp [hi]
  have hl : F_laws_toIntS_29 (((a0, ()), ((), ()), ((), ()), ()), (), ((a0.take 0 ++ List.replicate (a0.length - 0) 0), ())) = some (.inl ((((), ()), ()), (), (a0.take a0.length ++ List.replicate (a0.length - a0.length) 0, ()))) :=
    loopN_up (step := stx_laws_toIntS_29) (fun i => (((a0, ()), ((), ()), ((i : Int), ()), ()), (), (a0.take i ++ List.replicate (a0.length - i) 0, ()))) a0.length _ (fun i hi => by
      have hL : (a0.take i ++ List.replicate (a0.length - i) (0 : Int)).length = a0.length := by rw [List.length_append, List.length_take, List.length_replicate]; omega
      simp only [stx_laws_toIntS_29, st_laws_toIntS_29, hL, inb_nat hi, nth_nat, Int.toNat_natCast, ltb_t (show (i : Int) < a0.length by omega), cond_true, wr (show -9223372036854775808 ≤ (i : Int) + 1 by omega) (by omega), Int.natCast_add, Int.natCast_one, hs i hi]) (by
      simp only [stx_laws_toIntS_29, st_laws_toIntS_29, ltb_f (Int.le_refl _), cond_false]) _ (by show _ < 18446744073709551616; omega)
  unfold raw_laws_toIntS n_laws_toIntS
  rw [List.take_zero, List.nil_append, Nat.sub_zero] at hl
  rw [show mkok (a0.length : Int) 8 = true by rw [mkok_iff]; omega, bif_t, Int.toNat_natCast, hl]
  simp [segM]
noncomputable def con_laws_toIntS : Con := ⟨I_laws_toIntS, U_laws_toIntS, fun x => (fun n => some ((n, ()), ())) (n_laws_toIntS x.1)⟩
theorem ok_laws_toIntS : ConOk Try.prog 22 con_laws_toIntS := (ok0_laws_toIntS).mono (fun x r hk h => (nn_laws_toIntS x.1 hk).trans h)
end

/-! laws_toCmd -/
section
noncomputable def B_laws_toCmd : Code := (Try.f17.body).getD .skip
noncomputable def E_laws_toCmd : Env := envOf TT [(22, con_laws_toIntS)] []
theorem fr_laws_toCmd_0 : FrOk Try.prog ⟨E_laws_toCmd, 21, fun _ => none⟩ B_laws_toCmd := frOk_base mixed tt_ok ⟨ok_laws_toIntS, trivial⟩
noncomputable def D_laws_toCmd_0 : Nat → Option Seg := fun _ => none
abbrev I_laws_toCmd : List Par := [.rd tC]
abbrev U_laws_toCmd : List OT := [⟨false, tC, (.pr .fz (.pr .fz (.pr .fz (.pr .fz (.ow .fz)))))⟩]
noncomputable def raw_laws_toCmd (a0 : Int × Int × Int × Int × (List Int)) : Option (ResD U_laws_toCmd × MutD I_laws_toCmd) :=
  let r1 := n_laws_toIntS a0.2.2.2.2
  some (((a0.1, a0.2.1, a0.2.2.1, a0.2.2.2.1, r1), ()), ())
theorem e_laws_toCmd (x : InD I_laws_toCmd) : execF ⟨E_laws_toCmd, 21, D_laws_toCmd_0⟩ Try.f17.results.toList B_laws_toCmd I_laws_toCmd U_laws_toCmd x = raw_laws_toCmd x.1 := by kernel_rfl
theorem ok0_laws_toCmd : ConOk Try.prog 17 ⟨I_laws_toCmd, U_laws_toCmd, fun x => raw_laws_toCmd x.1⟩ := conOk_exec (fr_laws_toCmd_0) Try.func17 (by kernel_rfl) (by kernel_rfl) Try.ntmps17.symm (by decide) (fun x r h => (e_laws_toCmd x).trans h)
noncomputable def n_laws_toCmd (a0 : Int × Int × Int × Int × List Int) : Int × Int × Int × Int × List Int := a0
theorem nn_laws_toCmd (a0 : Int × Int × Int × Int × List Int) (hk : InOk I_laws_toCmd (a0, ())) : raw_laws_toCmd a0 = (fun n => some ((n, ()), ())) (n_laws_toCmd a0) := rfl
noncomputable def con_laws_toCmd : Con := ⟨I_laws_toCmd, U_laws_toCmd, fun x => (fun n => some ((n, ()), ())) (n_laws_toCmd x.1)⟩
theorem ok_laws_toCmd : ConOk Try.prog 17 con_laws_toCmd := (ok0_laws_toCmd).mono (fun x r hk h => (nn_laws_toCmd x.1 hk).trans h)
end

/-! impl_isWord -/
section
noncomputable def B_impl_isWord : Code := (Try.f56.body).getD .skip
noncomputable def E_impl_isWord : Env := envOf TT [(40, con_impl_within)] []
theorem fr_impl_isWord_0 : FrOk Try.prog ⟨E_impl_isWord, 5, fun _ => none⟩ B_impl_isWord := frOk_base mixed tt_ok ⟨ok_impl_within, trivial⟩
noncomputable def D_impl_isWord_0 : Nat → Option Seg := fun _ => none
abbrev I_impl_isWord : List Par := [.rd tI]
abbrev U_impl_isWord : List OT := [⟨false, tB, .fz⟩]
noncomputable def raw_impl_isWord (a0 : Int) : Option (ResD U_impl_isWord × MutD I_impl_isWord) :=
  let r1 := n_impl_within a0 0 65535
  some ((r1, ()), ())
theorem e_impl_isWord (x : InD I_impl_isWord) : execF ⟨E_impl_isWord, 5, D_impl_isWord_0⟩ Try.f56.results.toList B_impl_isWord I_impl_isWord U_impl_isWord x = raw_impl_isWord x.1 := by kernel_rfl
theorem ok0_impl_isWord : ConOk Try.prog 56 ⟨I_impl_isWord, U_impl_isWord, fun x => raw_impl_isWord x.1⟩ := conOk_exec (fr_impl_isWord_0) Try.func56 (by kernel_rfl) (by kernel_rfl) Try.ntmps56.symm (by decide) (fun x r h => (e_impl_isWord x).trans h)
noncomputable def n_impl_isWord (a0 : Int) : Bool :=
  let r1 := n_impl_within a0 0 65535
  r1
noncomputable def con_impl_isWord : Con := ⟨I_impl_isWord, U_impl_isWord, fun x => (fun n => some ((n, ()), ())) (n_impl_isWord x.1)⟩
theorem nn_impl_isWord (a0 : Int) : raw_impl_isWord a0 = (fun n => some ((n, ()), ())) (n_impl_isWord a0) := bif_ty (p := fun (n : Bool) => ((n, ()), ())) rfl
theorem ok_impl_isWord : ConOk Try.prog 56 con_impl_isWord := (ok0_impl_isWord).mono (fun x r _ h => (nn_impl_isWord x.1).trans h)
end

/-! impl_wordsOk -/
section
noncomputable def B_impl_wordsOk : Code := (Try.f41.body).getD .skip
noncomputable def E_impl_wordsOk : Env := envOf TT [(56, con_impl_isWord)] []
theorem fr_impl_wordsOk_0 : FrOk Try.prog ⟨E_impl_wordsOk, 15, fun _ => none⟩ B_impl_wordsOk := frOk_base mixed tt_ok ⟨ok_impl_isWord, trivial⟩
noncomputable def D_impl_wordsOk_0 : Nat → Option Seg := fun _ => none
def L_impl_wordsOk_13 : Shape := ⟨[(5, false, [.br tI]), (6, false, [.int .i64]), (7, false, [.int .i64])], [], []⟩
def S_impl_wordsOk_13 : Shape := ⟨[(5, false, [.br tI]), (6, false, [.int .i64]), (7, false, [.ci .i64 0])], [], []⟩
def O_impl_wordsOk_13 : Shape := ⟨[], [], []⟩
def Z_impl_wordsOk_13 : Shape := ⟨[(2, false, [.bool])], [], []⟩
noncomputable def st_impl_wordsOk_13 (v0 : List Int) (v1 : Int) (v2 : Int) : Option ((L_impl_wordsOk_13).X ⊕ ((O_impl_wordsOk_13).X ⊕ (Z_impl_wordsOk_13).X)) :=
  bif (ltb v2 v1) then
    bif (inb v2 v0.length) then
      let r2 := n_impl_isWord (nth v0 v2 0)
      bif (!r2) then
        some (.inr (.inr (((false, ()), ()), (), ())))
      else
        some (.inl (((v0, ()), (v1, ()), ((IntKind.i64.wrap (v2 + 1)), ()), ()), (), ()))
    else none
  else
    some (.inr (.inl ((), (), ())))
noncomputable def stx_impl_wordsOk_13 (x : (L_impl_wordsOk_13).X) := st_impl_wordsOk_13 x.1.1.1 x.1.2.1.1 x.1.2.2.1.1
def em_impl_wordsOk_13 (x : (S_impl_wordsOk_13).X) : (L_impl_wordsOk_13).X := (((x.1.1.1, ()), (x.1.2.1.1, ()), (0, ()), ()), (), ())
noncomputable def c_impl_wordsOk_13 : Code := (subN B_impl_wordsOk 64 52).getD .skip
theorem a_impl_wordsOk_13 : subN B_impl_wordsOk 64 13 = some (.block 0 (.loop c_impl_wordsOk_13)) := by kernel_rfl
theorem r_impl_wordsOk_13 (x : (L_impl_wordsOk_13).X) : roundT ⟨E_impl_wordsOk, 15, D_impl_wordsOk_0⟩ 0 c_impl_wordsOk_13 52 L_impl_wordsOk_13 O_impl_wordsOk_13 Z_impl_wordsOk_13 x = stx_impl_wordsOk_13 x := by kernel_rfl
noncomputable def fu_impl_wordsOk_13 (x : (S_impl_wordsOk_13).X) : Nat := (fun (u0 : List Int) (u1 : Int) => 18446744073709551616) x.1.1.1 x.1.2.1.1
noncomputable def F_impl_wordsOk_13 (x : (S_impl_wordsOk_13).X) : Option ((O_impl_wordsOk_13).X ⊕ (Z_impl_wordsOk_13).X) := loopN stx_impl_wordsOk_13 (fu_impl_wordsOk_13 x) (em_impl_wordsOk_13 x)
noncomputable def sg_impl_wordsOk_13 : Seg := ⟨S_impl_wordsOk_13, O_impl_wordsOk_13, Z_impl_wordsOk_13, F_impl_wordsOk_13⟩
noncomputable def D_impl_wordsOk_1 : Nat → Option Seg := fun q => bif Nat.beq q 13 then some sg_impl_wordsOk_13 else D_impl_wordsOk_0 q
theorem fr_impl_wordsOk_1 : FrOk Try.prog ⟨E_impl_wordsOk, 15, D_impl_wordsOk_1⟩ B_impl_wordsOk := (fr_impl_wordsOk_0).loop (sg := sg_impl_wordsOk_13) L_impl_wordsOk_13 em_impl_wordsOk_13 (by decide) a_impl_wordsOk_13 stx_impl_wordsOk_13 fu_impl_wordsOk_13 (by decide) (fun _ => rfl) (fun x r _ h => h) r_impl_wordsOk_13
abbrev I_impl_wordsOk : List Par := [.rd tL]
abbrev U_impl_wordsOk : List OT := [⟨false, tB, .fz⟩]
noncomputable def raw_impl_wordsOk (a0 : List Int) : Option (ResD U_impl_wordsOk × MutD I_impl_wordsOk) :=
  segM (F_impl_wordsOk_13 (((a0, ()), ((a0.length : Int), ()), ((), ()), ()), (), ())) (fun y2 =>
    some ((true, ()), ())) (fun y2 =>
    some ((y2.1.1.1, ()), ()))
theorem e_impl_wordsOk (x : InD I_impl_wordsOk) : execF ⟨E_impl_wordsOk, 15, D_impl_wordsOk_1⟩ Try.f41.results.toList B_impl_wordsOk I_impl_wordsOk U_impl_wordsOk x = raw_impl_wordsOk x.1 := by kernel_rfl
theorem ok0_impl_wordsOk : ConOk Try.prog 41 ⟨I_impl_wordsOk, U_impl_wordsOk, fun x => raw_impl_wordsOk x.1⟩ := conOk_exec (fr_impl_wordsOk_1) Try.func41 (by kernel_rfl) (by kernel_rfl) Try.ntmps41.symm (by decide) (fun x r h => (e_impl_wordsOk x).trans h)
noncomputable def n_impl_wordsOk (a0 : List Int) : Bool := a0.all n_impl_isWord
theorem nn_impl_wordsOk (a0 : List Int) (hk : InOk I_impl_wordsOk (a0, ())) : raw_impl_wordsOk a0 = (fun n => some ((n, ()), ())) (n_impl_wordsOk a0) := by
  have hb : a0.length * 8 ≤ 2 ^ 47 := hk.1.1
  have hl : F_impl_wordsOk_13 (((a0, ()), ((a0.length : Int), ()), ((), ()), ()), (), ()) = some (bif a0.all n_impl_isWord then .inl ((), (), ()) else .inr (((false, ()), ()), (), ())) :=
    loopN_list_all (step := stx_impl_wordsOk_13) a0 0 (fun i => (((a0, ()), ((a0.length : Int), ()), ((i : Int), ()), ()), (), ())) n_impl_isWord _ _ (fun i hi => by
      simp only [stx_impl_wordsOk_13, st_impl_wordsOk_13, inb_nat hi, nth_nat, ltb_t (show (i : Int) < a0.length by omega), cond_true, wr (show -9223372036854775808 ≤ (i : Int) + 1 by omega) (by omega), Int.natCast_add, Int.natCast_one]
      cases n_impl_isWord (a0.getD i 0) <;> rfl) (by simp only [stx_impl_wordsOk_13, st_impl_wordsOk_13, ltb_f (Int.le_refl _), cond_false]) _ (by show _ < 18446744073709551616; omega)
  unfold raw_impl_wordsOk n_impl_wordsOk
  rw [hl]
  cases a0.all n_impl_isWord <;> rfl
noncomputable def con_impl_wordsOk : Con := ⟨I_impl_wordsOk, U_impl_wordsOk, fun x => (fun n => some ((n, ()), ())) (n_impl_wordsOk x.1)⟩
theorem ok_impl_wordsOk : ConOk Try.prog 41 con_impl_wordsOk := (ok0_impl_wordsOk).mono (fun x r hk h => (nn_impl_wordsOk x.1 hk).trans h)
theorem impl_word_eq (a : Int) : n_impl_isWord a = n_spec_l1Word a := by kernel_rfl
theorem impl_words_eq (a : List Int) : n_impl_wordsOk a = a.all n_spec_l1Word := by
  unfold n_impl_wordsOk; rw [show n_impl_isWord = n_spec_l1Word from funext impl_word_eq]
end

/-! laws_eqCmd -/
section
noncomputable def B_laws_eqCmd : Code := (Try.f19.body).getD .skip
noncomputable def E_laws_eqCmd : Env := envOf TT [(12, con_laws_eqIntS)] []
theorem fr_laws_eqCmd_0 : FrOk Try.prog ⟨E_laws_eqCmd, 31, fun _ => none⟩ B_laws_eqCmd := frOk_base mixed tt_ok ⟨ok_laws_eqIntS, trivial⟩
noncomputable def D_laws_eqCmd_0 : Nat → Option Seg := fun _ => none
abbrev I_laws_eqCmd : List Par := [.rd tC, .rd tC]
abbrev U_laws_eqCmd : List OT := [⟨false, tB, .fz⟩]
noncomputable def raw_laws_eqCmd (a0 : Int × Int × Int × Int × (List Int)) (a1 : Int × Int × Int × Int × (List Int)) : Option (ResD U_laws_eqCmd × MutD I_laws_eqCmd) :=
  bif (a0.1 != a1.1) then
    some ((false, ()), ())
  else
    bif (a0.2.1 != a1.2.1) then
      some ((false, ()), ())
    else
      bif (a0.2.2.1 != a1.2.2.1) then
        some ((false, ()), ())
      else
        bif (a0.2.2.2.1 != a1.2.2.2.1) then
          some ((false, ()), ())
        else
          let r1 := n_laws_eqIntS a0.2.2.2.2 a1.2.2.2.2
          bif (!r1) then
            some ((false, ()), ())
          else
            some ((true, ()), ())
theorem e_laws_eqCmd (x : InD I_laws_eqCmd) : execF ⟨E_laws_eqCmd, 31, D_laws_eqCmd_0⟩ Try.f19.results.toList B_laws_eqCmd I_laws_eqCmd U_laws_eqCmd x = raw_laws_eqCmd x.1 x.2.1 := by kernel_rfl
theorem ok0_laws_eqCmd : ConOk Try.prog 19 ⟨I_laws_eqCmd, U_laws_eqCmd, fun x => raw_laws_eqCmd x.1 x.2.1⟩ := conOk_exec (fr_laws_eqCmd_0) Try.func19 (by kernel_rfl) (by kernel_rfl) Try.ntmps19.symm (by decide) (fun x r h => (e_laws_eqCmd x).trans h)
noncomputable def n_laws_eqCmd (a0 : Int × Int × Int × Int × (List Int)) (a1 : Int × Int × Int × Int × (List Int)) : Bool :=
  bif (a0.1 != a1.1) then
    false
  else
    bif (a0.2.1 != a1.2.1) then
      false
    else
      bif (a0.2.2.1 != a1.2.2.1) then
        false
      else
        bif (a0.2.2.2.1 != a1.2.2.2.1) then
          false
        else
          let r1 := n_laws_eqIntS a0.2.2.2.2 a1.2.2.2.2
          bif (!r1) then
            false
          else
            true
noncomputable def con_laws_eqCmd : Con := ⟨I_laws_eqCmd, U_laws_eqCmd, fun x => (fun n => some ((n, ()), ())) (n_laws_eqCmd x.1 x.2.1)⟩
theorem nn_laws_eqCmd (a0 : Int × Int × Int × Int × (List Int)) (a1 : Int × Int × Int × Int × (List Int)) : raw_laws_eqCmd a0 a1 = (fun n => some ((n, ()), ())) (n_laws_eqCmd a0 a1) := bif_ty (p := fun (n : Bool) => ((n, ()), ())) (bif_some (p := fun (n : Bool) => ((n, ()), ())) rfl (bif_some (p := fun (n : Bool) => ((n, ()), ())) rfl (bif_some (p := fun (n : Bool) => ((n, ()), ())) rfl (bif_some (p := fun (n : Bool) => ((n, ()), ())) rfl (bif_some (p := fun (n : Bool) => ((n, ()), ())) rfl rfl)))))
theorem ok_laws_eqCmd : ConOk Try.prog 19 con_laws_eqCmd := (ok0_laws_eqCmd).mono (fun x r _ h => (nn_laws_eqCmd x.1 x.2.1).trans h)
theorem eqInt_refl (a : List Int) : n_laws_eqIntS a a = true := by unfold n_laws_eqIntS; simp
theorem eqCmd_refl (a : Int × Int × Int × Int × List Int) : n_laws_eqCmd a a = true := by unfold n_laws_eqCmd; simp only [bne_self_eq_false, cond_false, eqInt_refl, Bool.not_true]
end

/-! impl_runOf -/
section
noncomputable def B_impl_runOf : Code := (Try.f46.body).getD .skip
noncomputable def E_impl_runOf : Env := envOf TT [] []
theorem fr_impl_runOf_0 : FrOk Try.prog ⟨E_impl_runOf, 18, fun _ => none⟩ B_impl_runOf := frOk_base mixed tt_ok trivial
noncomputable def D_impl_runOf_0 : Nat → Option Seg := fun _ => none
abbrev I_impl_runOf : List Par := [.rd tC]
abbrev U_impl_runOf : List OT := [⟨false, tI, .fz⟩]
noncomputable def raw_impl_runOf (a0 : Int × Int × Int × Int × (List Int)) : Option (ResD U_impl_runOf × MutD I_impl_runOf) :=
  bif (a0.1 == 1) then
    bif (a0.1 == 1) then
      some ((a0.2.2.2.1, ()), ())
    else
      bif (a0.1 == 2) then
        bif (a0.1 == 2) then
          some (((a0.2.2.2.2.length : Int), ()), ())
        else
          bif (a0.1 == 5) then
            some ((1, ()), ())
          else
            some ((0, ()), ())
      else
        bif (a0.1 == 3) then
          some (((a0.2.2.2.2.length : Int), ()), ())
        else
          bif (a0.1 == 5) then
            some ((1, ()), ())
          else
            some ((0, ()), ())
  else
    bif (a0.1 == 6) then
      some ((a0.2.2.2.1, ()), ())
    else
      bif (a0.1 == 2) then
        bif (a0.1 == 2) then
          some (((a0.2.2.2.2.length : Int), ()), ())
        else
          bif (a0.1 == 5) then
            some ((1, ()), ())
          else
            some ((0, ()), ())
      else
        bif (a0.1 == 3) then
          some (((a0.2.2.2.2.length : Int), ()), ())
        else
          bif (a0.1 == 5) then
            some ((1, ()), ())
          else
            some ((0, ()), ())
theorem e_impl_runOf (x : InD I_impl_runOf) : execF ⟨E_impl_runOf, 18, D_impl_runOf_0⟩ Try.f46.results.toList B_impl_runOf I_impl_runOf U_impl_runOf x = raw_impl_runOf x.1 := by kernel_rfl
theorem ok0_impl_runOf : ConOk Try.prog 46 ⟨I_impl_runOf, U_impl_runOf, fun x => raw_impl_runOf x.1⟩ := conOk_exec (fr_impl_runOf_0) Try.func46 (by kernel_rfl) (by kernel_rfl) Try.ntmps46.symm (by decide) (fun x r h => (e_impl_runOf x).trans h)
noncomputable def n_impl_runOf (a0 : Int × Int × Int × Int × (List Int)) : Int :=
  bif (a0.1 == 1) then
    bif (a0.1 == 1) then
      a0.2.2.2.1
    else
      bif (a0.1 == 2) then
        bif (a0.1 == 2) then
          (a0.2.2.2.2.length : Int)
        else
          bif (a0.1 == 5) then
            1
          else
            0
      else
        bif (a0.1 == 3) then
          (a0.2.2.2.2.length : Int)
        else
          bif (a0.1 == 5) then
            1
          else
            0
  else
    bif (a0.1 == 6) then
      a0.2.2.2.1
    else
      bif (a0.1 == 2) then
        bif (a0.1 == 2) then
          (a0.2.2.2.2.length : Int)
        else
          bif (a0.1 == 5) then
            1
          else
            0
      else
        bif (a0.1 == 3) then
          (a0.2.2.2.2.length : Int)
        else
          bif (a0.1 == 5) then
            1
          else
            0
noncomputable def con_impl_runOf : Con := ⟨I_impl_runOf, U_impl_runOf, fun x => (fun n => some ((n, ()), ())) (n_impl_runOf x.1)⟩
theorem nn_impl_runOf (a0 : Int × Int × Int × Int × (List Int)) : raw_impl_runOf a0 = (fun n => some ((n, ()), ())) (n_impl_runOf a0) := bif_ty (p := fun (n : Int) => ((n, ()), ())) (bif_some (p := fun (n : Int) => ((n, ()), ())) (bif_some (p := fun (n : Int) => ((n, ()), ())) rfl (bif_some (p := fun (n : Int) => ((n, ()), ())) (bif_some (p := fun (n : Int) => ((n, ()), ())) rfl (bif_some (p := fun (n : Int) => ((n, ()), ())) rfl rfl)) (bif_some (p := fun (n : Int) => ((n, ()), ())) rfl (bif_some (p := fun (n : Int) => ((n, ()), ())) rfl rfl)))) (bif_some (p := fun (n : Int) => ((n, ()), ())) rfl (bif_some (p := fun (n : Int) => ((n, ()), ())) (bif_some (p := fun (n : Int) => ((n, ()), ())) rfl (bif_some (p := fun (n : Int) => ((n, ()), ())) rfl rfl)) (bif_some (p := fun (n : Int) => ((n, ()), ())) rfl (bif_some (p := fun (n : Int) => ((n, ()), ())) rfl rfl)))))
theorem ok_impl_runOf : ConOk Try.prog 46 con_impl_runOf := (ok0_impl_runOf).mono (fun x r _ h => (nn_impl_runOf x.1).trans h)
end
end Go.Tf
