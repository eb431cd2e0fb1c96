/- Functions of the program, and what they come to. -/
import Derived.Test.YtljhekjbdmnmnaaExactGetCmdF0
namespace Go.Tf
open Go.Proofs
set_option linter.unusedVariables false
set_option linter.unusedSimpArgs false
set_option maxRecDepth 100000
/-! spec_l1Words -/
section
noncomputable def B_spec_l1Words : Code := (Try.f39.body).getD .skip
noncomputable def E_spec_l1Words : Env := envOf TT [(55, con_spec_l1Word)] []
theorem fr_spec_l1Words_0 : FrOk Try.prog ⟨E_spec_l1Words, 16, fun _ => none⟩ B_spec_l1Words := frOk_base mixed tt_ok ⟨ok_spec_l1Word, trivial⟩
noncomputable def D_spec_l1Words_0 : Nat → Option Seg := fun _ => none
def L_spec_l1Words_13 : Shape := ⟨[(0, false, [.br tI]), (3, false, [.int .i64])], [], []⟩
def S_spec_l1Words_13 : Shape := ⟨[(0, false, [.br tI]), (3, false, [.ci .i64 0])], [], []⟩
def O_spec_l1Words_13 : Shape := ⟨[], [], []⟩
def Z_spec_l1Words_13 : Shape := ⟨[(2, false, [.bool])], [], []⟩
noncomputable def st_spec_l1Words_13 (v0 : List Int) (v1 : Int) : Option ((L_spec_l1Words_13).X ⊕ ((O_spec_l1Words_13).X ⊕ (Z_spec_l1Words_13).X)) :=
  bif (ltb v1 (v0.length : Int)) then
    bif (inb v1 v0.length) then
      let r2 := n_spec_l1Word (nth v0 v1 0)
      bif (!r2) then
        some (.inr (.inr (((false, ()), ()), (), ())))
      else
        some (.inl (((v0, ()), ((IntKind.i64.wrap (v1 + 1)), ()), ()), (), ()))
    else none
  else
    some (.inr (.inl ((), (), ())))
noncomputable def stx_spec_l1Words_13 (x : (L_spec_l1Words_13).X) := st_spec_l1Words_13 x.1.1.1 x.1.2.1.1
def em_spec_l1Words_13 (x : (S_spec_l1Words_13).X) : (L_spec_l1Words_13).X := (((x.1.1.1, ()), (0, ()), ()), (), ())
noncomputable def c_spec_l1Words_13 : Code := (subN B_spec_l1Words 64 52).getD .skip
theorem a_spec_l1Words_13 : subN B_spec_l1Words 64 13 = some (.block 0 (.loop c_spec_l1Words_13)) := by kernel_rfl
theorem r_spec_l1Words_13 (x : (L_spec_l1Words_13).X) : roundT ⟨E_spec_l1Words, 16, D_spec_l1Words_0⟩ 0 c_spec_l1Words_13 52 L_spec_l1Words_13 O_spec_l1Words_13 Z_spec_l1Words_13 x = stx_spec_l1Words_13 x := by kernel_rfl
noncomputable def fu_spec_l1Words_13 (x : (S_spec_l1Words_13).X) : Nat := (fun (u0 : List Int) => 18446744073709551616) x.1.1.1
noncomputable def F_spec_l1Words_13 (x : (S_spec_l1Words_13).X) : Option ((O_spec_l1Words_13).X ⊕ (Z_spec_l1Words_13).X) := loopN stx_spec_l1Words_13 (fu_spec_l1Words_13 x) (em_spec_l1Words_13 x)
noncomputable def sg_spec_l1Words_13 : Seg := ⟨S_spec_l1Words_13, O_spec_l1Words_13, Z_spec_l1Words_13, F_spec_l1Words_13⟩
noncomputable def D_spec_l1Words_1 : Nat → Option Seg := fun q => bif Nat.beq q 13 then some sg_spec_l1Words_13 else D_spec_l1Words_0 q
theorem fr_spec_l1Words_1 : FrOk Try.prog ⟨E_spec_l1Words, 16, D_spec_l1Words_1⟩ B_spec_l1Words := (fr_spec_l1Words_0).loop (sg := sg_spec_l1Words_13) L_spec_l1Words_13 em_spec_l1Words_13 (by decide) a_spec_l1Words_13 stx_spec_l1Words_13 fu_spec_l1Words_13 (by decide) (fun _ => rfl) (fun x r _ h => h) r_spec_l1Words_13
abbrev I_spec_l1Words : List Par := [.rd tL]
abbrev U_spec_l1Words : List OT := [⟨false, tB, .fz⟩]
noncomputable def raw_spec_l1Words (a0 : List Int) : Option (ResD U_spec_l1Words × MutD I_spec_l1Words) :=
  segM (F_spec_l1Words_13 (((a0, ()), ((), ()), ()), (), ())) (fun y2 =>
    some ((true, ()), ())) (fun y2 =>
    some ((y2.1.1.1, ()), ()))
theorem e_spec_l1Words (x : InD I_spec_l1Words) : execF ⟨E_spec_l1Words, 16, D_spec_l1Words_1⟩ Try.f39.results.toList B_spec_l1Words I_spec_l1Words U_spec_l1Words x = raw_spec_l1Words x.1 := by kernel_rfl
theorem ok0_spec_l1Words : ConOk Try.prog 39 ⟨I_spec_l1Words, U_spec_l1Words, fun x => raw_spec_l1Words x.1⟩ := conOk_exec (fr_spec_l1Words_1) Try.func39 (by kernel_rfl) (by kernel_rfl) Try.ntmps39.symm (by decide) (fun x r h => (e_spec_l1Words x).trans h)
noncomputable def n_spec_l1Words (a0 : List Int) : Bool := a0.all n_spec_l1Word
theorem nn_spec_l1Words (a0 : List Int) (hk : InOk I_spec_l1Words (a0, ())) : raw_spec_l1Words a0 = (fun n => some ((n, ()), ())) (n_spec_l1Words a0) := by
  have hb : a0.length * 8 ≤ 2 ^ 47 := hk.1.1
  have hl : F_spec_l1Words_13 (((a0, ()), ((), ()), ()), (), ()) = some (bif a0.all n_spec_l1Word then .inl ((), (), ()) else .inr (((false, ()), ()), (), ())) :=
    loopN_list_all (step := stx_spec_l1Words_13) a0 0 (fun i => (((a0, ()), ((i : Int), ()), ()), (), ())) n_spec_l1Word _ _ (fun i hi => by
      simp only [stx_spec_l1Words_13, st_spec_l1Words_13, inb_nat hi, nth_nat, ltb_t (show (i : Int) < a0.length by omega), cond_true, wr (show -9223372036854775808 ≤ (i : Int) + 1 by omega) (by omega), Int.natCast_add, Int.natCast_one]
      cases n_spec_l1Word (a0.getD i 0) <;> rfl) (by simp only [stx_spec_l1Words_13, st_spec_l1Words_13, ltb_f (Int.le_refl _), cond_false]) _ (by show _ < 18446744073709551616; omega)
  unfold raw_spec_l1Words n_spec_l1Words
  rw [hl]
  cases a0.all n_spec_l1Word <;> rfl
noncomputable def con_spec_l1Words : Con := ⟨I_spec_l1Words, U_spec_l1Words, fun x => (fun n => some ((n, ()), ())) (n_spec_l1Words x.1)⟩
theorem ok_spec_l1Words : ConOk Try.prog 39 con_spec_l1Words := (ok0_spec_l1Words).mono (fun x r hk h => (nn_spec_l1Words x.1 hk).trans h)
end

/-! spec_PutCmd -/
section
noncomputable def B_spec_PutCmd : Code := (Try.f16.body).getD .skip
noncomputable def E_spec_PutCmd : Env := envOf TT [(38, con_spec_l1In), (39, con_spec_l1Words)] []
theorem fr_spec_PutCmd_0 : FrOk Try.prog ⟨E_spec_PutCmd, 36, fun _ => none⟩ B_spec_PutCmd := frOk_base mixed tt_ok ⟨ok_spec_l1In, ok_spec_l1Words, trivial⟩
noncomputable def D_spec_PutCmd_0 : Nat → Option Seg := fun _ => none
abbrev I_spec_PutCmd : List Par := [.rd tC]
abbrev U_spec_PutCmd : List OT := [⟨false, tL, (.ow .fz)⟩]
noncomputable def raw_spec_PutCmd (a0 : Int × Int × Int × Int × (List Int)) : Option (ResD U_spec_PutCmd × MutD I_spec_PutCmd) :=
  bif (apok ([a0.1, a0.2.1, a0.2.2.1, a0.2.2.2.1, (a0.2.2.2.2.length : Int)] : List Int).length a0.2.2.2.2.length 8) then
    let r1 := n_spec_l1In a0.1 1 6
    bif (!(!r1)) then
      let r2 := n_spec_l1Words (([a0.1, a0.2.1, a0.2.2.1, a0.2.2.2.1, (a0.2.2.2.2.length : Int)] : List Int) ++ a0.2.2.2.2)
      bif (!(!r2)) then
        bif (ltb 6 (a0.2.2.2.2.length : Int)) then
          some ((([] : List Int), ()), ())
        else
          some (((([a0.1, a0.2.1, a0.2.2.1, a0.2.2.2.1, (a0.2.2.2.2.length : Int)] : List Int) ++ a0.2.2.2.2), ()), ())
      else
        some ((([] : List Int), ()), ())
    else
      some ((([] : List Int), ()), ())
  else none
theorem e_spec_PutCmd (x : InD I_spec_PutCmd) : execF ⟨E_spec_PutCmd, 36, D_spec_PutCmd_0⟩ Try.f16.results.toList B_spec_PutCmd I_spec_PutCmd U_spec_PutCmd x = raw_spec_PutCmd x.1 := by kernel_rfl
theorem ok0_spec_PutCmd : ConOk Try.prog 16 ⟨I_spec_PutCmd, U_spec_PutCmd, fun x => raw_spec_PutCmd x.1⟩ := conOk_exec (fr_spec_PutCmd_0) Try.func16 (by kernel_rfl) (by kernel_rfl) Try.ntmps16.symm (by decide) (fun x r h => (e_spec_PutCmd x).trans h)
noncomputable def con_spec_PutCmd : Con := ⟨I_spec_PutCmd, U_spec_PutCmd, fun x => raw_spec_PutCmd x.1⟩
theorem ok_spec_PutCmd : ConOk Try.prog 16 con_spec_PutCmd := ok0_spec_PutCmd
/-- what both make of a command -/
noncomputable def pPut (a : Int × Int × Int × Int × List Int) : List Int :=
  bif n_spec_l1In a.1 1 6 && ((a.1 :: a.2.1 :: a.2.2.1 :: a.2.2.2.1 :: (a.2.2.2.2.length : Int) :: a.2.2.2.2).all n_spec_l1Word && decide (a.2.2.2.2.length ≤ 6)) then a.1 :: a.2.1 :: a.2.2.1 :: a.2.2.2.1 :: (a.2.2.2.2.length : Int) :: a.2.2.2.2 else []
theorem w_spec_PutCmd (a : Int × Int × Int × Int × List Int) (h : a.2.2.2.2.length ≤ 17592186044411) : raw_spec_PutCmd a = some ((pPut a, ()), ()) := by
  unfold raw_spec_PutCmd pPut
  rw [show apok ([a.1, a.2.1, a.2.2.1, a.2.2.2.1, (a.2.2.2.2.length : Int)] : List Int).length a.2.2.2.2.length 8 = true by rw [apok_iff]; simp only [List.length_cons, List.length_nil]; omega, bif_t]
  simp only [n_spec_l1Words, List.cons_append, List.nil_append]
  cases n_spec_l1In a.1 1 6
  · rfl
  · cases (a.1 :: a.2.1 :: a.2.2.1 :: a.2.2.2.1 :: (a.2.2.2.2.length : Int) :: a.2.2.2.2).all n_spec_l1Word
    · rfl
    · by_cases h6 : a.2.2.2.2.length ≤ 6
      · rw [decide_eq_true h6, ltb_f (show (a.2.2.2.2.length : Int) ≤ 6 by omega)]; rfl
      · rw [decide_eq_false h6, ltb_t (show 6 < (a.2.2.2.2.length : Int) by omega)]; rfl
end

/-! laws_toIntS -/
section
noncomputable def B_laws_toIntS : Code := (Try.f22.body).getD .skip
noncomputable def E_laws_toIntS : Env := envOf TT [] []
theorem fr_laws_toIntS_0 : FrOk Try.prog ⟨E_laws_toIntS, 22, fun _ => none⟩ B_laws_toIntS := frOk_base mixed tt_ok trivial
noncomputable def D_laws_toIntS_0 : Nat → Option Seg := fun _ => none
def L_laws_toIntS_29 : Shape := ⟨[(0, false, [.br tI]), (3, false, [.at 800000000]), (4, false, [.int .i64])], [], [(800000000, tI, .fz)]⟩
def S_laws_toIntS_29 : Shape := ⟨[(0, false, [.br tI]), (3, false, [.at 800000000]), (4, false, [.ci .i64 0])], [], [(800000000, tI, .fz)]⟩
def O_laws_toIntS_29 : Shape := ⟨[(3, false, [.at 800000000])], [], [(800000000, tI, .fz)]⟩
def Z_laws_toIntS_29 : Shape := ⟨[], [], []⟩
noncomputable def st_laws_toIntS_29 (v0 : List Int) (v1 : Int) (v2 : List Int) : Option ((L_laws_toIntS_29).X ⊕ ((O_laws_toIntS_29).X ⊕ (Z_laws_toIntS_29).X)) :=
  bif (ltb v1 (v0.length : Int)) then
    bif (inb v1 v0.length) then
      bif (inb v1 v2.length) then
        some (.inl (((v0, ()), ((), ()), ((IntKind.i64.wrap (v1 + 1)), ()), ()), (), ((v2.set (v1).toNat (nth v0 v1 0)), ())))
      else none
    else none
  else
    some (.inr (.inl ((((), ()), ()), (), (v2, ()))))
noncomputable def stx_laws_toIntS_29 (x : (L_laws_toIntS_29).X) := st_laws_toIntS_29 x.1.1.1 x.1.2.2.1.1 x.2.2.1
def em_laws_toIntS_29 (x : (S_laws_toIntS_29).X) : (L_laws_toIntS_29).X := (((x.1.1.1, ()), ((), ()), (0, ()), ()), (), (x.2.2.1, ()))
noncomputable def c_laws_toIntS_29 : Code := (subN B_laws_toIntS 64 116).getD .skip
theorem a_laws_toIntS_29 : subN B_laws_toIntS 64 29 = some (.block 0 (.loop c_laws_toIntS_29)) := by kernel_rfl
theorem r_laws_toIntS_29 (x : (L_laws_toIntS_29).X) : roundT ⟨E_laws_toIntS, 22, D_laws_toIntS_0⟩ 0 c_laws_toIntS_29 116 L_laws_toIntS_29 O_laws_toIntS_29 Z_laws_toIntS_29 x = stx_laws_toIntS_29 x := by kernel_rfl
noncomputable def fu_laws_toIntS_29 (x : (S_laws_toIntS_29).X) : Nat := (fun (u0 : List Int) (u1 : List Int) => 18446744073709551616) x.1.1.1 x.2.2.1
noncomputable def F_laws_toIntS_29 (x : (S_laws_toIntS_29).X) : Option ((O_laws_toIntS_29).X ⊕ (Z_laws_toIntS_29).X) := loopN stx_laws_toIntS_29 (fu_laws_toIntS_29 x) (em_laws_toIntS_29 x)
noncomputable def sg_laws_toIntS_29 : Seg := ⟨S_laws_toIntS_29, O_laws_toIntS_29, Z_laws_toIntS_29, F_laws_toIntS_29⟩
noncomputable def D_laws_toIntS_1 : Nat → Option Seg := fun q => bif Nat.beq q 29 then some sg_laws_toIntS_29 else D_laws_toIntS_0 q
theorem fr_laws_toIntS_1 : FrOk Try.prog ⟨E_laws_toIntS, 22, D_laws_toIntS_1⟩ B_laws_toIntS := (fr_laws_toIntS_0).loop (sg := sg_laws_toIntS_29) L_laws_toIntS_29 em_laws_toIntS_29 (by decide) a_laws_toIntS_29 stx_laws_toIntS_29 fu_laws_toIntS_29 (by decide) (fun _ => rfl) (fun x r _ h => h) r_laws_toIntS_29
abbrev I_laws_toIntS : List Par := [.rd tL]
abbrev U_laws_toIntS : List OT := [⟨false, tL, (.ow .fz)⟩]
noncomputable def raw_laws_toIntS (a0 : List Int) : Option (ResD U_laws_toIntS × MutD I_laws_toIntS) :=
  bif (mkok (a0.length : Int) 8) then
    segM (F_laws_toIntS_29 (((a0, ()), ((), ()), ((), ()), ()), (), ((List.replicate ((a0.length : Int)).toNat 0), ()))) (fun y0 =>
      some ((y0.2.2.1, ()), ())) (fun y0 =>
      none)
  else none
theorem e_laws_toIntS (x : InD I_laws_toIntS) : execF ⟨E_laws_toIntS, 22, D_laws_toIntS_1⟩ Try.f22.results.toList B_laws_toIntS I_laws_toIntS U_laws_toIntS x = raw_laws_toIntS x.1 := by kernel_rfl
theorem ok0_laws_toIntS : ConOk Try.prog 22 ⟨I_laws_toIntS, U_laws_toIntS, fun x => raw_laws_toIntS x.1⟩ := conOk_exec (fr_laws_toIntS_1) Try.func22 (by kernel_rfl) (by kernel_rfl) Try.ntmps22.symm (by decide) (fun x r h => (e_laws_toIntS x).trans h)
noncomputable def n_laws_toIntS (a0 : List Int) : List Int := a0
theorem nn_laws_toIntS (a0 : List Int) (hk : InOk I_laws_toIntS (a0, ())) : raw_laws_toIntS a0 = (fun n => some ((n, ()), ())) (n_laws_toIntS a0) := by
  have hb : a0.length * 8 ≤ 2 ^ 47 := hk.1.1
  have hs : ∀ i, i < a0.length → (a0.take i ++ List.replicate (a0.length - i) (0 : Int)).set i (a0.getD i 0) = a0.take (i + 1) ++ List.replicate (a0.length - (i + 1)) 0 := fun i hi => by
    have hl : (a0.take i).length = i := by rw [List.length_take]; omega
    rw [List.set_append_right _ _ (by rw [hl]; exact Nat.le_refl _), hl, Nat.sub_self, List.take_add_one, List.append_assoc, show a0.length - i = (a0.length - (i + 1)) + 1 by omega, List.replicate_succ]
    simp [hi]
  have hl : F_laws_toIntS_29 (((a0, ()), ((), ()), ((), ()), ()), (), ((a0.take 0 ++ List.replicate (a0.length - 0) 0), ())) = some (.inl ((((), ()), ()), (), (a0.take a0.length ++ List.replicate (a0.length - a0.length) 0, ()))) :=
    loopN_up (step := stx_laws_toIntS_29) (fun i => (((a0, ()), ((), ()), ((i : Int), ()), ()), (), (a0.take i ++ List.replicate (a0.length - i) 0, ()))) a0.length _ (fun i hi => by
      have hL : (a0.take i ++ List.replicate (a0.length - i) (0 : Int)).length = a0.length := by rw [List.length_append, List.length_take, List.length_replicate]; omega
      simp only [stx_laws_toIntS_29, st_laws_toIntS_29, hL, inb_nat hi, nth_nat, Int.toNat_natCast, ltb_t (show (i : Int) < a0.length by omega), cond_true, wr (show -9223372036854775808 ≤ (i : Int) + 1 by omega) (by omega), Int.natCast_add, Int.natCast_one, hs i hi]) (by
      simp only [stx_laws_toIntS_29, st_laws_toIntS_29, ltb_f (Int.le_refl _), cond_false]) _ (by show _ < 18446744073709551616; omega)
  unfold raw_laws_toIntS n_laws_toIntS
  rw [List.take_zero, List.nil_append, Nat.sub_zero] at hl
  rw [show mkok (a0.length : Int) 8 = true by rw [mkok_iff]; omega, bif_t, Int.toNat_natCast, hl]
  simp [segM]
noncomputable def con_laws_toIntS : Con := ⟨I_laws_toIntS, U_laws_toIntS, fun x => (fun n => some ((n, ()), ())) (n_laws_toIntS x.1)⟩
theorem ok_laws_toIntS : ConOk Try.prog 22 con_laws_toIntS := (ok0_laws_toIntS).mono (fun x r hk h => (nn_laws_toIntS x.1 hk).trans h)
end

/-! impl_isWord -/
section
noncomputable def B_impl_isWord : Code := (Try.f56.body).getD .skip
noncomputable def E_impl_isWord : Env := envOf TT [(40, con_impl_within)] []
theorem fr_impl_isWord_0 : FrOk Try.prog ⟨E_impl_isWord, 5, fun _ => none⟩ B_impl_isWord := frOk_base mixed tt_ok ⟨ok_impl_within, trivial⟩
noncomputable def D_impl_isWord_0 : Nat → Option Seg := fun _ => none
abbrev I_impl_isWord : List Par := [.rd tI]
abbrev U_impl_isWord : List OT := [⟨false, tB, .fz⟩]
noncomputable def raw_impl_isWord (a0 : Int) : Option (ResD U_impl_isWord × MutD I_impl_isWord) :=
  let r1 := n_impl_within a0 0 65535
  some ((r1, ()), ())
theorem e_impl_isWord (x : InD I_impl_isWord) : execF ⟨E_impl_isWord, 5, D_impl_isWord_0⟩ Try.f56.results.toList B_impl_isWord I_impl_isWord U_impl_isWord x = raw_impl_isWord x.1 := by kernel_rfl
theorem ok0_impl_isWord : ConOk Try.prog 56 ⟨I_impl_isWord, U_impl_isWord, fun x => raw_impl_isWord x.1⟩ := conOk_exec (fr_impl_isWord_0) Try.func56 (by kernel_rfl) (by kernel_rfl) Try.ntmps56.symm (by decide) (fun x r h => (e_impl_isWord x).trans h)
noncomputable def n_impl_isWord (a0 : Int) : Bool :=
  let r1 := n_impl_within a0 0 65535
  r1
noncomputable def con_impl_isWord : Con := ⟨I_impl_isWord, U_impl_isWord, fun x => (fun n => some ((n, ()), ())) (n_impl_isWord x.1)⟩
theorem nn_impl_isWord (a0 : Int) : raw_impl_isWord a0 = (fun n => some ((n, ()), ())) (n_impl_isWord a0) := bif_ty (p := fun (n : Bool) => ((n, ()), ())) rfl
theorem ok_impl_isWord : ConOk Try.prog 56 con_impl_isWord := (ok0_impl_isWord).mono (fun x r _ h => (nn_impl_isWord x.1).trans h)
end

/-! impl_wordsOk -/
section
noncomputable def B_impl_wordsOk : Code := (Try.f41.body).getD .skip
noncomputable def E_impl_wordsOk : Env := envOf TT [(56, con_impl_isWord)] []
theorem fr_impl_wordsOk_0 : FrOk Try.prog ⟨E_impl_wordsOk, 15, fun _ => none⟩ B_impl_wordsOk := frOk_base mixed tt_ok ⟨ok_impl_isWord, trivial⟩
noncomputable def D_impl_wordsOk_0 : Nat → Option Seg := fun _ => none
def L_impl_wordsOk_13 : Shape := ⟨[(5, false, [.br tI]), (6, false, [.int .i64]), (7, false, [.int .i64])], [], []⟩
def S_impl_wordsOk_13 : Shape := ⟨[(5, false, [.br tI]), (6, false, [.int .i64]), (7, false, [.ci .i64 0])], [], []⟩
def O_impl_wordsOk_13 : Shape := ⟨[], [], []⟩
def Z_impl_wordsOk_13 : Shape := ⟨[(2, false, [.bool])], [], []⟩
noncomputable def st_impl_wordsOk_13 (v0 : List Int) (v1 : Int) (v2 : Int) : Option ((L_impl_wordsOk_13).X ⊕ ((O_impl_wordsOk_13).X ⊕ (Z_impl_wordsOk_13).X)) :=
  bif (ltb v2 v1) then
    bif (inb v2 v0.length) then
      let r2 := n_impl_isWord (nth v0 v2 0)
      bif (!r2) then
        some (.inr (.inr (((false, ()), ()), (), ())))
      else
        some (.inl (((v0, ()), (v1, ()), ((IntKind.i64.wrap (v2 + 1)), ()), ()), (), ()))
    else none
  else
    some (.inr (.inl ((), (), ())))
noncomputable def stx_impl_wordsOk_13 (x : (L_impl_wordsOk_13).X) := st_impl_wordsOk_13 x.1.1.1 x.1.2.1.1 x.1.2.2.1.1
def em_impl_wordsOk_13 (x : (S_impl_wordsOk_13).X) : (L_impl_wordsOk_13).X := (((x.1.1.1, ()), (x.1.2.1.1, ()), (0, ()), ()), (), ())
noncomputable def c_impl_wordsOk_13 : Code := (subN B_impl_wordsOk 64 52).getD .skip
theorem a_impl_wordsOk_13 : subN B_impl_wordsOk 64 13 = some (.block 0 (.loop c_impl_wordsOk_13)) := by kernel_rfl
theorem r_impl_wordsOk_13 (x : (L_impl_wordsOk_13).X) : roundT ⟨E_impl_wordsOk, 15, D_impl_wordsOk_0⟩ 0 c_impl_wordsOk_13 52 L_impl_wordsOk_13 O_impl_wordsOk_13 Z_impl_wordsOk_13 x = stx_impl_wordsOk_13 x := by kernel_rfl
noncomputable def fu_impl_wordsOk_13 (x : (S_impl_wordsOk_13).X) : Nat := (fun (u0 : List Int) (u1 : Int) => 18446744073709551616) x.1.1.1 x.1.2.1.1
noncomputable def F_impl_wordsOk_13 (x : (S_impl_wordsOk_13).X) : Option ((O_impl_wordsOk_13).X ⊕ (Z_impl_wordsOk_13).X) := loopN stx_impl_wordsOk_13 (fu_impl_wordsOk_13 x) (em_impl_wordsOk_13 x)
noncomputable def sg_impl_wordsOk_13 : Seg := ⟨S_impl_wordsOk_13, O_impl_wordsOk_13, Z_impl_wordsOk_13, F_impl_wordsOk_13⟩
noncomputable def D_impl_wordsOk_1 : Nat → Option Seg := fun q => bif Nat.beq q 13 then some sg_impl_wordsOk_13 else D_impl_wordsOk_0 q
theorem fr_impl_wordsOk_1 : FrOk Try.prog ⟨E_impl_wordsOk, 15, D_impl_wordsOk_1⟩ B_impl_wordsOk := (fr_impl_wordsOk_0).loop (sg := sg_impl_wordsOk_13) L_impl_wordsOk_13 em_impl_wordsOk_13 (by decide) a_impl_wordsOk_13 stx_impl_wordsOk_13 fu_impl_wordsOk_13 (by decide) (fun _ => rfl) (fun x r _ h => h) r_impl_wordsOk_13
abbrev I_impl_wordsOk : List Par := [.rd tL]
abbrev U_impl_wordsOk : List OT := [⟨false, tB, .fz⟩]
noncomputable def raw_impl_wordsOk (a0 : List Int) : Option (ResD U_impl_wordsOk × MutD I_impl_wordsOk) :=
  segM (F_impl_wordsOk_13 (((a0, ()), ((a0.length : Int), ()), ((), ()), ()), (), ())) (fun y2 =>
    some ((true, ()), ())) (fun y2 =>
    some ((y2.1.1.1, ()), ()))
theorem e_impl_wordsOk (x : InD I_impl_wordsOk) : execF ⟨E_impl_wordsOk, 15, D_impl_wordsOk_1⟩ Try.f41.results.toList B_impl_wordsOk I_impl_wordsOk U_impl_wordsOk x = raw_impl_wordsOk x.1 := by kernel_rfl
theorem ok0_impl_wordsOk : ConOk Try.prog 41 ⟨I_impl_wordsOk, U_impl_wordsOk, fun x => raw_impl_wordsOk x.1⟩ := conOk_exec (fr_impl_wordsOk_1) Try.func41 (by kernel_rfl) (by kernel_rfl) Try.ntmps41.symm (by decide) (fun x r h => (e_impl_wordsOk x).trans h)
noncomputable def n_impl_wordsOk (a0 : List Int) : Bool := a0.all n_impl_isWord
theorem nn_impl_wordsOk (a0 : List Int) (hk : InOk I_impl_wordsOk (a0, ())) : raw_impl_wordsOk a0 = (fun n => some ((n, ()), ())) (n_impl_wordsOk a0) := by
  have hb : a0.length * 8 ≤ 2 ^ 47 := hk.1.1
  have hl : F_impl_wordsOk_13 (((a0, ()), ((a0.length : Int), ()), ((), ()), ()), (), ()) = some (bif a0.all n_impl_isWord then .inl ((), (), ()) else .inr (((false, ()), ()), (), ())) :=
    loopN_list_all (step := stx_impl_wordsOk_13) a0 0 (fun i => (((a0, ()), ((a0.length : Int), ()), ((i : Int), ()), ()), (), ())) n_impl_isWord _ _ (fun i hi => by
      simp only [stx_impl_wordsOk_13, st_impl_wordsOk_13, inb_nat hi, nth_nat, ltb_t (show (i : Int) < a0.length by omega), cond_true, wr (show -9223372036854775808 ≤ (i : Int) + 1 by omega) (by omega), Int.natCast_add, Int.natCast_one]
      cases n_impl_isWord (a0.getD i 0) <;> rfl) (by simp only [stx_impl_wordsOk_13, st_impl_wordsOk_13, ltb_f (Int.le_refl _), cond_false]) _ (by show _ < 18446744073709551616; omega)
  unfold raw_impl_wordsOk n_impl_wordsOk
  rw [hl]
  cases a0.all n_impl_isWord <;> rfl
noncomputable def con_impl_wordsOk : Con := ⟨I_impl_wordsOk, U_impl_wordsOk, fun x => (fun n => some ((n, ()), ())) (n_impl_wordsOk x.1)⟩
theorem ok_impl_wordsOk : ConOk Try.prog 41 con_impl_wordsOk := (ok0_impl_wordsOk).mono (fun x r hk h => (nn_impl_wordsOk x.1 hk).trans h)
theorem impl_word_eq (a : Int) : n_impl_isWord a = n_spec_l1Word a := by kernel_rfl
theorem impl_words_eq (a : List Int) : n_impl_wordsOk a = a.all n_spec_l1Word := by
  unfold n_impl_wordsOk; rw [show n_impl_isWord = n_spec_l1Word from funext impl_word_eq]
end

/-! impl_PutCmd -/
section
noncomputable def B_impl_PutCmd : Code := (Try.f18.body).getD .skip
noncomputable def E_impl_PutCmd : Env := envOf TT [(40, con_impl_within), (41, con_impl_wordsOk)] []
theorem fr_impl_PutCmd_0 : FrOk Try.prog ⟨E_impl_PutCmd, 35, fun _ => none⟩ B_impl_PutCmd := frOk_base mixed tt_ok ⟨ok_impl_within, ok_impl_wordsOk, trivial⟩
noncomputable def D_impl_PutCmd_0 : Nat → Option Seg := fun _ => none
abbrev I_impl_PutCmd : List Par := [.rd tC]
abbrev U_impl_PutCmd : List OT := [⟨false, tL, (.ow .fz)⟩]
noncomputable def raw_impl_PutCmd (a0 : Int × Int × Int × Int × (List Int)) : Option (ResD U_impl_PutCmd × MutD I_impl_PutCmd) :=
  bif (apok ([a0.1, a0.2.1, a0.2.2.1, a0.2.2.2.1, (a0.2.2.2.2.length : Int)] : List Int).length a0.2.2.2.2.length 8) then
    let r1 := n_impl_within a0.1 1 6
    bif (!(!r1)) then
      bif (!(ltb 6 (a0.2.2.2.2.length : Int))) then
        let r2 := n_impl_wordsOk (([a0.1, a0.2.1, a0.2.2.1, a0.2.2.2.1, (a0.2.2.2.2.length : Int)] : List Int) ++ a0.2.2.2.2)
        bif (!r2) then
          some (([], ()), ())
        else
          some (((([a0.1, a0.2.1, a0.2.2.1, a0.2.2.2.1, (a0.2.2.2.2.length : Int)] : List Int) ++ a0.2.2.2.2), ()), ())
      else
        some (([], ()), ())
    else
      some (([], ()), ())
  else none
theorem e_impl_PutCmd (x : InD I_impl_PutCmd) : execF ⟨E_impl_PutCmd, 35, D_impl_PutCmd_0⟩ Try.f18.results.toList B_impl_PutCmd I_impl_PutCmd U_impl_PutCmd x = raw_impl_PutCmd x.1 := by kernel_rfl
theorem ok0_impl_PutCmd : ConOk Try.prog 18 ⟨I_impl_PutCmd, U_impl_PutCmd, fun x => raw_impl_PutCmd x.1⟩ := conOk_exec (fr_impl_PutCmd_0) Try.func18 (by kernel_rfl) (by kernel_rfl) Try.ntmps18.symm (by decide) (fun x r h => (e_impl_PutCmd x).trans h)
noncomputable def con_impl_PutCmd : Con := ⟨I_impl_PutCmd, U_impl_PutCmd, fun x => raw_impl_PutCmd x.1⟩
theorem ok_impl_PutCmd : ConOk Try.prog 18 con_impl_PutCmd := ok0_impl_PutCmd
theorem w_impl_PutCmd (a : Int × Int × Int × Int × List Int) (h : a.2.2.2.2.length ≤ 17592186044411) : raw_impl_PutCmd a = some ((pPut a, ()), ()) := by
  unfold raw_impl_PutCmd pPut
  rw [show apok ([a.1, a.2.1, a.2.2.1, a.2.2.2.1, (a.2.2.2.2.length : Int)] : List Int).length a.2.2.2.2.length 8 = true by rw [apok_iff]; simp only [List.length_cons, List.length_nil]; omega, bif_t]
  simp only [impl_words_eq, impl_in_eq, List.cons_append, List.nil_append]
  cases n_spec_l1In a.1 1 6
  · rfl
  · by_cases h6 : a.2.2.2.2.length ≤ 6
    · rw [decide_eq_true h6, ltb_f (show (a.2.2.2.2.length : Int) ≤ 6 by omega)]
      cases (a.1 :: a.2.1 :: a.2.2.1 :: a.2.2.2.1 :: (a.2.2.2.2.length : Int) :: a.2.2.2.2).all n_spec_l1Word <;> rfl
    · rw [decide_eq_false h6, ltb_t (show 6 < (a.2.2.2.2.length : Int) by omega)]
      cases (a.1 :: a.2.1 :: a.2.2.1 :: a.2.2.2.1 :: (a.2.2.2.2.length : Int) :: a.2.2.2.2).all n_spec_l1Word <;> rfl
end
end Go.Tf
