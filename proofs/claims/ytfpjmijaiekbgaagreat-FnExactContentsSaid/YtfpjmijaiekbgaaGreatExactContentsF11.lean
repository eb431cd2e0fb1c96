/- Functions of the program, and what they come to. -/
import Derived.Test.YtfpjmijaiekbgaaGreatExactContentsF10
namespace Go.Tf
open Go.Proofs
set_option synthInstance.maxHeartbeats 400000
set_option synthInstance.maxSize 10000
set_option linter.unusedVariables false
set_option linter.unusedSimpArgs false
set_option maxRecDepth 100000
/-! impl_copyInts -/
section
noncomputable def B_impl_copyInts : Code := (Tryz.f151.body).getD .skip
noncomputable def E_impl_copyInts : Env := envOf TT [] []
theorem fr_impl_copyInts_0 : FrOk Tryz.prog ⟨E_impl_copyInts, 6, fun _ => none⟩ B_impl_copyInts := frOk_base mixed tt_ok trivial
noncomputable def D_impl_copyInts_0 : Nat → Option Seg := fun _ => none
abbrev I_impl_copyInts : List Par := [.rd tL]
abbrev U_impl_copyInts : List OT := [⟨false, tL, (.ow .fz)⟩]
noncomputable def raw_impl_copyInts (a0 : List Int) : Option (ResD U_impl_copyInts × MutD I_impl_copyInts) :=
  bif (apok ([] : List Int).length a0.length 8) then
    some (((([] : List Int) ++ a0), ()), ())
  else none
theorem e_impl_copyInts (x : InD I_impl_copyInts) : execF ⟨E_impl_copyInts, 6, D_impl_copyInts_0⟩ Tryz.f151.results.toList B_impl_copyInts I_impl_copyInts U_impl_copyInts x = raw_impl_copyInts x.1 := by kernel_rfl
theorem ok0_impl_copyInts : ConOk Tryz.prog 151 ⟨I_impl_copyInts, U_impl_copyInts, fun x => raw_impl_copyInts x.1⟩ := conOk_exec (fr_impl_copyInts_0) Tryz.func151 (by kernel_rfl) (by kernel_rfl) Tryz.ntmps151.symm (by decide) (fun x r h => (e_impl_copyInts x).trans h)
noncomputable def n_impl_copyInts (a0 : List Int) : List Int := a0
theorem nn_impl_copyInts (a0 : List Int) (hk : InOk I_impl_copyInts (a0, ())) : raw_impl_copyInts a0 = (fun n => some ((n, ()), ())) (n_impl_copyInts a0) := by
  have hb : a0.length * 8 ≤ 2 ^ 47 := hk.1.1
  unfold raw_impl_copyInts n_impl_copyInts
  rw [show apok ([] : List Int).length a0.length 8 = true by rw [apok_iff, List.length_nil]; omega]
  rfl
noncomputable def con_impl_copyInts : Con := ⟨I_impl_copyInts, U_impl_copyInts, fun x => (fun n => some ((n, ()), ())) (n_impl_copyInts x.1)⟩
theorem ok_impl_copyInts : ConOk Tryz.prog 151 con_impl_copyInts := (ok0_impl_copyInts).mono (fun x r hk h => (nn_impl_copyInts x.1 hk).trans h)
end

/-! slices_Index_int -/
section
noncomputable def B_slices_Index_int : Code := (Tryz.f257.body).getD .skip
noncomputable def E_slices_Index_int : Env := envOf TT [] []
theorem fr_slices_Index_int_0 : FrOk Tryz.prog ⟨E_slices_Index_int, 19, fun _ => none⟩ B_slices_Index_int := frOk_base mixed tt_ok trivial
noncomputable def D_slices_Index_int_0 : Nat → Option Seg := fun _ => none
def L_slices_Index_int_13 : Shape := ⟨[(0, false, [.br tI]), (1, false, [.int .i64]), (7, false, [.int .i64]), (8, false, [.int .i64])], [], []⟩
def S_slices_Index_int_13 : Shape := ⟨[(0, false, [.br tI]), (1, false, [.int .i64]), (7, false, [.int .i64]), (8, false, [.ci .i64 0])], [], []⟩
def O_slices_Index_int_13 : Shape := ⟨[], [], []⟩
def Z_slices_Index_int_13 : Shape := ⟨[(4, false, [.int .i64])], [], []⟩
abbrev mk_slices_Index_int_13 (v0 : List Int) (v1 : Int) (v2 : Int) (v3 : Int) : (L_slices_Index_int_13).X := (((v0, ()), (v1, ()), (v2, ()), (v3, ()), ()), (), ())
abbrev ms_slices_Index_int_13 (v0 : List Int) (v1 : Int) (v2 : Int) : (S_slices_Index_int_13).X := (((v0, ()), (v1, ()), (v2, ()), ((), ()), ()), (), ())
abbrev mo_slices_Index_int_13  : (O_slices_Index_int_13).X := ((), (), ())
abbrev mz_slices_Index_int_13 (v0 : Int) : (Z_slices_Index_int_13).X := (((v0, ()), ()), (), ())
noncomputable def st_slices_Index_int_13 (v0 : List Int) (v1 : Int) (v2 : Int) (v3 : Int) : Option ((L_slices_Index_int_13).X ⊕ ((O_slices_Index_int_13).X ⊕ (Z_slices_Index_int_13).X)) :=
  bif (ltb v3 v2) then
    bif (inb v3 v0.length) then
      bif (v1 == (nth v0 v3 0)) then
        some (.inr (.inr (((v3, ()), ()), (), ())))
      else
        some (.inl (((v0, ()), (v1, ()), (v2, ()), ((IntKind.i64.wrap (v3 + 1)), ()), ()), (), ()))
    else none
  else
    some (.inr (.inl ((), (), ())))
noncomputable def stx_slices_Index_int_13 (x : (L_slices_Index_int_13).X) := st_slices_Index_int_13 x.1.1.1 x.1.2.1.1 x.1.2.2.1.1 x.1.2.2.2.1.1
def em_slices_Index_int_13 (x : (S_slices_Index_int_13).X) : (L_slices_Index_int_13).X := (((x.1.1.1, ()), (x.1.2.1.1, ()), (x.1.2.2.1.1, ()), (0, ()), ()), (), ())
noncomputable def c_slices_Index_int_13 : Code := (subN B_slices_Index_int 64 52).getD .skip
theorem a_slices_Index_int_13 : subN B_slices_Index_int 64 13 = some (.block 0 (.loop c_slices_Index_int_13)) := by kernel_rfl
theorem r_slices_Index_int_13 (x : (L_slices_Index_int_13).X) : roundT ⟨E_slices_Index_int, 19, D_slices_Index_int_0⟩ 0 c_slices_Index_int_13 52 L_slices_Index_int_13 O_slices_Index_int_13 Z_slices_Index_int_13 x = stx_slices_Index_int_13 x := by kernel_rfl
noncomputable def fu_slices_Index_int_13 (x : (S_slices_Index_int_13).X) : Nat := (fun (u0 : List Int) (u1 : Int) (u2 : Int) => 18446744073709551616) x.1.1.1 x.1.2.1.1 x.1.2.2.1.1
noncomputable def F_slices_Index_int_13 (x : (S_slices_Index_int_13).X) : Option ((O_slices_Index_int_13).X ⊕ (Z_slices_Index_int_13).X) := loopN stx_slices_Index_int_13 (fu_slices_Index_int_13 x) (em_slices_Index_int_13 x)
noncomputable def sg_slices_Index_int_13 : Seg := ⟨S_slices_Index_int_13, O_slices_Index_int_13, Z_slices_Index_int_13, F_slices_Index_int_13⟩
noncomputable def D_slices_Index_int_1 : Nat → Option Seg := fun q => bif Nat.beq q 13 then some sg_slices_Index_int_13 else D_slices_Index_int_0 q
theorem fr_slices_Index_int_1 : FrOk Tryz.prog ⟨E_slices_Index_int, 19, D_slices_Index_int_1⟩ B_slices_Index_int := (fr_slices_Index_int_0).loop (sg := sg_slices_Index_int_13) L_slices_Index_int_13 em_slices_Index_int_13 (by decide) a_slices_Index_int_13 stx_slices_Index_int_13 fu_slices_Index_int_13 (by decide) (fun _ => rfl) (fun x r _ h => h) r_slices_Index_int_13
abbrev I_slices_Index_int : List Par := [.rd tL, .rd tI]
abbrev U_slices_Index_int : List OT := [⟨false, tI, .fz⟩]
noncomputable def raw_slices_Index_int (a0 : List Int) (a1 : Int) : Option (ResD U_slices_Index_int × MutD I_slices_Index_int) :=
  segM (F_slices_Index_int_13 (((a0, ()), (a1, ()), ((a0.length : Int), ()), ((), ()), ()), (), ())) (fun y0 =>
    some (((-1), ()), ())) (fun y0 =>
    some ((y0.1.1.1, ()), ()))
theorem e_slices_Index_int (x : InD I_slices_Index_int) : execF ⟨E_slices_Index_int, 19, D_slices_Index_int_1⟩ Tryz.f257.results.toList B_slices_Index_int I_slices_Index_int U_slices_Index_int x = raw_slices_Index_int x.1 x.2.1 := by kernel_rfl
theorem ok0_slices_Index_int : ConOk Tryz.prog 257 ⟨I_slices_Index_int, U_slices_Index_int, fun x => raw_slices_Index_int x.1 x.2.1⟩ := conOk_exec (fr_slices_Index_int_1) Tryz.func257 (by kernel_rfl) (by kernel_rfl) Tryz.ntmps257.symm (by decide) (fun x r h => (e_slices_Index_int x).trans h)
/-- where a number is; -1: nowhere -/
def indexOf (l : List Int) (x : Int) : Int := bif l.any (· == x) then ((l.takeWhile (· != x)).length : Int) else -1
noncomputable def n_slices_Index_int (a0 : List Int) (a1 : Int) : Int := indexOf a0 a1
theorem loopN_find {A B α : Type} {step : A → Option (A ⊕ B)} (l : List α) (d : α) (f : Nat → A) (p : α → Bool) (b : Nat → B) (c : B)
    (h : ∀ i, i < l.length → step (f i) = some (bif p (l.getD i d) then .inr (b i) else .inl (f (i + 1)))) (e : step (f l.length) = some (.inr c)) (fuel : Nat) (hf : l.length < fuel) :
    loopN step fuel (f 0) = some (bif l.any p then b (l.takeWhile (fun x => !p x)).length else c) := by
  have : ∀ (t q : List α) (fuel : Nat), q ++ t = l → t.length < fuel → loopN step fuel (f q.length) = some (bif t.any p then b (q.length + (t.takeWhile (fun x => !p x)).length) else c) := by
    intro t
    induction t with
    | nil =>
      intro q fuel hq hf
      obtain ⟨fuel, rfl⟩ : ∃ m, fuel = m + 1 := ⟨fuel - 1, by omega⟩
      rw [List.append_nil] at hq
      subst hq
      simp only [loopN, e, List.any_nil, cond_false]
    | cons x t ih =>
      intro q fuel hq hf
      obtain ⟨fuel, rfl⟩ : ∃ m, fuel = m + 1 := ⟨fuel - 1, by omega⟩
      have hx : l.getD q.length d = x := by
        subst hq
        rw [getD_get (by simp)]; simp
      have hs := h q.length (by rw [← hq]; simp)
      rw [hx] at hs
      cases hp : p x
      · rw [hp] at hs
        have := ih (q ++ [x]) fuel (by rw [← hq]; simp) (by simp at hf; omega)
        simp only [List.length_append, List.length_cons, List.length_nil] at this
        simp only [loopN, hs, cond_false]
        simp only [List.any_cons, hp, Bool.false_or, List.takeWhile_cons, Bool.not_false, if_true, List.length_cons]
        rw [show q.length + ((t.takeWhile (fun x => !p x)).length + 1) = q.length + (0 + 1) + (t.takeWhile (fun x => !p x)).length by omega]
        exact this
      · rw [hp] at hs
        simp only [loopN, hs, cond_true, List.any_cons, hp, Bool.true_or, List.takeWhile_cons, Bool.not_true, Bool.false_eq_true, if_false, List.length_nil, Nat.add_zero]
  have := this l [] fuel rfl hf
  simpa using this
theorem nn_slices_Index_int (a0 : List Int) (a1 : Int) (hk : InOk I_slices_Index_int (a0, a1, ())) : raw_slices_Index_int a0 a1 = (fun n => some ((n, ()), ())) (n_slices_Index_int a0 a1) := by
  have hb : a0.length * 8 ≤ 2 ^ 47 := hk.1.1
  have h1 : F_slices_Index_int_13 (ms_slices_Index_int_13 a0 a1 a0.length) = some (bif a0.any (· == a1) then .inr (mz_slices_Index_int_13 ((a0.takeWhile (fun x => !(x == a1))).length : Int)) else .inl mo_slices_Index_int_13) :=
    loopN_find (step := stx_slices_Index_int_13) a0 0 (fun i => mk_slices_Index_int_13 a0 a1 a0.length i) (· == a1) (fun i => .inr (mz_slices_Index_int_13 (i : Int))) _ (fun i hi => by
      simp only [stx_slices_Index_int_13, mk_slices_Index_int_13, st_slices_Index_int_13, ltb_t (show (i : Int) < a0.length by omega), cond_true, wr (show -9223372036854775808 ≤ (i : Int) + 1 by omega) (by omega), Int.natCast_add, Int.natCast_one, Int.toNat_natCast, inb_nat hi, nth_nat]
      rw [show (a1 == a0.getD i 0) = (a0.getD i 0 == a1) by rw [Bool.eq_iff_iff, beq_iff_eq, beq_iff_eq]; exact eq_comm]
      cases (a0.getD i 0 == a1) <;> rfl) (by simp only [stx_slices_Index_int_13, mk_slices_Index_int_13, st_slices_Index_int_13, ltb_f (Int.le_refl _), cond_false]) _ (by show _ < 18446744073709551616; omega)
  unfold raw_slices_Index_int n_slices_Index_int indexOf
  rw [h1]
  cases a0.any (· == a1) <;> rfl
noncomputable def con_slices_Index_int : Con := ⟨I_slices_Index_int, U_slices_Index_int, fun x => (fun n => some ((n, ()), ())) (n_slices_Index_int x.1 x.2.1)⟩
theorem ok_slices_Index_int : ConOk Tryz.prog 257 con_slices_Index_int := (ok0_slices_Index_int).mono (fun x r hk h => (nn_slices_Index_int x.1 x.2.1 hk).trans h)
end

/-! slices_Contains_int -/
section
noncomputable def B_slices_Contains_int : Code := (Tryz.f229.body).getD .skip
noncomputable def E_slices_Contains_int : Env := envOf TT [(257, con_slices_Index_int)] []
theorem fr_slices_Contains_int_0 : FrOk Tryz.prog ⟨E_slices_Contains_int, 9, fun _ => none⟩ B_slices_Contains_int := frOk_base mixed tt_ok ⟨ok_slices_Index_int, trivial⟩
noncomputable def D_slices_Contains_int_0 : Nat → Option Seg := fun _ => none
abbrev I_slices_Contains_int : List Par := [.rd tL, .rd tI]
abbrev U_slices_Contains_int : List OT := [⟨false, tB, .fz⟩]
noncomputable def raw_slices_Contains_int (a0 : List Int) (a1 : Int) : Option (ResD U_slices_Contains_int × MutD I_slices_Contains_int) :=
  let r1 := n_slices_Index_int a0 a1
  some (((leb 0 r1), ()), ())
theorem e_slices_Contains_int (x : InD I_slices_Contains_int) : execF ⟨E_slices_Contains_int, 9, D_slices_Contains_int_0⟩ Tryz.f229.results.toList B_slices_Contains_int I_slices_Contains_int U_slices_Contains_int x = raw_slices_Contains_int x.1 x.2.1 := by kernel_rfl
theorem ok0_slices_Contains_int : ConOk Tryz.prog 229 ⟨I_slices_Contains_int, U_slices_Contains_int, fun x => raw_slices_Contains_int x.1 x.2.1⟩ := conOk_exec (fr_slices_Contains_int_0) Tryz.func229 (by kernel_rfl) (by kernel_rfl) Tryz.ntmps229.symm (by decide) (fun x r h => (e_slices_Contains_int x).trans h)
noncomputable def n_slices_Contains_int (a0 : List Int) (a1 : Int) : Bool := a0.any (· == a1)
theorem nn_slices_Contains_int (a0 : List Int) (a1 : Int) (hk : InOk I_slices_Contains_int (a0, a1, ())) : raw_slices_Contains_int a0 a1 = (fun n => some ((n, ()), ())) (n_slices_Contains_int a0 a1) := by
  unfold raw_slices_Contains_int n_slices_Contains_int n_slices_Index_int indexOf
  cases a0.any (· == a1)
  · rfl
  · simp only [cond_true]
    rw [leb_t (show (0 : Int) ≤ ((a0.takeWhile (· != a1)).length : Int) by omega)]
noncomputable def con_slices_Contains_int : Con := ⟨I_slices_Contains_int, U_slices_Contains_int, fun x => (fun n => some ((n, ()), ())) (n_slices_Contains_int x.1 x.2.1)⟩
theorem ok_slices_Contains_int : ConOk Tryz.prog 229 con_slices_Contains_int := (ok0_slices_Contains_int).mono (fun x r hk h => (nn_slices_Contains_int x.1 x.2.1 hk).trans h)
end

/-! impl_ReadSec -/
section
noncomputable def B_impl_ReadSec : Code := (Tryz.f164.body).getD .skip
noncomputable def E_impl_ReadSec : Env := envOf TT [(132, con_impl_MemOk), (151, con_impl_copyInts), (204, con_impl_hasSec), (229, con_slices_Contains_int)] []
theorem fr_impl_ReadSec_0 : FrOk Tryz.prog ⟨E_impl_ReadSec, 49, fun _ => none⟩ B_impl_ReadSec := frOk_base mixed tt_ok ⟨ok_impl_MemOk, ok_impl_copyInts, ok_impl_hasSec, ok_slices_Contains_int, trivial⟩
noncomputable def D_impl_ReadSec_0 : Nat → Option Seg := fun _ => none
def L_impl_ReadSec_61 : Shape := ⟨[(1, false, [.int .i64]), (6, false, [.br tI]), (34, false, [.br tW]), (35, false, [.int .i64]), (36, false, [.int .i64])], [], []⟩
def S_impl_ReadSec_61 : Shape := ⟨[(1, false, [.int .i64]), (6, false, [.br tI]), (34, false, [.br tW]), (35, false, [.int .i64]), (36, false, [.ci .i64 0])], [], []⟩
def O_impl_ReadSec_61 : Shape := ⟨[(6, false, [.br tI])], [], []⟩
def Z_impl_ReadSec_61 : Shape := ⟨[], [], []⟩
abbrev mk_impl_ReadSec_61 (v0 : Int) (v1 : List Int) (v2 : List dW) (v3 : Int) (v4 : Int) : (L_impl_ReadSec_61).X := (((v0, ()), (v1, ()), (v2, ()), (v3, ()), (v4, ()), ()), (), ())
abbrev ms_impl_ReadSec_61 (v0 : Int) (v1 : List Int) (v2 : List dW) (v3 : Int) : (S_impl_ReadSec_61).X := (((v0, ()), (v1, ()), (v2, ()), (v3, ()), ((), ()), ()), (), ())
abbrev mo_impl_ReadSec_61 (v0 : List Int) : (O_impl_ReadSec_61).X := (((v0, ()), ()), (), ())
noncomputable def st_impl_ReadSec_61 (v0 : Int) (v1 : List Int) (v2 : List dW) (v3 : Int) (v4 : Int) : Option ((L_impl_ReadSec_61).X ⊕ ((O_impl_ReadSec_61).X ⊕ (Z_impl_ReadSec_61).X)) :=
  bif (ltb v4 v3) then
    bif (inb v4 v2.length) then
      bif ((nth v2 v4 (0, [])).1 == v0) then
        some (.inl (((v0, ()), ((nth v2 v4 (0, [])).2, ()), (v2, ()), (v3, ()), ((IntKind.i64.wrap (v4 + 1)), ()), ()), (), ()))
      else
        some (.inl (((v0, ()), (v1, ()), (v2, ()), (v3, ()), ((IntKind.i64.wrap (v4 + 1)), ()), ()), (), ()))
    else none
  else
    some (.inr (.inl (((v1, ()), ()), (), ())))
noncomputable def stx_impl_ReadSec_61 (x : (L_impl_ReadSec_61).X) := st_impl_ReadSec_61 x.1.1.1 x.1.2.1.1 x.1.2.2.1.1 x.1.2.2.2.1.1 x.1.2.2.2.2.1.1
def em_impl_ReadSec_61 (x : (S_impl_ReadSec_61).X) : (L_impl_ReadSec_61).X := (((x.1.1.1, ()), (x.1.2.1.1, ()), (x.1.2.2.1.1, ()), (x.1.2.2.2.1.1, ()), (0, ()), ()), (), ())
noncomputable def c_impl_ReadSec_61 : Code := (subN B_impl_ReadSec 64 244).getD .skip
theorem a_impl_ReadSec_61 : subN B_impl_ReadSec 64 61 = some (.block 0 (.loop c_impl_ReadSec_61)) := by kernel_rfl
theorem r_impl_ReadSec_61 (x : (L_impl_ReadSec_61).X) : roundT ⟨E_impl_ReadSec, 49, D_impl_ReadSec_0⟩ 0 c_impl_ReadSec_61 244 L_impl_ReadSec_61 O_impl_ReadSec_61 Z_impl_ReadSec_61 x = stx_impl_ReadSec_61 x := by kernel_rfl
noncomputable def fu_impl_ReadSec_61 (x : (S_impl_ReadSec_61).X) : Nat := (fun (u0 : Int) (u1 : List Int) (u2 : List dW) (u3 : Int) => 18446744073709551616) x.1.1.1 x.1.2.1.1 x.1.2.2.1.1 x.1.2.2.2.1.1
noncomputable def F_impl_ReadSec_61 (x : (S_impl_ReadSec_61).X) : Option ((O_impl_ReadSec_61).X ⊕ (Z_impl_ReadSec_61).X) := loopN stx_impl_ReadSec_61 (fu_impl_ReadSec_61 x) (em_impl_ReadSec_61 x)
noncomputable def sg_impl_ReadSec_61 : Seg := ⟨S_impl_ReadSec_61, O_impl_ReadSec_61, Z_impl_ReadSec_61, F_impl_ReadSec_61⟩
noncomputable def D_impl_ReadSec_1 : Nat → Option Seg := fun q => bif Nat.beq q 61 then some sg_impl_ReadSec_61 else D_impl_ReadSec_0 q
theorem fr_impl_ReadSec_1 : FrOk Tryz.prog ⟨E_impl_ReadSec, 49, D_impl_ReadSec_1⟩ B_impl_ReadSec := (fr_impl_ReadSec_0).loop (sg := sg_impl_ReadSec_61) L_impl_ReadSec_61 em_impl_ReadSec_61 (by decide) a_impl_ReadSec_61 stx_impl_ReadSec_61 fu_impl_ReadSec_61 (by decide) (fun _ => rfl) (fun x r _ h => h) r_impl_ReadSec_61
abbrev I_impl_ReadSec : List Par := [.rd tM, .rd tI]
abbrev U_impl_ReadSec : List OT := [⟨false, tL, (.ow .fz)⟩, ⟨false, tB, .fz⟩]
noncomputable def raw_impl_ReadSec (a0 : dM) (a1 : Int) : Option (ResD U_impl_ReadSec × MutD I_impl_ReadSec) :=
  let r1 := n_impl_MemOk a0
  bif (!(!r1)) then
    bif (!a0.2.2.1) then
      let r2 := n_impl_hasSec a0 a1
      bif (!(!r2)) then
        let r3 := n_slices_Contains_int a0.2.2.2 a1
        bif r3 then
          some (([], false, ()), ())
        else
          bif (inb a1 a0.1.length) then
            segM (F_impl_ReadSec_61 (((a1, ()), ((nth a0.1 a1 []), ()), (a0.2.1, ()), ((a0.2.1.length : Int), ()), ((), ()), ()), (), ())) (fun y3 =>
              let r5 := n_impl_copyInts y3.1.1.1
              some ((r5, true, ()), ())) (fun y3 =>
              none)
          else none
      else
        some (([], false, ()), ())
    else
      some (([], false, ()), ())
  else
    some (([], false, ()), ())
theorem e_impl_ReadSec (x : InD I_impl_ReadSec) : execF ⟨E_impl_ReadSec, 49, D_impl_ReadSec_1⟩ Tryz.f164.results.toList B_impl_ReadSec I_impl_ReadSec U_impl_ReadSec x = raw_impl_ReadSec x.1 x.2.1 := by kernel_rfl
theorem ok0_impl_ReadSec : ConOk Tryz.prog 164 ⟨I_impl_ReadSec, U_impl_ReadSec, fun x => raw_impl_ReadSec x.1 x.2.1⟩ := conOk_exec (fr_impl_ReadSec_1) Tryz.func164 (by kernel_rfl) (by kernel_rfl) Tryz.ntmps164.symm (by decide) (fun x r h => (e_impl_ReadSec x).trans h)
noncomputable def n_impl_ReadSec (a0 : dM) (a1 : Int) : List Int × Bool := readSec a0 a1
theorem nn_impl_ReadSec (a0 : dM) (a1 : Int) (hk : InOk I_impl_ReadSec (a0, a1, ())) : raw_impl_ReadSec a0 a1 = (fun n => some ((n.1, n.2, ()), ())) (n_impl_ReadSec a0 a1) := by
  have hb1 : a0.1.length * 24 ≤ 2 ^ 47 := hk.1.1.1
  have hb2 : a0.2.1.length * 32 ≤ 2 ^ 47 := hk.1.2.1.1
  have h1 : ∀ s, F_impl_ReadSec_61 (ms_impl_ReadSec_61 a1 s a0.2.1 a0.2.1.length) = some (.inl (mo_impl_ReadSec_61 (newest a1 a0.2.1 s))) := fun s =>
    loopN_fold (step := stx_impl_ReadSec_61) a0.2.1 (0, []) (fun i s => mk_impl_ReadSec_61 a1 s a0.2.1 a0.2.1.length i) (fun s w => bif w.1 == a1 then w.2 else s) (fun _ _ => True) (fun s => .inl (mo_impl_ReadSec_61 s)) (fun i s hi _ => ⟨by
      simp only [stx_impl_ReadSec_61, mk_impl_ReadSec_61, st_impl_ReadSec_61, ltb_t (show (i : Int) < a0.2.1.length by omega), cond_true, wr (show -9223372036854775808 ≤ (i : Int) + 1 by omega) (by omega), Int.natCast_add, Int.natCast_one, Int.toNat_natCast, inb_nat hi, nth_nat]
      cases ((a0.2.1.getD i (0, [])).1 == a1) <;> rfl, trivial⟩) (fun s _ => by simp only [stx_impl_ReadSec_61, mk_impl_ReadSec_61, st_impl_ReadSec_61, ltb_f (Int.le_refl _), cond_false]) s trivial _ (by show _ < 18446744073709551616; omega)
  unfold raw_impl_ReadSec n_impl_ReadSec readSec canRead n_impl_hasSec
  rw [impl_in_eq, in_len (show a0.1.length ≤ 1152921504606846976 by omega)]
  unfold n_impl_MemOk n_slices_Contains_int n_impl_copyInts
  simp only [h1, segM_inl]
  cases memOk a0
  · rfl
  cases a0.2.2.1
  · cases inb a1 a0.1.length
    · rfl
    · cases a0.2.2.2.any (· == a1) <;> rfl
  · rfl
noncomputable def con_impl_ReadSec : Con := ⟨I_impl_ReadSec, U_impl_ReadSec, fun x => (fun n => some ((n.1, n.2, ()), ())) (n_impl_ReadSec x.1 x.2.1)⟩
theorem ok_impl_ReadSec : ConOk Tryz.prog 164 con_impl_ReadSec := (ok0_impl_ReadSec).mono (fun x r hk h => (nn_impl_ReadSec x.1 x.2.1 hk).trans h)
end

/-! impl_LiveAt -/
section
noncomputable def B_impl_LiveAt : Code := (Tryz.f171.body).getD .skip
noncomputable def E_impl_LiveAt : Env := envOf TT [(114, con_impl_within)] []
theorem fr_impl_LiveAt_0 : FrOk Tryz.prog ⟨E_impl_LiveAt, 34, fun _ => none⟩ B_impl_LiveAt := frOk_base mixed tt_ok ⟨ok_impl_within, trivial⟩
noncomputable def D_impl_LiveAt_0 : Nat → Option Seg := fun _ => none
abbrev I_impl_LiveAt : List Par := [.rd tA, .rd tI, .rd tI]
abbrev U_impl_LiveAt : List OT := [⟨false, tB, .fz⟩]
noncomputable def raw_impl_LiveAt (a0 : dA) (a1 : Int) (a2 : Int) : Option (ResD U_impl_LiveAt × MutD I_impl_LiveAt) :=
  let r1 := n_impl_within a1 0 (IntKind.i64.wrap ((a0.2.2.1.length : Int) - 1))
  bif r1 then
    bif (inb a1 a0.2.2.1.length) then
      bif (!((((nth a0.2.2.1 a1 ([], [], false, [])).2).2).1)) then
        bif (!(a0.2.2.2.1 != a1)) then
          some (((ltb a2 a0.2.2.2.2.1), ()), ())
        else
          some ((true, ()), ())
      else
        some ((false, ()), ())
    else none
  else
    some ((false, ()), ())
theorem e_impl_LiveAt (x : InD I_impl_LiveAt) : execF ⟨E_impl_LiveAt, 34, D_impl_LiveAt_0⟩ Tryz.f171.results.toList B_impl_LiveAt I_impl_LiveAt U_impl_LiveAt x = raw_impl_LiveAt x.1 x.2.1 x.2.2.1 := by kernel_rfl
theorem ok0_impl_LiveAt : ConOk Tryz.prog 171 ⟨I_impl_LiveAt, U_impl_LiveAt, fun x => raw_impl_LiveAt x.1 x.2.1 x.2.2.1⟩ := conOk_exec (fr_impl_LiveAt_0) Tryz.func171 (by kernel_rfl) (by kernel_rfl) Tryz.ntmps171.symm (by decide) (fun x r h => (e_impl_LiveAt x).trans h)
noncomputable def n_impl_LiveAt (a0 : dA) (a1 a2 : Int) : Bool := liveAt a0 a1 a2
theorem nn_impl_LiveAt (a0 : dA) (a1 a2 : Int) (hk : InOk I_impl_LiveAt (a0, a1, a2, ())) : raw_impl_LiveAt a0 a1 a2 = (fun n => some ((n, ()), ())) (n_impl_LiveAt a0 a1 a2) := by
  have hb : a0.2.2.1.length * 80 ≤ 2 ^ 47 := hk.1.2.2.1.1
  unfold raw_impl_LiveAt n_impl_LiveAt liveAt noMem
  rw [impl_in_eq, in_len (show a0.2.2.1.length ≤ 1152921504606846976 by omega), bne_comm]
  cases inb a1 a0.2.2.1.length
  · rfl
  · cases (nth a0.2.2.1 a1 ([], [], false, [])).2.2.1 <;> cases (a1 != a0.2.2.2.1) <;> rfl
noncomputable def con_impl_LiveAt : Con := ⟨I_impl_LiveAt, U_impl_LiveAt, fun x => (fun n => some ((n, ()), ())) (n_impl_LiveAt x.1 x.2.1 x.2.2.1)⟩
theorem ok_impl_LiveAt : ConOk Tryz.prog 171 con_impl_LiveAt := (ok0_impl_LiveAt).mono (fun x r hk h => (nn_impl_LiveAt x.1 x.2.1 x.2.2.1 hk).trans h)
end

/-! impl_wordAt -/
section
noncomputable def B_impl_wordAt : Code := (Tryz.f137.body).getD .skip
noncomputable def E_impl_wordAt : Env := envOf TT [(79, con_impl_DataAt), (164, con_impl_ReadSec), (171, con_impl_LiveAt)] []
theorem fr_impl_wordAt_0 : FrOk Tryz.prog ⟨E_impl_wordAt, 38, fun _ => none⟩ B_impl_wordAt := frOk_base mixed tt_ok ⟨ok_impl_DataAt, ok_impl_ReadSec, ok_impl_LiveAt, trivial⟩
noncomputable def D_impl_wordAt_0 : Nat → Option Seg := fun _ => none
abbrev I_impl_wordAt : List Par := [.rd tA, .rd tI, .rd tI]
abbrev U_impl_wordAt : List OT := [⟨false, tI, .fz⟩, ⟨false, tB, .fz⟩]
noncomputable def raw_impl_wordAt (a0 : dA) (a1 : Int) (a2 : Int) : Option (ResD U_impl_wordAt × MutD I_impl_wordAt) :=
  bif (inb a1 a0.2.2.1.length) then
    let r1 := n_impl_DataAt a2
    let r2 := n_impl_ReadSec ((nth a0.2.2.1 a1 ([], [], false, [])).1, ((nth a0.2.2.1 a1 ([], [], false, [])).2).1, (((nth a0.2.2.1 a1 ([], [], false, [])).2).2)) r1
    let r3 := n_impl_LiveAt a0 a1 a2
    bif (!(!r3)) then
      bif (!(!r2.2)) then
        bif ((r2.1.length : Int) != 1) then
          some ((0, false, ()), ())
        else
          bif (inb 0 r2.1.length) then
            some (((nth r2.1 0 0), true, ()), ())
          else none
      else
        some ((0, false, ()), ())
    else
      some ((0, false, ()), ())
  else none
theorem e_impl_wordAt (x : InD I_impl_wordAt) : execF ⟨E_impl_wordAt, 38, D_impl_wordAt_0⟩ Tryz.f137.results.toList B_impl_wordAt I_impl_wordAt U_impl_wordAt x = raw_impl_wordAt x.1 x.2.1 x.2.2.1 := by kernel_rfl
theorem ok0_impl_wordAt : ConOk Tryz.prog 137 ⟨I_impl_wordAt, U_impl_wordAt, fun x => raw_impl_wordAt x.1 x.2.1 x.2.2.1⟩ := conOk_exec (fr_impl_wordAt_0) Tryz.func137 (by kernel_rfl) (by kernel_rfl) Tryz.ntmps137.symm (by decide) (fun x r h => (e_impl_wordAt x).trans h)
noncomputable def n_impl_wordAt (a0 : dA) (a1 a2 : Int) : Int × Bool := (word a0 a1 a2, wordOk a0 a1 a2)
noncomputable def q_impl_wordAt (a0 : dA) (a1 a2 : Int) : Bool := inb a1 a0.2.2.1.length
theorem nn_impl_wordAt (a0 : dA) (a1 a2 : Int) (hk : InOk I_impl_wordAt (a0, a1, a2, ())) (hq : q_impl_wordAt a0 a1 a2 = true) : raw_impl_wordAt a0 a1 a2 = (fun n => some ((n.1, n.2, ()), ())) (n_impl_wordAt a0 a1 a2) := by
  unfold raw_impl_wordAt n_impl_wordAt word n_impl_LiveAt
  simp only [pr_eta, impl_dataAt_eq, n_impl_ReadSec]
  rw [show wordOk a0 a1 a2 = (liveAt a0 a1 a2 && ((wordSec a0 a1 a2).2 && ((wordSec a0 a1 a2).1.length : Int) == 1)) from rfl]
  rw [show readSec (nth a0.2.2.1 a1 ([], [], false, [])) (dataAt a2) = wordSec a0 a1 a2 from rfl]
  rw [show inb a1 a0.2.2.1.length = true from hq]
  cases hl : liveAt a0 a1 a2
  · rfl
  · cases (wordSec a0 a1 a2).2
    · rfl
    · rw [bne]
      cases h1 : (((wordSec a0 a1 a2).1.length : Int) == 1)
      · rfl
      · rw [show inb 0 (wordSec a0 a1 a2).1.length = true from inb_iff.2 (by have := beq_iff_eq.1 h1; omega)]; rfl
noncomputable def o_impl_wordAt (a0 : dA) (a1 : Int) (a2 : Int) : Option (ResD U_impl_wordAt × MutD I_impl_wordAt) := bif q_impl_wordAt a0 a1 a2 then (fun n => some ((n.1, n.2, ()), ())) (n_impl_wordAt a0 a1 a2) else none
theorem ot_impl_wordAt (a0 : dA) (a1 : Int) (a2 : Int) (h : q_impl_wordAt a0 a1 a2 = true) : o_impl_wordAt a0 a1 a2 = (fun n => some ((n.1, n.2, ()), ())) (n_impl_wordAt a0 a1 a2) := by unfold o_impl_wordAt; rw [h]; rfl
noncomputable def con_impl_wordAt : Con := ⟨I_impl_wordAt, U_impl_wordAt, fun x => o_impl_wordAt x.1 x.2.1 x.2.2.1⟩
theorem ok_impl_wordAt : ConOk Tryz.prog 137 con_impl_wordAt := (ok0_impl_wordAt).mono (fun x r hk h => pre_ok h (fun hq => nn_impl_wordAt x.1 x.2.1 x.2.2.1 hk hq))
end
end Go.Tf
