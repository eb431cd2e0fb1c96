/- Functions of the program, and what they come to. -/
import Derived.Test.YtmamkjioahnecaaExactDurableF8
namespace Go.Tf
open Go.Proofs
set_option synthInstance.maxHeartbeats 400000
set_option synthInstance.maxSize 10000
set_option linter.unusedVariables false
set_option linter.unusedSimpArgs false
set_option maxRecDepth 100000
/-! spec_LiveAt -/
section
noncomputable def B_spec_LiveAt : Code := (Try.f146.body).getD .skip
noncomputable def E_spec_LiveAt : Env := envOf TT [(82, con_spec_l1In)] []
theorem fr_spec_LiveAt_0 : FrOk Try.prog ⟨E_spec_LiveAt, 34, fun _ => none⟩ B_spec_LiveAt := frOk_base mixed tt_ok ⟨ok_spec_l1In, trivial⟩
noncomputable def D_spec_LiveAt_0 : Nat → Option Seg := fun _ => none
abbrev I_spec_LiveAt : List Par := [.rd tA, .rd tI, .rd tI]
abbrev U_spec_LiveAt : List OT := [⟨false, tB, .fz⟩]
noncomputable def raw_spec_LiveAt (a0 : dA) (a1 : Int) (a2 : Int) : Option (ResD U_spec_LiveAt × MutD I_spec_LiveAt) :=
  let r1 := n_spec_l1In a1 0 (IntKind.i64.wrap ((a0.2.2.1.length : Int) - 1))
  bif r1 then
    bif (inb a1 a0.2.2.1.length) then
      bif (!((((nth a0.2.2.1 a1 ([], [], false, [])).2).2).1)) then
        bif (!(a1 != a0.2.2.2.1)) then
          some (((ltb a2 a0.2.2.2.2.1), ()), ())
        else
          some ((true, ()), ())
      else
        some ((false, ()), ())
    else none
  else
    some ((false, ()), ())
theorem e_spec_LiveAt (x : InD I_spec_LiveAt) : execF ⟨E_spec_LiveAt, 34, D_spec_LiveAt_0⟩ Try.f146.results.toList B_spec_LiveAt I_spec_LiveAt U_spec_LiveAt x = raw_spec_LiveAt x.1 x.2.1 x.2.2.1 := by kernel_rfl
theorem ok0_spec_LiveAt : ConOk Try.prog 146 ⟨I_spec_LiveAt, U_spec_LiveAt, fun x => raw_spec_LiveAt x.1 x.2.1 x.2.2.1⟩ := conOk_exec (fr_spec_LiveAt_0) Try.func146 (by kernel_rfl) (by kernel_rfl) Try.ntmps146.symm (by decide) (fun x r h => (e_spec_LiveAt x).trans h)
noncomputable def n_spec_LiveAt (a0 : dA) (a1 a2 : Int) : Bool := liveAt a0 a1 a2
theorem nn_spec_LiveAt (a0 : dA) (a1 a2 : Int) (hk : InOk I_spec_LiveAt (a0, a1, a2, ())) : raw_spec_LiveAt a0 a1 a2 = (fun n => some ((n, ()), ())) (n_spec_LiveAt a0 a1 a2) := by
  have hb : a0.2.2.1.length * 80 ≤ 2 ^ 47 := hk.1.2.2.1.1
  unfold raw_spec_LiveAt n_spec_LiveAt liveAt noMem
  rw [in_len (show a0.2.2.1.length ≤ 1152921504606846976 by omega)]
  cases inb a1 a0.2.2.1.length
  · rfl
  · cases (nth a0.2.2.1 a1 ([], [], false, [])).2.2.1 <;> cases (a1 != a0.2.2.2.1) <;> rfl
noncomputable def con_spec_LiveAt : Con := ⟨I_spec_LiveAt, U_spec_LiveAt, fun x => (fun n => some ((n, ()), ())) (n_spec_LiveAt x.1 x.2.1 x.2.2.1)⟩
theorem ok_spec_LiveAt : ConOk Try.prog 146 con_spec_LiveAt := (ok0_spec_LiveAt).mono (fun x r hk h => (nn_spec_LiveAt x.1 x.2.1 x.2.2.1 hk).trans h)
end

/-! spec_l6Word -/
section
noncomputable def B_spec_l6Word : Code := (Try.f90.body).getD .skip
noncomputable def E_spec_l6Word : Env := envOf TT [(83, con_spec_DataAt), (105, con_spec_ReadSec), (146, con_spec_LiveAt)] []
theorem fr_spec_l6Word_0 : FrOk Try.prog ⟨E_spec_l6Word, 36, fun _ => none⟩ B_spec_l6Word := frOk_base mixed tt_ok ⟨ok_spec_DataAt, ok_spec_ReadSec, ok_spec_LiveAt, trivial⟩
noncomputable def D_spec_l6Word_0 : Nat → Option Seg := fun _ => none
abbrev I_spec_l6Word : List Par := [.rd tA, .rd tI, .rd tI]
abbrev U_spec_l6Word : List OT := [⟨false, tI, .fz⟩, ⟨false, tB, .fz⟩]
noncomputable def raw_spec_l6Word (a0 : dA) (a1 : Int) (a2 : Int) : Option (ResD U_spec_l6Word × MutD I_spec_l6Word) :=
  let r1 := n_spec_LiveAt a0 a1 a2
  bif (!r1) then
    some ((0, false, ()), ())
  else
    bif (inb a1 a0.2.2.1.length) then
      let r2 := n_spec_DataAt a2
      let r3 := n_spec_ReadSec ((nth a0.2.2.1 a1 ([], [], false, [])).1, ((nth a0.2.2.1 a1 ([], [], false, [])).2).1, (((nth a0.2.2.1 a1 ([], [], false, [])).2).2)) r2
      bif (!(!r3.2)) then
        bif ((r3.1.length : Int) != 1) then
          some ((0, false, ()), ())
        else
          bif (inb 0 r3.1.length) then
            some (((nth r3.1 0 0), true, ()), ())
          else none
      else
        some ((0, false, ()), ())
    else none
theorem e_spec_l6Word (x : InD I_spec_l6Word) : execF ⟨E_spec_l6Word, 36, D_spec_l6Word_0⟩ Try.f90.results.toList B_spec_l6Word I_spec_l6Word U_spec_l6Word x = raw_spec_l6Word x.1 x.2.1 x.2.2.1 := by kernel_rfl
theorem ok0_spec_l6Word : ConOk Try.prog 90 ⟨I_spec_l6Word, U_spec_l6Word, fun x => raw_spec_l6Word x.1 x.2.1 x.2.2.1⟩ := conOk_exec (fr_spec_l6Word_0) Try.func90 (by kernel_rfl) (by kernel_rfl) Try.ntmps90.symm (by decide) (fun x r h => (e_spec_l6Word x).trans h)
noncomputable def n_spec_l6Word (a0 : dA) (a1 a2 : Int) : Int × Bool := (word a0 a1 a2, wordOk a0 a1 a2)
theorem nn_spec_l6Word (a0 : dA) (a1 a2 : Int) (hk : InOk I_spec_l6Word (a0, a1, a2, ())) : raw_spec_l6Word a0 a1 a2 = (fun n => some ((n.1, n.2, ()), ())) (n_spec_l6Word a0 a1 a2) := by
  unfold raw_spec_l6Word n_spec_l6Word word n_spec_LiveAt
  simp only [pr_eta, spec_dataAt_eq, n_spec_ReadSec]
  rw [show wordOk a0 a1 a2 = (liveAt a0 a1 a2 && ((wordSec a0 a1 a2).2 && ((wordSec a0 a1 a2).1.length : Int) == 1)) from rfl]
  rw [show readSec (nth a0.2.2.1 a1 ([], [], false, [])) (dataAt a2) = wordSec a0 a1 a2 from rfl]
  cases hl : liveAt a0 a1 a2
  · rfl
  · rw [show inb a1 a0.2.2.1.length = true by unfold liveAt at hl; exact (Bool.and_eq_true_iff.1 hl).1]
    cases (wordSec a0 a1 a2).2
    · rfl
    · rw [bne]
      cases h1 : (((wordSec a0 a1 a2).1.length : Int) == 1)
      · rfl
      · rw [show inb 0 (wordSec a0 a1 a2).1.length = true from inb_iff.2 (by have := beq_iff_eq.1 h1; omega)]; rfl
noncomputable def con_spec_l6Word : Con := ⟨I_spec_l6Word, U_spec_l6Word, fun x => (fun n => some ((n.1, n.2, ()), ())) (n_spec_l6Word x.1 x.2.1 x.2.2.1)⟩
theorem ok_spec_l6Word : ConOk Try.prog 90 con_spec_l6Word := (ok0_spec_l6Word).mono (fun x r hk h => (nn_spec_l6Word x.1 x.2.1 x.2.2.1 hk).trans h)
end

/-! spec_MissingWord -/
section
noncomputable def B_spec_MissingWord : Code := (Try.f201.body).getD .skip
noncomputable def E_spec_MissingWord : Env := envOf TT [] []
theorem fr_spec_MissingWord_0 : FrOk Try.prog ⟨E_spec_MissingWord, 23, fun _ => none⟩ B_spec_MissingWord := frOk_base mixed tt_ok trivial
noncomputable def D_spec_MissingWord_0 : Nat → Option Seg := fun _ => none
def L_spec_MissingWord_29 : Shape := ⟨[(0, false, [.br tI]), (1, false, [.int .i64]), (5, false, [.int .i64]), (6, false, [.int .i64])], [], []⟩
def S_spec_MissingWord_29 : Shape := ⟨[(0, false, [.br tI]), (1, false, [.int .i64]), (5, false, [.ci .i64 0]), (6, false, [.ci .i64 0])], [], []⟩
def O_spec_MissingWord_29 : Shape := ⟨[(5, false, [.int .i64])], [], []⟩
def Z_spec_MissingWord_29 : Shape := ⟨[], [], []⟩
abbrev mk_spec_MissingWord_29 (v0 : List Int) (v1 : Int) (v2 : Int) (v3 : Int) : (L_spec_MissingWord_29).X := (((v0, ()), (v1, ()), (v2, ()), (v3, ()), ()), (), ())
abbrev ms_spec_MissingWord_29 (v0 : List Int) (v1 : Int) : (S_spec_MissingWord_29).X := (((v0, ()), (v1, ()), ((), ()), ((), ()), ()), (), ())
abbrev mo_spec_MissingWord_29 (v0 : Int) : (O_spec_MissingWord_29).X := (((v0, ()), ()), (), ())
noncomputable def st_spec_MissingWord_29 (v0 : List Int) (v1 : Int) (v2 : Int) (v3 : Int) : Option ((L_spec_MissingWord_29).X ⊕ ((O_spec_MissingWord_29).X ⊕ (Z_spec_MissingWord_29).X)) :=
  bif (ltb v3 (v0.length : Int)) then
    bif (v3 != v1) then
      bif (inb v3 v0.length) then
        some (.inl (((v0, ()), (v1, ()), ((IntKind.i64.wrap ((BitVec.ofInt IntKind.i64.bits v2 ^^^ BitVec.ofInt IntKind.i64.bits (nth v0 v3 0)).toNat : Int)), ()), ((IntKind.i64.wrap (v3 + 1)), ()), ()), (), ()))
      else none
    else
      some (.inl (((v0, ()), (v1, ()), (v2, ()), ((IntKind.i64.wrap (v3 + 1)), ()), ()), (), ()))
  else
    some (.inr (.inl (((v2, ()), ()), (), ())))
noncomputable def stx_spec_MissingWord_29 (x : (L_spec_MissingWord_29).X) := st_spec_MissingWord_29 x.1.1.1 x.1.2.1.1 x.1.2.2.1.1 x.1.2.2.2.1.1
def em_spec_MissingWord_29 (x : (S_spec_MissingWord_29).X) : (L_spec_MissingWord_29).X := (((x.1.1.1, ()), (x.1.2.1.1, ()), (0, ()), (0, ()), ()), (), ())
noncomputable def c_spec_MissingWord_29 : Code := (subN B_spec_MissingWord 64 116).getD .skip
theorem a_spec_MissingWord_29 : subN B_spec_MissingWord 64 29 = some (.block 0 (.loop c_spec_MissingWord_29)) := by kernel_rfl
theorem r_spec_MissingWord_29 (x : (L_spec_MissingWord_29).X) : roundT ⟨E_spec_MissingWord, 23, D_spec_MissingWord_0⟩ 0 c_spec_MissingWord_29 116 L_spec_MissingWord_29 O_spec_MissingWord_29 Z_spec_MissingWord_29 x = stx_spec_MissingWord_29 x := by kernel_rfl
noncomputable def fu_spec_MissingWord_29 (x : (S_spec_MissingWord_29).X) : Nat := (fun (u0 : List Int) (u1 : Int) => 18446744073709551616) x.1.1.1 x.1.2.1.1
noncomputable def F_spec_MissingWord_29 (x : (S_spec_MissingWord_29).X) : Option ((O_spec_MissingWord_29).X ⊕ (Z_spec_MissingWord_29).X) := loopN stx_spec_MissingWord_29 (fu_spec_MissingWord_29 x) (em_spec_MissingWord_29 x)
noncomputable def sg_spec_MissingWord_29 : Seg := ⟨S_spec_MissingWord_29, O_spec_MissingWord_29, Z_spec_MissingWord_29, F_spec_MissingWord_29⟩
noncomputable def D_spec_MissingWord_1 : Nat → Option Seg := fun q => bif Nat.beq q 29 then some sg_spec_MissingWord_29 else D_spec_MissingWord_0 q
theorem fr_spec_MissingWord_1 : FrOk Try.prog ⟨E_spec_MissingWord, 23, D_spec_MissingWord_1⟩ B_spec_MissingWord := (fr_spec_MissingWord_0).loop (sg := sg_spec_MissingWord_29) L_spec_MissingWord_29 em_spec_MissingWord_29 (by decide) a_spec_MissingWord_29 stx_spec_MissingWord_29 fu_spec_MissingWord_29 (by decide) (fun _ => rfl) (fun x r _ h => h) r_spec_MissingWord_29
abbrev I_spec_MissingWord : List Par := [.rd tL, .rd tI]
abbrev U_spec_MissingWord : List OT := [⟨false, tI, .fz⟩]
noncomputable def raw_spec_MissingWord (a0 : List Int) (a1 : Int) : Option (ResD U_spec_MissingWord × MutD I_spec_MissingWord) :=
  segM (F_spec_MissingWord_29 (((a0, ()), (a1, ()), ((), ()), ((), ()), ()), (), ())) (fun y0 =>
    some ((y0.1.1.1, ()), ())) (fun y0 =>
    none)
theorem e_spec_MissingWord (x : InD I_spec_MissingWord) : execF ⟨E_spec_MissingWord, 23, D_spec_MissingWord_1⟩ Try.f201.results.toList B_spec_MissingWord I_spec_MissingWord U_spec_MissingWord x = raw_spec_MissingWord x.1 x.2.1 := by kernel_rfl
theorem ok0_spec_MissingWord : ConOk Try.prog 201 ⟨I_spec_MissingWord, U_spec_MissingWord, fun x => raw_spec_MissingWord x.1 x.2.1⟩ := conOk_exec (fr_spec_MissingWord_1) Try.func201 (by kernel_rfl) (by kernel_rfl) Try.ntmps201.symm (by decide) (fun x r h => (e_spec_MissingWord x).trans h)
noncomputable def n_spec_MissingWord (a0 : List Int) (a1 : Int) : Int := missWord a0 a1
theorem nn_spec_MissingWord (a0 : List Int) (a1 : Int) (hk : InOk I_spec_MissingWord (a0, a1, ())) : raw_spec_MissingWord a0 a1 = (fun n => some ((n, ()), ())) (n_spec_MissingWord a0 a1) := by
  have hb : a0.length * 8 ≤ 2 ^ 47 := hk.1.1
  have h1 := loopN_rng (step := stx_spec_MissingWord_29) a0.length (fun i s => mk_spec_MissingWord_29 a0 a1 s i) (fun n (i : Nat) => bif (i : Int) != a1 then xw n (nth a0 i 0) else n) (fun _ _ => True) (fun s => .inl (mo_spec_MissingWord_29 s)) (fun i s hi _ => ⟨by
    simp only [stx_spec_MissingWord_29, mk_spec_MissingWord_29, st_spec_MissingWord_29, ltb_t (show (i : Int) < a0.length by omega), cond_true, wr (show -9223372036854775808 ≤ (i : Int) + 1 by omega) (by omega), Int.natCast_add, Int.natCast_one, Int.toNat_natCast, inb_nat hi]
    cases ((i : Int) != a1) <;> rfl, trivial⟩) (fun s _ => by simp only [stx_spec_MissingWord_29, mk_spec_MissingWord_29, st_spec_MissingWord_29, ltb_f (Int.le_refl _), cond_false]) 0 trivial 18446744073709551616 (by omega)
  rw [miss_fold] at h1
  unfold raw_spec_MissingWord n_spec_MissingWord
  rw [show F_spec_MissingWord_29 (ms_spec_MissingWord_29 a0 a1) = _ from h1]; rfl
noncomputable def con_spec_MissingWord : Con := ⟨I_spec_MissingWord, U_spec_MissingWord, fun x => (fun n => some ((n, ()), ())) (n_spec_MissingWord x.1 x.2.1)⟩
theorem ok_spec_MissingWord : ConOk Try.prog 201 con_spec_MissingWord := (ok0_spec_MissingWord).mono (fun x r hk h => (nn_spec_MissingWord x.1 x.2.1 hk).trans h)
end

/-! spec_l6Words -/
section
noncomputable def B_spec_l6Words : Code := (Try.f185.body).getD .skip
noncomputable def E_spec_l6Words : Env := envOf TT [(90, con_spec_l6Word), (201, con_spec_MissingWord)] []
theorem fr_spec_l6Words_0 : FrOk Try.prog ⟨E_spec_l6Words, 45, fun _ => none⟩ B_spec_l6Words := frOk_base mixed tt_ok ⟨ok_spec_l6Word, ok_spec_MissingWord, trivial⟩
noncomputable def D_spec_l6Words_0 : Nat → Option Seg := fun _ => none
def L_spec_l6Words_61 : Shape := ⟨[(1, false, [.int .i64]), (2, false, [.ptr 0 0]), (6, false, [.at 800000000]), (7, false, [.int .i64]), (8, false, [.int .i64])], [(0, [.int .i64, .int .i64, .int .i64, .br tM, .int .i64, .int .i64, .int .i64, .int .i64, .int .i64, .br tW, .int .i64, .bool, .bool])], [(800000000, tI, .fz)]⟩
def S_spec_l6Words_61 : Shape := ⟨[(1, false, [.int .i64]), (2, false, [.ptr 0 0]), (6, false, [.at 800000000]), (7, false, [.ci .i64 (-1)]), (8, false, [.ci .i64 0])], [(0, [.int .i64, .int .i64, .int .i64, .br tM, .int .i64, .int .i64, .int .i64, .int .i64, .int .i64, .br tW, .int .i64, .bool, .bool])], [(800000000, tI, .fz)]⟩
def O_spec_l6Words_61 : Shape := ⟨[(6, false, [.at 800000000]), (7, false, [.int .i64])], [], [(800000000, tI, .fz)]⟩
def Z_spec_l6Words_61 : Shape := ⟨[(4, false, [.at 800000000]), (5, false, [.bool])], [], [(800000000, tI, .fz)]⟩
abbrev mk_spec_l6Words_61 (v0 : Int) (v1 : Int) (v2 : Int) (v3 : dA) (v4 : List Int) : (L_spec_l6Words_61).X := (((v0, ()), ((), ()), ((), ()), (v1, ()), (v2, ()), ()), ((v3.1, v3.2.1.1, v3.2.1.2, v3.2.2.1, v3.2.2.2.1, v3.2.2.2.2.1, v3.2.2.2.2.2.1, v3.2.2.2.2.2.2.1, v3.2.2.2.2.2.2.2.1, v3.2.2.2.2.2.2.2.2.1, v3.2.2.2.2.2.2.2.2.2.1, v3.2.2.2.2.2.2.2.2.2.2.1, v3.2.2.2.2.2.2.2.2.2.2.2, ()), ()), (v4, ()))
abbrev ms_spec_l6Words_61 (v0 : Int) (v1 : dA) (v2 : List Int) : (S_spec_l6Words_61).X := (((v0, ()), ((), ()), ((), ()), ((), ()), ((), ()), ()), ((v1.1, v1.2.1.1, v1.2.1.2, v1.2.2.1, v1.2.2.2.1, v1.2.2.2.2.1, v1.2.2.2.2.2.1, v1.2.2.2.2.2.2.1, v1.2.2.2.2.2.2.2.1, v1.2.2.2.2.2.2.2.2.1, v1.2.2.2.2.2.2.2.2.2.1, v1.2.2.2.2.2.2.2.2.2.2.1, v1.2.2.2.2.2.2.2.2.2.2.2, ()), ()), (v2, ()))
abbrev mo_spec_l6Words_61 (v0 : Int) (v1 : List Int) : (O_spec_l6Words_61).X := ((((), ()), (v0, ()), ()), (), (v1, ()))
abbrev mz_spec_l6Words_61 (v0 : Bool) (v1 : List Int) : (Z_spec_l6Words_61).X := ((((), ()), (v0, ()), ()), (), (v1, ()))
noncomputable def st_spec_l6Words_61 (v0 : Int) (v1 : Int) (v2 : Int) (v3 : Int) (v4 : Int) (v5 : Int) (v6 : List dM) (v7 : Int) (v8 : Int) (v9 : Int) (v10 : Int) (v11 : Int) (v12 : List dW) (v13 : Int) (v14 : Bool) (v15 : Bool) (v16 : List Int) : Option ((L_spec_l6Words_61).X ⊕ ((O_spec_l6Words_61).X ⊕ (Z_spec_l6Words_61).X)) :=
  bif (ltb v2 v4) then
    let r2 := n_spec_l6Word (v3, (v4, v5), v6, v7, v8, v9, v10, v11, v12, v13, v14, v15) v2 v0
    bif (!r2.2) then
      bif (leb 0 v1) then
        some (.inr (.inr ((((), ()), (false, ()), ()), (), (([] : List Int), ()))))
      else
        bif (apok v16.length ([r2.1] : List Int).length 8) then
          some (.inl (((v0, ()), ((), ()), ((), ()), (v2, ()), ((IntKind.i64.wrap (v2 + 1)), ()), ()), ((v3, v4, v5, v6, v7, v8, v9, v10, v11, v12, v13, v14, v15, ()), ()), ((v16 ++ ([r2.1] : List Int)), ())))
        else none
    else
      bif (apok v16.length ([r2.1] : List Int).length 8) then
        some (.inl (((v0, ()), ((), ()), ((), ()), (v1, ()), ((IntKind.i64.wrap (v2 + 1)), ()), ()), ((v3, v4, v5, v6, v7, v8, v9, v10, v11, v12, v13, v14, v15, ()), ()), ((v16 ++ ([r2.1] : List Int)), ())))
      else none
  else
    some (.inr (.inl ((((), ()), (v1, ()), ()), (), (v16, ()))))
noncomputable def stx_spec_l6Words_61 (x : (L_spec_l6Words_61).X) := st_spec_l6Words_61 x.1.1.1 x.1.2.2.2.1.1 x.1.2.2.2.2.1.1 x.2.1.1.1 x.2.1.1.2.1 x.2.1.1.2.2.1 x.2.1.1.2.2.2.1 x.2.1.1.2.2.2.2.1 x.2.1.1.2.2.2.2.2.1 x.2.1.1.2.2.2.2.2.2.1 x.2.1.1.2.2.2.2.2.2.2.1 x.2.1.1.2.2.2.2.2.2.2.2.1 x.2.1.1.2.2.2.2.2.2.2.2.2.1 x.2.1.1.2.2.2.2.2.2.2.2.2.2.1 x.2.1.1.2.2.2.2.2.2.2.2.2.2.2.1 x.2.1.1.2.2.2.2.2.2.2.2.2.2.2.2.1 x.2.2.1
def em_spec_l6Words_61 (x : (S_spec_l6Words_61).X) : (L_spec_l6Words_61).X := (((x.1.1.1, ()), ((), ()), ((), ()), ((-1), ()), (0, ()), ()), ((x.2.1.1.1, x.2.1.1.2.1, x.2.1.1.2.2.1, x.2.1.1.2.2.2.1, x.2.1.1.2.2.2.2.1, x.2.1.1.2.2.2.2.2.1, x.2.1.1.2.2.2.2.2.2.1, x.2.1.1.2.2.2.2.2.2.2.1, x.2.1.1.2.2.2.2.2.2.2.2.1, x.2.1.1.2.2.2.2.2.2.2.2.2.1, x.2.1.1.2.2.2.2.2.2.2.2.2.2.1, x.2.1.1.2.2.2.2.2.2.2.2.2.2.2.1, x.2.1.1.2.2.2.2.2.2.2.2.2.2.2.2.1, ()), ()), (x.2.2.1, ()))
noncomputable def c_spec_l6Words_61 : Code := (subN B_spec_l6Words 64 244).getD .skip
theorem a_spec_l6Words_61 : subN B_spec_l6Words 64 61 = some (.block 0 (.loop c_spec_l6Words_61)) := by kernel_rfl
theorem r_spec_l6Words_61 (x : (L_spec_l6Words_61).X) : roundT ⟨E_spec_l6Words, 45, D_spec_l6Words_0⟩ 0 c_spec_l6Words_61 244 L_spec_l6Words_61 O_spec_l6Words_61 Z_spec_l6Words_61 x = stx_spec_l6Words_61 x := by kernel_rfl
noncomputable def fu_spec_l6Words_61 (x : (S_spec_l6Words_61).X) : Nat := (fun (u0 : Int) (u1 : Int) (u2 : Int) (u3 : Int) (u4 : List dM) (u5 : Int) (u6 : Int) (u7 : Int) (u8 : Int) (u9 : Int) (u10 : List dW) (u11 : Int) (u12 : Bool) (u13 : Bool) (u14 : List Int) => 18446744073709551616) x.1.1.1 x.2.1.1.1 x.2.1.1.2.1 x.2.1.1.2.2.1 x.2.1.1.2.2.2.1 x.2.1.1.2.2.2.2.1 x.2.1.1.2.2.2.2.2.1 x.2.1.1.2.2.2.2.2.2.1 x.2.1.1.2.2.2.2.2.2.2.1 x.2.1.1.2.2.2.2.2.2.2.2.1 x.2.1.1.2.2.2.2.2.2.2.2.2.1 x.2.1.1.2.2.2.2.2.2.2.2.2.2.1 x.2.1.1.2.2.2.2.2.2.2.2.2.2.2.1 x.2.1.1.2.2.2.2.2.2.2.2.2.2.2.2.1 x.2.2.1
noncomputable def F_spec_l6Words_61 (x : (S_spec_l6Words_61).X) : Option ((O_spec_l6Words_61).X ⊕ (Z_spec_l6Words_61).X) := loopN stx_spec_l6Words_61 (fu_spec_l6Words_61 x) (em_spec_l6Words_61 x)
noncomputable def sg_spec_l6Words_61 : Seg := ⟨S_spec_l6Words_61, O_spec_l6Words_61, Z_spec_l6Words_61, F_spec_l6Words_61⟩
noncomputable def D_spec_l6Words_1 : Nat → Option Seg := fun q => bif Nat.beq q 61 then some sg_spec_l6Words_61 else D_spec_l6Words_0 q
theorem fr_spec_l6Words_1 : FrOk Try.prog ⟨E_spec_l6Words, 45, D_spec_l6Words_1⟩ B_spec_l6Words := (fr_spec_l6Words_0).loop (sg := sg_spec_l6Words_61) L_spec_l6Words_61 em_spec_l6Words_61 (by decide) a_spec_l6Words_61 stx_spec_l6Words_61 fu_spec_l6Words_61 (by decide) (fun _ => rfl) (fun x r _ h => h) r_spec_l6Words_61
abbrev I_spec_l6Words : List Par := [.rd tA, .rd tI]
abbrev U_spec_l6Words : List OT := [⟨false, tL, (.ow .fz)⟩, ⟨false, tB, .fz⟩]
noncomputable def raw_spec_l6Words (a0 : dA) (a1 : Int) : Option (ResD U_spec_l6Words × MutD I_spec_l6Words) :=
  segM (F_spec_l6Words_61 (((a1, ()), ((), ()), ((), ()), ((), ()), ((), ()), ()), ((a0.1, a0.2.1.1, a0.2.1.2, a0.2.2.1, a0.2.2.2.1, a0.2.2.2.2.1, a0.2.2.2.2.2.1, a0.2.2.2.2.2.2.1, a0.2.2.2.2.2.2.2.1, a0.2.2.2.2.2.2.2.2.1, a0.2.2.2.2.2.2.2.2.2.1, a0.2.2.2.2.2.2.2.2.2.2.1, a0.2.2.2.2.2.2.2.2.2.2.2, ()), ()), (([] : List Int), ()))) (fun y2 =>
    bif (leb 0 y2.1.2.1.1) then
      let r4 := n_spec_MissingWord y2.2.2.1 y2.1.2.1.1
      bif (inb y2.1.2.1.1 y2.2.2.1.length) then
        some (((y2.2.2.1.set (y2.1.2.1.1).toNat r4), true, ()), ())
      else none
    else
      some ((y2.2.2.1, true, ()), ())) (fun y2 =>
    some ((y2.2.2.1, y2.1.2.1.1, ()), ()))
theorem e_spec_l6Words (x : InD I_spec_l6Words) : execF ⟨E_spec_l6Words, 45, D_spec_l6Words_1⟩ Try.f185.results.toList B_spec_l6Words I_spec_l6Words U_spec_l6Words x = raw_spec_l6Words x.1 x.2.1 := by kernel_rfl
theorem ok0_spec_l6Words : ConOk Try.prog 185 ⟨I_spec_l6Words, U_spec_l6Words, fun x => raw_spec_l6Words x.1 x.2.1⟩ := conOk_exec (fr_spec_l6Words_1) Try.func185 (by kernel_rfl) (by kernel_rfl) Try.ntmps185.symm (by decide) (fun x r h => (e_spec_l6Words x).trans h)
noncomputable def n_spec_l6Words (a0 : dA) (a1 : Int) : List Int × Bool := words a0 a1
noncomputable def q_spec_l6Words (a0 : dA) (a1 : Int) : Bool := n_spec_GeoOk a0.2.1
theorem nn_spec_l6Words (a0 : dA) (a1 : Int) (hk : InOk I_spec_l6Words (a0, a1, ())) (hq : q_spec_l6Words a0 a1 = true) : raw_spec_l6Words a0 a1 = (fun n => some ((n.1, n.2, ()), ())) (n_spec_l6Words a0 a1) := by
  have hg := geo_iff.1 hq
  have h1 : F_spec_l6Words_61 (ms_spec_l6Words_61 a1 a0 []) = some (bif miss2 (fun (i : Nat) => wordOk a0 i a1) a0.2.1.1.toNat then .inr (mz_spec_l6Words_61 false []) else .inl (mo_spec_l6Words_61 (missAt (fun (i : Nat) => wordOk a0 i a1) a0.2.1.1.toNat) (wordList a0 a1 a0.2.1.1.toNat))) :=
    loopN_all (step := stx_spec_l6Words_61) (fun i => mk_spec_l6Words_61 a1 (missAt (fun (i : Nat) => wordOk a0 i a1) i) i a0 (wordList a0 a1 i)) a0.2.1.1.toNat (fun i => !wordOk a0 i a1 && leb 0 (missAt (fun (i : Nat) => wordOk a0 i a1) i)) _ _ (fun i hi => by
      simp only [stx_spec_l6Words_61, mk_spec_l6Words_61, st_spec_l6Words_61, ltb_t (show (i : Int) < a0.2.1.1 by omega), cond_true, wr (show -9223372036854775808 ≤ (i : Int) + 1 by omega) (by omega), Int.natCast_add, Int.natCast_one, Int.toNat_natCast, pr_eta, n_spec_l6Word, missAt]
      rw [apok_iff.2 (show ((wordList a0 a1 i).length + [word a0 i a1].length) * 8 ≤ 140737488355328 by simp only [List.length_cons, List.length_nil, wordList_len]; omega), wordList_succ]
      cases wordOk a0 i a1 <;> cases leb 0 (missAt (fun (i : Nat) => wordOk a0 i a1) i) <;> rfl) (by simp only [stx_spec_l6Words_61, mk_spec_l6Words_61, st_spec_l6Words_61, ltb_f (show a0.2.1.1 ≤ (a0.2.1.1.toNat : Int) by omega), cond_false]) _ (by show _ < 18446744073709551616; omega)
  unfold raw_spec_l6Words n_spec_l6Words words
  rw [h1]
  cases miss2 (fun (i : Nat) => wordOk a0 i a1) a0.2.1.1.toNat
  · simp only [cond_false, segM_inl, n_spec_MissingWord]
    cases hm : leb 0 (missAt (fun (i : Nat) => wordOk a0 i a1) a0.2.1.1.toNat)
    · rfl
    · obtain ⟨h2, h3⟩ := miss_word a0 a1 a0.2.1.1.toNat hm
      rw [h2, h3]; rfl
  · rfl
noncomputable def o_spec_l6Words (a0 : dA) (a1 : Int) : Option (ResD U_spec_l6Words × MutD I_spec_l6Words) := bif q_spec_l6Words a0 a1 then (fun n => some ((n.1, n.2, ()), ())) (n_spec_l6Words a0 a1) else none
theorem ot_spec_l6Words (a0 : dA) (a1 : Int) (h : q_spec_l6Words a0 a1 = true) : o_spec_l6Words a0 a1 = (fun n => some ((n.1, n.2, ()), ())) (n_spec_l6Words a0 a1) := by unfold o_spec_l6Words; rw [h]; rfl
noncomputable def con_spec_l6Words : Con := ⟨I_spec_l6Words, U_spec_l6Words, fun x => o_spec_l6Words x.1 x.2.1⟩
theorem ok_spec_l6Words : ConOk Try.prog 185 con_spec_l6Words := (ok0_spec_l6Words).mono (fun x r hk h => pre_ok h (fun hq => nn_spec_l6Words x.1 x.2.1 hk hq))
end

/-! spec_l3Stripe -/
section
noncomputable def B_spec_l3Stripe : Code := (Try.f202.body).getD .skip
noncomputable def E_spec_l3Stripe : Env := envOf TT [(82, con_spec_l1In), (140, con_spec_GeoOk)] []
theorem fr_spec_l3Stripe_0 : FrOk Try.prog ⟨E_spec_l3Stripe, 14, fun _ => none⟩ B_spec_l3Stripe := frOk_base mixed tt_ok ⟨ok_spec_l1In, ok_spec_GeoOk, trivial⟩
noncomputable def D_spec_l3Stripe_0 : Nat → Option Seg := fun _ => none
abbrev I_spec_l3Stripe : List Par := [.rd tG, .rd tI]
abbrev U_spec_l3Stripe : List OT := [⟨false, tB, .fz⟩]
noncomputable def raw_spec_l3Stripe (a0 : dG) (a1 : Int) : Option (ResD U_spec_l3Stripe × MutD I_spec_l3Stripe) :=
  let r1 := n_spec_GeoOk a0
  bif r1 then
    let r2 := n_spec_l1In a1 0 (IntKind.i64.wrap (a0.2 - 1))
    some ((r2, ()), ())
  else
    some ((false, ()), ())
theorem e_spec_l3Stripe (x : InD I_spec_l3Stripe) : execF ⟨E_spec_l3Stripe, 14, D_spec_l3Stripe_0⟩ Try.f202.results.toList B_spec_l3Stripe I_spec_l3Stripe U_spec_l3Stripe x = raw_spec_l3Stripe x.1 x.2.1 := by kernel_rfl
theorem ok0_spec_l3Stripe : ConOk Try.prog 202 ⟨I_spec_l3Stripe, U_spec_l3Stripe, fun x => raw_spec_l3Stripe x.1 x.2.1⟩ := conOk_exec (fr_spec_l3Stripe_0) Try.func202 (by kernel_rfl) (by kernel_rfl) Try.ntmps202.symm (by decide) (fun x r h => (e_spec_l3Stripe x).trans h)
noncomputable def n_spec_l3Stripe (a0 : dG) (a1 : Int) : Bool :=
  let r1 := n_spec_GeoOk a0
  bif r1 then
    let r2 := n_spec_l1In a1 0 (IntKind.i64.wrap (a0.2 - 1))
    r2
  else
    false
noncomputable def con_spec_l3Stripe : Con := ⟨I_spec_l3Stripe, U_spec_l3Stripe, fun x => (fun n => some ((n, ()), ())) (n_spec_l3Stripe x.1 x.2.1)⟩
theorem nn_spec_l3Stripe (a0 : dG) (a1 : Int) : raw_spec_l3Stripe a0 a1 = (fun n => some ((n, ()), ())) (n_spec_l3Stripe a0 a1) := bif_ty (p := fun (n : Bool) => ((n, ()), ())) (bif_some (p := fun (n : Bool) => ((n, ()), ())) rfl rfl)
theorem ok_spec_l3Stripe : ConOk Try.prog 202 con_spec_l3Stripe := (ok0_spec_l3Stripe).mono (fun x r _ h => (nn_spec_l3Stripe x.1 x.2.1).trans h)
theorem spec_str_eq (g : dG) (s : Int) : n_spec_l3Stripe g s = strOk g s := by
  unfold n_spec_l3Stripe strOk
  cases hg : n_spec_GeoOk g
  · rfl
  have := geo_iff.1 hg
  rw [in_eq, wr (by omega) (by omega)]; rfl
end

/-! spec_ParityOf -/
section
noncomputable def B_spec_ParityOf : Code := (Try.f203.body).getD .skip
noncomputable def E_spec_ParityOf : Env := envOf TT [(202, con_spec_l3Stripe)] []
theorem fr_spec_ParityOf_0 : FrOk Try.prog ⟨E_spec_ParityOf, 17, fun _ => none⟩ B_spec_ParityOf := frOk_base mixed tt_ok ⟨ok_spec_l3Stripe, trivial⟩
noncomputable def D_spec_ParityOf_0 : Nat → Option Seg := fun _ => none
abbrev I_spec_ParityOf : List Par := [.rd tG, .rd tI]
abbrev U_spec_ParityOf : List OT := [⟨false, tI, .fz⟩]
noncomputable def raw_spec_ParityOf (a0 : dG) (a1 : Int) : Option (ResD U_spec_ParityOf × MutD I_spec_ParityOf) :=
  let r1 := n_spec_l3Stripe a0 a1
  bif (!r1) then
    some (((-1), ()), ())
  else
    bif (a0.1 != 0) then
      some (((IntKind.i64.wrap ((IntKind.i64.wrap (a0.1 - 1)) - (a1.tmod a0.1))), ()), ())
    else none
theorem e_spec_ParityOf (x : InD I_spec_ParityOf) : execF ⟨E_spec_ParityOf, 17, D_spec_ParityOf_0⟩ Try.f203.results.toList B_spec_ParityOf I_spec_ParityOf U_spec_ParityOf x = raw_spec_ParityOf x.1 x.2.1 := by kernel_rfl
theorem ok0_spec_ParityOf : ConOk Try.prog 203 ⟨I_spec_ParityOf, U_spec_ParityOf, fun x => raw_spec_ParityOf x.1 x.2.1⟩ := conOk_exec (fr_spec_ParityOf_0) Try.func203 (by kernel_rfl) (by kernel_rfl) Try.ntmps203.symm (by decide) (fun x r h => (e_spec_ParityOf x).trans h)
noncomputable def n_spec_ParityOf (a0 : dG) (a1 : Int) : Int := parityOf a0 a1
theorem nn_spec_ParityOf (a0 : dG) (a1 : Int) (hk : InOk I_spec_ParityOf (a0, a1, ())) : raw_spec_ParityOf a0 a1 = (fun n => some ((n, ()), ())) (n_spec_ParityOf a0 a1) := by
  unfold raw_spec_ParityOf n_spec_ParityOf
  rw [spec_str_eq]
  cases hs : strOk a0 a1
  · unfold parityOf; rw [hs]; rfl
  · have h1 := strOk_iff.1 hs
    have h2 := geo_iff.1 h1.1
    have h3 := parity_in hs
    have h4 : parityOf a0 a1 = a0.1 - 1 - a1.tmod a0.1 := by unfold parityOf; rw [hs]; rfl
    rw [show (a0.1 != 0) = true from bne_iff_ne.2 (by omega), wr (show -9223372036854775808 ≤ a0.1 - 1 by omega) (by omega), wr (show -9223372036854775808 ≤ a0.1 - 1 - a1.tmod a0.1 by omega) (by omega), h4]; rfl
noncomputable def con_spec_ParityOf : Con := ⟨I_spec_ParityOf, U_spec_ParityOf, fun x => (fun n => some ((n, ()), ())) (n_spec_ParityOf x.1 x.2.1)⟩
theorem ok_spec_ParityOf : ConOk Try.prog 203 con_spec_ParityOf := (ok0_spec_ParityOf).mono (fun x r hk h => (nn_spec_ParityOf x.1 x.2.1 hk).trans h)
end
end Go.Tf
