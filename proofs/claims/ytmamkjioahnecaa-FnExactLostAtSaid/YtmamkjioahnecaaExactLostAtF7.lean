/- Functions of the program, and what they come to. -/
import Derived.Test.YtmamkjioahnecaaExactLostAtF6
namespace Go.Tf
open Go.Proofs
set_option synthInstance.maxHeartbeats 400000
set_option synthInstance.maxSize 10000
set_option linter.unusedVariables false
set_option linter.unusedSimpArgs false
set_option maxRecDepth 100000
/-! spec_LiveAt -/
section
noncomputable def B_spec_LiveAt : Code := (Try.f146.body).getD .skip
noncomputable def E_spec_LiveAt : Env := envOf TT [(82, con_spec_l1In)] []
theorem fr_spec_LiveAt_0 : FrOk Try.prog ⟨E_spec_LiveAt, 34, fun _ => none⟩ B_spec_LiveAt := frOk_base mixed tt_ok ⟨ok_spec_l1In, trivial⟩
noncomputable def D_spec_LiveAt_0 : Nat → Option Seg := fun _ => none
abbrev I_spec_LiveAt : List Par := [.rd tA, .rd tI, .rd tI]
abbrev U_spec_LiveAt : List OT := [⟨false, tB, .fz⟩]
noncomputable def raw_spec_LiveAt (a0 : dA) (a1 : Int) (a2 : Int) : Option (ResD U_spec_LiveAt × MutD I_spec_LiveAt) :=
  let r1 := n_spec_l1In a1 0 (IntKind.i64.wrap ((a0.2.2.1.length : Int) - 1))
  bif r1 then
    bif (inb a1 a0.2.2.1.length) then
      bif (!((((nth a0.2.2.1 a1 ([], [], false, [])).2).2).1)) then
        bif (!(a1 != a0.2.2.2.1)) then
          some (((ltb a2 a0.2.2.2.2.1), ()), ())
        else
          some ((true, ()), ())
      else
        some ((false, ()), ())
    else none
  else
    some ((false, ()), ())
theorem e_spec_LiveAt (x : InD I_spec_LiveAt) : execF ⟨E_spec_LiveAt, 34, D_spec_LiveAt_0⟩ Try.f146.results.toList B_spec_LiveAt I_spec_LiveAt U_spec_LiveAt x = raw_spec_LiveAt x.1 x.2.1 x.2.2.1 := by kernel_rfl
theorem ok0_spec_LiveAt : ConOk Try.prog 146 ⟨I_spec_LiveAt, U_spec_LiveAt, fun x => raw_spec_LiveAt x.1 x.2.1 x.2.2.1⟩ := conOk_exec (fr_spec_LiveAt_0) Try.func146 (by kernel_rfl) (by kernel_rfl) Try.ntmps146.symm (by decide) (fun x r h => (e_spec_LiveAt x).trans h)
noncomputable def n_spec_LiveAt (a0 : dA) (a1 a2 : Int) : Bool := liveAt a0 a1 a2
theorem nn_spec_LiveAt (a0 : dA) (a1 a2 : Int) (hk : InOk I_spec_LiveAt (a0, a1, a2, ())) : raw_spec_LiveAt a0 a1 a2 = (fun n => some ((n, ()), ())) (n_spec_LiveAt a0 a1 a2) := by
  have hb : a0.2.2.1.length * 80 ≤ 2 ^ 47 := hk.1.2.2.1.1
  unfold raw_spec_LiveAt n_spec_LiveAt liveAt noMem
  rw [in_len (show a0.2.2.1.length ≤ 1152921504606846976 by omega)]
  cases inb a1 a0.2.2.1.length
  · rfl
  · cases (nth a0.2.2.1 a1 ([], [], false, [])).2.2.1 <;> cases (a1 != a0.2.2.2.1) <;> rfl
noncomputable def con_spec_LiveAt : Con := ⟨I_spec_LiveAt, U_spec_LiveAt, fun x => (fun n => some ((n, ()), ())) (n_spec_LiveAt x.1 x.2.1 x.2.2.1)⟩
theorem ok_spec_LiveAt : ConOk Try.prog 146 con_spec_LiveAt := (ok0_spec_LiveAt).mono (fun x r hk h => (nn_spec_LiveAt x.1 x.2.1 x.2.2.1 hk).trans h)
end

/-! spec_l6Word -/
section
noncomputable def B_spec_l6Word : Code := (Try.f90.body).getD .skip
noncomputable def E_spec_l6Word : Env := envOf TT [(83, con_spec_DataAt), (105, con_spec_ReadSec), (146, con_spec_LiveAt)] []
theorem fr_spec_l6Word_0 : FrOk Try.prog ⟨E_spec_l6Word, 36, fun _ => none⟩ B_spec_l6Word := frOk_base mixed tt_ok ⟨ok_spec_DataAt, ok_spec_ReadSec, ok_spec_LiveAt, trivial⟩
noncomputable def D_spec_l6Word_0 : Nat → Option Seg := fun _ => none
abbrev I_spec_l6Word : List Par := [.rd tA, .rd tI, .rd tI]
abbrev U_spec_l6Word : List OT := [⟨false, tI, .fz⟩, ⟨false, tB, .fz⟩]
noncomputable def raw_spec_l6Word (a0 : dA) (a1 : Int) (a2 : Int) : Option (ResD U_spec_l6Word × MutD I_spec_l6Word) :=
  let r1 := n_spec_LiveAt a0 a1 a2
  bif (!r1) then
    some ((0, false, ()), ())
  else
    bif (inb a1 a0.2.2.1.length) then
      let r2 := n_spec_DataAt a2
      let r3 := n_spec_ReadSec ((nth a0.2.2.1 a1 ([], [], false, [])).1, ((nth a0.2.2.1 a1 ([], [], false, [])).2).1, (((nth a0.2.2.1 a1 ([], [], false, [])).2).2)) r2
      bif (!(!r3.2)) then
        bif ((r3.1.length : Int) != 1) then
          some ((0, false, ()), ())
        else
          bif (inb 0 r3.1.length) then
            some (((nth r3.1 0 0), true, ()), ())
          else none
      else
        some ((0, false, ()), ())
    else none
theorem e_spec_l6Word (x : InD I_spec_l6Word) : execF ⟨E_spec_l6Word, 36, D_spec_l6Word_0⟩ Try.f90.results.toList B_spec_l6Word I_spec_l6Word U_spec_l6Word x = raw_spec_l6Word x.1 x.2.1 x.2.2.1 := by kernel_rfl
theorem ok0_spec_l6Word : ConOk Try.prog 90 ⟨I_spec_l6Word, U_spec_l6Word, fun x => raw_spec_l6Word x.1 x.2.1 x.2.2.1⟩ := conOk_exec (fr_spec_l6Word_0) Try.func90 (by kernel_rfl) (by kernel_rfl) Try.ntmps90.symm (by decide) (fun x r h => (e_spec_l6Word x).trans h)
noncomputable def n_spec_l6Word (a0 : dA) (a1 a2 : Int) : Int × Bool := (word a0 a1 a2, wordOk a0 a1 a2)
theorem nn_spec_l6Word (a0 : dA) (a1 a2 : Int) (hk : InOk I_spec_l6Word (a0, a1, a2, ())) : raw_spec_l6Word a0 a1 a2 = (fun n => some ((n.1, n.2, ()), ())) (n_spec_l6Word a0 a1 a2) := by
  unfold raw_spec_l6Word n_spec_l6Word word n_spec_LiveAt
  simp only [pr_eta, spec_dataAt_eq, n_spec_ReadSec]
  rw [show wordOk a0 a1 a2 = (liveAt a0 a1 a2 && ((wordSec a0 a1 a2).2 && ((wordSec a0 a1 a2).1.length : Int) == 1)) from rfl]
  rw [show readSec (nth a0.2.2.1 a1 ([], [], false, [])) (dataAt a2) = wordSec a0 a1 a2 from rfl]
  cases hl : liveAt a0 a1 a2
  · rfl
  · rw [show inb a1 a0.2.2.1.length = true by unfold liveAt at hl; exact (Bool.and_eq_true_iff.1 hl).1]
    cases (wordSec a0 a1 a2).2
    · rfl
    · rw [bne]
      cases h1 : (((wordSec a0 a1 a2).1.length : Int) == 1)
      · rfl
      · rw [show inb 0 (wordSec a0 a1 a2).1.length = true from inb_iff.2 (by have := beq_iff_eq.1 h1; omega)]; rfl
noncomputable def con_spec_l6Word : Con := ⟨I_spec_l6Word, U_spec_l6Word, fun x => (fun n => some ((n.1, n.2, ()), ())) (n_spec_l6Word x.1 x.2.1 x.2.2.1)⟩
theorem ok_spec_l6Word : ConOk Try.prog 90 con_spec_l6Word := (ok0_spec_l6Word).mono (fun x r hk h => (nn_spec_l6Word x.1 x.2.1 x.2.2.1 hk).trans h)
end

/-! spec_LostAt -/
section
noncomputable def B_spec_LostAt : Code := (Try.f45.body).getD .skip
noncomputable def E_spec_LostAt : Env := envOf TT [(81, con_spec_ArrOk), (82, con_spec_l1In), (90, con_spec_l6Word)] []
theorem fr_spec_LostAt_0 : FrOk Try.prog ⟨E_spec_LostAt, 43, fun _ => none⟩ B_spec_LostAt := frOk_base mixed tt_ok ⟨ok_spec_ArrOk, ok_spec_l1In, ok_spec_l6Word, trivial⟩
noncomputable def D_spec_LostAt_0 : Nat → Option Seg := fun _ => none
def L_spec_LostAt_61 : Shape := ⟨[(1, false, [.int .i64]), (2, false, [.ptr 0 0]), (5, false, [.int .i64]), (6, false, [.int .i64])], [(0, [.int .i64, .int .i64, .int .i64, .br tM, .int .i64, .int .i64, .int .i64, .int .i64, .int .i64, .br tW, .int .i64, .bool, .bool])], []⟩
def S_spec_LostAt_61 : Shape := ⟨[(1, false, [.int .i64]), (2, false, [.ptr 0 0]), (5, false, [.ci .i64 0]), (6, false, [.ci .i64 0])], [(0, [.int .i64, .int .i64, .int .i64, .br tM, .int .i64, .int .i64, .int .i64, .int .i64, .int .i64, .br tW, .int .i64, .bool, .bool])], []⟩
def O_spec_LostAt_61 : Shape := ⟨[(5, false, [.int .i64])], [], []⟩
def Z_spec_LostAt_61 : Shape := ⟨[], [], []⟩
abbrev mk_spec_LostAt_61 (v0 : Int) (v1 : Int) (v2 : Int) (v3 : dA) : (L_spec_LostAt_61).X := (((v0, ()), ((), ()), (v1, ()), (v2, ()), ()), ((v3.1, v3.2.1.1, v3.2.1.2, v3.2.2.1, v3.2.2.2.1, v3.2.2.2.2.1, v3.2.2.2.2.2.1, v3.2.2.2.2.2.2.1, v3.2.2.2.2.2.2.2.1, v3.2.2.2.2.2.2.2.2.1, v3.2.2.2.2.2.2.2.2.2.1, v3.2.2.2.2.2.2.2.2.2.2.1, v3.2.2.2.2.2.2.2.2.2.2.2, ()), ()), ())
abbrev ms_spec_LostAt_61 (v0 : Int) (v1 : dA) : (S_spec_LostAt_61).X := (((v0, ()), ((), ()), ((), ()), ((), ()), ()), ((v1.1, v1.2.1.1, v1.2.1.2, v1.2.2.1, v1.2.2.2.1, v1.2.2.2.2.1, v1.2.2.2.2.2.1, v1.2.2.2.2.2.2.1, v1.2.2.2.2.2.2.2.1, v1.2.2.2.2.2.2.2.2.1, v1.2.2.2.2.2.2.2.2.2.1, v1.2.2.2.2.2.2.2.2.2.2.1, v1.2.2.2.2.2.2.2.2.2.2.2, ()), ()), ())
abbrev mo_spec_LostAt_61 (v0 : Int) : (O_spec_LostAt_61).X := (((v0, ()), ()), (), ())
noncomputable def st_spec_LostAt_61 (v0 : Int) (v1 : Int) (v2 : Int) (v3 : Int) (v4 : Int) (v5 : Int) (v6 : List dM) (v7 : Int) (v8 : Int) (v9 : Int) (v10 : Int) (v11 : Int) (v12 : List dW) (v13 : Int) (v14 : Bool) (v15 : Bool) : Option ((L_spec_LostAt_61).X ⊕ ((O_spec_LostAt_61).X ⊕ (Z_spec_LostAt_61).X)) :=
  bif (ltb v2 v4) then
    let r4 := n_spec_l6Word (v3, (v4, v5), v6, v7, v8, v9, v10, v11, v12, v13, v14, v15) v2 v0
    bif (!r4.2) then
      some (.inl (((v0, ()), ((), ()), ((IntKind.i64.wrap (v1 + 1)), ()), ((IntKind.i64.wrap (v2 + 1)), ()), ()), ((v3, v4, v5, v6, v7, v8, v9, v10, v11, v12, v13, v14, v15, ()), ()), ()))
    else
      some (.inl (((v0, ()), ((), ()), (v1, ()), ((IntKind.i64.wrap (v2 + 1)), ()), ()), ((v3, v4, v5, v6, v7, v8, v9, v10, v11, v12, v13, v14, v15, ()), ()), ()))
  else
    some (.inr (.inl (((v1, ()), ()), (), ())))
noncomputable def stx_spec_LostAt_61 (x : (L_spec_LostAt_61).X) := st_spec_LostAt_61 x.1.1.1 x.1.2.2.1.1 x.1.2.2.2.1.1 x.2.1.1.1 x.2.1.1.2.1 x.2.1.1.2.2.1 x.2.1.1.2.2.2.1 x.2.1.1.2.2.2.2.1 x.2.1.1.2.2.2.2.2.1 x.2.1.1.2.2.2.2.2.2.1 x.2.1.1.2.2.2.2.2.2.2.1 x.2.1.1.2.2.2.2.2.2.2.2.1 x.2.1.1.2.2.2.2.2.2.2.2.2.1 x.2.1.1.2.2.2.2.2.2.2.2.2.2.1 x.2.1.1.2.2.2.2.2.2.2.2.2.2.2.1 x.2.1.1.2.2.2.2.2.2.2.2.2.2.2.2.1
def em_spec_LostAt_61 (x : (S_spec_LostAt_61).X) : (L_spec_LostAt_61).X := (((x.1.1.1, ()), ((), ()), (0, ()), (0, ()), ()), ((x.2.1.1.1, x.2.1.1.2.1, x.2.1.1.2.2.1, x.2.1.1.2.2.2.1, x.2.1.1.2.2.2.2.1, x.2.1.1.2.2.2.2.2.1, x.2.1.1.2.2.2.2.2.2.1, x.2.1.1.2.2.2.2.2.2.2.1, x.2.1.1.2.2.2.2.2.2.2.2.1, x.2.1.1.2.2.2.2.2.2.2.2.2.1, x.2.1.1.2.2.2.2.2.2.2.2.2.2.1, x.2.1.1.2.2.2.2.2.2.2.2.2.2.2.1, x.2.1.1.2.2.2.2.2.2.2.2.2.2.2.2.1, ()), ()), ())
noncomputable def c_spec_LostAt_61 : Code := (subN B_spec_LostAt 64 244).getD .skip
theorem a_spec_LostAt_61 : subN B_spec_LostAt 64 61 = some (.block 0 (.loop c_spec_LostAt_61)) := by kernel_rfl
theorem r_spec_LostAt_61 (x : (L_spec_LostAt_61).X) : roundT ⟨E_spec_LostAt, 43, D_spec_LostAt_0⟩ 0 c_spec_LostAt_61 244 L_spec_LostAt_61 O_spec_LostAt_61 Z_spec_LostAt_61 x = stx_spec_LostAt_61 x := by kernel_rfl
noncomputable def fu_spec_LostAt_61 (x : (S_spec_LostAt_61).X) : Nat := (fun (u0 : Int) (u1 : Int) (u2 : Int) (u3 : Int) (u4 : List dM) (u5 : Int) (u6 : Int) (u7 : Int) (u8 : Int) (u9 : Int) (u10 : List dW) (u11 : Int) (u12 : Bool) (u13 : Bool) => 18446744073709551616) x.1.1.1 x.2.1.1.1 x.2.1.1.2.1 x.2.1.1.2.2.1 x.2.1.1.2.2.2.1 x.2.1.1.2.2.2.2.1 x.2.1.1.2.2.2.2.2.1 x.2.1.1.2.2.2.2.2.2.1 x.2.1.1.2.2.2.2.2.2.2.1 x.2.1.1.2.2.2.2.2.2.2.2.1 x.2.1.1.2.2.2.2.2.2.2.2.2.1 x.2.1.1.2.2.2.2.2.2.2.2.2.2.1 x.2.1.1.2.2.2.2.2.2.2.2.2.2.2.1 x.2.1.1.2.2.2.2.2.2.2.2.2.2.2.2.1
noncomputable def F_spec_LostAt_61 (x : (S_spec_LostAt_61).X) : Option ((O_spec_LostAt_61).X ⊕ (Z_spec_LostAt_61).X) := loopN stx_spec_LostAt_61 (fu_spec_LostAt_61 x) (em_spec_LostAt_61 x)
noncomputable def sg_spec_LostAt_61 : Seg := ⟨S_spec_LostAt_61, O_spec_LostAt_61, Z_spec_LostAt_61, F_spec_LostAt_61⟩
noncomputable def D_spec_LostAt_1 : Nat → Option Seg := fun q => bif Nat.beq q 61 then some sg_spec_LostAt_61 else D_spec_LostAt_0 q
theorem fr_spec_LostAt_1 : FrOk Try.prog ⟨E_spec_LostAt, 43, D_spec_LostAt_1⟩ B_spec_LostAt := (fr_spec_LostAt_0).loop (sg := sg_spec_LostAt_61) L_spec_LostAt_61 em_spec_LostAt_61 (by decide) a_spec_LostAt_61 stx_spec_LostAt_61 fu_spec_LostAt_61 (by decide) (fun _ => rfl) (fun x r _ h => h) r_spec_LostAt_61
abbrev I_spec_LostAt : List Par := [.rd tA, .rd tI]
abbrev U_spec_LostAt : List OT := [⟨false, tI, .fz⟩]
noncomputable def raw_spec_LostAt (a0 : dA) (a1 : Int) : Option (ResD U_spec_LostAt × MutD I_spec_LostAt) :=
  let r1 := n_spec_ArrOk a0
  bif (!(!r1)) then
    let r2 := n_spec_l1In a1 0 (IntKind.i64.wrap (a0.2.1.2 - 1))
    bif (!r2) then
      some ((a0.2.1.1, ()), ())
    else
      segM (F_spec_LostAt_61 (((a1, ()), ((), ()), ((), ()), ((), ()), ()), ((a0.1, a0.2.1.1, a0.2.1.2, a0.2.2.1, a0.2.2.2.1, a0.2.2.2.2.1, a0.2.2.2.2.2.1, a0.2.2.2.2.2.2.1, a0.2.2.2.2.2.2.2.1, a0.2.2.2.2.2.2.2.2.1, a0.2.2.2.2.2.2.2.2.2.1, a0.2.2.2.2.2.2.2.2.2.2.1, a0.2.2.2.2.2.2.2.2.2.2.2, ()), ()), ())) (fun y4 =>
        some ((y4.1.1.1, ()), ())) (fun y4 =>
        none)
  else
    some ((a0.2.1.1, ()), ())
theorem e_spec_LostAt (x : InD I_spec_LostAt) : execF ⟨E_spec_LostAt, 43, D_spec_LostAt_1⟩ Try.f45.results.toList B_spec_LostAt I_spec_LostAt U_spec_LostAt x = raw_spec_LostAt x.1 x.2.1 := by kernel_rfl
theorem ok0_spec_LostAt : ConOk Try.prog 45 ⟨I_spec_LostAt, U_spec_LostAt, fun x => raw_spec_LostAt x.1 x.2.1⟩ := conOk_exec (fr_spec_LostAt_1) Try.func45 (by kernel_rfl) (by kernel_rfl) Try.ntmps45.symm (by decide) (fun x r h => (e_spec_LostAt x).trans h)
noncomputable def n_spec_LostAt (a0 : dA) (a1 : Int) : Int := lostAt a0 a1
theorem nn_spec_LostAt (a0 : dA) (a1 : Int) (hk : InOk I_spec_LostAt (a0, a1, ())) : raw_spec_LostAt a0 a1 = (fun n => some ((n, ()), ())) (n_spec_LostAt a0 a1) := by
  unfold raw_spec_LostAt n_spec_LostAt lostAt n_spec_ArrOk
  cases ha : arrOk a0
  · rfl
  have hg := geo_iff.1 (arrOk_geo ha)
  have h1 : F_spec_LostAt_61 (ms_spec_LostAt_61 a1 a0) = some (.inl (mo_spec_LostAt_61 ((lacks (fun (i : Nat) => wordOk a0 i a1) a0.2.1.1.toNat : Nat) : Int))) :=
    loopN_up (step := stx_spec_LostAt_61) (fun i => mk_spec_LostAt_61 a1 ((lacks (fun (i : Nat) => wordOk a0 i a1) i : Nat) : Int) i a0) a0.2.1.1.toNat _ (fun i hi => by
      have := lacks_le (fun (i : Nat) => wordOk a0 i a1) i
      simp only [stx_spec_LostAt_61, mk_spec_LostAt_61, st_spec_LostAt_61, ltb_t (show (i : Int) < a0.2.1.1 by omega), cond_true, wr (show -9223372036854775808 ≤ (i : Int) + 1 by omega) (by omega), Int.natCast_add, Int.natCast_one, Int.toNat_natCast, pr_eta, n_spec_l6Word, lacks_succ, wr (show -9223372036854775808 ≤ ((lacks (fun (i : Nat) => wordOk a0 i a1) i : Nat) : Int) + 1 by omega) (by omega)]
      cases wordOk a0 i a1 <;> rfl) (by simp only [stx_spec_LostAt_61, mk_spec_LostAt_61, st_spec_LostAt_61, ltb_f (show a0.2.1.1 ≤ (a0.2.1.1.toNat : Int) by omega), cond_false]) _ (by show _ < 18446744073709551616; omega)
  rw [in_eq, wr (show -9223372036854775808 ≤ a0.2.1.2 - 1 by omega) (by omega), h1]
  cases (leb 0 a1 && leb a1 (a0.2.1.2 - 1)) <;> rfl
noncomputable def con_spec_LostAt : Con := ⟨I_spec_LostAt, U_spec_LostAt, fun x => (fun n => some ((n, ()), ())) (n_spec_LostAt x.1 x.2.1)⟩
theorem ok_spec_LostAt : ConOk Try.prog 45 con_spec_LostAt := (ok0_spec_LostAt).mono (fun x r hk h => (nn_spec_LostAt x.1 x.2.1 hk).trans h)
end

/-! impl_within -/
section
noncomputable def B_impl_within : Code := (Try.f125.body).getD .skip
noncomputable def E_impl_within : Env := envOf TT [] []
theorem fr_impl_within_0 : FrOk Try.prog ⟨E_impl_within, 15, fun _ => none⟩ B_impl_within := frOk_base mixed tt_ok trivial
noncomputable def D_impl_within_0 : Nat → Option Seg := fun _ => none
abbrev I_impl_within : List Par := [.rd tI, .rd tI, .rd tI]
abbrev U_impl_within : List OT := [⟨false, tB, .fz⟩]
noncomputable def raw_impl_within (a0 : Int) (a1 : Int) (a2 : Int) : Option (ResD U_impl_within × MutD I_impl_within) :=
  bif (leb a1 a0) then
    some (((leb a0 a2), ()), ())
  else
    some ((false, ()), ())
theorem e_impl_within (x : InD I_impl_within) : execF ⟨E_impl_within, 15, D_impl_within_0⟩ Try.f125.results.toList B_impl_within I_impl_within U_impl_within x = raw_impl_within x.1 x.2.1 x.2.2.1 := by kernel_rfl
theorem ok0_impl_within : ConOk Try.prog 125 ⟨I_impl_within, U_impl_within, fun x => raw_impl_within x.1 x.2.1 x.2.2.1⟩ := conOk_exec (fr_impl_within_0) Try.func125 (by kernel_rfl) (by kernel_rfl) Try.ntmps125.symm (by decide) (fun x r h => (e_impl_within x).trans h)
noncomputable def n_impl_within (a0 : Int) (a1 : Int) (a2 : Int) : Bool :=
  bif (leb a1 a0) then
    (leb a0 a2)
  else
    false
noncomputable def con_impl_within : Con := ⟨I_impl_within, U_impl_within, fun x => (fun n => some ((n, ()), ())) (n_impl_within x.1 x.2.1 x.2.2.1)⟩
theorem nn_impl_within (a0 : Int) (a1 : Int) (a2 : Int) : raw_impl_within a0 a1 a2 = (fun n => some ((n, ()), ())) (n_impl_within a0 a1 a2) := bif_ty (p := fun (n : Bool) => ((n, ()), ())) (bif_some (p := fun (n : Bool) => ((n, ()), ())) rfl rfl)
theorem ok_impl_within : ConOk Try.prog 125 con_impl_within := (ok0_impl_within).mono (fun x r _ h => (nn_impl_within x.1 x.2.1 x.2.2.1).trans h)
theorem impl_in_eq (a b c : Int) : n_impl_within a b c = n_spec_l1In a b c := by kernel_rfl
end

/-! impl_GeoOk -/
section
noncomputable def B_impl_GeoOk : Code := (Try.f121.body).getD .skip
noncomputable def E_impl_GeoOk : Env := envOf TT [(125, con_impl_within)] []
theorem fr_impl_GeoOk_0 : FrOk Try.prog ⟨E_impl_GeoOk, 11, fun _ => none⟩ B_impl_GeoOk := frOk_base mixed tt_ok ⟨ok_impl_within, trivial⟩
noncomputable def D_impl_GeoOk_0 : Nat → Option Seg := fun _ => none
abbrev I_impl_GeoOk : List Par := [.rd tG]
abbrev U_impl_GeoOk : List OT := [⟨false, tB, .fz⟩]
noncomputable def raw_impl_GeoOk (a0 : dG) : Option (ResD U_impl_GeoOk × MutD I_impl_GeoOk) :=
  let r1 := n_impl_within a0.1 3 5
  bif r1 then
    let r2 := n_impl_within a0.2 1 8
    some ((r2, ()), ())
  else
    some ((false, ()), ())
theorem e_impl_GeoOk (x : InD I_impl_GeoOk) : execF ⟨E_impl_GeoOk, 11, D_impl_GeoOk_0⟩ Try.f121.results.toList B_impl_GeoOk I_impl_GeoOk U_impl_GeoOk x = raw_impl_GeoOk x.1 := by kernel_rfl
theorem ok0_impl_GeoOk : ConOk Try.prog 121 ⟨I_impl_GeoOk, U_impl_GeoOk, fun x => raw_impl_GeoOk x.1⟩ := conOk_exec (fr_impl_GeoOk_0) Try.func121 (by kernel_rfl) (by kernel_rfl) Try.ntmps121.symm (by decide) (fun x r h => (e_impl_GeoOk x).trans h)
noncomputable def n_impl_GeoOk (a0 : dG) : Bool :=
  let r1 := n_impl_within a0.1 3 5
  bif r1 then
    let r2 := n_impl_within a0.2 1 8
    r2
  else
    false
noncomputable def con_impl_GeoOk : Con := ⟨I_impl_GeoOk, U_impl_GeoOk, fun x => (fun n => some ((n, ()), ())) (n_impl_GeoOk x.1)⟩
theorem nn_impl_GeoOk (a0 : dG) : raw_impl_GeoOk a0 = (fun n => some ((n, ()), ())) (n_impl_GeoOk a0) := bif_ty (p := fun (n : Bool) => ((n, ()), ())) (bif_some (p := fun (n : Bool) => ((n, ()), ())) rfl rfl)
theorem ok_impl_GeoOk : ConOk Try.prog 121 con_impl_GeoOk := (ok0_impl_GeoOk).mono (fun x r _ h => (nn_impl_GeoOk x.1).trans h)
theorem geo_eq (a : Int × Int) : n_impl_GeoOk a = n_spec_GeoOk a := by kernel_rfl
end

/-! impl_lostOk -/
section
noncomputable def B_impl_lostOk : Code := (Try.f126.body).getD .skip
noncomputable def E_impl_lostOk : Env := envOf TT [(125, con_impl_within)] []
theorem fr_impl_lostOk_0 : FrOk Try.prog ⟨E_impl_lostOk, 26, fun _ => none⟩ B_impl_lostOk := frOk_base mixed tt_ok ⟨ok_impl_within, trivial⟩
noncomputable def D_impl_lostOk_0 : Nat → Option Seg := fun _ => none
abbrev I_impl_lostOk : List Par := [.rd tG, .rd tI, .rd tI]
abbrev U_impl_lostOk : List OT := [⟨false, tB, .fz⟩]
noncomputable def raw_impl_lostOk (a0 : dG) (a1 : Int) (a2 : Int) : Option (ResD U_impl_lostOk × MutD I_impl_lostOk) :=
  let r1 := n_impl_within a1 (-1) (IntKind.i64.wrap (a0.1 - 1))
  bif r1 then
    let r2 := n_impl_within a2 0 a0.2
    bif r2 then
      bif (!(a2 == 0)) then
        some (((a1 != (-1)), ()), ())
      else
        some ((true, ()), ())
    else
      some ((false, ()), ())
  else
    some ((false, ()), ())
theorem e_impl_lostOk (x : InD I_impl_lostOk) : execF ⟨E_impl_lostOk, 26, D_impl_lostOk_0⟩ Try.f126.results.toList B_impl_lostOk I_impl_lostOk U_impl_lostOk x = raw_impl_lostOk x.1 x.2.1 x.2.2.1 := by kernel_rfl
theorem ok0_impl_lostOk : ConOk Try.prog 126 ⟨I_impl_lostOk, U_impl_lostOk, fun x => raw_impl_lostOk x.1 x.2.1 x.2.2.1⟩ := conOk_exec (fr_impl_lostOk_0) Try.func126 (by kernel_rfl) (by kernel_rfl) Try.ntmps126.symm (by decide) (fun x r h => (e_impl_lostOk x).trans h)
noncomputable def n_impl_lostOk (a0 : dG) (a1 : Int) (a2 : Int) : Bool :=
  let r1 := n_impl_within a1 (-1) (IntKind.i64.wrap (a0.1 - 1))
  bif r1 then
    let r2 := n_impl_within a2 0 a0.2
    bif r2 then
      bif (!(a2 == 0)) then
        (a1 != (-1))
      else
        true
    else
      false
  else
    false
noncomputable def con_impl_lostOk : Con := ⟨I_impl_lostOk, U_impl_lostOk, fun x => (fun n => some ((n, ()), ())) (n_impl_lostOk x.1 x.2.1 x.2.2.1)⟩
theorem nn_impl_lostOk (a0 : dG) (a1 : Int) (a2 : Int) : raw_impl_lostOk a0 a1 a2 = (fun n => some ((n, ()), ())) (n_impl_lostOk a0 a1 a2) := bif_ty (p := fun (n : Bool) => ((n, ()), ())) (bif_some (p := fun (n : Bool) => ((n, ()), ())) (bif_some (p := fun (n : Bool) => ((n, ()), ())) (bif_some (p := fun (n : Bool) => ((n, ()), ())) rfl rfl) rfl) rfl)
theorem ok_impl_lostOk : ConOk Try.prog 126 con_impl_lostOk := (ok0_impl_lostOk).mono (fun x r _ h => (nn_impl_lostOk x.1 x.2.1 x.2.2.1).trans h)
end
end Go.Tf
