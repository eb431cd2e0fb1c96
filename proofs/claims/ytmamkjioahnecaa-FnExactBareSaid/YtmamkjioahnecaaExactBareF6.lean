/- Functions of the program, and what they come to. -/
import Derived.Test.YtmamkjioahnecaaExactBareF5
namespace Go.Tf
open Go.Proofs
set_option synthInstance.maxHeartbeats 400000
set_option synthInstance.maxSize 10000
set_option linter.unusedVariables false
set_option linter.unusedSimpArgs false
set_option maxRecDepth 100000
/-! spec_ReadSec -/
section
noncomputable def B_spec_ReadSec : Code := (Try.f105.body).getD .skip
noncomputable def E_spec_ReadSec : Env := envOf TT [(82, con_spec_l1In), (133, con_spec_MemOk), (158, con_spec_l2Has)] []
theorem fr_spec_ReadSec_0 : FrOk Try.prog ⟨E_spec_ReadSec, 60, fun _ => none⟩ B_spec_ReadSec := frOk_base mixed tt_ok ⟨ok_spec_l1In, ok_spec_MemOk, ok_spec_l2Has, trivial⟩
noncomputable def D_spec_ReadSec_0 : Nat → Option Seg := fun _ => none
def L_spec_ReadSec_61 : Shape := ⟨[(1, false, [.int .i64]), (2, false, [.ptr 0 0]), (6, false, [.br tI]), (7, false, [.int .i64])], [(0, [.br tL, .br tW, .bool, .br tI])], []⟩
def S_spec_ReadSec_61 : Shape := ⟨[(1, false, [.int .i64]), (2, false, [.ptr 0 0]), (6, false, [.br tI]), (7, false, [.ci .i64 0])], [(0, [.br tL, .br tW, .bool, .br tI])], []⟩
def O_spec_ReadSec_61 : Shape := ⟨[(6, false, [.br tI])], [], []⟩
def Z_spec_ReadSec_61 : Shape := ⟨[], [], []⟩
abbrev mk_spec_ReadSec_61 (v0 : Int) (v1 : List Int) (v2 : Int) (v3 : dM) : (L_spec_ReadSec_61).X := (((v0, ()), ((), ()), (v1, ()), (v2, ()), ()), ((v3.1, v3.2.1, v3.2.2.1, v3.2.2.2, ()), ()), ())
abbrev ms_spec_ReadSec_61 (v0 : Int) (v1 : List Int) (v2 : dM) : (S_spec_ReadSec_61).X := (((v0, ()), ((), ()), (v1, ()), ((), ()), ()), ((v2.1, v2.2.1, v2.2.2.1, v2.2.2.2, ()), ()), ())
abbrev mo_spec_ReadSec_61 (v0 : List Int) : (O_spec_ReadSec_61).X := (((v0, ()), ()), (), ())
noncomputable def st_spec_ReadSec_61 (v0 : Int) (v1 : List Int) (v2 : Int) (v3 : List (List Int)) (v4 : List dW) (v5 : Bool) (v6 : List Int) : Option ((L_spec_ReadSec_61).X ⊕ ((O_spec_ReadSec_61).X ⊕ (Z_spec_ReadSec_61).X)) :=
  bif (ltb v2 (v4.length : Int)) then
    bif (inb v2 v4.length) then
      bif ((nth v4 v2 (0, [])).1 == v0) then
        bif (inb v2 v4.length) then
          some (.inl (((v0, ()), ((), ()), ((nth v4 v2 (0, [])).2, ()), ((IntKind.i64.wrap (v2 + 1)), ()), ()), ((v3, v4, v5, v6, ()), ()), ()))
        else none
      else
        some (.inl (((v0, ()), ((), ()), (v1, ()), ((IntKind.i64.wrap (v2 + 1)), ()), ()), ((v3, v4, v5, v6, ()), ()), ()))
    else none
  else
    some (.inr (.inl (((v1, ()), ()), (), ())))
noncomputable def stx_spec_ReadSec_61 (x : (L_spec_ReadSec_61).X) := st_spec_ReadSec_61 x.1.1.1 x.1.2.2.1.1 x.1.2.2.2.1.1 x.2.1.1.1 x.2.1.1.2.1 x.2.1.1.2.2.1 x.2.1.1.2.2.2.1
def em_spec_ReadSec_61 (x : (S_spec_ReadSec_61).X) : (L_spec_ReadSec_61).X := (((x.1.1.1, ()), ((), ()), (x.1.2.2.1.1, ()), (0, ()), ()), ((x.2.1.1.1, x.2.1.1.2.1, x.2.1.1.2.2.1, x.2.1.1.2.2.2.1, ()), ()), ())
noncomputable def c_spec_ReadSec_61 : Code := (subN B_spec_ReadSec 64 244).getD .skip
theorem a_spec_ReadSec_61 : subN B_spec_ReadSec 64 61 = some (.block 0 (.loop c_spec_ReadSec_61)) := by kernel_rfl
theorem r_spec_ReadSec_61 (x : (L_spec_ReadSec_61).X) : roundT ⟨E_spec_ReadSec, 60, D_spec_ReadSec_0⟩ 0 c_spec_ReadSec_61 244 L_spec_ReadSec_61 O_spec_ReadSec_61 Z_spec_ReadSec_61 x = stx_spec_ReadSec_61 x := by kernel_rfl
noncomputable def fu_spec_ReadSec_61 (x : (S_spec_ReadSec_61).X) : Nat := (fun (u0 : Int) (u1 : List Int) (u2 : List (List Int)) (u3 : List dW) (u4 : Bool) (u5 : List Int) => 18446744073709551616) x.1.1.1 x.1.2.2.1.1 x.2.1.1.1 x.2.1.1.2.1 x.2.1.1.2.2.1 x.2.1.1.2.2.2.1
noncomputable def F_spec_ReadSec_61 (x : (S_spec_ReadSec_61).X) : Option ((O_spec_ReadSec_61).X ⊕ (Z_spec_ReadSec_61).X) := loopN stx_spec_ReadSec_61 (fu_spec_ReadSec_61 x) (em_spec_ReadSec_61 x)
noncomputable def sg_spec_ReadSec_61 : Seg := ⟨S_spec_ReadSec_61, O_spec_ReadSec_61, Z_spec_ReadSec_61, F_spec_ReadSec_61⟩
noncomputable def D_spec_ReadSec_1 : Nat → Option Seg := fun q => bif Nat.beq q 61 then some sg_spec_ReadSec_61 else D_spec_ReadSec_0 q
theorem fr_spec_ReadSec_1 : FrOk Try.prog ⟨E_spec_ReadSec, 60, D_spec_ReadSec_1⟩ B_spec_ReadSec := (fr_spec_ReadSec_0).loop (sg := sg_spec_ReadSec_61) L_spec_ReadSec_61 em_spec_ReadSec_61 (by decide) a_spec_ReadSec_61 stx_spec_ReadSec_61 fu_spec_ReadSec_61 (by decide) (fun _ => rfl) (fun x r _ h => h) r_spec_ReadSec_61
abbrev I_spec_ReadSec : List Par := [.rd tM, .rd tI]
abbrev U_spec_ReadSec : List OT := [⟨false, tL, (.ow .fz)⟩, ⟨false, tB, .fz⟩]
noncomputable def raw_spec_ReadSec (a0 : dM) (a1 : Int) : Option (ResD U_spec_ReadSec × MutD I_spec_ReadSec) :=
  let r1 := n_spec_MemOk a0
  bif (!(!r1)) then
    bif (!a0.2.2.1) then
      let r2 := n_spec_l1In a1 0 (IntKind.i64.wrap ((a0.1.length : Int) - 1))
      bif (!(!r2)) then
        let r3 := n_spec_l2Has a0.2.2.2 a1
        bif r3 then
          some ((([] : List Int), false, ()), ())
        else
          bif (inb a1 a0.1.length) then
            segM (F_spec_ReadSec_61 (((a1, ()), ((), ()), ((nth a0.1 a1 []), ()), ((), ()), ()), ((a0.1, a0.2.1, a0.2.2.1, a0.2.2.2, ()), ()), ())) (fun y3 =>
              bif (apok ([] : List Int).length y3.1.1.1.length 8) then
                some (((([] : List Int) ++ y3.1.1.1), true, ()), ())
              else none) (fun y3 =>
              none)
          else none
      else
        some ((([] : List Int), false, ()), ())
    else
      some ((([] : List Int), false, ()), ())
  else
    some ((([] : List Int), false, ()), ())
theorem e_spec_ReadSec (x : InD I_spec_ReadSec) : execF ⟨E_spec_ReadSec, 60, D_spec_ReadSec_1⟩ Try.f105.results.toList B_spec_ReadSec I_spec_ReadSec U_spec_ReadSec x = raw_spec_ReadSec x.1 x.2.1 := by kernel_rfl
theorem ok0_spec_ReadSec : ConOk Try.prog 105 ⟨I_spec_ReadSec, U_spec_ReadSec, fun x => raw_spec_ReadSec x.1 x.2.1⟩ := conOk_exec (fr_spec_ReadSec_1) Try.func105 (by kernel_rfl) (by kernel_rfl) Try.ntmps105.symm (by decide) (fun x r h => (e_spec_ReadSec x).trans h)
noncomputable def n_spec_ReadSec (a0 : dM) (a1 : Int) : List Int × Bool := readSec a0 a1
theorem nn_spec_ReadSec (a0 : dM) (a1 : Int) (hk : InOk I_spec_ReadSec (a0, a1, ())) : raw_spec_ReadSec a0 a1 = (fun n => some ((n.1, n.2, ()), ())) (n_spec_ReadSec a0 a1) := by
  have hb1 : a0.1.length * 24 ≤ 2 ^ 47 := hk.1.1.1
  have hb2 : a0.2.1.length * 32 ≤ 2 ^ 47 := hk.1.2.1.1
  have h1 : ∀ s, F_spec_ReadSec_61 (ms_spec_ReadSec_61 a1 s a0) = some (.inl (mo_spec_ReadSec_61 (newest a1 a0.2.1 s))) := fun s =>
    loopN_fold (step := stx_spec_ReadSec_61) a0.2.1 (0, []) (fun i s => mk_spec_ReadSec_61 a1 s i a0) (fun s w => bif w.1 == a1 then w.2 else s) (fun _ _ => True) (fun s => .inl (mo_spec_ReadSec_61 s)) (fun i s hi _ => ⟨by
      simp only [stx_spec_ReadSec_61, mk_spec_ReadSec_61, st_spec_ReadSec_61, ltb_t (show (i : Int) < a0.2.1.length by omega), cond_true, wr (show -9223372036854775808 ≤ (i : Int) + 1 by omega) (by omega), Int.natCast_add, Int.natCast_one, Int.toNat_natCast, inb_nat hi, nth_nat]
      cases ((a0.2.1.getD i (0, [])).1 == a1) <;> rfl, trivial⟩) (fun s _ => by simp only [stx_spec_ReadSec_61, mk_spec_ReadSec_61, st_spec_ReadSec_61, ltb_f (Int.le_refl _), cond_false]) s trivial _ (by show _ < 18446744073709551616; omega)
  unfold raw_spec_ReadSec n_spec_ReadSec readSec canRead
  rw [in_len (show a0.1.length ≤ 1152921504606846976 by omega)]
  unfold n_spec_MemOk n_spec_l2Has
  simp only [h1, segM_inl, List.nil_append]
  cases memOk a0
  · rfl
  cases a0.2.2.1
  · cases hi : inb a1 a0.1.length
    · rfl
    · cases a0.2.2.2.any (· == a1)
      · have hs : (newest a1 a0.2.1 (nth a0.1 a1 [])).length * 8 ≤ 2 ^ 47 :=
          newest_ind (P := fun s => s.length * 8 ≤ 2 ^ 47) (nth_mem (P := fun s : List Int => s.length * 8 ≤ 2 ^ 47) hi fun x hx => (hk.1.1.2 x hx).1) fun w hw => (hk.1.2.1.2 w hw).2.1
        simp only [Bool.not_true, Bool.not_false, cond_true, cond_false, Bool.true_and, show apok ([] : List Int).length (newest a1 a0.2.1 (nth a0.1 a1 [])).length 8 = true from apok_iff.2 (by rw [List.length_nil]; omega)]
      · rfl
  · rfl
noncomputable def con_spec_ReadSec : Con := ⟨I_spec_ReadSec, U_spec_ReadSec, fun x => (fun n => some ((n.1, n.2, ()), ())) (n_spec_ReadSec x.1 x.2.1)⟩
theorem ok_spec_ReadSec : ConOk Try.prog 105 con_spec_ReadSec := (ok0_spec_ReadSec).mono (fun x r hk h => (nn_spec_ReadSec x.1 x.2.1 hk).trans h)
end

/-! spec_LiveAt -/
section
noncomputable def B_spec_LiveAt : Code := (Try.f146.body).getD .skip
noncomputable def E_spec_LiveAt : Env := envOf TT [(82, con_spec_l1In)] []
theorem fr_spec_LiveAt_0 : FrOk Try.prog ⟨E_spec_LiveAt, 34, fun _ => none⟩ B_spec_LiveAt := frOk_base mixed tt_ok ⟨ok_spec_l1In, trivial⟩
noncomputable def D_spec_LiveAt_0 : Nat → Option Seg := fun _ => none
abbrev I_spec_LiveAt : List Par := [.rd tA, .rd tI, .rd tI]
abbrev U_spec_LiveAt : List OT := [⟨false, tB, .fz⟩]
noncomputable def raw_spec_LiveAt (a0 : dA) (a1 : Int) (a2 : Int) : Option (ResD U_spec_LiveAt × MutD I_spec_LiveAt) :=
  let r1 := n_spec_l1In a1 0 (IntKind.i64.wrap ((a0.2.2.1.length : Int) - 1))
  bif r1 then
    bif (inb a1 a0.2.2.1.length) then
      bif (!((((nth a0.2.2.1 a1 ([], [], false, [])).2).2).1)) then
        bif (!(a1 != a0.2.2.2.1)) then
          some (((ltb a2 a0.2.2.2.2.1), ()), ())
        else
          some ((true, ()), ())
      else
        some ((false, ()), ())
    else none
  else
    some ((false, ()), ())
theorem e_spec_LiveAt (x : InD I_spec_LiveAt) : execF ⟨E_spec_LiveAt, 34, D_spec_LiveAt_0⟩ Try.f146.results.toList B_spec_LiveAt I_spec_LiveAt U_spec_LiveAt x = raw_spec_LiveAt x.1 x.2.1 x.2.2.1 := by kernel_rfl
theorem ok0_spec_LiveAt : ConOk Try.prog 146 ⟨I_spec_LiveAt, U_spec_LiveAt, fun x => raw_spec_LiveAt x.1 x.2.1 x.2.2.1⟩ := conOk_exec (fr_spec_LiveAt_0) Try.func146 (by kernel_rfl) (by kernel_rfl) Try.ntmps146.symm (by decide) (fun x r h => (e_spec_LiveAt x).trans h)
noncomputable def n_spec_LiveAt (a0 : dA) (a1 a2 : Int) : Bool := liveAt a0 a1 a2
theorem nn_spec_LiveAt (a0 : dA) (a1 a2 : Int) (hk : InOk I_spec_LiveAt (a0, a1, a2, ())) : raw_spec_LiveAt a0 a1 a2 = (fun n => some ((n, ()), ())) (n_spec_LiveAt a0 a1 a2) := by
  have hb : a0.2.2.1.length * 80 ≤ 2 ^ 47 := hk.1.2.2.1.1
  unfold raw_spec_LiveAt n_spec_LiveAt liveAt noMem
  rw [in_len (show a0.2.2.1.length ≤ 1152921504606846976 by omega)]
  cases inb a1 a0.2.2.1.length
  · rfl
  · cases (nth a0.2.2.1 a1 ([], [], false, [])).2.2.1 <;> cases (a1 != a0.2.2.2.1) <;> rfl
noncomputable def con_spec_LiveAt : Con := ⟨I_spec_LiveAt, U_spec_LiveAt, fun x => (fun n => some ((n, ()), ())) (n_spec_LiveAt x.1 x.2.1 x.2.2.1)⟩
theorem ok_spec_LiveAt : ConOk Try.prog 146 con_spec_LiveAt := (ok0_spec_LiveAt).mono (fun x r hk h => (nn_spec_LiveAt x.1 x.2.1 x.2.2.1 hk).trans h)
end

/-! spec_l6Word -/
section
noncomputable def B_spec_l6Word : Code := (Try.f90.body).getD .skip
noncomputable def E_spec_l6Word : Env := envOf TT [(83, con_spec_DataAt), (105, con_spec_ReadSec), (146, con_spec_LiveAt)] []
theorem fr_spec_l6Word_0 : FrOk Try.prog ⟨E_spec_l6Word, 36, fun _ => none⟩ B_spec_l6Word := frOk_base mixed tt_ok ⟨ok_spec_DataAt, ok_spec_ReadSec, ok_spec_LiveAt, trivial⟩
noncomputable def D_spec_l6Word_0 : Nat → Option Seg := fun _ => none
abbrev I_spec_l6Word : List Par := [.rd tA, .rd tI, .rd tI]
abbrev U_spec_l6Word : List OT := [⟨false, tI, .fz⟩, ⟨false, tB, .fz⟩]
noncomputable def raw_spec_l6Word (a0 : dA) (a1 : Int) (a2 : Int) : Option (ResD U_spec_l6Word × MutD I_spec_l6Word) :=
  let r1 := n_spec_LiveAt a0 a1 a2
  bif (!r1) then
    some ((0, false, ()), ())
  else
    bif (inb a1 a0.2.2.1.length) then
      let r2 := n_spec_DataAt a2
      let r3 := n_spec_ReadSec ((nth a0.2.2.1 a1 ([], [], false, [])).1, ((nth a0.2.2.1 a1 ([], [], false, [])).2).1, (((nth a0.2.2.1 a1 ([], [], false, [])).2).2)) r2
      bif (!(!r3.2)) then
        bif ((r3.1.length : Int) != 1) then
          some ((0, false, ()), ())
        else
          bif (inb 0 r3.1.length) then
            some (((nth r3.1 0 0), true, ()), ())
          else none
      else
        some ((0, false, ()), ())
    else none
theorem e_spec_l6Word (x : InD I_spec_l6Word) : execF ⟨E_spec_l6Word, 36, D_spec_l6Word_0⟩ Try.f90.results.toList B_spec_l6Word I_spec_l6Word U_spec_l6Word x = raw_spec_l6Word x.1 x.2.1 x.2.2.1 := by kernel_rfl
theorem ok0_spec_l6Word : ConOk Try.prog 90 ⟨I_spec_l6Word, U_spec_l6Word, fun x => raw_spec_l6Word x.1 x.2.1 x.2.2.1⟩ := conOk_exec (fr_spec_l6Word_0) Try.func90 (by kernel_rfl) (by kernel_rfl) Try.ntmps90.symm (by decide) (fun x r h => (e_spec_l6Word x).trans h)
noncomputable def n_spec_l6Word (a0 : dA) (a1 a2 : Int) : Int × Bool := (word a0 a1 a2, wordOk a0 a1 a2)
theorem nn_spec_l6Word (a0 : dA) (a1 a2 : Int) (hk : InOk I_spec_l6Word (a0, a1, a2, ())) : raw_spec_l6Word a0 a1 a2 = (fun n => some ((n.1, n.2, ()), ())) (n_spec_l6Word a0 a1 a2) := by
  unfold raw_spec_l6Word n_spec_l6Word word n_spec_LiveAt
  simp only [pr_eta, spec_dataAt_eq, n_spec_ReadSec]
  rw [show wordOk a0 a1 a2 = (liveAt a0 a1 a2 && ((wordSec a0 a1 a2).2 && ((wordSec a0 a1 a2).1.length : Int) == 1)) from rfl]
  rw [show readSec (nth a0.2.2.1 a1 ([], [], false, [])) (dataAt a2) = wordSec a0 a1 a2 from rfl]
  cases hl : liveAt a0 a1 a2
  · rfl
  · rw [show inb a1 a0.2.2.1.length = true by unfold liveAt at hl; exact (Bool.and_eq_true_iff.1 hl).1]
    cases (wordSec a0 a1 a2).2
    · rfl
    · rw [bne]
      cases h1 : (((wordSec a0 a1 a2).1.length : Int) == 1)
      · rfl
      · rw [show inb 0 (wordSec a0 a1 a2).1.length = true from inb_iff.2 (by have := beq_iff_eq.1 h1; omega)]; rfl
noncomputable def con_spec_l6Word : Con := ⟨I_spec_l6Word, U_spec_l6Word, fun x => (fun n => some ((n.1, n.2, ()), ())) (n_spec_l6Word x.1 x.2.1 x.2.2.1)⟩
theorem ok_spec_l6Word : ConOk Try.prog 90 con_spec_l6Word := (ok0_spec_l6Word).mono (fun x r hk h => (nn_spec_l6Word x.1 x.2.1 x.2.2.1 hk).trans h)
end

/-! spec_XorAt -/
section
noncomputable def B_spec_XorAt : Code := (Try.f30.body).getD .skip
noncomputable def E_spec_XorAt : Env := envOf TT [(90, con_spec_l6Word)] []
theorem fr_spec_XorAt_0 : FrOk Try.prog ⟨E_spec_XorAt, 30, fun _ => none⟩ B_spec_XorAt := frOk_base mixed tt_ok ⟨ok_spec_l6Word, trivial⟩
noncomputable def D_spec_XorAt_0 : Nat → Option Seg := fun _ => none
def L_spec_XorAt_29 : Shape := ⟨[(1, false, [.int .i64]), (2, false, [.ptr 0 0]), (6, false, [.int .i64]), (7, false, [.int .i64])], [(0, [.int .i64, .int .i64, .int .i64, .br tM, .int .i64, .int .i64, .int .i64, .int .i64, .int .i64, .br tW, .int .i64, .bool, .bool])], []⟩
def S_spec_XorAt_29 : Shape := ⟨[(1, false, [.int .i64]), (2, false, [.ptr 0 0]), (6, false, [.ci .i64 0]), (7, false, [.ci .i64 0])], [(0, [.int .i64, .int .i64, .int .i64, .br tM, .int .i64, .int .i64, .int .i64, .int .i64, .int .i64, .br tW, .int .i64, .bool, .bool])], []⟩
def O_spec_XorAt_29 : Shape := ⟨[(6, false, [.int .i64])], [], []⟩
def Z_spec_XorAt_29 : Shape := ⟨[(4, false, [.int .i64]), (5, false, [.bool])], [], []⟩
abbrev mk_spec_XorAt_29 (v0 : Int) (v1 : Int) (v2 : Int) (v3 : dA) : (L_spec_XorAt_29).X := (((v0, ()), ((), ()), (v1, ()), (v2, ()), ()), ((v3.1, v3.2.1.1, v3.2.1.2, v3.2.2.1, v3.2.2.2.1, v3.2.2.2.2.1, v3.2.2.2.2.2.1, v3.2.2.2.2.2.2.1, v3.2.2.2.2.2.2.2.1, v3.2.2.2.2.2.2.2.2.1, v3.2.2.2.2.2.2.2.2.2.1, v3.2.2.2.2.2.2.2.2.2.2.1, v3.2.2.2.2.2.2.2.2.2.2.2, ()), ()), ())
abbrev ms_spec_XorAt_29 (v0 : Int) (v1 : dA) : (S_spec_XorAt_29).X := (((v0, ()), ((), ()), ((), ()), ((), ()), ()), ((v1.1, v1.2.1.1, v1.2.1.2, v1.2.2.1, v1.2.2.2.1, v1.2.2.2.2.1, v1.2.2.2.2.2.1, v1.2.2.2.2.2.2.1, v1.2.2.2.2.2.2.2.1, v1.2.2.2.2.2.2.2.2.1, v1.2.2.2.2.2.2.2.2.2.1, v1.2.2.2.2.2.2.2.2.2.2.1, v1.2.2.2.2.2.2.2.2.2.2.2, ()), ()), ())
abbrev mo_spec_XorAt_29 (v0 : Int) : (O_spec_XorAt_29).X := (((v0, ()), ()), (), ())
abbrev mz_spec_XorAt_29 (v0 : Int) (v1 : Bool) : (Z_spec_XorAt_29).X := (((v0, ()), (v1, ()), ()), (), ())
noncomputable def st_spec_XorAt_29 (v0 : Int) (v1 : Int) (v2 : Int) (v3 : Int) (v4 : Int) (v5 : Int) (v6 : List dM) (v7 : Int) (v8 : Int) (v9 : Int) (v10 : Int) (v11 : Int) (v12 : List dW) (v13 : Int) (v14 : Bool) (v15 : Bool) : Option ((L_spec_XorAt_29).X ⊕ ((O_spec_XorAt_29).X ⊕ (Z_spec_XorAt_29).X)) :=
  bif (ltb v2 (v6.length : Int)) then
    let r2 := n_spec_l6Word (v3, (v4, v5), v6, v7, v8, v9, v10, v11, v12, v13, v14, v15) v2 v0
    bif (!r2.2) then
      some (.inr (.inr (((0, ()), (false, ()), ()), (), ())))
    else
      some (.inl (((v0, ()), ((), ()), ((IntKind.i64.wrap ((BitVec.ofInt IntKind.i64.bits v1 ^^^ BitVec.ofInt IntKind.i64.bits r2.1).toNat : Int)), ()), ((IntKind.i64.wrap (v2 + 1)), ()), ()), ((v3, v4, v5, v6, v7, v8, v9, v10, v11, v12, v13, v14, v15, ()), ()), ()))
  else
    some (.inr (.inl (((v1, ()), ()), (), ())))
noncomputable def stx_spec_XorAt_29 (x : (L_spec_XorAt_29).X) := st_spec_XorAt_29 x.1.1.1 x.1.2.2.1.1 x.1.2.2.2.1.1 x.2.1.1.1 x.2.1.1.2.1 x.2.1.1.2.2.1 x.2.1.1.2.2.2.1 x.2.1.1.2.2.2.2.1 x.2.1.1.2.2.2.2.2.1 x.2.1.1.2.2.2.2.2.2.1 x.2.1.1.2.2.2.2.2.2.2.1 x.2.1.1.2.2.2.2.2.2.2.2.1 x.2.1.1.2.2.2.2.2.2.2.2.2.1 x.2.1.1.2.2.2.2.2.2.2.2.2.2.1 x.2.1.1.2.2.2.2.2.2.2.2.2.2.2.1 x.2.1.1.2.2.2.2.2.2.2.2.2.2.2.2.1
def em_spec_XorAt_29 (x : (S_spec_XorAt_29).X) : (L_spec_XorAt_29).X := (((x.1.1.1, ()), ((), ()), (0, ()), (0, ()), ()), ((x.2.1.1.1, x.2.1.1.2.1, x.2.1.1.2.2.1, x.2.1.1.2.2.2.1, x.2.1.1.2.2.2.2.1, x.2.1.1.2.2.2.2.2.1, x.2.1.1.2.2.2.2.2.2.1, x.2.1.1.2.2.2.2.2.2.2.1, x.2.1.1.2.2.2.2.2.2.2.2.1, x.2.1.1.2.2.2.2.2.2.2.2.2.1, x.2.1.1.2.2.2.2.2.2.2.2.2.2.1, x.2.1.1.2.2.2.2.2.2.2.2.2.2.2.1, x.2.1.1.2.2.2.2.2.2.2.2.2.2.2.2.1, ()), ()), ())
noncomputable def c_spec_XorAt_29 : Code := (subN B_spec_XorAt 64 116).getD .skip
theorem a_spec_XorAt_29 : subN B_spec_XorAt 64 29 = some (.block 0 (.loop c_spec_XorAt_29)) := by kernel_rfl
theorem r_spec_XorAt_29 (x : (L_spec_XorAt_29).X) : roundT ⟨E_spec_XorAt, 30, D_spec_XorAt_0⟩ 0 c_spec_XorAt_29 116 L_spec_XorAt_29 O_spec_XorAt_29 Z_spec_XorAt_29 x = stx_spec_XorAt_29 x := by kernel_rfl
noncomputable def fu_spec_XorAt_29 (x : (S_spec_XorAt_29).X) : Nat := (fun (u0 : Int) (u1 : Int) (u2 : Int) (u3 : Int) (u4 : List dM) (u5 : Int) (u6 : Int) (u7 : Int) (u8 : Int) (u9 : Int) (u10 : List dW) (u11 : Int) (u12 : Bool) (u13 : Bool) => 18446744073709551616) x.1.1.1 x.2.1.1.1 x.2.1.1.2.1 x.2.1.1.2.2.1 x.2.1.1.2.2.2.1 x.2.1.1.2.2.2.2.1 x.2.1.1.2.2.2.2.2.1 x.2.1.1.2.2.2.2.2.2.1 x.2.1.1.2.2.2.2.2.2.2.1 x.2.1.1.2.2.2.2.2.2.2.2.1 x.2.1.1.2.2.2.2.2.2.2.2.2.1 x.2.1.1.2.2.2.2.2.2.2.2.2.2.1 x.2.1.1.2.2.2.2.2.2.2.2.2.2.2.1 x.2.1.1.2.2.2.2.2.2.2.2.2.2.2.2.1
noncomputable def F_spec_XorAt_29 (x : (S_spec_XorAt_29).X) : Option ((O_spec_XorAt_29).X ⊕ (Z_spec_XorAt_29).X) := loopN stx_spec_XorAt_29 (fu_spec_XorAt_29 x) (em_spec_XorAt_29 x)
noncomputable def sg_spec_XorAt_29 : Seg := ⟨S_spec_XorAt_29, O_spec_XorAt_29, Z_spec_XorAt_29, F_spec_XorAt_29⟩
noncomputable def D_spec_XorAt_1 : Nat → Option Seg := fun q => bif Nat.beq q 29 then some sg_spec_XorAt_29 else D_spec_XorAt_0 q
theorem fr_spec_XorAt_1 : FrOk Try.prog ⟨E_spec_XorAt, 30, D_spec_XorAt_1⟩ B_spec_XorAt := (fr_spec_XorAt_0).loop (sg := sg_spec_XorAt_29) L_spec_XorAt_29 em_spec_XorAt_29 (by decide) a_spec_XorAt_29 stx_spec_XorAt_29 fu_spec_XorAt_29 (by decide) (fun _ => rfl) (fun x r _ h => h) r_spec_XorAt_29
abbrev I_spec_XorAt : List Par := [.rd tA, .rd tI]
abbrev U_spec_XorAt : List OT := [⟨false, tI, .fz⟩, ⟨false, tB, .fz⟩]
noncomputable def raw_spec_XorAt (a0 : dA) (a1 : Int) : Option (ResD U_spec_XorAt × MutD I_spec_XorAt) :=
  segM (F_spec_XorAt_29 (((a1, ()), ((), ()), ((), ()), ((), ()), ()), ((a0.1, a0.2.1.1, a0.2.1.2, a0.2.2.1, a0.2.2.2.1, a0.2.2.2.2.1, a0.2.2.2.2.2.1, a0.2.2.2.2.2.2.1, a0.2.2.2.2.2.2.2.1, a0.2.2.2.2.2.2.2.2.1, a0.2.2.2.2.2.2.2.2.2.1, a0.2.2.2.2.2.2.2.2.2.2.1, a0.2.2.2.2.2.2.2.2.2.2.2, ()), ()), ())) (fun y2 =>
    some ((y2.1.1.1, true, ()), ())) (fun y2 =>
    some ((y2.1.1.1, y2.1.2.1.1, ()), ()))
theorem e_spec_XorAt (x : InD I_spec_XorAt) : execF ⟨E_spec_XorAt, 30, D_spec_XorAt_1⟩ Try.f30.results.toList B_spec_XorAt I_spec_XorAt U_spec_XorAt x = raw_spec_XorAt x.1 x.2.1 := by kernel_rfl
theorem ok0_spec_XorAt : ConOk Try.prog 30 ⟨I_spec_XorAt, U_spec_XorAt, fun x => raw_spec_XorAt x.1 x.2.1⟩ := conOk_exec (fr_spec_XorAt_1) Try.func30 (by kernel_rfl) (by kernel_rfl) Try.ntmps30.symm (by decide) (fun x r h => (e_spec_XorAt x).trans h)
noncomputable def n_spec_XorAt (a0 : dA) (a1 : Int) : Int × Bool := xorAt a0 a1
theorem nn_spec_XorAt (a0 : dA) (a1 : Int) (hk : InOk I_spec_XorAt (a0, a1, ())) : raw_spec_XorAt a0 a1 = (fun n => some ((n.1, n.2, ()), ())) (n_spec_XorAt a0 a1) := by
  have hb : a0.2.2.1.length * 80 ≤ 2 ^ 47 := hk.1.2.2.1.1
  have h1 : F_spec_XorAt_29 (ms_spec_XorAt_29 a1 a0) = some (bif allWords a0 a1 then .inl (mo_spec_XorAt_29 ((List.range a0.2.2.1.length).foldl (fun n (i : Nat) => xw n (word a0 i a1)) 0)) else .inr (mz_spec_XorAt_29 0 false)) :=
    loopN_foldE (step := stx_spec_XorAt_29) a0.2.2.1.length (fun i s => mk_spec_XorAt_29 a1 s i a0) (fun (i : Nat) => wordOk a0 i a1) (fun n (i : Nat) => xw n (word a0 i a1)) (fun _ _ => True) (fun s => .inl (mo_spec_XorAt_29 s)) _ (fun i s hi _ => ⟨by
      simp only [stx_spec_XorAt_29, mk_spec_XorAt_29, st_spec_XorAt_29, ltb_t (show (i : Int) < a0.2.2.1.length by omega), cond_true, wr (show -9223372036854775808 ≤ (i : Int) + 1 by omega) (by omega), Int.natCast_add, Int.natCast_one, Int.toNat_natCast, pr_eta, n_spec_l6Word]
      cases wordOk a0 i a1 <;> rfl, fun _ => trivial⟩) (fun s _ => by simp only [stx_spec_XorAt_29, mk_spec_XorAt_29, st_spec_XorAt_29, ltb_f (Int.le_refl _), cond_false]) 0 trivial _ (by show _ < 18446744073709551616; omega)
  unfold raw_spec_XorAt n_spec_XorAt xorAt xorOf
  rw [h1, List.foldl_map]
  cases allWords a0 a1 <;> rfl
noncomputable def con_spec_XorAt : Con := ⟨I_spec_XorAt, U_spec_XorAt, fun x => (fun n => some ((n.1, n.2, ()), ())) (n_spec_XorAt x.1 x.2.1)⟩
theorem ok_spec_XorAt : ConOk Try.prog 30 con_spec_XorAt := (ok0_spec_XorAt).mono (fun x r hk h => (nn_spec_XorAt x.1 x.2.1 hk).trans h)
end

/-! spec_GeoOk -/
section
noncomputable def B_spec_GeoOk : Code := (Try.f140.body).getD .skip
noncomputable def E_spec_GeoOk : Env := envOf TT [(82, con_spec_l1In)] []
theorem fr_spec_GeoOk_0 : FrOk Try.prog ⟨E_spec_GeoOk, 11, fun _ => none⟩ B_spec_GeoOk := frOk_base mixed tt_ok ⟨ok_spec_l1In, trivial⟩
noncomputable def D_spec_GeoOk_0 : Nat → Option Seg := fun _ => none
abbrev I_spec_GeoOk : List Par := [.rd tG]
abbrev U_spec_GeoOk : List OT := [⟨false, tB, .fz⟩]
noncomputable def raw_spec_GeoOk (a0 : dG) : Option (ResD U_spec_GeoOk × MutD I_spec_GeoOk) :=
  let r1 := n_spec_l1In a0.1 3 5
  bif r1 then
    let r2 := n_spec_l1In a0.2 1 8
    some ((r2, ()), ())
  else
    some ((false, ()), ())
theorem e_spec_GeoOk (x : InD I_spec_GeoOk) : execF ⟨E_spec_GeoOk, 11, D_spec_GeoOk_0⟩ Try.f140.results.toList B_spec_GeoOk I_spec_GeoOk U_spec_GeoOk x = raw_spec_GeoOk x.1 := by kernel_rfl
theorem ok0_spec_GeoOk : ConOk Try.prog 140 ⟨I_spec_GeoOk, U_spec_GeoOk, fun x => raw_spec_GeoOk x.1⟩ := conOk_exec (fr_spec_GeoOk_0) Try.func140 (by kernel_rfl) (by kernel_rfl) Try.ntmps140.symm (by decide) (fun x r h => (e_spec_GeoOk x).trans h)
noncomputable def n_spec_GeoOk (a0 : dG) : Bool :=
  let r1 := n_spec_l1In a0.1 3 5
  bif r1 then
    let r2 := n_spec_l1In a0.2 1 8
    r2
  else
    false
noncomputable def con_spec_GeoOk : Con := ⟨I_spec_GeoOk, U_spec_GeoOk, fun x => (fun n => some ((n, ()), ())) (n_spec_GeoOk x.1)⟩
theorem nn_spec_GeoOk (a0 : dG) : raw_spec_GeoOk a0 = (fun n => some ((n, ()), ())) (n_spec_GeoOk a0) := bif_ty (p := fun (n : Bool) => ((n, ()), ())) (bif_some (p := fun (n : Bool) => ((n, ()), ())) rfl rfl)
theorem ok_spec_GeoOk : ConOk Try.prog 140 con_spec_GeoOk := (ok0_spec_GeoOk).mono (fun x r _ h => (nn_spec_GeoOk x.1).trans h)
theorem geo_iff {a : Int × Int} : n_spec_GeoOk a = true ↔ (3 ≤ a.1 ∧ a.1 ≤ 5) ∧ 1 ≤ a.2 ∧ a.2 ≤ 8 := by
  unfold n_spec_GeoOk
  cases h : n_spec_l1In a.1 3 5
  · have : ¬ (3 ≤ a.1 ∧ a.1 ≤ 5) := fun e => by rw [in_iff.2 e] at h; simp at h
    simp [this]
  · simp only [cond_true, in_iff]
    exact ⟨fun e => ⟨in_iff.1 h, e⟩, fun e => e.2⟩
def memBad (a : dA) (i : Nat) : Bool := !(memOk (nth a.2.2.1 i noMem)) || ((((nth a.2.2.1 i noMem).1.length : Int) != 6 + a.2.1.2) || ((nth a.2.2.1 i noMem).2.2.1 && (((i : Int) != a.2.2.2.1) && !a.2.2.2.2.2.2.2.2.2.2.2)))
def memsOk (a : dA) : Bool := !((List.range a.2.2.1.length).any (memBad a)) && (a.2.2.1.length : Int) == a.2.1.1
def dirtBad (g : dG) (l : List dW) (i : Nat) : Bool := !(leb 0 (nth l i (0, [])).1 && leb (nth l i (0, [])).1 (g.2 - 1)) || (((nth l i (0, [])).2.length : Int) != g.1 - 1 || (!((nth l i (0, [])).2.all isW) || (decide (0 < i) && leb (nth l i (0, [])).1 (nth l ((i - 1 : Nat) : Int) (0, [])).1)))
def dirtyOk (g : dG) (l : List dW) : Bool := !((List.range l.length).any (dirtBad g l))
/-- an array that is right -/
noncomputable def arrOk (a : dA) : Bool :=
  n_spec_GeoOk a.2.1 && ((leb 1 a.1 && leb a.1 60000) && (memsOk a && (dirtyOk a.2.1 a.2.2.2.2.2.2.2.2.1 && ((leb (-1) a.2.2.2.1 && leb a.2.2.2.1 (a.2.1.1 - 1)) && ((leb 0 a.2.2.2.2.1 && leb a.2.2.2.2.1 a.2.1.2) && (!(a.2.2.2.1 == -1 && a.2.2.2.2.1 != 0) &&
  ((leb 0 a.2.2.2.2.2.2.1 && leb a.2.2.2.2.2.2.1 60000) && ((leb a.2.2.2.2.2.2.1 a.2.2.2.2.2.1 && leb a.2.2.2.2.2.1 60000) && (leb a.2.2.2.2.2.1 (a.2.2.2.2.2.2.1 + 4) && ((leb 0 a.2.2.2.2.2.2.2.1 && leb a.2.2.2.2.2.2.2.1 60000) && (leb (-1) a.2.2.2.2.2.2.2.2.2.1 && leb a.2.2.2.2.2.2.2.2.2.1 1000)))))))))))
theorem arrOk_geo {a : dA} (h : arrOk a = true) : n_spec_GeoOk a.2.1 = true := (Bool.and_eq_true_iff.1 h).1
theorem geo_f {a : Int × Int} (h : ¬ n_spec_GeoOk a = true) : n_spec_GeoOk a = false := by cases e : n_spec_GeoOk a <;> simp_all
theorem arrOk_mems {a : dA} (h : arrOk a = true) : memsOk a = true := by simp only [arrOk, Bool.and_eq_true] at h; exact h.2.2.1
theorem arrOk_len {a : dA} (h : arrOk a = true) : (a.2.2.1.length : Int) = a.2.1.1 := by have := arrOk_mems h; simp only [memsOk, Bool.and_eq_true, beq_iff_eq] at this; exact this.2
theorem memsOk_at {a : dA} (h : memsOk a = true) {i : Nat} (hi : i < a.2.2.1.length) : memOk (nth a.2.2.1 i noMem) = true ∧ ((nth a.2.2.1 i noMem).1.length : Int) = 6 + a.2.1.2 ∧ ((nth a.2.2.1 i noMem).2.2.1 = true → (i : Int) = a.2.2.2.1 ∨ a.2.2.2.2.2.2.2.2.2.2.2 = true) := by
  simp only [memsOk, Bool.and_eq_true, Bool.not_eq_true', List.any_eq_false, List.mem_range] at h
  have := h.1 i hi
  simp only [memBad, Bool.not_eq_true, Bool.or_eq_false_iff, Bool.not_eq_false', bne_eq_false_iff_eq, Bool.and_eq_false_iff] at this
  refine ⟨this.1, this.2.1, fun hf => ?_⟩
  rcases this.2.2 with h1 | h1 | h1
  · rw [hf] at h1; cases h1
  · exact .inl h1
  · exact .inr h1
/-- how many of n places a thing is not at -/
def lacks (p : Nat → Bool) (n : Nat) : Nat := ((List.range n).filter (fun i => !p i)).length
theorem lacks_le (p : Nat → Bool) (n : Nat) : lacks p n ≤ n := by
  have := List.length_filter_le (fun i => !p i) (List.range n)
  rwa [List.length_range] at this
theorem lacks_succ (p : Nat → Bool) (n : Nat) : lacks p (n + 1) = bif p n then lacks p n else lacks p n + 1 := by
  unfold lacks
  rw [List.range_succ, List.filter_append, List.length_append, List.filter_cons]
  cases p n <;> simp
noncomputable def lostAt (a : dA) (s : Int) : Int := bif arrOk a && (leb 0 s && leb s (a.2.1.2 - 1)) then (lacks (fun (i : Nat) => wordOk a i s) a.2.1.1.toNat : Nat) else a.2.1.1
noncomputable def bare (a : dA) : Int := bif arrOk a then (lacks (fun (s : Nat) => (xorAt a s).2) a.2.1.2.toNat : Nat) else 0
end

/-! spec_l6Secs -/
section
noncomputable def B_spec_l6Secs : Code := (Try.f175.body).getD .skip
noncomputable def E_spec_l6Secs : Env := envOf TT [] []
theorem fr_spec_l6Secs_0 : FrOk Try.prog ⟨E_spec_l6Secs, 6, fun _ => none⟩ B_spec_l6Secs := frOk_base mixed tt_ok trivial
noncomputable def D_spec_l6Secs_0 : Nat → Option Seg := fun _ => none
abbrev I_spec_l6Secs : List Par := [.rd tG]
abbrev U_spec_l6Secs : List OT := [⟨false, tI, .fz⟩]
noncomputable def raw_spec_l6Secs (a0 : dG) : Option (ResD U_spec_l6Secs × MutD I_spec_l6Secs) :=
  some (((IntKind.i64.wrap (6 + a0.2)), ()), ())
theorem e_spec_l6Secs (x : InD I_spec_l6Secs) : execF ⟨E_spec_l6Secs, 6, D_spec_l6Secs_0⟩ Try.f175.results.toList B_spec_l6Secs I_spec_l6Secs U_spec_l6Secs x = raw_spec_l6Secs x.1 := by kernel_rfl
theorem ok0_spec_l6Secs : ConOk Try.prog 175 ⟨I_spec_l6Secs, U_spec_l6Secs, fun x => raw_spec_l6Secs x.1⟩ := conOk_exec (fr_spec_l6Secs_0) Try.func175 (by kernel_rfl) (by kernel_rfl) Try.ntmps175.symm (by decide) (fun x r h => (e_spec_l6Secs x).trans h)
noncomputable def n_spec_l6Secs (a0 : dG) : Int :=
  (IntKind.i64.wrap (6 + a0.2))
noncomputable def con_spec_l6Secs : Con := ⟨I_spec_l6Secs, U_spec_l6Secs, fun x => (fun n => some ((n, ()), ())) (n_spec_l6Secs x.1)⟩
theorem nn_spec_l6Secs (a0 : dG) : raw_spec_l6Secs a0 = (fun n => some ((n, ()), ())) (n_spec_l6Secs a0) := bif_ty (p := fun (n : Int) => ((n, ()), ())) rfl
theorem ok_spec_l6Secs : ConOk Try.prog 175 con_spec_l6Secs := (ok0_spec_l6Secs).mono (fun x r _ h => (nn_spec_l6Secs x.1).trans h)
end
end Go.Tf
