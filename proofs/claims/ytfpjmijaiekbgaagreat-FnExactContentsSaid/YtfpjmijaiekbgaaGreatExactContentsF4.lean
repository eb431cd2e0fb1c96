/- Functions of the program, and what they come to. -/
import Derived.Test.YtfpjmijaiekbgaaGreatExactContentsF3
namespace Go.Tf
open Go.Proofs
set_option synthInstance.maxHeartbeats 400000
set_option synthInstance.maxSize 10000
set_option linter.unusedVariables false
set_option linter.unusedSimpArgs false
set_option maxRecDepth 100000
/-! spec_ReadSec -/
section
noncomputable def B_spec_ReadSec : Code := (Tryz.f220.body).getD .skip
noncomputable def E_spec_ReadSec : Env := envOf TT [(98, con_spec_l1In), (218, con_spec_MemOk), (252, con_spec_l2Has)] []
theorem fr_spec_ReadSec_0 : FrOk Tryz.prog ⟨E_spec_ReadSec, 60, fun _ => none⟩ B_spec_ReadSec := frOk_base mixed tt_ok ⟨ok_spec_l1In, ok_spec_MemOk, ok_spec_l2Has, trivial⟩
noncomputable def D_spec_ReadSec_0 : Nat → Option Seg := fun _ => none
def L_spec_ReadSec_61 : Shape := ⟨[(1, false, [.int .i64]), (2, false, [.ptr 0 0]), (6, false, [.br tI]), (7, false, [.int .i64])], [(0, [.br tL, .br tW, .bool, .br tI])], []⟩
def S_spec_ReadSec_61 : Shape := ⟨[(1, false, [.int .i64]), (2, false, [.ptr 0 0]), (6, false, [.br tI]), (7, false, [.ci .i64 0])], [(0, [.br tL, .br tW, .bool, .br tI])], []⟩
def O_spec_ReadSec_61 : Shape := ⟨[(6, false, [.br tI])], [], []⟩
def Z_spec_ReadSec_61 : Shape := ⟨[], [], []⟩
abbrev mk_spec_ReadSec_61 (v0 : Int) (v1 : List Int) (v2 : Int) (v3 : dM) : (L_spec_ReadSec_61).X := (((v0, ()), ((), ()), (v1, ()), (v2, ()), ()), ((v3.1, v3.2.1, v3.2.2.1, v3.2.2.2, ()), ()), ())
abbrev ms_spec_ReadSec_61 (v0 : Int) (v1 : List Int) (v2 : dM) : (S_spec_ReadSec_61).X := (((v0, ()), ((), ()), (v1, ()), ((), ()), ()), ((v2.1, v2.2.1, v2.2.2.1, v2.2.2.2, ()), ()), ())
abbrev mo_spec_ReadSec_61 (v0 : List Int) : (O_spec_ReadSec_61).X := (((v0, ()), ()), (), ())
noncomputable def st_spec_ReadSec_61 (v0 : Int) (v1 : List Int) (v2 : Int) (v3 : List (List Int)) (v4 : List dW) (v5 : Bool) (v6 : List Int) : Option ((L_spec_ReadSec_61).X ⊕ ((O_spec_ReadSec_61).X ⊕ (Z_spec_ReadSec_61).X)) :=
  bif (ltb v2 (v4.length : Int)) then
    bif (inb v2 v4.length) then
      bif ((nth v4 v2 (0, [])).1 == v0) then
        bif (inb v2 v4.length) then
          some (.inl (((v0, ()), ((), ()), ((nth v4 v2 (0, [])).2, ()), ((IntKind.i64.wrap (v2 + 1)), ()), ()), ((v3, v4, v5, v6, ()), ()), ()))
        else none
      else
        some (.inl (((v0, ()), ((), ()), (v1, ()), ((IntKind.i64.wrap (v2 + 1)), ()), ()), ((v3, v4, v5, v6, ()), ()), ()))
    else none
  else
    some (.inr (.inl (((v1, ()), ()), (), ())))
noncomputable def stx_spec_ReadSec_61 (x : (L_spec_ReadSec_61).X) := st_spec_ReadSec_61 x.1.1.1 x.1.2.2.1.1 x.1.2.2.2.1.1 x.2.1.1.1 x.2.1.1.2.1 x.2.1.1.2.2.1 x.2.1.1.2.2.2.1
def em_spec_ReadSec_61 (x : (S_spec_ReadSec_61).X) : (L_spec_ReadSec_61).X := (((x.1.1.1, ()), ((), ()), (x.1.2.2.1.1, ()), (0, ()), ()), ((x.2.1.1.1, x.2.1.1.2.1, x.2.1.1.2.2.1, x.2.1.1.2.2.2.1, ()), ()), ())
noncomputable def c_spec_ReadSec_61 : Code := (subN B_spec_ReadSec 64 244).getD .skip
theorem a_spec_ReadSec_61 : subN B_spec_ReadSec 64 61 = some (.block 0 (.loop c_spec_ReadSec_61)) := by kernel_rfl
theorem r_spec_ReadSec_61 (x : (L_spec_ReadSec_61).X) : roundT ⟨E_spec_ReadSec, 60, D_spec_ReadSec_0⟩ 0 c_spec_ReadSec_61 244 L_spec_ReadSec_61 O_spec_ReadSec_61 Z_spec_ReadSec_61 x = stx_spec_ReadSec_61 x := by kernel_rfl
noncomputable def fu_spec_ReadSec_61 (x : (S_spec_ReadSec_61).X) : Nat := (fun (u0 : Int) (u1 : List Int) (u2 : List (List Int)) (u3 : List dW) (u4 : Bool) (u5 : List Int) => 18446744073709551616) x.1.1.1 x.1.2.2.1.1 x.2.1.1.1 x.2.1.1.2.1 x.2.1.1.2.2.1 x.2.1.1.2.2.2.1
noncomputable def F_spec_ReadSec_61 (x : (S_spec_ReadSec_61).X) : Option ((O_spec_ReadSec_61).X ⊕ (Z_spec_ReadSec_61).X) := loopN stx_spec_ReadSec_61 (fu_spec_ReadSec_61 x) (em_spec_ReadSec_61 x)
noncomputable def sg_spec_ReadSec_61 : Seg := ⟨S_spec_ReadSec_61, O_spec_ReadSec_61, Z_spec_ReadSec_61, F_spec_ReadSec_61⟩
noncomputable def D_spec_ReadSec_1 : Nat → Option Seg := fun q => bif Nat.beq q 61 then some sg_spec_ReadSec_61 else D_spec_ReadSec_0 q
theorem fr_spec_ReadSec_1 : FrOk Tryz.prog ⟨E_spec_ReadSec, 60, D_spec_ReadSec_1⟩ B_spec_ReadSec := (fr_spec_ReadSec_0).loop (sg := sg_spec_ReadSec_61) L_spec_ReadSec_61 em_spec_ReadSec_61 (by decide) a_spec_ReadSec_61 stx_spec_ReadSec_61 fu_spec_ReadSec_61 (by decide) (fun _ => rfl) (fun x r _ h => h) r_spec_ReadSec_61
abbrev I_spec_ReadSec : List Par := [.rd tM, .rd tI]
abbrev U_spec_ReadSec : List OT := [⟨false, tL, (.ow .fz)⟩, ⟨false, tB, .fz⟩]
noncomputable def raw_spec_ReadSec (a0 : dM) (a1 : Int) : Option (ResD U_spec_ReadSec × MutD I_spec_ReadSec) :=
  let r1 := n_spec_MemOk a0
  bif (!(!r1)) then
    bif (!a0.2.2.1) then
      let r2 := n_spec_l1In a1 0 (IntKind.i64.wrap ((a0.1.length : Int) - 1))
      bif (!(!r2)) then
        let r3 := n_spec_l2Has a0.2.2.2 a1
        bif r3 then
          some ((([] : List Int), false, ()), ())
        else
          bif (inb a1 a0.1.length) then
            segM (F_spec_ReadSec_61 (((a1, ()), ((), ()), ((nth a0.1 a1 []), ()), ((), ()), ()), ((a0.1, a0.2.1, a0.2.2.1, a0.2.2.2, ()), ()), ())) (fun y3 =>
              bif (apok ([] : List Int).length y3.1.1.1.length 8) then
                some (((([] : List Int) ++ y3.1.1.1), true, ()), ())
              else none) (fun y3 =>
              none)
          else none
      else
        some ((([] : List Int), false, ()), ())
    else
      some ((([] : List Int), false, ()), ())
  else
    some ((([] : List Int), false, ()), ())
theorem e_spec_ReadSec (x : InD I_spec_ReadSec) : execF ⟨E_spec_ReadSec, 60, D_spec_ReadSec_1⟩ Tryz.f220.results.toList B_spec_ReadSec I_spec_ReadSec U_spec_ReadSec x = raw_spec_ReadSec x.1 x.2.1 := by kernel_rfl
theorem ok0_spec_ReadSec : ConOk Tryz.prog 220 ⟨I_spec_ReadSec, U_spec_ReadSec, fun x => raw_spec_ReadSec x.1 x.2.1⟩ := conOk_exec (fr_spec_ReadSec_1) Tryz.func220 (by kernel_rfl) (by kernel_rfl) Tryz.ntmps220.symm (by decide) (fun x r h => (e_spec_ReadSec x).trans h)
noncomputable def n_spec_ReadSec (a0 : dM) (a1 : Int) : List Int × Bool := readSec a0 a1
theorem nn_spec_ReadSec (a0 : dM) (a1 : Int) (hk : InOk I_spec_ReadSec (a0, a1, ())) : raw_spec_ReadSec a0 a1 = (fun n => some ((n.1, n.2, ()), ())) (n_spec_ReadSec a0 a1) := by
  have hb1 : a0.1.length * 24 ≤ 2 ^ 47 := hk.1.1.1
  have hb2 : a0.2.1.length * 32 ≤ 2 ^ 47 := hk.1.2.1.1
  have h1 : ∀ s, F_spec_ReadSec_61 (ms_spec_ReadSec_61 a1 s a0) = some (.inl (mo_spec_ReadSec_61 (newest a1 a0.2.1 s))) := fun s =>
    loopN_fold (step := stx_spec_ReadSec_61) a0.2.1 (0, []) (fun i s => mk_spec_ReadSec_61 a1 s i a0) (fun s w => bif w.1 == a1 then w.2 else s) (fun _ _ => True) (fun s => .inl (mo_spec_ReadSec_61 s)) (fun i s hi _ => ⟨by
      simp only [stx_spec_ReadSec_61, mk_spec_ReadSec_61, st_spec_ReadSec_61, ltb_t (show (i : Int) < a0.2.1.length by omega), cond_true, wr (show -9223372036854775808 ≤ (i : Int) + 1 by omega) (by omega), Int.natCast_add, Int.natCast_one, Int.toNat_natCast, inb_nat hi, nth_nat]
      cases ((a0.2.1.getD i (0, [])).1 == a1) <;> rfl, trivial⟩) (fun s _ => by simp only [stx_spec_ReadSec_61, mk_spec_ReadSec_61, st_spec_ReadSec_61, ltb_f (Int.le_refl _), cond_false]) s trivial _ (by show _ < 18446744073709551616; omega)
  unfold raw_spec_ReadSec n_spec_ReadSec readSec canRead
  rw [in_len (show a0.1.length ≤ 1152921504606846976 by omega)]
  unfold n_spec_MemOk n_spec_l2Has
  simp only [h1, segM_inl, List.nil_append]
  cases memOk a0
  · rfl
  cases a0.2.2.1
  · cases hi : inb a1 a0.1.length
    · rfl
    · cases a0.2.2.2.any (· == a1)
      · have hs : (newest a1 a0.2.1 (nth a0.1 a1 [])).length * 8 ≤ 2 ^ 47 :=
          newest_ind (P := fun s => s.length * 8 ≤ 2 ^ 47) (nth_mem (P := fun s : List Int => s.length * 8 ≤ 2 ^ 47) hi fun x hx => (hk.1.1.2 x hx).1) fun w hw => (hk.1.2.1.2 w hw).2.1
        simp only [Bool.not_true, Bool.not_false, cond_true, cond_false, Bool.true_and, show apok ([] : List Int).length (newest a1 a0.2.1 (nth a0.1 a1 [])).length 8 = true from apok_iff.2 (by rw [List.length_nil]; omega)]
      · rfl
  · rfl
noncomputable def con_spec_ReadSec : Con := ⟨I_spec_ReadSec, U_spec_ReadSec, fun x => (fun n => some ((n.1, n.2, ()), ())) (n_spec_ReadSec x.1 x.2.1)⟩
theorem ok_spec_ReadSec : ConOk Tryz.prog 220 con_spec_ReadSec := (ok0_spec_ReadSec).mono (fun x r hk h => (nn_spec_ReadSec x.1 x.2.1 hk).trans h)
end

/-! spec_LiveAt -/
section
noncomputable def B_spec_LiveAt : Code := (Tryz.f227.body).getD .skip
noncomputable def E_spec_LiveAt : Env := envOf TT [(98, con_spec_l1In)] []
theorem fr_spec_LiveAt_0 : FrOk Tryz.prog ⟨E_spec_LiveAt, 34, fun _ => none⟩ B_spec_LiveAt := frOk_base mixed tt_ok ⟨ok_spec_l1In, trivial⟩
noncomputable def D_spec_LiveAt_0 : Nat → Option Seg := fun _ => none
abbrev I_spec_LiveAt : List Par := [.rd tA, .rd tI, .rd tI]
abbrev U_spec_LiveAt : List OT := [⟨false, tB, .fz⟩]
noncomputable def raw_spec_LiveAt (a0 : dA) (a1 : Int) (a2 : Int) : Option (ResD U_spec_LiveAt × MutD I_spec_LiveAt) :=
  let r1 := n_spec_l1In a1 0 (IntKind.i64.wrap ((a0.2.2.1.length : Int) - 1))
  bif r1 then
    bif (inb a1 a0.2.2.1.length) then
      bif (!((((nth a0.2.2.1 a1 ([], [], false, [])).2).2).1)) then
        bif (!(a1 != a0.2.2.2.1)) then
          some (((ltb a2 a0.2.2.2.2.1), ()), ())
        else
          some ((true, ()), ())
      else
        some ((false, ()), ())
    else none
  else
    some ((false, ()), ())
theorem e_spec_LiveAt (x : InD I_spec_LiveAt) : execF ⟨E_spec_LiveAt, 34, D_spec_LiveAt_0⟩ Tryz.f227.results.toList B_spec_LiveAt I_spec_LiveAt U_spec_LiveAt x = raw_spec_LiveAt x.1 x.2.1 x.2.2.1 := by kernel_rfl
theorem ok0_spec_LiveAt : ConOk Tryz.prog 227 ⟨I_spec_LiveAt, U_spec_LiveAt, fun x => raw_spec_LiveAt x.1 x.2.1 x.2.2.1⟩ := conOk_exec (fr_spec_LiveAt_0) Tryz.func227 (by kernel_rfl) (by kernel_rfl) Tryz.ntmps227.symm (by decide) (fun x r h => (e_spec_LiveAt x).trans h)
noncomputable def n_spec_LiveAt (a0 : dA) (a1 a2 : Int) : Bool := liveAt a0 a1 a2
theorem nn_spec_LiveAt (a0 : dA) (a1 a2 : Int) (hk : InOk I_spec_LiveAt (a0, a1, a2, ())) : raw_spec_LiveAt a0 a1 a2 = (fun n => some ((n, ()), ())) (n_spec_LiveAt a0 a1 a2) := by
  have hb : a0.2.2.1.length * 80 ≤ 2 ^ 47 := hk.1.2.2.1.1
  unfold raw_spec_LiveAt n_spec_LiveAt liveAt noMem
  rw [in_len (show a0.2.2.1.length ≤ 1152921504606846976 by omega)]
  cases inb a1 a0.2.2.1.length
  · rfl
  · cases (nth a0.2.2.1 a1 ([], [], false, [])).2.2.1 <;> cases (a1 != a0.2.2.2.1) <;> rfl
noncomputable def con_spec_LiveAt : Con := ⟨I_spec_LiveAt, U_spec_LiveAt, fun x => (fun n => some ((n, ()), ())) (n_spec_LiveAt x.1 x.2.1 x.2.2.1)⟩
theorem ok_spec_LiveAt : ConOk Tryz.prog 227 con_spec_LiveAt := (ok0_spec_LiveAt).mono (fun x r hk h => (nn_spec_LiveAt x.1 x.2.1 x.2.2.1 hk).trans h)
end

/-! spec_l6Word -/
section
noncomputable def B_spec_l6Word : Code := (Tryz.f210.body).getD .skip
noncomputable def E_spec_l6Word : Env := envOf TT [(150, con_spec_DataAt), (220, con_spec_ReadSec), (227, con_spec_LiveAt)] []
theorem fr_spec_l6Word_0 : FrOk Tryz.prog ⟨E_spec_l6Word, 36, fun _ => none⟩ B_spec_l6Word := frOk_base mixed tt_ok ⟨ok_spec_DataAt, ok_spec_ReadSec, ok_spec_LiveAt, trivial⟩
noncomputable def D_spec_l6Word_0 : Nat → Option Seg := fun _ => none
abbrev I_spec_l6Word : List Par := [.rd tA, .rd tI, .rd tI]
abbrev U_spec_l6Word : List OT := [⟨false, tI, .fz⟩, ⟨false, tB, .fz⟩]
noncomputable def raw_spec_l6Word (a0 : dA) (a1 : Int) (a2 : Int) : Option (ResD U_spec_l6Word × MutD I_spec_l6Word) :=
  let r1 := n_spec_LiveAt a0 a1 a2
  bif (!r1) then
    some ((0, false, ()), ())
  else
    bif (inb a1 a0.2.2.1.length) then
      let r2 := n_spec_DataAt a2
      let r3 := n_spec_ReadSec ((nth a0.2.2.1 a1 ([], [], false, [])).1, ((nth a0.2.2.1 a1 ([], [], false, [])).2).1, (((nth a0.2.2.1 a1 ([], [], false, [])).2).2)) r2
      bif (!(!r3.2)) then
        bif ((r3.1.length : Int) != 1) then
          some ((0, false, ()), ())
        else
          bif (inb 0 r3.1.length) then
            some (((nth r3.1 0 0), true, ()), ())
          else none
      else
        some ((0, false, ()), ())
    else none
theorem e_spec_l6Word (x : InD I_spec_l6Word) : execF ⟨E_spec_l6Word, 36, D_spec_l6Word_0⟩ Tryz.f210.results.toList B_spec_l6Word I_spec_l6Word U_spec_l6Word x = raw_spec_l6Word x.1 x.2.1 x.2.2.1 := by kernel_rfl
theorem ok0_spec_l6Word : ConOk Tryz.prog 210 ⟨I_spec_l6Word, U_spec_l6Word, fun x => raw_spec_l6Word x.1 x.2.1 x.2.2.1⟩ := conOk_exec (fr_spec_l6Word_0) Tryz.func210 (by kernel_rfl) (by kernel_rfl) Tryz.ntmps210.symm (by decide) (fun x r h => (e_spec_l6Word x).trans h)
noncomputable def n_spec_l6Word (a0 : dA) (a1 a2 : Int) : Int × Bool := (word a0 a1 a2, wordOk a0 a1 a2)
theorem nn_spec_l6Word (a0 : dA) (a1 a2 : Int) (hk : InOk I_spec_l6Word (a0, a1, a2, ())) : raw_spec_l6Word a0 a1 a2 = (fun n => some ((n.1, n.2, ()), ())) (n_spec_l6Word a0 a1 a2) := by
  unfold raw_spec_l6Word n_spec_l6Word word n_spec_LiveAt
  simp only [pr_eta, spec_dataAt_eq, n_spec_ReadSec]
  rw [show wordOk a0 a1 a2 = (liveAt a0 a1 a2 && ((wordSec a0 a1 a2).2 && ((wordSec a0 a1 a2).1.length : Int) == 1)) from rfl]
  rw [show readSec (nth a0.2.2.1 a1 ([], [], false, [])) (dataAt a2) = wordSec a0 a1 a2 from rfl]
  cases hl : liveAt a0 a1 a2
  · rfl
  · rw [show inb a1 a0.2.2.1.length = true by unfold liveAt at hl; exact (Bool.and_eq_true_iff.1 hl).1]
    cases (wordSec a0 a1 a2).2
    · rfl
    · rw [bne]
      cases h1 : (((wordSec a0 a1 a2).1.length : Int) == 1)
      · rfl
      · rw [show inb 0 (wordSec a0 a1 a2).1.length = true from inb_iff.2 (by have := beq_iff_eq.1 h1; omega)]; rfl
noncomputable def con_spec_l6Word : Con := ⟨I_spec_l6Word, U_spec_l6Word, fun x => (fun n => some ((n.1, n.2, ()), ())) (n_spec_l6Word x.1 x.2.1 x.2.2.1)⟩
theorem ok_spec_l6Word : ConOk Tryz.prog 210 con_spec_l6Word := (ok0_spec_l6Word).mono (fun x r hk h => (nn_spec_l6Word x.1 x.2.1 x.2.2.1 hk).trans h)
end

/-! spec_MissingWord -/
section
noncomputable def B_spec_MissingWord : Code := (Tryz.f212.body).getD .skip
noncomputable def E_spec_MissingWord : Env := envOf TT [] []
theorem fr_spec_MissingWord_0 : FrOk Tryz.prog ⟨E_spec_MissingWord, 23, fun _ => none⟩ B_spec_MissingWord := frOk_base mixed tt_ok trivial
noncomputable def D_spec_MissingWord_0 : Nat → Option Seg := fun _ => none
def L_spec_MissingWord_29 : Shape := ⟨[(0, false, [.br tI]), (1, false, [.int .i64]), (5, false, [.int .i64]), (6, false, [.int .i64])], [], []⟩
def S_spec_MissingWord_29 : Shape := ⟨[(0, false, [.br tI]), (1, false, [.int .i64]), (5, false, [.ci .i64 0]), (6, false, [.ci .i64 0])], [], []⟩
def O_spec_MissingWord_29 : Shape := ⟨[(5, false, [.int .i64])], [], []⟩
def Z_spec_MissingWord_29 : Shape := ⟨[], [], []⟩
abbrev mk_spec_MissingWord_29 (v0 : List Int) (v1 : Int) (v2 : Int) (v3 : Int) : (L_spec_MissingWord_29).X := (((v0, ()), (v1, ()), (v2, ()), (v3, ()), ()), (), ())
abbrev ms_spec_MissingWord_29 (v0 : List Int) (v1 : Int) : (S_spec_MissingWord_29).X := (((v0, ()), (v1, ()), ((), ()), ((), ()), ()), (), ())
abbrev mo_spec_MissingWord_29 (v0 : Int) : (O_spec_MissingWord_29).X := (((v0, ()), ()), (), ())
noncomputable def st_spec_MissingWord_29 (v0 : List Int) (v1 : Int) (v2 : Int) (v3 : Int) : Option ((L_spec_MissingWord_29).X ⊕ ((O_spec_MissingWord_29).X ⊕ (Z_spec_MissingWord_29).X)) :=
  bif (ltb v3 (v0.length : Int)) then
    bif (v3 != v1) then
      bif (inb v3 v0.length) then
        some (.inl (((v0, ()), (v1, ()), ((IntKind.i64.wrap ((BitVec.ofInt IntKind.i64.bits v2 ^^^ BitVec.ofInt IntKind.i64.bits (nth v0 v3 0)).toNat : Int)), ()), ((IntKind.i64.wrap (v3 + 1)), ()), ()), (), ()))
      else none
    else
      some (.inl (((v0, ()), (v1, ()), (v2, ()), ((IntKind.i64.wrap (v3 + 1)), ()), ()), (), ()))
  else
    some (.inr (.inl (((v2, ()), ()), (), ())))
noncomputable def stx_spec_MissingWord_29 (x : (L_spec_MissingWord_29).X) := st_spec_MissingWord_29 x.1.1.1 x.1.2.1.1 x.1.2.2.1.1 x.1.2.2.2.1.1
def em_spec_MissingWord_29 (x : (S_spec_MissingWord_29).X) : (L_spec_MissingWord_29).X := (((x.1.1.1, ()), (x.1.2.1.1, ()), (0, ()), (0, ()), ()), (), ())
noncomputable def c_spec_MissingWord_29 : Code := (subN B_spec_MissingWord 64 116).getD .skip
theorem a_spec_MissingWord_29 : subN B_spec_MissingWord 64 29 = some (.block 0 (.loop c_spec_MissingWord_29)) := by kernel_rfl
theorem r_spec_MissingWord_29 (x : (L_spec_MissingWord_29).X) : roundT ⟨E_spec_MissingWord, 23, D_spec_MissingWord_0⟩ 0 c_spec_MissingWord_29 116 L_spec_MissingWord_29 O_spec_MissingWord_29 Z_spec_MissingWord_29 x = stx_spec_MissingWord_29 x := by kernel_rfl
noncomputable def fu_spec_MissingWord_29 (x : (S_spec_MissingWord_29).X) : Nat := (fun (u0 : List Int) (u1 : Int) => 18446744073709551616) x.1.1.1 x.1.2.1.1
noncomputable def F_spec_MissingWord_29 (x : (S_spec_MissingWord_29).X) : Option ((O_spec_MissingWord_29).X ⊕ (Z_spec_MissingWord_29).X) := loopN stx_spec_MissingWord_29 (fu_spec_MissingWord_29 x) (em_spec_MissingWord_29 x)
noncomputable def sg_spec_MissingWord_29 : Seg := ⟨S_spec_MissingWord_29, O_spec_MissingWord_29, Z_spec_MissingWord_29, F_spec_MissingWord_29⟩
noncomputable def D_spec_MissingWord_1 : Nat → Option Seg := fun q => bif Nat.beq q 29 then some sg_spec_MissingWord_29 else D_spec_MissingWord_0 q
theorem fr_spec_MissingWord_1 : FrOk Tryz.prog ⟨E_spec_MissingWord, 23, D_spec_MissingWord_1⟩ B_spec_MissingWord := (fr_spec_MissingWord_0).loop (sg := sg_spec_MissingWord_29) L_spec_MissingWord_29 em_spec_MissingWord_29 (by decide) a_spec_MissingWord_29 stx_spec_MissingWord_29 fu_spec_MissingWord_29 (by decide) (fun _ => rfl) (fun x r _ h => h) r_spec_MissingWord_29
abbrev I_spec_MissingWord : List Par := [.rd tL, .rd tI]
abbrev U_spec_MissingWord : List OT := [⟨false, tI, .fz⟩]
noncomputable def raw_spec_MissingWord (a0 : List Int) (a1 : Int) : Option (ResD U_spec_MissingWord × MutD I_spec_MissingWord) :=
  segM (F_spec_MissingWord_29 (((a0, ()), (a1, ()), ((), ()), ((), ()), ()), (), ())) (fun y0 =>
    some ((y0.1.1.1, ()), ())) (fun y0 =>
    none)
theorem e_spec_MissingWord (x : InD I_spec_MissingWord) : execF ⟨E_spec_MissingWord, 23, D_spec_MissingWord_1⟩ Tryz.f212.results.toList B_spec_MissingWord I_spec_MissingWord U_spec_MissingWord x = raw_spec_MissingWord x.1 x.2.1 := by kernel_rfl
theorem ok0_spec_MissingWord : ConOk Tryz.prog 212 ⟨I_spec_MissingWord, U_spec_MissingWord, fun x => raw_spec_MissingWord x.1 x.2.1⟩ := conOk_exec (fr_spec_MissingWord_1) Tryz.func212 (by kernel_rfl) (by kernel_rfl) Tryz.ntmps212.symm (by decide) (fun x r h => (e_spec_MissingWord x).trans h)
noncomputable def n_spec_MissingWord (a0 : List Int) (a1 : Int) : Int := missWord a0 a1
theorem nn_spec_MissingWord (a0 : List Int) (a1 : Int) (hk : InOk I_spec_MissingWord (a0, a1, ())) : raw_spec_MissingWord a0 a1 = (fun n => some ((n, ()), ())) (n_spec_MissingWord a0 a1) := by
  have hb : a0.length * 8 ≤ 2 ^ 47 := hk.1.1
  have h1 := loopN_rng (step := stx_spec_MissingWord_29) a0.length (fun i s => mk_spec_MissingWord_29 a0 a1 s i) (fun n (i : Nat) => bif (i : Int) != a1 then xw n (nth a0 i 0) else n) (fun _ _ => True) (fun s => .inl (mo_spec_MissingWord_29 s)) (fun i s hi _ => ⟨by
    simp only [stx_spec_MissingWord_29, mk_spec_MissingWord_29, st_spec_MissingWord_29, ltb_t (show (i : Int) < a0.length by omega), cond_true, wr (show -9223372036854775808 ≤ (i : Int) + 1 by omega) (by omega), Int.natCast_add, Int.natCast_one, Int.toNat_natCast, inb_nat hi]
    cases ((i : Int) != a1) <;> rfl, trivial⟩) (fun s _ => by simp only [stx_spec_MissingWord_29, mk_spec_MissingWord_29, st_spec_MissingWord_29, ltb_f (Int.le_refl _), cond_false]) 0 trivial 18446744073709551616 (by omega)
  rw [miss_fold] at h1
  unfold raw_spec_MissingWord n_spec_MissingWord
  rw [show F_spec_MissingWord_29 (ms_spec_MissingWord_29 a0 a1) = _ from h1]; rfl
noncomputable def con_spec_MissingWord : Con := ⟨I_spec_MissingWord, U_spec_MissingWord, fun x => (fun n => some ((n, ()), ())) (n_spec_MissingWord x.1 x.2.1)⟩
theorem ok_spec_MissingWord : ConOk Tryz.prog 212 con_spec_MissingWord := (ok0_spec_MissingWord).mono (fun x r hk h => (nn_spec_MissingWord x.1 x.2.1 hk).trans h)
end

/-! spec_l6Words -/
section
noncomputable def B_spec_l6Words : Code := (Tryz.f148.body).getD .skip
noncomputable def E_spec_l6Words : Env := envOf TT [(210, con_spec_l6Word), (212, con_spec_MissingWord)] []
theorem fr_spec_l6Words_0 : FrOk Tryz.prog ⟨E_spec_l6Words, 45, fun _ => none⟩ B_spec_l6Words := frOk_base mixed tt_ok ⟨ok_spec_l6Word, ok_spec_MissingWord, trivial⟩
noncomputable def D_spec_l6Words_0 : Nat → Option Seg := fun _ => none
def L_spec_l6Words_61 : Shape := ⟨[(1, false, [.int .i64]), (2, false, [.ptr 0 0]), (6, false, [.at 800000000]), (7, false, [.int .i64]), (8, false, [.int .i64])], [(0, [.int .i64, .int .i64, .int .i64, .br tM, .int .i64, .int .i64, .int .i64, .int .i64, .int .i64, .br tW, .int .i64, .bool, .bool])], [(800000000, tI, .fz)]⟩
def S_spec_l6Words_61 : Shape := ⟨[(1, false, [.int .i64]), (2, false, [.ptr 0 0]), (6, false, [.at 800000000]), (7, false, [.ci .i64 (-1)]), (8, false, [.ci .i64 0])], [(0, [.int .i64, .int .i64, .int .i64, .br tM, .int .i64, .int .i64, .int .i64, .int .i64, .int .i64, .br tW, .int .i64, .bool, .bool])], [(800000000, tI, .fz)]⟩
def O_spec_l6Words_61 : Shape := ⟨[(6, false, [.at 800000000]), (7, false, [.int .i64])], [], [(800000000, tI, .fz)]⟩
def Z_spec_l6Words_61 : Shape := ⟨[(4, false, [.at 800000000]), (5, false, [.bool])], [], [(800000000, tI, .fz)]⟩
abbrev mk_spec_l6Words_61 (v0 : Int) (v1 : Int) (v2 : Int) (v3 : dA) (v4 : List Int) : (L_spec_l6Words_61).X := (((v0, ()), ((), ()), ((), ()), (v1, ()), (v2, ()), ()), ((v3.1, v3.2.1.1, v3.2.1.2, v3.2.2.1, v3.2.2.2.1, v3.2.2.2.2.1, v3.2.2.2.2.2.1, v3.2.2.2.2.2.2.1, v3.2.2.2.2.2.2.2.1, v3.2.2.2.2.2.2.2.2.1, v3.2.2.2.2.2.2.2.2.2.1, v3.2.2.2.2.2.2.2.2.2.2.1, v3.2.2.2.2.2.2.2.2.2.2.2, ()), ()), (v4, ()))
abbrev ms_spec_l6Words_61 (v0 : Int) (v1 : dA) (v2 : List Int) : (S_spec_l6Words_61).X := (((v0, ()), ((), ()), ((), ()), ((), ()), ((), ()), ()), ((v1.1, v1.2.1.1, v1.2.1.2, v1.2.2.1, v1.2.2.2.1, v1.2.2.2.2.1, v1.2.2.2.2.2.1, v1.2.2.2.2.2.2.1, v1.2.2.2.2.2.2.2.1, v1.2.2.2.2.2.2.2.2.1, v1.2.2.2.2.2.2.2.2.2.1, v1.2.2.2.2.2.2.2.2.2.2.1, v1.2.2.2.2.2.2.2.2.2.2.2, ()), ()), (v2, ()))
abbrev mo_spec_l6Words_61 (v0 : Int) (v1 : List Int) : (O_spec_l6Words_61).X := ((((), ()), (v0, ()), ()), (), (v1, ()))
abbrev mz_spec_l6Words_61 (v0 : Bool) (v1 : List Int) : (Z_spec_l6Words_61).X := ((((), ()), (v0, ()), ()), (), (v1, ()))
noncomputable def st_spec_l6Words_61 (v0 : Int) (v1 : Int) (v2 : Int) (v3 : Int) (v4 : Int) (v5 : Int) (v6 : List dM) (v7 : Int) (v8 : Int) (v9 : Int) (v10 : Int) (v11 : Int) (v12 : List dW) (v13 : Int) (v14 : Bool) (v15 : Bool) (v16 : List Int) : Option ((L_spec_l6Words_61).X ⊕ ((O_spec_l6Words_61).X ⊕ (Z_spec_l6Words_61).X)) :=
  bif (ltb v2 v4) then
    let r2 := n_spec_l6Word (v3, (v4, v5), v6, v7, v8, v9, v10, v11, v12, v13, v14, v15) v2 v0
    bif (!r2.2) then
      bif (leb 0 v1) then
        some (.inr (.inr ((((), ()), (false, ()), ()), (), (([] : List Int), ()))))
      else
        bif (apok v16.length ([r2.1] : List Int).length 8) then
          some (.inl (((v0, ()), ((), ()), ((), ()), (v2, ()), ((IntKind.i64.wrap (v2 + 1)), ()), ()), ((v3, v4, v5, v6, v7, v8, v9, v10, v11, v12, v13, v14, v15, ()), ()), ((v16 ++ ([r2.1] : List Int)), ())))
        else none
    else
      bif (apok v16.length ([r2.1] : List Int).length 8) then
        some (.inl (((v0, ()), ((), ()), ((), ()), (v1, ()), ((IntKind.i64.wrap (v2 + 1)), ()), ()), ((v3, v4, v5, v6, v7, v8, v9, v10, v11, v12, v13, v14, v15, ()), ()), ((v16 ++ ([r2.1] : List Int)), ())))
      else none
  else
    some (.inr (.inl ((((), ()), (v1, ()), ()), (), (v16, ()))))
noncomputable def stx_spec_l6Words_61 (x : (L_spec_l6Words_61).X) := st_spec_l6Words_61 x.1.1.1 x.1.2.2.2.1.1 x.1.2.2.2.2.1.1 x.2.1.1.1 x.2.1.1.2.1 x.2.1.1.2.2.1 x.2.1.1.2.2.2.1 x.2.1.1.2.2.2.2.1 x.2.1.1.2.2.2.2.2.1 x.2.1.1.2.2.2.2.2.2.1 x.2.1.1.2.2.2.2.2.2.2.1 x.2.1.1.2.2.2.2.2.2.2.2.1 x.2.1.1.2.2.2.2.2.2.2.2.2.1 x.2.1.1.2.2.2.2.2.2.2.2.2.2.1 x.2.1.1.2.2.2.2.2.2.2.2.2.2.2.1 x.2.1.1.2.2.2.2.2.2.2.2.2.2.2.2.1 x.2.2.1
def em_spec_l6Words_61 (x : (S_spec_l6Words_61).X) : (L_spec_l6Words_61).X := (((x.1.1.1, ()), ((), ()), ((), ()), ((-1), ()), (0, ()), ()), ((x.2.1.1.1, x.2.1.1.2.1, x.2.1.1.2.2.1, x.2.1.1.2.2.2.1, x.2.1.1.2.2.2.2.1, x.2.1.1.2.2.2.2.2.1, x.2.1.1.2.2.2.2.2.2.1, x.2.1.1.2.2.2.2.2.2.2.1, x.2.1.1.2.2.2.2.2.2.2.2.1, x.2.1.1.2.2.2.2.2.2.2.2.2.1, x.2.1.1.2.2.2.2.2.2.2.2.2.2.1, x.2.1.1.2.2.2.2.2.2.2.2.2.2.2.1, x.2.1.1.2.2.2.2.2.2.2.2.2.2.2.2.1, ()), ()), (x.2.2.1, ()))
noncomputable def c_spec_l6Words_61 : Code := (subN B_spec_l6Words 64 244).getD .skip
theorem a_spec_l6Words_61 : subN B_spec_l6Words 64 61 = some (.block 0 (.loop c_spec_l6Words_61)) := by kernel_rfl
theorem r_spec_l6Words_61 (x : (L_spec_l6Words_61).X) : roundT ⟨E_spec_l6Words, 45, D_spec_l6Words_0⟩ 0 c_spec_l6Words_61 244 L_spec_l6Words_61 O_spec_l6Words_61 Z_spec_l6Words_61 x = stx_spec_l6Words_61 x := by kernel_rfl
noncomputable def fu_spec_l6Words_61 (x : (S_spec_l6Words_61).X) : Nat := (fun (u0 : Int) (u1 : Int) (u2 : Int) (u3 : Int) (u4 : List dM) (u5 : Int) (u6 : Int) (u7 : Int) (u8 : Int) (u9 : Int) (u10 : List dW) (u11 : Int) (u12 : Bool) (u13 : Bool) (u14 : List Int) => 18446744073709551616) x.1.1.1 x.2.1.1.1 x.2.1.1.2.1 x.2.1.1.2.2.1 x.2.1.1.2.2.2.1 x.2.1.1.2.2.2.2.1 x.2.1.1.2.2.2.2.2.1 x.2.1.1.2.2.2.2.2.2.1 x.2.1.1.2.2.2.2.2.2.2.1 x.2.1.1.2.2.2.2.2.2.2.2.1 x.2.1.1.2.2.2.2.2.2.2.2.2.1 x.2.1.1.2.2.2.2.2.2.2.2.2.2.1 x.2.1.1.2.2.2.2.2.2.2.2.2.2.2.1 x.2.1.1.2.2.2.2.2.2.2.2.2.2.2.2.1 x.2.2.1
noncomputable def F_spec_l6Words_61 (x : (S_spec_l6Words_61).X) : Option ((O_spec_l6Words_61).X ⊕ (Z_spec_l6Words_61).X) := loopN stx_spec_l6Words_61 (fu_spec_l6Words_61 x) (em_spec_l6Words_61 x)
noncomputable def sg_spec_l6Words_61 : Seg := ⟨S_spec_l6Words_61, O_spec_l6Words_61, Z_spec_l6Words_61, F_spec_l6Words_61⟩
noncomputable def D_spec_l6Words_1 : Nat → Option Seg := fun q => bif Nat.beq q 61 then some sg_spec_l6Words_61 else D_spec_l6Words_0 q
theorem fr_spec_l6Words_1 : FrOk Tryz.prog ⟨E_spec_l6Words, 45, D_spec_l6Words_1⟩ B_spec_l6Words := (fr_spec_l6Words_0).loop (sg := sg_spec_l6Words_61) L_spec_l6Words_61 em_spec_l6Words_61 (by decide) a_spec_l6Words_61 stx_spec_l6Words_61 fu_spec_l6Words_61 (by decide) (fun _ => rfl) (fun x r _ h => h) r_spec_l6Words_61
abbrev I_spec_l6Words : List Par := [.rd tA, .rd tI]
abbrev U_spec_l6Words : List OT := [⟨false, tL, (.ow .fz)⟩, ⟨false, tB, .fz⟩]
noncomputable def raw_spec_l6Words (a0 : dA) (a1 : Int) : Option (ResD U_spec_l6Words × MutD I_spec_l6Words) :=
  segM (F_spec_l6Words_61 (((a1, ()), ((), ()), ((), ()), ((), ()), ((), ()), ()), ((a0.1, a0.2.1.1, a0.2.1.2, a0.2.2.1, a0.2.2.2.1, a0.2.2.2.2.1, a0.2.2.2.2.2.1, a0.2.2.2.2.2.2.1, a0.2.2.2.2.2.2.2.1, a0.2.2.2.2.2.2.2.2.1, a0.2.2.2.2.2.2.2.2.2.1, a0.2.2.2.2.2.2.2.2.2.2.1, a0.2.2.2.2.2.2.2.2.2.2.2, ()), ()), (([] : List Int), ()))) (fun y2 =>
    bif (leb 0 y2.1.2.1.1) then
      let r4 := n_spec_MissingWord y2.2.2.1 y2.1.2.1.1
      bif (inb y2.1.2.1.1 y2.2.2.1.length) then
        some (((y2.2.2.1.set (y2.1.2.1.1).toNat r4), true, ()), ())
      else none
    else
      some ((y2.2.2.1, true, ()), ())) (fun y2 =>
    some ((y2.2.2.1, y2.1.2.1.1, ()), ()))
theorem e_spec_l6Words (x : InD I_spec_l6Words) : execF ⟨E_spec_l6Words, 45, D_spec_l6Words_1⟩ Tryz.f148.results.toList B_spec_l6Words I_spec_l6Words U_spec_l6Words x = raw_spec_l6Words x.1 x.2.1 := by kernel_rfl
theorem ok0_spec_l6Words : ConOk Tryz.prog 148 ⟨I_spec_l6Words, U_spec_l6Words, fun x => raw_spec_l6Words x.1 x.2.1⟩ := conOk_exec (fr_spec_l6Words_1) Tryz.func148 (by kernel_rfl) (by kernel_rfl) Tryz.ntmps148.symm (by decide) (fun x r h => (e_spec_l6Words x).trans h)
noncomputable def n_spec_l6Words (a0 : dA) (a1 : Int) : List Int × Bool := words a0 a1
noncomputable def q_spec_l6Words (a0 : dA) (a1 : Int) : Bool := n_spec_GeoOk a0.2.1
theorem nn_spec_l6Words (a0 : dA) (a1 : Int) (hk : InOk I_spec_l6Words (a0, a1, ())) (hq : q_spec_l6Words a0 a1 = true) : raw_spec_l6Words a0 a1 = (fun n => some ((n.1, n.2, ()), ())) (n_spec_l6Words a0 a1) := by
  have hg := geo_iff.1 hq
  have h1 : F_spec_l6Words_61 (ms_spec_l6Words_61 a1 a0 []) = some (bif miss2 (fun (i : Nat) => wordOk a0 i a1) a0.2.1.1.toNat then .inr (mz_spec_l6Words_61 false []) else .inl (mo_spec_l6Words_61 (missAt (fun (i : Nat) => wordOk a0 i a1) a0.2.1.1.toNat) (wordList a0 a1 a0.2.1.1.toNat))) :=
    loopN_all (step := stx_spec_l6Words_61) (fun i => mk_spec_l6Words_61 a1 (missAt (fun (i : Nat) => wordOk a0 i a1) i) i a0 (wordList a0 a1 i)) a0.2.1.1.toNat (fun i => !wordOk a0 i a1 && leb 0 (missAt (fun (i : Nat) => wordOk a0 i a1) i)) _ _ (fun i hi => by
      simp only [stx_spec_l6Words_61, mk_spec_l6Words_61, st_spec_l6Words_61, ltb_t (show (i : Int) < a0.2.1.1 by omega), cond_true, wr (show -9223372036854775808 ≤ (i : Int) + 1 by omega) (by omega), Int.natCast_add, Int.natCast_one, Int.toNat_natCast, pr_eta, n_spec_l6Word, missAt]
      rw [apok_iff.2 (show ((wordList a0 a1 i).length + [word a0 i a1].length) * 8 ≤ 140737488355328 by simp only [List.length_cons, List.length_nil, wordList_len]; omega), wordList_succ]
      cases wordOk a0 i a1 <;> cases leb 0 (missAt (fun (i : Nat) => wordOk a0 i a1) i) <;> rfl) (by simp only [stx_spec_l6Words_61, mk_spec_l6Words_61, st_spec_l6Words_61, ltb_f (show a0.2.1.1 ≤ (a0.2.1.1.toNat : Int) by omega), cond_false]) _ (by show _ < 18446744073709551616; omega)
  unfold raw_spec_l6Words n_spec_l6Words words
  rw [h1]
  cases miss2 (fun (i : Nat) => wordOk a0 i a1) a0.2.1.1.toNat
  · simp only [cond_false, segM_inl, n_spec_MissingWord]
    cases hm : leb 0 (missAt (fun (i : Nat) => wordOk a0 i a1) a0.2.1.1.toNat)
    · rfl
    · obtain ⟨h2, h3⟩ := miss_word a0 a1 a0.2.1.1.toNat hm
      rw [h2, h3]; rfl
  · rfl
noncomputable def o_spec_l6Words (a0 : dA) (a1 : Int) : Option (ResD U_spec_l6Words × MutD I_spec_l6Words) := bif q_spec_l6Words a0 a1 then (fun n => some ((n.1, n.2, ()), ())) (n_spec_l6Words a0 a1) else none
theorem ot_spec_l6Words (a0 : dA) (a1 : Int) (h : q_spec_l6Words a0 a1 = true) : o_spec_l6Words a0 a1 = (fun n => some ((n.1, n.2, ()), ())) (n_spec_l6Words a0 a1) := by unfold o_spec_l6Words; rw [h]; rfl
noncomputable def con_spec_l6Words : Con := ⟨I_spec_l6Words, U_spec_l6Words, fun x => o_spec_l6Words x.1 x.2.1⟩
theorem ok_spec_l6Words : ConOk Tryz.prog 148 con_spec_l6Words := (ok0_spec_l6Words).mono (fun x r hk h => pre_ok h (fun hq => nn_spec_l6Words x.1 x.2.1 hk hq))
end

/-! spec_l3Stripe -/
section
noncomputable def B_spec_l3Stripe : Code := (Tryz.f255.body).getD .skip
noncomputable def E_spec_l3Stripe : Env := envOf TT [(98, con_spec_l1In), (141, con_spec_GeoOk)] []
theorem fr_spec_l3Stripe_0 : FrOk Tryz.prog ⟨E_spec_l3Stripe, 14, fun _ => none⟩ B_spec_l3Stripe := frOk_base mixed tt_ok ⟨ok_spec_l1In, ok_spec_GeoOk, trivial⟩
noncomputable def D_spec_l3Stripe_0 : Nat → Option Seg := fun _ => none
abbrev I_spec_l3Stripe : List Par := [.rd tG, .rd tI]
abbrev U_spec_l3Stripe : List OT := [⟨false, tB, .fz⟩]
noncomputable def raw_spec_l3Stripe (a0 : dG) (a1 : Int) : Option (ResD U_spec_l3Stripe × MutD I_spec_l3Stripe) :=
  let r1 := n_spec_GeoOk a0
  bif r1 then
    let r2 := n_spec_l1In a1 0 (IntKind.i64.wrap (a0.2 - 1))
    some ((r2, ()), ())
  else
    some ((false, ()), ())
theorem e_spec_l3Stripe (x : InD I_spec_l3Stripe) : execF ⟨E_spec_l3Stripe, 14, D_spec_l3Stripe_0⟩ Tryz.f255.results.toList B_spec_l3Stripe I_spec_l3Stripe U_spec_l3Stripe x = raw_spec_l3Stripe x.1 x.2.1 := by kernel_rfl
theorem ok0_spec_l3Stripe : ConOk Tryz.prog 255 ⟨I_spec_l3Stripe, U_spec_l3Stripe, fun x => raw_spec_l3Stripe x.1 x.2.1⟩ := conOk_exec (fr_spec_l3Stripe_0) Tryz.func255 (by kernel_rfl) (by kernel_rfl) Tryz.ntmps255.symm (by decide) (fun x r h => (e_spec_l3Stripe x).trans h)
noncomputable def n_spec_l3Stripe (a0 : dG) (a1 : Int) : Bool :=
  let r1 := n_spec_GeoOk a0
  bif r1 then
    let r2 := n_spec_l1In a1 0 (IntKind.i64.wrap (a0.2 - 1))
    r2
  else
    false
noncomputable def con_spec_l3Stripe : Con := ⟨I_spec_l3Stripe, U_spec_l3Stripe, fun x => (fun n => some ((n, ()), ())) (n_spec_l3Stripe x.1 x.2.1)⟩
theorem nn_spec_l3Stripe (a0 : dG) (a1 : Int) : raw_spec_l3Stripe a0 a1 = (fun n => some ((n, ()), ())) (n_spec_l3Stripe a0 a1) := bif_ty (p := fun (n : Bool) => ((n, ()), ())) (bif_some (p := fun (n : Bool) => ((n, ()), ())) rfl rfl)
theorem ok_spec_l3Stripe : ConOk Tryz.prog 255 con_spec_l3Stripe := (ok0_spec_l3Stripe).mono (fun x r _ h => (nn_spec_l3Stripe x.1 x.2.1).trans h)
theorem spec_str_eq (g : dG) (s : Int) : n_spec_l3Stripe g s = strOk g s := by
  unfold n_spec_l3Stripe strOk
  cases hg : n_spec_GeoOk g
  · rfl
  have := geo_iff.1 hg
  rw [in_eq, wr (by omega) (by omega)]; rfl
end
end Go.Tf
