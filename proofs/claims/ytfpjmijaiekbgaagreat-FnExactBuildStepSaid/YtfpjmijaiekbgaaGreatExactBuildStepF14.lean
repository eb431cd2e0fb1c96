/- Functions of the program, and what they come to. -/
import Derived.Test.YtfpjmijaiekbgaaGreatExactBuildStepF13
namespace Go.Tf
open Go.Proofs
set_option synthInstance.maxHeartbeats 400000
set_option synthInstance.maxSize 10000
set_option linter.unusedVariables false
set_option linter.unusedSimpArgs false
set_option maxRecDepth 100000
/-! impl_ReadSec -/
section
noncomputable def B_impl_ReadSec : Code := (Tryz.f164.body).getD .skip
noncomputable def E_impl_ReadSec : Env := envOf TT [(132, con_impl_MemOk), (151, con_impl_copyInts), (204, con_impl_hasSec), (229, con_slices_Contains_int)] []
theorem fr_impl_ReadSec_0 : FrOk Tryz.prog ⟨E_impl_ReadSec, 49, fun _ => none⟩ B_impl_ReadSec := frOk_base mixed tt_ok ⟨ok_impl_MemOk, ok_impl_copyInts, ok_impl_hasSec, ok_slices_Contains_int, trivial⟩
noncomputable def D_impl_ReadSec_0 : Nat → Option Seg := fun _ => none
def L_impl_ReadSec_61 : Shape := ⟨[(1, false, [.int .i64]), (6, false, [.br tI]), (34, false, [.br tW]), (35, false, [.int .i64]), (36, false, [.int .i64])], [], []⟩
def S_impl_ReadSec_61 : Shape := ⟨[(1, false, [.int .i64]), (6, false, [.br tI]), (34, false, [.br tW]), (35, false, [.int .i64]), (36, false, [.ci .i64 0])], [], []⟩
def O_impl_ReadSec_61 : Shape := ⟨[(6, false, [.br tI])], [], []⟩
def Z_impl_ReadSec_61 : Shape := ⟨[], [], []⟩
abbrev mk_impl_ReadSec_61 (v0 : Int) (v1 : List Int) (v2 : List dW) (v3 : Int) (v4 : Int) : (L_impl_ReadSec_61).X := (((v0, ()), (v1, ()), (v2, ()), (v3, ()), (v4, ()), ()), (), ())
abbrev ms_impl_ReadSec_61 (v0 : Int) (v1 : List Int) (v2 : List dW) (v3 : Int) : (S_impl_ReadSec_61).X := (((v0, ()), (v1, ()), (v2, ()), (v3, ()), ((), ()), ()), (), ())
abbrev mo_impl_ReadSec_61 (v0 : List Int) : (O_impl_ReadSec_61).X := (((v0, ()), ()), (), ())
noncomputable def st_impl_ReadSec_61 (v0 : Int) (v1 : List Int) (v2 : List dW) (v3 : Int) (v4 : Int) : Option ((L_impl_ReadSec_61).X ⊕ ((O_impl_ReadSec_61).X ⊕ (Z_impl_ReadSec_61).X)) :=
  bif (ltb v4 v3) then
    bif (inb v4 v2.length) then
      bif ((nth v2 v4 (0, [])).1 == v0) then
        some (.inl (((v0, ()), ((nth v2 v4 (0, [])).2, ()), (v2, ()), (v3, ()), ((IntKind.i64.wrap (v4 + 1)), ()), ()), (), ()))
      else
        some (.inl (((v0, ()), (v1, ()), (v2, ()), (v3, ()), ((IntKind.i64.wrap (v4 + 1)), ()), ()), (), ()))
    else none
  else
    some (.inr (.inl (((v1, ()), ()), (), ())))
noncomputable def stx_impl_ReadSec_61 (x : (L_impl_ReadSec_61).X) := st_impl_ReadSec_61 x.1.1.1 x.1.2.1.1 x.1.2.2.1.1 x.1.2.2.2.1.1 x.1.2.2.2.2.1.1
def em_impl_ReadSec_61 (x : (S_impl_ReadSec_61).X) : (L_impl_ReadSec_61).X := (((x.1.1.1, ()), (x.1.2.1.1, ()), (x.1.2.2.1.1, ()), (x.1.2.2.2.1.1, ()), (0, ()), ()), (), ())
noncomputable def c_impl_ReadSec_61 : Code := (subN B_impl_ReadSec 64 244).getD .skip
theorem a_impl_ReadSec_61 : subN B_impl_ReadSec 64 61 = some (.block 0 (.loop c_impl_ReadSec_61)) := by kernel_rfl
theorem r_impl_ReadSec_61 (x : (L_impl_ReadSec_61).X) : roundT ⟨E_impl_ReadSec, 49, D_impl_ReadSec_0⟩ 0 c_impl_ReadSec_61 244 L_impl_ReadSec_61 O_impl_ReadSec_61 Z_impl_ReadSec_61 x = stx_impl_ReadSec_61 x := by kernel_rfl
noncomputable def fu_impl_ReadSec_61 (x : (S_impl_ReadSec_61).X) : Nat := (fun (u0 : Int) (u1 : List Int) (u2 : List dW) (u3 : Int) => 18446744073709551616) x.1.1.1 x.1.2.1.1 x.1.2.2.1.1 x.1.2.2.2.1.1
noncomputable def F_impl_ReadSec_61 (x : (S_impl_ReadSec_61).X) : Option ((O_impl_ReadSec_61).X ⊕ (Z_impl_ReadSec_61).X) := loopN stx_impl_ReadSec_61 (fu_impl_ReadSec_61 x) (em_impl_ReadSec_61 x)
noncomputable def sg_impl_ReadSec_61 : Seg := ⟨S_impl_ReadSec_61, O_impl_ReadSec_61, Z_impl_ReadSec_61, F_impl_ReadSec_61⟩
noncomputable def D_impl_ReadSec_1 : Nat → Option Seg := fun q => bif Nat.beq q 61 then some sg_impl_ReadSec_61 else D_impl_ReadSec_0 q
theorem fr_impl_ReadSec_1 : FrOk Tryz.prog ⟨E_impl_ReadSec, 49, D_impl_ReadSec_1⟩ B_impl_ReadSec := (fr_impl_ReadSec_0).loop (sg := sg_impl_ReadSec_61) L_impl_ReadSec_61 em_impl_ReadSec_61 (by decide) a_impl_ReadSec_61 stx_impl_ReadSec_61 fu_impl_ReadSec_61 (by decide) (fun _ => rfl) (fun x r _ h => h) r_impl_ReadSec_61
abbrev I_impl_ReadSec : List Par := [.rd tM, .rd tI]
abbrev U_impl_ReadSec : List OT := [⟨false, tL, (.ow .fz)⟩, ⟨false, tB, .fz⟩]
noncomputable def raw_impl_ReadSec (a0 : dM) (a1 : Int) : Option (ResD U_impl_ReadSec × MutD I_impl_ReadSec) :=
  let r1 := n_impl_MemOk a0
  bif (!(!r1)) then
    bif (!a0.2.2.1) then
      let r2 := n_impl_hasSec a0 a1
      bif (!(!r2)) then
        let r3 := n_slices_Contains_int a0.2.2.2 a1
        bif r3 then
          some (([], false, ()), ())
        else
          bif (inb a1 a0.1.length) then
            segM (F_impl_ReadSec_61 (((a1, ()), ((nth a0.1 a1 []), ()), (a0.2.1, ()), ((a0.2.1.length : Int), ()), ((), ()), ()), (), ())) (fun y3 =>
              let r5 := n_impl_copyInts y3.1.1.1
              some ((r5, true, ()), ())) (fun y3 =>
              none)
          else none
      else
        some (([], false, ()), ())
    else
      some (([], false, ()), ())
  else
    some (([], false, ()), ())
theorem e_impl_ReadSec (x : InD I_impl_ReadSec) : execF ⟨E_impl_ReadSec, 49, D_impl_ReadSec_1⟩ Tryz.f164.results.toList B_impl_ReadSec I_impl_ReadSec U_impl_ReadSec x = raw_impl_ReadSec x.1 x.2.1 := by kernel_rfl
theorem ok0_impl_ReadSec : ConOk Tryz.prog 164 ⟨I_impl_ReadSec, U_impl_ReadSec, fun x => raw_impl_ReadSec x.1 x.2.1⟩ := conOk_exec (fr_impl_ReadSec_1) Tryz.func164 (by kernel_rfl) (by kernel_rfl) Tryz.ntmps164.symm (by decide) (fun x r h => (e_impl_ReadSec x).trans h)
noncomputable def n_impl_ReadSec (a0 : dM) (a1 : Int) : List Int × Bool := readSec a0 a1
theorem nn_impl_ReadSec (a0 : dM) (a1 : Int) (hk : InOk I_impl_ReadSec (a0, a1, ())) : raw_impl_ReadSec a0 a1 = (fun n => some ((n.1, n.2, ()), ())) (n_impl_ReadSec a0 a1) := by
  have hb1 : a0.1.length * 24 ≤ 2 ^ 47 := hk.1.1.1
  have hb2 : a0.2.1.length * 32 ≤ 2 ^ 47 := hk.1.2.1.1
  have h1 : ∀ s, F_impl_ReadSec_61 (ms_impl_ReadSec_61 a1 s a0.2.1 a0.2.1.length) = some (.inl (mo_impl_ReadSec_61 (newest a1 a0.2.1 s))) := fun s =>
    loopN_fold (step := stx_impl_ReadSec_61) a0.2.1 (0, []) (fun i s => mk_impl_ReadSec_61 a1 s a0.2.1 a0.2.1.length i) (fun s w => bif w.1 == a1 then w.2 else s) (fun _ _ => True) (fun s => .inl (mo_impl_ReadSec_61 s)) (fun i s hi _ => ⟨by
      simp only [stx_impl_ReadSec_61, mk_impl_ReadSec_61, st_impl_ReadSec_61, ltb_t (show (i : Int) < a0.2.1.length by omega), cond_true, wr (show -9223372036854775808 ≤ (i : Int) + 1 by omega) (by omega), Int.natCast_add, Int.natCast_one, Int.toNat_natCast, inb_nat hi, nth_nat]
      cases ((a0.2.1.getD i (0, [])).1 == a1) <;> rfl, trivial⟩) (fun s _ => by simp only [stx_impl_ReadSec_61, mk_impl_ReadSec_61, st_impl_ReadSec_61, ltb_f (Int.le_refl _), cond_false]) s trivial _ (by show _ < 18446744073709551616; omega)
  unfold raw_impl_ReadSec n_impl_ReadSec readSec canRead n_impl_hasSec
  rw [impl_in_eq, in_len (show a0.1.length ≤ 1152921504606846976 by omega)]
  unfold n_impl_MemOk n_slices_Contains_int n_impl_copyInts
  simp only [h1, segM_inl]
  cases memOk a0
  · rfl
  cases a0.2.2.1
  · cases inb a1 a0.1.length
    · rfl
    · cases a0.2.2.2.any (· == a1) <;> rfl
  · rfl
noncomputable def con_impl_ReadSec : Con := ⟨I_impl_ReadSec, U_impl_ReadSec, fun x => (fun n => some ((n.1, n.2, ()), ())) (n_impl_ReadSec x.1 x.2.1)⟩
theorem ok_impl_ReadSec : ConOk Tryz.prog 164 con_impl_ReadSec := (ok0_impl_ReadSec).mono (fun x r hk h => (nn_impl_ReadSec x.1 x.2.1 hk).trans h)
end

/-! impl_LiveAt -/
section
noncomputable def B_impl_LiveAt : Code := (Tryz.f171.body).getD .skip
noncomputable def E_impl_LiveAt : Env := envOf TT [(114, con_impl_within)] []
theorem fr_impl_LiveAt_0 : FrOk Tryz.prog ⟨E_impl_LiveAt, 34, fun _ => none⟩ B_impl_LiveAt := frOk_base mixed tt_ok ⟨ok_impl_within, trivial⟩
noncomputable def D_impl_LiveAt_0 : Nat → Option Seg := fun _ => none
abbrev I_impl_LiveAt : List Par := [.rd tA, .rd tI, .rd tI]
abbrev U_impl_LiveAt : List OT := [⟨false, tB, .fz⟩]
noncomputable def raw_impl_LiveAt (a0 : dA) (a1 : Int) (a2 : Int) : Option (ResD U_impl_LiveAt × MutD I_impl_LiveAt) :=
  let r1 := n_impl_within a1 0 (IntKind.i64.wrap ((a0.2.2.1.length : Int) - 1))
  bif r1 then
    bif (inb a1 a0.2.2.1.length) then
      bif (!((((nth a0.2.2.1 a1 ([], [], false, [])).2).2).1)) then
        bif (!(a0.2.2.2.1 != a1)) then
          some (((ltb a2 a0.2.2.2.2.1), ()), ())
        else
          some ((true, ()), ())
      else
        some ((false, ()), ())
    else none
  else
    some ((false, ()), ())
theorem e_impl_LiveAt (x : InD I_impl_LiveAt) : execF ⟨E_impl_LiveAt, 34, D_impl_LiveAt_0⟩ Tryz.f171.results.toList B_impl_LiveAt I_impl_LiveAt U_impl_LiveAt x = raw_impl_LiveAt x.1 x.2.1 x.2.2.1 := by kernel_rfl
theorem ok0_impl_LiveAt : ConOk Tryz.prog 171 ⟨I_impl_LiveAt, U_impl_LiveAt, fun x => raw_impl_LiveAt x.1 x.2.1 x.2.2.1⟩ := conOk_exec (fr_impl_LiveAt_0) Tryz.func171 (by kernel_rfl) (by kernel_rfl) Tryz.ntmps171.symm (by decide) (fun x r h => (e_impl_LiveAt x).trans h)
noncomputable def n_impl_LiveAt (a0 : dA) (a1 a2 : Int) : Bool := liveAt a0 a1 a2
theorem nn_impl_LiveAt (a0 : dA) (a1 a2 : Int) (hk : InOk I_impl_LiveAt (a0, a1, a2, ())) : raw_impl_LiveAt a0 a1 a2 = (fun n => some ((n, ()), ())) (n_impl_LiveAt a0 a1 a2) := by
  have hb : a0.2.2.1.length * 80 ≤ 2 ^ 47 := hk.1.2.2.1.1
  unfold raw_impl_LiveAt n_impl_LiveAt liveAt noMem
  rw [impl_in_eq, in_len (show a0.2.2.1.length ≤ 1152921504606846976 by omega), bne_comm]
  cases inb a1 a0.2.2.1.length
  · rfl
  · cases (nth a0.2.2.1 a1 ([], [], false, [])).2.2.1 <;> cases (a1 != a0.2.2.2.1) <;> rfl
noncomputable def con_impl_LiveAt : Con := ⟨I_impl_LiveAt, U_impl_LiveAt, fun x => (fun n => some ((n, ()), ())) (n_impl_LiveAt x.1 x.2.1 x.2.2.1)⟩
theorem ok_impl_LiveAt : ConOk Tryz.prog 171 con_impl_LiveAt := (ok0_impl_LiveAt).mono (fun x r hk h => (nn_impl_LiveAt x.1 x.2.1 x.2.2.1 hk).trans h)
end

/-! impl_wordAt -/
section
noncomputable def B_impl_wordAt : Code := (Tryz.f137.body).getD .skip
noncomputable def E_impl_wordAt : Env := envOf TT [(79, con_impl_DataAt), (164, con_impl_ReadSec), (171, con_impl_LiveAt)] []
theorem fr_impl_wordAt_0 : FrOk Tryz.prog ⟨E_impl_wordAt, 38, fun _ => none⟩ B_impl_wordAt := frOk_base mixed tt_ok ⟨ok_impl_DataAt, ok_impl_ReadSec, ok_impl_LiveAt, trivial⟩
noncomputable def D_impl_wordAt_0 : Nat → Option Seg := fun _ => none
abbrev I_impl_wordAt : List Par := [.rd tA, .rd tI, .rd tI]
abbrev U_impl_wordAt : List OT := [⟨false, tI, .fz⟩, ⟨false, tB, .fz⟩]
noncomputable def raw_impl_wordAt (a0 : dA) (a1 : Int) (a2 : Int) : Option (ResD U_impl_wordAt × MutD I_impl_wordAt) :=
  bif (inb a1 a0.2.2.1.length) then
    let r1 := n_impl_DataAt a2
    let r2 := n_impl_ReadSec ((nth a0.2.2.1 a1 ([], [], false, [])).1, ((nth a0.2.2.1 a1 ([], [], false, [])).2).1, (((nth a0.2.2.1 a1 ([], [], false, [])).2).2)) r1
    let r3 := n_impl_LiveAt a0 a1 a2
    bif (!(!r3)) then
      bif (!(!r2.2)) then
        bif ((r2.1.length : Int) != 1) then
          some ((0, false, ()), ())
        else
          bif (inb 0 r2.1.length) then
            some (((nth r2.1 0 0), true, ()), ())
          else none
      else
        some ((0, false, ()), ())
    else
      some ((0, false, ()), ())
  else none
theorem e_impl_wordAt (x : InD I_impl_wordAt) : execF ⟨E_impl_wordAt, 38, D_impl_wordAt_0⟩ Tryz.f137.results.toList B_impl_wordAt I_impl_wordAt U_impl_wordAt x = raw_impl_wordAt x.1 x.2.1 x.2.2.1 := by kernel_rfl
theorem ok0_impl_wordAt : ConOk Tryz.prog 137 ⟨I_impl_wordAt, U_impl_wordAt, fun x => raw_impl_wordAt x.1 x.2.1 x.2.2.1⟩ := conOk_exec (fr_impl_wordAt_0) Tryz.func137 (by kernel_rfl) (by kernel_rfl) Tryz.ntmps137.symm (by decide) (fun x r h => (e_impl_wordAt x).trans h)
noncomputable def n_impl_wordAt (a0 : dA) (a1 a2 : Int) : Int × Bool := (word a0 a1 a2, wordOk a0 a1 a2)
noncomputable def q_impl_wordAt (a0 : dA) (a1 a2 : Int) : Bool := inb a1 a0.2.2.1.length
theorem nn_impl_wordAt (a0 : dA) (a1 a2 : Int) (hk : InOk I_impl_wordAt (a0, a1, a2, ())) (hq : q_impl_wordAt a0 a1 a2 = true) : raw_impl_wordAt a0 a1 a2 = (fun n => some ((n.1, n.2, ()), ())) (n_impl_wordAt a0 a1 a2) := by
  unfold raw_impl_wordAt n_impl_wordAt word n_impl_LiveAt
  simp only [pr_eta, impl_dataAt_eq, n_impl_ReadSec]
  rw [show wordOk a0 a1 a2 = (liveAt a0 a1 a2 && ((wordSec a0 a1 a2).2 && ((wordSec a0 a1 a2).1.length : Int) == 1)) from rfl]
  rw [show readSec (nth a0.2.2.1 a1 ([], [], false, [])) (dataAt a2) = wordSec a0 a1 a2 from rfl]
  rw [show inb a1 a0.2.2.1.length = true from hq]
  cases hl : liveAt a0 a1 a2
  · rfl
  · cases (wordSec a0 a1 a2).2
    · rfl
    · rw [bne]
      cases h1 : (((wordSec a0 a1 a2).1.length : Int) == 1)
      · rfl
      · rw [show inb 0 (wordSec a0 a1 a2).1.length = true from inb_iff.2 (by have := beq_iff_eq.1 h1; omega)]; rfl
noncomputable def o_impl_wordAt (a0 : dA) (a1 : Int) (a2 : Int) : Option (ResD U_impl_wordAt × MutD I_impl_wordAt) := bif q_impl_wordAt a0 a1 a2 then (fun n => some ((n.1, n.2, ()), ())) (n_impl_wordAt a0 a1 a2) else none
theorem ot_impl_wordAt (a0 : dA) (a1 : Int) (a2 : Int) (h : q_impl_wordAt a0 a1 a2 = true) : o_impl_wordAt a0 a1 a2 = (fun n => some ((n.1, n.2, ()), ())) (n_impl_wordAt a0 a1 a2) := by unfold o_impl_wordAt; rw [h]; rfl
noncomputable def con_impl_wordAt : Con := ⟨I_impl_wordAt, U_impl_wordAt, fun x => o_impl_wordAt x.1 x.2.1 x.2.2.1⟩
theorem ok_impl_wordAt : ConOk Tryz.prog 137 con_impl_wordAt := (ok0_impl_wordAt).mono (fun x r hk h => pre_ok h (fun hq => nn_impl_wordAt x.1 x.2.1 x.2.2.1 hk hq))
end

/-! impl_XorOf -/
section
noncomputable def B_impl_XorOf : Code := (Tryz.f202.body).getD .skip
noncomputable def E_impl_XorOf : Env := envOf TT [] []
theorem fr_impl_XorOf_0 : FrOk Tryz.prog ⟨E_impl_XorOf, 17, fun _ => none⟩ B_impl_XorOf := frOk_base mixed tt_ok trivial
noncomputable def D_impl_XorOf_0 : Nat → Option Seg := fun _ => none
def L_impl_XorOf_29 : Shape := ⟨[(3, false, [.int .i64]), (6, false, [.br tI]), (7, false, [.int .i64]), (8, false, [.int .i64])], [], []⟩
def S_impl_XorOf_29 : Shape := ⟨[(3, false, [.ci .i64 0]), (6, false, [.br tI]), (7, false, [.int .i64]), (8, false, [.ci .i64 0])], [], []⟩
def O_impl_XorOf_29 : Shape := ⟨[(3, false, [.int .i64])], [], []⟩
def Z_impl_XorOf_29 : Shape := ⟨[], [], []⟩
abbrev mk_impl_XorOf_29 (v0 : Int) (v1 : List Int) (v2 : Int) (v3 : Int) : (L_impl_XorOf_29).X := (((v0, ()), (v1, ()), (v2, ()), (v3, ()), ()), (), ())
abbrev ms_impl_XorOf_29 (v0 : List Int) (v1 : Int) : (S_impl_XorOf_29).X := ((((), ()), (v0, ()), (v1, ()), ((), ()), ()), (), ())
abbrev mo_impl_XorOf_29 (v0 : Int) : (O_impl_XorOf_29).X := (((v0, ()), ()), (), ())
noncomputable def st_impl_XorOf_29 (v0 : Int) (v1 : List Int) (v2 : Int) (v3 : Int) : Option ((L_impl_XorOf_29).X ⊕ ((O_impl_XorOf_29).X ⊕ (Z_impl_XorOf_29).X)) :=
  bif (ltb v3 v2) then
    bif (inb v3 v1.length) then
      some (.inl ((((IntKind.i64.wrap ((BitVec.ofInt IntKind.i64.bits v0 ^^^ BitVec.ofInt IntKind.i64.bits (nth v1 v3 0)).toNat : Int)), ()), (v1, ()), (v2, ()), ((IntKind.i64.wrap (v3 + 1)), ()), ()), (), ()))
    else none
  else
    some (.inr (.inl (((v0, ()), ()), (), ())))
noncomputable def stx_impl_XorOf_29 (x : (L_impl_XorOf_29).X) := st_impl_XorOf_29 x.1.1.1 x.1.2.1.1 x.1.2.2.1.1 x.1.2.2.2.1.1
def em_impl_XorOf_29 (x : (S_impl_XorOf_29).X) : (L_impl_XorOf_29).X := (((0, ()), (x.1.2.1.1, ()), (x.1.2.2.1.1, ()), (0, ()), ()), (), ())
noncomputable def c_impl_XorOf_29 : Code := (subN B_impl_XorOf 64 116).getD .skip
theorem a_impl_XorOf_29 : subN B_impl_XorOf 64 29 = some (.block 0 (.loop c_impl_XorOf_29)) := by kernel_rfl
theorem r_impl_XorOf_29 (x : (L_impl_XorOf_29).X) : roundT ⟨E_impl_XorOf, 17, D_impl_XorOf_0⟩ 0 c_impl_XorOf_29 116 L_impl_XorOf_29 O_impl_XorOf_29 Z_impl_XorOf_29 x = stx_impl_XorOf_29 x := by kernel_rfl
noncomputable def fu_impl_XorOf_29 (x : (S_impl_XorOf_29).X) : Nat := (fun (u0 : List Int) (u1 : Int) => 18446744073709551616) x.1.2.1.1 x.1.2.2.1.1
noncomputable def F_impl_XorOf_29 (x : (S_impl_XorOf_29).X) : Option ((O_impl_XorOf_29).X ⊕ (Z_impl_XorOf_29).X) := loopN stx_impl_XorOf_29 (fu_impl_XorOf_29 x) (em_impl_XorOf_29 x)
noncomputable def sg_impl_XorOf_29 : Seg := ⟨S_impl_XorOf_29, O_impl_XorOf_29, Z_impl_XorOf_29, F_impl_XorOf_29⟩
noncomputable def D_impl_XorOf_1 : Nat → Option Seg := fun q => bif Nat.beq q 29 then some sg_impl_XorOf_29 else D_impl_XorOf_0 q
theorem fr_impl_XorOf_1 : FrOk Tryz.prog ⟨E_impl_XorOf, 17, D_impl_XorOf_1⟩ B_impl_XorOf := (fr_impl_XorOf_0).loop (sg := sg_impl_XorOf_29) L_impl_XorOf_29 em_impl_XorOf_29 (by decide) a_impl_XorOf_29 stx_impl_XorOf_29 fu_impl_XorOf_29 (by decide) (fun _ => rfl) (fun x r _ h => h) r_impl_XorOf_29
abbrev I_impl_XorOf : List Par := [.rd tL]
abbrev U_impl_XorOf : List OT := [⟨false, tI, .fz⟩]
noncomputable def raw_impl_XorOf (a0 : List Int) : Option (ResD U_impl_XorOf × MutD I_impl_XorOf) :=
  segM (F_impl_XorOf_29 ((((), ()), (a0, ()), ((a0.length : Int), ()), ((), ()), ()), (), ())) (fun y0 =>
    some ((y0.1.1.1, ()), ())) (fun y0 =>
    none)
theorem e_impl_XorOf (x : InD I_impl_XorOf) : execF ⟨E_impl_XorOf, 17, D_impl_XorOf_1⟩ Tryz.f202.results.toList B_impl_XorOf I_impl_XorOf U_impl_XorOf x = raw_impl_XorOf x.1 := by kernel_rfl
theorem ok0_impl_XorOf : ConOk Tryz.prog 202 ⟨I_impl_XorOf, U_impl_XorOf, fun x => raw_impl_XorOf x.1⟩ := conOk_exec (fr_impl_XorOf_1) Tryz.func202 (by kernel_rfl) (by kernel_rfl) Tryz.ntmps202.symm (by decide) (fun x r h => (e_impl_XorOf x).trans h)
noncomputable def n_impl_XorOf (a0 : List Int) : Int := xorOf a0
theorem nn_impl_XorOf (a0 : List Int) (hk : InOk I_impl_XorOf (a0, ())) : raw_impl_XorOf a0 = (fun n => some ((n, ()), ())) (n_impl_XorOf a0) := by
  have hb : a0.length * 8 ≤ 2 ^ 47 := hk.1.1
  have h1 : F_impl_XorOf_29 (ms_impl_XorOf_29 a0 a0.length) = some (.inl (mo_impl_XorOf_29 (xorOf a0))) :=
    loopN_fold (step := stx_impl_XorOf_29) a0 0 (fun i s => mk_impl_XorOf_29 s a0 a0.length i) xw (fun _ _ => True) (fun s => .inl (mo_impl_XorOf_29 s)) (fun i s hi _ => ⟨by
      simp only [stx_impl_XorOf_29, mk_impl_XorOf_29, st_impl_XorOf_29, ltb_t (show (i : Int) < a0.length by omega), cond_true, wr (show -9223372036854775808 ≤ (i : Int) + 1 by omega) (by omega), Int.natCast_add, Int.natCast_one, Int.toNat_natCast, inb_nat hi, nth_nat]; rfl, trivial⟩) (fun s _ => by simp only [stx_impl_XorOf_29, mk_impl_XorOf_29, st_impl_XorOf_29, ltb_f (Int.le_refl _), cond_false]) 0 trivial _ (by show _ < 18446744073709551616; omega)
  unfold raw_impl_XorOf n_impl_XorOf
  rw [h1]; rfl
noncomputable def con_impl_XorOf : Con := ⟨I_impl_XorOf, U_impl_XorOf, fun x => (fun n => some ((n, ()), ())) (n_impl_XorOf x.1)⟩
theorem ok_impl_XorOf : ConOk Tryz.prog 202 con_impl_XorOf := (ok0_impl_XorOf).mono (fun x r hk h => (nn_impl_XorOf x.1 hk).trans h)
end

/-! impl_MissingWord -/
section
noncomputable def B_impl_MissingWord : Code := (Tryz.f153.body).getD .skip
noncomputable def E_impl_MissingWord : Env := envOf TT [(114, con_impl_within), (202, con_impl_XorOf)] []
theorem fr_impl_MissingWord_0 : FrOk Tryz.prog ⟨E_impl_MissingWord, 20, fun _ => none⟩ B_impl_MissingWord := frOk_base mixed tt_ok ⟨ok_impl_within, ok_impl_XorOf, trivial⟩
noncomputable def D_impl_MissingWord_0 : Nat → Option Seg := fun _ => none
abbrev I_impl_MissingWord : List Par := [.rd tL, .rd tI]
abbrev U_impl_MissingWord : List OT := [⟨false, tI, .fz⟩]
noncomputable def raw_impl_MissingWord (a0 : List Int) (a1 : Int) : Option (ResD U_impl_MissingWord × MutD I_impl_MissingWord) :=
  let r1 := n_impl_XorOf a0
  let r2 := n_impl_within a1 0 (IntKind.i64.wrap ((a0.length : Int) - 1))
  bif r2 then
    bif (inb a1 a0.length) then
      some (((IntKind.i64.wrap ((BitVec.ofInt IntKind.i64.bits r1 ^^^ BitVec.ofInt IntKind.i64.bits (nth a0 a1 0)).toNat : Int)), ()), ())
    else none
  else
    some ((r1, ()), ())
theorem e_impl_MissingWord (x : InD I_impl_MissingWord) : execF ⟨E_impl_MissingWord, 20, D_impl_MissingWord_0⟩ Tryz.f153.results.toList B_impl_MissingWord I_impl_MissingWord U_impl_MissingWord x = raw_impl_MissingWord x.1 x.2.1 := by kernel_rfl
theorem ok0_impl_MissingWord : ConOk Tryz.prog 153 ⟨I_impl_MissingWord, U_impl_MissingWord, fun x => raw_impl_MissingWord x.1 x.2.1⟩ := conOk_exec (fr_impl_MissingWord_0) Tryz.func153 (by kernel_rfl) (by kernel_rfl) Tryz.ntmps153.symm (by decide) (fun x r h => (e_impl_MissingWord x).trans h)
noncomputable def n_impl_MissingWord (a0 : List Int) (a1 : Int) : Int := missWord a0 a1
theorem nn_impl_MissingWord (a0 : List Int) (a1 : Int) (hk : InOk I_impl_MissingWord (a0, a1, ())) : raw_impl_MissingWord a0 a1 = (fun n => some ((n, ()), ())) (n_impl_MissingWord a0 a1) := by
  have hb : a0.length * 8 ≤ 2 ^ 47 := hk.1.1
  unfold raw_impl_MissingWord n_impl_MissingWord missWord n_impl_XorOf
  rw [impl_in_eq, in_len (show a0.length ≤ 1152921504606846976 by omega)]
  cases inb a1 a0.length <;> rfl
noncomputable def con_impl_MissingWord : Con := ⟨I_impl_MissingWord, U_impl_MissingWord, fun x => (fun n => some ((n, ()), ())) (n_impl_MissingWord x.1 x.2.1)⟩
theorem ok_impl_MissingWord : ConOk Tryz.prog 153 con_impl_MissingWord := (ok0_impl_MissingWord).mono (fun x r hk h => (nn_impl_MissingWord x.1 x.2.1 hk).trans h)
end

/-! impl_Words -/
section
noncomputable def B_impl_Words : Code := (Tryz.f77.body).getD .skip
noncomputable def E_impl_Words : Env := envOf TT [(51, con_impl_ArrOk), (100, con_impl_hasStripe), (137, con_impl_wordAt), (153, con_impl_MissingWord)] []
theorem fr_impl_Words_0 : FrOk Tryz.prog ⟨E_impl_Words, 62, fun _ => none⟩ B_impl_Words := frOk_base mixed tt_ok ⟨ok_impl_ArrOk, ok_impl_hasStripe, ok_impl_wordAt, ok_impl_MissingWord, trivial⟩
noncomputable def D_impl_Words_0 : Nat → Option Seg := fun _ => none
def L_impl_Words_125 : Shape := ⟨[(1, false, [.int .i64]), (2, false, [.ptr 0 0]), (6, false, [.at 800000000]), (7, false, [.int .i64]), (28, false, [.int .i64]), (29, false, [.int .i64])], [(0, [.int .i64, .int .i64, .int .i64, .br tM, .int .i64, .int .i64, .int .i64, .int .i64, .int .i64, .br tW, .int .i64, .bool, .bool])], [(800000000, tI, .fz)]⟩
def S_impl_Words_125 : Shape := ⟨[(1, false, [.int .i64]), (2, false, [.ptr 0 0]), (6, false, [.at 800000000]), (7, false, [.ci .i64 (-1)]), (28, false, [.int .i64]), (29, false, [.ci .i64 0])], [(0, [.int .i64, .int .i64, .int .i64, .br tM, .int .i64, .int .i64, .int .i64, .int .i64, .int .i64, .br tW, .int .i64, .bool, .bool])], [(800000000, tI, .fz)]⟩
def O_impl_Words_125 : Shape := ⟨[(6, false, [.at 800000000]), (7, false, [.int .i64])], [], [(800000000, tI, .fz)]⟩
def Z_impl_Words_125 : Shape := ⟨[(4, false, [.nil]), (5, false, [.bool])], [], []⟩
abbrev mk_impl_Words_125 (v0 : Int) (v1 : Int) (v2 : Int) (v3 : Int) (v4 : dA) (v5 : List Int) : (L_impl_Words_125).X := (((v0, ()), ((), ()), ((), ()), (v1, ()), (v2, ()), (v3, ()), ()), ((v4.1, v4.2.1.1, v4.2.1.2, v4.2.2.1, v4.2.2.2.1, v4.2.2.2.2.1, v4.2.2.2.2.2.1, v4.2.2.2.2.2.2.1, v4.2.2.2.2.2.2.2.1, v4.2.2.2.2.2.2.2.2.1, v4.2.2.2.2.2.2.2.2.2.1, v4.2.2.2.2.2.2.2.2.2.2.1, v4.2.2.2.2.2.2.2.2.2.2.2, ()), ()), (v5, ()))
abbrev ms_impl_Words_125 (v0 : Int) (v1 : Int) (v2 : dA) (v3 : List Int) : (S_impl_Words_125).X := (((v0, ()), ((), ()), ((), ()), ((), ()), (v1, ()), ((), ()), ()), ((v2.1, v2.2.1.1, v2.2.1.2, v2.2.2.1, v2.2.2.2.1, v2.2.2.2.2.1, v2.2.2.2.2.2.1, v2.2.2.2.2.2.2.1, v2.2.2.2.2.2.2.2.1, v2.2.2.2.2.2.2.2.2.1, v2.2.2.2.2.2.2.2.2.2.1, v2.2.2.2.2.2.2.2.2.2.2.1, v2.2.2.2.2.2.2.2.2.2.2.2, ()), ()), (v3, ()))
abbrev mo_impl_Words_125 (v0 : Int) (v1 : List Int) : (O_impl_Words_125).X := ((((), ()), (v0, ()), ()), (), (v1, ()))
abbrev mz_impl_Words_125 (v0 : Bool) : (Z_impl_Words_125).X := ((((), ()), (v0, ()), ()), (), ())
noncomputable def st_impl_Words_125 (v0 : Int) (v1 : Int) (v2 : Int) (v3 : Int) (v4 : Int) (v5 : Int) (v6 : Int) (v7 : List dM) (v8 : Int) (v9 : Int) (v10 : Int) (v11 : Int) (v12 : Int) (v13 : List dW) (v14 : Int) (v15 : Bool) (v16 : Bool) (v17 : List Int) : Option ((L_impl_Words_125).X ⊕ ((O_impl_Words_125).X ⊕ (Z_impl_Words_125).X)) :=
  bif (ltb v3 v2) then
    bnd (o_impl_wordAt (v4, (v5, v6), v7, v8, v9, v10, v11, v12, v13, v14, v15, v16) v3 v0) fun r4 =>
    bif (!r4.1.2.1) then
      bif (leb 0 v1) then
        some (.inr (.inr ((((), ()), (false, ()), ()), (), ())))
      else
        bif (!r4.1.2.1) then
          bif (apok v17.length ([r4.1.1] : List Int).length 8) then
            some (.inl (((v0, ()), ((), ()), ((), ()), (v3, ()), (v2, ()), ((IntKind.i64.wrap (v3 + 1)), ()), ()), ((v4, v5, v6, v7, v8, v9, v10, v11, v12, v13, v14, v15, v16, ()), ()), ((v17 ++ ([r4.1.1] : List Int)), ())))
          else none
        else
          bif (apok v17.length ([r4.1.1] : List Int).length 8) then
            some (.inl (((v0, ()), ((), ()), ((), ()), (v1, ()), (v2, ()), ((IntKind.i64.wrap (v3 + 1)), ()), ()), ((v4, v5, v6, v7, v8, v9, v10, v11, v12, v13, v14, v15, v16, ()), ()), ((v17 ++ ([r4.1.1] : List Int)), ())))
          else none
    else
      bif (!r4.1.2.1) then
        bif (apok v17.length ([r4.1.1] : List Int).length 8) then
          some (.inl (((v0, ()), ((), ()), ((), ()), (v3, ()), (v2, ()), ((IntKind.i64.wrap (v3 + 1)), ()), ()), ((v4, v5, v6, v7, v8, v9, v10, v11, v12, v13, v14, v15, v16, ()), ()), ((v17 ++ ([r4.1.1] : List Int)), ())))
        else none
      else
        bif (apok v17.length ([r4.1.1] : List Int).length 8) then
          some (.inl (((v0, ()), ((), ()), ((), ()), (v1, ()), (v2, ()), ((IntKind.i64.wrap (v3 + 1)), ()), ()), ((v4, v5, v6, v7, v8, v9, v10, v11, v12, v13, v14, v15, v16, ()), ()), ((v17 ++ ([r4.1.1] : List Int)), ())))
        else none
  else
    some (.inr (.inl ((((), ()), (v1, ()), ()), (), (v17, ()))))
noncomputable def stx_impl_Words_125 (x : (L_impl_Words_125).X) := st_impl_Words_125 x.1.1.1 x.1.2.2.2.1.1 x.1.2.2.2.2.1.1 x.1.2.2.2.2.2.1.1 x.2.1.1.1 x.2.1.1.2.1 x.2.1.1.2.2.1 x.2.1.1.2.2.2.1 x.2.1.1.2.2.2.2.1 x.2.1.1.2.2.2.2.2.1 x.2.1.1.2.2.2.2.2.2.1 x.2.1.1.2.2.2.2.2.2.2.1 x.2.1.1.2.2.2.2.2.2.2.2.1 x.2.1.1.2.2.2.2.2.2.2.2.2.1 x.2.1.1.2.2.2.2.2.2.2.2.2.2.1 x.2.1.1.2.2.2.2.2.2.2.2.2.2.2.1 x.2.1.1.2.2.2.2.2.2.2.2.2.2.2.2.1 x.2.2.1
def em_impl_Words_125 (x : (S_impl_Words_125).X) : (L_impl_Words_125).X := (((x.1.1.1, ()), ((), ()), ((), ()), ((-1), ()), (x.1.2.2.2.2.1.1, ()), (0, ()), ()), ((x.2.1.1.1, x.2.1.1.2.1, x.2.1.1.2.2.1, x.2.1.1.2.2.2.1, x.2.1.1.2.2.2.2.1, x.2.1.1.2.2.2.2.2.1, x.2.1.1.2.2.2.2.2.2.1, x.2.1.1.2.2.2.2.2.2.2.1, x.2.1.1.2.2.2.2.2.2.2.2.1, x.2.1.1.2.2.2.2.2.2.2.2.2.1, x.2.1.1.2.2.2.2.2.2.2.2.2.2.1, x.2.1.1.2.2.2.2.2.2.2.2.2.2.2.1, x.2.1.1.2.2.2.2.2.2.2.2.2.2.2.2.1, ()), ()), (x.2.2.1, ()))
noncomputable def c_impl_Words_125 : Code := (subN B_impl_Words 64 500).getD .skip
theorem a_impl_Words_125 : subN B_impl_Words 64 125 = some (.block 0 (.loop c_impl_Words_125)) := by kernel_rfl
theorem r_impl_Words_125 (x : (L_impl_Words_125).X) : roundT ⟨E_impl_Words, 62, D_impl_Words_0⟩ 0 c_impl_Words_125 500 L_impl_Words_125 O_impl_Words_125 Z_impl_Words_125 x = stx_impl_Words_125 x := by kernel_rfl
noncomputable def fu_impl_Words_125 (x : (S_impl_Words_125).X) : Nat := (fun (u0 : Int) (u1 : Int) (u2 : Int) (u3 : Int) (u4 : Int) (u5 : List dM) (u6 : Int) (u7 : Int) (u8 : Int) (u9 : Int) (u10 : Int) (u11 : List dW) (u12 : Int) (u13 : Bool) (u14 : Bool) (u15 : List Int) => 18446744073709551616) x.1.1.1 x.1.2.2.2.2.1.1 x.2.1.1.1 x.2.1.1.2.1 x.2.1.1.2.2.1 x.2.1.1.2.2.2.1 x.2.1.1.2.2.2.2.1 x.2.1.1.2.2.2.2.2.1 x.2.1.1.2.2.2.2.2.2.1 x.2.1.1.2.2.2.2.2.2.2.1 x.2.1.1.2.2.2.2.2.2.2.2.1 x.2.1.1.2.2.2.2.2.2.2.2.2.1 x.2.1.1.2.2.2.2.2.2.2.2.2.2.1 x.2.1.1.2.2.2.2.2.2.2.2.2.2.2.1 x.2.1.1.2.2.2.2.2.2.2.2.2.2.2.2.1 x.2.2.1
noncomputable def F_impl_Words_125 (x : (S_impl_Words_125).X) : Option ((O_impl_Words_125).X ⊕ (Z_impl_Words_125).X) := loopN stx_impl_Words_125 (fu_impl_Words_125 x) (em_impl_Words_125 x)
noncomputable def sg_impl_Words_125 : Seg := ⟨S_impl_Words_125, O_impl_Words_125, Z_impl_Words_125, F_impl_Words_125⟩
noncomputable def D_impl_Words_1 : Nat → Option Seg := fun q => bif Nat.beq q 125 then some sg_impl_Words_125 else D_impl_Words_0 q
theorem fr_impl_Words_1 : FrOk Tryz.prog ⟨E_impl_Words, 62, D_impl_Words_1⟩ B_impl_Words := (fr_impl_Words_0).loop (sg := sg_impl_Words_125) L_impl_Words_125 em_impl_Words_125 (by decide) a_impl_Words_125 stx_impl_Words_125 fu_impl_Words_125 (by decide) (fun _ => rfl) (fun x r _ h => h) r_impl_Words_125
abbrev I_impl_Words : List Par := [.rd tA, .rd tI]
abbrev U_impl_Words : List OT := [⟨false, tL, (.ow .fz)⟩, ⟨false, tB, .fz⟩]
noncomputable def raw_impl_Words (a0 : dA) (a1 : Int) : Option (ResD U_impl_Words × MutD I_impl_Words) :=
  let r1 := n_impl_ArrOk a0
  bif (!(!r1)) then
    bif (!a0.2.2.2.2.2.2.2.2.2.2.2) then
      let r2 := n_impl_hasStripe a0.2.1 a1
      bif (!r2) then
        some (([], false, ()), ())
      else
        segM (F_impl_Words_125 (((a1, ()), ((), ()), ((), ()), ((), ()), ((a0.2.2.1.length : Int), ()), ((), ()), ()), ((a0.1, a0.2.1.1, a0.2.1.2, a0.2.2.1, a0.2.2.2.1, a0.2.2.2.2.1, a0.2.2.2.2.2.1, a0.2.2.2.2.2.2.1, a0.2.2.2.2.2.2.2.1, a0.2.2.2.2.2.2.2.2.1, a0.2.2.2.2.2.2.2.2.2.1, a0.2.2.2.2.2.2.2.2.2.2.1, a0.2.2.2.2.2.2.2.2.2.2.2, ()), ()), (([] : List Int), ()))) (fun y4 =>
          bif (leb 0 y4.1.2.1.1) then
            let r6 := n_impl_MissingWord y4.2.2.1 y4.1.2.1.1
            bif (inb y4.1.2.1.1 y4.2.2.1.length) then
              some (((y4.2.2.1.set (y4.1.2.1.1).toNat r6), true, ()), ())
            else none
          else
            some ((y4.2.2.1, true, ()), ())) (fun y4 =>
          some (([], y4.1.2.1.1, ()), ()))
    else
      some (([], false, ()), ())
  else
    some (([], false, ()), ())
theorem e_impl_Words (x : InD I_impl_Words) : execF ⟨E_impl_Words, 62, D_impl_Words_1⟩ Tryz.f77.results.toList B_impl_Words I_impl_Words U_impl_Words x = raw_impl_Words x.1 x.2.1 := by kernel_rfl
theorem ok0_impl_Words : ConOk Tryz.prog 77 ⟨I_impl_Words, U_impl_Words, fun x => raw_impl_Words x.1 x.2.1⟩ := conOk_exec (fr_impl_Words_1) Tryz.func77 (by kernel_rfl) (by kernel_rfl) Tryz.ntmps77.symm (by decide) (fun x r h => (e_impl_Words x).trans h)
noncomputable def n_impl_Words (a0 : dA) (a1 : Int) : List Int × Bool := bif arrOk a0 && (!a0.2.2.2.2.2.2.2.2.2.2.2 && strOk a0.2.1 a1) then words a0 a1 else ([], false)
theorem nn_impl_Words (a0 : dA) (a1 : Int) (hk : InOk I_impl_Words (a0, a1, ())) : raw_impl_Words a0 a1 = (fun n => some ((n.1, n.2, ()), ())) (n_impl_Words a0 a1) := by
  unfold raw_impl_Words n_impl_Words n_impl_ArrOk
  rw [impl_str_eq]
  cases ha : arrOk a0
  · rfl
  have hg := geo_iff.1 (arrOk_geo ha)
  have hl := arrOk_len ha
  have h1 : F_impl_Words_125 (ms_impl_Words_125 a1 a0.2.2.1.length a0 []) = some (bif miss2 (fun (i : Nat) => wordOk a0 i a1) a0.2.1.1.toNat then .inr (mz_impl_Words_125 false) else .inl (mo_impl_Words_125 (missAt (fun (i : Nat) => wordOk a0 i a1) a0.2.1.1.toNat) (wordList a0 a1 a0.2.1.1.toNat))) :=
    loopN_all (step := stx_impl_Words_125) (fun i => mk_impl_Words_125 a1 (missAt (fun (i : Nat) => wordOk a0 i a1) i) a0.2.2.1.length i a0 (wordList a0 a1 i)) a0.2.1.1.toNat (fun i => !wordOk a0 i a1 && leb 0 (missAt (fun (i : Nat) => wordOk a0 i a1) i)) _ _ (fun i hi => by
      simp only [stx_impl_Words_125, mk_impl_Words_125, st_impl_Words_125, ltb_t (show (i : Int) < a0.2.2.1.length by omega), cond_true, wr (show -9223372036854775808 ≤ (i : Int) + 1 by omega) (by omega), Int.natCast_add, Int.natCast_one, Int.toNat_natCast, pr_eta, ot_impl_wordAt a0 i a1 (inb_nat (show i < a0.2.2.1.length by omega)), n_impl_wordAt, bnd_some, missAt]
      rw [apok_iff.2 (show ((wordList a0 a1 i).length + [word a0 i a1].length) * 8 ≤ 140737488355328 by simp only [List.length_cons, List.length_nil, wordList_len]; omega), wordList_succ]
      cases wordOk a0 i a1 <;> cases leb 0 (missAt (fun (i : Nat) => wordOk a0 i a1) i) <;> rfl) (by simp only [stx_impl_Words_125, mk_impl_Words_125, st_impl_Words_125, ltb_f (show (a0.2.2.1.length : Int) ≤ (a0.2.1.1.toNat : Int) by omega), cond_false]) _ (by show _ < 18446744073709551616; omega)
  rw [h1]
  cases a0.2.2.2.2.2.2.2.2.2.2.2
  · cases strOk a0.2.1 a1
    · rfl
    · unfold words
      cases miss2 (fun (i : Nat) => wordOk a0 i a1) a0.2.1.1.toNat
      · simp only [cond_false, segM_inl, n_impl_MissingWord]
        cases hm : leb 0 (missAt (fun (i : Nat) => wordOk a0 i a1) a0.2.1.1.toNat)
        · rfl
        · obtain ⟨h2, h3⟩ := miss_word a0 a1 a0.2.1.1.toNat hm
          rw [h2, h3]; rfl
      · rfl
  · rfl
noncomputable def con_impl_Words : Con := ⟨I_impl_Words, U_impl_Words, fun x => (fun n => some ((n.1, n.2, ()), ())) (n_impl_Words x.1 x.2.1)⟩
theorem ok_impl_Words : ConOk Tryz.prog 77 con_impl_Words := (ok0_impl_Words).mono (fun x r hk h => (nn_impl_Words x.1 x.2.1 hk).trans h)
end
end Go.Tf
