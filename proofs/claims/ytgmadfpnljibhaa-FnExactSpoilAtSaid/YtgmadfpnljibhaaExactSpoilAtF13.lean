/- Functions of the program, and what they come to. -/
import Derived.Test.YtgmadfpnljibhaaExactSpoilAtF12
namespace Go.Tf
open Go.Proofs
set_option synthInstance.maxHeartbeats 400000
set_option synthInstance.maxSize 10000
set_option linter.unusedVariables false
set_option linter.unusedSimpArgs false
set_option maxRecDepth 100000
/-! laws_heldWrS -/
section
noncomputable def B_laws_heldWrS : Code := (Try.f115.body).getD .skip
noncomputable def E_laws_heldWrS : Env := envOf TT [(116, con_laws_heldIntS)] []
theorem fr_laws_heldWrS_0 : FrOk Try.prog ⟨E_laws_heldWrS, 31, fun _ => none⟩ B_laws_heldWrS := frOk_base mixed tt_ok ⟨ok_laws_heldIntS, trivial⟩
noncomputable def D_laws_heldWrS_0 : Nat → Option Seg := fun _ => none
def L_laws_heldWrS_13 : Shape := ⟨[(0, false, [.br tW]), (1, false, [.int .i64]), (5, false, [.int .i64])], [], []⟩
def S_laws_heldWrS_13 : Shape := ⟨[(0, false, [.br tW]), (1, false, [.int .i64]), (5, false, [.ci .i64 0])], [], []⟩
def O_laws_heldWrS_13 : Shape := ⟨[(1, false, [.int .i64])], [], []⟩
def Z_laws_heldWrS_13 : Shape := ⟨[(4, false, [.int .i64])], [], []⟩
noncomputable def st_laws_heldWrS_13 (v0 : List dW) (v1 v2 : Int) : Option ((L_laws_heldWrS_13).X ⊕ ((O_laws_heldWrS_13).X ⊕ (Z_laws_heldWrS_13).X)) :=
  bif (ltb v2 (v0.length : Int)) then
    bif (inb v2 v0.length) then
      bif ((nth v0 v2 (0, [])).1 != v1) then
        some (.inr (.inr ((((-1), ()), ()), (), ())))
      else
        bif (inb v2 v0.length) then
          let r2 := n_laws_heldIntS ((nth v0 v2 (0, [])).2) (IntKind.i64.wrap (v1 + 1))
          bif (ltb r2 0) then
            some (.inr (.inr ((((-1), ()), ()), (), ())))
          else
            some (.inl (((v0, ()), (r2, ()), ((IntKind.i64.wrap (v2 + 1)), ()), ()), (), ()))
        else none
    else none
  else
    some (.inr (.inl (((v1, ()), ()), (), ())))
noncomputable def stx_laws_heldWrS_13 (x : (L_laws_heldWrS_13).X) := st_laws_heldWrS_13 x.1.1.1 x.1.2.1.1 x.1.2.2.1.1
def em_laws_heldWrS_13 (x : (S_laws_heldWrS_13).X) : (L_laws_heldWrS_13).X := (((x.1.1.1, ()), (x.1.2.1.1, ()), (0, ()), ()), (), ())
noncomputable def c_laws_heldWrS_13 : Code := (subN B_laws_heldWrS 64 52).getD .skip
theorem a_laws_heldWrS_13 : subN B_laws_heldWrS 64 13 = some (.block 0 (.loop c_laws_heldWrS_13)) := by kernel_rfl
theorem r_laws_heldWrS_13 (x : (L_laws_heldWrS_13).X) : roundT ⟨E_laws_heldWrS, 31, D_laws_heldWrS_0⟩ 0 c_laws_heldWrS_13 52 L_laws_heldWrS_13 O_laws_heldWrS_13 Z_laws_heldWrS_13 x = stx_laws_heldWrS_13 x := by kernel_rfl
def fu_laws_heldWrS_13 (x : (S_laws_heldWrS_13).X) : Nat := 18446744073709551616
noncomputable def F_laws_heldWrS_13 (x : (S_laws_heldWrS_13).X) : Option ((O_laws_heldWrS_13).X ⊕ (Z_laws_heldWrS_13).X) := loopN stx_laws_heldWrS_13 (fu_laws_heldWrS_13 x) (em_laws_heldWrS_13 x)
noncomputable def sg_laws_heldWrS_13 : Seg := ⟨S_laws_heldWrS_13, O_laws_heldWrS_13, Z_laws_heldWrS_13, F_laws_heldWrS_13⟩
noncomputable def D_laws_heldWrS_1 : Nat → Option Seg := fun q => bif Nat.beq q 13 then some sg_laws_heldWrS_13 else D_laws_heldWrS_0 q
theorem fr_laws_heldWrS_1 : FrOk Try.prog ⟨E_laws_heldWrS, 31, D_laws_heldWrS_1⟩ B_laws_heldWrS := (fr_laws_heldWrS_0).loop (sg := sg_laws_heldWrS_13) L_laws_heldWrS_13 em_laws_heldWrS_13 (by decide) a_laws_heldWrS_13 stx_laws_heldWrS_13 fu_laws_heldWrS_13 (by decide) (fun _ => rfl) (fun x r _ h => h) r_laws_heldWrS_13
abbrev I_laws_heldWrS : List Par := [.rd tWs, .rd tI]
abbrev U_laws_heldWrS : List OT := [⟨false, tI, .fz⟩]
noncomputable def raw_laws_heldWrS (a0 : List dW) (a1 : Int) : Option (ResD U_laws_heldWrS × MutD I_laws_heldWrS) :=
  segM (F_laws_heldWrS_13 (((a0, ()), (a1, ()), ((), ()), ()), (), ())) (fun y2 =>
    some ((y2.1.1.1, ()), ())) (fun y2 =>
    some ((y2.1.1.1, ()), ()))
theorem e_laws_heldWrS (x : InD I_laws_heldWrS) : execF ⟨E_laws_heldWrS, 31, D_laws_heldWrS_1⟩ Try.f115.results.toList B_laws_heldWrS I_laws_heldWrS U_laws_heldWrS x = raw_laws_heldWrS x.1 x.2.1 := by kernel_rfl
theorem ok0_laws_heldWrS : ConOk Try.prog 115 ⟨I_laws_heldWrS, U_laws_heldWrS, fun x => raw_laws_heldWrS x.1 x.2.1⟩ := conOk_exec (fr_laws_heldWrS_1) Try.func115 (by kernel_rfl) (by kernel_rfl) Try.ntmps115.symm (by decide) (fun x r h => (e_laws_heldWrS x).trans h)
noncomputable def hd_Wr (x : dW) (k : Int) : Int := bif x.1 != k then -1 else n_laws_heldIntS x.2 (IntKind.i64.wrap (k + 1))
noncomputable def n_laws_heldWrS (a0 : List (dW)) (a1 : Int) : Int := (szG hd_Wr a0 a1).getD (-1)
theorem nn_laws_heldWrS (a0 : List (dW)) (a1 : Int) (hk : InOk I_laws_heldWrS (a0, a1, ())) : raw_laws_heldWrS a0 a1 = (fun n => some ((n, ()), ())) (n_laws_heldWrS a0 a1) := by
  have hb : a0.length * 32 ≤ 2 ^ 47 := hk.1.1
  have hl : F_laws_heldWrS_13 (((a0, ()), (a1, ()), ((), ()), ()), (), ()) = some (match szG hd_Wr a0 a1 with | some r => .inl (((r, ()), ()), (), ()) | none => .inr ((((-1), ()), ()), (), ())) :=
    loopN_sz (step := stx_laws_heldWrS_13) a0 ((0, []) : dW) (fun i k => (((a0, ()), (k, ()), ((i : Int), ()), ()), (), ())) hd_Wr (fun r => .inl (((r, ()), ()), (), ())) (.inr ((((-1), ()), ()), (), ())) (fun i s hi => by
      simp only [stx_laws_heldWrS_13, st_laws_heldWrS_13, ltb_t (show (i : Int) < a0.length by omega), inb_nat hi, nth_nat, cond_true, wr (show -9223372036854775808 ≤ (i : Int) + 1 by omega) (by omega), Int.natCast_add, Int.natCast_one, hd_Wr]
      cases ((a0.getD i ((0, []) : dW)).1 != s)
      · simp only [cond_false]
        cases ltb (n_laws_heldIntS (a0.getD i ((0, []) : dW)).2 (IntKind.i64.wrap (s + 1))) 0 <;> rfl
      · rfl) (fun s => by simp only [stx_laws_heldWrS_13, st_laws_heldWrS_13, ltb_f (Int.le_refl _), cond_false]) a1 _ (by show _ < 18446744073709551616; omega)
  unfold raw_laws_heldWrS n_laws_heldWrS
  rw [hl]
  cases szG hd_Wr a0 a1 <;> rfl
noncomputable def con_laws_heldWrS : Con := ⟨I_laws_heldWrS, U_laws_heldWrS, fun x => (fun n => some ((n, ()), ())) (n_laws_heldWrS x.1 x.2.1)⟩
theorem ok_laws_heldWrS : ConOk Try.prog 115 con_laws_heldWrS := (ok0_laws_heldWrS).mono (fun x r hk h => (nn_laws_heldWrS x.1 x.2.1 hk).trans h)
end

/-! laws_heldMemS -/
section
noncomputable def B_laws_heldMemS : Code := (Try.f75.body).getD .skip
noncomputable def E_laws_heldMemS : Env := envOf TT [(114, con_laws_heldIntSS), (115, con_laws_heldWrS), (116, con_laws_heldIntS)] []
theorem fr_laws_heldMemS_0 : FrOk Try.prog ⟨E_laws_heldMemS, 51, fun _ => none⟩ B_laws_heldMemS := frOk_base mixed tt_ok ⟨ok_laws_heldIntSS, ok_laws_heldWrS, ok_laws_heldIntS, trivial⟩
noncomputable def D_laws_heldMemS_0 : Nat → Option Seg := fun _ => none
def L_laws_heldMemS_13 : Shape := ⟨[(0, false, [.br tM]), (1, false, [.int .i64]), (5, false, [.int .i64])], [], []⟩
def S_laws_heldMemS_13 : Shape := ⟨[(0, false, [.br tM]), (1, false, [.int .i64]), (5, false, [.ci .i64 0])], [], []⟩
def O_laws_heldMemS_13 : Shape := ⟨[(1, false, [.int .i64])], [], []⟩
def Z_laws_heldMemS_13 : Shape := ⟨[(4, false, [.int .i64])], [], []⟩
noncomputable def st_laws_heldMemS_13 (v0 : List dM) (v1 v2 : Int) : Option ((L_laws_heldMemS_13).X ⊕ ((O_laws_heldMemS_13).X ⊕ (Z_laws_heldMemS_13).X)) :=
  bif (ltb v2 (v0.length : Int)) then
    bif (inb v2 v0.length) then
      let r4 := n_laws_heldIntSS ((nth v0 v2 ([], [], false, [])).1) v1
      bif (ltb r4 0) then
        some (.inr (.inr ((((-1), ()), ()), (), ())))
      else
        bif (inb v2 v0.length) then
          let r5 := n_laws_heldWrS (((nth v0 v2 ([], [], false, [])).2).1) r4
          bif (ltb r5 0) then
            some (.inr (.inr ((((-1), ()), ()), (), ())))
          else
            bif (inb v2 v0.length) then
              bif (!((((nth v0 v2 ([], [], false, [])).2).2).1 == ((r5.tmod 3) == 0))) then
                some (.inr (.inr ((((-1), ()), ()), (), ())))
              else
                bif (inb v2 v0.length) then
                  let r6 := n_laws_heldIntS ((((nth v0 v2 ([], [], false, [])).2).2).2) (IntKind.i64.wrap (r5 + 1))
                  bif (ltb r6 0) then
                    some (.inr (.inr ((((-1), ()), ()), (), ())))
                  else
                    some (.inl (((v0, ()), (r6, ()), ((IntKind.i64.wrap (v2 + 1)), ()), ()), (), ()))
                else none
            else none
        else none
    else none
  else
    some (.inr (.inl (((v1, ()), ()), (), ())))
noncomputable def stx_laws_heldMemS_13 (x : (L_laws_heldMemS_13).X) := st_laws_heldMemS_13 x.1.1.1 x.1.2.1.1 x.1.2.2.1.1
def em_laws_heldMemS_13 (x : (S_laws_heldMemS_13).X) : (L_laws_heldMemS_13).X := (((x.1.1.1, ()), (x.1.2.1.1, ()), (0, ()), ()), (), ())
noncomputable def c_laws_heldMemS_13 : Code := (subN B_laws_heldMemS 64 52).getD .skip
theorem a_laws_heldMemS_13 : subN B_laws_heldMemS 64 13 = some (.block 0 (.loop c_laws_heldMemS_13)) := by kernel_rfl
theorem r_laws_heldMemS_13 (x : (L_laws_heldMemS_13).X) : roundT ⟨E_laws_heldMemS, 51, D_laws_heldMemS_0⟩ 0 c_laws_heldMemS_13 52 L_laws_heldMemS_13 O_laws_heldMemS_13 Z_laws_heldMemS_13 x = stx_laws_heldMemS_13 x := by kernel_rfl
def fu_laws_heldMemS_13 (x : (S_laws_heldMemS_13).X) : Nat := 18446744073709551616
noncomputable def F_laws_heldMemS_13 (x : (S_laws_heldMemS_13).X) : Option ((O_laws_heldMemS_13).X ⊕ (Z_laws_heldMemS_13).X) := loopN stx_laws_heldMemS_13 (fu_laws_heldMemS_13 x) (em_laws_heldMemS_13 x)
noncomputable def sg_laws_heldMemS_13 : Seg := ⟨S_laws_heldMemS_13, O_laws_heldMemS_13, Z_laws_heldMemS_13, F_laws_heldMemS_13⟩
noncomputable def D_laws_heldMemS_1 : Nat → Option Seg := fun q => bif Nat.beq q 13 then some sg_laws_heldMemS_13 else D_laws_heldMemS_0 q
theorem fr_laws_heldMemS_1 : FrOk Try.prog ⟨E_laws_heldMemS, 51, D_laws_heldMemS_1⟩ B_laws_heldMemS := (fr_laws_heldMemS_0).loop (sg := sg_laws_heldMemS_13) L_laws_heldMemS_13 em_laws_heldMemS_13 (by decide) a_laws_heldMemS_13 stx_laws_heldMemS_13 fu_laws_heldMemS_13 (by decide) (fun _ => rfl) (fun x r _ h => h) r_laws_heldMemS_13
abbrev I_laws_heldMemS : List Par := [.rd tMs, .rd tI]
abbrev U_laws_heldMemS : List OT := [⟨false, tI, .fz⟩]
noncomputable def raw_laws_heldMemS (a0 : List dM) (a1 : Int) : Option (ResD U_laws_heldMemS × MutD I_laws_heldMemS) :=
  segM (F_laws_heldMemS_13 (((a0, ()), (a1, ()), ((), ()), ()), (), ())) (fun y6 =>
    some ((y6.1.1.1, ()), ())) (fun y6 =>
    some ((y6.1.1.1, ()), ()))
theorem e_laws_heldMemS (x : InD I_laws_heldMemS) : execF ⟨E_laws_heldMemS, 51, D_laws_heldMemS_1⟩ Try.f75.results.toList B_laws_heldMemS I_laws_heldMemS U_laws_heldMemS x = raw_laws_heldMemS x.1 x.2.1 := by kernel_rfl
theorem ok0_laws_heldMemS : ConOk Try.prog 75 ⟨I_laws_heldMemS, U_laws_heldMemS, fun x => raw_laws_heldMemS x.1 x.2.1⟩ := conOk_exec (fr_laws_heldMemS_1) Try.func75 (by kernel_rfl) (by kernel_rfl) Try.ntmps75.symm (by decide) (fun x r h => (e_laws_heldMemS x).trans h)
noncomputable def hd_Mem (x : dM) (k : Int) : Int := bif ltb (n_laws_heldIntSS x.1 k) 0 then -1 else bif ltb (n_laws_heldWrS x.2.1 (n_laws_heldIntSS x.1 k)) 0 then -1 else bif !(x.2.2.1 == ((n_laws_heldWrS x.2.1 (n_laws_heldIntSS x.1 k)).tmod 3 == 0)) then -1 else n_laws_heldIntS x.2.2.2 (IntKind.i64.wrap (n_laws_heldWrS x.2.1 (n_laws_heldIntSS x.1 k) + 1))
noncomputable def n_laws_heldMemS (a0 : List (dM)) (a1 : Int) : Int := (szG hd_Mem a0 a1).getD (-1)
theorem nn_laws_heldMemS (a0 : List (dM)) (a1 : Int) (hk : InOk I_laws_heldMemS (a0, a1, ())) : raw_laws_heldMemS a0 a1 = (fun n => some ((n, ()), ())) (n_laws_heldMemS a0 a1) := by
  have hb : a0.length * 80 ≤ 2 ^ 47 := hk.1.1
  have hl : F_laws_heldMemS_13 (((a0, ()), (a1, ()), ((), ()), ()), (), ()) = some (match szG hd_Mem a0 a1 with | some r => .inl (((r, ()), ()), (), ()) | none => .inr ((((-1), ()), ()), (), ())) :=
    loopN_sz (step := stx_laws_heldMemS_13) a0 (([], [], false, []) : dM) (fun i k => (((a0, ()), (k, ()), ((i : Int), ()), ()), (), ())) hd_Mem (fun r => .inl (((r, ()), ()), (), ())) (.inr ((((-1), ()), ()), (), ())) (fun i s hi => by
      simp only [stx_laws_heldMemS_13, st_laws_heldMemS_13, ltb_t (show (i : Int) < a0.length by omega), inb_nat hi, nth_nat, cond_true, wr (show -9223372036854775808 ≤ (i : Int) + 1 by omega) (by omega), Int.natCast_add, Int.natCast_one, hd_Mem]
      cases ltb (n_laws_heldIntSS (a0.getD i (([], [], false, []) : dM)).1 s) 0
      · simp only [cond_false]
        cases ltb (n_laws_heldWrS (a0.getD i (([], [], false, []) : dM)).2.1 (n_laws_heldIntSS (a0.getD i (([], [], false, []) : dM)).1 s)) 0
        · simp only [cond_false]
          cases ((a0.getD i (([], [], false, []) : dM)).2.2.1 == ((n_laws_heldWrS (a0.getD i (([], [], false, []) : dM)).2.1 (n_laws_heldIntSS (a0.getD i (([], [], false, []) : dM)).1 s)).tmod 3 == 0))
          · rfl
          · simp only [Bool.not_true, cond_false]
            cases ltb (n_laws_heldIntS (a0.getD i (([], [], false, []) : dM)).2.2.2 (IntKind.i64.wrap (n_laws_heldWrS (a0.getD i (([], [], false, []) : dM)).2.1 (n_laws_heldIntSS (a0.getD i (([], [], false, []) : dM)).1 s) + 1))) 0 <;> rfl
        · rfl
      · rfl) (fun s => by simp only [stx_laws_heldMemS_13, st_laws_heldMemS_13, ltb_f (Int.le_refl _), cond_false]) a1 _ (by show _ < 18446744073709551616; omega)
  unfold raw_laws_heldMemS n_laws_heldMemS
  rw [hl]
  cases szG hd_Mem a0 a1 <;> rfl
noncomputable def con_laws_heldMemS : Con := ⟨I_laws_heldMemS, U_laws_heldMemS, fun x => (fun n => some ((n, ()), ())) (n_laws_heldMemS x.1 x.2.1)⟩
theorem ok_laws_heldMemS : ConOk Try.prog 75 con_laws_heldMemS := (ok0_laws_heldMemS).mono (fun x r hk h => (nn_laws_heldMemS x.1 x.2.1 hk).trans h)
theorem held_wrS (l : List dW) (k : Int) (h0 : 0 ≤ k) (h : k + ((l.map (fun x : dW => 1 + x.2.length)).sum : Nat) ≤ 9223372036854775807) : (markL u_Wr l k).1 = k + ((l.map (fun x : dW => 1 + x.2.length)).sum : Nat) ∧ szG hd_Wr (markL u_Wr l k).2 k = some (k + ((l.map (fun x : dW => 1 + x.2.length)).sum : Nat)) :=
  held_list (m := fun x : dW => 1 + x.2.length) (fun x k h0 h => by
    have hw : IntKind.i64.wrap (k + 1) = k + 1 := wr (by omega) (by omega)
    unfold u_Wr hd_Wr
    simp only [hw, bne_self_eq_false, cond_false, held_marks, markEnd_eq x.2.length (k + 1) (by omega) (by omega)]
    omega) l k h0 h
theorem held_intSS (l : List (List Int)) (k : Int) (h0 : 0 ≤ k) (h : k + ((l.map (fun x : List Int => x.length)).sum : Nat) ≤ 9223372036854775807) : (markL u_IntS l k).1 = k + ((l.map (fun x : List Int => x.length)).sum : Nat) ∧ szG hd_IntS (markL u_IntS l k).2 k = some (k + ((l.map (fun x : List Int => x.length)).sum : Nat)) :=
  held_list (m := fun x : List Int => x.length) (fun x k h0 h => by
    unfold u_IntS hd_IntS n_laws_markIntS
    simp only [held_marks, markEnd_eq x.length k (by omega) (by omega), and_self]) l k h0 h
theorem held_mem (x : dM) (k : Int) (h0 : 0 ≤ k) (h : k + (mMem x : Nat) ≤ 9223372036854775807) : (u_Mem x k).1 = k + (mMem x : Nat) ∧ hd_Mem (u_Mem x k).2 k = k + (mMem x : Nat) := by
  unfold mMem at h ⊢
  obtain ⟨a1, a2⟩ := held_intSS x.1 k h0 (by omega)
  obtain ⟨b1, b2⟩ := held_wrS x.2.1 (k + ((x.1.map (fun x : List Int => x.length)).sum : Nat)) (by omega) (by omega)
  have hw : ∀ n : Int, 0 ≤ n → n + 1 ≤ 9223372036854775807 → IntKind.i64.wrap (n + 1) = n + 1 := fun n h1 h2 => wr (by omega) (by omega)
  unfold u_Mem hd_Mem
  simp only [n_laws_markIntSS, n_laws_markWrS, n_laws_markIntS, n_laws_heldIntSS, n_laws_heldWrS, a1, a2, b1, b2, Option.getD_some]
  rw [hw _ (by omega) (by omega), ltb_f (show 0 ≤ k + ((x.1.map (fun x : List Int => x.length)).sum : Nat) by omega), cond_false, ltb_f (by omega), cond_false, beq_self_eq_true, Bool.not_true, cond_false, held_marks, markEnd_eq _ _ (by omega) (by omega)]
  omega
theorem held_memS (l : List dM) (k : Int) (h0 : 0 ≤ k) (h : k + (mMems l : Nat) ≤ 9223372036854775807) : (markL u_Mem l k).1 = k + (mMems l : Nat) ∧ szG hd_Mem (markL u_Mem l k).2 k = some (k + (mMems l : Nat)) :=
  held_list (m := mMem) (fun x k h0 h => held_mem x k h0 h) l k h0 h
theorem mk_mems (l : List dM) (h : mMems l ≤ 4611686018427387904) : (n_laws_markMemS l 1).1 = 1 + (mMems l : Nat) ∧ n_laws_heldMemS (n_laws_markMemS l 1).2 1 = 1 + (mMems l : Nat) := by
  obtain ⟨h1, h2⟩ := held_memS l 1 (by omega) (by omega)
  unfold n_laws_heldMemS n_laws_markMemS
  exact ⟨h1, by rw [h2]; rfl⟩
end

/-! laws_heldEntS -/
section
noncomputable def B_laws_heldEntS : Code := (Try.f76.body).getD .skip
noncomputable def E_laws_heldEntS : Env := envOf TT [(116, con_laws_heldIntS)] []
theorem fr_laws_heldEntS_0 : FrOk Try.prog ⟨E_laws_heldEntS, 31, fun _ => none⟩ B_laws_heldEntS := frOk_base mixed tt_ok ⟨ok_laws_heldIntS, trivial⟩
noncomputable def D_laws_heldEntS_0 : Nat → Option Seg := fun _ => none
def L_laws_heldEntS_13 : Shape := ⟨[(0, false, [.br tW]), (1, false, [.int .i64]), (5, false, [.int .i64])], [], []⟩
def S_laws_heldEntS_13 : Shape := ⟨[(0, false, [.br tW]), (1, false, [.int .i64]), (5, false, [.ci .i64 0])], [], []⟩
def O_laws_heldEntS_13 : Shape := ⟨[(1, false, [.int .i64])], [], []⟩
def Z_laws_heldEntS_13 : Shape := ⟨[(4, false, [.int .i64])], [], []⟩
noncomputable def st_laws_heldEntS_13 (v0 : List dW) (v1 v2 : Int) : Option ((L_laws_heldEntS_13).X ⊕ ((O_laws_heldEntS_13).X ⊕ (Z_laws_heldEntS_13).X)) :=
  bif (ltb v2 (v0.length : Int)) then
    bif (inb v2 v0.length) then
      bif ((nth v0 v2 (0, [])).1 != v1) then
        some (.inr (.inr ((((-1), ()), ()), (), ())))
      else
        bif (inb v2 v0.length) then
          let r2 := n_laws_heldIntS ((nth v0 v2 (0, [])).2) (IntKind.i64.wrap (v1 + 1))
          bif (ltb r2 0) then
            some (.inr (.inr ((((-1), ()), ()), (), ())))
          else
            some (.inl (((v0, ()), (r2, ()), ((IntKind.i64.wrap (v2 + 1)), ()), ()), (), ()))
        else none
    else none
  else
    some (.inr (.inl (((v1, ()), ()), (), ())))
noncomputable def stx_laws_heldEntS_13 (x : (L_laws_heldEntS_13).X) := st_laws_heldEntS_13 x.1.1.1 x.1.2.1.1 x.1.2.2.1.1
def em_laws_heldEntS_13 (x : (S_laws_heldEntS_13).X) : (L_laws_heldEntS_13).X := (((x.1.1.1, ()), (x.1.2.1.1, ()), (0, ()), ()), (), ())
noncomputable def c_laws_heldEntS_13 : Code := (subN B_laws_heldEntS 64 52).getD .skip
theorem a_laws_heldEntS_13 : subN B_laws_heldEntS 64 13 = some (.block 0 (.loop c_laws_heldEntS_13)) := by kernel_rfl
theorem r_laws_heldEntS_13 (x : (L_laws_heldEntS_13).X) : roundT ⟨E_laws_heldEntS, 31, D_laws_heldEntS_0⟩ 0 c_laws_heldEntS_13 52 L_laws_heldEntS_13 O_laws_heldEntS_13 Z_laws_heldEntS_13 x = stx_laws_heldEntS_13 x := by kernel_rfl
def fu_laws_heldEntS_13 (x : (S_laws_heldEntS_13).X) : Nat := 18446744073709551616
noncomputable def F_laws_heldEntS_13 (x : (S_laws_heldEntS_13).X) : Option ((O_laws_heldEntS_13).X ⊕ (Z_laws_heldEntS_13).X) := loopN stx_laws_heldEntS_13 (fu_laws_heldEntS_13 x) (em_laws_heldEntS_13 x)
noncomputable def sg_laws_heldEntS_13 : Seg := ⟨S_laws_heldEntS_13, O_laws_heldEntS_13, Z_laws_heldEntS_13, F_laws_heldEntS_13⟩
noncomputable def D_laws_heldEntS_1 : Nat → Option Seg := fun q => bif Nat.beq q 13 then some sg_laws_heldEntS_13 else D_laws_heldEntS_0 q
theorem fr_laws_heldEntS_1 : FrOk Try.prog ⟨E_laws_heldEntS, 31, D_laws_heldEntS_1⟩ B_laws_heldEntS := (fr_laws_heldEntS_0).loop (sg := sg_laws_heldEntS_13) L_laws_heldEntS_13 em_laws_heldEntS_13 (by decide) a_laws_heldEntS_13 stx_laws_heldEntS_13 fu_laws_heldEntS_13 (by decide) (fun _ => rfl) (fun x r _ h => h) r_laws_heldEntS_13
abbrev I_laws_heldEntS : List Par := [.rd tWs, .rd tI]
abbrev U_laws_heldEntS : List OT := [⟨false, tI, .fz⟩]
noncomputable def raw_laws_heldEntS (a0 : List dW) (a1 : Int) : Option (ResD U_laws_heldEntS × MutD I_laws_heldEntS) :=
  segM (F_laws_heldEntS_13 (((a0, ()), (a1, ()), ((), ()), ()), (), ())) (fun y2 =>
    some ((y2.1.1.1, ()), ())) (fun y2 =>
    some ((y2.1.1.1, ()), ()))
theorem e_laws_heldEntS (x : InD I_laws_heldEntS) : execF ⟨E_laws_heldEntS, 31, D_laws_heldEntS_1⟩ Try.f76.results.toList B_laws_heldEntS I_laws_heldEntS U_laws_heldEntS x = raw_laws_heldEntS x.1 x.2.1 := by kernel_rfl
theorem ok0_laws_heldEntS : ConOk Try.prog 76 ⟨I_laws_heldEntS, U_laws_heldEntS, fun x => raw_laws_heldEntS x.1 x.2.1⟩ := conOk_exec (fr_laws_heldEntS_1) Try.func76 (by kernel_rfl) (by kernel_rfl) Try.ntmps76.symm (by decide) (fun x r h => (e_laws_heldEntS x).trans h)
noncomputable def hd_Ent (x : dW) (k : Int) : Int := bif x.1 != k then -1 else n_laws_heldIntS x.2 (IntKind.i64.wrap (k + 1))
noncomputable def n_laws_heldEntS (a0 : List (dW)) (a1 : Int) : Int := (szG hd_Ent a0 a1).getD (-1)
theorem nn_laws_heldEntS (a0 : List (dW)) (a1 : Int) (hk : InOk I_laws_heldEntS (a0, a1, ())) : raw_laws_heldEntS a0 a1 = (fun n => some ((n, ()), ())) (n_laws_heldEntS a0 a1) := by
  have hb : a0.length * 32 ≤ 2 ^ 47 := hk.1.1
  have hl : F_laws_heldEntS_13 (((a0, ()), (a1, ()), ((), ()), ()), (), ()) = some (match szG hd_Ent a0 a1 with | some r => .inl (((r, ()), ()), (), ()) | none => .inr ((((-1), ()), ()), (), ())) :=
    loopN_sz (step := stx_laws_heldEntS_13) a0 ((0, []) : dW) (fun i k => (((a0, ()), (k, ()), ((i : Int), ()), ()), (), ())) hd_Ent (fun r => .inl (((r, ()), ()), (), ())) (.inr ((((-1), ()), ()), (), ())) (fun i s hi => by
      simp only [stx_laws_heldEntS_13, st_laws_heldEntS_13, ltb_t (show (i : Int) < a0.length by omega), inb_nat hi, nth_nat, cond_true, wr (show -9223372036854775808 ≤ (i : Int) + 1 by omega) (by omega), Int.natCast_add, Int.natCast_one, hd_Ent]
      cases ((a0.getD i ((0, []) : dW)).1 != s)
      · simp only [cond_false]
        cases ltb (n_laws_heldIntS (a0.getD i ((0, []) : dW)).2 (IntKind.i64.wrap (s + 1))) 0 <;> rfl
      · rfl) (fun s => by simp only [stx_laws_heldEntS_13, st_laws_heldEntS_13, ltb_f (Int.le_refl _), cond_false]) a1 _ (by show _ < 18446744073709551616; omega)
  unfold raw_laws_heldEntS n_laws_heldEntS
  rw [hl]
  cases szG hd_Ent a0 a1 <;> rfl
noncomputable def con_laws_heldEntS : Con := ⟨I_laws_heldEntS, U_laws_heldEntS, fun x => (fun n => some ((n, ()), ())) (n_laws_heldEntS x.1 x.2.1)⟩
theorem ok_laws_heldEntS : ConOk Try.prog 76 con_laws_heldEntS := (ok0_laws_heldEntS).mono (fun x r hk h => (nn_laws_heldEntS x.1 x.2.1 hk).trans h)
theorem held_entS (l : List dW) (k : Int) (h0 : 0 ≤ k) (h : k + (mEnts l : Nat) ≤ 9223372036854775807) : (markL u_Ent l k).1 = k + (mEnts l : Nat) ∧ szG hd_Ent (markL u_Ent l k).2 k = some (k + (mEnts l : Nat)) :=
  held_list (m := fun x : dW => 1 + x.2.length) (fun x k h0 h => by
    have hw : IntKind.i64.wrap (k + 1) = k + 1 := wr (by omega) (by omega)
    unfold u_Ent hd_Ent
    simp only [hw, bne_self_eq_false, cond_false, held_marks, markEnd_eq x.2.length (k + 1) (by omega) (by omega)]
    omega) l k h0 h
end

/-! laws_heldArr -/
section
noncomputable def B_laws_heldArr : Code := (Try.f32.body).getD .skip
noncomputable def E_laws_heldArr : Env := envOf TT [(75, con_laws_heldMemS), (76, con_laws_heldEntS)] []
theorem fr_laws_heldArr_0 : FrOk Try.prog ⟨E_laws_heldArr, 18, fun _ => none⟩ B_laws_heldArr := frOk_base mixed tt_ok ⟨ok_laws_heldMemS, ok_laws_heldEntS, trivial⟩
noncomputable def D_laws_heldArr_0 : Nat → Option Seg := fun _ => none
abbrev I_laws_heldArr : List Par := [.rd tA, .rd tI]
abbrev U_laws_heldArr : List OT := [⟨false, tI, .fz⟩]
noncomputable def raw_laws_heldArr (a0 : dA) (a1 : Int) : Option (ResD U_laws_heldArr × MutD I_laws_heldArr) :=
  let r1 := n_laws_heldMemS a0.2.2.1 a1
  bif (ltb r1 0) then
    some (((-1), ()), ())
  else
    let r2 := n_laws_heldEntS a0.2.2.2.2.2.2.2.2.1 r1
    bif (ltb r2 0) then
      some (((-1), ()), ())
    else
      some ((r2, ()), ())
theorem e_laws_heldArr (x : InD I_laws_heldArr) : execF ⟨E_laws_heldArr, 18, D_laws_heldArr_0⟩ Try.f32.results.toList B_laws_heldArr I_laws_heldArr U_laws_heldArr x = raw_laws_heldArr x.1 x.2.1 := by kernel_rfl
theorem ok0_laws_heldArr : ConOk Try.prog 32 ⟨I_laws_heldArr, U_laws_heldArr, fun x => raw_laws_heldArr x.1 x.2.1⟩ := conOk_exec (fr_laws_heldArr_0) Try.func32 (by kernel_rfl) (by kernel_rfl) Try.ntmps32.symm (by decide) (fun x r h => (e_laws_heldArr x).trans h)
noncomputable def n_laws_heldArr (a0 : dA) (a1 : Int) : Int :=
  let r1 := n_laws_heldMemS a0.2.2.1 a1
  bif (ltb r1 0) then
    (-1)
  else
    let r2 := n_laws_heldEntS a0.2.2.2.2.2.2.2.2.1 r1
    bif (ltb r2 0) then
      (-1)
    else
      r2
noncomputable def con_laws_heldArr : Con := ⟨I_laws_heldArr, U_laws_heldArr, fun x => (fun n => some ((n, ()), ())) (n_laws_heldArr x.1 x.2.1)⟩
theorem nn_laws_heldArr (a0 : dA) (a1 : Int) : raw_laws_heldArr a0 a1 = (fun n => some ((n, ()), ())) (n_laws_heldArr a0 a1) := bif_ty (p := fun (n : Int) => ((n, ()), ())) (bif_some (p := fun (n : Int) => ((n, ()), ())) rfl (bif_some (p := fun (n : Int) => ((n, ()), ())) rfl rfl))
theorem ok_laws_heldArr : ConOk Try.prog 32 con_laws_heldArr := (ok0_laws_heldArr).mono (fun x r _ h => (nn_laws_heldArr x.1 x.2.1).trans h)
theorem mk_arr {x : dA} (h : mArr x ≤ 4611686018427387904) : (n_laws_markArr x 1).1 = 1 + (mArr x : Nat) ∧ n_laws_heldArr (n_laws_markArr x 1).2 1 = 1 + (mArr x : Nat) := by
  unfold mArr at h ⊢
  obtain ⟨a1, a2⟩ := held_memS x.2.2.1 1 (by omega) (by omega)
  obtain ⟨b1, b2⟩ := held_entS x.2.2.2.2.2.2.2.2.1 (1 + (mMems x.2.2.1 : Nat)) (by omega) (by omega)
  unfold n_laws_markArr n_laws_heldArr
  simp only [n_laws_markMemS, n_laws_markEntS, n_laws_heldMemS, n_laws_heldEntS, a1, a2, b1, b2, Option.getD_some]
  rw [ltb_f (show (0 : Int) ≤ 1 + (mMems x.2.2.1 : Nat) by omega), cond_false, ltb_f (by omega), cond_false]
  omega
/-- a result with its marks -/
noncomputable abbrev markedA (x : dA) : dA := (x.1, x.2.1, (n_laws_markArr x 1).2.2.2.1, x.2.2.2.1, x.2.2.2.2.1, x.2.2.2.2.2.1, x.2.2.2.2.2.2.1, x.2.2.2.2.2.2.2.1, (n_laws_markArr x 1).2.2.2.2.2.2.2.2.2.1, x.2.2.2.2.2.2.2.2.2)
theorem mk_arr3 {x : dA} (h : mArr x ≤ 4611686018427387904) : ltb (n_laws_markArr x 1).1 0 = false ∧ ltb (n_laws_heldArr (markedA x) 1) 0 = false ∧ (n_laws_heldArr (markedA x) 1 != (n_laws_markArr x 1).1) = false := by
  obtain ⟨h1, h2⟩ := mk_arr h
  rw [show markedA x = (n_laws_markArr x 1).2 from rfl, h1, h2]
  exact ⟨ltb_f (by omega), ltb_f (by omega), by simp⟩
end

/-! laws_FnExactSpoilAt -/
section
noncomputable def B_laws_FnExactSpoilAt : Code := (Try.f5.body).getD .skip
noncomputable def E_laws_FnExactSpoilAt : Env := envOf TT [(26, con_laws_szArr), (27, con_spec_SpoilAt), (28, con_laws_toArr), (29, con_impl_SpoilAt), (30, con_laws_eqArr), (31, con_laws_markArr), (32, con_laws_heldArr)] []
theorem fr_laws_FnExactSpoilAt_0 : FrOk Try.prog ⟨E_laws_FnExactSpoilAt, 79, fun _ => none⟩ B_laws_FnExactSpoilAt := frOk_base mixed tt_ok ⟨ok_laws_szArr, ok_spec_SpoilAt, ok_laws_toArr, ok_impl_SpoilAt, ok_laws_eqArr, ok_laws_markArr, ok_laws_heldArr, trivial⟩
noncomputable def D_laws_FnExactSpoilAt_0 : Nat → Option Seg := fun _ => none
abbrev I_laws_FnExactSpoilAt : List Par := [.rd tA, .rd tI, .rd tI]
abbrev U_laws_FnExactSpoilAt : List OT := [⟨false, tB, .fz⟩]
noncomputable def raw_laws_FnExactSpoilAt (a0 : dA) (a1 a2 : Int) : Option (ResD U_laws_FnExactSpoilAt × MutD I_laws_FnExactSpoilAt) :=
  let r1 := n_laws_szArr a0 1048576
  bif (ltb r1 0) then
    some ((true, ()), ())
  else
    let r2 := n_laws_toArr a0
    let r3 := n_spec_SpoilAt r2 a1 a2
    let r4 := n_laws_toArr a0
    let r5 := n_impl_SpoilAt r4 a1 a2
    let r6 := n_laws_eqArr r5 r3
    bif (!r6) then
      some ((false, ()), ())
    else
      let r7 := n_laws_toArr a0
      let r8 := n_laws_eqArr r4 r7
      bif (!r8) then
        some ((false, ()), ())
      else
        let r9 := n_laws_markArr r4 1
        bif (!(ltb r9.1 0)) then
          let r10 := n_laws_eqArr r5 r3
          bif (!r10) then
            some ((false, ()), ())
          else
            let r11 := n_laws_markArr r5 1
            let r12 := n_laws_heldArr (r5.1, r5.2.1, r11.2.2.2.1, r5.2.2.2.1, r5.2.2.2.2.1, r5.2.2.2.2.2.1, r5.2.2.2.2.2.2.1, r5.2.2.2.2.2.2.2.1, r11.2.2.2.2.2.2.2.2.2.1, r5.2.2.2.2.2.2.2.2.2) 1
            bif (ltb r12 0) then
              some ((false, ()), ())
            else
              bif (r12 != r11.1) then
                some ((false, ()), ())
              else
                let r13 := n_laws_toArr a0
                let r14 := n_impl_SpoilAt r13 a1 a2
                let r15 := n_laws_eqArr r14 r3
                bif (!r15) then
                  some ((false, ()), ())
                else
                  let r16 := n_laws_heldArr (r5.1, r5.2.1, r11.2.2.2.1, r5.2.2.2.1, r5.2.2.2.2.1, r5.2.2.2.2.2.1, r5.2.2.2.2.2.2.1, r5.2.2.2.2.2.2.2.1, r11.2.2.2.2.2.2.2.2.2.1, r5.2.2.2.2.2.2.2.2.2) 1
                  bif (ltb r16 0) then
                    some ((false, ()), ())
                  else
                    bif (r16 != r11.1) then
                      some ((false, ()), ())
                    else
                      some ((true, ()), ())
        else
          some ((false, ()), ())
theorem e_laws_FnExactSpoilAt (x : InD I_laws_FnExactSpoilAt) : execF ⟨E_laws_FnExactSpoilAt, 79, D_laws_FnExactSpoilAt_0⟩ Try.f5.results.toList B_laws_FnExactSpoilAt I_laws_FnExactSpoilAt U_laws_FnExactSpoilAt x = raw_laws_FnExactSpoilAt x.1 x.2.1 x.2.2.1 := by kernel_rfl
theorem ok0_laws_FnExactSpoilAt : ConOk Try.prog 5 ⟨I_laws_FnExactSpoilAt, U_laws_FnExactSpoilAt, fun x => raw_laws_FnExactSpoilAt x.1 x.2.1 x.2.2.1⟩ := conOk_exec (fr_laws_FnExactSpoilAt_0) Try.func5 (by kernel_rfl) (by kernel_rfl) Try.ntmps5.symm (by decide) (fun x r h => (e_laws_FnExactSpoilAt x).trans h)
noncomputable def n_laws_FnExactSpoilAt (a0 : dA) (a1 a2 : Int) : Bool := true
theorem spoilAt_small {a : dA} {m s : Int} (ha : mArr a ≤ 2097152) : mArr (spoilAt a m s) ≤ 2105000 := by
  unfold spoilAt
  cases h : (arrOk a && (inb m a.2.2.1.length && strOk a.2.1 s))
  · show mArr a ≤ _; omega
  · simp only [Bool.and_eq_true] at h
    have hn : Near a.2.2.2.2.2.2.2.2.1 (a.1, a.2.1, a.2.2.1.set m.toNat (spoil (nth a.2.2.1 m noMem) (dataAt s)), a.2.2.2) := by
      have h0 := near_arr h.1
      refine ⟨by show (a.2.2.1.set _ _).length ≤ 5; rw [List.length_set]; exact h0.1, okMems_set h0.2.1 (spoil_ok _ ?_), rfl⟩
      exact nth_mem (P := fun x : dM => memOk x = true) h.2.1 h0.2.1
    exact arr_near ha hn
theorem nn_laws_FnExactSpoilAt (a0 : dA) (a1 a2 : Int) (hk : InOk I_laws_FnExactSpoilAt (a0, a1, a2, ())) : raw_laws_FnExactSpoilAt a0 a1 a2 = (fun n => some ((n, ()), ())) (n_laws_FnExactSpoilAt a0 a1 a2) := by
  unfold raw_laws_FnExactSpoilAt n_laws_FnExactSpoilAt n_impl_SpoilAt n_spec_SpoilAt
  cases h : ltb (n_laws_szArr a0 1048576) 0
  · have hs := szArr_le (a := a0) hk.1 h
    have hf := spoilAt_small (m := a1) (s := a2) hs
    obtain ⟨f1, f2, f3⟩ := mk_arr3 (x := a0) (by omega)
    obtain ⟨g1, g2, g3⟩ := mk_arr3 (x := spoilAt a0 a1 a2) (by omega)
    simp only [h, id_laws_toArr, eqr_laws_eqArr, bne_self_eq_false, Bool.not_true, Bool.not_false, cond_true, cond_false, f1, g2, g3]
  · simp only [h, cond_true]
noncomputable def con_laws_FnExactSpoilAt : Con := ⟨I_laws_FnExactSpoilAt, U_laws_FnExactSpoilAt, fun x => (fun n => some ((n, ()), ())) (n_laws_FnExactSpoilAt x.1 x.2.1 x.2.2.1)⟩
theorem ok_laws_FnExactSpoilAt : ConOk Try.prog 5 con_laws_FnExactSpoilAt := (ok0_laws_FnExactSpoilAt).mono (fun x r hk h => (nn_laws_FnExactSpoilAt x.1 x.2.1 x.2.2.1 hk).trans h)
end
end Go.Tf
