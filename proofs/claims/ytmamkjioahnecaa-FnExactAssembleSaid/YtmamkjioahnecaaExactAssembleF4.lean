/- Functions of the program, and what they come to. -/
import Derived.Test.YtmamkjioahnecaaExactAssembleF3
namespace Go.Tf
open Go.Proofs
set_option synthInstance.maxHeartbeats 400000
set_option synthInstance.maxSize 10000
set_option linter.unusedVariables false
set_option linter.unusedSimpArgs false
set_option maxRecDepth 100000
/-! laws_heldWrS -/
section
noncomputable def B_laws_heldWrS : Code := (Try.f79.body).getD .skip
noncomputable def E_laws_heldWrS : Env := envOf TT [(62, con_laws_heldIntS)] []
theorem fr_laws_heldWrS_0 : FrOk Try.prog ⟨E_laws_heldWrS, 31, fun _ => none⟩ B_laws_heldWrS := frOk_base mixed tt_ok ⟨ok_laws_heldIntS, trivial⟩
noncomputable def D_laws_heldWrS_0 : Nat → Option Seg := fun _ => none
def L_laws_heldWrS_13 : Shape := ⟨[(0, false, [.br tW]), (1, false, [.int .i64]), (5, false, [.int .i64])], [], []⟩
def S_laws_heldWrS_13 : Shape := ⟨[(0, false, [.br tW]), (1, false, [.int .i64]), (5, false, [.ci .i64 0])], [], []⟩
def O_laws_heldWrS_13 : Shape := ⟨[(1, false, [.int .i64])], [], []⟩
def Z_laws_heldWrS_13 : Shape := ⟨[(4, false, [.int .i64])], [], []⟩
noncomputable def st_laws_heldWrS_13 (v0 : List dW) (v1 : Int) (v2 : Int) : Option ((L_laws_heldWrS_13).X ⊕ ((O_laws_heldWrS_13).X ⊕ (Z_laws_heldWrS_13).X)) :=
  bif (ltb v2 (v0.length : Int)) then
    bif (inb v2 v0.length) then
      bif ((nth v0 v2 (0, [])).1 != v1) then
        some (.inr (.inr ((((-1), ()), ()), (), ())))
      else
        bif (inb v2 v0.length) then
          let r2 := n_laws_heldIntS ((nth v0 v2 (0, [])).2) (IntKind.i64.wrap (v1 + 1))
          bif (ltb r2 0) then
            some (.inr (.inr ((((-1), ()), ()), (), ())))
          else
            some (.inl (((v0, ()), (r2, ()), ((IntKind.i64.wrap (v2 + 1)), ()), ()), (), ()))
        else none
    else none
  else
    some (.inr (.inl (((v1, ()), ()), (), ())))
noncomputable def stx_laws_heldWrS_13 (x : (L_laws_heldWrS_13).X) := st_laws_heldWrS_13 x.1.1.1 x.1.2.1.1 x.1.2.2.1.1
def em_laws_heldWrS_13 (x : (S_laws_heldWrS_13).X) : (L_laws_heldWrS_13).X := (((x.1.1.1, ()), (x.1.2.1.1, ()), (0, ()), ()), (), ())
noncomputable def c_laws_heldWrS_13 : Code := (subN B_laws_heldWrS 64 52).getD .skip
theorem a_laws_heldWrS_13 : subN B_laws_heldWrS 64 13 = some (.block 0 (.loop c_laws_heldWrS_13)) := by kernel_rfl
theorem r_laws_heldWrS_13 (x : (L_laws_heldWrS_13).X) : roundT ⟨E_laws_heldWrS, 31, D_laws_heldWrS_0⟩ 0 c_laws_heldWrS_13 52 L_laws_heldWrS_13 O_laws_heldWrS_13 Z_laws_heldWrS_13 x = stx_laws_heldWrS_13 x := by kernel_rfl
noncomputable def fu_laws_heldWrS_13 (x : (S_laws_heldWrS_13).X) : Nat := (fun (u0 : List dW) (u1 : Int) => 18446744073709551616) x.1.1.1 x.1.2.1.1
noncomputable def F_laws_heldWrS_13 (x : (S_laws_heldWrS_13).X) : Option ((O_laws_heldWrS_13).X ⊕ (Z_laws_heldWrS_13).X) := loopN stx_laws_heldWrS_13 (fu_laws_heldWrS_13 x) (em_laws_heldWrS_13 x)
noncomputable def sg_laws_heldWrS_13 : Seg := ⟨S_laws_heldWrS_13, O_laws_heldWrS_13, Z_laws_heldWrS_13, F_laws_heldWrS_13⟩
noncomputable def D_laws_heldWrS_1 : Nat → Option Seg := fun q => bif Nat.beq q 13 then some sg_laws_heldWrS_13 else D_laws_heldWrS_0 q
theorem fr_laws_heldWrS_1 : FrOk Try.prog ⟨E_laws_heldWrS, 31, D_laws_heldWrS_1⟩ B_laws_heldWrS := (fr_laws_heldWrS_0).loop (sg := sg_laws_heldWrS_13) L_laws_heldWrS_13 em_laws_heldWrS_13 (by decide) a_laws_heldWrS_13 stx_laws_heldWrS_13 fu_laws_heldWrS_13 (by decide) (fun _ => rfl) (fun x r _ h => h) r_laws_heldWrS_13
abbrev I_laws_heldWrS : List Par := [.rd tWs, .rd tI]
abbrev U_laws_heldWrS : List OT := [⟨false, tI, .fz⟩]
noncomputable def raw_laws_heldWrS (a0 : List dW) (a1 : Int) : Option (ResD U_laws_heldWrS × MutD I_laws_heldWrS) :=
  segM (F_laws_heldWrS_13 (((a0, ()), (a1, ()), ((), ()), ()), (), ())) (fun y2 =>
    some ((y2.1.1.1, ()), ())) (fun y2 =>
    some ((y2.1.1.1, ()), ()))
theorem e_laws_heldWrS (x : InD I_laws_heldWrS) : execF ⟨E_laws_heldWrS, 31, D_laws_heldWrS_1⟩ Try.f79.results.toList B_laws_heldWrS I_laws_heldWrS U_laws_heldWrS x = raw_laws_heldWrS x.1 x.2.1 := by kernel_rfl
theorem ok0_laws_heldWrS : ConOk Try.prog 79 ⟨I_laws_heldWrS, U_laws_heldWrS, fun x => raw_laws_heldWrS x.1 x.2.1⟩ := conOk_exec (fr_laws_heldWrS_1) Try.func79 (by kernel_rfl) (by kernel_rfl) Try.ntmps79.symm (by decide) (fun x r h => (e_laws_heldWrS x).trans h)
noncomputable def hd_Wr (x : dW) (k : Int) : Int := bif x.1 != k then -1 else n_laws_heldIntS x.2 (IntKind.i64.wrap (k + 1))
noncomputable def n_laws_heldWrS (a0 : List (dW)) (a1 : Int) : Int := (szG hd_Wr a0 a1).getD (-1)
theorem nn_laws_heldWrS (a0 : List (dW)) (a1 : Int) (hk : InOk I_laws_heldWrS (a0, a1, ())) : raw_laws_heldWrS a0 a1 = (fun n => some ((n, ()), ())) (n_laws_heldWrS a0 a1) := by
  have hb : a0.length * 32 ≤ 2 ^ 47 := hk.1.1
  have hl : F_laws_heldWrS_13 (((a0, ()), (a1, ()), ((), ()), ()), (), ()) = some (match szG hd_Wr a0 a1 with | some r => .inl (((r, ()), ()), (), ()) | none => .inr ((((-1), ()), ()), (), ())) :=
    loopN_sz (step := stx_laws_heldWrS_13) a0 ((0, []) : dW) (fun i k => (((a0, ()), (k, ()), ((i : Int), ()), ()), (), ())) hd_Wr (fun r => .inl (((r, ()), ()), (), ())) (.inr ((((-1), ()), ()), (), ())) (fun i s hi => by
      simp only [stx_laws_heldWrS_13, st_laws_heldWrS_13, ltb_t (show (i : Int) < a0.length by omega), inb_nat hi, nth_nat, cond_true, wr (show -9223372036854775808 ≤ (i : Int) + 1 by omega) (by omega), Int.natCast_add, Int.natCast_one, hd_Wr]
      cases ((a0.getD i ((0, []) : dW)).1 != s)
      · simp only [cond_false]
        cases ltb (n_laws_heldIntS (a0.getD i ((0, []) : dW)).2 (IntKind.i64.wrap (s + 1))) 0 <;> rfl
      · rfl) (fun s => by simp only [stx_laws_heldWrS_13, st_laws_heldWrS_13, ltb_f (Int.le_refl _), cond_false]) a1 _ (by show _ < 18446744073709551616; omega)
  unfold raw_laws_heldWrS n_laws_heldWrS
  rw [hl]
  cases szG hd_Wr a0 a1 <;> rfl
noncomputable def con_laws_heldWrS : Con := ⟨I_laws_heldWrS, U_laws_heldWrS, fun x => (fun n => some ((n, ()), ())) (n_laws_heldWrS x.1 x.2.1)⟩
theorem ok_laws_heldWrS : ConOk Try.prog 79 con_laws_heldWrS := (ok0_laws_heldWrS).mono (fun x r hk h => (nn_laws_heldWrS x.1 x.2.1 hk).trans h)
end

/-! laws_heldMemS -/
section
noncomputable def B_laws_heldMemS : Code := (Try.f24.body).getD .skip
noncomputable def E_laws_heldMemS : Env := envOf TT [(62, con_laws_heldIntS), (78, con_laws_heldIntSS), (79, con_laws_heldWrS)] []
theorem fr_laws_heldMemS_0 : FrOk Try.prog ⟨E_laws_heldMemS, 51, fun _ => none⟩ B_laws_heldMemS := frOk_base mixed tt_ok ⟨ok_laws_heldIntS, ok_laws_heldIntSS, ok_laws_heldWrS, trivial⟩
noncomputable def D_laws_heldMemS_0 : Nat → Option Seg := fun _ => none
def L_laws_heldMemS_13 : Shape := ⟨[(0, false, [.br tM]), (1, false, [.int .i64]), (5, false, [.int .i64])], [], []⟩
def S_laws_heldMemS_13 : Shape := ⟨[(0, false, [.br tM]), (1, false, [.int .i64]), (5, false, [.ci .i64 0])], [], []⟩
def O_laws_heldMemS_13 : Shape := ⟨[(1, false, [.int .i64])], [], []⟩
def Z_laws_heldMemS_13 : Shape := ⟨[(4, false, [.int .i64])], [], []⟩
noncomputable def st_laws_heldMemS_13 (v0 : List dM) (v1 : Int) (v2 : Int) : Option ((L_laws_heldMemS_13).X ⊕ ((O_laws_heldMemS_13).X ⊕ (Z_laws_heldMemS_13).X)) :=
  bif (ltb v2 (v0.length : Int)) then
    bif (inb v2 v0.length) then
      let r4 := n_laws_heldIntSS ((nth v0 v2 ([], [], false, [])).1) v1
      bif (ltb r4 0) then
        some (.inr (.inr ((((-1), ()), ()), (), ())))
      else
        bif (inb v2 v0.length) then
          let r5 := n_laws_heldWrS (((nth v0 v2 ([], [], false, [])).2).1) r4
          bif (ltb r5 0) then
            some (.inr (.inr ((((-1), ()), ()), (), ())))
          else
            bif (inb v2 v0.length) then
              bif (!((((nth v0 v2 ([], [], false, [])).2).2).1 == ((r5.tmod 3) == 0))) then
                some (.inr (.inr ((((-1), ()), ()), (), ())))
              else
                bif (inb v2 v0.length) then
                  let r6 := n_laws_heldIntS ((((nth v0 v2 ([], [], false, [])).2).2).2) (IntKind.i64.wrap (r5 + 1))
                  bif (ltb r6 0) then
                    some (.inr (.inr ((((-1), ()), ()), (), ())))
                  else
                    some (.inl (((v0, ()), (r6, ()), ((IntKind.i64.wrap (v2 + 1)), ()), ()), (), ()))
                else none
            else none
        else none
    else none
  else
    some (.inr (.inl (((v1, ()), ()), (), ())))
noncomputable def stx_laws_heldMemS_13 (x : (L_laws_heldMemS_13).X) := st_laws_heldMemS_13 x.1.1.1 x.1.2.1.1 x.1.2.2.1.1
def em_laws_heldMemS_13 (x : (S_laws_heldMemS_13).X) : (L_laws_heldMemS_13).X := (((x.1.1.1, ()), (x.1.2.1.1, ()), (0, ()), ()), (), ())
noncomputable def c_laws_heldMemS_13 : Code := (subN B_laws_heldMemS 64 52).getD .skip
theorem a_laws_heldMemS_13 : subN B_laws_heldMemS 64 13 = some (.block 0 (.loop c_laws_heldMemS_13)) := by kernel_rfl
theorem r_laws_heldMemS_13 (x : (L_laws_heldMemS_13).X) : roundT ⟨E_laws_heldMemS, 51, D_laws_heldMemS_0⟩ 0 c_laws_heldMemS_13 52 L_laws_heldMemS_13 O_laws_heldMemS_13 Z_laws_heldMemS_13 x = stx_laws_heldMemS_13 x := by kernel_rfl
noncomputable def fu_laws_heldMemS_13 (x : (S_laws_heldMemS_13).X) : Nat := (fun (u0 : List dM) (u1 : Int) => 18446744073709551616) x.1.1.1 x.1.2.1.1
noncomputable def F_laws_heldMemS_13 (x : (S_laws_heldMemS_13).X) : Option ((O_laws_heldMemS_13).X ⊕ (Z_laws_heldMemS_13).X) := loopN stx_laws_heldMemS_13 (fu_laws_heldMemS_13 x) (em_laws_heldMemS_13 x)
noncomputable def sg_laws_heldMemS_13 : Seg := ⟨S_laws_heldMemS_13, O_laws_heldMemS_13, Z_laws_heldMemS_13, F_laws_heldMemS_13⟩
noncomputable def D_laws_heldMemS_1 : Nat → Option Seg := fun q => bif Nat.beq q 13 then some sg_laws_heldMemS_13 else D_laws_heldMemS_0 q
theorem fr_laws_heldMemS_1 : FrOk Try.prog ⟨E_laws_heldMemS, 51, D_laws_heldMemS_1⟩ B_laws_heldMemS := (fr_laws_heldMemS_0).loop (sg := sg_laws_heldMemS_13) L_laws_heldMemS_13 em_laws_heldMemS_13 (by decide) a_laws_heldMemS_13 stx_laws_heldMemS_13 fu_laws_heldMemS_13 (by decide) (fun _ => rfl) (fun x r _ h => h) r_laws_heldMemS_13
abbrev I_laws_heldMemS : List Par := [.rd tMs, .rd tI]
abbrev U_laws_heldMemS : List OT := [⟨false, tI, .fz⟩]
noncomputable def raw_laws_heldMemS (a0 : List dM) (a1 : Int) : Option (ResD U_laws_heldMemS × MutD I_laws_heldMemS) :=
  segM (F_laws_heldMemS_13 (((a0, ()), (a1, ()), ((), ()), ()), (), ())) (fun y6 =>
    some ((y6.1.1.1, ()), ())) (fun y6 =>
    some ((y6.1.1.1, ()), ()))
theorem e_laws_heldMemS (x : InD I_laws_heldMemS) : execF ⟨E_laws_heldMemS, 51, D_laws_heldMemS_1⟩ Try.f24.results.toList B_laws_heldMemS I_laws_heldMemS U_laws_heldMemS x = raw_laws_heldMemS x.1 x.2.1 := by kernel_rfl
theorem ok0_laws_heldMemS : ConOk Try.prog 24 ⟨I_laws_heldMemS, U_laws_heldMemS, fun x => raw_laws_heldMemS x.1 x.2.1⟩ := conOk_exec (fr_laws_heldMemS_1) Try.func24 (by kernel_rfl) (by kernel_rfl) Try.ntmps24.symm (by decide) (fun x r h => (e_laws_heldMemS x).trans h)
noncomputable def hd_Mem (x : dM) (k : Int) : Int := bif ltb (n_laws_heldIntSS x.1 k) 0 then -1 else bif ltb (n_laws_heldWrS x.2.1 (n_laws_heldIntSS x.1 k)) 0 then -1 else bif !(x.2.2.1 == ((n_laws_heldWrS x.2.1 (n_laws_heldIntSS x.1 k)).tmod 3 == 0)) then -1 else n_laws_heldIntS x.2.2.2 (IntKind.i64.wrap (n_laws_heldWrS x.2.1 (n_laws_heldIntSS x.1 k) + 1))
noncomputable def n_laws_heldMemS (a0 : List (dM)) (a1 : Int) : Int := (szG hd_Mem a0 a1).getD (-1)
theorem nn_laws_heldMemS (a0 : List (dM)) (a1 : Int) (hk : InOk I_laws_heldMemS (a0, a1, ())) : raw_laws_heldMemS a0 a1 = (fun n => some ((n, ()), ())) (n_laws_heldMemS a0 a1) := by
  have hb : a0.length * 80 ≤ 2 ^ 47 := hk.1.1
  have hl : F_laws_heldMemS_13 (((a0, ()), (a1, ()), ((), ()), ()), (), ()) = some (match szG hd_Mem a0 a1 with | some r => .inl (((r, ()), ()), (), ()) | none => .inr ((((-1), ()), ()), (), ())) :=
    loopN_sz (step := stx_laws_heldMemS_13) a0 (([], [], false, []) : dM) (fun i k => (((a0, ()), (k, ()), ((i : Int), ()), ()), (), ())) hd_Mem (fun r => .inl (((r, ()), ()), (), ())) (.inr ((((-1), ()), ()), (), ())) (fun i s hi => by
      simp only [stx_laws_heldMemS_13, st_laws_heldMemS_13, ltb_t (show (i : Int) < a0.length by omega), inb_nat hi, nth_nat, cond_true, wr (show -9223372036854775808 ≤ (i : Int) + 1 by omega) (by omega), Int.natCast_add, Int.natCast_one, hd_Mem]
      cases ltb (n_laws_heldIntSS (a0.getD i (([], [], false, []) : dM)).1 s) 0
      · simp only [cond_false]
        cases ltb (n_laws_heldWrS (a0.getD i (([], [], false, []) : dM)).2.1 (n_laws_heldIntSS (a0.getD i (([], [], false, []) : dM)).1 s)) 0
        · simp only [cond_false]
          cases ((a0.getD i (([], [], false, []) : dM)).2.2.1 == ((n_laws_heldWrS (a0.getD i (([], [], false, []) : dM)).2.1 (n_laws_heldIntSS (a0.getD i (([], [], false, []) : dM)).1 s)).tmod 3 == 0))
          · rfl
          · simp only [Bool.not_true, cond_false]
            cases ltb (n_laws_heldIntS (a0.getD i (([], [], false, []) : dM)).2.2.2 (IntKind.i64.wrap (n_laws_heldWrS (a0.getD i (([], [], false, []) : dM)).2.1 (n_laws_heldIntSS (a0.getD i (([], [], false, []) : dM)).1 s) + 1))) 0 <;> rfl
        · rfl
      · rfl) (fun s => by simp only [stx_laws_heldMemS_13, st_laws_heldMemS_13, ltb_f (Int.le_refl _), cond_false]) a1 _ (by show _ < 18446744073709551616; omega)
  unfold raw_laws_heldMemS n_laws_heldMemS
  rw [hl]
  cases szG hd_Mem a0 a1 <;> rfl
noncomputable def con_laws_heldMemS : Con := ⟨I_laws_heldMemS, U_laws_heldMemS, fun x => (fun n => some ((n, ()), ())) (n_laws_heldMemS x.1 x.2.1)⟩
theorem ok_laws_heldMemS : ConOk Try.prog 24 con_laws_heldMemS := (ok0_laws_heldMemS).mono (fun x r hk h => (nn_laws_heldMemS x.1 x.2.1 hk).trans h)
theorem held_wrS (l : List dW) (k : Int) (h0 : 0 ≤ k) (h : k + ((l.map (fun x : dW => 1 + x.2.length)).sum : Nat) ≤ 9223372036854775807) : (markL u_Wr l k).1 = k + ((l.map (fun x : dW => 1 + x.2.length)).sum : Nat) ∧ szG hd_Wr (markL u_Wr l k).2 k = some (k + ((l.map (fun x : dW => 1 + x.2.length)).sum : Nat)) :=
  held_list (m := fun x : dW => 1 + x.2.length) (fun x k h0 h => by
    have hw : IntKind.i64.wrap (k + 1) = k + 1 := wr (by omega) (by omega)
    unfold u_Wr hd_Wr
    simp only [hw, bne_self_eq_false, cond_false, held_marks, markEnd_eq x.2.length (k + 1) (by omega) (by omega)]
    omega) l k h0 h
theorem held_intSS (l : List (List Int)) (k : Int) (h0 : 0 ≤ k) (h : k + ((l.map (fun x : List Int => x.length)).sum : Nat) ≤ 9223372036854775807) : (markL u_IntS l k).1 = k + ((l.map (fun x : List Int => x.length)).sum : Nat) ∧ szG hd_IntS (markL u_IntS l k).2 k = some (k + ((l.map (fun x : List Int => x.length)).sum : Nat)) :=
  held_list (m := fun x : List Int => x.length) (fun x k h0 h => by
    unfold u_IntS hd_IntS n_laws_markIntS
    simp only [held_marks, markEnd_eq x.length k (by omega) (by omega), and_self]) l k h0 h
theorem held_mem (x : dM) (k : Int) (h0 : 0 ≤ k) (h : k + (mMem x : Nat) ≤ 9223372036854775807) : (u_Mem x k).1 = k + (mMem x : Nat) ∧ hd_Mem (u_Mem x k).2 k = k + (mMem x : Nat) := by
  unfold mMem at h ⊢
  obtain ⟨a1, a2⟩ := held_intSS x.1 k h0 (by omega)
  obtain ⟨b1, b2⟩ := held_wrS x.2.1 (k + ((x.1.map (fun x : List Int => x.length)).sum : Nat)) (by omega) (by omega)
  have hw : ∀ n : Int, 0 ≤ n → n + 1 ≤ 9223372036854775807 → IntKind.i64.wrap (n + 1) = n + 1 := fun n h1 h2 => wr (by omega) (by omega)
  unfold u_Mem hd_Mem
  simp only [n_laws_markIntSS, n_laws_markWrS, n_laws_markIntS, n_laws_heldIntSS, n_laws_heldWrS, a1, a2, b1, b2, Option.getD_some]
  rw [hw _ (by omega) (by omega), ltb_f (show 0 ≤ k + ((x.1.map (fun x : List Int => x.length)).sum : Nat) by omega), cond_false, ltb_f (by omega), cond_false, beq_self_eq_true, Bool.not_true, cond_false, held_marks, markEnd_eq _ _ (by omega) (by omega)]
  omega
theorem held_memS (l : List dM) (k : Int) (h0 : 0 ≤ k) (h : k + (mMems l : Nat) ≤ 9223372036854775807) : (markL u_Mem l k).1 = k + (mMems l : Nat) ∧ szG hd_Mem (markL u_Mem l k).2 k = some (k + (mMems l : Nat)) :=
  held_list (m := mMem) (fun x k h0 h => held_mem x k h0 h) l k h0 h
theorem mk_mems (l : List dM) (h : mMems l ≤ 4611686018427387904) : (n_laws_markMemS l 1).1 = 1 + (mMems l : Nat) ∧ n_laws_heldMemS (n_laws_markMemS l 1).2 1 = 1 + (mMems l : Nat) := by
  obtain ⟨h1, h2⟩ := held_memS l 1 (by omega) (by omega)
  unfold n_laws_heldMemS n_laws_markMemS
  exact ⟨h1, by rw [h2]; rfl⟩
end

/-! laws_eqGeo -/
section
noncomputable def B_laws_eqGeo : Code := (Try.f88.body).getD .skip
noncomputable def E_laws_eqGeo : Env := envOf TT [] []
theorem fr_laws_eqGeo_0 : FrOk Try.prog ⟨E_laws_eqGeo, 15, fun _ => none⟩ B_laws_eqGeo := frOk_base mixed tt_ok trivial
noncomputable def D_laws_eqGeo_0 : Nat → Option Seg := fun _ => none
abbrev I_laws_eqGeo : List Par := [.rd tG, .rd tG]
abbrev U_laws_eqGeo : List OT := [⟨false, tB, .fz⟩]
noncomputable def raw_laws_eqGeo (a0 : dG) (a1 : dG) : Option (ResD U_laws_eqGeo × MutD I_laws_eqGeo) :=
  bif (a0.1 != a1.1) then
    some ((false, ()), ())
  else
    bif (a0.2 != a1.2) then
      some ((false, ()), ())
    else
      some ((true, ()), ())
theorem e_laws_eqGeo (x : InD I_laws_eqGeo) : execF ⟨E_laws_eqGeo, 15, D_laws_eqGeo_0⟩ Try.f88.results.toList B_laws_eqGeo I_laws_eqGeo U_laws_eqGeo x = raw_laws_eqGeo x.1 x.2.1 := by kernel_rfl
theorem ok0_laws_eqGeo : ConOk Try.prog 88 ⟨I_laws_eqGeo, U_laws_eqGeo, fun x => raw_laws_eqGeo x.1 x.2.1⟩ := conOk_exec (fr_laws_eqGeo_0) Try.func88 (by kernel_rfl) (by kernel_rfl) Try.ntmps88.symm (by decide) (fun x r h => (e_laws_eqGeo x).trans h)
noncomputable def n_laws_eqGeo (a0 : dG) (a1 : dG) : Bool :=
  bif (a0.1 != a1.1) then
    false
  else
    bif (a0.2 != a1.2) then
      false
    else
      true
noncomputable def con_laws_eqGeo : Con := ⟨I_laws_eqGeo, U_laws_eqGeo, fun x => (fun n => some ((n, ()), ())) (n_laws_eqGeo x.1 x.2.1)⟩
theorem nn_laws_eqGeo (a0 : dG) (a1 : dG) : raw_laws_eqGeo a0 a1 = (fun n => some ((n, ()), ())) (n_laws_eqGeo a0 a1) := bif_ty (p := fun (n : Bool) => ((n, ()), ())) (bif_some (p := fun (n : Bool) => ((n, ()), ())) rfl (bif_some (p := fun (n : Bool) => ((n, ()), ())) rfl rfl))
theorem ok_laws_eqGeo : ConOk Try.prog 88 con_laws_eqGeo := (ok0_laws_eqGeo).mono (fun x r _ h => (nn_laws_eqGeo x.1 x.2.1).trans h)
theorem eqd_laws_eqGeo (a b : dG) : n_laws_eqGeo a b = decide (a = b) := by
  unfold n_laws_eqGeo
  simp only [eq_step1, eq_step2, eq_step3, eq_step4, eq_step5, Prod.ext_iff, Bool.decide_and, Bool.and_true]
theorem eqr_laws_eqGeo (a : dG) : n_laws_eqGeo a a = true := by rw [eqd_laws_eqGeo]; exact decide_eq_true rfl
end

/-! laws_eqEnt -/
section
noncomputable def B_laws_eqEnt : Code := (Try.f145.body).getD .skip
noncomputable def E_laws_eqEnt : Env := envOf TT [(21, con_laws_eqIntS)] []
theorem fr_laws_eqEnt_0 : FrOk Try.prog ⟨E_laws_eqEnt, 16, fun _ => none⟩ B_laws_eqEnt := frOk_base mixed tt_ok ⟨ok_laws_eqIntS, trivial⟩
noncomputable def D_laws_eqEnt_0 : Nat → Option Seg := fun _ => none
abbrev I_laws_eqEnt : List Par := [.rd tW, .rd tW]
abbrev U_laws_eqEnt : List OT := [⟨false, tB, .fz⟩]
noncomputable def raw_laws_eqEnt (a0 : dW) (a1 : dW) : Option (ResD U_laws_eqEnt × MutD I_laws_eqEnt) :=
  bif (a0.1 != a1.1) then
    some ((false, ()), ())
  else
    let r1 := n_laws_eqIntS a0.2 a1.2
    bif (!r1) then
      some ((false, ()), ())
    else
      some ((true, ()), ())
theorem e_laws_eqEnt (x : InD I_laws_eqEnt) : execF ⟨E_laws_eqEnt, 16, D_laws_eqEnt_0⟩ Try.f145.results.toList B_laws_eqEnt I_laws_eqEnt U_laws_eqEnt x = raw_laws_eqEnt x.1 x.2.1 := by kernel_rfl
theorem ok0_laws_eqEnt : ConOk Try.prog 145 ⟨I_laws_eqEnt, U_laws_eqEnt, fun x => raw_laws_eqEnt x.1 x.2.1⟩ := conOk_exec (fr_laws_eqEnt_0) Try.func145 (by kernel_rfl) (by kernel_rfl) Try.ntmps145.symm (by decide) (fun x r h => (e_laws_eqEnt x).trans h)
noncomputable def n_laws_eqEnt (a0 : dW) (a1 : dW) : Bool :=
  bif (a0.1 != a1.1) then
    false
  else
    let r1 := n_laws_eqIntS a0.2 a1.2
    bif (!r1) then
      false
    else
      true
noncomputable def con_laws_eqEnt : Con := ⟨I_laws_eqEnt, U_laws_eqEnt, fun x => (fun n => some ((n, ()), ())) (n_laws_eqEnt x.1 x.2.1)⟩
theorem nn_laws_eqEnt (a0 : dW) (a1 : dW) : raw_laws_eqEnt a0 a1 = (fun n => some ((n, ()), ())) (n_laws_eqEnt a0 a1) := bif_ty (p := fun (n : Bool) => ((n, ()), ())) (bif_some (p := fun (n : Bool) => ((n, ()), ())) rfl (bif_some (p := fun (n : Bool) => ((n, ()), ())) rfl rfl))
theorem ok_laws_eqEnt : ConOk Try.prog 145 con_laws_eqEnt := (ok0_laws_eqEnt).mono (fun x r _ h => (nn_laws_eqEnt x.1 x.2.1).trans h)
theorem eqd_laws_eqEnt (a b : dW) : n_laws_eqEnt a b = decide (a = b) := by
  unfold n_laws_eqEnt
  simp only [eq_step1, eq_step2, eq_step3, eq_step4, eq_step5, eqd_laws_eqIntS, Prod.ext_iff, Bool.decide_and, Bool.and_true]
theorem eqr_laws_eqEnt (a : dW) : n_laws_eqEnt a a = true := by rw [eqd_laws_eqEnt]; exact decide_eq_true rfl
end

/-! laws_eqEntS -/
section
noncomputable def B_laws_eqEntS : Code := (Try.f89.body).getD .skip
noncomputable def E_laws_eqEntS : Env := envOf TT [(145, con_laws_eqEnt)] []
theorem fr_laws_eqEntS_0 : FrOk Try.prog ⟨E_laws_eqEntS, 27, fun _ => none⟩ B_laws_eqEntS := frOk_base mixed tt_ok ⟨ok_laws_eqEnt, trivial⟩
noncomputable def D_laws_eqEntS_0 : Nat → Option Seg := fun _ => none
def L_laws_eqEntS_29 : Shape := ⟨[(0, false, [.br tW]), (1, false, [.br tW]), (5, false, [.int .i64])], [], []⟩
def S_laws_eqEntS_29 : Shape := ⟨[(0, false, [.br tW]), (1, false, [.br tW]), (5, false, [.ci .i64 0])], [], []⟩
def O_laws_eqEntS_29 : Shape := ⟨[], [], []⟩
def Z_laws_eqEntS_29 : Shape := ⟨[(4, false, [.bool])], [], []⟩
noncomputable def st_laws_eqEntS_29 (v0 : List dW) (v1 : List dW) (v2 : Int) : Option ((L_laws_eqEntS_29).X ⊕ ((O_laws_eqEntS_29).X ⊕ (Z_laws_eqEntS_29).X)) :=
  bif (ltb v2 (v0.length : Int)) then
    bif (inb v2 v0.length) then
      bif (inb v2 v1.length) then
        let r2 := n_laws_eqEnt (nth v0 v2 (0, [])) (nth v1 v2 (0, []))
        bif (!r2) then
          some (.inr (.inr (((false, ()), ()), (), ())))
        else
          some (.inl (((v0, ()), (v1, ()), ((IntKind.i64.wrap (v2 + 1)), ()), ()), (), ()))
      else none
    else none
  else
    some (.inr (.inl ((), (), ())))
noncomputable def stx_laws_eqEntS_29 (x : (L_laws_eqEntS_29).X) := st_laws_eqEntS_29 x.1.1.1 x.1.2.1.1 x.1.2.2.1.1
def em_laws_eqEntS_29 (x : (S_laws_eqEntS_29).X) : (L_laws_eqEntS_29).X := (((x.1.1.1, ()), (x.1.2.1.1, ()), (0, ()), ()), (), ())
noncomputable def c_laws_eqEntS_29 : Code := (subN B_laws_eqEntS 64 116).getD .skip
theorem a_laws_eqEntS_29 : subN B_laws_eqEntS 64 29 = some (.block 0 (.loop c_laws_eqEntS_29)) := by kernel_rfl
theorem r_laws_eqEntS_29 (x : (L_laws_eqEntS_29).X) : roundT ⟨E_laws_eqEntS, 27, D_laws_eqEntS_0⟩ 0 c_laws_eqEntS_29 116 L_laws_eqEntS_29 O_laws_eqEntS_29 Z_laws_eqEntS_29 x = stx_laws_eqEntS_29 x := by kernel_rfl
noncomputable def fu_laws_eqEntS_29 (x : (S_laws_eqEntS_29).X) : Nat := (fun (u0 : List dW) (u1 : List dW) => 18446744073709551616) x.1.1.1 x.1.2.1.1
noncomputable def F_laws_eqEntS_29 (x : (S_laws_eqEntS_29).X) : Option ((O_laws_eqEntS_29).X ⊕ (Z_laws_eqEntS_29).X) := loopN stx_laws_eqEntS_29 (fu_laws_eqEntS_29 x) (em_laws_eqEntS_29 x)
noncomputable def sg_laws_eqEntS_29 : Seg := ⟨S_laws_eqEntS_29, O_laws_eqEntS_29, Z_laws_eqEntS_29, F_laws_eqEntS_29⟩
noncomputable def D_laws_eqEntS_1 : Nat → Option Seg := fun q => bif Nat.beq q 29 then some sg_laws_eqEntS_29 else D_laws_eqEntS_0 q
theorem fr_laws_eqEntS_1 : FrOk Try.prog ⟨E_laws_eqEntS, 27, D_laws_eqEntS_1⟩ B_laws_eqEntS := (fr_laws_eqEntS_0).loop (sg := sg_laws_eqEntS_29) L_laws_eqEntS_29 em_laws_eqEntS_29 (by decide) a_laws_eqEntS_29 stx_laws_eqEntS_29 fu_laws_eqEntS_29 (by decide) (fun _ => rfl) (fun x r _ h => h) r_laws_eqEntS_29
abbrev I_laws_eqEntS : List Par := [.rd tWs, .rd tWs]
abbrev U_laws_eqEntS : List OT := [⟨false, tB, .fz⟩]
noncomputable def raw_laws_eqEntS (a0 : List dW) (a1 : List dW) : Option (ResD U_laws_eqEntS × MutD I_laws_eqEntS) :=
  bif ((a0.length : Int) != (a1.length : Int)) then
    some ((false, ()), ())
  else
    segM (F_laws_eqEntS_29 (((a0, ()), (a1, ()), ((), ()), ()), (), ())) (fun y2 =>
      some ((true, ()), ())) (fun y2 =>
      some ((y2.1.1.1, ()), ()))
theorem e_laws_eqEntS (x : InD I_laws_eqEntS) : execF ⟨E_laws_eqEntS, 27, D_laws_eqEntS_1⟩ Try.f89.results.toList B_laws_eqEntS I_laws_eqEntS U_laws_eqEntS x = raw_laws_eqEntS x.1 x.2.1 := by kernel_rfl
theorem ok0_laws_eqEntS : ConOk Try.prog 89 ⟨I_laws_eqEntS, U_laws_eqEntS, fun x => raw_laws_eqEntS x.1 x.2.1⟩ := conOk_exec (fr_laws_eqEntS_1) Try.func89 (by kernel_rfl) (by kernel_rfl) Try.ntmps89.symm (by decide) (fun x r h => (e_laws_eqEntS x).trans h)
noncomputable def n_laws_eqEntS (a0 a1 : List (dW)) : Bool := decide (a0 = a1)
theorem nn_laws_eqEntS (a0 a1 : List (dW)) (hk : InOk I_laws_eqEntS (a0, a1, ())) : raw_laws_eqEntS a0 a1 = (fun n => some ((n, ()), ())) (n_laws_eqEntS a0 a1) := by
  have hb : a0.length * 32 ≤ 2 ^ 47 := hk.1.1
  unfold raw_laws_eqEntS n_laws_eqEntS
  by_cases h : a0.length = a1.length
  · have hl : F_laws_eqEntS_29 (((a0, ()), (a1, ()), ((), ()), ()), (), ()) = some (bif decide (a0 = a1) then .inl ((), (), ()) else .inr (((false, ()), ()), (), ())) :=
      loopN_eq (step := stx_laws_eqEntS_29) a0 a1 ((0, []) : dW) (fun i => (((a0, ()), (a1, ()), ((i : Int), ()), ()), (), ())) n_laws_eqEnt eqd_laws_eqEnt _ _ h (fun i hi => by
        simp only [stx_laws_eqEntS_29, st_laws_eqEntS_29, inb_nat (h ▸ hi), inb_nat hi, nth_nat, Int.toNat_natCast, ltb_t (show (i : Int) < a0.length by omega), cond_true, wr (show -9223372036854775808 ≤ (i : Int) + 1 by omega) (by omega), Int.natCast_add, Int.natCast_one, pr_eta]
        cases n_laws_eqEnt (a0.getD i (0, [])) (a1.getD i (0, [])) <;> rfl) (by simp only [stx_laws_eqEntS_29, st_laws_eqEntS_29, ltb_f (Int.le_refl _), cond_false]) _ (by show _ < 18446744073709551616; omega)
    rw [show ((a0.length : Int) != (a1.length : Int)) = false by simp [h], bif_f, hl]
    cases decide (a0 = a1) <;> rfl
  · rw [show ((a0.length : Int) != (a1.length : Int)) = true from bne_iff_ne.2 (by omega), bif_t, decide_eq_false (fun e => h (congrArg _ e))]
theorem eqd_laws_eqEntS (a0 a1 : List (dW)) : n_laws_eqEntS a0 a1 = decide (a0 = a1) := rfl
noncomputable def con_laws_eqEntS : Con := ⟨I_laws_eqEntS, U_laws_eqEntS, fun x => (fun n => some ((n, ()), ())) (n_laws_eqEntS x.1 x.2.1)⟩
theorem ok_laws_eqEntS : ConOk Try.prog 89 con_laws_eqEntS := (ok0_laws_eqEntS).mono (fun x r hk h => (nn_laws_eqEntS x.1 x.2.1 hk).trans h)
theorem eqr_laws_eqEntS (a : List dW) : n_laws_eqEntS a a = true := by rw [eqd_laws_eqEntS]; exact decide_eq_true rfl
end

/-! laws_eqArr -/
section
noncomputable def B_laws_eqArr : Code := (Try.f29.body).getD .skip
noncomputable def E_laws_eqArr : Env := envOf TT [(20, con_laws_eqMemS), (88, con_laws_eqGeo), (89, con_laws_eqEntS)] []
theorem fr_laws_eqArr_0 : FrOk Try.prog ⟨E_laws_eqArr, 68, fun _ => none⟩ B_laws_eqArr := frOk_base mixed tt_ok ⟨ok_laws_eqMemS, ok_laws_eqGeo, ok_laws_eqEntS, trivial⟩
noncomputable def D_laws_eqArr_0 : Nat → Option Seg := fun _ => none
abbrev I_laws_eqArr : List Par := [.rd tA, .rd tA]
abbrev U_laws_eqArr : List OT := [⟨false, tB, .fz⟩]
noncomputable def raw_laws_eqArr (a0 : dA) (a1 : dA) : Option (ResD U_laws_eqArr × MutD I_laws_eqArr) :=
  bif (a0.1 != a1.1) then
    some ((false, ()), ())
  else
    let r1 := n_laws_eqGeo a0.2.1 a1.2.1
    bif (!r1) then
      some ((false, ()), ())
    else
      let r2 := n_laws_eqMemS a0.2.2.1 a1.2.2.1
      bif (!r2) then
        some ((false, ()), ())
      else
        bif (a0.2.2.2.1 != a1.2.2.2.1) then
          some ((false, ()), ())
        else
          bif (a0.2.2.2.2.1 != a1.2.2.2.2.1) then
            some ((false, ()), ())
          else
            bif (a0.2.2.2.2.2.1 != a1.2.2.2.2.2.1) then
              some ((false, ()), ())
            else
              bif (a0.2.2.2.2.2.2.1 != a1.2.2.2.2.2.2.1) then
                some ((false, ()), ())
              else
                bif (a0.2.2.2.2.2.2.2.1 != a1.2.2.2.2.2.2.2.1) then
                  some ((false, ()), ())
                else
                  let r3 := n_laws_eqEntS a0.2.2.2.2.2.2.2.2.1 a1.2.2.2.2.2.2.2.2.1
                  bif (!r3) then
                    some ((false, ()), ())
                  else
                    bif (a0.2.2.2.2.2.2.2.2.2.1 != a1.2.2.2.2.2.2.2.2.2.1) then
                      some ((false, ()), ())
                    else
                      bif (!(a0.2.2.2.2.2.2.2.2.2.2.1 == a1.2.2.2.2.2.2.2.2.2.2.1)) then
                        some ((false, ()), ())
                      else
                        bif (!(a0.2.2.2.2.2.2.2.2.2.2.2 == a1.2.2.2.2.2.2.2.2.2.2.2)) then
                          some ((false, ()), ())
                        else
                          some ((true, ()), ())
theorem e_laws_eqArr (x : InD I_laws_eqArr) : execF ⟨E_laws_eqArr, 68, D_laws_eqArr_0⟩ Try.f29.results.toList B_laws_eqArr I_laws_eqArr U_laws_eqArr x = raw_laws_eqArr x.1 x.2.1 := by kernel_rfl
theorem ok0_laws_eqArr : ConOk Try.prog 29 ⟨I_laws_eqArr, U_laws_eqArr, fun x => raw_laws_eqArr x.1 x.2.1⟩ := conOk_exec (fr_laws_eqArr_0) Try.func29 (by kernel_rfl) (by kernel_rfl) Try.ntmps29.symm (by decide) (fun x r h => (e_laws_eqArr x).trans h)
noncomputable def n_laws_eqArr (a0 : dA) (a1 : dA) : Bool :=
  bif (a0.1 != a1.1) then
    false
  else
    let r1 := n_laws_eqGeo a0.2.1 a1.2.1
    bif (!r1) then
      false
    else
      let r2 := n_laws_eqMemS a0.2.2.1 a1.2.2.1
      bif (!r2) then
        false
      else
        bif (a0.2.2.2.1 != a1.2.2.2.1) then
          false
        else
          bif (a0.2.2.2.2.1 != a1.2.2.2.2.1) then
            false
          else
            bif (a0.2.2.2.2.2.1 != a1.2.2.2.2.2.1) then
              false
            else
              bif (a0.2.2.2.2.2.2.1 != a1.2.2.2.2.2.2.1) then
                false
              else
                bif (a0.2.2.2.2.2.2.2.1 != a1.2.2.2.2.2.2.2.1) then
                  false
                else
                  let r3 := n_laws_eqEntS a0.2.2.2.2.2.2.2.2.1 a1.2.2.2.2.2.2.2.2.1
                  bif (!r3) then
                    false
                  else
                    bif (a0.2.2.2.2.2.2.2.2.2.1 != a1.2.2.2.2.2.2.2.2.2.1) then
                      false
                    else
                      bif (!(a0.2.2.2.2.2.2.2.2.2.2.1 == a1.2.2.2.2.2.2.2.2.2.2.1)) then
                        false
                      else
                        bif (!(a0.2.2.2.2.2.2.2.2.2.2.2 == a1.2.2.2.2.2.2.2.2.2.2.2)) then
                          false
                        else
                          true
noncomputable def con_laws_eqArr : Con := ⟨I_laws_eqArr, U_laws_eqArr, fun x => (fun n => some ((n, ()), ())) (n_laws_eqArr x.1 x.2.1)⟩
theorem nn_laws_eqArr (a0 : dA) (a1 : dA) : raw_laws_eqArr a0 a1 = (fun n => some ((n, ()), ())) (n_laws_eqArr a0 a1) := bif_ty (p := fun (n : Bool) => ((n, ()), ())) (bif_some (p := fun (n : Bool) => ((n, ()), ())) rfl (bif_some (p := fun (n : Bool) => ((n, ()), ())) rfl (bif_some (p := fun (n : Bool) => ((n, ()), ())) rfl (bif_some (p := fun (n : Bool) => ((n, ()), ())) rfl (bif_some (p := fun (n : Bool) => ((n, ()), ())) rfl (bif_some (p := fun (n : Bool) => ((n, ()), ())) rfl (bif_some (p := fun (n : Bool) => ((n, ()), ())) rfl (bif_some (p := fun (n : Bool) => ((n, ()), ())) rfl (bif_some (p := fun (n : Bool) => ((n, ()), ())) rfl (bif_some (p := fun (n : Bool) => ((n, ()), ())) rfl (bif_some (p := fun (n : Bool) => ((n, ()), ())) rfl (bif_some (p := fun (n : Bool) => ((n, ()), ())) rfl rfl))))))))))))
theorem ok_laws_eqArr : ConOk Try.prog 29 con_laws_eqArr := (ok0_laws_eqArr).mono (fun x r _ h => (nn_laws_eqArr x.1 x.2.1).trans h)
theorem eqd_laws_eqArr (a b : dA) : n_laws_eqArr a b = decide (a = b) := by
  unfold n_laws_eqArr
  simp only [eq_step1, eq_step2, eq_step3, eq_step4, eq_step5, eqd_laws_eqMemS, eqd_laws_eqGeo, eqd_laws_eqEntS, Prod.ext_iff, Bool.decide_and, Bool.and_true]
theorem eqr_laws_eqArr (a : dA) : n_laws_eqArr a a = true := by rw [eqd_laws_eqArr]; exact decide_eq_true rfl
end
end Go.Tf
