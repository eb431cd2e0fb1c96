/- Functions of the program, and what they come to. -/
import Derived.Test.YtmamkjioahnecaaExactDurableF1
namespace Go.Tf
open Go.Proofs
set_option synthInstance.maxHeartbeats 400000
set_option synthInstance.maxSize 10000
set_option linter.unusedVariables false
set_option linter.unusedSimpArgs false
set_option maxRecDepth 100000
/-! laws_heldIntSS -/
section
noncomputable def B_laws_heldIntSS : Code := (Try.f78.body).getD .skip
noncomputable def E_laws_heldIntSS : Env := envOf TT [(62, con_laws_heldIntS)] []
theorem fr_laws_heldIntSS_0 : FrOk Try.prog ⟨E_laws_heldIntSS, 21, fun _ => none⟩ B_laws_heldIntSS := frOk_base mixed tt_ok ⟨ok_laws_heldIntS, trivial⟩
noncomputable def D_laws_heldIntSS_0 : Nat → Option Seg := fun _ => none
def L_laws_heldIntSS_13 : Shape := ⟨[(0, false, [.br tL]), (1, false, [.int .i64]), (5, false, [.int .i64])], [], []⟩
def S_laws_heldIntSS_13 : Shape := ⟨[(0, false, [.br tL]), (1, false, [.int .i64]), (5, false, [.ci .i64 0])], [], []⟩
def O_laws_heldIntSS_13 : Shape := ⟨[(1, false, [.int .i64])], [], []⟩
def Z_laws_heldIntSS_13 : Shape := ⟨[(4, false, [.int .i64])], [], []⟩
noncomputable def st_laws_heldIntSS_13 (v0 : List (List Int)) (v1 : Int) (v2 : Int) : Option ((L_laws_heldIntSS_13).X ⊕ ((O_laws_heldIntSS_13).X ⊕ (Z_laws_heldIntSS_13).X)) :=
  bif (ltb v2 (v0.length : Int)) then
    bif (inb v2 v0.length) then
      let r2 := n_laws_heldIntS (nth v0 v2 []) v1
      bif (ltb r2 0) then
        some (.inr (.inr ((((-1), ()), ()), (), ())))
      else
        some (.inl (((v0, ()), (r2, ()), ((IntKind.i64.wrap (v2 + 1)), ()), ()), (), ()))
    else none
  else
    some (.inr (.inl (((v1, ()), ()), (), ())))
noncomputable def stx_laws_heldIntSS_13 (x : (L_laws_heldIntSS_13).X) := st_laws_heldIntSS_13 x.1.1.1 x.1.2.1.1 x.1.2.2.1.1
def em_laws_heldIntSS_13 (x : (S_laws_heldIntSS_13).X) : (L_laws_heldIntSS_13).X := (((x.1.1.1, ()), (x.1.2.1.1, ()), (0, ()), ()), (), ())
noncomputable def c_laws_heldIntSS_13 : Code := (subN B_laws_heldIntSS 64 52).getD .skip
theorem a_laws_heldIntSS_13 : subN B_laws_heldIntSS 64 13 = some (.block 0 (.loop c_laws_heldIntSS_13)) := by kernel_rfl
theorem r_laws_heldIntSS_13 (x : (L_laws_heldIntSS_13).X) : roundT ⟨E_laws_heldIntSS, 21, D_laws_heldIntSS_0⟩ 0 c_laws_heldIntSS_13 52 L_laws_heldIntSS_13 O_laws_heldIntSS_13 Z_laws_heldIntSS_13 x = stx_laws_heldIntSS_13 x := by kernel_rfl
noncomputable def fu_laws_heldIntSS_13 (x : (S_laws_heldIntSS_13).X) : Nat := (fun (u0 : List (List Int)) (u1 : Int) => 18446744073709551616) x.1.1.1 x.1.2.1.1
noncomputable def F_laws_heldIntSS_13 (x : (S_laws_heldIntSS_13).X) : Option ((O_laws_heldIntSS_13).X ⊕ (Z_laws_heldIntSS_13).X) := loopN stx_laws_heldIntSS_13 (fu_laws_heldIntSS_13 x) (em_laws_heldIntSS_13 x)
noncomputable def sg_laws_heldIntSS_13 : Seg := ⟨S_laws_heldIntSS_13, O_laws_heldIntSS_13, Z_laws_heldIntSS_13, F_laws_heldIntSS_13⟩
noncomputable def D_laws_heldIntSS_1 : Nat → Option Seg := fun q => bif Nat.beq q 13 then some sg_laws_heldIntSS_13 else D_laws_heldIntSS_0 q
theorem fr_laws_heldIntSS_1 : FrOk Try.prog ⟨E_laws_heldIntSS, 21, D_laws_heldIntSS_1⟩ B_laws_heldIntSS := (fr_laws_heldIntSS_0).loop (sg := sg_laws_heldIntSS_13) L_laws_heldIntSS_13 em_laws_heldIntSS_13 (by decide) a_laws_heldIntSS_13 stx_laws_heldIntSS_13 fu_laws_heldIntSS_13 (by decide) (fun _ => rfl) (fun x r _ h => h) r_laws_heldIntSS_13
abbrev I_laws_heldIntSS : List Par := [.rd tLL, .rd tI]
abbrev U_laws_heldIntSS : List OT := [⟨false, tI, .fz⟩]
noncomputable def raw_laws_heldIntSS (a0 : List (List Int)) (a1 : Int) : Option (ResD U_laws_heldIntSS × MutD I_laws_heldIntSS) :=
  segM (F_laws_heldIntSS_13 (((a0, ()), (a1, ()), ((), ()), ()), (), ())) (fun y2 =>
    some ((y2.1.1.1, ()), ())) (fun y2 =>
    some ((y2.1.1.1, ()), ()))
theorem e_laws_heldIntSS (x : InD I_laws_heldIntSS) : execF ⟨E_laws_heldIntSS, 21, D_laws_heldIntSS_1⟩ Try.f78.results.toList B_laws_heldIntSS I_laws_heldIntSS U_laws_heldIntSS x = raw_laws_heldIntSS x.1 x.2.1 := by kernel_rfl
theorem ok0_laws_heldIntSS : ConOk Try.prog 78 ⟨I_laws_heldIntSS, U_laws_heldIntSS, fun x => raw_laws_heldIntSS x.1 x.2.1⟩ := conOk_exec (fr_laws_heldIntSS_1) Try.func78 (by kernel_rfl) (by kernel_rfl) Try.ntmps78.symm (by decide) (fun x r h => (e_laws_heldIntSS x).trans h)
noncomputable def hd_IntS (x : List Int) (k : Int) : Int := n_laws_heldIntS x k
noncomputable def n_laws_heldIntSS (a0 : List (List Int)) (a1 : Int) : Int := (szG hd_IntS a0 a1).getD (-1)
theorem nn_laws_heldIntSS (a0 : List (List Int)) (a1 : Int) (hk : InOk I_laws_heldIntSS (a0, a1, ())) : raw_laws_heldIntSS a0 a1 = (fun n => some ((n, ()), ())) (n_laws_heldIntSS a0 a1) := by
  have hb : a0.length * 24 ≤ 2 ^ 47 := hk.1.1
  have hl : F_laws_heldIntSS_13 (((a0, ()), (a1, ()), ((), ()), ()), (), ()) = some (match szG hd_IntS a0 a1 with | some r => .inl (((r, ()), ()), (), ()) | none => .inr ((((-1), ()), ()), (), ())) :=
    loopN_sz (step := stx_laws_heldIntSS_13) a0 ([] : List Int) (fun i k => (((a0, ()), (k, ()), ((i : Int), ()), ()), (), ())) hd_IntS (fun r => .inl (((r, ()), ()), (), ())) (.inr ((((-1), ()), ()), (), ())) (fun i s hi => by
      simp only [stx_laws_heldIntSS_13, st_laws_heldIntSS_13, ltb_t (show (i : Int) < a0.length by omega), inb_nat hi, nth_nat, cond_true, wr (show -9223372036854775808 ≤ (i : Int) + 1 by omega) (by omega), Int.natCast_add, Int.natCast_one, hd_IntS]
      cases ltb (n_laws_heldIntS (a0.getD i ([] : List Int)) s) 0 <;> rfl) (fun s => by simp only [stx_laws_heldIntSS_13, st_laws_heldIntSS_13, ltb_f (Int.le_refl _), cond_false]) a1 _ (by show _ < 18446744073709551616; omega)
  unfold raw_laws_heldIntSS n_laws_heldIntSS
  rw [hl]
  cases szG hd_IntS a0 a1 <;> rfl
noncomputable def con_laws_heldIntSS : Con := ⟨I_laws_heldIntSS, U_laws_heldIntSS, fun x => (fun n => some ((n, ()), ())) (n_laws_heldIntSS x.1 x.2.1)⟩
theorem ok_laws_heldIntSS : ConOk Try.prog 78 con_laws_heldIntSS := (ok0_laws_heldIntSS).mono (fun x r hk h => (nn_laws_heldIntSS x.1 x.2.1 hk).trans h)
end

/-! laws_heldWrS -/
section
noncomputable def B_laws_heldWrS : Code := (Try.f79.body).getD .skip
noncomputable def E_laws_heldWrS : Env := envOf TT [(62, con_laws_heldIntS)] []
theorem fr_laws_heldWrS_0 : FrOk Try.prog ⟨E_laws_heldWrS, 31, fun _ => none⟩ B_laws_heldWrS := frOk_base mixed tt_ok ⟨ok_laws_heldIntS, trivial⟩
noncomputable def D_laws_heldWrS_0 : Nat → Option Seg := fun _ => none
def L_laws_heldWrS_13 : Shape := ⟨[(0, false, [.br tW]), (1, false, [.int .i64]), (5, false, [.int .i64])], [], []⟩
def S_laws_heldWrS_13 : Shape := ⟨[(0, false, [.br tW]), (1, false, [.int .i64]), (5, false, [.ci .i64 0])], [], []⟩
def O_laws_heldWrS_13 : Shape := ⟨[(1, false, [.int .i64])], [], []⟩
def Z_laws_heldWrS_13 : Shape := ⟨[(4, false, [.int .i64])], [], []⟩
noncomputable def st_laws_heldWrS_13 (v0 : List dW) (v1 : Int) (v2 : Int) : Option ((L_laws_heldWrS_13).X ⊕ ((O_laws_heldWrS_13).X ⊕ (Z_laws_heldWrS_13).X)) :=
  bif (ltb v2 (v0.length : Int)) then
    bif (inb v2 v0.length) then
      bif ((nth v0 v2 (0, [])).1 != v1) then
        some (.inr (.inr ((((-1), ()), ()), (), ())))
      else
        bif (inb v2 v0.length) then
          let r2 := n_laws_heldIntS ((nth v0 v2 (0, [])).2) (IntKind.i64.wrap (v1 + 1))
          bif (ltb r2 0) then
            some (.inr (.inr ((((-1), ()), ()), (), ())))
          else
            some (.inl (((v0, ()), (r2, ()), ((IntKind.i64.wrap (v2 + 1)), ()), ()), (), ()))
        else none
    else none
  else
    some (.inr (.inl (((v1, ()), ()), (), ())))
noncomputable def stx_laws_heldWrS_13 (x : (L_laws_heldWrS_13).X) := st_laws_heldWrS_13 x.1.1.1 x.1.2.1.1 x.1.2.2.1.1
def em_laws_heldWrS_13 (x : (S_laws_heldWrS_13).X) : (L_laws_heldWrS_13).X := (((x.1.1.1, ()), (x.1.2.1.1, ()), (0, ()), ()), (), ())
noncomputable def c_laws_heldWrS_13 : Code := (subN B_laws_heldWrS 64 52).getD .skip
theorem a_laws_heldWrS_13 : subN B_laws_heldWrS 64 13 = some (.block 0 (.loop c_laws_heldWrS_13)) := by kernel_rfl
theorem r_laws_heldWrS_13 (x : (L_laws_heldWrS_13).X) : roundT ⟨E_laws_heldWrS, 31, D_laws_heldWrS_0⟩ 0 c_laws_heldWrS_13 52 L_laws_heldWrS_13 O_laws_heldWrS_13 Z_laws_heldWrS_13 x = stx_laws_heldWrS_13 x := by kernel_rfl
noncomputable def fu_laws_heldWrS_13 (x : (S_laws_heldWrS_13).X) : Nat := (fun (u0 : List dW) (u1 : Int) => 18446744073709551616) x.1.1.1 x.1.2.1.1
noncomputable def F_laws_heldWrS_13 (x : (S_laws_heldWrS_13).X) : Option ((O_laws_heldWrS_13).X ⊕ (Z_laws_heldWrS_13).X) := loopN stx_laws_heldWrS_13 (fu_laws_heldWrS_13 x) (em_laws_heldWrS_13 x)
noncomputable def sg_laws_heldWrS_13 : Seg := ⟨S_laws_heldWrS_13, O_laws_heldWrS_13, Z_laws_heldWrS_13, F_laws_heldWrS_13⟩
noncomputable def D_laws_heldWrS_1 : Nat → Option Seg := fun q => bif Nat.beq q 13 then some sg_laws_heldWrS_13 else D_laws_heldWrS_0 q
theorem fr_laws_heldWrS_1 : FrOk Try.prog ⟨E_laws_heldWrS, 31, D_laws_heldWrS_1⟩ B_laws_heldWrS := (fr_laws_heldWrS_0).loop (sg := sg_laws_heldWrS_13) L_laws_heldWrS_13 em_laws_heldWrS_13 (by decide) a_laws_heldWrS_13 stx_laws_heldWrS_13 fu_laws_heldWrS_13 (by decide) (fun _ => rfl) (fun x r _ h => h) r_laws_heldWrS_13
abbrev I_laws_heldWrS : List Par := [.rd tWs, .rd tI]
abbrev U_laws_heldWrS : List OT := [⟨false, tI, .fz⟩]
noncomputable def raw_laws_heldWrS (a0 : List dW) (a1 : Int) : Option (ResD U_laws_heldWrS × MutD I_laws_heldWrS) :=
  segM (F_laws_heldWrS_13 (((a0, ()), (a1, ()), ((), ()), ()), (), ())) (fun y2 =>
    some ((y2.1.1.1, ()), ())) (fun y2 =>
    some ((y2.1.1.1, ()), ()))
theorem e_laws_heldWrS (x : InD I_laws_heldWrS) : execF ⟨E_laws_heldWrS, 31, D_laws_heldWrS_1⟩ Try.f79.results.toList B_laws_heldWrS I_laws_heldWrS U_laws_heldWrS x = raw_laws_heldWrS x.1 x.2.1 := by kernel_rfl
theorem ok0_laws_heldWrS : ConOk Try.prog 79 ⟨I_laws_heldWrS, U_laws_heldWrS, fun x => raw_laws_heldWrS x.1 x.2.1⟩ := conOk_exec (fr_laws_heldWrS_1) Try.func79 (by kernel_rfl) (by kernel_rfl) Try.ntmps79.symm (by decide) (fun x r h => (e_laws_heldWrS x).trans h)
noncomputable def hd_Wr (x : dW) (k : Int) : Int := bif x.1 != k then -1 else n_laws_heldIntS x.2 (IntKind.i64.wrap (k + 1))
noncomputable def n_laws_heldWrS (a0 : List (dW)) (a1 : Int) : Int := (szG hd_Wr a0 a1).getD (-1)
theorem nn_laws_heldWrS (a0 : List (dW)) (a1 : Int) (hk : InOk I_laws_heldWrS (a0, a1, ())) : raw_laws_heldWrS a0 a1 = (fun n => some ((n, ()), ())) (n_laws_heldWrS a0 a1) := by
  have hb : a0.length * 32 ≤ 2 ^ 47 := hk.1.1
  have hl : F_laws_heldWrS_13 (((a0, ()), (a1, ()), ((), ()), ()), (), ()) = some (match szG hd_Wr a0 a1 with | some r => .inl (((r, ()), ()), (), ()) | none => .inr ((((-1), ()), ()), (), ())) :=
    loopN_sz (step := stx_laws_heldWrS_13) a0 ((0, []) : dW) (fun i k => (((a0, ()), (k, ()), ((i : Int), ()), ()), (), ())) hd_Wr (fun r => .inl (((r, ()), ()), (), ())) (.inr ((((-1), ()), ()), (), ())) (fun i s hi => by
      simp only [stx_laws_heldWrS_13, st_laws_heldWrS_13, ltb_t (show (i : Int) < a0.length by omega), inb_nat hi, nth_nat, cond_true, wr (show -9223372036854775808 ≤ (i : Int) + 1 by omega) (by omega), Int.natCast_add, Int.natCast_one, hd_Wr]
      cases ((a0.getD i ((0, []) : dW)).1 != s)
      · simp only [cond_false]
        cases ltb (n_laws_heldIntS (a0.getD i ((0, []) : dW)).2 (IntKind.i64.wrap (s + 1))) 0 <;> rfl
      · rfl) (fun s => by simp only [stx_laws_heldWrS_13, st_laws_heldWrS_13, ltb_f (Int.le_refl _), cond_false]) a1 _ (by show _ < 18446744073709551616; omega)
  unfold raw_laws_heldWrS n_laws_heldWrS
  rw [hl]
  cases szG hd_Wr a0 a1 <;> rfl
noncomputable def con_laws_heldWrS : Con := ⟨I_laws_heldWrS, U_laws_heldWrS, fun x => (fun n => some ((n, ()), ())) (n_laws_heldWrS x.1 x.2.1)⟩
theorem ok_laws_heldWrS : ConOk Try.prog 79 con_laws_heldWrS := (ok0_laws_heldWrS).mono (fun x r hk h => (nn_laws_heldWrS x.1 x.2.1 hk).trans h)
end

/-! laws_heldMemS -/
section
noncomputable def B_laws_heldMemS : Code := (Try.f24.body).getD .skip
noncomputable def E_laws_heldMemS : Env := envOf TT [(62, con_laws_heldIntS), (78, con_laws_heldIntSS), (79, con_laws_heldWrS)] []
theorem fr_laws_heldMemS_0 : FrOk Try.prog ⟨E_laws_heldMemS, 51, fun _ => none⟩ B_laws_heldMemS := frOk_base mixed tt_ok ⟨ok_laws_heldIntS, ok_laws_heldIntSS, ok_laws_heldWrS, trivial⟩
noncomputable def D_laws_heldMemS_0 : Nat → Option Seg := fun _ => none
def L_laws_heldMemS_13 : Shape := ⟨[(0, false, [.br tM]), (1, false, [.int .i64]), (5, false, [.int .i64])], [], []⟩
def S_laws_heldMemS_13 : Shape := ⟨[(0, false, [.br tM]), (1, false, [.int .i64]), (5, false, [.ci .i64 0])], [], []⟩
def O_laws_heldMemS_13 : Shape := ⟨[(1, false, [.int .i64])], [], []⟩
def Z_laws_heldMemS_13 : Shape := ⟨[(4, false, [.int .i64])], [], []⟩
noncomputable def st_laws_heldMemS_13 (v0 : List dM) (v1 : Int) (v2 : Int) : Option ((L_laws_heldMemS_13).X ⊕ ((O_laws_heldMemS_13).X ⊕ (Z_laws_heldMemS_13).X)) :=
  bif (ltb v2 (v0.length : Int)) then
    bif (inb v2 v0.length) then
      let r4 := n_laws_heldIntSS ((nth v0 v2 ([], [], false, [])).1) v1
      bif (ltb r4 0) then
        some (.inr (.inr ((((-1), ()), ()), (), ())))
      else
        bif (inb v2 v0.length) then
          let r5 := n_laws_heldWrS (((nth v0 v2 ([], [], false, [])).2).1) r4
          bif (ltb r5 0) then
            some (.inr (.inr ((((-1), ()), ()), (), ())))
          else
            bif (inb v2 v0.length) then
              bif (!((((nth v0 v2 ([], [], false, [])).2).2).1 == ((r5.tmod 3) == 0))) then
                some (.inr (.inr ((((-1), ()), ()), (), ())))
              else
                bif (inb v2 v0.length) then
                  let r6 := n_laws_heldIntS ((((nth v0 v2 ([], [], false, [])).2).2).2) (IntKind.i64.wrap (r5 + 1))
                  bif (ltb r6 0) then
                    some (.inr (.inr ((((-1), ()), ()), (), ())))
                  else
                    some (.inl (((v0, ()), (r6, ()), ((IntKind.i64.wrap (v2 + 1)), ()), ()), (), ()))
                else none
            else none
        else none
    else none
  else
    some (.inr (.inl (((v1, ()), ()), (), ())))
noncomputable def stx_laws_heldMemS_13 (x : (L_laws_heldMemS_13).X) := st_laws_heldMemS_13 x.1.1.1 x.1.2.1.1 x.1.2.2.1.1
def em_laws_heldMemS_13 (x : (S_laws_heldMemS_13).X) : (L_laws_heldMemS_13).X := (((x.1.1.1, ()), (x.1.2.1.1, ()), (0, ()), ()), (), ())
noncomputable def c_laws_heldMemS_13 : Code := (subN B_laws_heldMemS 64 52).getD .skip
theorem a_laws_heldMemS_13 : subN B_laws_heldMemS 64 13 = some (.block 0 (.loop c_laws_heldMemS_13)) := by kernel_rfl
theorem r_laws_heldMemS_13 (x : (L_laws_heldMemS_13).X) : roundT ⟨E_laws_heldMemS, 51, D_laws_heldMemS_0⟩ 0 c_laws_heldMemS_13 52 L_laws_heldMemS_13 O_laws_heldMemS_13 Z_laws_heldMemS_13 x = stx_laws_heldMemS_13 x := by kernel_rfl
noncomputable def fu_laws_heldMemS_13 (x : (S_laws_heldMemS_13).X) : Nat := (fun (u0 : List dM) (u1 : Int) => 18446744073709551616) x.1.1.1 x.1.2.1.1
noncomputable def F_laws_heldMemS_13 (x : (S_laws_heldMemS_13).X) : Option ((O_laws_heldMemS_13).X ⊕ (Z_laws_heldMemS_13).X) := loopN stx_laws_heldMemS_13 (fu_laws_heldMemS_13 x) (em_laws_heldMemS_13 x)
noncomputable def sg_laws_heldMemS_13 : Seg := ⟨S_laws_heldMemS_13, O_laws_heldMemS_13, Z_laws_heldMemS_13, F_laws_heldMemS_13⟩
noncomputable def D_laws_heldMemS_1 : Nat → Option Seg := fun q => bif Nat.beq q 13 then some sg_laws_heldMemS_13 else D_laws_heldMemS_0 q
theorem fr_laws_heldMemS_1 : FrOk Try.prog ⟨E_laws_heldMemS, 51, D_laws_heldMemS_1⟩ B_laws_heldMemS := (fr_laws_heldMemS_0).loop (sg := sg_laws_heldMemS_13) L_laws_heldMemS_13 em_laws_heldMemS_13 (by decide) a_laws_heldMemS_13 stx_laws_heldMemS_13 fu_laws_heldMemS_13 (by decide) (fun _ => rfl) (fun x r _ h => h) r_laws_heldMemS_13
abbrev I_laws_heldMemS : List Par := [.rd tMs, .rd tI]
abbrev U_laws_heldMemS : List OT := [⟨false, tI, .fz⟩]
noncomputable def raw_laws_heldMemS (a0 : List dM) (a1 : Int) : Option (ResD U_laws_heldMemS × MutD I_laws_heldMemS) :=
  segM (F_laws_heldMemS_13 (((a0, ()), (a1, ()), ((), ()), ()), (), ())) (fun y6 =>
    some ((y6.1.1.1, ()), ())) (fun y6 =>
    some ((y6.1.1.1, ()), ()))
theorem e_laws_heldMemS (x : InD I_laws_heldMemS) : execF ⟨E_laws_heldMemS, 51, D_laws_heldMemS_1⟩ Try.f24.results.toList B_laws_heldMemS I_laws_heldMemS U_laws_heldMemS x = raw_laws_heldMemS x.1 x.2.1 := by kernel_rfl
theorem ok0_laws_heldMemS : ConOk Try.prog 24 ⟨I_laws_heldMemS, U_laws_heldMemS, fun x => raw_laws_heldMemS x.1 x.2.1⟩ := conOk_exec (fr_laws_heldMemS_1) Try.func24 (by kernel_rfl) (by kernel_rfl) Try.ntmps24.symm (by decide) (fun x r h => (e_laws_heldMemS x).trans h)
noncomputable def hd_Mem (x : dM) (k : Int) : Int := bif ltb (n_laws_heldIntSS x.1 k) 0 then -1 else bif ltb (n_laws_heldWrS x.2.1 (n_laws_heldIntSS x.1 k)) 0 then -1 else bif !(x.2.2.1 == ((n_laws_heldWrS x.2.1 (n_laws_heldIntSS x.1 k)).tmod 3 == 0)) then -1 else n_laws_heldIntS x.2.2.2 (IntKind.i64.wrap (n_laws_heldWrS x.2.1 (n_laws_heldIntSS x.1 k) + 1))
noncomputable def n_laws_heldMemS (a0 : List (dM)) (a1 : Int) : Int := (szG hd_Mem a0 a1).getD (-1)
theorem nn_laws_heldMemS (a0 : List (dM)) (a1 : Int) (hk : InOk I_laws_heldMemS (a0, a1, ())) : raw_laws_heldMemS a0 a1 = (fun n => some ((n, ()), ())) (n_laws_heldMemS a0 a1) := by
  have hb : a0.length * 80 ≤ 2 ^ 47 := hk.1.1
  have hl : F_laws_heldMemS_13 (((a0, ()), (a1, ()), ((), ()), ()), (), ()) = some (match szG hd_Mem a0 a1 with | some r => .inl (((r, ()), ()), (), ()) | none => .inr ((((-1), ()), ()), (), ())) :=
    loopN_sz (step := stx_laws_heldMemS_13) a0 (([], [], false, []) : dM) (fun i k => (((a0, ()), (k, ()), ((i : Int), ()), ()), (), ())) hd_Mem (fun r => .inl (((r, ()), ()), (), ())) (.inr ((((-1), ()), ()), (), ())) (fun i s hi => by
      simp only [stx_laws_heldMemS_13, st_laws_heldMemS_13, ltb_t (show (i : Int) < a0.length by omega), inb_nat hi, nth_nat, cond_true, wr (show -9223372036854775808 ≤ (i : Int) + 1 by omega) (by omega), Int.natCast_add, Int.natCast_one, hd_Mem]
      cases ltb (n_laws_heldIntSS (a0.getD i (([], [], false, []) : dM)).1 s) 0
      · simp only [cond_false]
        cases ltb (n_laws_heldWrS (a0.getD i (([], [], false, []) : dM)).2.1 (n_laws_heldIntSS (a0.getD i (([], [], false, []) : dM)).1 s)) 0
        · simp only [cond_false]
          cases ((a0.getD i (([], [], false, []) : dM)).2.2.1 == ((n_laws_heldWrS (a0.getD i (([], [], false, []) : dM)).2.1 (n_laws_heldIntSS (a0.getD i (([], [], false, []) : dM)).1 s)).tmod 3 == 0))
          · rfl
          · simp only [Bool.not_true, cond_false]
            cases ltb (n_laws_heldIntS (a0.getD i (([], [], false, []) : dM)).2.2.2 (IntKind.i64.wrap (n_laws_heldWrS (a0.getD i (([], [], false, []) : dM)).2.1 (n_laws_heldIntSS (a0.getD i (([], [], false, []) : dM)).1 s) + 1))) 0 <;> rfl
        · rfl
      · rfl) (fun s => by simp only [stx_laws_heldMemS_13, st_laws_heldMemS_13, ltb_f (Int.le_refl _), cond_false]) a1 _ (by show _ < 18446744073709551616; omega)
  unfold raw_laws_heldMemS n_laws_heldMemS
  rw [hl]
  cases szG hd_Mem a0 a1 <;> rfl
noncomputable def con_laws_heldMemS : Con := ⟨I_laws_heldMemS, U_laws_heldMemS, fun x => (fun n => some ((n, ()), ())) (n_laws_heldMemS x.1 x.2.1)⟩
theorem ok_laws_heldMemS : ConOk Try.prog 24 con_laws_heldMemS := (ok0_laws_heldMemS).mono (fun x r hk h => (nn_laws_heldMemS x.1 x.2.1 hk).trans h)
theorem held_wrS (l : List dW) (k : Int) (h0 : 0 ≤ k) (h : k + ((l.map (fun x : dW => 1 + x.2.length)).sum : Nat) ≤ 9223372036854775807) : (markL u_Wr l k).1 = k + ((l.map (fun x : dW => 1 + x.2.length)).sum : Nat) ∧ szG hd_Wr (markL u_Wr l k).2 k = some (k + ((l.map (fun x : dW => 1 + x.2.length)).sum : Nat)) :=
  held_list (m := fun x : dW => 1 + x.2.length) (fun x k h0 h => by
    have hw : IntKind.i64.wrap (k + 1) = k + 1 := wr (by omega) (by omega)
    unfold u_Wr hd_Wr
    simp only [hw, bne_self_eq_false, cond_false, held_marks, markEnd_eq x.2.length (k + 1) (by omega) (by omega)]
    omega) l k h0 h
theorem held_intSS (l : List (List Int)) (k : Int) (h0 : 0 ≤ k) (h : k + ((l.map (fun x : List Int => x.length)).sum : Nat) ≤ 9223372036854775807) : (markL u_IntS l k).1 = k + ((l.map (fun x : List Int => x.length)).sum : Nat) ∧ szG hd_IntS (markL u_IntS l k).2 k = some (k + ((l.map (fun x : List Int => x.length)).sum : Nat)) :=
  held_list (m := fun x : List Int => x.length) (fun x k h0 h => by
    unfold u_IntS hd_IntS n_laws_markIntS
    simp only [held_marks, markEnd_eq x.length k (by omega) (by omega), and_self]) l k h0 h
theorem held_mem (x : dM) (k : Int) (h0 : 0 ≤ k) (h : k + (mMem x : Nat) ≤ 9223372036854775807) : (u_Mem x k).1 = k + (mMem x : Nat) ∧ hd_Mem (u_Mem x k).2 k = k + (mMem x : Nat) := by
  unfold mMem at h ⊢
  obtain ⟨a1, a2⟩ := held_intSS x.1 k h0 (by omega)
  obtain ⟨b1, b2⟩ := held_wrS x.2.1 (k + ((x.1.map (fun x : List Int => x.length)).sum : Nat)) (by omega) (by omega)
  have hw : ∀ n : Int, 0 ≤ n → n + 1 ≤ 9223372036854775807 → IntKind.i64.wrap (n + 1) = n + 1 := fun n h1 h2 => wr (by omega) (by omega)
  unfold u_Mem hd_Mem
  simp only [n_laws_markIntSS, n_laws_markWrS, n_laws_markIntS, n_laws_heldIntSS, n_laws_heldWrS, a1, a2, b1, b2, Option.getD_some]
  rw [hw _ (by omega) (by omega), ltb_f (show 0 ≤ k + ((x.1.map (fun x : List Int => x.length)).sum : Nat) by omega), cond_false, ltb_f (by omega), cond_false, beq_self_eq_true, Bool.not_true, cond_false, held_marks, markEnd_eq _ _ (by omega) (by omega)]
  omega
theorem held_memS (l : List dM) (k : Int) (h0 : 0 ≤ k) (h : k + (mMems l : Nat) ≤ 9223372036854775807) : (markL u_Mem l k).1 = k + (mMems l : Nat) ∧ szG hd_Mem (markL u_Mem l k).2 k = some (k + (mMems l : Nat)) :=
  held_list (m := mMem) (fun x k h0 h => held_mem x k h0 h) l k h0 h
theorem mk_mems (l : List dM) (h : mMems l ≤ 4611686018427387904) : (n_laws_markMemS l 1).1 = 1 + (mMems l : Nat) ∧ n_laws_heldMemS (n_laws_markMemS l 1).2 1 = 1 + (mMems l : Nat) := by
  obtain ⟨h1, h2⟩ := held_memS l 1 (by omega) (by omega)
  unfold n_laws_heldMemS n_laws_markMemS
  exact ⟨h1, by rw [h2]; rfl⟩
end

/-! laws_szEnt -/
section
noncomputable def B_laws_szEnt : Code := (Try.f139.body).getD .skip
noncomputable def E_laws_szEnt : Env := envOf TT [(132, con_laws_szIntS)] []
theorem fr_laws_szEnt_0 : FrOk Try.prog ⟨E_laws_szEnt, 12, fun _ => none⟩ B_laws_szEnt := frOk_base mixed tt_ok ⟨ok_laws_szIntS, trivial⟩
noncomputable def D_laws_szEnt_0 : Nat → Option Seg := fun _ => none
abbrev I_laws_szEnt : List Par := [.rd tW, .rd tI]
abbrev U_laws_szEnt : List OT := [⟨false, tI, .fz⟩]
noncomputable def raw_laws_szEnt (a0 : dW) (a1 : Int) : Option (ResD U_laws_szEnt × MutD I_laws_szEnt) :=
  let r1 := n_laws_szIntS a0.2 a1
  bif (ltb r1 0) then
    some (((-1), ()), ())
  else
    some ((r1, ()), ())
theorem e_laws_szEnt (x : InD I_laws_szEnt) : execF ⟨E_laws_szEnt, 12, D_laws_szEnt_0⟩ Try.f139.results.toList B_laws_szEnt I_laws_szEnt U_laws_szEnt x = raw_laws_szEnt x.1 x.2.1 := by kernel_rfl
theorem ok0_laws_szEnt : ConOk Try.prog 139 ⟨I_laws_szEnt, U_laws_szEnt, fun x => raw_laws_szEnt x.1 x.2.1⟩ := conOk_exec (fr_laws_szEnt_0) Try.func139 (by kernel_rfl) (by kernel_rfl) Try.ntmps139.symm (by decide) (fun x r h => (e_laws_szEnt x).trans h)
noncomputable def n_laws_szEnt (a0 : dW) (a1 : Int) : Int :=
  let r1 := n_laws_szIntS a0.2 a1
  bif (ltb r1 0) then
    (-1)
  else
    r1
noncomputable def con_laws_szEnt : Con := ⟨I_laws_szEnt, U_laws_szEnt, fun x => (fun n => some ((n, ()), ())) (n_laws_szEnt x.1 x.2.1)⟩
theorem nn_laws_szEnt (a0 : dW) (a1 : Int) : raw_laws_szEnt a0 a1 = (fun n => some ((n, ()), ())) (n_laws_szEnt a0 a1) := bif_ty (p := fun (n : Int) => ((n, ()), ())) (bif_some (p := fun (n : Int) => ((n, ()), ())) rfl rfl)
theorem ok_laws_szEnt : ConOk Try.prog 139 con_laws_szEnt := (ok0_laws_szEnt).mono (fun x r _ h => (nn_laws_szEnt x.1 x.2.1).trans h)
end

/-! laws_szEntS -/
section
noncomputable def B_laws_szEntS : Code := (Try.f80.body).getD .skip
noncomputable def E_laws_szEntS : Env := envOf TT [(139, con_laws_szEnt)] []
theorem fr_laws_szEntS_0 : FrOk Try.prog ⟨E_laws_szEntS, 27, fun _ => none⟩ B_laws_szEntS := frOk_base mixed tt_ok ⟨ok_laws_szEnt, trivial⟩
noncomputable def D_laws_szEntS_0 : Nat → Option Seg := fun _ => none
def L_laws_szEntS_61 : Shape := ⟨[(0, false, [.br tW]), (1, false, [.int .i64]), (5, false, [.int .i64])], [], []⟩
def S_laws_szEntS_61 : Shape := ⟨[(0, false, [.br tW]), (1, false, [.int .i64]), (5, false, [.ci .i64 0])], [], []⟩
def O_laws_szEntS_61 : Shape := ⟨[(1, false, [.int .i64])], [], []⟩
def Z_laws_szEntS_61 : Shape := ⟨[(4, false, [.int .i64])], [], []⟩
noncomputable def st_laws_szEntS_61 (v0 : List dW) (v1 : Int) (v2 : Int) : Option ((L_laws_szEntS_61).X ⊕ ((O_laws_szEntS_61).X ⊕ (Z_laws_szEntS_61).X)) :=
  bif (ltb v2 (v0.length : Int)) then
    bif (inb v2 v0.length) then
      let r2 := n_laws_szEnt (nth v0 v2 (0, [])) v1
      bif (ltb r2 0) then
        some (.inr (.inr ((((-1), ()), ()), (), ())))
      else
        some (.inl (((v0, ()), (r2, ()), ((IntKind.i64.wrap (v2 + 1)), ()), ()), (), ()))
    else none
  else
    some (.inr (.inl (((v1, ()), ()), (), ())))
noncomputable def stx_laws_szEntS_61 (x : (L_laws_szEntS_61).X) := st_laws_szEntS_61 x.1.1.1 x.1.2.1.1 x.1.2.2.1.1
def em_laws_szEntS_61 (x : (S_laws_szEntS_61).X) : (L_laws_szEntS_61).X := (((x.1.1.1, ()), (x.1.2.1.1, ()), (0, ()), ()), (), ())
noncomputable def c_laws_szEntS_61 : Code := (subN B_laws_szEntS 64 244).getD .skip
theorem a_laws_szEntS_61 : subN B_laws_szEntS 64 61 = some (.block 0 (.loop c_laws_szEntS_61)) := by kernel_rfl
theorem r_laws_szEntS_61 (x : (L_laws_szEntS_61).X) : roundT ⟨E_laws_szEntS, 27, D_laws_szEntS_0⟩ 0 c_laws_szEntS_61 244 L_laws_szEntS_61 O_laws_szEntS_61 Z_laws_szEntS_61 x = stx_laws_szEntS_61 x := by kernel_rfl
noncomputable def fu_laws_szEntS_61 (x : (S_laws_szEntS_61).X) : Nat := (fun (u0 : List dW) (u1 : Int) => 18446744073709551616) x.1.1.1 x.1.2.1.1
noncomputable def F_laws_szEntS_61 (x : (S_laws_szEntS_61).X) : Option ((O_laws_szEntS_61).X ⊕ (Z_laws_szEntS_61).X) := loopN stx_laws_szEntS_61 (fu_laws_szEntS_61 x) (em_laws_szEntS_61 x)
noncomputable def sg_laws_szEntS_61 : Seg := ⟨S_laws_szEntS_61, O_laws_szEntS_61, Z_laws_szEntS_61, F_laws_szEntS_61⟩
noncomputable def D_laws_szEntS_1 : Nat → Option Seg := fun q => bif Nat.beq q 61 then some sg_laws_szEntS_61 else D_laws_szEntS_0 q
theorem fr_laws_szEntS_1 : FrOk Try.prog ⟨E_laws_szEntS, 27, D_laws_szEntS_1⟩ B_laws_szEntS := (fr_laws_szEntS_0).loop (sg := sg_laws_szEntS_61) L_laws_szEntS_61 em_laws_szEntS_61 (by decide) a_laws_szEntS_61 stx_laws_szEntS_61 fu_laws_szEntS_61 (by decide) (fun _ => rfl) (fun x r _ h => h) r_laws_szEntS_61
abbrev I_laws_szEntS : List Par := [.rd tWs, .rd tI]
abbrev U_laws_szEntS : List OT := [⟨false, tI, .fz⟩]
noncomputable def raw_laws_szEntS (a0 : List dW) (a1 : Int) : Option (ResD U_laws_szEntS × MutD I_laws_szEntS) :=
  bif (ltb (IntKind.i64.wrap (a1 - (a0.length : Int))) 0) then
    some (((-1), ()), ())
  else
    segM (F_laws_szEntS_61 (((a0, ()), ((IntKind.i64.wrap (a1 - (a0.length : Int))), ()), ((), ()), ()), (), ())) (fun y2 =>
      some ((y2.1.1.1, ()), ())) (fun y2 =>
      some ((y2.1.1.1, ()), ()))
theorem e_laws_szEntS (x : InD I_laws_szEntS) : execF ⟨E_laws_szEntS, 27, D_laws_szEntS_1⟩ Try.f80.results.toList B_laws_szEntS I_laws_szEntS U_laws_szEntS x = raw_laws_szEntS x.1 x.2.1 := by kernel_rfl
theorem ok0_laws_szEntS : ConOk Try.prog 80 ⟨I_laws_szEntS, U_laws_szEntS, fun x => raw_laws_szEntS x.1 x.2.1⟩ := conOk_exec (fr_laws_szEntS_1) Try.func80 (by kernel_rfl) (by kernel_rfl) Try.ntmps80.symm (by decide) (fun x r h => (e_laws_szEntS x).trans h)
noncomputable def n_laws_szEntS (a0 : List (dW)) (a1 : Int) : Int := bif ltb (IntKind.i64.wrap (a1 - (a0.length : Int))) 0 then (-1) else (szG n_laws_szEnt a0 (IntKind.i64.wrap (a1 - (a0.length : Int)))).getD (-1)
theorem nn_laws_szEntS (a0 : List (dW)) (a1 : Int) (hk : InOk I_laws_szEntS (a0, a1, ())) : raw_laws_szEntS a0 a1 = (fun n => some ((n, ()), ())) (n_laws_szEntS a0 a1) := by
  have hb : a0.length * 32 ≤ 2 ^ 47 := hk.1.1
  have hl : ∀ k : Int, F_laws_szEntS_61 (((a0, ()), (k, ()), ((), ()), ()), (), ()) = some (match szG n_laws_szEnt a0 k with | some r => .inl (((r, ()), ()), (), ()) | none => .inr ((((-1), ()), ()), (), ())) := fun k =>
    loopN_sz (step := stx_laws_szEntS_61) a0 ((0, []) : dW) (fun i k => (((a0, ()), (k, ()), ((i : Int), ()), ()), (), ())) n_laws_szEnt (fun r => .inl (((r, ()), ()), (), ())) (.inr ((((-1), ()), ()), (), ())) (fun i s hi => by
      simp only [stx_laws_szEntS_61, st_laws_szEntS_61, inb_nat hi, nth_nat, Int.toNat_natCast, ltb_t (show (i : Int) < a0.length by omega), cond_true, wr (show -9223372036854775808 ≤ (i : Int) + 1 by omega) (by omega), Int.natCast_add, Int.natCast_one, pr_eta]
      cases ltb (n_laws_szEnt (a0.getD i (0, [])) s) 0 <;> rfl) (fun s => by simp only [stx_laws_szEntS_61, st_laws_szEntS_61, ltb_f (Int.le_refl _), cond_false]) k _ (by show _ < 18446744073709551616; omega)
  unfold raw_laws_szEntS n_laws_szEntS
  rw [hl]
  cases ltb (IntKind.i64.wrap (a1 - (a0.length : Int))) 0
  · cases szG n_laws_szEnt a0 (IntKind.i64.wrap (a1 - (a0.length : Int))) <;> rfl
  · rfl
noncomputable def con_laws_szEntS : Con := ⟨I_laws_szEntS, U_laws_szEntS, fun x => (fun n => some ((n, ()), ())) (n_laws_szEntS x.1 x.2.1)⟩
theorem ok_laws_szEntS : ConOk Try.prog 80 con_laws_szEntS := (ok0_laws_szEntS).mono (fun x r hk h => (nn_laws_szEntS x.1 x.2.1 hk).trans h)
end

/-! laws_szArr -/
section
noncomputable def B_laws_szArr : Code := (Try.f25.body).getD .skip
noncomputable def E_laws_szArr : Env := envOf TT [(15, con_laws_szMemS), (80, con_laws_szEntS)] []
theorem fr_laws_szArr_0 : FrOk Try.prog ⟨E_laws_szArr, 18, fun _ => none⟩ B_laws_szArr := frOk_base mixed tt_ok ⟨ok_laws_szMemS, ok_laws_szEntS, trivial⟩
noncomputable def D_laws_szArr_0 : Nat → Option Seg := fun _ => none
abbrev I_laws_szArr : List Par := [.rd tA, .rd tI]
abbrev U_laws_szArr : List OT := [⟨false, tI, .fz⟩]
noncomputable def raw_laws_szArr (a0 : dA) (a1 : Int) : Option (ResD U_laws_szArr × MutD I_laws_szArr) :=
  let r1 := n_laws_szMemS a0.2.2.1 a1
  bif (ltb r1 0) then
    some (((-1), ()), ())
  else
    let r2 := n_laws_szEntS a0.2.2.2.2.2.2.2.2.1 r1
    bif (ltb r2 0) then
      some (((-1), ()), ())
    else
      some ((r2, ()), ())
theorem e_laws_szArr (x : InD I_laws_szArr) : execF ⟨E_laws_szArr, 18, D_laws_szArr_0⟩ Try.f25.results.toList B_laws_szArr I_laws_szArr U_laws_szArr x = raw_laws_szArr x.1 x.2.1 := by kernel_rfl
theorem ok0_laws_szArr : ConOk Try.prog 25 ⟨I_laws_szArr, U_laws_szArr, fun x => raw_laws_szArr x.1 x.2.1⟩ := conOk_exec (fr_laws_szArr_0) Try.func25 (by kernel_rfl) (by kernel_rfl) Try.ntmps25.symm (by decide) (fun x r h => (e_laws_szArr x).trans h)
noncomputable def n_laws_szArr (a0 : dA) (a1 : Int) : Int :=
  let r1 := n_laws_szMemS a0.2.2.1 a1
  bif (ltb r1 0) then
    (-1)
  else
    let r2 := n_laws_szEntS a0.2.2.2.2.2.2.2.2.1 r1
    bif (ltb r2 0) then
      (-1)
    else
      r2
noncomputable def con_laws_szArr : Con := ⟨I_laws_szArr, U_laws_szArr, fun x => (fun n => some ((n, ()), ())) (n_laws_szArr x.1 x.2.1)⟩
theorem nn_laws_szArr (a0 : dA) (a1 : Int) : raw_laws_szArr a0 a1 = (fun n => some ((n, ()), ())) (n_laws_szArr a0 a1) := bif_ty (p := fun (n : Int) => ((n, ()), ())) (bif_some (p := fun (n : Int) => ((n, ()), ())) rfl (bif_some (p := fun (n : Int) => ((n, ()), ())) rfl rfl))
theorem ok_laws_szArr : ConOk Try.prog 25 con_laws_szArr := (ok0_laws_szArr).mono (fun x r _ h => (nn_laws_szArr x.1 x.2.1).trans h)
theorem szEntS_le {l : List dW} {k : Int} (h0 : 0 ≤ k) (h1 : k ≤ 1048576) (hl : l.length * 32 ≤ 2 ^ 47) (hx : ∀ x ∈ l, x.2.length * 8 ≤ 2 ^ 47) (h : 0 ≤ n_laws_szEntS l k) : ((l.length + (l.map (fun x : dW => x.2.length)).sum : Nat) : Int) ≤ k - n_laws_szEntS l k ∧ n_laws_szEntS l k ≤ k :=
  szF_le (fun x hm k h0 h1 h => by
    have := hx x hm
    unfold n_laws_szEnt at h ⊢
    by_cases h2 : n_laws_szIntS x.2 k < 0
    · simp only [ltb_t h2, cond_true] at h; omega
    · simp only [ltb_f (Int.not_lt.1 h2), cond_false] at h ⊢
      have := szIntS_nn h0 h1 (by omega) h2
      omega) h0 h1 (by omega) h
theorem szArr_le {a : dA} (hm : tA.Ok a) (h : ltb (n_laws_szArr a 1048576) 0 = false) : mArr a ≤ 2097152 := by
  have h : 0 ≤ n_laws_szArr a 1048576 := by
    rcases Int.lt_or_le (n_laws_szArr a 1048576) 0 with h3 | h3
    · rw [ltb_t h3] at h; cases h
    · exact h3
  unfold n_laws_szArr at h
  by_cases c1 : n_laws_szMemS a.2.2.1 1048576 < 0
  · simp only [ltb_t c1, cond_true] at h; omega
  simp only [ltb_f (Int.not_lt.1 c1), cond_false] at h
  have e1 := szMemS_le (by omega) (by omega) hm.2.2.1 (Int.not_lt.1 c1)
  by_cases c2 : n_laws_szEntS a.2.2.2.2.2.2.2.2.1 (n_laws_szMemS a.2.2.1 1048576) < 0
  · simp only [ltb_t c2, cond_true] at h; omega
  have e2 := szEntS_le (Int.not_lt.1 c1) (by omega) hm.2.2.2.2.2.2.2.2.1.1 (fun x hx => (hm.2.2.2.2.2.2.2.2.1.2 x hx).2.1) (Int.not_lt.1 c2)
  have e3 := mMems_le (l := a.2.2.1)
  unfold mArr mEnts
  rw [sum_add1 (fun x : dW => x.2.length) 1]
  omega
end
end Go.Tf
