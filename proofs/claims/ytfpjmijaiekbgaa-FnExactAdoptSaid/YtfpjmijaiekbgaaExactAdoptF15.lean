/- Functions of the program, and what they come to. -/
import Derived.Test.YtfpjmijaiekbgaaExactAdoptF14
namespace Go.Tf
open Go.Proofs
set_option synthInstance.maxHeartbeats 400000
set_option synthInstance.maxSize 10000
set_option linter.unusedVariables false
set_option linter.unusedSimpArgs false
set_option maxRecDepth 100000
/-! laws_markEntS -/
section
noncomputable def B_laws_markEntS : Code := (Try.f31.body).getD .skip
noncomputable def E_laws_markEntS : Env := envOf TT [(65, con_laws_markIntS)] []
theorem fr_laws_markEntS_0 : FrOk Try.prog ⟨E_laws_markEntS, 27, fun _ => none⟩ B_laws_markEntS := frOk_base mixed tt_ok ⟨ok_laws_markIntS, trivial⟩
noncomputable def D_laws_markEntS_0 : Nat → Option Seg := fun _ => none
def L_laws_markEntS_13 : Shape := ⟨[(0, false, [.at 1000001000]), (1, false, [.int .i64]), (5, false, [.int .i64])], [], [(1000001000, tW, (.pr .fz (.ow .fz)))]⟩
def S_laws_markEntS_13 : Shape := ⟨[(0, false, [.at 1000001000]), (1, false, [.int .i64]), (5, false, [.ci .i64 0])], [], [(1000001000, tW, (.pr .fz (.ow .fz)))]⟩
def O_laws_markEntS_13 : Shape := ⟨[(1, false, [.int .i64])], [], [(1000001000, tW, (.pr .fz (.ow .fz)))]⟩
def Z_laws_markEntS_13 : Shape := ⟨[], [], []⟩
noncomputable def st_laws_markEntS_13 (v0 : Int) (v1 : Int) (v2 : List dW) : Option ((L_laws_markEntS_13).X ⊕ ((O_laws_markEntS_13).X ⊕ (Z_laws_markEntS_13).X)) :=
  bif (ltb v1 (v2.length : Int)) then
    bif (inb v1 v2.length) then
      bif (inb v1 (v2.set (v1).toNat (v0, (nth v2 v1 (0, [])).2)).length) then
        let r4 := n_laws_markIntS ((nth (v2.set (v1).toNat (v0, (nth v2 v1 (0, [])).2)) v1 (0, [])).2) (IntKind.i64.wrap (v0 + 1))
        some (.inl ((((), ()), (r4.1, ()), ((IntKind.i64.wrap (v1 + 1)), ()), ()), (), (((v2.set (v1).toNat (v0, (nth v2 v1 (0, [])).2)).set (v1).toNat ((nth (v2.set (v1).toNat (v0, (nth v2 v1 (0, [])).2)) v1 (0, [])).1, r4.2)), ())))
      else none
    else none
  else
    some (.inr (.inl (((v0, ()), ()), (), (v2, ()))))
noncomputable def stx_laws_markEntS_13 (x : (L_laws_markEntS_13).X) := st_laws_markEntS_13 x.1.2.1.1 x.1.2.2.1.1 x.2.2.1
def em_laws_markEntS_13 (x : (S_laws_markEntS_13).X) : (L_laws_markEntS_13).X := ((((), ()), (x.1.2.1.1, ()), (0, ()), ()), (), (x.2.2.1, ()))
noncomputable def c_laws_markEntS_13 : Code := (subN B_laws_markEntS 64 52).getD .skip
theorem a_laws_markEntS_13 : subN B_laws_markEntS 64 13 = some (.block 0 (.loop c_laws_markEntS_13)) := by kernel_rfl
theorem r_laws_markEntS_13 (x : (L_laws_markEntS_13).X) : roundT ⟨E_laws_markEntS, 27, D_laws_markEntS_0⟩ 0 c_laws_markEntS_13 52 L_laws_markEntS_13 O_laws_markEntS_13 Z_laws_markEntS_13 x = stx_laws_markEntS_13 x := by kernel_rfl
noncomputable def fu_laws_markEntS_13 (x : (S_laws_markEntS_13).X) : Nat := (fun (u0 : Int) (u1 : List dW) => 18446744073709551616) x.1.2.1.1 x.2.2.1
noncomputable def F_laws_markEntS_13 (x : (S_laws_markEntS_13).X) : Option ((O_laws_markEntS_13).X ⊕ (Z_laws_markEntS_13).X) := loopN stx_laws_markEntS_13 (fu_laws_markEntS_13 x) (em_laws_markEntS_13 x)
noncomputable def sg_laws_markEntS_13 : Seg := ⟨S_laws_markEntS_13, O_laws_markEntS_13, Z_laws_markEntS_13, F_laws_markEntS_13⟩
noncomputable def D_laws_markEntS_1 : Nat → Option Seg := fun q => bif Nat.beq q 13 then some sg_laws_markEntS_13 else D_laws_markEntS_0 q
theorem fr_laws_markEntS_1 : FrOk Try.prog ⟨E_laws_markEntS, 27, D_laws_markEntS_1⟩ B_laws_markEntS := (fr_laws_markEntS_0).loop (sg := sg_laws_markEntS_13) L_laws_markEntS_13 em_laws_markEntS_13 (by decide) a_laws_markEntS_13 stx_laws_markEntS_13 fu_laws_markEntS_13 (by decide) (fun _ => rfl) (fun x r _ h => h) r_laws_markEntS_13
abbrev I_laws_markEntS : List Par := [.mt tWs (.ow (.pr .fz (.ow .fz))), .rd tI]
abbrev U_laws_markEntS : List OT := [⟨false, tI, .fz⟩]
noncomputable def raw_laws_markEntS (a0 : List dW) (a1 : Int) : Option (ResD U_laws_markEntS × MutD I_laws_markEntS) :=
  segM (F_laws_markEntS_13 ((((), ()), (a1, ()), ((), ()), ()), (), (a0, ()))) (fun y4 =>
    some ((y4.1.1.1, ()), (y4.2.2.1, ()))) (fun y4 =>
    none)
theorem e_laws_markEntS (x : InD I_laws_markEntS) : execF ⟨E_laws_markEntS, 27, D_laws_markEntS_1⟩ Try.f31.results.toList B_laws_markEntS I_laws_markEntS U_laws_markEntS x = raw_laws_markEntS x.1 x.2.1 := by kernel_rfl
theorem ok0_laws_markEntS : ConOk Try.prog 31 ⟨I_laws_markEntS, U_laws_markEntS, fun x => raw_laws_markEntS x.1 x.2.1⟩ := conOk_exec (fr_laws_markEntS_1) Try.func31 (by kernel_rfl) (by kernel_rfl) Try.ntmps31.symm (by decide) (fun x r h => (e_laws_markEntS x).trans h)
noncomputable def u_Ent (x : dW) (k : Int) : Int × dW := (markEnd (IntKind.i64.wrap (k + 1)) x.2.length, (k, marks (IntKind.i64.wrap (k + 1)) x.2.length))
noncomputable def n_laws_markEntS (a0 : List (dW)) (a1 : Int) : Int × List (dW) := markL u_Ent a0 a1
theorem nn_laws_markEntS (a0 : List (dW)) (a1 : Int) (hk : InOk I_laws_markEntS (a0, a1, ())) : raw_laws_markEntS a0 a1 = (fun n => some ((n.1, ()), (n.2, ()))) (n_laws_markEntS a0 a1) := by
  have hb : a0.length * 32 ≤ 2 ^ 47 := hk.1.1
  have hl : F_laws_markEntS_13 ((((), ()), (a1, ()), ((), ()), ()), (), (a0, ())) = some (.inl ((((markL u_Ent a0 a1).1, ()), ()), (), ((markL u_Ent a0 a1).2, ()))) :=
    loopN_mark (step := stx_laws_markEntS_13) a0 ((0, []) : dW) (fun i k m => ((((), ()), (k, ()), ((i : Int), ()), ()), (), (m, ()))) u_Ent (fun k m => .inl (((k, ()), ()), (), (m, ()))) (fun i s m hi hm => by
      simp only [stx_laws_markEntS_13, st_laws_markEntS_13, ltb_t (show (i : Int) < m.length by omega), List.length_set, inb_nat hi, Int.toNat_natCast, List.set_set, cond_true, nth_set hi, wr (show -9223372036854775808 ≤ (i : Int) + 1 by omega) (by omega), Int.natCast_add, Int.natCast_one, nth_nat]
      rfl) (fun s m hm => by simp only [stx_laws_markEntS_13, st_laws_markEntS_13, hm, ltb_f (Int.le_refl _), cond_false]) a1 _ (by show _ < 18446744073709551616; omega)
  unfold raw_laws_markEntS n_laws_markEntS
  rw [hl]; rfl
noncomputable def con_laws_markEntS : Con := ⟨I_laws_markEntS, U_laws_markEntS, fun x => (fun n => some ((n.1, ()), (n.2, ()))) (n_laws_markEntS x.1 x.2.1)⟩
theorem ok_laws_markEntS : ConOk Try.prog 31 con_laws_markEntS := (ok0_laws_markEntS).mono (fun x r hk h => (nn_laws_markEntS x.1 x.2.1 hk).trans h)
end

/-! laws_markArr -/
section
noncomputable def B_laws_markArr : Code := (Try.f10.body).getD .skip
noncomputable def E_laws_markArr : Env := envOf TT [(30, con_laws_markMemS), (31, con_laws_markEntS)] []
theorem fr_laws_markArr_0 : FrOk Try.prog ⟨E_laws_markArr, 14, fun _ => none⟩ B_laws_markArr := frOk_base mixed tt_ok ⟨ok_laws_markMemS, ok_laws_markEntS, trivial⟩
noncomputable def D_laws_markArr_0 : Nat → Option Seg := fun _ => none
abbrev I_laws_markArr : List Par := [.mt tA (.pr .fz (.pr (.pr .fz .fz) (.pr (.ow (.pr (.ow (.ow .fz)) (.pr (.ow (.pr .fz (.ow .fz))) (.pr .fz (.ow .fz))))) (.pr .fz (.pr .fz (.pr .fz (.pr .fz (.pr .fz (.pr (.ow (.pr .fz (.ow .fz))) (.pr .fz (.pr .fz .fz))))))))))), .rd tI]
abbrev U_laws_markArr : List OT := [⟨false, tI, .fz⟩]
noncomputable def raw_laws_markArr (a0 : dA) (a1 : Int) : Option (ResD U_laws_markArr × MutD I_laws_markArr) :=
  let r1 := n_laws_markMemS a0.2.2.1 a1
  let r2 := n_laws_markEntS a0.2.2.2.2.2.2.2.2.1 r1.1
  some ((r2.1, ()), ((a0.1, a0.2.1, r1.2, a0.2.2.2.1, a0.2.2.2.2.1, a0.2.2.2.2.2.1, a0.2.2.2.2.2.2.1, a0.2.2.2.2.2.2.2.1, r2.2, a0.2.2.2.2.2.2.2.2.2), ()))
theorem e_laws_markArr (x : InD I_laws_markArr) : execF ⟨E_laws_markArr, 14, D_laws_markArr_0⟩ Try.f10.results.toList B_laws_markArr I_laws_markArr U_laws_markArr x = raw_laws_markArr x.1 x.2.1 := by kernel_rfl
theorem ok0_laws_markArr : ConOk Try.prog 10 ⟨I_laws_markArr, U_laws_markArr, fun x => raw_laws_markArr x.1 x.2.1⟩ := conOk_exec (fr_laws_markArr_0) Try.func10 (by kernel_rfl) (by kernel_rfl) Try.ntmps10.symm (by decide) (fun x r h => (e_laws_markArr x).trans h)
noncomputable def n_laws_markArr (a0 : dA) (a1 : Int) : Int × dA :=
  let r1 := n_laws_markMemS a0.2.2.1 a1
  let r2 := n_laws_markEntS a0.2.2.2.2.2.2.2.2.1 r1.1
  (r2.1, (a0.1, a0.2.1, r1.2, a0.2.2.2.1, a0.2.2.2.2.1, a0.2.2.2.2.2.1, a0.2.2.2.2.2.2.1, a0.2.2.2.2.2.2.2.1, r2.2, a0.2.2.2.2.2.2.2.2.2))
noncomputable def con_laws_markArr : Con := ⟨I_laws_markArr, U_laws_markArr, fun x => (fun n => some ((n.1, ()), (n.2, ()))) (n_laws_markArr x.1 x.2.1)⟩
theorem nn_laws_markArr (a0 : dA) (a1 : Int) : raw_laws_markArr a0 a1 = (fun n => some ((n.1, ()), (n.2, ()))) (n_laws_markArr a0 a1) := bif_ty (p := fun (n : Int × dA) => ((n.1, ()), (n.2, ()))) rfl
theorem ok_laws_markArr : ConOk Try.prog 10 con_laws_markArr := (ok0_laws_markArr).mono (fun x r _ h => (nn_laws_markArr x.1 x.2.1).trans h)
end

/-! laws_heldIntS -/
section
noncomputable def B_laws_heldIntS : Code := (Try.f68.body).getD .skip
noncomputable def E_laws_heldIntS : Env := envOf TT [] []
theorem fr_laws_heldIntS_0 : FrOk Try.prog ⟨E_laws_heldIntS, 21, fun _ => none⟩ B_laws_heldIntS := frOk_base mixed tt_ok trivial
noncomputable def D_laws_heldIntS_0 : Nat → Option Seg := fun _ => none
def L_laws_heldIntS_13 : Shape := ⟨[(0, false, [.br tI]), (1, false, [.int .i64]), (5, false, [.int .i64])], [], []⟩
def S_laws_heldIntS_13 : Shape := ⟨[(0, false, [.br tI]), (1, false, [.int .i64]), (5, false, [.ci .i64 0])], [], []⟩
def O_laws_heldIntS_13 : Shape := ⟨[(1, false, [.int .i64])], [], []⟩
def Z_laws_heldIntS_13 : Shape := ⟨[(4, false, [.int .i64])], [], []⟩
noncomputable def st_laws_heldIntS_13 (v0 : List Int) (v1 : Int) (v2 : Int) : Option ((L_laws_heldIntS_13).X ⊕ ((O_laws_heldIntS_13).X ⊕ (Z_laws_heldIntS_13).X)) :=
  bif (ltb v2 (v0.length : Int)) then
    bif (inb v2 v0.length) then
      bif ((nth v0 v2 0) != v1) then
        some (.inr (.inr ((((-1), ()), ()), (), ())))
      else
        some (.inl (((v0, ()), ((IntKind.i64.wrap (v1 + 1)), ()), ((IntKind.i64.wrap (v2 + 1)), ()), ()), (), ()))
    else none
  else
    some (.inr (.inl (((v1, ()), ()), (), ())))
noncomputable def stx_laws_heldIntS_13 (x : (L_laws_heldIntS_13).X) := st_laws_heldIntS_13 x.1.1.1 x.1.2.1.1 x.1.2.2.1.1
def em_laws_heldIntS_13 (x : (S_laws_heldIntS_13).X) : (L_laws_heldIntS_13).X := (((x.1.1.1, ()), (x.1.2.1.1, ()), (0, ()), ()), (), ())
noncomputable def c_laws_heldIntS_13 : Code := (subN B_laws_heldIntS 64 52).getD .skip
theorem a_laws_heldIntS_13 : subN B_laws_heldIntS 64 13 = some (.block 0 (.loop c_laws_heldIntS_13)) := by kernel_rfl
theorem r_laws_heldIntS_13 (x : (L_laws_heldIntS_13).X) : roundT ⟨E_laws_heldIntS, 21, D_laws_heldIntS_0⟩ 0 c_laws_heldIntS_13 52 L_laws_heldIntS_13 O_laws_heldIntS_13 Z_laws_heldIntS_13 x = stx_laws_heldIntS_13 x := by kernel_rfl
noncomputable def fu_laws_heldIntS_13 (x : (S_laws_heldIntS_13).X) : Nat := (fun (u0 : List Int) (u1 : Int) => 18446744073709551616) x.1.1.1 x.1.2.1.1
noncomputable def F_laws_heldIntS_13 (x : (S_laws_heldIntS_13).X) : Option ((O_laws_heldIntS_13).X ⊕ (Z_laws_heldIntS_13).X) := loopN stx_laws_heldIntS_13 (fu_laws_heldIntS_13 x) (em_laws_heldIntS_13 x)
noncomputable def sg_laws_heldIntS_13 : Seg := ⟨S_laws_heldIntS_13, O_laws_heldIntS_13, Z_laws_heldIntS_13, F_laws_heldIntS_13⟩
noncomputable def D_laws_heldIntS_1 : Nat → Option Seg := fun q => bif Nat.beq q 13 then some sg_laws_heldIntS_13 else D_laws_heldIntS_0 q
theorem fr_laws_heldIntS_1 : FrOk Try.prog ⟨E_laws_heldIntS, 21, D_laws_heldIntS_1⟩ B_laws_heldIntS := (fr_laws_heldIntS_0).loop (sg := sg_laws_heldIntS_13) L_laws_heldIntS_13 em_laws_heldIntS_13 (by decide) a_laws_heldIntS_13 stx_laws_heldIntS_13 fu_laws_heldIntS_13 (by decide) (fun _ => rfl) (fun x r _ h => h) r_laws_heldIntS_13
abbrev I_laws_heldIntS : List Par := [.rd tL, .rd tI]
abbrev U_laws_heldIntS : List OT := [⟨false, tI, .fz⟩]
noncomputable def raw_laws_heldIntS (a0 : List Int) (a1 : Int) : Option (ResD U_laws_heldIntS × MutD I_laws_heldIntS) :=
  segM (F_laws_heldIntS_13 (((a0, ()), (a1, ()), ((), ()), ()), (), ())) (fun y0 =>
    some ((y0.1.1.1, ()), ())) (fun y0 =>
    some ((y0.1.1.1, ()), ()))
theorem e_laws_heldIntS (x : InD I_laws_heldIntS) : execF ⟨E_laws_heldIntS, 21, D_laws_heldIntS_1⟩ Try.f68.results.toList B_laws_heldIntS I_laws_heldIntS U_laws_heldIntS x = raw_laws_heldIntS x.1 x.2.1 := by kernel_rfl
theorem ok0_laws_heldIntS : ConOk Try.prog 68 ⟨I_laws_heldIntS, U_laws_heldIntS, fun x => raw_laws_heldIntS x.1 x.2.1⟩ := conOk_exec (fr_laws_heldIntS_1) Try.func68 (by kernel_rfl) (by kernel_rfl) Try.ntmps68.symm (by decide) (fun x r h => (e_laws_heldIntS x).trans h)
noncomputable def n_laws_heldIntS (a0 : List Int) (a1 : Int) : Int := bif (List.range a0.length).any (fun i => a0.getD i 0 != markEnd a1 i) then -1 else markEnd a1 a0.length
theorem nn_laws_heldIntS (a0 : List Int) (a1 : Int) (hk : InOk I_laws_heldIntS (a0, a1, ())) : raw_laws_heldIntS a0 a1 = (fun n => some ((n, ()), ())) (n_laws_heldIntS a0 a1) := by
  have hb : a0.length * 8 ≤ 2 ^ 47 := hk.1.1
  have hl : F_laws_heldIntS_13 (((a0, ()), (a1, ()), ((), ()), ()), (), ()) = some (bif (List.range a0.length).any (fun i => a0.getD i 0 != markEnd a1 i) then .inr ((((-1), ()), ()), (), ()) else .inl (((markEnd a1 a0.length, ()), ()), (), ())) :=
    loopN_all (step := stx_laws_heldIntS_13) (fun i => (((a0, ()), (markEnd a1 i, ()), ((i : Int), ()), ()), (), ())) a0.length (fun i => a0.getD i 0 != markEnd a1 i) _ _ (fun i hi => by
      simp only [stx_laws_heldIntS_13, st_laws_heldIntS_13, inb_nat hi, nth_nat, ltb_t (show (i : Int) < a0.length by omega), cond_true, wr (show -9223372036854775808 ≤ (i : Int) + 1 by omega) (by omega), Int.natCast_add, Int.natCast_one, markEnd_succ]
      cases (a0.getD i 0 != markEnd a1 i) <;> rfl) (by simp only [stx_laws_heldIntS_13, st_laws_heldIntS_13, ltb_f (Int.le_refl _), cond_false]) _ (by show _ < 18446744073709551616; omega)
  unfold raw_laws_heldIntS n_laws_heldIntS
  rw [hl]
  cases (List.range a0.length).any (fun i => a0.getD i 0 != markEnd a1 i) <;> rfl
theorem marks_get : ∀ (n i : Nat) (k : Int), i < n → (marks k n).getD i 0 = markEnd k i
  | n + 1, 0, k, _ => rfl
  | n + 1, i + 1, k, h => marks_get n i _ (by omega)
theorem held_marks (n : Nat) (k : Int) : n_laws_heldIntS (marks k n) k = markEnd k n := by
  unfold n_laws_heldIntS
  rw [marks_len]
  have : (List.range n).any (fun i => (marks k n).getD i 0 != markEnd k i) = false := by
    rw [List.any_eq_false]
    intro i hi
    rw [marks_get n i k (List.mem_range.1 hi)]
    simp
  rw [this]; rfl
noncomputable def con_laws_heldIntS : Con := ⟨I_laws_heldIntS, U_laws_heldIntS, fun x => (fun n => some ((n, ()), ())) (n_laws_heldIntS x.1 x.2.1)⟩
theorem ok_laws_heldIntS : ConOk Try.prog 68 con_laws_heldIntS := (ok0_laws_heldIntS).mono (fun x r hk h => (nn_laws_heldIntS x.1 x.2.1 hk).trans h)
end

/-! laws_heldIntSS -/
section
noncomputable def B_laws_heldIntSS : Code := (Try.f66.body).getD .skip
noncomputable def E_laws_heldIntSS : Env := envOf TT [(68, con_laws_heldIntS)] []
theorem fr_laws_heldIntSS_0 : FrOk Try.prog ⟨E_laws_heldIntSS, 21, fun _ => none⟩ B_laws_heldIntSS := frOk_base mixed tt_ok ⟨ok_laws_heldIntS, trivial⟩
noncomputable def D_laws_heldIntSS_0 : Nat → Option Seg := fun _ => none
def L_laws_heldIntSS_13 : Shape := ⟨[(0, false, [.br tL]), (1, false, [.int .i64]), (5, false, [.int .i64])], [], []⟩
def S_laws_heldIntSS_13 : Shape := ⟨[(0, false, [.br tL]), (1, false, [.int .i64]), (5, false, [.ci .i64 0])], [], []⟩
def O_laws_heldIntSS_13 : Shape := ⟨[(1, false, [.int .i64])], [], []⟩
def Z_laws_heldIntSS_13 : Shape := ⟨[(4, false, [.int .i64])], [], []⟩
noncomputable def st_laws_heldIntSS_13 (v0 : List (List Int)) (v1 : Int) (v2 : Int) : Option ((L_laws_heldIntSS_13).X ⊕ ((O_laws_heldIntSS_13).X ⊕ (Z_laws_heldIntSS_13).X)) :=
  bif (ltb v2 (v0.length : Int)) then
    bif (inb v2 v0.length) then
      let r2 := n_laws_heldIntS (nth v0 v2 []) v1
      bif (ltb r2 0) then
        some (.inr (.inr ((((-1), ()), ()), (), ())))
      else
        some (.inl (((v0, ()), (r2, ()), ((IntKind.i64.wrap (v2 + 1)), ()), ()), (), ()))
    else none
  else
    some (.inr (.inl (((v1, ()), ()), (), ())))
noncomputable def stx_laws_heldIntSS_13 (x : (L_laws_heldIntSS_13).X) := st_laws_heldIntSS_13 x.1.1.1 x.1.2.1.1 x.1.2.2.1.1
def em_laws_heldIntSS_13 (x : (S_laws_heldIntSS_13).X) : (L_laws_heldIntSS_13).X := (((x.1.1.1, ()), (x.1.2.1.1, ()), (0, ()), ()), (), ())
noncomputable def c_laws_heldIntSS_13 : Code := (subN B_laws_heldIntSS 64 52).getD .skip
theorem a_laws_heldIntSS_13 : subN B_laws_heldIntSS 64 13 = some (.block 0 (.loop c_laws_heldIntSS_13)) := by kernel_rfl
theorem r_laws_heldIntSS_13 (x : (L_laws_heldIntSS_13).X) : roundT ⟨E_laws_heldIntSS, 21, D_laws_heldIntSS_0⟩ 0 c_laws_heldIntSS_13 52 L_laws_heldIntSS_13 O_laws_heldIntSS_13 Z_laws_heldIntSS_13 x = stx_laws_heldIntSS_13 x := by kernel_rfl
noncomputable def fu_laws_heldIntSS_13 (x : (S_laws_heldIntSS_13).X) : Nat := (fun (u0 : List (List Int)) (u1 : Int) => 18446744073709551616) x.1.1.1 x.1.2.1.1
noncomputable def F_laws_heldIntSS_13 (x : (S_laws_heldIntSS_13).X) : Option ((O_laws_heldIntSS_13).X ⊕ (Z_laws_heldIntSS_13).X) := loopN stx_laws_heldIntSS_13 (fu_laws_heldIntSS_13 x) (em_laws_heldIntSS_13 x)
noncomputable def sg_laws_heldIntSS_13 : Seg := ⟨S_laws_heldIntSS_13, O_laws_heldIntSS_13, Z_laws_heldIntSS_13, F_laws_heldIntSS_13⟩
noncomputable def D_laws_heldIntSS_1 : Nat → Option Seg := fun q => bif Nat.beq q 13 then some sg_laws_heldIntSS_13 else D_laws_heldIntSS_0 q
theorem fr_laws_heldIntSS_1 : FrOk Try.prog ⟨E_laws_heldIntSS, 21, D_laws_heldIntSS_1⟩ B_laws_heldIntSS := (fr_laws_heldIntSS_0).loop (sg := sg_laws_heldIntSS_13) L_laws_heldIntSS_13 em_laws_heldIntSS_13 (by decide) a_laws_heldIntSS_13 stx_laws_heldIntSS_13 fu_laws_heldIntSS_13 (by decide) (fun _ => rfl) (fun x r _ h => h) r_laws_heldIntSS_13
abbrev I_laws_heldIntSS : List Par := [.rd tLL, .rd tI]
abbrev U_laws_heldIntSS : List OT := [⟨false, tI, .fz⟩]
noncomputable def raw_laws_heldIntSS (a0 : List (List Int)) (a1 : Int) : Option (ResD U_laws_heldIntSS × MutD I_laws_heldIntSS) :=
  segM (F_laws_heldIntSS_13 (((a0, ()), (a1, ()), ((), ()), ()), (), ())) (fun y2 =>
    some ((y2.1.1.1, ()), ())) (fun y2 =>
    some ((y2.1.1.1, ()), ()))
theorem e_laws_heldIntSS (x : InD I_laws_heldIntSS) : execF ⟨E_laws_heldIntSS, 21, D_laws_heldIntSS_1⟩ Try.f66.results.toList B_laws_heldIntSS I_laws_heldIntSS U_laws_heldIntSS x = raw_laws_heldIntSS x.1 x.2.1 := by kernel_rfl
theorem ok0_laws_heldIntSS : ConOk Try.prog 66 ⟨I_laws_heldIntSS, U_laws_heldIntSS, fun x => raw_laws_heldIntSS x.1 x.2.1⟩ := conOk_exec (fr_laws_heldIntSS_1) Try.func66 (by kernel_rfl) (by kernel_rfl) Try.ntmps66.symm (by decide) (fun x r h => (e_laws_heldIntSS x).trans h)
noncomputable def hd_IntS (x : List Int) (k : Int) : Int := n_laws_heldIntS x k
noncomputable def n_laws_heldIntSS (a0 : List (List Int)) (a1 : Int) : Int := (szG hd_IntS a0 a1).getD (-1)
theorem nn_laws_heldIntSS (a0 : List (List Int)) (a1 : Int) (hk : InOk I_laws_heldIntSS (a0, a1, ())) : raw_laws_heldIntSS a0 a1 = (fun n => some ((n, ()), ())) (n_laws_heldIntSS a0 a1) := by
  have hb : a0.length * 24 ≤ 2 ^ 47 := hk.1.1
  have hl : F_laws_heldIntSS_13 (((a0, ()), (a1, ()), ((), ()), ()), (), ()) = some (match szG hd_IntS a0 a1 with | some r => .inl (((r, ()), ()), (), ()) | none => .inr ((((-1), ()), ()), (), ())) :=
    loopN_sz (step := stx_laws_heldIntSS_13) a0 ([] : List Int) (fun i k => (((a0, ()), (k, ()), ((i : Int), ()), ()), (), ())) hd_IntS (fun r => .inl (((r, ()), ()), (), ())) (.inr ((((-1), ()), ()), (), ())) (fun i s hi => by
      simp only [stx_laws_heldIntSS_13, st_laws_heldIntSS_13, ltb_t (show (i : Int) < a0.length by omega), inb_nat hi, nth_nat, cond_true, wr (show -9223372036854775808 ≤ (i : Int) + 1 by omega) (by omega), Int.natCast_add, Int.natCast_one, hd_IntS]
      cases ltb (n_laws_heldIntS (a0.getD i ([] : List Int)) s) 0 <;> rfl) (fun s => by simp only [stx_laws_heldIntSS_13, st_laws_heldIntSS_13, ltb_f (Int.le_refl _), cond_false]) a1 _ (by show _ < 18446744073709551616; omega)
  unfold raw_laws_heldIntSS n_laws_heldIntSS
  rw [hl]
  cases szG hd_IntS a0 a1 <;> rfl
noncomputable def con_laws_heldIntSS : Con := ⟨I_laws_heldIntSS, U_laws_heldIntSS, fun x => (fun n => some ((n, ()), ())) (n_laws_heldIntSS x.1 x.2.1)⟩
theorem ok_laws_heldIntSS : ConOk Try.prog 66 con_laws_heldIntSS := (ok0_laws_heldIntSS).mono (fun x r hk h => (nn_laws_heldIntSS x.1 x.2.1 hk).trans h)
end

/-! laws_heldWrS -/
section
noncomputable def B_laws_heldWrS : Code := (Try.f67.body).getD .skip
noncomputable def E_laws_heldWrS : Env := envOf TT [(68, con_laws_heldIntS)] []
theorem fr_laws_heldWrS_0 : FrOk Try.prog ⟨E_laws_heldWrS, 31, fun _ => none⟩ B_laws_heldWrS := frOk_base mixed tt_ok ⟨ok_laws_heldIntS, trivial⟩
noncomputable def D_laws_heldWrS_0 : Nat → Option Seg := fun _ => none
def L_laws_heldWrS_13 : Shape := ⟨[(0, false, [.br tW]), (1, false, [.int .i64]), (5, false, [.int .i64])], [], []⟩
def S_laws_heldWrS_13 : Shape := ⟨[(0, false, [.br tW]), (1, false, [.int .i64]), (5, false, [.ci .i64 0])], [], []⟩
def O_laws_heldWrS_13 : Shape := ⟨[(1, false, [.int .i64])], [], []⟩
def Z_laws_heldWrS_13 : Shape := ⟨[(4, false, [.int .i64])], [], []⟩
noncomputable def st_laws_heldWrS_13 (v0 : List dW) (v1 : Int) (v2 : Int) : Option ((L_laws_heldWrS_13).X ⊕ ((O_laws_heldWrS_13).X ⊕ (Z_laws_heldWrS_13).X)) :=
  bif (ltb v2 (v0.length : Int)) then
    bif (inb v2 v0.length) then
      bif ((nth v0 v2 (0, [])).1 != v1) then
        some (.inr (.inr ((((-1), ()), ()), (), ())))
      else
        bif (inb v2 v0.length) then
          let r2 := n_laws_heldIntS ((nth v0 v2 (0, [])).2) (IntKind.i64.wrap (v1 + 1))
          bif (ltb r2 0) then
            some (.inr (.inr ((((-1), ()), ()), (), ())))
          else
            some (.inl (((v0, ()), (r2, ()), ((IntKind.i64.wrap (v2 + 1)), ()), ()), (), ()))
        else none
    else none
  else
    some (.inr (.inl (((v1, ()), ()), (), ())))
noncomputable def stx_laws_heldWrS_13 (x : (L_laws_heldWrS_13).X) := st_laws_heldWrS_13 x.1.1.1 x.1.2.1.1 x.1.2.2.1.1
def em_laws_heldWrS_13 (x : (S_laws_heldWrS_13).X) : (L_laws_heldWrS_13).X := (((x.1.1.1, ()), (x.1.2.1.1, ()), (0, ()), ()), (), ())
noncomputable def c_laws_heldWrS_13 : Code := (subN B_laws_heldWrS 64 52).getD .skip
theorem a_laws_heldWrS_13 : subN B_laws_heldWrS 64 13 = some (.block 0 (.loop c_laws_heldWrS_13)) := by kernel_rfl
theorem r_laws_heldWrS_13 (x : (L_laws_heldWrS_13).X) : roundT ⟨E_laws_heldWrS, 31, D_laws_heldWrS_0⟩ 0 c_laws_heldWrS_13 52 L_laws_heldWrS_13 O_laws_heldWrS_13 Z_laws_heldWrS_13 x = stx_laws_heldWrS_13 x := by kernel_rfl
noncomputable def fu_laws_heldWrS_13 (x : (S_laws_heldWrS_13).X) : Nat := (fun (u0 : List dW) (u1 : Int) => 18446744073709551616) x.1.1.1 x.1.2.1.1
noncomputable def F_laws_heldWrS_13 (x : (S_laws_heldWrS_13).X) : Option ((O_laws_heldWrS_13).X ⊕ (Z_laws_heldWrS_13).X) := loopN stx_laws_heldWrS_13 (fu_laws_heldWrS_13 x) (em_laws_heldWrS_13 x)
noncomputable def sg_laws_heldWrS_13 : Seg := ⟨S_laws_heldWrS_13, O_laws_heldWrS_13, Z_laws_heldWrS_13, F_laws_heldWrS_13⟩
noncomputable def D_laws_heldWrS_1 : Nat → Option Seg := fun q => bif Nat.beq q 13 then some sg_laws_heldWrS_13 else D_laws_heldWrS_0 q
theorem fr_laws_heldWrS_1 : FrOk Try.prog ⟨E_laws_heldWrS, 31, D_laws_heldWrS_1⟩ B_laws_heldWrS := (fr_laws_heldWrS_0).loop (sg := sg_laws_heldWrS_13) L_laws_heldWrS_13 em_laws_heldWrS_13 (by decide) a_laws_heldWrS_13 stx_laws_heldWrS_13 fu_laws_heldWrS_13 (by decide) (fun _ => rfl) (fun x r _ h => h) r_laws_heldWrS_13
abbrev I_laws_heldWrS : List Par := [.rd tWs, .rd tI]
abbrev U_laws_heldWrS : List OT := [⟨false, tI, .fz⟩]
noncomputable def raw_laws_heldWrS (a0 : List dW) (a1 : Int) : Option (ResD U_laws_heldWrS × MutD I_laws_heldWrS) :=
  segM (F_laws_heldWrS_13 (((a0, ()), (a1, ()), ((), ()), ()), (), ())) (fun y2 =>
    some ((y2.1.1.1, ()), ())) (fun y2 =>
    some ((y2.1.1.1, ()), ()))
theorem e_laws_heldWrS (x : InD I_laws_heldWrS) : execF ⟨E_laws_heldWrS, 31, D_laws_heldWrS_1⟩ Try.f67.results.toList B_laws_heldWrS I_laws_heldWrS U_laws_heldWrS x = raw_laws_heldWrS x.1 x.2.1 := by kernel_rfl
theorem ok0_laws_heldWrS : ConOk Try.prog 67 ⟨I_laws_heldWrS, U_laws_heldWrS, fun x => raw_laws_heldWrS x.1 x.2.1⟩ := conOk_exec (fr_laws_heldWrS_1) Try.func67 (by kernel_rfl) (by kernel_rfl) Try.ntmps67.symm (by decide) (fun x r h => (e_laws_heldWrS x).trans h)
noncomputable def hd_Wr (x : dW) (k : Int) : Int := bif x.1 != k then -1 else n_laws_heldIntS x.2 (IntKind.i64.wrap (k + 1))
noncomputable def n_laws_heldWrS (a0 : List (dW)) (a1 : Int) : Int := (szG hd_Wr a0 a1).getD (-1)
theorem nn_laws_heldWrS (a0 : List (dW)) (a1 : Int) (hk : InOk I_laws_heldWrS (a0, a1, ())) : raw_laws_heldWrS a0 a1 = (fun n => some ((n, ()), ())) (n_laws_heldWrS a0 a1) := by
  have hb : a0.length * 32 ≤ 2 ^ 47 := hk.1.1
  have hl : F_laws_heldWrS_13 (((a0, ()), (a1, ()), ((), ()), ()), (), ()) = some (match szG hd_Wr a0 a1 with | some r => .inl (((r, ()), ()), (), ()) | none => .inr ((((-1), ()), ()), (), ())) :=
    loopN_sz (step := stx_laws_heldWrS_13) a0 ((0, []) : dW) (fun i k => (((a0, ()), (k, ()), ((i : Int), ()), ()), (), ())) hd_Wr (fun r => .inl (((r, ()), ()), (), ())) (.inr ((((-1), ()), ()), (), ())) (fun i s hi => by
      simp only [stx_laws_heldWrS_13, st_laws_heldWrS_13, ltb_t (show (i : Int) < a0.length by omega), inb_nat hi, nth_nat, cond_true, wr (show -9223372036854775808 ≤ (i : Int) + 1 by omega) (by omega), Int.natCast_add, Int.natCast_one, hd_Wr]
      cases ((a0.getD i ((0, []) : dW)).1 != s)
      · simp only [cond_false]
        cases ltb (n_laws_heldIntS (a0.getD i ((0, []) : dW)).2 (IntKind.i64.wrap (s + 1))) 0 <;> rfl
      · rfl) (fun s => by simp only [stx_laws_heldWrS_13, st_laws_heldWrS_13, ltb_f (Int.le_refl _), cond_false]) a1 _ (by show _ < 18446744073709551616; omega)
  unfold raw_laws_heldWrS n_laws_heldWrS
  rw [hl]
  cases szG hd_Wr a0 a1 <;> rfl
noncomputable def con_laws_heldWrS : Con := ⟨I_laws_heldWrS, U_laws_heldWrS, fun x => (fun n => some ((n, ()), ())) (n_laws_heldWrS x.1 x.2.1)⟩
theorem ok_laws_heldWrS : ConOk Try.prog 67 con_laws_heldWrS := (ok0_laws_heldWrS).mono (fun x r hk h => (nn_laws_heldWrS x.1 x.2.1 hk).trans h)
end

/-! laws_heldMemS -/
section
noncomputable def B_laws_heldMemS : Code := (Try.f32.body).getD .skip
noncomputable def E_laws_heldMemS : Env := envOf TT [(66, con_laws_heldIntSS), (67, con_laws_heldWrS), (68, con_laws_heldIntS)] []
theorem fr_laws_heldMemS_0 : FrOk Try.prog ⟨E_laws_heldMemS, 51, fun _ => none⟩ B_laws_heldMemS := frOk_base mixed tt_ok ⟨ok_laws_heldIntSS, ok_laws_heldWrS, ok_laws_heldIntS, trivial⟩
noncomputable def D_laws_heldMemS_0 : Nat → Option Seg := fun _ => none
def L_laws_heldMemS_13 : Shape := ⟨[(0, false, [.br tM]), (1, false, [.int .i64]), (5, false, [.int .i64])], [], []⟩
def S_laws_heldMemS_13 : Shape := ⟨[(0, false, [.br tM]), (1, false, [.int .i64]), (5, false, [.ci .i64 0])], [], []⟩
def O_laws_heldMemS_13 : Shape := ⟨[(1, false, [.int .i64])], [], []⟩
def Z_laws_heldMemS_13 : Shape := ⟨[(4, false, [.int .i64])], [], []⟩
noncomputable def st_laws_heldMemS_13 (v0 : List dM) (v1 : Int) (v2 : Int) : Option ((L_laws_heldMemS_13).X ⊕ ((O_laws_heldMemS_13).X ⊕ (Z_laws_heldMemS_13).X)) :=
  bif (ltb v2 (v0.length : Int)) then
    bif (inb v2 v0.length) then
      let r4 := n_laws_heldIntSS ((nth v0 v2 ([], [], false, [])).1) v1
      bif (ltb r4 0) then
        some (.inr (.inr ((((-1), ()), ()), (), ())))
      else
        bif (inb v2 v0.length) then
          let r5 := n_laws_heldWrS (((nth v0 v2 ([], [], false, [])).2).1) r4
          bif (ltb r5 0) then
            some (.inr (.inr ((((-1), ()), ()), (), ())))
          else
            bif (inb v2 v0.length) then
              bif (!((((nth v0 v2 ([], [], false, [])).2).2).1 == ((r5.tmod 3) == 0))) then
                some (.inr (.inr ((((-1), ()), ()), (), ())))
              else
                bif (inb v2 v0.length) then
                  let r6 := n_laws_heldIntS ((((nth v0 v2 ([], [], false, [])).2).2).2) (IntKind.i64.wrap (r5 + 1))
                  bif (ltb r6 0) then
                    some (.inr (.inr ((((-1), ()), ()), (), ())))
                  else
                    some (.inl (((v0, ()), (r6, ()), ((IntKind.i64.wrap (v2 + 1)), ()), ()), (), ()))
                else none
            else none
        else none
    else none
  else
    some (.inr (.inl (((v1, ()), ()), (), ())))
noncomputable def stx_laws_heldMemS_13 (x : (L_laws_heldMemS_13).X) := st_laws_heldMemS_13 x.1.1.1 x.1.2.1.1 x.1.2.2.1.1
def em_laws_heldMemS_13 (x : (S_laws_heldMemS_13).X) : (L_laws_heldMemS_13).X := (((x.1.1.1, ()), (x.1.2.1.1, ()), (0, ()), ()), (), ())
noncomputable def c_laws_heldMemS_13 : Code := (subN B_laws_heldMemS 64 52).getD .skip
theorem a_laws_heldMemS_13 : subN B_laws_heldMemS 64 13 = some (.block 0 (.loop c_laws_heldMemS_13)) := by kernel_rfl
theorem r_laws_heldMemS_13 (x : (L_laws_heldMemS_13).X) : roundT ⟨E_laws_heldMemS, 51, D_laws_heldMemS_0⟩ 0 c_laws_heldMemS_13 52 L_laws_heldMemS_13 O_laws_heldMemS_13 Z_laws_heldMemS_13 x = stx_laws_heldMemS_13 x := by kernel_rfl
noncomputable def fu_laws_heldMemS_13 (x : (S_laws_heldMemS_13).X) : Nat := (fun (u0 : List dM) (u1 : Int) => 18446744073709551616) x.1.1.1 x.1.2.1.1
noncomputable def F_laws_heldMemS_13 (x : (S_laws_heldMemS_13).X) : Option ((O_laws_heldMemS_13).X ⊕ (Z_laws_heldMemS_13).X) := loopN stx_laws_heldMemS_13 (fu_laws_heldMemS_13 x) (em_laws_heldMemS_13 x)
noncomputable def sg_laws_heldMemS_13 : Seg := ⟨S_laws_heldMemS_13, O_laws_heldMemS_13, Z_laws_heldMemS_13, F_laws_heldMemS_13⟩
noncomputable def D_laws_heldMemS_1 : Nat → Option Seg := fun q => bif Nat.beq q 13 then some sg_laws_heldMemS_13 else D_laws_heldMemS_0 q
theorem fr_laws_heldMemS_1 : FrOk Try.prog ⟨E_laws_heldMemS, 51, D_laws_heldMemS_1⟩ B_laws_heldMemS := (fr_laws_heldMemS_0).loop (sg := sg_laws_heldMemS_13) L_laws_heldMemS_13 em_laws_heldMemS_13 (by decide) a_laws_heldMemS_13 stx_laws_heldMemS_13 fu_laws_heldMemS_13 (by decide) (fun _ => rfl) (fun x r _ h => h) r_laws_heldMemS_13
abbrev I_laws_heldMemS : List Par := [.rd tMs, .rd tI]
abbrev U_laws_heldMemS : List OT := [⟨false, tI, .fz⟩]
noncomputable def raw_laws_heldMemS (a0 : List dM) (a1 : Int) : Option (ResD U_laws_heldMemS × MutD I_laws_heldMemS) :=
  segM (F_laws_heldMemS_13 (((a0, ()), (a1, ()), ((), ()), ()), (), ())) (fun y6 =>
    some ((y6.1.1.1, ()), ())) (fun y6 =>
    some ((y6.1.1.1, ()), ()))
theorem e_laws_heldMemS (x : InD I_laws_heldMemS) : execF ⟨E_laws_heldMemS, 51, D_laws_heldMemS_1⟩ Try.f32.results.toList B_laws_heldMemS I_laws_heldMemS U_laws_heldMemS x = raw_laws_heldMemS x.1 x.2.1 := by kernel_rfl
theorem ok0_laws_heldMemS : ConOk Try.prog 32 ⟨I_laws_heldMemS, U_laws_heldMemS, fun x => raw_laws_heldMemS x.1 x.2.1⟩ := conOk_exec (fr_laws_heldMemS_1) Try.func32 (by kernel_rfl) (by kernel_rfl) Try.ntmps32.symm (by decide) (fun x r h => (e_laws_heldMemS x).trans h)
noncomputable def hd_Mem (x : dM) (k : Int) : Int := bif ltb (n_laws_heldIntSS x.1 k) 0 then -1 else bif ltb (n_laws_heldWrS x.2.1 (n_laws_heldIntSS x.1 k)) 0 then -1 else bif !(x.2.2.1 == ((n_laws_heldWrS x.2.1 (n_laws_heldIntSS x.1 k)).tmod 3 == 0)) then -1 else n_laws_heldIntS x.2.2.2 (IntKind.i64.wrap (n_laws_heldWrS x.2.1 (n_laws_heldIntSS x.1 k) + 1))
noncomputable def n_laws_heldMemS (a0 : List (dM)) (a1 : Int) : Int := (szG hd_Mem a0 a1).getD (-1)
theorem nn_laws_heldMemS (a0 : List (dM)) (a1 : Int) (hk : InOk I_laws_heldMemS (a0, a1, ())) : raw_laws_heldMemS a0 a1 = (fun n => some ((n, ()), ())) (n_laws_heldMemS a0 a1) := by
  have hb : a0.length * 80 ≤ 2 ^ 47 := hk.1.1
  have hl : F_laws_heldMemS_13 (((a0, ()), (a1, ()), ((), ()), ()), (), ()) = some (match szG hd_Mem a0 a1 with | some r => .inl (((r, ()), ()), (), ()) | none => .inr ((((-1), ()), ()), (), ())) :=
    loopN_sz (step := stx_laws_heldMemS_13) a0 (([], [], false, []) : dM) (fun i k => (((a0, ()), (k, ()), ((i : Int), ()), ()), (), ())) hd_Mem (fun r => .inl (((r, ()), ()), (), ())) (.inr ((((-1), ()), ()), (), ())) (fun i s hi => by
      simp only [stx_laws_heldMemS_13, st_laws_heldMemS_13, ltb_t (show (i : Int) < a0.length by omega), inb_nat hi, nth_nat, cond_true, wr (show -9223372036854775808 ≤ (i : Int) + 1 by omega) (by omega), Int.natCast_add, Int.natCast_one, hd_Mem]
      cases ltb (n_laws_heldIntSS (a0.getD i (([], [], false, []) : dM)).1 s) 0
      · simp only [cond_false]
        cases ltb (n_laws_heldWrS (a0.getD i (([], [], false, []) : dM)).2.1 (n_laws_heldIntSS (a0.getD i (([], [], false, []) : dM)).1 s)) 0
        · simp only [cond_false]
          cases ((a0.getD i (([], [], false, []) : dM)).2.2.1 == ((n_laws_heldWrS (a0.getD i (([], [], false, []) : dM)).2.1 (n_laws_heldIntSS (a0.getD i (([], [], false, []) : dM)).1 s)).tmod 3 == 0))
          · rfl
          · simp only [Bool.not_true, cond_false]
            cases ltb (n_laws_heldIntS (a0.getD i (([], [], false, []) : dM)).2.2.2 (IntKind.i64.wrap (n_laws_heldWrS (a0.getD i (([], [], false, []) : dM)).2.1 (n_laws_heldIntSS (a0.getD i (([], [], false, []) : dM)).1 s) + 1))) 0 <;> rfl
        · rfl
      · rfl) (fun s => by simp only [stx_laws_heldMemS_13, st_laws_heldMemS_13, ltb_f (Int.le_refl _), cond_false]) a1 _ (by show _ < 18446744073709551616; omega)
  unfold raw_laws_heldMemS n_laws_heldMemS
  rw [hl]
  cases szG hd_Mem a0 a1 <;> rfl
noncomputable def con_laws_heldMemS : Con := ⟨I_laws_heldMemS, U_laws_heldMemS, fun x => (fun n => some ((n, ()), ())) (n_laws_heldMemS x.1 x.2.1)⟩
theorem ok_laws_heldMemS : ConOk Try.prog 32 con_laws_heldMemS := (ok0_laws_heldMemS).mono (fun x r hk h => (nn_laws_heldMemS x.1 x.2.1 hk).trans h)
theorem held_wrS (l : List dW) (k : Int) (h0 : 0 ≤ k) (h : k + ((l.map (fun x : dW => 1 + x.2.length)).sum : Nat) ≤ 9223372036854775807) : (markL u_Wr l k).1 = k + ((l.map (fun x : dW => 1 + x.2.length)).sum : Nat) ∧ szG hd_Wr (markL u_Wr l k).2 k = some (k + ((l.map (fun x : dW => 1 + x.2.length)).sum : Nat)) :=
  held_list (m := fun x : dW => 1 + x.2.length) (fun x k h0 h => by
    have hw : IntKind.i64.wrap (k + 1) = k + 1 := wr (by omega) (by omega)
    unfold u_Wr hd_Wr
    simp only [hw, bne_self_eq_false, cond_false, held_marks, markEnd_eq x.2.length (k + 1) (by omega) (by omega)]
    omega) l k h0 h
theorem held_intSS (l : List (List Int)) (k : Int) (h0 : 0 ≤ k) (h : k + ((l.map (fun x : List Int => x.length)).sum : Nat) ≤ 9223372036854775807) : (markL u_IntS l k).1 = k + ((l.map (fun x : List Int => x.length)).sum : Nat) ∧ szG hd_IntS (markL u_IntS l k).2 k = some (k + ((l.map (fun x : List Int => x.length)).sum : Nat)) :=
  held_list (m := fun x : List Int => x.length) (fun x k h0 h => by
    unfold u_IntS hd_IntS n_laws_markIntS
    simp only [held_marks, markEnd_eq x.length k (by omega) (by omega), and_self]) l k h0 h
theorem held_mem (x : dM) (k : Int) (h0 : 0 ≤ k) (h : k + (mMem x : Nat) ≤ 9223372036854775807) : (u_Mem x k).1 = k + (mMem x : Nat) ∧ hd_Mem (u_Mem x k).2 k = k + (mMem x : Nat) := by
  unfold mMem at h ⊢
  obtain ⟨a1, a2⟩ := held_intSS x.1 k h0 (by omega)
  obtain ⟨b1, b2⟩ := held_wrS x.2.1 (k + ((x.1.map (fun x : List Int => x.length)).sum : Nat)) (by omega) (by omega)
  have hw : ∀ n : Int, 0 ≤ n → n + 1 ≤ 9223372036854775807 → IntKind.i64.wrap (n + 1) = n + 1 := fun n h1 h2 => wr (by omega) (by omega)
  unfold u_Mem hd_Mem
  simp only [n_laws_markIntSS, n_laws_markWrS, n_laws_markIntS, n_laws_heldIntSS, n_laws_heldWrS, a1, a2, b1, b2, Option.getD_some]
  rw [hw _ (by omega) (by omega), ltb_f (show 0 ≤ k + ((x.1.map (fun x : List Int => x.length)).sum : Nat) by omega), cond_false, ltb_f (by omega), cond_false, beq_self_eq_true, Bool.not_true, cond_false, held_marks, markEnd_eq _ _ (by omega) (by omega)]
  omega
theorem held_memS (l : List dM) (k : Int) (h0 : 0 ≤ k) (h : k + (mMems l : Nat) ≤ 9223372036854775807) : (markL u_Mem l k).1 = k + (mMems l : Nat) ∧ szG hd_Mem (markL u_Mem l k).2 k = some (k + (mMems l : Nat)) :=
  held_list (m := mMem) (fun x k h0 h => held_mem x k h0 h) l k h0 h
theorem mk_mems (l : List dM) (h : mMems l ≤ 4611686018427387904) : (n_laws_markMemS l 1).1 = 1 + (mMems l : Nat) ∧ n_laws_heldMemS (n_laws_markMemS l 1).2 1 = 1 + (mMems l : Nat) := by
  obtain ⟨h1, h2⟩ := held_memS l 1 (by omega) (by omega)
  unfold n_laws_heldMemS n_laws_markMemS
  exact ⟨h1, by rw [h2]; rfl⟩
end
end Go.Tf
