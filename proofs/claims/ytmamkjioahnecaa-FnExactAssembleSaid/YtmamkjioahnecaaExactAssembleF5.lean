/- Functions of the program, and what they come to. -/
import Derived.Test.YtmamkjioahnecaaExactAssembleF4
namespace Go.Tf
open Go.Proofs
set_option synthInstance.maxHeartbeats 400000
set_option synthInstance.maxSize 10000
set_option linter.unusedVariables false
set_option linter.unusedSimpArgs false
set_option maxRecDepth 100000
/-! laws_markEntS -/
section
noncomputable def B_laws_markEntS : Code := (Try.f111.body).getD .skip
noncomputable def E_laws_markEntS : Env := envOf TT [(23, con_laws_markIntS)] []
theorem fr_laws_markEntS_0 : FrOk Try.prog ⟨E_laws_markEntS, 27, fun _ => none⟩ B_laws_markEntS := frOk_base mixed tt_ok ⟨ok_laws_markIntS, trivial⟩
noncomputable def D_laws_markEntS_0 : Nat → Option Seg := fun _ => none
def L_laws_markEntS_13 : Shape := ⟨[(0, false, [.at 1000001000]), (1, false, [.int .i64]), (5, false, [.int .i64])], [], [(1000001000, tW, (.pr .fz (.ow .fz)))]⟩
def S_laws_markEntS_13 : Shape := ⟨[(0, false, [.at 1000001000]), (1, false, [.int .i64]), (5, false, [.ci .i64 0])], [], [(1000001000, tW, (.pr .fz (.ow .fz)))]⟩
def O_laws_markEntS_13 : Shape := ⟨[(1, false, [.int .i64])], [], [(1000001000, tW, (.pr .fz (.ow .fz)))]⟩
def Z_laws_markEntS_13 : Shape := ⟨[], [], []⟩
noncomputable def st_laws_markEntS_13 (v0 : Int) (v1 : Int) (v2 : List dW) : Option ((L_laws_markEntS_13).X ⊕ ((O_laws_markEntS_13).X ⊕ (Z_laws_markEntS_13).X)) :=
  bif (ltb v1 (v2.length : Int)) then
    bif (inb v1 v2.length) then
      bif (inb v1 (v2.set (v1).toNat (v0, (nth v2 v1 (0, [])).2)).length) then
        let r4 := n_laws_markIntS ((nth (v2.set (v1).toNat (v0, (nth v2 v1 (0, [])).2)) v1 (0, [])).2) (IntKind.i64.wrap (v0 + 1))
        some (.inl ((((), ()), (r4.1, ()), ((IntKind.i64.wrap (v1 + 1)), ()), ()), (), (((v2.set (v1).toNat (v0, (nth v2 v1 (0, [])).2)).set (v1).toNat ((nth (v2.set (v1).toNat (v0, (nth v2 v1 (0, [])).2)) v1 (0, [])).1, r4.2)), ())))
      else none
    else none
  else
    some (.inr (.inl (((v0, ()), ()), (), (v2, ()))))
noncomputable def stx_laws_markEntS_13 (x : (L_laws_markEntS_13).X) := st_laws_markEntS_13 x.1.2.1.1 x.1.2.2.1.1 x.2.2.1
def em_laws_markEntS_13 (x : (S_laws_markEntS_13).X) : (L_laws_markEntS_13).X := ((((), ()), (x.1.2.1.1, ()), (0, ()), ()), (), (x.2.2.1, ()))
noncomputable def c_laws_markEntS_13 : Code := (subN B_laws_markEntS 64 52).getD .skip
theorem a_laws_markEntS_13 : subN B_laws_markEntS 64 13 = some (.block 0 (.loop c_laws_markEntS_13)) := by kernel_rfl
theorem r_laws_markEntS_13 (x : (L_laws_markEntS_13).X) : roundT ⟨E_laws_markEntS, 27, D_laws_markEntS_0⟩ 0 c_laws_markEntS_13 52 L_laws_markEntS_13 O_laws_markEntS_13 Z_laws_markEntS_13 x = stx_laws_markEntS_13 x := by kernel_rfl
noncomputable def fu_laws_markEntS_13 (x : (S_laws_markEntS_13).X) : Nat := (fun (u0 : Int) (u1 : List dW) => 18446744073709551616) x.1.2.1.1 x.2.2.1
noncomputable def F_laws_markEntS_13 (x : (S_laws_markEntS_13).X) : Option ((O_laws_markEntS_13).X ⊕ (Z_laws_markEntS_13).X) := loopN stx_laws_markEntS_13 (fu_laws_markEntS_13 x) (em_laws_markEntS_13 x)
noncomputable def sg_laws_markEntS_13 : Seg := ⟨S_laws_markEntS_13, O_laws_markEntS_13, Z_laws_markEntS_13, F_laws_markEntS_13⟩
noncomputable def D_laws_markEntS_1 : Nat → Option Seg := fun q => bif Nat.beq q 13 then some sg_laws_markEntS_13 else D_laws_markEntS_0 q
theorem fr_laws_markEntS_1 : FrOk Try.prog ⟨E_laws_markEntS, 27, D_laws_markEntS_1⟩ B_laws_markEntS := (fr_laws_markEntS_0).loop (sg := sg_laws_markEntS_13) L_laws_markEntS_13 em_laws_markEntS_13 (by decide) a_laws_markEntS_13 stx_laws_markEntS_13 fu_laws_markEntS_13 (by decide) (fun _ => rfl) (fun x r _ h => h) r_laws_markEntS_13
abbrev I_laws_markEntS : List Par := [.mt tWs (.ow (.pr .fz (.ow .fz))), .rd tI]
abbrev U_laws_markEntS : List OT := [⟨false, tI, .fz⟩]
noncomputable def raw_laws_markEntS (a0 : List dW) (a1 : Int) : Option (ResD U_laws_markEntS × MutD I_laws_markEntS) :=
  segM (F_laws_markEntS_13 ((((), ()), (a1, ()), ((), ()), ()), (), (a0, ()))) (fun y4 =>
    some ((y4.1.1.1, ()), (y4.2.2.1, ()))) (fun y4 =>
    none)
theorem e_laws_markEntS (x : InD I_laws_markEntS) : execF ⟨E_laws_markEntS, 27, D_laws_markEntS_1⟩ Try.f111.results.toList B_laws_markEntS I_laws_markEntS U_laws_markEntS x = raw_laws_markEntS x.1 x.2.1 := by kernel_rfl
theorem ok0_laws_markEntS : ConOk Try.prog 111 ⟨I_laws_markEntS, U_laws_markEntS, fun x => raw_laws_markEntS x.1 x.2.1⟩ := conOk_exec (fr_laws_markEntS_1) Try.func111 (by kernel_rfl) (by kernel_rfl) Try.ntmps111.symm (by decide) (fun x r h => (e_laws_markEntS x).trans h)
noncomputable def u_Ent (x : dW) (k : Int) : Int × dW := (markEnd (IntKind.i64.wrap (k + 1)) x.2.length, (k, marks (IntKind.i64.wrap (k + 1)) x.2.length))
noncomputable def n_laws_markEntS (a0 : List (dW)) (a1 : Int) : Int × List (dW) := markL u_Ent a0 a1
theorem nn_laws_markEntS (a0 : List (dW)) (a1 : Int) (hk : InOk I_laws_markEntS (a0, a1, ())) : raw_laws_markEntS a0 a1 = (fun n => some ((n.1, ()), (n.2, ()))) (n_laws_markEntS a0 a1) := by
  have hb : a0.length * 32 ≤ 2 ^ 47 := hk.1.1
  have hl : F_laws_markEntS_13 ((((), ()), (a1, ()), ((), ()), ()), (), (a0, ())) = some (.inl ((((markL u_Ent a0 a1).1, ()), ()), (), ((markL u_Ent a0 a1).2, ()))) :=
    loopN_mark (step := stx_laws_markEntS_13) a0 ((0, []) : dW) (fun i k m => ((((), ()), (k, ()), ((i : Int), ()), ()), (), (m, ()))) u_Ent (fun k m => .inl (((k, ()), ()), (), (m, ()))) (fun i s m hi hm => by
      simp only [stx_laws_markEntS_13, st_laws_markEntS_13, ltb_t (show (i : Int) < m.length by omega), List.length_set, inb_nat hi, Int.toNat_natCast, List.set_set, cond_true, nth_set hi, wr (show -9223372036854775808 ≤ (i : Int) + 1 by omega) (by omega), Int.natCast_add, Int.natCast_one, nth_nat]
      rfl) (fun s m hm => by simp only [stx_laws_markEntS_13, st_laws_markEntS_13, hm, ltb_f (Int.le_refl _), cond_false]) a1 _ (by show _ < 18446744073709551616; omega)
  unfold raw_laws_markEntS n_laws_markEntS
  rw [hl]; rfl
noncomputable def con_laws_markEntS : Con := ⟨I_laws_markEntS, U_laws_markEntS, fun x => (fun n => some ((n.1, ()), (n.2, ()))) (n_laws_markEntS x.1 x.2.1)⟩
theorem ok_laws_markEntS : ConOk Try.prog 111 con_laws_markEntS := (ok0_laws_markEntS).mono (fun x r hk h => (nn_laws_markEntS x.1 x.2.1 hk).trans h)
end

/-! laws_markArr -/
section
noncomputable def B_laws_markArr : Code := (Try.f50.body).getD .skip
noncomputable def E_laws_markArr : Env := envOf TT [(22, con_laws_markMemS), (111, con_laws_markEntS)] []
theorem fr_laws_markArr_0 : FrOk Try.prog ⟨E_laws_markArr, 14, fun _ => none⟩ B_laws_markArr := frOk_base mixed tt_ok ⟨ok_laws_markMemS, ok_laws_markEntS, trivial⟩
noncomputable def D_laws_markArr_0 : Nat → Option Seg := fun _ => none
abbrev I_laws_markArr : List Par := [.mt tA (.pr .fz (.pr (.pr .fz .fz) (.pr (.ow (.pr (.ow (.ow .fz)) (.pr (.ow (.pr .fz (.ow .fz))) (.pr .fz (.ow .fz))))) (.pr .fz (.pr .fz (.pr .fz (.pr .fz (.pr .fz (.pr (.ow (.pr .fz (.ow .fz))) (.pr .fz (.pr .fz .fz))))))))))), .rd tI]
abbrev U_laws_markArr : List OT := [⟨false, tI, .fz⟩]
noncomputable def raw_laws_markArr (a0 : dA) (a1 : Int) : Option (ResD U_laws_markArr × MutD I_laws_markArr) :=
  let r1 := n_laws_markMemS a0.2.2.1 a1
  let r2 := n_laws_markEntS a0.2.2.2.2.2.2.2.2.1 r1.1
  some ((r2.1, ()), ((a0.1, a0.2.1, r1.2, a0.2.2.2.1, a0.2.2.2.2.1, a0.2.2.2.2.2.1, a0.2.2.2.2.2.2.1, a0.2.2.2.2.2.2.2.1, r2.2, a0.2.2.2.2.2.2.2.2.2), ()))
theorem e_laws_markArr (x : InD I_laws_markArr) : execF ⟨E_laws_markArr, 14, D_laws_markArr_0⟩ Try.f50.results.toList B_laws_markArr I_laws_markArr U_laws_markArr x = raw_laws_markArr x.1 x.2.1 := by kernel_rfl
theorem ok0_laws_markArr : ConOk Try.prog 50 ⟨I_laws_markArr, U_laws_markArr, fun x => raw_laws_markArr x.1 x.2.1⟩ := conOk_exec (fr_laws_markArr_0) Try.func50 (by kernel_rfl) (by kernel_rfl) Try.ntmps50.symm (by decide) (fun x r h => (e_laws_markArr x).trans h)
noncomputable def n_laws_markArr (a0 : dA) (a1 : Int) : Int × dA :=
  let r1 := n_laws_markMemS a0.2.2.1 a1
  let r2 := n_laws_markEntS a0.2.2.2.2.2.2.2.2.1 r1.1
  (r2.1, (a0.1, a0.2.1, r1.2, a0.2.2.2.1, a0.2.2.2.2.1, a0.2.2.2.2.2.1, a0.2.2.2.2.2.2.1, a0.2.2.2.2.2.2.2.1, r2.2, a0.2.2.2.2.2.2.2.2.2))
noncomputable def con_laws_markArr : Con := ⟨I_laws_markArr, U_laws_markArr, fun x => (fun n => some ((n.1, ()), (n.2, ()))) (n_laws_markArr x.1 x.2.1)⟩
theorem nn_laws_markArr (a0 : dA) (a1 : Int) : raw_laws_markArr a0 a1 = (fun n => some ((n.1, ()), (n.2, ()))) (n_laws_markArr a0 a1) := bif_ty (p := fun (n : Int × dA) => ((n.1, ()), (n.2, ()))) rfl
theorem ok_laws_markArr : ConOk Try.prog 50 con_laws_markArr := (ok0_laws_markArr).mono (fun x r _ h => (nn_laws_markArr x.1 x.2.1).trans h)
end

/-! laws_heldEntS -/
section
noncomputable def B_laws_heldEntS : Code := (Try.f114.body).getD .skip
noncomputable def E_laws_heldEntS : Env := envOf TT [(62, con_laws_heldIntS)] []
theorem fr_laws_heldEntS_0 : FrOk Try.prog ⟨E_laws_heldEntS, 31, fun _ => none⟩ B_laws_heldEntS := frOk_base mixed tt_ok ⟨ok_laws_heldIntS, trivial⟩
noncomputable def D_laws_heldEntS_0 : Nat → Option Seg := fun _ => none
def L_laws_heldEntS_13 : Shape := ⟨[(0, false, [.br tW]), (1, false, [.int .i64]), (5, false, [.int .i64])], [], []⟩
def S_laws_heldEntS_13 : Shape := ⟨[(0, false, [.br tW]), (1, false, [.int .i64]), (5, false, [.ci .i64 0])], [], []⟩
def O_laws_heldEntS_13 : Shape := ⟨[(1, false, [.int .i64])], [], []⟩
def Z_laws_heldEntS_13 : Shape := ⟨[(4, false, [.int .i64])], [], []⟩
noncomputable def st_laws_heldEntS_13 (v0 : List dW) (v1 : Int) (v2 : Int) : Option ((L_laws_heldEntS_13).X ⊕ ((O_laws_heldEntS_13).X ⊕ (Z_laws_heldEntS_13).X)) :=
  bif (ltb v2 (v0.length : Int)) then
    bif (inb v2 v0.length) then
      bif ((nth v0 v2 (0, [])).1 != v1) then
        some (.inr (.inr ((((-1), ()), ()), (), ())))
      else
        bif (inb v2 v0.length) then
          let r2 := n_laws_heldIntS ((nth v0 v2 (0, [])).2) (IntKind.i64.wrap (v1 + 1))
          bif (ltb r2 0) then
            some (.inr (.inr ((((-1), ()), ()), (), ())))
          else
            some (.inl (((v0, ()), (r2, ()), ((IntKind.i64.wrap (v2 + 1)), ()), ()), (), ()))
        else none
    else none
  else
    some (.inr (.inl (((v1, ()), ()), (), ())))
noncomputable def stx_laws_heldEntS_13 (x : (L_laws_heldEntS_13).X) := st_laws_heldEntS_13 x.1.1.1 x.1.2.1.1 x.1.2.2.1.1
def em_laws_heldEntS_13 (x : (S_laws_heldEntS_13).X) : (L_laws_heldEntS_13).X := (((x.1.1.1, ()), (x.1.2.1.1, ()), (0, ()), ()), (), ())
noncomputable def c_laws_heldEntS_13 : Code := (subN B_laws_heldEntS 64 52).getD .skip
theorem a_laws_heldEntS_13 : subN B_laws_heldEntS 64 13 = some (.block 0 (.loop c_laws_heldEntS_13)) := by kernel_rfl
theorem r_laws_heldEntS_13 (x : (L_laws_heldEntS_13).X) : roundT ⟨E_laws_heldEntS, 31, D_laws_heldEntS_0⟩ 0 c_laws_heldEntS_13 52 L_laws_heldEntS_13 O_laws_heldEntS_13 Z_laws_heldEntS_13 x = stx_laws_heldEntS_13 x := by kernel_rfl
noncomputable def fu_laws_heldEntS_13 (x : (S_laws_heldEntS_13).X) : Nat := (fun (u0 : List dW) (u1 : Int) => 18446744073709551616) x.1.1.1 x.1.2.1.1
noncomputable def F_laws_heldEntS_13 (x : (S_laws_heldEntS_13).X) : Option ((O_laws_heldEntS_13).X ⊕ (Z_laws_heldEntS_13).X) := loopN stx_laws_heldEntS_13 (fu_laws_heldEntS_13 x) (em_laws_heldEntS_13 x)
noncomputable def sg_laws_heldEntS_13 : Seg := ⟨S_laws_heldEntS_13, O_laws_heldEntS_13, Z_laws_heldEntS_13, F_laws_heldEntS_13⟩
noncomputable def D_laws_heldEntS_1 : Nat → Option Seg := fun q => bif Nat.beq q 13 then some sg_laws_heldEntS_13 else D_laws_heldEntS_0 q
theorem fr_laws_heldEntS_1 : FrOk Try.prog ⟨E_laws_heldEntS, 31, D_laws_heldEntS_1⟩ B_laws_heldEntS := (fr_laws_heldEntS_0).loop (sg := sg_laws_heldEntS_13) L_laws_heldEntS_13 em_laws_heldEntS_13 (by decide) a_laws_heldEntS_13 stx_laws_heldEntS_13 fu_laws_heldEntS_13 (by decide) (fun _ => rfl) (fun x r _ h => h) r_laws_heldEntS_13
abbrev I_laws_heldEntS : List Par := [.rd tWs, .rd tI]
abbrev U_laws_heldEntS : List OT := [⟨false, tI, .fz⟩]
noncomputable def raw_laws_heldEntS (a0 : List dW) (a1 : Int) : Option (ResD U_laws_heldEntS × MutD I_laws_heldEntS) :=
  segM (F_laws_heldEntS_13 (((a0, ()), (a1, ()), ((), ()), ()), (), ())) (fun y2 =>
    some ((y2.1.1.1, ()), ())) (fun y2 =>
    some ((y2.1.1.1, ()), ()))
theorem e_laws_heldEntS (x : InD I_laws_heldEntS) : execF ⟨E_laws_heldEntS, 31, D_laws_heldEntS_1⟩ Try.f114.results.toList B_laws_heldEntS I_laws_heldEntS U_laws_heldEntS x = raw_laws_heldEntS x.1 x.2.1 := by kernel_rfl
theorem ok0_laws_heldEntS : ConOk Try.prog 114 ⟨I_laws_heldEntS, U_laws_heldEntS, fun x => raw_laws_heldEntS x.1 x.2.1⟩ := conOk_exec (fr_laws_heldEntS_1) Try.func114 (by kernel_rfl) (by kernel_rfl) Try.ntmps114.symm (by decide) (fun x r h => (e_laws_heldEntS x).trans h)
noncomputable def hd_Ent (x : dW) (k : Int) : Int := bif x.1 != k then -1 else n_laws_heldIntS x.2 (IntKind.i64.wrap (k + 1))
noncomputable def n_laws_heldEntS (a0 : List (dW)) (a1 : Int) : Int := (szG hd_Ent a0 a1).getD (-1)
theorem nn_laws_heldEntS (a0 : List (dW)) (a1 : Int) (hk : InOk I_laws_heldEntS (a0, a1, ())) : raw_laws_heldEntS a0 a1 = (fun n => some ((n, ()), ())) (n_laws_heldEntS a0 a1) := by
  have hb : a0.length * 32 ≤ 2 ^ 47 := hk.1.1
  have hl : F_laws_heldEntS_13 (((a0, ()), (a1, ()), ((), ()), ()), (), ()) = some (match szG hd_Ent a0 a1 with | some r => .inl (((r, ()), ()), (), ()) | none => .inr ((((-1), ()), ()), (), ())) :=
    loopN_sz (step := stx_laws_heldEntS_13) a0 ((0, []) : dW) (fun i k => (((a0, ()), (k, ()), ((i : Int), ()), ()), (), ())) hd_Ent (fun r => .inl (((r, ()), ()), (), ())) (.inr ((((-1), ()), ()), (), ())) (fun i s hi => by
      simp only [stx_laws_heldEntS_13, st_laws_heldEntS_13, ltb_t (show (i : Int) < a0.length by omega), inb_nat hi, nth_nat, cond_true, wr (show -9223372036854775808 ≤ (i : Int) + 1 by omega) (by omega), Int.natCast_add, Int.natCast_one, hd_Ent]
      cases ((a0.getD i ((0, []) : dW)).1 != s)
      · simp only [cond_false]
        cases ltb (n_laws_heldIntS (a0.getD i ((0, []) : dW)).2 (IntKind.i64.wrap (s + 1))) 0 <;> rfl
      · rfl) (fun s => by simp only [stx_laws_heldEntS_13, st_laws_heldEntS_13, ltb_f (Int.le_refl _), cond_false]) a1 _ (by show _ < 18446744073709551616; omega)
  unfold raw_laws_heldEntS n_laws_heldEntS
  rw [hl]
  cases szG hd_Ent a0 a1 <;> rfl
noncomputable def con_laws_heldEntS : Con := ⟨I_laws_heldEntS, U_laws_heldEntS, fun x => (fun n => some ((n, ()), ())) (n_laws_heldEntS x.1 x.2.1)⟩
theorem ok_laws_heldEntS : ConOk Try.prog 114 con_laws_heldEntS := (ok0_laws_heldEntS).mono (fun x r hk h => (nn_laws_heldEntS x.1 x.2.1 hk).trans h)
theorem held_entS (l : List dW) (k : Int) (h0 : 0 ≤ k) (h : k + (mEnts l : Nat) ≤ 9223372036854775807) : (markL u_Ent l k).1 = k + (mEnts l : Nat) ∧ szG hd_Ent (markL u_Ent l k).2 k = some (k + (mEnts l : Nat)) :=
  held_list (m := fun x : dW => 1 + x.2.length) (fun x k h0 h => by
    have hw : IntKind.i64.wrap (k + 1) = k + 1 := wr (by omega) (by omega)
    unfold u_Ent hd_Ent
    simp only [hw, bne_self_eq_false, cond_false, held_marks, markEnd_eq x.2.length (k + 1) (by omega) (by omega)]
    omega) l k h0 h
end

/-! laws_heldArr -/
section
noncomputable def B_laws_heldArr : Code := (Try.f57.body).getD .skip
noncomputable def E_laws_heldArr : Env := envOf TT [(24, con_laws_heldMemS), (114, con_laws_heldEntS)] []
theorem fr_laws_heldArr_0 : FrOk Try.prog ⟨E_laws_heldArr, 18, fun _ => none⟩ B_laws_heldArr := frOk_base mixed tt_ok ⟨ok_laws_heldMemS, ok_laws_heldEntS, trivial⟩
noncomputable def D_laws_heldArr_0 : Nat → Option Seg := fun _ => none
abbrev I_laws_heldArr : List Par := [.rd tA, .rd tI]
abbrev U_laws_heldArr : List OT := [⟨false, tI, .fz⟩]
noncomputable def raw_laws_heldArr (a0 : dA) (a1 : Int) : Option (ResD U_laws_heldArr × MutD I_laws_heldArr) :=
  let r1 := n_laws_heldMemS a0.2.2.1 a1
  bif (ltb r1 0) then
    some (((-1), ()), ())
  else
    let r2 := n_laws_heldEntS a0.2.2.2.2.2.2.2.2.1 r1
    bif (ltb r2 0) then
      some (((-1), ()), ())
    else
      some ((r2, ()), ())
theorem e_laws_heldArr (x : InD I_laws_heldArr) : execF ⟨E_laws_heldArr, 18, D_laws_heldArr_0⟩ Try.f57.results.toList B_laws_heldArr I_laws_heldArr U_laws_heldArr x = raw_laws_heldArr x.1 x.2.1 := by kernel_rfl
theorem ok0_laws_heldArr : ConOk Try.prog 57 ⟨I_laws_heldArr, U_laws_heldArr, fun x => raw_laws_heldArr x.1 x.2.1⟩ := conOk_exec (fr_laws_heldArr_0) Try.func57 (by kernel_rfl) (by kernel_rfl) Try.ntmps57.symm (by decide) (fun x r h => (e_laws_heldArr x).trans h)
noncomputable def n_laws_heldArr (a0 : dA) (a1 : Int) : Int :=
  let r1 := n_laws_heldMemS a0.2.2.1 a1
  bif (ltb r1 0) then
    (-1)
  else
    let r2 := n_laws_heldEntS a0.2.2.2.2.2.2.2.2.1 r1
    bif (ltb r2 0) then
      (-1)
    else
      r2
noncomputable def con_laws_heldArr : Con := ⟨I_laws_heldArr, U_laws_heldArr, fun x => (fun n => some ((n, ()), ())) (n_laws_heldArr x.1 x.2.1)⟩
theorem nn_laws_heldArr (a0 : dA) (a1 : Int) : raw_laws_heldArr a0 a1 = (fun n => some ((n, ()), ())) (n_laws_heldArr a0 a1) := bif_ty (p := fun (n : Int) => ((n, ()), ())) (bif_some (p := fun (n : Int) => ((n, ()), ())) rfl (bif_some (p := fun (n : Int) => ((n, ()), ())) rfl rfl))
theorem ok_laws_heldArr : ConOk Try.prog 57 con_laws_heldArr := (ok0_laws_heldArr).mono (fun x r _ h => (nn_laws_heldArr x.1 x.2.1).trans h)
theorem mk_arr {x : dA} (h : mArr x ≤ 4611686018427387904) : (n_laws_markArr x 1).1 = 1 + (mArr x : Nat) ∧ n_laws_heldArr (n_laws_markArr x 1).2 1 = 1 + (mArr x : Nat) := by
  unfold mArr at h ⊢
  obtain ⟨a1, a2⟩ := held_memS x.2.2.1 1 (by omega) (by omega)
  obtain ⟨b1, b2⟩ := held_entS x.2.2.2.2.2.2.2.2.1 (1 + (mMems x.2.2.1 : Nat)) (by omega) (by omega)
  unfold n_laws_markArr n_laws_heldArr
  simp only [n_laws_markMemS, n_laws_markEntS, n_laws_heldMemS, n_laws_heldEntS, a1, a2, b1, b2, Option.getD_some]
  rw [ltb_f (show (0 : Int) ≤ 1 + (mMems x.2.2.1 : Nat) by omega), cond_false, ltb_f (by omega), cond_false]
  omega
/-- a result with its marks -/
noncomputable abbrev markedA (x : dA) : dA := (x.1, x.2.1, (n_laws_markArr x 1).2.2.2.1, x.2.2.2.1, x.2.2.2.2.1, x.2.2.2.2.2.1, x.2.2.2.2.2.2.1, x.2.2.2.2.2.2.2.1, (n_laws_markArr x 1).2.2.2.2.2.2.2.2.2.1, x.2.2.2.2.2.2.2.2.2)
theorem mk_arr3 {x : dA} (h : mArr x ≤ 4611686018427387904) : ltb (n_laws_markArr x 1).1 0 = false ∧ ltb (n_laws_heldArr (markedA x) 1) 0 = false ∧ (n_laws_heldArr (markedA x) 1 != (n_laws_markArr x 1).1) = false := by
  obtain ⟨h1, h2⟩ := mk_arr h
  rw [show markedA x = (n_laws_markArr x 1).2 from rfl, h1, h2]
  exact ⟨ltb_f (by omega), ltb_f (by omega), by simp⟩
end

/-! spec_l1In -/
section
noncomputable def B_spec_l1In : Code := (Try.f82.body).getD .skip
noncomputable def E_spec_l1In : Env := envOf TT [] []
theorem fr_spec_l1In_0 : FrOk Try.prog ⟨E_spec_l1In, 15, fun _ => none⟩ B_spec_l1In := frOk_base mixed tt_ok trivial
noncomputable def D_spec_l1In_0 : Nat → Option Seg := fun _ => none
abbrev I_spec_l1In : List Par := [.rd tI, .rd tI, .rd tI]
abbrev U_spec_l1In : List OT := [⟨false, tB, .fz⟩]
noncomputable def raw_spec_l1In (a0 : Int) (a1 : Int) (a2 : Int) : Option (ResD U_spec_l1In × MutD I_spec_l1In) :=
  bif (leb a1 a0) then
    some (((leb a0 a2), ()), ())
  else
    some ((false, ()), ())
theorem e_spec_l1In (x : InD I_spec_l1In) : execF ⟨E_spec_l1In, 15, D_spec_l1In_0⟩ Try.f82.results.toList B_spec_l1In I_spec_l1In U_spec_l1In x = raw_spec_l1In x.1 x.2.1 x.2.2.1 := by kernel_rfl
theorem ok0_spec_l1In : ConOk Try.prog 82 ⟨I_spec_l1In, U_spec_l1In, fun x => raw_spec_l1In x.1 x.2.1 x.2.2.1⟩ := conOk_exec (fr_spec_l1In_0) Try.func82 (by kernel_rfl) (by kernel_rfl) Try.ntmps82.symm (by decide) (fun x r h => (e_spec_l1In x).trans h)
noncomputable def n_spec_l1In (a0 : Int) (a1 : Int) (a2 : Int) : Bool :=
  bif (leb a1 a0) then
    (leb a0 a2)
  else
    false
noncomputable def con_spec_l1In : Con := ⟨I_spec_l1In, U_spec_l1In, fun x => (fun n => some ((n, ()), ())) (n_spec_l1In x.1 x.2.1 x.2.2.1)⟩
theorem nn_spec_l1In (a0 : Int) (a1 : Int) (a2 : Int) : raw_spec_l1In a0 a1 a2 = (fun n => some ((n, ()), ())) (n_spec_l1In a0 a1 a2) := bif_ty (p := fun (n : Bool) => ((n, ()), ())) (bif_some (p := fun (n : Bool) => ((n, ()), ())) rfl rfl)
theorem ok_spec_l1In : ConOk Try.prog 82 con_spec_l1In := (ok0_spec_l1In).mono (fun x r _ h => (nn_spec_l1In x.1 x.2.1 x.2.2.1).trans h)
theorem in_iff {a b c : Int} : n_spec_l1In a b c = true ↔ b ≤ a ∧ a ≤ c := by
  unfold n_spec_l1In
  cases h : leb b a
  · have := mt leb_t (by rw [h]; simp : ¬ leb b a = true)
    simp [this]
  · simp [leb_iff, leb_iff.1 h]
theorem in_t {a b c : Int} (h : b ≤ a) (h2 : a ≤ c) : n_spec_l1In a b c = true := in_iff.2 ⟨h, h2⟩
theorem in_f {a b c : Int} (h : ¬ (b ≤ a ∧ a ≤ c)) : n_spec_l1In a b c = false := by
  cases e : n_spec_l1In a b c
  · rfl
  · exact absurd (in_iff.1 e) h
theorem in_eq (x a b : Int) : n_spec_l1In x a b = (leb a x && leb x b) := by
  unfold n_spec_l1In; cases leb a x <;> rfl
theorem in_len {x : Int} {n : Nat} (h : n ≤ 1152921504606846976) : n_spec_l1In x 0 (IntKind.i64.wrap ((n : Int) - 1)) = inb x n := by
  rw [wr (by omega) (by omega), Bool.eq_iff_iff, in_iff, inb_iff]; omega
end

/-! spec_GeoOk -/
section
noncomputable def B_spec_GeoOk : Code := (Try.f140.body).getD .skip
noncomputable def E_spec_GeoOk : Env := envOf TT [(82, con_spec_l1In)] []
theorem fr_spec_GeoOk_0 : FrOk Try.prog ⟨E_spec_GeoOk, 11, fun _ => none⟩ B_spec_GeoOk := frOk_base mixed tt_ok ⟨ok_spec_l1In, trivial⟩
noncomputable def D_spec_GeoOk_0 : Nat → Option Seg := fun _ => none
abbrev I_spec_GeoOk : List Par := [.rd tG]
abbrev U_spec_GeoOk : List OT := [⟨false, tB, .fz⟩]
noncomputable def raw_spec_GeoOk (a0 : dG) : Option (ResD U_spec_GeoOk × MutD I_spec_GeoOk) :=
  let r1 := n_spec_l1In a0.1 3 5
  bif r1 then
    let r2 := n_spec_l1In a0.2 1 8
    some ((r2, ()), ())
  else
    some ((false, ()), ())
theorem e_spec_GeoOk (x : InD I_spec_GeoOk) : execF ⟨E_spec_GeoOk, 11, D_spec_GeoOk_0⟩ Try.f140.results.toList B_spec_GeoOk I_spec_GeoOk U_spec_GeoOk x = raw_spec_GeoOk x.1 := by kernel_rfl
theorem ok0_spec_GeoOk : ConOk Try.prog 140 ⟨I_spec_GeoOk, U_spec_GeoOk, fun x => raw_spec_GeoOk x.1⟩ := conOk_exec (fr_spec_GeoOk_0) Try.func140 (by kernel_rfl) (by kernel_rfl) Try.ntmps140.symm (by decide) (fun x r h => (e_spec_GeoOk x).trans h)
noncomputable def n_spec_GeoOk (a0 : dG) : Bool :=
  let r1 := n_spec_l1In a0.1 3 5
  bif r1 then
    let r2 := n_spec_l1In a0.2 1 8
    r2
  else
    false
noncomputable def con_spec_GeoOk : Con := ⟨I_spec_GeoOk, U_spec_GeoOk, fun x => (fun n => some ((n, ()), ())) (n_spec_GeoOk x.1)⟩
theorem nn_spec_GeoOk (a0 : dG) : raw_spec_GeoOk a0 = (fun n => some ((n, ()), ())) (n_spec_GeoOk a0) := bif_ty (p := fun (n : Bool) => ((n, ()), ())) (bif_some (p := fun (n : Bool) => ((n, ()), ())) rfl rfl)
theorem ok_spec_GeoOk : ConOk Try.prog 140 con_spec_GeoOk := (ok0_spec_GeoOk).mono (fun x r _ h => (nn_spec_GeoOk x.1).trans h)
theorem geo_iff {a : Int × Int} : n_spec_GeoOk a = true ↔ (3 ≤ a.1 ∧ a.1 ≤ 5) ∧ 1 ≤ a.2 ∧ a.2 ≤ 8 := by
  unfold n_spec_GeoOk
  cases h : n_spec_l1In a.1 3 5
  · have : ¬ (3 ≤ a.1 ∧ a.1 ≤ 5) := fun e => by rw [in_iff.2 e] at h; simp at h
    simp [this]
  · simp only [cond_true, in_iff]
    exact ⟨fun e => ⟨in_iff.1 h, e⟩, fun e => e.2⟩
def memBad (a : dA) (i : Nat) : Bool := !(memOk (nth a.2.2.1 i noMem)) || ((((nth a.2.2.1 i noMem).1.length : Int) != 6 + a.2.1.2) || ((nth a.2.2.1 i noMem).2.2.1 && (((i : Int) != a.2.2.2.1) && !a.2.2.2.2.2.2.2.2.2.2.2)))
def memsOk (a : dA) : Bool := !((List.range a.2.2.1.length).any (memBad a)) && (a.2.2.1.length : Int) == a.2.1.1
def dirtBad (g : dG) (l : List dW) (i : Nat) : Bool := !(leb 0 (nth l i (0, [])).1 && leb (nth l i (0, [])).1 (g.2 - 1)) || (((nth l i (0, [])).2.length : Int) != g.1 - 1 || (!((nth l i (0, [])).2.all isW) || (decide (0 < i) && leb (nth l i (0, [])).1 (nth l ((i - 1 : Nat) : Int) (0, [])).1)))
def dirtyOk (g : dG) (l : List dW) : Bool := !((List.range l.length).any (dirtBad g l))
/-- an array that is right -/
noncomputable def arrOk (a : dA) : Bool :=
  n_spec_GeoOk a.2.1 && ((leb 1 a.1 && leb a.1 60000) && (memsOk a && (dirtyOk a.2.1 a.2.2.2.2.2.2.2.2.1 && ((leb (-1) a.2.2.2.1 && leb a.2.2.2.1 (a.2.1.1 - 1)) && ((leb 0 a.2.2.2.2.1 && leb a.2.2.2.2.1 a.2.1.2) && (!(a.2.2.2.1 == -1 && a.2.2.2.2.1 != 0) &&
  ((leb 0 a.2.2.2.2.2.2.1 && leb a.2.2.2.2.2.2.1 60000) && ((leb a.2.2.2.2.2.2.1 a.2.2.2.2.2.1 && leb a.2.2.2.2.2.1 60000) && (leb a.2.2.2.2.2.1 (a.2.2.2.2.2.2.1 + 4) && ((leb 0 a.2.2.2.2.2.2.2.1 && leb a.2.2.2.2.2.2.2.1 60000) && (leb (-1) a.2.2.2.2.2.2.2.2.2.1 && leb a.2.2.2.2.2.2.2.2.2.1 1000)))))))))))
theorem arrOk_geo {a : dA} (h : arrOk a = true) : n_spec_GeoOk a.2.1 = true := (Bool.and_eq_true_iff.1 h).1
theorem geo_f {a : Int × Int} (h : ¬ n_spec_GeoOk a = true) : n_spec_GeoOk a = false := by cases e : n_spec_GeoOk a <;> simp_all
theorem arrOk_mems {a : dA} (h : arrOk a = true) : memsOk a = true := by simp only [arrOk, Bool.and_eq_true] at h; exact h.2.2.1
theorem arrOk_len {a : dA} (h : arrOk a = true) : (a.2.2.1.length : Int) = a.2.1.1 := by have := arrOk_mems h; simp only [memsOk, Bool.and_eq_true, beq_iff_eq] at this; exact this.2
theorem memsOk_at {a : dA} (h : memsOk a = true) {i : Nat} (hi : i < a.2.2.1.length) : memOk (nth a.2.2.1 i noMem) = true ∧ ((nth a.2.2.1 i noMem).1.length : Int) = 6 + a.2.1.2 ∧ ((nth a.2.2.1 i noMem).2.2.1 = true → (i : Int) = a.2.2.2.1 ∨ a.2.2.2.2.2.2.2.2.2.2.2 = true) := by
  simp only [memsOk, Bool.and_eq_true, Bool.not_eq_true', List.any_eq_false, List.mem_range] at h
  have := h.1 i hi
  simp only [memBad, Bool.not_eq_true, Bool.or_eq_false_iff, Bool.not_eq_false', bne_eq_false_iff_eq, Bool.and_eq_false_iff] at this
  refine ⟨this.1, this.2.1, fun hf => ?_⟩
  rcases this.2.2 with h1 | h1 | h1
  · rw [hf] at h1; cases h1
  · exact .inl h1
  · exact .inr h1
end
end Go.Tf
