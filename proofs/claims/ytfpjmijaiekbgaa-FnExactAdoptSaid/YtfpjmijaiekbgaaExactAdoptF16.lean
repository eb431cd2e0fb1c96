/- Functions of the program, and what they come to. -/
import Derived.Test.YtfpjmijaiekbgaaExactAdoptF15
namespace Go.Tf
open Go.Proofs
set_option synthInstance.maxHeartbeats 400000
set_option synthInstance.maxSize 10000
set_option linter.unusedVariables false
set_option linter.unusedSimpArgs false
set_option maxRecDepth 100000
/-! laws_heldEntS -/
section
noncomputable def B_laws_heldEntS : Code := (Try.f33.body).getD .skip
noncomputable def E_laws_heldEntS : Env := envOf TT [(68, con_laws_heldIntS)] []
theorem fr_laws_heldEntS_0 : FrOk Try.prog ⟨E_laws_heldEntS, 31, fun _ => none⟩ B_laws_heldEntS := frOk_base mixed tt_ok ⟨ok_laws_heldIntS, trivial⟩
noncomputable def D_laws_heldEntS_0 : Nat → Option Seg := fun _ => none
def L_laws_heldEntS_13 : Shape := ⟨[(0, false, [.br tW]), (1, false, [.int .i64]), (5, false, [.int .i64])], [], []⟩
def S_laws_heldEntS_13 : Shape := ⟨[(0, false, [.br tW]), (1, false, [.int .i64]), (5, false, [.ci .i64 0])], [], []⟩
def O_laws_heldEntS_13 : Shape := ⟨[(1, false, [.int .i64])], [], []⟩
def Z_laws_heldEntS_13 : Shape := ⟨[(4, false, [.int .i64])], [], []⟩
noncomputable def st_laws_heldEntS_13 (v0 : List dW) (v1 : Int) (v2 : Int) : Option ((L_laws_heldEntS_13).X ⊕ ((O_laws_heldEntS_13).X ⊕ (Z_laws_heldEntS_13).X)) :=
  bif (ltb v2 (v0.length : Int)) then
    bif (inb v2 v0.length) then
      bif ((nth v0 v2 (0, [])).1 != v1) then
        some (.inr (.inr ((((-1), ()), ()), (), ())))
      else
        bif (inb v2 v0.length) then
          let r2 := n_laws_heldIntS ((nth v0 v2 (0, [])).2) (IntKind.i64.wrap (v1 + 1))
          bif (ltb r2 0) then
            some (.inr (.inr ((((-1), ()), ()), (), ())))
          else
            some (.inl (((v0, ()), (r2, ()), ((IntKind.i64.wrap (v2 + 1)), ()), ()), (), ()))
        else none
    else none
  else
    some (.inr (.inl (((v1, ()), ()), (), ())))
noncomputable def stx_laws_heldEntS_13 (x : (L_laws_heldEntS_13).X) := st_laws_heldEntS_13 x.1.1.1 x.1.2.1.1 x.1.2.2.1.1
def em_laws_heldEntS_13 (x : (S_laws_heldEntS_13).X) : (L_laws_heldEntS_13).X := (((x.1.1.1, ()), (x.1.2.1.1, ()), (0, ()), ()), (), ())
noncomputable def c_laws_heldEntS_13 : Code := (subN B_laws_heldEntS 64 52).getD .skip
theorem a_laws_heldEntS_13 : subN B_laws_heldEntS 64 13 = some (.block 0 (.loop c_laws_heldEntS_13)) := by kernel_rfl
theorem r_laws_heldEntS_13 (x : (L_laws_heldEntS_13).X) : roundT ⟨E_laws_heldEntS, 31, D_laws_heldEntS_0⟩ 0 c_laws_heldEntS_13 52 L_laws_heldEntS_13 O_laws_heldEntS_13 Z_laws_heldEntS_13 x = stx_laws_heldEntS_13 x := by kernel_rfl
noncomputable def fu_laws_heldEntS_13 (x : (S_laws_heldEntS_13).X) : Nat := (fun (u0 : List dW) (u1 : Int) => 18446744073709551616) x.1.1.1 x.1.2.1.1
noncomputable def F_laws_heldEntS_13 (x : (S_laws_heldEntS_13).X) : Option ((O_laws_heldEntS_13).X ⊕ (Z_laws_heldEntS_13).X) := loopN stx_laws_heldEntS_13 (fu_laws_heldEntS_13 x) (em_laws_heldEntS_13 x)
noncomputable def sg_laws_heldEntS_13 : Seg := ⟨S_laws_heldEntS_13, O_laws_heldEntS_13, Z_laws_heldEntS_13, F_laws_heldEntS_13⟩
noncomputable def D_laws_heldEntS_1 : Nat → Option Seg := fun q => bif Nat.beq q 13 then some sg_laws_heldEntS_13 else D_laws_heldEntS_0 q
theorem fr_laws_heldEntS_1 : FrOk Try.prog ⟨E_laws_heldEntS, 31, D_laws_heldEntS_1⟩ B_laws_heldEntS := (fr_laws_heldEntS_0).loop (sg := sg_laws_heldEntS_13) L_laws_heldEntS_13 em_laws_heldEntS_13 (by decide) a_laws_heldEntS_13 stx_laws_heldEntS_13 fu_laws_heldEntS_13 (by decide) (fun _ => rfl) (fun x r _ h => h) r_laws_heldEntS_13
abbrev I_laws_heldEntS : List Par := [.rd tWs, .rd tI]
abbrev U_laws_heldEntS : List OT := [⟨false, tI, .fz⟩]
noncomputable def raw_laws_heldEntS (a0 : List dW) (a1 : Int) : Option (ResD U_laws_heldEntS × MutD I_laws_heldEntS) :=
  segM (F_laws_heldEntS_13 (((a0, ()), (a1, ()), ((), ()), ()), (), ())) (fun y2 =>
    some ((y2.1.1.1, ()), ())) (fun y2 =>
    some ((y2.1.1.1, ()), ()))
theorem e_laws_heldEntS (x : InD I_laws_heldEntS) : execF ⟨E_laws_heldEntS, 31, D_laws_heldEntS_1⟩ Try.f33.results.toList B_laws_heldEntS I_laws_heldEntS U_laws_heldEntS x = raw_laws_heldEntS x.1 x.2.1 := by kernel_rfl
theorem ok0_laws_heldEntS : ConOk Try.prog 33 ⟨I_laws_heldEntS, U_laws_heldEntS, fun x => raw_laws_heldEntS x.1 x.2.1⟩ := conOk_exec (fr_laws_heldEntS_1) Try.func33 (by kernel_rfl) (by kernel_rfl) Try.ntmps33.symm (by decide) (fun x r h => (e_laws_heldEntS x).trans h)
noncomputable def hd_Ent (x : dW) (k : Int) : Int := bif x.1 != k then -1 else n_laws_heldIntS x.2 (IntKind.i64.wrap (k + 1))
noncomputable def n_laws_heldEntS (a0 : List (dW)) (a1 : Int) : Int := (szG hd_Ent a0 a1).getD (-1)
theorem nn_laws_heldEntS (a0 : List (dW)) (a1 : Int) (hk : InOk I_laws_heldEntS (a0, a1, ())) : raw_laws_heldEntS a0 a1 = (fun n => some ((n, ()), ())) (n_laws_heldEntS a0 a1) := by
  have hb : a0.length * 32 ≤ 2 ^ 47 := hk.1.1
  have hl : F_laws_heldEntS_13 (((a0, ()), (a1, ()), ((), ()), ()), (), ()) = some (match szG hd_Ent a0 a1 with | some r => .inl (((r, ()), ()), (), ()) | none => .inr ((((-1), ()), ()), (), ())) :=
    loopN_sz (step := stx_laws_heldEntS_13) a0 ((0, []) : dW) (fun i k => (((a0, ()), (k, ()), ((i : Int), ()), ()), (), ())) hd_Ent (fun r => .inl (((r, ()), ()), (), ())) (.inr ((((-1), ()), ()), (), ())) (fun i s hi => by
      simp only [stx_laws_heldEntS_13, st_laws_heldEntS_13, ltb_t (show (i : Int) < a0.length by omega), inb_nat hi, nth_nat, cond_true, wr (show -9223372036854775808 ≤ (i : Int) + 1 by omega) (by omega), Int.natCast_add, Int.natCast_one, hd_Ent]
      cases ((a0.getD i ((0, []) : dW)).1 != s)
      · simp only [cond_false]
        cases ltb (n_laws_heldIntS (a0.getD i ((0, []) : dW)).2 (IntKind.i64.wrap (s + 1))) 0 <;> rfl
      · rfl) (fun s => by simp only [stx_laws_heldEntS_13, st_laws_heldEntS_13, ltb_f (Int.le_refl _), cond_false]) a1 _ (by show _ < 18446744073709551616; omega)
  unfold raw_laws_heldEntS n_laws_heldEntS
  rw [hl]
  cases szG hd_Ent a0 a1 <;> rfl
noncomputable def con_laws_heldEntS : Con := ⟨I_laws_heldEntS, U_laws_heldEntS, fun x => (fun n => some ((n, ()), ())) (n_laws_heldEntS x.1 x.2.1)⟩
theorem ok_laws_heldEntS : ConOk Try.prog 33 con_laws_heldEntS := (ok0_laws_heldEntS).mono (fun x r hk h => (nn_laws_heldEntS x.1 x.2.1 hk).trans h)
theorem held_entS (l : List dW) (k : Int) (h0 : 0 ≤ k) (h : k + (mEnts l : Nat) ≤ 9223372036854775807) : (markL u_Ent l k).1 = k + (mEnts l : Nat) ∧ szG hd_Ent (markL u_Ent l k).2 k = some (k + (mEnts l : Nat)) :=
  held_list (m := fun x : dW => 1 + x.2.length) (fun x k h0 h => by
    have hw : IntKind.i64.wrap (k + 1) = k + 1 := wr (by omega) (by omega)
    unfold u_Ent hd_Ent
    simp only [hw, bne_self_eq_false, cond_false, held_marks, markEnd_eq x.2.length (k + 1) (by omega) (by omega)]
    omega) l k h0 h
end

/-! laws_heldArr -/
section
noncomputable def B_laws_heldArr : Code := (Try.f11.body).getD .skip
noncomputable def E_laws_heldArr : Env := envOf TT [(32, con_laws_heldMemS), (33, con_laws_heldEntS)] []
theorem fr_laws_heldArr_0 : FrOk Try.prog ⟨E_laws_heldArr, 18, fun _ => none⟩ B_laws_heldArr := frOk_base mixed tt_ok ⟨ok_laws_heldMemS, ok_laws_heldEntS, trivial⟩
noncomputable def D_laws_heldArr_0 : Nat → Option Seg := fun _ => none
abbrev I_laws_heldArr : List Par := [.rd tA, .rd tI]
abbrev U_laws_heldArr : List OT := [⟨false, tI, .fz⟩]
noncomputable def raw_laws_heldArr (a0 : dA) (a1 : Int) : Option (ResD U_laws_heldArr × MutD I_laws_heldArr) :=
  let r1 := n_laws_heldMemS a0.2.2.1 a1
  bif (ltb r1 0) then
    some (((-1), ()), ())
  else
    let r2 := n_laws_heldEntS a0.2.2.2.2.2.2.2.2.1 r1
    bif (ltb r2 0) then
      some (((-1), ()), ())
    else
      some ((r2, ()), ())
theorem e_laws_heldArr (x : InD I_laws_heldArr) : execF ⟨E_laws_heldArr, 18, D_laws_heldArr_0⟩ Try.f11.results.toList B_laws_heldArr I_laws_heldArr U_laws_heldArr x = raw_laws_heldArr x.1 x.2.1 := by kernel_rfl
theorem ok0_laws_heldArr : ConOk Try.prog 11 ⟨I_laws_heldArr, U_laws_heldArr, fun x => raw_laws_heldArr x.1 x.2.1⟩ := conOk_exec (fr_laws_heldArr_0) Try.func11 (by kernel_rfl) (by kernel_rfl) Try.ntmps11.symm (by decide) (fun x r h => (e_laws_heldArr x).trans h)
noncomputable def n_laws_heldArr (a0 : dA) (a1 : Int) : Int :=
  let r1 := n_laws_heldMemS a0.2.2.1 a1
  bif (ltb r1 0) then
    (-1)
  else
    let r2 := n_laws_heldEntS a0.2.2.2.2.2.2.2.2.1 r1
    bif (ltb r2 0) then
      (-1)
    else
      r2
noncomputable def con_laws_heldArr : Con := ⟨I_laws_heldArr, U_laws_heldArr, fun x => (fun n => some ((n, ()), ())) (n_laws_heldArr x.1 x.2.1)⟩
theorem nn_laws_heldArr (a0 : dA) (a1 : Int) : raw_laws_heldArr a0 a1 = (fun n => some ((n, ()), ())) (n_laws_heldArr a0 a1) := bif_ty (p := fun (n : Int) => ((n, ()), ())) (bif_some (p := fun (n : Int) => ((n, ()), ())) rfl (bif_some (p := fun (n : Int) => ((n, ()), ())) rfl rfl))
theorem ok_laws_heldArr : ConOk Try.prog 11 con_laws_heldArr := (ok0_laws_heldArr).mono (fun x r _ h => (nn_laws_heldArr x.1 x.2.1).trans h)
theorem mk_arr {x : dA} (h : mArr x ≤ 4611686018427387904) : (n_laws_markArr x 1).1 = 1 + (mArr x : Nat) ∧ n_laws_heldArr (n_laws_markArr x 1).2 1 = 1 + (mArr x : Nat) := by
  unfold mArr at h ⊢
  obtain ⟨a1, a2⟩ := held_memS x.2.2.1 1 (by omega) (by omega)
  obtain ⟨b1, b2⟩ := held_entS x.2.2.2.2.2.2.2.2.1 (1 + (mMems x.2.2.1 : Nat)) (by omega) (by omega)
  unfold n_laws_markArr n_laws_heldArr
  simp only [n_laws_markMemS, n_laws_markEntS, n_laws_heldMemS, n_laws_heldEntS, a1, a2, b1, b2, Option.getD_some]
  rw [ltb_f (show (0 : Int) ≤ 1 + (mMems x.2.2.1 : Nat) by omega), cond_false, ltb_f (by omega), cond_false]
  omega
/-- a result with its marks -/
noncomputable abbrev markedA (x : dA) : dA := (x.1, x.2.1, (n_laws_markArr x 1).2.2.2.1, x.2.2.2.1, x.2.2.2.2.1, x.2.2.2.2.2.1, x.2.2.2.2.2.2.1, x.2.2.2.2.2.2.2.1, (n_laws_markArr x 1).2.2.2.2.2.2.2.2.2.1, x.2.2.2.2.2.2.2.2.2)
theorem mk_arr3 {x : dA} (h : mArr x ≤ 4611686018427387904) : ltb (n_laws_markArr x 1).1 0 = false ∧ ltb (n_laws_heldArr (markedA x) 1) 0 = false ∧ (n_laws_heldArr (markedA x) 1 != (n_laws_markArr x 1).1) = false := by
  obtain ⟨h1, h2⟩ := mk_arr h
  rw [show markedA x = (n_laws_markArr x 1).2 from rfl, h1, h2]
  exact ⟨ltb_f (by omega), ltb_f (by omega), by simp⟩
end

/-! laws_FnExactAdopt -/
section
noncomputable def B_laws_FnExactAdopt : Code := (Try.f3.body).getD .skip
noncomputable def E_laws_FnExactAdopt : Env := envOf TT [(5, con_laws_szArr), (6, con_spec_Adopt), (7, con_laws_toArr), (8, con_impl_Adopt), (9, con_laws_eqArr), (10, con_laws_markArr), (11, con_laws_heldArr)] []
theorem fr_laws_FnExactAdopt_0 : FrOk Try.prog ⟨E_laws_FnExactAdopt, 96, fun _ => none⟩ B_laws_FnExactAdopt := frOk_base mixed tt_ok ⟨ok_laws_szArr, ok_spec_Adopt, ok_laws_toArr, ok_impl_Adopt, ok_laws_eqArr, ok_laws_markArr, ok_laws_heldArr, trivial⟩
noncomputable def D_laws_FnExactAdopt_0 : Nat → Option Seg := fun _ => none
abbrev I_laws_FnExactAdopt : List Par := [.rd tA]
abbrev U_laws_FnExactAdopt : List OT := [⟨false, tB, .fz⟩]
noncomputable def raw_laws_FnExactAdopt (a0 : dA) : Option (ResD U_laws_FnExactAdopt × MutD I_laws_FnExactAdopt) :=
  let r1 := n_laws_szArr a0 1048576
  bif (ltb r1 0) then
    some ((true, ()), ())
  else
    let r2 := n_laws_toArr a0
    let r3 := n_spec_Adopt r2
    let r4 := n_laws_toArr a0
    let r5 := n_impl_Adopt r4
    let r6 := n_laws_eqArr r5.1 r3.1
    bif (!(!r6)) then
      bif (r5.2 != r3.2) then
        some ((false, ()), ())
      else
        let r7 := n_laws_toArr a0
        let r8 := n_laws_eqArr r4 r7
        bif (!r8) then
          some ((false, ()), ())
        else
          let r9 := n_laws_markArr r4 1
          bif (!(ltb r9.1 0)) then
            let r10 := n_laws_eqArr r5.1 r3.1
            bif (!(!r10)) then
              bif (r5.2 != r3.2) then
                some ((false, ()), ())
              else
                let r11 := n_laws_markArr r5.1 1
                let r12 := n_laws_heldArr (r5.1.1, r5.1.2.1, r11.2.2.2.1, r5.1.2.2.2.1, r5.1.2.2.2.2.1, r5.1.2.2.2.2.2.1, r5.1.2.2.2.2.2.2.1, r5.1.2.2.2.2.2.2.2.1, r11.2.2.2.2.2.2.2.2.2.1, r5.1.2.2.2.2.2.2.2.2.2) 1
                bif (ltb r12 0) then
                  some ((false, ()), ())
                else
                  bif (r12 != r11.1) then
                    some ((false, ()), ())
                  else
                    let r13 := n_laws_toArr a0
                    let r14 := n_impl_Adopt r13
                    let r15 := n_laws_eqArr r14.1 r3.1
                    bif (!(!r15)) then
                      bif (r14.2 != r3.2) then
                        some ((false, ()), ())
                      else
                        let r16 := n_laws_heldArr (r5.1.1, r5.1.2.1, r11.2.2.2.1, r5.1.2.2.2.1, r5.1.2.2.2.2.1, r5.1.2.2.2.2.2.1, r5.1.2.2.2.2.2.2.1, r5.1.2.2.2.2.2.2.2.1, r11.2.2.2.2.2.2.2.2.2.1, r5.1.2.2.2.2.2.2.2.2.2) 1
                        bif (ltb r16 0) then
                          some ((false, ()), ())
                        else
                          bif (r16 != r11.1) then
                            some ((false, ()), ())
                          else
                            some ((true, ()), ())
                    else
                      some ((false, ()), ())
            else
              some ((false, ()), ())
          else
            some ((false, ()), ())
    else
      some ((false, ()), ())
theorem e_laws_FnExactAdopt (x : InD I_laws_FnExactAdopt) : execF ⟨E_laws_FnExactAdopt, 96, D_laws_FnExactAdopt_0⟩ Try.f3.results.toList B_laws_FnExactAdopt I_laws_FnExactAdopt U_laws_FnExactAdopt x = raw_laws_FnExactAdopt x.1 := by kernel_rfl
theorem ok0_laws_FnExactAdopt : ConOk Try.prog 3 ⟨I_laws_FnExactAdopt, U_laws_FnExactAdopt, fun x => raw_laws_FnExactAdopt x.1⟩ := conOk_exec (fr_laws_FnExactAdopt_0) Try.func3 (by kernel_rfl) (by kernel_rfl) Try.ntmps3.symm (by decide) (fun x r h => (e_laws_FnExactAdopt x).trans h)
noncomputable def n_laws_FnExactAdopt (a0 : dA) : Bool := true
theorem nn_laws_FnExactAdopt (a0 : dA) (hk : InOk I_laws_FnExactAdopt (a0, ())) : raw_laws_FnExactAdopt a0 = (fun n => some ((n, ()), ())) (n_laws_FnExactAdopt a0) := by
  unfold raw_laws_FnExactAdopt n_laws_FnExactAdopt n_impl_Adopt n_spec_Adopt
  cases h : ltb (n_laws_szArr a0 1048576) 0
  · have hs := szArr_le (a := a0) hk.1 h
    have hf := adopt_small hs
    obtain ⟨f1, f2, f3⟩ := mk_arr3 (x := a0) (by omega)
    obtain ⟨g1, g2, g3⟩ := mk_arr3 (x := (adoptA a0).1) (by omega)
    simp only [h, id_laws_toArr, eqr_laws_eqArr, bne_self_eq_false, Bool.not_true, Bool.not_false, cond_true, cond_false, f1, g2, g3]
  · simp only [h, cond_true]
noncomputable def con_laws_FnExactAdopt : Con := ⟨I_laws_FnExactAdopt, U_laws_FnExactAdopt, fun x => (fun n => some ((n, ()), ())) (n_laws_FnExactAdopt x.1)⟩
theorem ok_laws_FnExactAdopt : ConOk Try.prog 3 con_laws_FnExactAdopt := (ok0_laws_FnExactAdopt).mono (fun x r hk h => (nn_laws_FnExactAdopt x.1 hk).trans h)
end
end Go.Tf
