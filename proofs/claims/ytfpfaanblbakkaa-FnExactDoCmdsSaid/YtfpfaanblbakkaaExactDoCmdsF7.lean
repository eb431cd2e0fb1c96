/- Functions of the program, and what they come to. -/
import Derived.Test.YtfpfaanblbakkaaExactDoCmdsF6
namespace Go.Tf
open Go.Proofs
set_option synthInstance.maxHeartbeats 400000
set_option synthInstance.maxSize 10000
set_option linter.unusedVariables false
set_option linter.unusedSimpArgs false
set_option maxRecDepth 100000
/-! laws_heldAnsS -/
section
noncomputable def B_laws_heldAnsS : Code := (Try.f52.body).getD .skip
noncomputable def E_laws_heldAnsS : Env := envOf TT [(29, con_laws_heldIntS)] []
theorem fr_laws_heldAnsS_0 : FrOk Try.prog ⟨E_laws_heldAnsS, 40, fun _ => none⟩ B_laws_heldAnsS := frOk_base mixed tt_ok ⟨ok_laws_heldIntS, trivial⟩
noncomputable def D_laws_heldAnsS_0 : Nat → Option Seg := fun _ => none
def L_laws_heldAnsS_13 : Shape := ⟨[(0, false, [.br tN]), (1, false, [.int .i64]), (5, false, [.int .i64])], [], []⟩
def S_laws_heldAnsS_13 : Shape := ⟨[(0, false, [.br tN]), (1, false, [.int .i64]), (5, false, [.ci .i64 0])], [], []⟩
def O_laws_heldAnsS_13 : Shape := ⟨[(1, false, [.int .i64])], [], []⟩
def Z_laws_heldAnsS_13 : Shape := ⟨[(4, false, [.int .i64])], [], []⟩
noncomputable def st_laws_heldAnsS_13 (v0 : List (Int × Int × (List Int))) (v1 : Int) (v2 : Int) : Option ((L_laws_heldAnsS_13).X ⊕ ((O_laws_heldAnsS_13).X ⊕ (Z_laws_heldAnsS_13).X)) :=
  bif (ltb v2 (v0.length : Int)) then
    bif (inb v2 v0.length) then
      bif ((nth v0 v2 (0, 0, [])).1 != v1) then
        some (.inr (.inr ((((-1), ()), ()), (), ())))
      else
        bif (inb v2 v0.length) then
          bif (((nth v0 v2 (0, 0, [])).2).1 != (IntKind.i64.wrap (v1 + 1))) then
            some (.inr (.inr ((((-1), ()), ()), (), ())))
          else
            bif (inb v2 v0.length) then
              let r2 := n_laws_heldIntS (((nth v0 v2 (0, 0, [])).2).2) (IntKind.i64.wrap ((IntKind.i64.wrap (v1 + 1)) + 1))
              bif (ltb r2 0) then
                some (.inr (.inr ((((-1), ()), ()), (), ())))
              else
                some (.inl (((v0, ()), (r2, ()), ((IntKind.i64.wrap (v2 + 1)), ()), ()), (), ()))
            else none
        else none
    else none
  else
    some (.inr (.inl (((v1, ()), ()), (), ())))
noncomputable def stx_laws_heldAnsS_13 (x : (L_laws_heldAnsS_13).X) := st_laws_heldAnsS_13 x.1.1.1 x.1.2.1.1 x.1.2.2.1.1
def em_laws_heldAnsS_13 (x : (S_laws_heldAnsS_13).X) : (L_laws_heldAnsS_13).X := (((x.1.1.1, ()), (x.1.2.1.1, ()), (0, ()), ()), (), ())
noncomputable def c_laws_heldAnsS_13 : Code := (subN B_laws_heldAnsS 64 52).getD .skip
theorem a_laws_heldAnsS_13 : subN B_laws_heldAnsS 64 13 = some (.block 0 (.loop c_laws_heldAnsS_13)) := by kernel_rfl
theorem r_laws_heldAnsS_13 (x : (L_laws_heldAnsS_13).X) : roundT ⟨E_laws_heldAnsS, 40, D_laws_heldAnsS_0⟩ 0 c_laws_heldAnsS_13 52 L_laws_heldAnsS_13 O_laws_heldAnsS_13 Z_laws_heldAnsS_13 x = stx_laws_heldAnsS_13 x := by kernel_rfl
noncomputable def fu_laws_heldAnsS_13 (x : (S_laws_heldAnsS_13).X) : Nat := (fun (u0 : List (Int × Int × (List Int))) (u1 : Int) => 18446744073709551616) x.1.1.1 x.1.2.1.1
noncomputable def F_laws_heldAnsS_13 (x : (S_laws_heldAnsS_13).X) : Option ((O_laws_heldAnsS_13).X ⊕ (Z_laws_heldAnsS_13).X) := loopN stx_laws_heldAnsS_13 (fu_laws_heldAnsS_13 x) (em_laws_heldAnsS_13 x)
noncomputable def sg_laws_heldAnsS_13 : Seg := ⟨S_laws_heldAnsS_13, O_laws_heldAnsS_13, Z_laws_heldAnsS_13, F_laws_heldAnsS_13⟩
noncomputable def D_laws_heldAnsS_1 : Nat → Option Seg := fun q => bif Nat.beq q 13 then some sg_laws_heldAnsS_13 else D_laws_heldAnsS_0 q
theorem fr_laws_heldAnsS_1 : FrOk Try.prog ⟨E_laws_heldAnsS, 40, D_laws_heldAnsS_1⟩ B_laws_heldAnsS := (fr_laws_heldAnsS_0).loop (sg := sg_laws_heldAnsS_13) L_laws_heldAnsS_13 em_laws_heldAnsS_13 (by decide) a_laws_heldAnsS_13 stx_laws_heldAnsS_13 fu_laws_heldAnsS_13 (by decide) (fun _ => rfl) (fun x r _ h => h) r_laws_heldAnsS_13
abbrev I_laws_heldAnsS : List Par := [.rd tNs, .rd tI]
abbrev U_laws_heldAnsS : List OT := [⟨false, tI, .fz⟩]
noncomputable def raw_laws_heldAnsS (a0 : List (Int × Int × (List Int))) (a1 : Int) : Option (ResD U_laws_heldAnsS × MutD I_laws_heldAnsS) :=
  segM (F_laws_heldAnsS_13 (((a0, ()), (a1, ()), ((), ()), ()), (), ())) (fun y2 =>
    some ((y2.1.1.1, ()), ())) (fun y2 =>
    some ((y2.1.1.1, ()), ()))
theorem e_laws_heldAnsS (x : InD I_laws_heldAnsS) : execF ⟨E_laws_heldAnsS, 40, D_laws_heldAnsS_1⟩ Try.f52.results.toList B_laws_heldAnsS I_laws_heldAnsS U_laws_heldAnsS x = raw_laws_heldAnsS x.1 x.2.1 := by kernel_rfl
theorem ok0_laws_heldAnsS : ConOk Try.prog 52 ⟨I_laws_heldAnsS, U_laws_heldAnsS, fun x => raw_laws_heldAnsS x.1 x.2.1⟩ := conOk_exec (fr_laws_heldAnsS_1) Try.func52 (by kernel_rfl) (by kernel_rfl) Try.ntmps52.symm (by decide) (fun x r h => (e_laws_heldAnsS x).trans h)
noncomputable def hd_Ans (x : dN) (k : Int) : Int := bif x.1 != k then -1 else bif x.2.1 != IntKind.i64.wrap (k + 1) then -1 else n_laws_heldIntS x.2.2 (IntKind.i64.wrap (IntKind.i64.wrap (k + 1) + 1))
noncomputable def n_laws_heldAnsS (a0 : List dN) (a1 : Int) : Int := (szG hd_Ans a0 a1).getD (-1)
theorem nn_laws_heldAnsS (a0 : List dN) (a1 : Int) (hk : InOk I_laws_heldAnsS (a0, a1, ())) : raw_laws_heldAnsS a0 a1 = (fun n => some ((n, ()), ())) (n_laws_heldAnsS a0 a1) := by
  have hb : a0.length * 40 ≤ 2 ^ 47 := hk.1.1
  have hl : F_laws_heldAnsS_13 (((a0, ()), (a1, ()), ((), ()), ()), (), ()) = some (match szG hd_Ans a0 a1 with | some r => .inl (((r, ()), ()), (), ()) | none => .inr ((((-1), ()), ()), (), ())) :=
    loopN_sz (step := stx_laws_heldAnsS_13) a0 ((0, 0, []) : dN) (fun i k => (((a0, ()), (k, ()), ((i : Int), ()), ()), (), ())) hd_Ans (fun r => .inl (((r, ()), ()), (), ())) (.inr ((((-1), ()), ()), (), ())) (fun i s hi => by
      simp only [stx_laws_heldAnsS_13, st_laws_heldAnsS_13, ltb_t (show (i : Int) < a0.length by omega), inb_nat hi, nth_nat, cond_true, wr (show -9223372036854775808 ≤ (i : Int) + 1 by omega) (by omega), Int.natCast_add, Int.natCast_one, hd_Ans]
      cases ((a0.getD i ((0, 0, []) : dN)).1 != s)
      · cases ((a0.getD i ((0, 0, []) : dN)).2.1 != IntKind.i64.wrap (s + 1))
        · simp only [cond_false]
          cases ltb (n_laws_heldIntS (a0.getD i ((0, 0, []) : dN)).2.2 (IntKind.i64.wrap (IntKind.i64.wrap (s + 1) + 1))) 0 <;> rfl
        · rfl
      · rfl) (fun s => by simp only [stx_laws_heldAnsS_13, st_laws_heldAnsS_13, ltb_f (Int.le_refl _), cond_false]) a1 _ (by show _ < 18446744073709551616; omega)
  unfold raw_laws_heldAnsS n_laws_heldAnsS
  rw [hl]
  cases szG hd_Ans a0 a1 <;> rfl
noncomputable def con_laws_heldAnsS : Con := ⟨I_laws_heldAnsS, U_laws_heldAnsS, fun x => (fun n => some ((n, ()), ())) (n_laws_heldAnsS x.1 x.2.1)⟩
theorem ok_laws_heldAnsS : ConOk Try.prog 52 con_laws_heldAnsS := (ok0_laws_heldAnsS).mono (fun x r hk h => (nn_laws_heldAnsS x.1 x.2.1 hk).trans h)
theorem held_ansS (l : List dN) (k : Int) (h0 : 0 ≤ k) (h : k + ((l.map (fun x : dN => 2 + x.2.2.length)).sum : Nat) ≤ 9223372036854775807) :
    (n_laws_markAnsS l k).1 = k + ((l.map (fun x : dN => 2 + x.2.2.length)).sum : Nat) ∧ n_laws_heldAnsS (n_laws_markAnsS l k).2 k = k + ((l.map (fun x : dN => 2 + x.2.2.length)).sum : Nat) := by
  obtain ⟨h1, h2⟩ := held_list (u := u_Ans) (hd := hd_Ans) (m := fun x => 2 + x.2.2.length) (fun x k h0 h => by
    have hw : IntKind.i64.wrap (IntKind.i64.wrap (k + 1) + 1) = k + 2 := by rw [wr (show -9223372036854775808 ≤ k + 1 by omega) (by omega), wr (by omega) (by omega)]; omega
    unfold u_Ans hd_Ans
    simp only [hw, bne_self_eq_false, cond_false]
    rw [markEnd_eq _ _ (by omega) (by omega), held_marks, markEnd_eq _ _ (by omega) (by omega)]
    omega) l k h0 h
  exact ⟨h1, by unfold n_laws_heldAnsS n_laws_markAnsS; rw [h2]; rfl⟩
end

/-! laws_FnExactDoCmds -/
section
noncomputable def B_laws_FnExactDoCmds : Code := (Try.f8.body).getD .skip
noncomputable def E_laws_FnExactDoCmds : Env := envOf TT [(15, con_laws_toGeo), (22, con_laws_toIntS), (24, con_laws_eqIntS), (26, con_laws_markIntS), (29, con_laws_heldIntS), (38, con_impl_DoCmds), (45, con_laws_szCmdS), (46, con_spec_DoCmds), (47, con_laws_toCmdS), (48, con_laws_eqAnsS), (49, con_laws_eqCmdS), (50, con_laws_markCmdS), (51, con_laws_markAnsS), (52, con_laws_heldAnsS)] []
theorem fr_laws_FnExactDoCmds_0 : FrOk Try.prog ⟨E_laws_FnExactDoCmds, 141, fun _ => none⟩ B_laws_FnExactDoCmds := frOk_base mixed tt_ok ⟨ok_laws_toGeo, ok_laws_toIntS, ok_laws_eqIntS, ok_laws_markIntS, ok_laws_heldIntS, ok_impl_DoCmds, ok_laws_szCmdS, ok_spec_DoCmds, ok_laws_toCmdS, ok_laws_eqAnsS, ok_laws_eqCmdS, ok_laws_markCmdS, ok_laws_markAnsS, ok_laws_heldAnsS, trivial⟩
noncomputable def D_laws_FnExactDoCmds_0 : Nat → Option Seg := fun _ => none
abbrev I_laws_FnExactDoCmds : List Par := [.rd tG, .rd tL, .rd tCs]
abbrev U_laws_FnExactDoCmds : List OT := [⟨false, tB, .fz⟩]
noncomputable def raw_laws_FnExactDoCmds (a0 : Int × Int) (a1 : List Int) (a2 : List (Int × Int × Int × Int × (List Int))) : Option (ResD U_laws_FnExactDoCmds × MutD I_laws_FnExactDoCmds) :=
  bif (ltb 1048576 (a1.length : Int)) then
    some ((true, ()), ())
  else
    let r1 := n_laws_szCmdS a2 1048576
    bif (ltb r1 0) then
      some ((true, ()), ())
    else
      let r2 := n_laws_toGeo a0
      let r3 := n_laws_toIntS a1
      let r4 := n_laws_toCmdS a2
      let r5 := n_spec_DoCmds r2 r3 r4
      let r6 := n_laws_toIntS a1
      let r7 := n_laws_toCmdS a2
      let r8 := n_laws_toGeo a0
      let r9 := n_impl_DoCmds r8 r6 r7
      let r10 := n_laws_eqIntS r9.1 r5.1
      bif (!(!r10)) then
        let r11 := n_laws_eqAnsS r9.2 r5.2
        bif (!r11) then
          some ((false, ()), ())
        else
          let r12 := n_laws_toIntS a1
          let r13 := n_laws_eqIntS r6 r12
          bif (!r13) then
            some ((false, ()), ())
          else
            let r14 := n_laws_toCmdS a2
            let r15 := n_laws_eqCmdS r7 r14
            bif (!r15) then
              some ((false, ()), ())
            else
              let r16 := n_laws_markIntS r6 1
              let r17 := n_laws_markCmdS r7 r16.1
              bif (!(ltb r17.1 0)) then
                let r18 := n_laws_eqIntS r9.1 r5.1
                bif (!(!r18)) then
                  let r19 := n_laws_eqAnsS r9.2 r5.2
                  bif (!r19) then
                    some ((false, ()), ())
                  else
                    let r20 := n_laws_markIntS r9.1 1
                    let r21 := n_laws_markAnsS r9.2 r20.1
                    let r22 := n_laws_heldIntS r20.2 1
                    bif (ltb r22 0) then
                      some ((false, ()), ())
                    else
                      let r23 := n_laws_heldAnsS r21.2 r22
                      bif (ltb r23 0) then
                        some ((false, ()), ())
                      else
                        bif (r23 != r21.1) then
                          some ((false, ()), ())
                        else
                          let r24 := n_laws_toGeo a0
                          let r25 := n_laws_toIntS a1
                          let r26 := n_laws_toCmdS a2
                          let r27 := n_impl_DoCmds r24 r25 r26
                          let r28 := n_laws_eqIntS r27.1 r5.1
                          bif (!(!r28)) then
                            let r29 := n_laws_eqAnsS r27.2 r5.2
                            bif (!r29) then
                              some ((false, ()), ())
                            else
                              let r30 := n_laws_heldIntS r20.2 1
                              bif (ltb r30 0) then
                                some ((false, ()), ())
                              else
                                let r31 := n_laws_heldAnsS r21.2 r30
                                bif (ltb r31 0) then
                                  some ((false, ()), ())
                                else
                                  bif (r31 != r21.1) then
                                    some ((false, ()), ())
                                  else
                                    some ((true, ()), ())
                          else
                            some ((false, ()), ())
                else
                  some ((false, ()), ())
              else
                some ((false, ()), ())
      else
        some ((false, ()), ())
theorem e_laws_FnExactDoCmds (x : InD I_laws_FnExactDoCmds) : execF ⟨E_laws_FnExactDoCmds, 141, D_laws_FnExactDoCmds_0⟩ Try.f8.results.toList B_laws_FnExactDoCmds I_laws_FnExactDoCmds U_laws_FnExactDoCmds x = raw_laws_FnExactDoCmds x.1 x.2.1 x.2.2.1 := by kernel_rfl
theorem ok0_laws_FnExactDoCmds : ConOk Try.prog 8 ⟨I_laws_FnExactDoCmds, U_laws_FnExactDoCmds, fun x => raw_laws_FnExactDoCmds x.1 x.2.1 x.2.2.1⟩ := conOk_exec (fr_laws_FnExactDoCmds_0) Try.func8 (by kernel_rfl) (by kernel_rfl) Try.ntmps8.symm (by decide) (fun x r h => (e_laws_FnExactDoCmds x).trans h)
noncomputable def n_laws_FnExactDoCmds (a0 : dG) (a1 : List Int) (a2 : List dC) : Bool := true
theorem nn_laws_FnExactDoCmds (a0 : dG) (a1 : List Int) (a2 : List dC) (hk : InOk I_laws_FnExactDoCmds (a0, a1, a2, ())) : raw_laws_FnExactDoCmds a0 a1 a2 = (fun n => some ((n, ()), ())) (n_laws_FnExactDoCmds a0 a1 a2) := by
  have hc : a2.length * 56 ≤ 2 ^ 47 := hk.2.2.1.1
  have hx : ∀ x ∈ a2, x.2.2.2.2.length ≤ 17592186044416 := fun x hx => by
    have : x.2.2.2.2.length * 8 ≤ 2 ^ 47 := (hk.2.2.1.2 x hx).2.2.2.2.1
    omega
  unfold raw_laws_FnExactDoCmds n_laws_FnExactDoCmds
  cases hb1 : ltb 1048576 (a1.length : Int)
  · have hl1 : (a1.length : Int) ≤ 1048576 := by
      rcases Int.lt_or_le 1048576 (a1.length : Int) with h3 | h3
      · rw [ltb_t h3] at hb1; cases hb1
      · exact h3
    cases hs : ltb (n_laws_szCmdS a2 1048576) 0
    · have hsum := szCmdS_le (by omega) (by omega) (by omega) hx hs
      have hsum2 : (((a2.map (fun x : dC => 4 + x.2.2.2.2.length)).sum : Nat) : Int) ≤ 5 * 1048576 := by
        have : ∀ l : List dC, (l.map (fun x : dC => 4 + x.2.2.2.2.length)).sum = 4 * l.length + (l.map (fun x : dC => x.2.2.2.2.length)).sum := by
          intro l
          induction l with
          | nil => rfl
          | cons x l ih => simp only [List.map_cons, List.sum_cons, List.length_cons, ih]; omega
        rw [this]; omega
      obtain ⟨f1, f2, f3⟩ := doFold a0 (a2.take 400) (a1, [])
      have g1 : (doAll a0 a1 a2).1.length = a1.length := f1
      have g2 : (doAll a0 a1 a2).2.length ≤ 400 := by
        have : (doAll a0 a1 a2).2.length = 0 + (a2.take 400).length := f2
        rw [this, List.length_take]; omega
      have g3 := sum_const (l := (doAll a0 a1 a2).2) (f := fun x : dN => 2 + x.2.2.length) (c := 1048578) (fun x hx => by have := f3 (by simp) x hx; simp only at this; omega)
      have g4 : ((((doAll a0 a1 a2).2.map (fun x : dN => 2 + x.2.2.length)).sum : Nat) : Int) ≤ 400 * 1048578 := by
        have : (doAll a0 a1 a2).2.length * 1048578 ≤ 400 * 1048578 := Nat.mul_le_mul_right _ g2
        omega
      obtain ⟨m1, m2⟩ := held_ansS (doAll a0 a1 a2).2 (1 + (doAll a0 a1 a2).1.length) (by omega) (by omega)
      simp only [hs, cond_false, id_laws_toGeo, id_laws_toIntS, id_laws_toCmdS, n_spec_DoCmds, n_impl_DoCmds, eqr_laws_eqIntS, eqr_laws_eqAnsS, eqr_laws_eqCmdS, Bool.not_true, Bool.not_false, cond_true, n_laws_markIntS, n_laws_markCmdS,
        markEnd_eq a1.length 1 (by omega) (by omega), markEnd_eq (doAll a0 a1 a2).1.length 1 (by omega) (by omega), held_int _ (show (0 : Int) ≤ 1 by omega) (show 1 + ((doAll a0 a1 a2).1.length : Int) ≤ 9223372036854775807 by omega),
        markCmds_end a2 (1 + a1.length) (by omega) (by omega), ltb_f (show 0 ≤ 1 + (a1.length : Int) + ((a2.map (fun x : dC => 4 + x.2.2.2.2.length)).sum : Nat) by omega), m1, m2, ltb_f (show 0 ≤ 1 + ((doAll a0 a1 a2).1.length : Int) by omega),
        ltb_f (show 0 ≤ 1 + ((doAll a0 a1 a2).1.length : Int) + (((doAll a0 a1 a2).2.map (fun x : dN => 2 + x.2.2.length)).sum : Nat) by omega), bne_self_eq_false]
    · simp only [hs, cond_false, cond_true]
  · rfl
noncomputable def con_laws_FnExactDoCmds : Con := ⟨I_laws_FnExactDoCmds, U_laws_FnExactDoCmds, fun x => (fun n => some ((n, ()), ())) (n_laws_FnExactDoCmds x.1 x.2.1 x.2.2.1)⟩
theorem ok_laws_FnExactDoCmds : ConOk Try.prog 8 con_laws_FnExactDoCmds := (ok0_laws_FnExactDoCmds).mono (fun x r hk h => (nn_laws_FnExactDoCmds x.1 x.2.1 x.2.2.1 hk).trans h)
end
end Go.Tf
