/- Functions of the program, and what they come to. -/
import Derived.Test.YtljhekjbdmnmnaaCmdsF3
namespace Go.Tf
open Go.Proofs
set_option linter.unusedVariables false
set_option linter.unusedSimpArgs false
set_option maxRecDepth 100000
/-! spec_DrawGetCmd -/
section
noncomputable def B_spec_DrawGetCmd : Code := (Try.f33.body).getD .skip
noncomputable def E_spec_DrawGetCmd : Env := envOf TT [(16, con_spec_PutCmd), (43, con_spec_l1New), (44, con_spec_l3Geo), (45, con_spec_l13Draw), (53, con_spec_l1Below), (54, con_spec_l1Int)] []
theorem fr_spec_DrawGetCmd_0 : FrOk Try.prog ⟨E_spec_DrawGetCmd, 34, fun _ => none⟩ B_spec_DrawGetCmd := frOk_base mixed tt_ok ⟨ok_spec_PutCmd, ok_spec_l1New, ok_spec_l3Geo, ok_spec_l13Draw, ok_spec_l1Below, ok_spec_l1Int, trivial⟩
noncomputable def D_spec_DrawGetCmd_0 : Nat → Option Seg := fun _ => none
abbrev I_spec_DrawGetCmd : List Par := [.kp tYs .fz]
abbrev U_spec_DrawGetCmd : List OT := [⟨false, tL, (.ow .fz)⟩]
noncomputable def raw_spec_DrawGetCmd (a0 : List Int) : Option (ResD U_spec_DrawGetCmd × MutD I_spec_DrawGetCmd) :=
  let r1 := n_spec_l1New a0
  bnd (raw_spec_l3Geo r1) fun r2 =>
  bnd (raw_spec_l13Draw r2.2.1 r2.1.1) fun r3 =>
  bnd (raw_spec_PutCmd r3.1.1) fun r4 =>
  bnd (raw_spec_l1Below r3.2.1 4) fun r5 =>
  bif (r5.1.1 == 0) then
    bnd (raw_spec_l1Below r5.2.1 5) fun r6 =>
    bnd (raw_spec_l1Int r6.2.1 ([0, 1, 2, 7, 65536, (-1)] : List Int)) fun r7 =>
    bif (inb r6.1.1 r4.1.1.length) then
      some (((r4.1.1.set (r6.1.1).toNat r7.1.1), ()), ())
    else none
  else
    bif (r5.1.1 == 1) then
      bnd (raw_spec_l1Below r5.2.1 (r4.1.1.length : Int)) fun r8 =>
      bif (cutok 0 r8.1.1 r4.1.1.length) then
        some ((((r4.1.1.drop (0 : Int).toNat).take (r8.1.1 - 0).toNat), ()), ())
      else none
    else
      some ((r4.1.1, ()), ())
theorem e_spec_DrawGetCmd (x : InD I_spec_DrawGetCmd) : execF ⟨E_spec_DrawGetCmd, 34, D_spec_DrawGetCmd_0⟩ Try.f33.results.toList B_spec_DrawGetCmd I_spec_DrawGetCmd U_spec_DrawGetCmd x = raw_spec_DrawGetCmd x.1 := by kernel_rfl
theorem ok0_spec_DrawGetCmd : ConOk Try.prog 33 ⟨I_spec_DrawGetCmd, U_spec_DrawGetCmd, fun x => raw_spec_DrawGetCmd x.1⟩ := conOk_exec (fr_spec_DrawGetCmd_0) Try.func33 (by kernel_rfl) (by kernel_rfl) Try.ntmps33.symm (by decide) (fun x r h => (e_spec_DrawGetCmd x).trans h)
noncomputable def con_spec_DrawGetCmd : Con := ⟨I_spec_DrawGetCmd, U_spec_DrawGetCmd, fun x => raw_spec_DrawGetCmd x.1⟩
theorem ok_spec_DrawGetCmd : ConOk Try.prog 33 con_spec_DrawGetCmd := ok0_spec_DrawGetCmd
theorem dr_DrawGetCmd (a0 : List Int) (hb : a0.length ≤ 140737488355328) : ∃ l : List Int, raw_spec_DrawGetCmd a0 = some ((l, ()), ()) ∧ l.length ≤ 11 := by
  unfold raw_spec_DrawGetCmd
  obtain ⟨g, u1, e1, q1, d1⟩ := dr_geo _ (dr_new a0 hb)
  obtain ⟨c, u2, e2, q2, d2⟩ := dr_l13Draw u1 g d1 q1
  obtain ⟨k, u3, e3, q3, d3⟩ := dr_below u2 4 d2
  have hlen := pPut_len c
  have h5 : 5 ≤ (pPut c).length := by
    obtain ⟨id, hl, hw, hn, hop⟩ := q2
    have hop2 : 1 ≤ c.1 ∧ c.1 ≤ 6 := by omega
    unfold pPut
    rw [in_t hop2.1 hop2.2, show (c.1 :: c.2.1 :: c.2.2.1 :: c.2.2.2.1 :: (c.2.2.2.2.length : Int) :: c.2.2.2.2).all n_spec_l1Word = true from ?_, decide_eq_true hl]
    · simp only [Bool.and_self, cond_true, List.length_cons]; omega
    · rw [List.all_eq_true]
      intro x hx
      show n_spec_l1In x 0 65535 = true
      simp only [List.mem_cons] at hx
      rcases hx with rfl | rfl | rfl | rfl | rfl | hx
      · exact in_t (by omega) (by omega)
      · exact in_t (by omega) (by omega)
      · exact in_t (by omega) (by omega)
      · exact in_t (by omega) (by omega)
      · exact in_t (by omega) (by omega)
      · exact hw x hx
  simp only [e1, e2, e3, w_spec_PutCmd c (by have := q2.2.1; omega), bnd_some]
  cases (k == 0)
  · cases (k == 1)
    · exact ⟨_, rfl, hlen⟩
    · obtain ⟨r, u4, e4, q4, d4⟩ := dr_below u3 ((pPut c).length : Int) d3
      have := q4.1; have := q4.2.1 (by omega)
      simp only [cond_true, cond_false, e4, bnd_some, cutok_iff.2 (show (0 : Int) ≤ 0 ∧ 0 ≤ r ∧ r ≤ ((pPut c).length : Int) by omega)]
      exact ⟨_, rfl, by rw [List.length_take, List.length_drop]; omega⟩
  · obtain ⟨r, u4, e4, q4, d4⟩ := dr_below u3 5 d3
    obtain ⟨x, u5, e5, q5, d5⟩ := dr_int u4 [0, 1, 2, 7, 65536, (-1)] d4 (by simp)
    have := q4.1; have := q4.2.1 (by omega)
    simp only [cond_true, e4, e5, bnd_some, inb_iff.2 (show 0 ≤ r ∧ r < ((pPut c).length : Int) by omega)]
    exact ⟨_, rfl, by rw [List.length_set]; exact hlen⟩
end

/-! laws_sameInts -/
section
noncomputable def B_laws_sameInts : Code := (Try.f34.body).getD .skip
noncomputable def E_laws_sameInts : Env := envOf TT [] []
theorem fr_laws_sameInts_0 : FrOk Try.prog ⟨E_laws_sameInts, 26, fun _ => none⟩ B_laws_sameInts := frOk_base mixed tt_ok trivial
noncomputable def D_laws_sameInts_0 : Nat → Option Seg := fun _ => none
def L_laws_sameInts_29 : Shape := ⟨[(0, false, [.br tI]), (1, false, [.br tI]), (5, false, [.int .i64])], [], []⟩
def S_laws_sameInts_29 : Shape := ⟨[(0, false, [.br tI]), (1, false, [.br tI]), (5, false, [.ci .i64 0])], [], []⟩
def O_laws_sameInts_29 : Shape := ⟨[], [], []⟩
def Z_laws_sameInts_29 : Shape := ⟨[(4, false, [.bool])], [], []⟩
noncomputable def st_laws_sameInts_29 (v0 : List Int) (v1 : List Int) (v2 : Int) : Option ((L_laws_sameInts_29).X ⊕ ((O_laws_sameInts_29).X ⊕ (Z_laws_sameInts_29).X)) :=
  bif (ltb v2 (v0.length : Int)) then
    bif (inb v2 v0.length) then
      bif (inb v2 v1.length) then
        bif ((nth v0 v2 0) != (nth v1 v2 0)) then
          some (.inr (.inr (((false, ()), ()), (), ())))
        else
          some (.inl (((v0, ()), (v1, ()), ((IntKind.i64.wrap (v2 + 1)), ()), ()), (), ()))
      else none
    else none
  else
    some (.inr (.inl ((), (), ())))
noncomputable def stx_laws_sameInts_29 (x : (L_laws_sameInts_29).X) := st_laws_sameInts_29 x.1.1.1 x.1.2.1.1 x.1.2.2.1.1
def em_laws_sameInts_29 (x : (S_laws_sameInts_29).X) : (L_laws_sameInts_29).X := (((x.1.1.1, ()), (x.1.2.1.1, ()), (0, ()), ()), (), ())
noncomputable def c_laws_sameInts_29 : Code := (subN B_laws_sameInts 64 116).getD .skip
theorem a_laws_sameInts_29 : subN B_laws_sameInts 64 29 = some (.block 0 (.loop c_laws_sameInts_29)) := by kernel_rfl
theorem r_laws_sameInts_29 (x : (L_laws_sameInts_29).X) : roundT ⟨E_laws_sameInts, 26, D_laws_sameInts_0⟩ 0 c_laws_sameInts_29 116 L_laws_sameInts_29 O_laws_sameInts_29 Z_laws_sameInts_29 x = stx_laws_sameInts_29 x := by kernel_rfl
noncomputable def fu_laws_sameInts_29 (x : (S_laws_sameInts_29).X) : Nat := (fun (u0 : List Int) (u1 : List Int) => 18446744073709551616) x.1.1.1 x.1.2.1.1
noncomputable def F_laws_sameInts_29 (x : (S_laws_sameInts_29).X) : Option ((O_laws_sameInts_29).X ⊕ (Z_laws_sameInts_29).X) := loopN stx_laws_sameInts_29 (fu_laws_sameInts_29 x) (em_laws_sameInts_29 x)
noncomputable def sg_laws_sameInts_29 : Seg := ⟨S_laws_sameInts_29, O_laws_sameInts_29, Z_laws_sameInts_29, F_laws_sameInts_29⟩
noncomputable def D_laws_sameInts_1 : Nat → Option Seg := fun q => bif Nat.beq q 29 then some sg_laws_sameInts_29 else D_laws_sameInts_0 q
theorem fr_laws_sameInts_1 : FrOk Try.prog ⟨E_laws_sameInts, 26, D_laws_sameInts_1⟩ B_laws_sameInts := (fr_laws_sameInts_0).loop (sg := sg_laws_sameInts_29) L_laws_sameInts_29 em_laws_sameInts_29 (by decide) a_laws_sameInts_29 stx_laws_sameInts_29 fu_laws_sameInts_29 (by decide) (fun _ => rfl) (fun x r _ h => h) r_laws_sameInts_29
abbrev I_laws_sameInts : List Par := [.rd tL, .rd tL]
abbrev U_laws_sameInts : List OT := [⟨false, tB, .fz⟩]
noncomputable def raw_laws_sameInts (a0 : List Int) (a1 : List Int) : Option (ResD U_laws_sameInts × MutD I_laws_sameInts) :=
  bif ((a0.length : Int) != (a1.length : Int)) then
    some ((false, ()), ())
  else
    segM (F_laws_sameInts_29 (((a0, ()), (a1, ()), ((), ()), ()), (), ())) (fun y0 =>
      some ((true, ()), ())) (fun y0 =>
      some ((y0.1.1.1, ()), ()))
theorem e_laws_sameInts (x : InD I_laws_sameInts) : execF ⟨E_laws_sameInts, 26, D_laws_sameInts_1⟩ Try.f34.results.toList B_laws_sameInts I_laws_sameInts U_laws_sameInts x = raw_laws_sameInts x.1 x.2.1 := by kernel_rfl
theorem ok0_laws_sameInts : ConOk Try.prog 34 ⟨I_laws_sameInts, U_laws_sameInts, fun x => raw_laws_sameInts x.1 x.2.1⟩ := conOk_exec (fr_laws_sameInts_1) Try.func34 (by kernel_rfl) (by kernel_rfl) Try.ntmps34.symm (by decide) (fun x r h => (e_laws_sameInts x).trans h)
noncomputable def n_laws_sameInts (a0 a1 : List Int) : Bool := decide (a0 = a1)
theorem nn_laws_sameInts (a0 a1 : List Int) (hk : InOk I_laws_sameInts (a0, a1, ())) : raw_laws_sameInts a0 a1 = (fun n => some ((n, ()), ())) (n_laws_sameInts a0 a1) := by
  have hb : a0.length * 8 ≤ 2 ^ 47 := hk.1.1
  have hl : a0.length = a1.length → F_laws_sameInts_29 (((a0, ()), (a1, ()), ((), ()), ()), (), ()) = some (bif (List.range a0.length).any (fun i => a0.getD i 0 != a1.getD i 0) then .inr (((false, ()), ()), (), ()) else .inl ((), (), ())) := fun hL =>
    loopN_all (step := stx_laws_sameInts_29) (fun i => (((a0, ()), (a1, ()), ((i : Int), ()), ()), (), ())) a0.length (fun i => a0.getD i 0 != a1.getD i 0) _ _ (fun i hi => by
      simp only [stx_laws_sameInts_29, st_laws_sameInts_29, inb_nat hi, inb_nat (hL ▸ hi), nth_nat, ltb_t (show (i : Int) < a0.length by omega), cond_true, wr (show -9223372036854775808 ≤ (i : Int) + 1 by omega) (by omega), Int.natCast_add, Int.natCast_one]
      cases (a0.getD i 0 != a1.getD i 0) <;> rfl) (by simp only [stx_laws_sameInts_29, st_laws_sameInts_29, ltb_f (Int.le_refl _), cond_false]) _ (by show _ < 18446744073709551616; omega)
  unfold raw_laws_sameInts n_laws_sameInts
  by_cases h : a0.length = a1.length
  · rw [show ((a0.length : Int) != (a1.length : Int)) = false by simp [h], bif_f, hl h]
    by_cases e : a0 = a1
    · subst e
      have : (List.range a0.length).any (fun i => a0.getD i 0 != a0.getD i 0) = false := by simp
      rw [this, decide_eq_true rfl]
      rfl
    · have : (List.range a0.length).any (fun i => a0.getD i 0 != a1.getD i 0) = true := by
        rcases Bool.eq_false_or_eq_true ((List.range a0.length).any (fun i => a0.getD i 0 != a1.getD i 0)) with h2 | h2
        · exact h2
        · refine absurd (List.ext_getElem h fun i h3 h4 => ?_) e
          rw [List.any_eq_false] at h2
          have := h2 i (List.mem_range.2 h3)
          simpa [h3, h4] using this
      rw [this, decide_eq_false e]
      rfl
  · rw [show ((a0.length : Int) != (a1.length : Int)) = true from bne_iff_ne.2 (by omega), bif_t, decide_eq_false (fun e => h (congrArg _ e))]
theorem sameInts_refl (a : List Int) : n_laws_sameInts a a = true := by unfold n_laws_sameInts; simp
noncomputable def con_laws_sameInts : Con := ⟨I_laws_sameInts, U_laws_sameInts, fun x => (fun n => some ((n, ()), ())) (n_laws_sameInts x.1 x.2.1)⟩
theorem ok_laws_sameInts : ConOk Try.prog 34 con_laws_sameInts := (ok0_laws_sameInts).mono (fun x r hk h => (nn_laws_sameInts x.1 x.2.1 hk).trans h)
end

/-! laws_sameCmd -/
section
noncomputable def B_laws_sameCmd : Code := (Try.f35.body).getD .skip
noncomputable def E_laws_sameCmd : Env := envOf TT [(34, con_laws_sameInts)] []
theorem fr_laws_sameCmd_0 : FrOk Try.prog ⟨E_laws_sameCmd, 38, fun _ => none⟩ B_laws_sameCmd := frOk_base mixed tt_ok ⟨ok_laws_sameInts, trivial⟩
noncomputable def D_laws_sameCmd_0 : Nat → Option Seg := fun _ => none
abbrev I_laws_sameCmd : List Par := [.rd tC, .rd tC]
abbrev U_laws_sameCmd : List OT := [⟨false, tB, .fz⟩]
noncomputable def raw_laws_sameCmd (a0 : Int × Int × Int × Int × (List Int)) (a1 : Int × Int × Int × Int × (List Int)) : Option (ResD U_laws_sameCmd × MutD I_laws_sameCmd) :=
  bif (a0.1 == a1.1) then
    bif (a0.2.1 == a1.2.1) then
      bif (a0.2.2.1 == a1.2.2.1) then
        bif (a0.2.2.2.1 == a1.2.2.2.1) then
          let r1 := n_laws_sameInts a0.2.2.2.2 a1.2.2.2.2
          some ((r1, ()), ())
        else
          some ((false, ()), ())
      else
        some ((false, ()), ())
    else
      some ((false, ()), ())
  else
    some ((false, ()), ())
theorem e_laws_sameCmd (x : InD I_laws_sameCmd) : execF ⟨E_laws_sameCmd, 38, D_laws_sameCmd_0⟩ Try.f35.results.toList B_laws_sameCmd I_laws_sameCmd U_laws_sameCmd x = raw_laws_sameCmd x.1 x.2.1 := by kernel_rfl
theorem ok0_laws_sameCmd : ConOk Try.prog 35 ⟨I_laws_sameCmd, U_laws_sameCmd, fun x => raw_laws_sameCmd x.1 x.2.1⟩ := conOk_exec (fr_laws_sameCmd_0) Try.func35 (by kernel_rfl) (by kernel_rfl) Try.ntmps35.symm (by decide) (fun x r h => (e_laws_sameCmd x).trans h)
noncomputable def n_laws_sameCmd (a0 : Int × Int × Int × Int × (List Int)) (a1 : Int × Int × Int × Int × (List Int)) : Bool :=
  bif (a0.1 == a1.1) then
    bif (a0.2.1 == a1.2.1) then
      bif (a0.2.2.1 == a1.2.2.1) then
        bif (a0.2.2.2.1 == a1.2.2.2.1) then
          let r1 := n_laws_sameInts a0.2.2.2.2 a1.2.2.2.2
          r1
        else
          false
      else
        false
    else
      false
  else
    false
noncomputable def con_laws_sameCmd : Con := ⟨I_laws_sameCmd, U_laws_sameCmd, fun x => (fun n => some ((n, ()), ())) (n_laws_sameCmd x.1 x.2.1)⟩
theorem nn_laws_sameCmd (a0 : Int × Int × Int × Int × (List Int)) (a1 : Int × Int × Int × Int × (List Int)) : raw_laws_sameCmd a0 a1 = (fun n => some ((n, ()), ())) (n_laws_sameCmd a0 a1) := bif_ty (p := fun (n : Bool) => ((n, ()), ())) (bif_some (p := fun (n : Bool) => ((n, ()), ())) (bif_some (p := fun (n : Bool) => ((n, ()), ())) (bif_some (p := fun (n : Bool) => ((n, ()), ())) (bif_some (p := fun (n : Bool) => ((n, ()), ())) rfl rfl) rfl) rfl) rfl)
theorem ok_laws_sameCmd : ConOk Try.prog 35 con_laws_sameCmd := (ok0_laws_sameCmd).mono (fun x r _ h => (nn_laws_sameCmd x.1 x.2.1).trans h)
theorem sameCmd_refl (a : Int × Int × Int × Int × List Int) : n_laws_sameCmd a a = true := by unfold n_laws_sameCmd; simp only [beq_self_eq_true, cond_true, sameInts_refl]
end

/-! laws_FnCmds -/
section
noncomputable def B_laws_FnCmds : Code := (Try.f8.body).getD .skip
noncomputable def E_laws_FnCmds : Env := envOf TT [(16, con_spec_PutCmd), (18, con_impl_PutCmd), (21, con_spec_GetCmd), (23, con_impl_GetCmd), (25, con_laws_big), (32, con_spec_DrawPutCmd), (33, con_spec_DrawGetCmd), (34, con_laws_sameInts), (35, con_laws_sameCmd)] []
theorem fr_laws_FnCmds_0 : FrOk Try.prog ⟨E_laws_FnCmds, 70, fun _ => none⟩ B_laws_FnCmds := frOk_base mixed tt_ok ⟨ok_spec_PutCmd, ok_impl_PutCmd, ok_spec_GetCmd, ok_impl_GetCmd, ok_laws_big, ok_spec_DrawPutCmd, ok_spec_DrawGetCmd, ok_laws_sameInts, ok_laws_sameCmd, trivial⟩
noncomputable def D_laws_FnCmds_0 : Nat → Option Seg := fun _ => none
abbrev I_laws_FnCmds : List Par := [.kp tYs .fz]
abbrev U_laws_FnCmds : List OT := [⟨false, tB, .fz⟩]
noncomputable def raw_laws_FnCmds (a0 : List Int) : Option (ResD U_laws_FnCmds × MutD I_laws_FnCmds) :=
  let r1 := n_laws_big a0
  bif r1 then
    some ((true, ()), ())
  else
    bnd (raw_spec_DrawPutCmd a0) fun r2 =>
    bnd (raw_impl_PutCmd r2.1.1) fun r3 =>
    bnd (raw_spec_DrawGetCmd a0) fun r4 =>
    let r5 := n_impl_GetCmd r4.1.1
    let r6 := n_spec_GetCmd r4.1.1
    bif (!(!(r5.2 == r6.2))) then
      bif r5.2 then
        bnd (raw_impl_PutCmd r5.1) fun r7 =>
        let r8 := n_laws_sameInts r7.1.1 r4.1.1
        bif (!(!r8)) then
          bnd (raw_spec_PutCmd r2.1.1) fun r9 =>
          let r10 := n_laws_sameInts r3.1.1 r9.1.1
          bif (!r10) then
            some ((false, ()), ())
          else
            bif ((r3.1.1.length : Int) == 0) then
              bif (!r5.2) then
                some (((r5.1.1 == 0), ()), ())
              else
                some ((true, ()), ())
            else
              let r11 := n_impl_GetCmd r3.1.1
              bif r11.2 then
                let r12 := n_laws_sameCmd r11.1 r2.1.1
                some ((r12, ()), ())
              else
                some ((false, ()), ())
        else
          some ((false, ()), ())
      else
        bnd (raw_spec_PutCmd r2.1.1) fun r13 =>
        let r14 := n_laws_sameInts r3.1.1 r13.1.1
        bif (!r14) then
          some ((false, ()), ())
        else
          bif ((r3.1.1.length : Int) == 0) then
            bif (!r5.2) then
              some (((r5.1.1 == 0), ()), ())
            else
              some ((true, ()), ())
          else
            let r15 := n_impl_GetCmd r3.1.1
            bif r15.2 then
              let r16 := n_laws_sameCmd r15.1 r2.1.1
              some ((r16, ()), ())
            else
              some ((false, ()), ())
    else
      some ((false, ()), ())
theorem e_laws_FnCmds (x : InD I_laws_FnCmds) : execF ⟨E_laws_FnCmds, 70, D_laws_FnCmds_0⟩ Try.f8.results.toList B_laws_FnCmds I_laws_FnCmds U_laws_FnCmds x = raw_laws_FnCmds x.1 := by kernel_rfl
theorem ok0_laws_FnCmds : ConOk Try.prog 8 ⟨I_laws_FnCmds, U_laws_FnCmds, fun x => raw_laws_FnCmds x.1⟩ := conOk_exec (fr_laws_FnCmds_0) Try.func8 (by kernel_rfl) (by kernel_rfl) Try.ntmps8.symm (by decide) (fun x r h => (e_laws_FnCmds x).trans h)
noncomputable def n_laws_FnCmds (a0 : List Int) : Bool := true
theorem nn_laws_FnCmds (a0 : List Int) (hk : InOk I_laws_FnCmds (a0, ())) : raw_laws_FnCmds a0 = (fun n => some ((n, ()), ())) (n_laws_FnCmds a0) := by
  have hb : a0.length ≤ 140737488355328 := by have : a0.length * 1 ≤ 2 ^ 47 := hk.1.1; omega
  obtain ⟨x, e1, q1⟩ := dr_DrawPutCmd a0 hb
  obtain ⟨c, e2, q2⟩ := dr_DrawGetCmd a0 hb
  have tail : (bif ((pPut x).length : Int) == 0 then
        bif !(n_spec_GetCmd c).2 then some ((((n_spec_GetCmd c).1.1 == 0), ()), ()) else some ((true, ()), ())
      else
        bif (n_spec_GetCmd (pPut x)).2 then some (((n_laws_sameCmd (n_spec_GetCmd (pPut x)).1 x), ()), ()) else some ((false, ()), ())) = (some ((true, ()), ()) : Option (ResD U_laws_FnCmds × MutD I_laws_FnCmds)) := by
    by_cases h : pPut x = []
    · rw [h]
      cases hs : (n_spec_GetCmd c).2
      · have : (n_spec_GetCmd c).1.1 = 0 := by
          revert hs
          unfold n_spec_GetCmd
          cases (leb 5 (c.length : Int) && (nth c 4 0 == (c.length : Int) - 5) && !((pPut (nth c 0 0, nth c 1 0, nth c 2 0, nth c 3 0, c.drop 5)).length : Int) == 0)
          · intro _; rfl
          · intro h; cases h
        rw [this]; rfl
      · rfl
    · rw [get_put h, show (((pPut x).length : Int) == 0) = false by rw [beq_eq_false_iff_ne]; intro e; exact h (List.length_eq_zero_iff.1 (by omega))]
      simp only [cond_false, cond_true, sameCmd_refl]
  unfold raw_laws_FnCmds n_laws_FnCmds
  simp only [e1, e2, bnd_some, n_impl_GetCmd, w_impl_PutCmd x (by omega), w_spec_PutCmd x (by omega), beq_self_eq_true, Bool.not_true, Bool.not_false, cond_true, cond_false, sameInts_refl, tail]
  cases hs : (n_spec_GetCmd c).2
  · cases n_laws_big a0 <;> rfl
  · obtain ⟨p1, p2⟩ := put_get hs
    simp only [cond_true, w_impl_PutCmd (n_spec_GetCmd c).1 (by omega), bnd_some, p1, sameInts_refl, Bool.not_true, Bool.not_false]
    cases n_laws_big a0 <;> rfl
noncomputable def con_laws_FnCmds : Con := ⟨I_laws_FnCmds, U_laws_FnCmds, fun x => (fun n => some ((n, ()), ())) (n_laws_FnCmds x.1)⟩
theorem ok_laws_FnCmds : ConOk Try.prog 8 con_laws_FnCmds := (ok0_laws_FnCmds).mono (fun x r hk h => (nn_laws_FnCmds x.1 hk).trans h)
end
end Go.Tf
