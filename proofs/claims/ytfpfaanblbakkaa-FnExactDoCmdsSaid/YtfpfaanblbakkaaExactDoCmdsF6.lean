/- Functions of the program, and what they come to. -/
import Derived.Test.YtfpfaanblbakkaaExactDoCmdsF5
namespace Go.Tf
open Go.Proofs
set_option synthInstance.maxHeartbeats 400000
set_option synthInstance.maxSize 10000
set_option linter.unusedVariables false
set_option linter.unusedSimpArgs false
set_option maxRecDepth 100000
/-! laws_eqAns -/
section
noncomputable def B_laws_eqAns : Code := (Try.f25.body).getD .skip
noncomputable def E_laws_eqAns : Env := envOf TT [(24, con_laws_eqIntS)] []
theorem fr_laws_eqAns_0 : FrOk Try.prog ⟨E_laws_eqAns, 21, fun _ => none⟩ B_laws_eqAns := frOk_base mixed tt_ok ⟨ok_laws_eqIntS, trivial⟩
noncomputable def D_laws_eqAns_0 : Nat → Option Seg := fun _ => none
abbrev I_laws_eqAns : List Par := [.rd tN, .rd tN]
abbrev U_laws_eqAns : List OT := [⟨false, tB, .fz⟩]
noncomputable def raw_laws_eqAns (a0 : Int × Int × (List Int)) (a1 : Int × Int × (List Int)) : Option (ResD U_laws_eqAns × MutD I_laws_eqAns) :=
  bif (a0.1 != a1.1) then
    some ((false, ()), ())
  else
    bif (a0.2.1 != a1.2.1) then
      some ((false, ()), ())
    else
      let r1 := n_laws_eqIntS a0.2.2 a1.2.2
      bif (!r1) then
        some ((false, ()), ())
      else
        some ((true, ()), ())
theorem e_laws_eqAns (x : InD I_laws_eqAns) : execF ⟨E_laws_eqAns, 21, D_laws_eqAns_0⟩ Try.f25.results.toList B_laws_eqAns I_laws_eqAns U_laws_eqAns x = raw_laws_eqAns x.1 x.2.1 := by kernel_rfl
theorem ok0_laws_eqAns : ConOk Try.prog 25 ⟨I_laws_eqAns, U_laws_eqAns, fun x => raw_laws_eqAns x.1 x.2.1⟩ := conOk_exec (fr_laws_eqAns_0) Try.func25 (by kernel_rfl) (by kernel_rfl) Try.ntmps25.symm (by decide) (fun x r h => (e_laws_eqAns x).trans h)
noncomputable def n_laws_eqAns (a0 : Int × Int × (List Int)) (a1 : Int × Int × (List Int)) : Bool :=
  bif (a0.1 != a1.1) then
    false
  else
    bif (a0.2.1 != a1.2.1) then
      false
    else
      let r1 := n_laws_eqIntS a0.2.2 a1.2.2
      bif (!r1) then
        false
      else
        true
noncomputable def con_laws_eqAns : Con := ⟨I_laws_eqAns, U_laws_eqAns, fun x => (fun n => some ((n, ()), ())) (n_laws_eqAns x.1 x.2.1)⟩
theorem nn_laws_eqAns (a0 : Int × Int × (List Int)) (a1 : Int × Int × (List Int)) : raw_laws_eqAns a0 a1 = (fun n => some ((n, ()), ())) (n_laws_eqAns a0 a1) := bif_ty (p := fun (n : Bool) => ((n, ()), ())) (bif_some (p := fun (n : Bool) => ((n, ()), ())) rfl (bif_some (p := fun (n : Bool) => ((n, ()), ())) rfl (bif_some (p := fun (n : Bool) => ((n, ()), ())) rfl rfl)))
theorem ok_laws_eqAns : ConOk Try.prog 25 con_laws_eqAns := (ok0_laws_eqAns).mono (fun x r _ h => (nn_laws_eqAns x.1 x.2.1).trans h)
theorem eqd_laws_eqAns (a b : Int × Int × (List Int)) : n_laws_eqAns a b = decide (a = b) := by
  unfold n_laws_eqAns
  simp only [eq_step1, eq_step2, eq_step3, eq_step4, eq_step5, eqd_laws_eqIntS, Prod.ext_iff, Bool.decide_and, Bool.and_true]
theorem eqr_laws_eqAns (a : Int × Int × (List Int)) : n_laws_eqAns a a = true := by rw [eqd_laws_eqAns]; exact decide_eq_true rfl
end

/-! laws_eqAnsS -/
section
noncomputable def B_laws_eqAnsS : Code := (Try.f48.body).getD .skip
noncomputable def E_laws_eqAnsS : Env := envOf TT [(25, con_laws_eqAns)] []
theorem fr_laws_eqAnsS_0 : FrOk Try.prog ⟨E_laws_eqAnsS, 27, fun _ => none⟩ B_laws_eqAnsS := frOk_base mixed tt_ok ⟨ok_laws_eqAns, trivial⟩
noncomputable def D_laws_eqAnsS_0 : Nat → Option Seg := fun _ => none
def L_laws_eqAnsS_29 : Shape := ⟨[(0, false, [.br tN]), (1, false, [.br tN]), (5, false, [.int .i64])], [], []⟩
def S_laws_eqAnsS_29 : Shape := ⟨[(0, false, [.br tN]), (1, false, [.br tN]), (5, false, [.ci .i64 0])], [], []⟩
def O_laws_eqAnsS_29 : Shape := ⟨[], [], []⟩
def Z_laws_eqAnsS_29 : Shape := ⟨[(4, false, [.bool])], [], []⟩
noncomputable def st_laws_eqAnsS_29 (v0 : List (Int × Int × (List Int))) (v1 : List (Int × Int × (List Int))) (v2 : Int) : Option ((L_laws_eqAnsS_29).X ⊕ ((O_laws_eqAnsS_29).X ⊕ (Z_laws_eqAnsS_29).X)) :=
  bif (ltb v2 (v0.length : Int)) then
    bif (inb v2 v0.length) then
      bif (inb v2 v1.length) then
        let r2 := n_laws_eqAns ((nth v0 v2 (0, 0, [])).1, ((nth v0 v2 (0, 0, [])).2)) ((nth v1 v2 (0, 0, [])).1, ((nth v1 v2 (0, 0, [])).2))
        bif (!r2) then
          some (.inr (.inr (((false, ()), ()), (), ())))
        else
          some (.inl (((v0, ()), (v1, ()), ((IntKind.i64.wrap (v2 + 1)), ()), ()), (), ()))
      else none
    else none
  else
    some (.inr (.inl ((), (), ())))
noncomputable def stx_laws_eqAnsS_29 (x : (L_laws_eqAnsS_29).X) := st_laws_eqAnsS_29 x.1.1.1 x.1.2.1.1 x.1.2.2.1.1
def em_laws_eqAnsS_29 (x : (S_laws_eqAnsS_29).X) : (L_laws_eqAnsS_29).X := (((x.1.1.1, ()), (x.1.2.1.1, ()), (0, ()), ()), (), ())
noncomputable def c_laws_eqAnsS_29 : Code := (subN B_laws_eqAnsS 64 116).getD .skip
theorem a_laws_eqAnsS_29 : subN B_laws_eqAnsS 64 29 = some (.block 0 (.loop c_laws_eqAnsS_29)) := by kernel_rfl
theorem r_laws_eqAnsS_29 (x : (L_laws_eqAnsS_29).X) : roundT ⟨E_laws_eqAnsS, 27, D_laws_eqAnsS_0⟩ 0 c_laws_eqAnsS_29 116 L_laws_eqAnsS_29 O_laws_eqAnsS_29 Z_laws_eqAnsS_29 x = stx_laws_eqAnsS_29 x := by kernel_rfl
noncomputable def fu_laws_eqAnsS_29 (x : (S_laws_eqAnsS_29).X) : Nat := (fun (u0 : List (Int × Int × (List Int))) (u1 : List (Int × Int × (List Int))) => 18446744073709551616) x.1.1.1 x.1.2.1.1
noncomputable def F_laws_eqAnsS_29 (x : (S_laws_eqAnsS_29).X) : Option ((O_laws_eqAnsS_29).X ⊕ (Z_laws_eqAnsS_29).X) := loopN stx_laws_eqAnsS_29 (fu_laws_eqAnsS_29 x) (em_laws_eqAnsS_29 x)
noncomputable def sg_laws_eqAnsS_29 : Seg := ⟨S_laws_eqAnsS_29, O_laws_eqAnsS_29, Z_laws_eqAnsS_29, F_laws_eqAnsS_29⟩
noncomputable def D_laws_eqAnsS_1 : Nat → Option Seg := fun q => bif Nat.beq q 29 then some sg_laws_eqAnsS_29 else D_laws_eqAnsS_0 q
theorem fr_laws_eqAnsS_1 : FrOk Try.prog ⟨E_laws_eqAnsS, 27, D_laws_eqAnsS_1⟩ B_laws_eqAnsS := (fr_laws_eqAnsS_0).loop (sg := sg_laws_eqAnsS_29) L_laws_eqAnsS_29 em_laws_eqAnsS_29 (by decide) a_laws_eqAnsS_29 stx_laws_eqAnsS_29 fu_laws_eqAnsS_29 (by decide) (fun _ => rfl) (fun x r _ h => h) r_laws_eqAnsS_29
abbrev I_laws_eqAnsS : List Par := [.rd tNs, .rd tNs]
abbrev U_laws_eqAnsS : List OT := [⟨false, tB, .fz⟩]
noncomputable def raw_laws_eqAnsS (a0 : List (Int × Int × (List Int))) (a1 : List (Int × Int × (List Int))) : Option (ResD U_laws_eqAnsS × MutD I_laws_eqAnsS) :=
  bif ((a0.length : Int) != (a1.length : Int)) then
    some ((false, ()), ())
  else
    segM (F_laws_eqAnsS_29 (((a0, ()), (a1, ()), ((), ()), ()), (), ())) (fun y2 =>
      some ((true, ()), ())) (fun y2 =>
      some ((y2.1.1.1, ()), ()))
theorem e_laws_eqAnsS (x : InD I_laws_eqAnsS) : execF ⟨E_laws_eqAnsS, 27, D_laws_eqAnsS_1⟩ Try.f48.results.toList B_laws_eqAnsS I_laws_eqAnsS U_laws_eqAnsS x = raw_laws_eqAnsS x.1 x.2.1 := by kernel_rfl
theorem ok0_laws_eqAnsS : ConOk Try.prog 48 ⟨I_laws_eqAnsS, U_laws_eqAnsS, fun x => raw_laws_eqAnsS x.1 x.2.1⟩ := conOk_exec (fr_laws_eqAnsS_1) Try.func48 (by kernel_rfl) (by kernel_rfl) Try.ntmps48.symm (by decide) (fun x r h => (e_laws_eqAnsS x).trans h)
noncomputable def n_laws_eqAnsS (a0 a1 : List (Int × Int × (List Int))) : Bool := decide (a0 = a1)
theorem nn_laws_eqAnsS (a0 a1 : List (Int × Int × (List Int))) (hk : InOk I_laws_eqAnsS (a0, a1, ())) : raw_laws_eqAnsS a0 a1 = (fun n => some ((n, ()), ())) (n_laws_eqAnsS a0 a1) := by
  have hb : a0.length * 40 ≤ 2 ^ 47 := hk.1.1
  unfold raw_laws_eqAnsS n_laws_eqAnsS
  by_cases h : a0.length = a1.length
  · have hl : F_laws_eqAnsS_29 (((a0, ()), (a1, ()), ((), ()), ()), (), ()) = some (bif decide (a0 = a1) then .inl ((), (), ()) else .inr (((false, ()), ()), (), ())) :=
      loopN_eq (step := stx_laws_eqAnsS_29) a0 a1 ((0, 0, []) : Int × Int × (List Int)) (fun i => (((a0, ()), (a1, ()), ((i : Int), ()), ()), (), ())) n_laws_eqAns eqd_laws_eqAns _ _ h (fun i hi => by
        simp only [stx_laws_eqAnsS_29, st_laws_eqAnsS_29, inb_nat (h ▸ hi), inb_nat hi, nth_nat, Int.toNat_natCast, ltb_t (show (i : Int) < a0.length by omega), cond_true, wr (show -9223372036854775808 ≤ (i : Int) + 1 by omega) (by omega), Int.natCast_add, Int.natCast_one, pr_eta]
        cases n_laws_eqAns (a0.getD i (0, 0, [])) (a1.getD i (0, 0, [])) <;> rfl) (by simp only [stx_laws_eqAnsS_29, st_laws_eqAnsS_29, ltb_f (Int.le_refl _), cond_false]) _ (by show _ < 18446744073709551616; omega)
    rw [show ((a0.length : Int) != (a1.length : Int)) = false by simp [h], bif_f, hl]
    cases decide (a0 = a1) <;> rfl
  · rw [show ((a0.length : Int) != (a1.length : Int)) = true from bne_iff_ne.2 (by omega), bif_t, decide_eq_false (fun e => h (congrArg _ e))]
theorem eqd_laws_eqAnsS (a0 a1 : List (Int × Int × (List Int))) : n_laws_eqAnsS a0 a1 = decide (a0 = a1) := rfl
noncomputable def con_laws_eqAnsS : Con := ⟨I_laws_eqAnsS, U_laws_eqAnsS, fun x => (fun n => some ((n, ()), ())) (n_laws_eqAnsS x.1 x.2.1)⟩
theorem ok_laws_eqAnsS : ConOk Try.prog 48 con_laws_eqAnsS := (ok0_laws_eqAnsS).mono (fun x r hk h => (nn_laws_eqAnsS x.1 x.2.1 hk).trans h)
theorem eqr_laws_eqAnsS (a : List (Int × Int × (List Int))) : n_laws_eqAnsS a a = true := by rw [eqd_laws_eqAnsS]; exact decide_eq_true rfl
end

/-! laws_eqCmd -/
section
noncomputable def B_laws_eqCmd : Code := (Try.f18.body).getD .skip
noncomputable def E_laws_eqCmd : Env := envOf TT [(24, con_laws_eqIntS)] []
theorem fr_laws_eqCmd_0 : FrOk Try.prog ⟨E_laws_eqCmd, 31, fun _ => none⟩ B_laws_eqCmd := frOk_base mixed tt_ok ⟨ok_laws_eqIntS, trivial⟩
noncomputable def D_laws_eqCmd_0 : Nat → Option Seg := fun _ => none
abbrev I_laws_eqCmd : List Par := [.rd tC, .rd tC]
abbrev U_laws_eqCmd : List OT := [⟨false, tB, .fz⟩]
noncomputable def raw_laws_eqCmd (a0 : Int × Int × Int × Int × (List Int)) (a1 : Int × Int × Int × Int × (List Int)) : Option (ResD U_laws_eqCmd × MutD I_laws_eqCmd) :=
  bif (a0.1 != a1.1) then
    some ((false, ()), ())
  else
    bif (a0.2.1 != a1.2.1) then
      some ((false, ()), ())
    else
      bif (a0.2.2.1 != a1.2.2.1) then
        some ((false, ()), ())
      else
        bif (a0.2.2.2.1 != a1.2.2.2.1) then
          some ((false, ()), ())
        else
          let r1 := n_laws_eqIntS a0.2.2.2.2 a1.2.2.2.2
          bif (!r1) then
            some ((false, ()), ())
          else
            some ((true, ()), ())
theorem e_laws_eqCmd (x : InD I_laws_eqCmd) : execF ⟨E_laws_eqCmd, 31, D_laws_eqCmd_0⟩ Try.f18.results.toList B_laws_eqCmd I_laws_eqCmd U_laws_eqCmd x = raw_laws_eqCmd x.1 x.2.1 := by kernel_rfl
theorem ok0_laws_eqCmd : ConOk Try.prog 18 ⟨I_laws_eqCmd, U_laws_eqCmd, fun x => raw_laws_eqCmd x.1 x.2.1⟩ := conOk_exec (fr_laws_eqCmd_0) Try.func18 (by kernel_rfl) (by kernel_rfl) Try.ntmps18.symm (by decide) (fun x r h => (e_laws_eqCmd x).trans h)
noncomputable def n_laws_eqCmd (a0 : Int × Int × Int × Int × (List Int)) (a1 : Int × Int × Int × Int × (List Int)) : Bool :=
  bif (a0.1 != a1.1) then
    false
  else
    bif (a0.2.1 != a1.2.1) then
      false
    else
      bif (a0.2.2.1 != a1.2.2.1) then
        false
      else
        bif (a0.2.2.2.1 != a1.2.2.2.1) then
          false
        else
          let r1 := n_laws_eqIntS a0.2.2.2.2 a1.2.2.2.2
          bif (!r1) then
            false
          else
            true
noncomputable def con_laws_eqCmd : Con := ⟨I_laws_eqCmd, U_laws_eqCmd, fun x => (fun n => some ((n, ()), ())) (n_laws_eqCmd x.1 x.2.1)⟩
theorem nn_laws_eqCmd (a0 : Int × Int × Int × Int × (List Int)) (a1 : Int × Int × Int × Int × (List Int)) : raw_laws_eqCmd a0 a1 = (fun n => some ((n, ()), ())) (n_laws_eqCmd a0 a1) := bif_ty (p := fun (n : Bool) => ((n, ()), ())) (bif_some (p := fun (n : Bool) => ((n, ()), ())) rfl (bif_some (p := fun (n : Bool) => ((n, ()), ())) rfl (bif_some (p := fun (n : Bool) => ((n, ()), ())) rfl (bif_some (p := fun (n : Bool) => ((n, ()), ())) rfl (bif_some (p := fun (n : Bool) => ((n, ()), ())) rfl rfl)))))
theorem ok_laws_eqCmd : ConOk Try.prog 18 con_laws_eqCmd := (ok0_laws_eqCmd).mono (fun x r _ h => (nn_laws_eqCmd x.1 x.2.1).trans h)
theorem eqd_laws_eqCmd (a b : Int × Int × Int × Int × (List Int)) : n_laws_eqCmd a b = decide (a = b) := by
  unfold n_laws_eqCmd
  simp only [eq_step1, eq_step2, eq_step3, eq_step4, eq_step5, eqd_laws_eqIntS, Prod.ext_iff, Bool.decide_and, Bool.and_true]
theorem eqr_laws_eqCmd (a : Int × Int × Int × Int × (List Int)) : n_laws_eqCmd a a = true := by rw [eqd_laws_eqCmd]; exact decide_eq_true rfl
theorem eqInt_refl (a : List Int) : n_laws_eqIntS a a = true := by unfold n_laws_eqIntS; simp
theorem eqCmd_refl (a : Int × Int × Int × Int × List Int) : n_laws_eqCmd a a = true := by unfold n_laws_eqCmd; simp only [bne_self_eq_false, cond_false, eqInt_refl, Bool.not_true]
end

/-! laws_eqCmdS -/
section
noncomputable def B_laws_eqCmdS : Code := (Try.f49.body).getD .skip
noncomputable def E_laws_eqCmdS : Env := envOf TT [(18, con_laws_eqCmd)] []
theorem fr_laws_eqCmdS_0 : FrOk Try.prog ⟨E_laws_eqCmdS, 27, fun _ => none⟩ B_laws_eqCmdS := frOk_base mixed tt_ok ⟨ok_laws_eqCmd, trivial⟩
noncomputable def D_laws_eqCmdS_0 : Nat → Option Seg := fun _ => none
def L_laws_eqCmdS_29 : Shape := ⟨[(0, false, [.br tC]), (1, false, [.br tC]), (5, false, [.int .i64])], [], []⟩
def S_laws_eqCmdS_29 : Shape := ⟨[(0, false, [.br tC]), (1, false, [.br tC]), (5, false, [.ci .i64 0])], [], []⟩
def O_laws_eqCmdS_29 : Shape := ⟨[], [], []⟩
def Z_laws_eqCmdS_29 : Shape := ⟨[(4, false, [.bool])], [], []⟩
noncomputable def st_laws_eqCmdS_29 (v0 : List (Int × Int × Int × Int × (List Int))) (v1 : List (Int × Int × Int × Int × (List Int))) (v2 : Int) : Option ((L_laws_eqCmdS_29).X ⊕ ((O_laws_eqCmdS_29).X ⊕ (Z_laws_eqCmdS_29).X)) :=
  bif (ltb v2 (v0.length : Int)) then
    bif (inb v2 v0.length) then
      bif (inb v2 v1.length) then
        let r2 := n_laws_eqCmd ((nth v0 v2 (0, 0, 0, 0, [])).1, ((nth v0 v2 (0, 0, 0, 0, [])).2).1, (((nth v0 v2 (0, 0, 0, 0, [])).2).2).1, ((((nth v0 v2 (0, 0, 0, 0, [])).2).2).2)) ((nth v1 v2 (0, 0, 0, 0, [])).1, ((nth v1 v2 (0, 0, 0, 0, [])).2).1, (((nth v1 v2 (0, 0, 0, 0, [])).2).2).1, ((((nth v1 v2 (0, 0, 0, 0, [])).2).2).2))
        bif (!r2) then
          some (.inr (.inr (((false, ()), ()), (), ())))
        else
          some (.inl (((v0, ()), (v1, ()), ((IntKind.i64.wrap (v2 + 1)), ()), ()), (), ()))
      else none
    else none
  else
    some (.inr (.inl ((), (), ())))
noncomputable def stx_laws_eqCmdS_29 (x : (L_laws_eqCmdS_29).X) := st_laws_eqCmdS_29 x.1.1.1 x.1.2.1.1 x.1.2.2.1.1
def em_laws_eqCmdS_29 (x : (S_laws_eqCmdS_29).X) : (L_laws_eqCmdS_29).X := (((x.1.1.1, ()), (x.1.2.1.1, ()), (0, ()), ()), (), ())
noncomputable def c_laws_eqCmdS_29 : Code := (subN B_laws_eqCmdS 64 116).getD .skip
theorem a_laws_eqCmdS_29 : subN B_laws_eqCmdS 64 29 = some (.block 0 (.loop c_laws_eqCmdS_29)) := by kernel_rfl
theorem r_laws_eqCmdS_29 (x : (L_laws_eqCmdS_29).X) : roundT ⟨E_laws_eqCmdS, 27, D_laws_eqCmdS_0⟩ 0 c_laws_eqCmdS_29 116 L_laws_eqCmdS_29 O_laws_eqCmdS_29 Z_laws_eqCmdS_29 x = stx_laws_eqCmdS_29 x := by kernel_rfl
noncomputable def fu_laws_eqCmdS_29 (x : (S_laws_eqCmdS_29).X) : Nat := (fun (u0 : List (Int × Int × Int × Int × (List Int))) (u1 : List (Int × Int × Int × Int × (List Int))) => 18446744073709551616) x.1.1.1 x.1.2.1.1
noncomputable def F_laws_eqCmdS_29 (x : (S_laws_eqCmdS_29).X) : Option ((O_laws_eqCmdS_29).X ⊕ (Z_laws_eqCmdS_29).X) := loopN stx_laws_eqCmdS_29 (fu_laws_eqCmdS_29 x) (em_laws_eqCmdS_29 x)
noncomputable def sg_laws_eqCmdS_29 : Seg := ⟨S_laws_eqCmdS_29, O_laws_eqCmdS_29, Z_laws_eqCmdS_29, F_laws_eqCmdS_29⟩
noncomputable def D_laws_eqCmdS_1 : Nat → Option Seg := fun q => bif Nat.beq q 29 then some sg_laws_eqCmdS_29 else D_laws_eqCmdS_0 q
theorem fr_laws_eqCmdS_1 : FrOk Try.prog ⟨E_laws_eqCmdS, 27, D_laws_eqCmdS_1⟩ B_laws_eqCmdS := (fr_laws_eqCmdS_0).loop (sg := sg_laws_eqCmdS_29) L_laws_eqCmdS_29 em_laws_eqCmdS_29 (by decide) a_laws_eqCmdS_29 stx_laws_eqCmdS_29 fu_laws_eqCmdS_29 (by decide) (fun _ => rfl) (fun x r _ h => h) r_laws_eqCmdS_29
abbrev I_laws_eqCmdS : List Par := [.rd tCs, .rd tCs]
abbrev U_laws_eqCmdS : List OT := [⟨false, tB, .fz⟩]
noncomputable def raw_laws_eqCmdS (a0 : List (Int × Int × Int × Int × (List Int))) (a1 : List (Int × Int × Int × Int × (List Int))) : Option (ResD U_laws_eqCmdS × MutD I_laws_eqCmdS) :=
  bif ((a0.length : Int) != (a1.length : Int)) then
    some ((false, ()), ())
  else
    segM (F_laws_eqCmdS_29 (((a0, ()), (a1, ()), ((), ()), ()), (), ())) (fun y2 =>
      some ((true, ()), ())) (fun y2 =>
      some ((y2.1.1.1, ()), ()))
theorem e_laws_eqCmdS (x : InD I_laws_eqCmdS) : execF ⟨E_laws_eqCmdS, 27, D_laws_eqCmdS_1⟩ Try.f49.results.toList B_laws_eqCmdS I_laws_eqCmdS U_laws_eqCmdS x = raw_laws_eqCmdS x.1 x.2.1 := by kernel_rfl
theorem ok0_laws_eqCmdS : ConOk Try.prog 49 ⟨I_laws_eqCmdS, U_laws_eqCmdS, fun x => raw_laws_eqCmdS x.1 x.2.1⟩ := conOk_exec (fr_laws_eqCmdS_1) Try.func49 (by kernel_rfl) (by kernel_rfl) Try.ntmps49.symm (by decide) (fun x r h => (e_laws_eqCmdS x).trans h)
noncomputable def n_laws_eqCmdS (a0 a1 : List (Int × Int × Int × Int × (List Int))) : Bool := decide (a0 = a1)
theorem nn_laws_eqCmdS (a0 a1 : List (Int × Int × Int × Int × (List Int))) (hk : InOk I_laws_eqCmdS (a0, a1, ())) : raw_laws_eqCmdS a0 a1 = (fun n => some ((n, ()), ())) (n_laws_eqCmdS a0 a1) := by
  have hb : a0.length * 56 ≤ 2 ^ 47 := hk.1.1
  unfold raw_laws_eqCmdS n_laws_eqCmdS
  by_cases h : a0.length = a1.length
  · have hl : F_laws_eqCmdS_29 (((a0, ()), (a1, ()), ((), ()), ()), (), ()) = some (bif decide (a0 = a1) then .inl ((), (), ()) else .inr (((false, ()), ()), (), ())) :=
      loopN_eq (step := stx_laws_eqCmdS_29) a0 a1 ((0, 0, 0, 0, []) : Int × Int × Int × Int × (List Int)) (fun i => (((a0, ()), (a1, ()), ((i : Int), ()), ()), (), ())) n_laws_eqCmd eqd_laws_eqCmd _ _ h (fun i hi => by
        simp only [stx_laws_eqCmdS_29, st_laws_eqCmdS_29, inb_nat (h ▸ hi), inb_nat hi, nth_nat, Int.toNat_natCast, ltb_t (show (i : Int) < a0.length by omega), cond_true, wr (show -9223372036854775808 ≤ (i : Int) + 1 by omega) (by omega), Int.natCast_add, Int.natCast_one, pr_eta]
        cases n_laws_eqCmd (a0.getD i (0, 0, 0, 0, [])) (a1.getD i (0, 0, 0, 0, [])) <;> rfl) (by simp only [stx_laws_eqCmdS_29, st_laws_eqCmdS_29, ltb_f (Int.le_refl _), cond_false]) _ (by show _ < 18446744073709551616; omega)
    rw [show ((a0.length : Int) != (a1.length : Int)) = false by simp [h], bif_f, hl]
    cases decide (a0 = a1) <;> rfl
  · rw [show ((a0.length : Int) != (a1.length : Int)) = true from bne_iff_ne.2 (by omega), bif_t, decide_eq_false (fun e => h (congrArg _ e))]
theorem eqd_laws_eqCmdS (a0 a1 : List (Int × Int × Int × Int × (List Int))) : n_laws_eqCmdS a0 a1 = decide (a0 = a1) := rfl
noncomputable def con_laws_eqCmdS : Con := ⟨I_laws_eqCmdS, U_laws_eqCmdS, fun x => (fun n => some ((n, ()), ())) (n_laws_eqCmdS x.1 x.2.1)⟩
theorem ok_laws_eqCmdS : ConOk Try.prog 49 con_laws_eqCmdS := (ok0_laws_eqCmdS).mono (fun x r hk h => (nn_laws_eqCmdS x.1 x.2.1 hk).trans h)
theorem eqr_laws_eqCmdS (a : List (Int × Int × Int × Int × (List Int))) : n_laws_eqCmdS a a = true := by rw [eqd_laws_eqCmdS]; exact decide_eq_true rfl
end

/-! laws_markCmdS -/
section
noncomputable def B_laws_markCmdS : Code := (Try.f50.body).getD .skip
noncomputable def E_laws_markCmdS : Env := envOf TT [(26, con_laws_markIntS)] []
theorem fr_laws_markCmdS_0 : FrOk Try.prog ⟨E_laws_markCmdS, 48, fun _ => none⟩ B_laws_markCmdS := frOk_base mixed tt_ok ⟨ok_laws_markIntS, trivial⟩
noncomputable def D_laws_markCmdS_0 : Nat → Option Seg := fun _ => none
def L_laws_markCmdS_13 : Shape := ⟨[(0, false, [.at 1000001000]), (1, false, [.int .i64]), (5, false, [.int .i64])], [], [(1000001000, tC, (.pr .fz (.pr .fz (.pr .fz (.pr .fz (.ow .fz))))))]⟩
def S_laws_markCmdS_13 : Shape := ⟨[(0, false, [.at 1000001000]), (1, false, [.int .i64]), (5, false, [.ci .i64 0])], [], [(1000001000, tC, (.pr .fz (.pr .fz (.pr .fz (.pr .fz (.ow .fz))))))]⟩
def O_laws_markCmdS_13 : Shape := ⟨[(1, false, [.int .i64])], [], [(1000001000, tC, (.pr .fz (.pr .fz (.pr .fz (.pr .fz (.ow .fz))))))]⟩
def Z_laws_markCmdS_13 : Shape := ⟨[], [], []⟩
noncomputable def st_laws_markCmdS_13 (v0 : Int) (v1 : Int) (v2 : List (Int × Int × Int × Int × (List Int))) : Option ((L_laws_markCmdS_13).X ⊕ ((O_laws_markCmdS_13).X ⊕ (Z_laws_markCmdS_13).X)) :=
  bif (ltb v1 (v2.length : Int)) then
    bif (inb v1 v2.length) then
      let r7 := (v2.set (v1).toNat (v0, ((nth v2 v1 (0, 0, 0, 0, [])).2).1, (((nth v2 v1 (0, 0, 0, 0, [])).2).2).1, ((((nth v2 v1 (0, 0, 0, 0, [])).2).2).2)))
      bif (inb v1 r7.length) then
        let r8 := (r7.set (v1).toNat ((nth r7 v1 (0, 0, 0, 0, [])).1, (IntKind.i64.wrap (v0 + 1)), (((nth r7 v1 (0, 0, 0, 0, [])).2).2).1, ((((nth r7 v1 (0, 0, 0, 0, [])).2).2).2)))
        bif (inb v1 r8.length) then
          let r9 := (r8.set (v1).toNat ((nth r8 v1 (0, 0, 0, 0, [])).1, ((nth r8 v1 (0, 0, 0, 0, [])).2).1, (IntKind.i64.wrap ((IntKind.i64.wrap (v0 + 1)) + 1)), ((((nth r8 v1 (0, 0, 0, 0, [])).2).2).2)))
          bif (inb v1 r9.length) then
            let r10 := (r9.set (v1).toNat ((nth r9 v1 (0, 0, 0, 0, [])).1, ((nth r9 v1 (0, 0, 0, 0, [])).2).1, (((nth r9 v1 (0, 0, 0, 0, [])).2).2).1, (IntKind.i64.wrap ((IntKind.i64.wrap ((IntKind.i64.wrap (v0 + 1)) + 1)) + 1)), ((((nth r9 v1 (0, 0, 0, 0, [])).2).2).2).2))
            bif (inb v1 r10.length) then
              let r12 := n_laws_markIntS (((((nth r10 v1 (0, 0, 0, 0, [])).2).2).2).2) (IntKind.i64.wrap ((IntKind.i64.wrap ((IntKind.i64.wrap ((IntKind.i64.wrap (v0 + 1)) + 1)) + 1)) + 1))
              some (.inl ((((), ()), (r12.1, ()), ((IntKind.i64.wrap (v1 + 1)), ()), ()), (), ((r10.set (v1).toNat ((nth r10 v1 (0, 0, 0, 0, [])).1, ((nth r10 v1 (0, 0, 0, 0, [])).2).1, (((nth r10 v1 (0, 0, 0, 0, [])).2).2).1, ((((nth r10 v1 (0, 0, 0, 0, [])).2).2).2).1, r12.2)), ())))
            else none
          else none
        else none
      else none
    else none
  else
    some (.inr (.inl (((v0, ()), ()), (), (v2, ()))))
noncomputable def stx_laws_markCmdS_13 (x : (L_laws_markCmdS_13).X) := st_laws_markCmdS_13 x.1.2.1.1 x.1.2.2.1.1 x.2.2.1
def em_laws_markCmdS_13 (x : (S_laws_markCmdS_13).X) : (L_laws_markCmdS_13).X := ((((), ()), (x.1.2.1.1, ()), (0, ()), ()), (), (x.2.2.1, ()))
noncomputable def c_laws_markCmdS_13 : Code := (subN B_laws_markCmdS 64 52).getD .skip
theorem a_laws_markCmdS_13 : subN B_laws_markCmdS 64 13 = some (.block 0 (.loop c_laws_markCmdS_13)) := by kernel_rfl
theorem r_laws_markCmdS_13 (x : (L_laws_markCmdS_13).X) : roundT ⟨E_laws_markCmdS, 48, D_laws_markCmdS_0⟩ 0 c_laws_markCmdS_13 52 L_laws_markCmdS_13 O_laws_markCmdS_13 Z_laws_markCmdS_13 x = stx_laws_markCmdS_13 x := by kernel_rfl
noncomputable def fu_laws_markCmdS_13 (x : (S_laws_markCmdS_13).X) : Nat := (fun (u0 : Int) (u1 : List (Int × Int × Int × Int × (List Int))) => 18446744073709551616) x.1.2.1.1 x.2.2.1
noncomputable def F_laws_markCmdS_13 (x : (S_laws_markCmdS_13).X) : Option ((O_laws_markCmdS_13).X ⊕ (Z_laws_markCmdS_13).X) := loopN stx_laws_markCmdS_13 (fu_laws_markCmdS_13 x) (em_laws_markCmdS_13 x)
noncomputable def sg_laws_markCmdS_13 : Seg := ⟨S_laws_markCmdS_13, O_laws_markCmdS_13, Z_laws_markCmdS_13, F_laws_markCmdS_13⟩
noncomputable def D_laws_markCmdS_1 : Nat → Option Seg := fun q => bif Nat.beq q 13 then some sg_laws_markCmdS_13 else D_laws_markCmdS_0 q
theorem fr_laws_markCmdS_1 : FrOk Try.prog ⟨E_laws_markCmdS, 48, D_laws_markCmdS_1⟩ B_laws_markCmdS := (fr_laws_markCmdS_0).loop (sg := sg_laws_markCmdS_13) L_laws_markCmdS_13 em_laws_markCmdS_13 (by decide) a_laws_markCmdS_13 stx_laws_markCmdS_13 fu_laws_markCmdS_13 (by decide) (fun _ => rfl) (fun x r _ h => h) r_laws_markCmdS_13
abbrev I_laws_markCmdS : List Par := [.mt tCs (.ow (.pr .fz (.pr .fz (.pr .fz (.pr .fz (.ow .fz)))))), .rd tI]
abbrev U_laws_markCmdS : List OT := [⟨false, tI, .fz⟩]
noncomputable def raw_laws_markCmdS (a0 : List (Int × Int × Int × Int × (List Int))) (a1 : Int) : Option (ResD U_laws_markCmdS × MutD I_laws_markCmdS) :=
  segM (F_laws_markCmdS_13 ((((), ()), (a1, ()), ((), ()), ()), (), (a0, ()))) (fun y12 =>
    some ((y12.1.1.1, ()), (y12.2.2.1, ()))) (fun y12 =>
    none)
theorem e_laws_markCmdS (x : InD I_laws_markCmdS) : execF ⟨E_laws_markCmdS, 48, D_laws_markCmdS_1⟩ Try.f50.results.toList B_laws_markCmdS I_laws_markCmdS U_laws_markCmdS x = raw_laws_markCmdS x.1 x.2.1 := by kernel_rfl
theorem ok0_laws_markCmdS : ConOk Try.prog 50 ⟨I_laws_markCmdS, U_laws_markCmdS, fun x => raw_laws_markCmdS x.1 x.2.1⟩ := conOk_exec (fr_laws_markCmdS_1) Try.func50 (by kernel_rfl) (by kernel_rfl) Try.ntmps50.symm (by decide) (fun x r h => (e_laws_markCmdS x).trans h)
noncomputable def u_Cmd (x : dC) (k : Int) : Int × dC :=
  (markEnd (IntKind.i64.wrap (IntKind.i64.wrap (IntKind.i64.wrap (IntKind.i64.wrap (k + 1) + 1) + 1) + 1)) x.2.2.2.2.length, (k, IntKind.i64.wrap (k + 1), IntKind.i64.wrap (IntKind.i64.wrap (k + 1) + 1), IntKind.i64.wrap (IntKind.i64.wrap (IntKind.i64.wrap (k + 1) + 1) + 1),
    marks (IntKind.i64.wrap (IntKind.i64.wrap (IntKind.i64.wrap (IntKind.i64.wrap (k + 1) + 1) + 1) + 1)) x.2.2.2.2.length))
noncomputable def n_laws_markCmdS (a0 : List dC) (a1 : Int) : Int × List dC := markL u_Cmd a0 a1
theorem nn_laws_markCmdS (a0 : List dC) (a1 : Int) (hk : InOk I_laws_markCmdS (a0, a1, ())) : raw_laws_markCmdS a0 a1 = (fun n => some ((n.1, ()), (n.2, ()))) (n_laws_markCmdS a0 a1) := by
  have hb : a0.length * 56 ≤ 2 ^ 47 := hk.1.1
  have hl : F_laws_markCmdS_13 ((((), ()), (a1, ()), ((), ()), ()), (), (a0, ())) = some (.inl ((((markL u_Cmd a0 a1).1, ()), ()), (), ((markL u_Cmd a0 a1).2, ()))) :=
    loopN_mark (step := stx_laws_markCmdS_13) a0 ((0, 0, 0, 0, []) : dC) (fun i k m => ((((), ()), (k, ()), ((i : Int), ()), ()), (), (m, ()))) u_Cmd (fun k m => .inl (((k, ()), ()), (), (m, ()))) (fun i s m hi hm => by
      simp only [stx_laws_markCmdS_13, st_laws_markCmdS_13, ltb_t (show (i : Int) < m.length by omega), List.length_set, inb_nat hi, Int.toNat_natCast, List.set_set, cond_true, nth_set hi, wr (show -9223372036854775808 ≤ (i : Int) + 1 by omega) (by omega), Int.natCast_add, Int.natCast_one, n_laws_markIntS, nth_nat]
      rfl) (fun s m hm => by simp only [stx_laws_markCmdS_13, st_laws_markCmdS_13, hm, ltb_f (Int.le_refl _), cond_false]) a1 _ (by show _ < 18446744073709551616; omega)
  unfold raw_laws_markCmdS n_laws_markCmdS
  rw [hl]; rfl
theorem markCmds_end : ∀ (l : List dC) (k : Int), 0 ≤ k → k + ((l.map (fun x : dC => 4 + x.2.2.2.2.length)).sum : Nat) ≤ 9223372036854775807 → (markL u_Cmd l k).1 = k + ((l.map (fun x : dC => 4 + x.2.2.2.2.length)).sum : Nat)
  | [], k, _, _ => by simp [markL]
  | x :: l, k, h0, h => by
    rw [List.map_cons, List.sum_cons] at h ⊢
    have h1 : (u_Cmd x k).1 = k + 4 + x.2.2.2.2.length := by
      unfold u_Cmd
      have hw : IntKind.i64.wrap (IntKind.i64.wrap (IntKind.i64.wrap (IntKind.i64.wrap (k + 1) + 1) + 1) + 1) = k + 4 := by
        rw [wr (show -9223372036854775808 ≤ k + 1 by omega) (by omega), wr (show -9223372036854775808 ≤ k + 1 + 1 by omega) (by omega), wr (show -9223372036854775808 ≤ k + 1 + 1 + 1 by omega) (by omega), wr (by omega) (by omega)]; omega
      simp only [hw]
      rw [markEnd_eq _ _ (by omega) (by omega)]
    simp only [markL]
    rw [markCmds_end l (u_Cmd x k).1 (by omega) (by omega), h1]
    omega
noncomputable def con_laws_markCmdS : Con := ⟨I_laws_markCmdS, U_laws_markCmdS, fun x => (fun n => some ((n.1, ()), (n.2, ()))) (n_laws_markCmdS x.1 x.2.1)⟩
theorem ok_laws_markCmdS : ConOk Try.prog 50 con_laws_markCmdS := (ok0_laws_markCmdS).mono (fun x r hk h => (nn_laws_markCmdS x.1 x.2.1 hk).trans h)
end

/-! laws_markAnsS -/
section
noncomputable def B_laws_markAnsS : Code := (Try.f51.body).getD .skip
noncomputable def E_laws_markAnsS : Env := envOf TT [(26, con_laws_markIntS)] []
theorem fr_laws_markAnsS_0 : FrOk Try.prog ⟨E_laws_markAnsS, 34, fun _ => none⟩ B_laws_markAnsS := frOk_base mixed tt_ok ⟨ok_laws_markIntS, trivial⟩
noncomputable def D_laws_markAnsS_0 : Nat → Option Seg := fun _ => none
def L_laws_markAnsS_13 : Shape := ⟨[(0, false, [.at 1000001000]), (1, false, [.int .i64]), (5, false, [.int .i64])], [], [(1000001000, tN, (.pr .fz (.pr .fz (.ow .fz))))]⟩
def S_laws_markAnsS_13 : Shape := ⟨[(0, false, [.at 1000001000]), (1, false, [.int .i64]), (5, false, [.ci .i64 0])], [], [(1000001000, tN, (.pr .fz (.pr .fz (.ow .fz))))]⟩
def O_laws_markAnsS_13 : Shape := ⟨[(1, false, [.int .i64])], [], [(1000001000, tN, (.pr .fz (.pr .fz (.ow .fz))))]⟩
def Z_laws_markAnsS_13 : Shape := ⟨[], [], []⟩
noncomputable def st_laws_markAnsS_13 (v0 : Int) (v1 : Int) (v2 : List (Int × Int × (List Int))) : Option ((L_laws_markAnsS_13).X ⊕ ((O_laws_markAnsS_13).X ⊕ (Z_laws_markAnsS_13).X)) :=
  bif (ltb v1 (v2.length : Int)) then
    bif (inb v1 v2.length) then
      bif (inb v1 (v2.set (v1).toNat (v0, ((nth v2 v1 (0, 0, [])).2))).length) then
        let r4 := ((v2.set (v1).toNat (v0, ((nth v2 v1 (0, 0, [])).2))).set (v1).toNat ((nth (v2.set (v1).toNat (v0, ((nth v2 v1 (0, 0, [])).2))) v1 (0, 0, [])).1, (IntKind.i64.wrap (v0 + 1)), ((nth (v2.set (v1).toNat (v0, ((nth v2 v1 (0, 0, [])).2))) v1 (0, 0, [])).2).2))
        bif (inb v1 r4.length) then
          let r6 := n_laws_markIntS (((nth r4 v1 (0, 0, [])).2).2) (IntKind.i64.wrap ((IntKind.i64.wrap (v0 + 1)) + 1))
          some (.inl ((((), ()), (r6.1, ()), ((IntKind.i64.wrap (v1 + 1)), ()), ()), (), ((r4.set (v1).toNat ((nth r4 v1 (0, 0, [])).1, ((nth r4 v1 (0, 0, [])).2).1, r6.2)), ())))
        else none
      else none
    else none
  else
    some (.inr (.inl (((v0, ()), ()), (), (v2, ()))))
noncomputable def stx_laws_markAnsS_13 (x : (L_laws_markAnsS_13).X) := st_laws_markAnsS_13 x.1.2.1.1 x.1.2.2.1.1 x.2.2.1
def em_laws_markAnsS_13 (x : (S_laws_markAnsS_13).X) : (L_laws_markAnsS_13).X := ((((), ()), (x.1.2.1.1, ()), (0, ()), ()), (), (x.2.2.1, ()))
noncomputable def c_laws_markAnsS_13 : Code := (subN B_laws_markAnsS 64 52).getD .skip
theorem a_laws_markAnsS_13 : subN B_laws_markAnsS 64 13 = some (.block 0 (.loop c_laws_markAnsS_13)) := by kernel_rfl
theorem r_laws_markAnsS_13 (x : (L_laws_markAnsS_13).X) : roundT ⟨E_laws_markAnsS, 34, D_laws_markAnsS_0⟩ 0 c_laws_markAnsS_13 52 L_laws_markAnsS_13 O_laws_markAnsS_13 Z_laws_markAnsS_13 x = stx_laws_markAnsS_13 x := by kernel_rfl
noncomputable def fu_laws_markAnsS_13 (x : (S_laws_markAnsS_13).X) : Nat := (fun (u0 : Int) (u1 : List (Int × Int × (List Int))) => 18446744073709551616) x.1.2.1.1 x.2.2.1
noncomputable def F_laws_markAnsS_13 (x : (S_laws_markAnsS_13).X) : Option ((O_laws_markAnsS_13).X ⊕ (Z_laws_markAnsS_13).X) := loopN stx_laws_markAnsS_13 (fu_laws_markAnsS_13 x) (em_laws_markAnsS_13 x)
noncomputable def sg_laws_markAnsS_13 : Seg := ⟨S_laws_markAnsS_13, O_laws_markAnsS_13, Z_laws_markAnsS_13, F_laws_markAnsS_13⟩
noncomputable def D_laws_markAnsS_1 : Nat → Option Seg := fun q => bif Nat.beq q 13 then some sg_laws_markAnsS_13 else D_laws_markAnsS_0 q
theorem fr_laws_markAnsS_1 : FrOk Try.prog ⟨E_laws_markAnsS, 34, D_laws_markAnsS_1⟩ B_laws_markAnsS := (fr_laws_markAnsS_0).loop (sg := sg_laws_markAnsS_13) L_laws_markAnsS_13 em_laws_markAnsS_13 (by decide) a_laws_markAnsS_13 stx_laws_markAnsS_13 fu_laws_markAnsS_13 (by decide) (fun _ => rfl) (fun x r _ h => h) r_laws_markAnsS_13
abbrev I_laws_markAnsS : List Par := [.mt tNs (.ow (.pr .fz (.pr .fz (.ow .fz)))), .rd tI]
abbrev U_laws_markAnsS : List OT := [⟨false, tI, .fz⟩]
noncomputable def raw_laws_markAnsS (a0 : List (Int × Int × (List Int))) (a1 : Int) : Option (ResD U_laws_markAnsS × MutD I_laws_markAnsS) :=
  segM (F_laws_markAnsS_13 ((((), ()), (a1, ()), ((), ()), ()), (), (a0, ()))) (fun y6 =>
    some ((y6.1.1.1, ()), (y6.2.2.1, ()))) (fun y6 =>
    none)
theorem e_laws_markAnsS (x : InD I_laws_markAnsS) : execF ⟨E_laws_markAnsS, 34, D_laws_markAnsS_1⟩ Try.f51.results.toList B_laws_markAnsS I_laws_markAnsS U_laws_markAnsS x = raw_laws_markAnsS x.1 x.2.1 := by kernel_rfl
theorem ok0_laws_markAnsS : ConOk Try.prog 51 ⟨I_laws_markAnsS, U_laws_markAnsS, fun x => raw_laws_markAnsS x.1 x.2.1⟩ := conOk_exec (fr_laws_markAnsS_1) Try.func51 (by kernel_rfl) (by kernel_rfl) Try.ntmps51.symm (by decide) (fun x r h => (e_laws_markAnsS x).trans h)
noncomputable def u_Ans (x : dN) (k : Int) : Int × dN := (markEnd (IntKind.i64.wrap (IntKind.i64.wrap (k + 1) + 1)) x.2.2.length, (k, IntKind.i64.wrap (k + 1), marks (IntKind.i64.wrap (IntKind.i64.wrap (k + 1) + 1)) x.2.2.length))
noncomputable def n_laws_markAnsS (a0 : List dN) (a1 : Int) : Int × List dN := markL u_Ans a0 a1
theorem nn_laws_markAnsS (a0 : List dN) (a1 : Int) (hk : InOk I_laws_markAnsS (a0, a1, ())) : raw_laws_markAnsS a0 a1 = (fun n => some ((n.1, ()), (n.2, ()))) (n_laws_markAnsS a0 a1) := by
  have hb : a0.length * 40 ≤ 2 ^ 47 := hk.1.1
  have hl : F_laws_markAnsS_13 ((((), ()), (a1, ()), ((), ()), ()), (), (a0, ())) = some (.inl ((((markL u_Ans a0 a1).1, ()), ()), (), ((markL u_Ans a0 a1).2, ()))) :=
    loopN_mark (step := stx_laws_markAnsS_13) a0 ((0, 0, []) : dN) (fun i k m => ((((), ()), (k, ()), ((i : Int), ()), ()), (), (m, ()))) u_Ans (fun k m => .inl (((k, ()), ()), (), (m, ()))) (fun i s m hi hm => by
      simp only [stx_laws_markAnsS_13, st_laws_markAnsS_13, ltb_t (show (i : Int) < m.length by omega), List.length_set, inb_nat hi, Int.toNat_natCast, List.set_set, cond_true, nth_set hi, wr (show -9223372036854775808 ≤ (i : Int) + 1 by omega) (by omega), Int.natCast_add, Int.natCast_one, n_laws_markIntS, nth_nat]
      rfl) (fun s m hm => by simp only [stx_laws_markAnsS_13, st_laws_markAnsS_13, hm, ltb_f (Int.le_refl _), cond_false]) a1 _ (by show _ < 18446744073709551616; omega)
  unfold raw_laws_markAnsS n_laws_markAnsS
  rw [hl]; rfl
noncomputable def con_laws_markAnsS : Con := ⟨I_laws_markAnsS, U_laws_markAnsS, fun x => (fun n => some ((n.1, ()), (n.2, ()))) (n_laws_markAnsS x.1 x.2.1)⟩
theorem ok_laws_markAnsS : ConOk Try.prog 51 con_laws_markAnsS := (ok0_laws_markAnsS).mono (fun x r hk h => (nn_laws_markAnsS x.1 x.2.1 hk).trans h)
end
end Go.Tf
