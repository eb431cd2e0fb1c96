/- Functions of the program, and what they come to. -/
import Derived.Test.YtgmadfpnljibhaaExactSpoilAtF10
namespace Go.Tf
open Go.Proofs
set_option synthInstance.maxHeartbeats 400000
set_option synthInstance.maxSize 10000
set_option linter.unusedVariables false
set_option linter.unusedSimpArgs false
set_option maxRecDepth 100000
/-! laws_eqMemS -/
section
noncomputable def B_laws_eqMemS : Code := (Try.f71.body).getD .skip
noncomputable def E_laws_eqMemS : Env := envOf TT [(109, con_laws_eqMem)] []
theorem fr_laws_eqMemS_0 : FrOk Try.prog ⟨E_laws_eqMemS, 27, fun _ => none⟩ B_laws_eqMemS := frOk_base mixed tt_ok ⟨ok_laws_eqMem, trivial⟩
noncomputable def D_laws_eqMemS_0 : Nat → Option Seg := fun _ => none
def L_laws_eqMemS_29 : Shape := ⟨[(0, false, [.br tM]), (1, false, [.br tM]), (5, false, [.int .i64])], [], []⟩
def S_laws_eqMemS_29 : Shape := ⟨[(0, false, [.br tM]), (1, false, [.br tM]), (5, false, [.ci .i64 0])], [], []⟩
def O_laws_eqMemS_29 : Shape := ⟨[], [], []⟩
def Z_laws_eqMemS_29 : Shape := ⟨[(4, false, [.bool])], [], []⟩
noncomputable def st_laws_eqMemS_29 (v0 v1 : List dM) (v2 : Int) : Option ((L_laws_eqMemS_29).X ⊕ ((O_laws_eqMemS_29).X ⊕ (Z_laws_eqMemS_29).X)) :=
  bif (ltb v2 (v0.length : Int)) then
    bif (inb v2 v0.length) then
      bif (inb v2 v1.length) then
        let r2 := n_laws_eqMem ((nth v0 v2 ([], [], false, [])).1, ((nth v0 v2 ([], [], false, [])).2).1, (((nth v0 v2 ([], [], false, [])).2).2)) ((nth v1 v2 ([], [], false, [])).1, ((nth v1 v2 ([], [], false, [])).2).1, (((nth v1 v2 ([], [], false, [])).2).2))
        bif (!r2) then
          some (.inr (.inr (((false, ()), ()), (), ())))
        else
          some (.inl (((v0, ()), (v1, ()), ((IntKind.i64.wrap (v2 + 1)), ()), ()), (), ()))
      else none
    else none
  else
    some (.inr (.inl ((), (), ())))
noncomputable def stx_laws_eqMemS_29 (x : (L_laws_eqMemS_29).X) := st_laws_eqMemS_29 x.1.1.1 x.1.2.1.1 x.1.2.2.1.1
def em_laws_eqMemS_29 (x : (S_laws_eqMemS_29).X) : (L_laws_eqMemS_29).X := (((x.1.1.1, ()), (x.1.2.1.1, ()), (0, ()), ()), (), ())
noncomputable def c_laws_eqMemS_29 : Code := (subN B_laws_eqMemS 64 116).getD .skip
theorem a_laws_eqMemS_29 : subN B_laws_eqMemS 64 29 = some (.block 0 (.loop c_laws_eqMemS_29)) := by kernel_rfl
theorem r_laws_eqMemS_29 (x : (L_laws_eqMemS_29).X) : roundT ⟨E_laws_eqMemS, 27, D_laws_eqMemS_0⟩ 0 c_laws_eqMemS_29 116 L_laws_eqMemS_29 O_laws_eqMemS_29 Z_laws_eqMemS_29 x = stx_laws_eqMemS_29 x := by kernel_rfl
def fu_laws_eqMemS_29 (x : (S_laws_eqMemS_29).X) : Nat := 18446744073709551616
noncomputable def F_laws_eqMemS_29 (x : (S_laws_eqMemS_29).X) : Option ((O_laws_eqMemS_29).X ⊕ (Z_laws_eqMemS_29).X) := loopN stx_laws_eqMemS_29 (fu_laws_eqMemS_29 x) (em_laws_eqMemS_29 x)
noncomputable def sg_laws_eqMemS_29 : Seg := ⟨S_laws_eqMemS_29, O_laws_eqMemS_29, Z_laws_eqMemS_29, F_laws_eqMemS_29⟩
noncomputable def D_laws_eqMemS_1 : Nat → Option Seg := fun q => bif Nat.beq q 29 then some sg_laws_eqMemS_29 else D_laws_eqMemS_0 q
theorem fr_laws_eqMemS_1 : FrOk Try.prog ⟨E_laws_eqMemS, 27, D_laws_eqMemS_1⟩ B_laws_eqMemS := (fr_laws_eqMemS_0).loop (sg := sg_laws_eqMemS_29) L_laws_eqMemS_29 em_laws_eqMemS_29 (by decide) a_laws_eqMemS_29 stx_laws_eqMemS_29 fu_laws_eqMemS_29 (by decide) (fun _ => rfl) (fun x r _ h => h) r_laws_eqMemS_29
abbrev I_laws_eqMemS : List Par := [.rd tMs, .rd tMs]
abbrev U_laws_eqMemS : List OT := [⟨false, tB, .fz⟩]
noncomputable def raw_laws_eqMemS (a0 a1 : List dM) : Option (ResD U_laws_eqMemS × MutD I_laws_eqMemS) :=
  bif ((a0.length : Int) != (a1.length : Int)) then
    some ((false, ()), ())
  else
    segM (F_laws_eqMemS_29 (((a0, ()), (a1, ()), ((), ()), ()), (), ())) (fun y2 =>
      some ((true, ()), ())) (fun y2 =>
      some ((y2.1.1.1, ()), ()))
theorem e_laws_eqMemS (x : InD I_laws_eqMemS) : execF ⟨E_laws_eqMemS, 27, D_laws_eqMemS_1⟩ Try.f71.results.toList B_laws_eqMemS I_laws_eqMemS U_laws_eqMemS x = raw_laws_eqMemS x.1 x.2.1 := by kernel_rfl
theorem ok0_laws_eqMemS : ConOk Try.prog 71 ⟨I_laws_eqMemS, U_laws_eqMemS, fun x => raw_laws_eqMemS x.1 x.2.1⟩ := conOk_exec (fr_laws_eqMemS_1) Try.func71 (by kernel_rfl) (by kernel_rfl) Try.ntmps71.symm (by decide) (fun x r h => (e_laws_eqMemS x).trans h)
noncomputable def n_laws_eqMemS (a0 a1 : List (dM)) : Bool := decide (a0 = a1)
theorem nn_laws_eqMemS (a0 a1 : List (dM)) (hk : InOk I_laws_eqMemS (a0, a1, ())) : raw_laws_eqMemS a0 a1 = (fun n => some ((n, ()), ())) (n_laws_eqMemS a0 a1) := by
  have hb : a0.length * 80 ≤ 2 ^ 47 := hk.1.1
  unfold raw_laws_eqMemS n_laws_eqMemS
  by_cases h : a0.length = a1.length
  · have hl : F_laws_eqMemS_29 (((a0, ()), (a1, ()), ((), ()), ()), (), ()) = some (bif decide (a0 = a1) then .inl ((), (), ()) else .inr (((false, ()), ()), (), ())) :=
      loopN_eq (step := stx_laws_eqMemS_29) a0 a1 (([], [], false, []) : dM) (fun i => (((a0, ()), (a1, ()), ((i : Int), ()), ()), (), ())) n_laws_eqMem eqd_laws_eqMem _ _ h (fun i hi => by
        simp only [stx_laws_eqMemS_29, st_laws_eqMemS_29, inb_nat (h ▸ hi), inb_nat hi, nth_nat, Int.toNat_natCast, ltb_t (show (i : Int) < a0.length by omega), cond_true, wr (show -9223372036854775808 ≤ (i : Int) + 1 by omega) (by omega), Int.natCast_add, Int.natCast_one, pr_eta]
        cases n_laws_eqMem (a0.getD i ([], [], false, [])) (a1.getD i ([], [], false, [])) <;> rfl) (by simp only [stx_laws_eqMemS_29, st_laws_eqMemS_29, ltb_f (Int.le_refl _), cond_false]) _ (by show _ < 18446744073709551616; omega)
    rw [show ((a0.length : Int) != (a1.length : Int)) = false by simp [h], bif_f, hl]
    cases decide (a0 = a1) <;> rfl
  · rw [show ((a0.length : Int) != (a1.length : Int)) = true from bne_iff_ne.2 (by omega), bif_t, decide_eq_false (fun e => h (congrArg _ e))]
theorem eqd_laws_eqMemS (a0 a1 : List (dM)) : n_laws_eqMemS a0 a1 = decide (a0 = a1) := rfl
noncomputable def con_laws_eqMemS : Con := ⟨I_laws_eqMemS, U_laws_eqMemS, fun x => (fun n => some ((n, ()), ())) (n_laws_eqMemS x.1 x.2.1)⟩
theorem ok_laws_eqMemS : ConOk Try.prog 71 con_laws_eqMemS := (ok0_laws_eqMemS).mono (fun x r hk h => (nn_laws_eqMemS x.1 x.2.1 hk).trans h)
theorem eqr_laws_eqMemS (a : List dM) : n_laws_eqMemS a a = true := by rw [eqd_laws_eqMemS]; exact decide_eq_true rfl
end

/-! laws_eqEnt -/
section
noncomputable def B_laws_eqEnt : Code := (Try.f110.body).getD .skip
noncomputable def E_laws_eqEnt : Env := envOf TT [(145, con_laws_eqIntS)] []
theorem fr_laws_eqEnt_0 : FrOk Try.prog ⟨E_laws_eqEnt, 16, fun _ => none⟩ B_laws_eqEnt := frOk_base mixed tt_ok ⟨ok_laws_eqIntS, trivial⟩
noncomputable def D_laws_eqEnt_0 : Nat → Option Seg := fun _ => none
abbrev I_laws_eqEnt : List Par := [.rd tW, .rd tW]
abbrev U_laws_eqEnt : List OT := [⟨false, tB, .fz⟩]
noncomputable def raw_laws_eqEnt (a0 a1 : dW) : Option (ResD U_laws_eqEnt × MutD I_laws_eqEnt) :=
  bif (a0.1 != a1.1) then
    some ((false, ()), ())
  else
    let r1 := n_laws_eqIntS a0.2 a1.2
    bif (!r1) then
      some ((false, ()), ())
    else
      some ((true, ()), ())
theorem e_laws_eqEnt (x : InD I_laws_eqEnt) : execF ⟨E_laws_eqEnt, 16, D_laws_eqEnt_0⟩ Try.f110.results.toList B_laws_eqEnt I_laws_eqEnt U_laws_eqEnt x = raw_laws_eqEnt x.1 x.2.1 := by kernel_rfl
theorem ok0_laws_eqEnt : ConOk Try.prog 110 ⟨I_laws_eqEnt, U_laws_eqEnt, fun x => raw_laws_eqEnt x.1 x.2.1⟩ := conOk_exec (fr_laws_eqEnt_0) Try.func110 (by kernel_rfl) (by kernel_rfl) Try.ntmps110.symm (by decide) (fun x r h => (e_laws_eqEnt x).trans h)
noncomputable def n_laws_eqEnt (a0 a1 : dW) : Bool :=
  bif (a0.1 != a1.1) then
    false
  else
    let r1 := n_laws_eqIntS a0.2 a1.2
    bif (!r1) then
      false
    else
      true
noncomputable def con_laws_eqEnt : Con := ⟨I_laws_eqEnt, U_laws_eqEnt, fun x => (fun n => some ((n, ()), ())) (n_laws_eqEnt x.1 x.2.1)⟩
theorem nn_laws_eqEnt (a0 a1 : dW) : raw_laws_eqEnt a0 a1 = (fun n => some ((n, ()), ())) (n_laws_eqEnt a0 a1) := bif_ty (p := fun (n : Bool) => ((n, ()), ())) (bif_some (p := fun (n : Bool) => ((n, ()), ())) rfl (bif_some (p := fun (n : Bool) => ((n, ()), ())) rfl rfl))
theorem ok_laws_eqEnt : ConOk Try.prog 110 con_laws_eqEnt := (ok0_laws_eqEnt).mono (fun x r _ h => (nn_laws_eqEnt x.1 x.2.1).trans h)
theorem eqd_laws_eqEnt (a b : dW) : n_laws_eqEnt a b = decide (a = b) := by
  unfold n_laws_eqEnt
  simp only [eq_step1, eq_step2, eq_step3, eq_step4, eq_step5, eqd_laws_eqIntS, Prod.ext_iff, Bool.decide_and, Bool.and_true]
theorem eqr_laws_eqEnt (a : dW) : n_laws_eqEnt a a = true := by rw [eqd_laws_eqEnt]; exact decide_eq_true rfl
end

/-! laws_eqEntS -/
section
noncomputable def B_laws_eqEntS : Code := (Try.f72.body).getD .skip
noncomputable def E_laws_eqEntS : Env := envOf TT [(110, con_laws_eqEnt)] []
theorem fr_laws_eqEntS_0 : FrOk Try.prog ⟨E_laws_eqEntS, 27, fun _ => none⟩ B_laws_eqEntS := frOk_base mixed tt_ok ⟨ok_laws_eqEnt, trivial⟩
noncomputable def D_laws_eqEntS_0 : Nat → Option Seg := fun _ => none
def L_laws_eqEntS_29 : Shape := ⟨[(0, false, [.br tW]), (1, false, [.br tW]), (5, false, [.int .i64])], [], []⟩
def S_laws_eqEntS_29 : Shape := ⟨[(0, false, [.br tW]), (1, false, [.br tW]), (5, false, [.ci .i64 0])], [], []⟩
def O_laws_eqEntS_29 : Shape := ⟨[], [], []⟩
def Z_laws_eqEntS_29 : Shape := ⟨[(4, false, [.bool])], [], []⟩
noncomputable def st_laws_eqEntS_29 (v0 v1 : List dW) (v2 : Int) : Option ((L_laws_eqEntS_29).X ⊕ ((O_laws_eqEntS_29).X ⊕ (Z_laws_eqEntS_29).X)) :=
  bif (ltb v2 (v0.length : Int)) then
    bif (inb v2 v0.length) then
      bif (inb v2 v1.length) then
        let r2 := n_laws_eqEnt (nth v0 v2 (0, [])) (nth v1 v2 (0, []))
        bif (!r2) then
          some (.inr (.inr (((false, ()), ()), (), ())))
        else
          some (.inl (((v0, ()), (v1, ()), ((IntKind.i64.wrap (v2 + 1)), ()), ()), (), ()))
      else none
    else none
  else
    some (.inr (.inl ((), (), ())))
noncomputable def stx_laws_eqEntS_29 (x : (L_laws_eqEntS_29).X) := st_laws_eqEntS_29 x.1.1.1 x.1.2.1.1 x.1.2.2.1.1
def em_laws_eqEntS_29 (x : (S_laws_eqEntS_29).X) : (L_laws_eqEntS_29).X := (((x.1.1.1, ()), (x.1.2.1.1, ()), (0, ()), ()), (), ())
noncomputable def c_laws_eqEntS_29 : Code := (subN B_laws_eqEntS 64 116).getD .skip
theorem a_laws_eqEntS_29 : subN B_laws_eqEntS 64 29 = some (.block 0 (.loop c_laws_eqEntS_29)) := by kernel_rfl
theorem r_laws_eqEntS_29 (x : (L_laws_eqEntS_29).X) : roundT ⟨E_laws_eqEntS, 27, D_laws_eqEntS_0⟩ 0 c_laws_eqEntS_29 116 L_laws_eqEntS_29 O_laws_eqEntS_29 Z_laws_eqEntS_29 x = stx_laws_eqEntS_29 x := by kernel_rfl
def fu_laws_eqEntS_29 (x : (S_laws_eqEntS_29).X) : Nat := 18446744073709551616
noncomputable def F_laws_eqEntS_29 (x : (S_laws_eqEntS_29).X) : Option ((O_laws_eqEntS_29).X ⊕ (Z_laws_eqEntS_29).X) := loopN stx_laws_eqEntS_29 (fu_laws_eqEntS_29 x) (em_laws_eqEntS_29 x)
noncomputable def sg_laws_eqEntS_29 : Seg := ⟨S_laws_eqEntS_29, O_laws_eqEntS_29, Z_laws_eqEntS_29, F_laws_eqEntS_29⟩
noncomputable def D_laws_eqEntS_1 : Nat → Option Seg := fun q => bif Nat.beq q 29 then some sg_laws_eqEntS_29 else D_laws_eqEntS_0 q
theorem fr_laws_eqEntS_1 : FrOk Try.prog ⟨E_laws_eqEntS, 27, D_laws_eqEntS_1⟩ B_laws_eqEntS := (fr_laws_eqEntS_0).loop (sg := sg_laws_eqEntS_29) L_laws_eqEntS_29 em_laws_eqEntS_29 (by decide) a_laws_eqEntS_29 stx_laws_eqEntS_29 fu_laws_eqEntS_29 (by decide) (fun _ => rfl) (fun x r _ h => h) r_laws_eqEntS_29
abbrev I_laws_eqEntS : List Par := [.rd tWs, .rd tWs]
abbrev U_laws_eqEntS : List OT := [⟨false, tB, .fz⟩]
noncomputable def raw_laws_eqEntS (a0 a1 : List dW) : Option (ResD U_laws_eqEntS × MutD I_laws_eqEntS) :=
  bif ((a0.length : Int) != (a1.length : Int)) then
    some ((false, ()), ())
  else
    segM (F_laws_eqEntS_29 (((a0, ()), (a1, ()), ((), ()), ()), (), ())) (fun y2 =>
      some ((true, ()), ())) (fun y2 =>
      some ((y2.1.1.1, ()), ()))
theorem e_laws_eqEntS (x : InD I_laws_eqEntS) : execF ⟨E_laws_eqEntS, 27, D_laws_eqEntS_1⟩ Try.f72.results.toList B_laws_eqEntS I_laws_eqEntS U_laws_eqEntS x = raw_laws_eqEntS x.1 x.2.1 := by kernel_rfl
theorem ok0_laws_eqEntS : ConOk Try.prog 72 ⟨I_laws_eqEntS, U_laws_eqEntS, fun x => raw_laws_eqEntS x.1 x.2.1⟩ := conOk_exec (fr_laws_eqEntS_1) Try.func72 (by kernel_rfl) (by kernel_rfl) Try.ntmps72.symm (by decide) (fun x r h => (e_laws_eqEntS x).trans h)
noncomputable def n_laws_eqEntS (a0 a1 : List (dW)) : Bool := decide (a0 = a1)
theorem nn_laws_eqEntS (a0 a1 : List (dW)) (hk : InOk I_laws_eqEntS (a0, a1, ())) : raw_laws_eqEntS a0 a1 = (fun n => some ((n, ()), ())) (n_laws_eqEntS a0 a1) := by
  have hb : a0.length * 32 ≤ 2 ^ 47 := hk.1.1
  unfold raw_laws_eqEntS n_laws_eqEntS
  by_cases h : a0.length = a1.length
  · have hl : F_laws_eqEntS_29 (((a0, ()), (a1, ()), ((), ()), ()), (), ()) = some (bif decide (a0 = a1) then .inl ((), (), ()) else .inr (((false, ()), ()), (), ())) :=
      loopN_eq (step := stx_laws_eqEntS_29) a0 a1 ((0, []) : dW) (fun i => (((a0, ()), (a1, ()), ((i : Int), ()), ()), (), ())) n_laws_eqEnt eqd_laws_eqEnt _ _ h (fun i hi => by
        simp only [stx_laws_eqEntS_29, st_laws_eqEntS_29, inb_nat (h ▸ hi), inb_nat hi, nth_nat, Int.toNat_natCast, ltb_t (show (i : Int) < a0.length by omega), cond_true, wr (show -9223372036854775808 ≤ (i : Int) + 1 by omega) (by omega), Int.natCast_add, Int.natCast_one, pr_eta]
        cases n_laws_eqEnt (a0.getD i (0, [])) (a1.getD i (0, [])) <;> rfl) (by simp only [stx_laws_eqEntS_29, st_laws_eqEntS_29, ltb_f (Int.le_refl _), cond_false]) _ (by show _ < 18446744073709551616; omega)
    rw [show ((a0.length : Int) != (a1.length : Int)) = false by simp [h], bif_f, hl]
    cases decide (a0 = a1) <;> rfl
  · rw [show ((a0.length : Int) != (a1.length : Int)) = true from bne_iff_ne.2 (by omega), bif_t, decide_eq_false (fun e => h (congrArg _ e))]
theorem eqd_laws_eqEntS (a0 a1 : List (dW)) : n_laws_eqEntS a0 a1 = decide (a0 = a1) := rfl
noncomputable def con_laws_eqEntS : Con := ⟨I_laws_eqEntS, U_laws_eqEntS, fun x => (fun n => some ((n, ()), ())) (n_laws_eqEntS x.1 x.2.1)⟩
theorem ok_laws_eqEntS : ConOk Try.prog 72 con_laws_eqEntS := (ok0_laws_eqEntS).mono (fun x r hk h => (nn_laws_eqEntS x.1 x.2.1 hk).trans h)
theorem eqr_laws_eqEntS (a : List dW) : n_laws_eqEntS a a = true := by rw [eqd_laws_eqEntS]; exact decide_eq_true rfl
end

/-! laws_eqArr -/
section
noncomputable def B_laws_eqArr : Code := (Try.f30.body).getD .skip
noncomputable def E_laws_eqArr : Env := envOf TT [(70, con_laws_eqGeo), (71, con_laws_eqMemS), (72, con_laws_eqEntS)] []
theorem fr_laws_eqArr_0 : FrOk Try.prog ⟨E_laws_eqArr, 68, fun _ => none⟩ B_laws_eqArr := frOk_base mixed tt_ok ⟨ok_laws_eqGeo, ok_laws_eqMemS, ok_laws_eqEntS, trivial⟩
noncomputable def D_laws_eqArr_0 : Nat → Option Seg := fun _ => none
abbrev I_laws_eqArr : List Par := [.rd tA, .rd tA]
abbrev U_laws_eqArr : List OT := [⟨false, tB, .fz⟩]
noncomputable def raw_laws_eqArr (a0 a1 : dA) : Option (ResD U_laws_eqArr × MutD I_laws_eqArr) :=
  bif (a0.1 != a1.1) then
    some ((false, ()), ())
  else
    let r1 := n_laws_eqGeo a0.2.1 a1.2.1
    bif (!r1) then
      some ((false, ()), ())
    else
      let r2 := n_laws_eqMemS a0.2.2.1 a1.2.2.1
      bif (!r2) then
        some ((false, ()), ())
      else
        bif (a0.2.2.2.1 != a1.2.2.2.1) then
          some ((false, ()), ())
        else
          bif (a0.2.2.2.2.1 != a1.2.2.2.2.1) then
            some ((false, ()), ())
          else
            bif (a0.2.2.2.2.2.1 != a1.2.2.2.2.2.1) then
              some ((false, ()), ())
            else
              bif (a0.2.2.2.2.2.2.1 != a1.2.2.2.2.2.2.1) then
                some ((false, ()), ())
              else
                bif (a0.2.2.2.2.2.2.2.1 != a1.2.2.2.2.2.2.2.1) then
                  some ((false, ()), ())
                else
                  let r3 := n_laws_eqEntS a0.2.2.2.2.2.2.2.2.1 a1.2.2.2.2.2.2.2.2.1
                  bif (!r3) then
                    some ((false, ()), ())
                  else
                    bif (a0.2.2.2.2.2.2.2.2.2.1 != a1.2.2.2.2.2.2.2.2.2.1) then
                      some ((false, ()), ())
                    else
                      bif (!(a0.2.2.2.2.2.2.2.2.2.2.1 == a1.2.2.2.2.2.2.2.2.2.2.1)) then
                        some ((false, ()), ())
                      else
                        bif (!(a0.2.2.2.2.2.2.2.2.2.2.2 == a1.2.2.2.2.2.2.2.2.2.2.2)) then
                          some ((false, ()), ())
                        else
                          some ((true, ()), ())
theorem e_laws_eqArr (x : InD I_laws_eqArr) : execF ⟨E_laws_eqArr, 68, D_laws_eqArr_0⟩ Try.f30.results.toList B_laws_eqArr I_laws_eqArr U_laws_eqArr x = raw_laws_eqArr x.1 x.2.1 := by kernel_rfl
theorem ok0_laws_eqArr : ConOk Try.prog 30 ⟨I_laws_eqArr, U_laws_eqArr, fun x => raw_laws_eqArr x.1 x.2.1⟩ := conOk_exec (fr_laws_eqArr_0) Try.func30 (by kernel_rfl) (by kernel_rfl) Try.ntmps30.symm (by decide) (fun x r h => (e_laws_eqArr x).trans h)
noncomputable def n_laws_eqArr (a0 a1 : dA) : Bool :=
  bif (a0.1 != a1.1) then
    false
  else
    let r1 := n_laws_eqGeo a0.2.1 a1.2.1
    bif (!r1) then
      false
    else
      let r2 := n_laws_eqMemS a0.2.2.1 a1.2.2.1
      bif (!r2) then
        false
      else
        bif (a0.2.2.2.1 != a1.2.2.2.1) then
          false
        else
          bif (a0.2.2.2.2.1 != a1.2.2.2.2.1) then
            false
          else
            bif (a0.2.2.2.2.2.1 != a1.2.2.2.2.2.1) then
              false
            else
              bif (a0.2.2.2.2.2.2.1 != a1.2.2.2.2.2.2.1) then
                false
              else
                bif (a0.2.2.2.2.2.2.2.1 != a1.2.2.2.2.2.2.2.1) then
                  false
                else
                  let r3 := n_laws_eqEntS a0.2.2.2.2.2.2.2.2.1 a1.2.2.2.2.2.2.2.2.1
                  bif (!r3) then
                    false
                  else
                    bif (a0.2.2.2.2.2.2.2.2.2.1 != a1.2.2.2.2.2.2.2.2.2.1) then
                      false
                    else
                      bif (!(a0.2.2.2.2.2.2.2.2.2.2.1 == a1.2.2.2.2.2.2.2.2.2.2.1)) then
                        false
                      else
                        bif (!(a0.2.2.2.2.2.2.2.2.2.2.2 == a1.2.2.2.2.2.2.2.2.2.2.2)) then
                          false
                        else
                          true
noncomputable def con_laws_eqArr : Con := ⟨I_laws_eqArr, U_laws_eqArr, fun x => (fun n => some ((n, ()), ())) (n_laws_eqArr x.1 x.2.1)⟩
theorem nn_laws_eqArr (a0 a1 : dA) : raw_laws_eqArr a0 a1 = (fun n => some ((n, ()), ())) (n_laws_eqArr a0 a1) := bif_ty (p := fun (n : Bool) => ((n, ()), ())) (bif_some (p := fun (n : Bool) => ((n, ()), ())) rfl (bif_some (p := fun (n : Bool) => ((n, ()), ())) rfl (bif_some (p := fun (n : Bool) => ((n, ()), ())) rfl (bif_some (p := fun (n : Bool) => ((n, ()), ())) rfl (bif_some (p := fun (n : Bool) => ((n, ()), ())) rfl (bif_some (p := fun (n : Bool) => ((n, ()), ())) rfl (bif_some (p := fun (n : Bool) => ((n, ()), ())) rfl (bif_some (p := fun (n : Bool) => ((n, ()), ())) rfl (bif_some (p := fun (n : Bool) => ((n, ()), ())) rfl (bif_some (p := fun (n : Bool) => ((n, ()), ())) rfl (bif_some (p := fun (n : Bool) => ((n, ()), ())) rfl (bif_some (p := fun (n : Bool) => ((n, ()), ())) rfl rfl))))))))))))
theorem ok_laws_eqArr : ConOk Try.prog 30 con_laws_eqArr := (ok0_laws_eqArr).mono (fun x r _ h => (nn_laws_eqArr x.1 x.2.1).trans h)
theorem eqd_laws_eqArr (a b : dA) : n_laws_eqArr a b = decide (a = b) := by
  unfold n_laws_eqArr
  simp only [eq_step1, eq_step2, eq_step3, eq_step4, eq_step5, eqd_laws_eqGeo, eqd_laws_eqMemS, eqd_laws_eqEntS, Prod.ext_iff, Bool.decide_and, Bool.and_true]
theorem eqr_laws_eqArr (a : dA) : n_laws_eqArr a a = true := by rw [eqd_laws_eqArr]; exact decide_eq_true rfl
end

/-! laws_markIntS -/
section
noncomputable def B_laws_markIntS : Code := (Try.f113.body).getD .skip
noncomputable def E_laws_markIntS : Env := envOf TT [] []
theorem fr_laws_markIntS_0 : FrOk Try.prog ⟨E_laws_markIntS, 19, fun _ => none⟩ B_laws_markIntS := frOk_base mixed tt_ok trivial
noncomputable def D_laws_markIntS_0 : Nat → Option Seg := fun _ => none
def L_laws_markIntS_13 : Shape := ⟨[(0, false, [.at 1000001000]), (1, false, [.int .i64]), (5, false, [.int .i64])], [], [(1000001000, tI, .fz)]⟩
def S_laws_markIntS_13 : Shape := ⟨[(0, false, [.at 1000001000]), (1, false, [.int .i64]), (5, false, [.ci .i64 0])], [], [(1000001000, tI, .fz)]⟩
def O_laws_markIntS_13 : Shape := ⟨[(1, false, [.int .i64])], [], [(1000001000, tI, .fz)]⟩
def Z_laws_markIntS_13 : Shape := ⟨[], [], []⟩
noncomputable def st_laws_markIntS_13 (v0 v1 : Int) (v2 : List Int) : Option ((L_laws_markIntS_13).X ⊕ ((O_laws_markIntS_13).X ⊕ (Z_laws_markIntS_13).X)) :=
  bif (ltb v1 (v2.length : Int)) then
    bif (inb v1 v2.length) then
      some (.inl ((((), ()), ((IntKind.i64.wrap (v0 + 1)), ()), ((IntKind.i64.wrap (v1 + 1)), ()), ()), (), ((v2.set (v1).toNat v0), ())))
    else none
  else
    some (.inr (.inl (((v0, ()), ()), (), (v2, ()))))
noncomputable def stx_laws_markIntS_13 (x : (L_laws_markIntS_13).X) := st_laws_markIntS_13 x.1.2.1.1 x.1.2.2.1.1 x.2.2.1
def em_laws_markIntS_13 (x : (S_laws_markIntS_13).X) : (L_laws_markIntS_13).X := ((((), ()), (x.1.2.1.1, ()), (0, ()), ()), (), (x.2.2.1, ()))
noncomputable def c_laws_markIntS_13 : Code := (subN B_laws_markIntS 64 52).getD .skip
theorem a_laws_markIntS_13 : subN B_laws_markIntS 64 13 = some (.block 0 (.loop c_laws_markIntS_13)) := by kernel_rfl
theorem r_laws_markIntS_13 (x : (L_laws_markIntS_13).X) : roundT ⟨E_laws_markIntS, 19, D_laws_markIntS_0⟩ 0 c_laws_markIntS_13 52 L_laws_markIntS_13 O_laws_markIntS_13 Z_laws_markIntS_13 x = stx_laws_markIntS_13 x := by kernel_rfl
def fu_laws_markIntS_13 (x : (S_laws_markIntS_13).X) : Nat := 18446744073709551616
noncomputable def F_laws_markIntS_13 (x : (S_laws_markIntS_13).X) : Option ((O_laws_markIntS_13).X ⊕ (Z_laws_markIntS_13).X) := loopN stx_laws_markIntS_13 (fu_laws_markIntS_13 x) (em_laws_markIntS_13 x)
noncomputable def sg_laws_markIntS_13 : Seg := ⟨S_laws_markIntS_13, O_laws_markIntS_13, Z_laws_markIntS_13, F_laws_markIntS_13⟩
noncomputable def D_laws_markIntS_1 : Nat → Option Seg := fun q => bif Nat.beq q 13 then some sg_laws_markIntS_13 else D_laws_markIntS_0 q
theorem fr_laws_markIntS_1 : FrOk Try.prog ⟨E_laws_markIntS, 19, D_laws_markIntS_1⟩ B_laws_markIntS := (fr_laws_markIntS_0).loop (sg := sg_laws_markIntS_13) L_laws_markIntS_13 em_laws_markIntS_13 (by decide) a_laws_markIntS_13 stx_laws_markIntS_13 fu_laws_markIntS_13 (by decide) (fun _ => rfl) (fun x r _ h => h) r_laws_markIntS_13
abbrev I_laws_markIntS : List Par := [.mt tL (.ow .fz), .rd tI]
abbrev U_laws_markIntS : List OT := [⟨false, tI, .fz⟩]
noncomputable def raw_laws_markIntS (a0 : List Int) (a1 : Int) : Option (ResD U_laws_markIntS × MutD I_laws_markIntS) :=
  segM (F_laws_markIntS_13 ((((), ()), (a1, ()), ((), ()), ()), (), (a0, ()))) (fun y0 =>
    some ((y0.1.1.1, ()), (y0.2.2.1, ()))) (fun y0 =>
    none)
theorem e_laws_markIntS (x : InD I_laws_markIntS) : execF ⟨E_laws_markIntS, 19, D_laws_markIntS_1⟩ Try.f113.results.toList B_laws_markIntS I_laws_markIntS U_laws_markIntS x = raw_laws_markIntS x.1 x.2.1 := by kernel_rfl
theorem ok0_laws_markIntS : ConOk Try.prog 113 ⟨I_laws_markIntS, U_laws_markIntS, fun x => raw_laws_markIntS x.1 x.2.1⟩ := conOk_exec (fr_laws_markIntS_1) Try.func113 (by kernel_rfl) (by kernel_rfl) Try.ntmps113.symm (by decide) (fun x r h => (e_laws_markIntS x).trans h)
/-- marks from k on -/
def marks (k : Int) : Nat → List Int
  | 0 => []
  | n + 1 => k :: marks (IntKind.i64.wrap (k + 1)) n
def markEnd (k : Int) : Nat → Int
  | 0 => k
  | n + 1 => markEnd (IntKind.i64.wrap (k + 1)) n
theorem marks_len : ∀ (n : Nat) (k : Int), (marks k n).length = n
  | 0, _ => rfl
  | n + 1, k => by simp [marks, marks_len n]
theorem marks_snoc : ∀ (n : Nat) (k : Int), marks k (n + 1) = marks k n ++ [markEnd k n]
  | 0, _ => rfl
  | n + 1, k => by rw [marks, marks_snoc n]; rfl
theorem markEnd_succ : ∀ (n : Nat) (k : Int), markEnd k (n + 1) = IntKind.i64.wrap (markEnd k n + 1)
  | 0, _ => rfl
  | n + 1, k => by rw [markEnd, markEnd_succ n]; rfl
noncomputable def n_laws_markIntS (a0 : List Int) (a1 : Int) : Int × List Int := (markEnd a1 a0.length, marks a1 a0.length)
theorem nn_laws_markIntS (a0 : List Int) (a1 : Int) (hk : InOk I_laws_markIntS (a0, a1, ())) : raw_laws_markIntS a0 a1 = (fun n => some ((n.1, ()), (n.2, ()))) (n_laws_markIntS a0 a1) := by
  have hb : a0.length * 8 ≤ 2 ^ 47 := hk.1.1
  have hs : ∀ i, i < a0.length → (marks a1 i ++ a0.drop i).set i (markEnd a1 i) = marks a1 (i + 1) ++ a0.drop (i + 1) := fun i hi => by
    rw [List.set_append_right _ _ (by rw [marks_len]; exact Nat.le_refl _), marks_len, Nat.sub_self, marks_snoc, List.append_assoc, List.drop_eq_getElem_cons hi]; rfl
  have hl : F_laws_markIntS_13 ((((), ()), (a1, ()), ((), ()), ()), (), (a0, ())) = some (.inl (((markEnd a1 a0.length, ()), ()), (), (marks a1 a0.length ++ a0.drop a0.length, ()))) :=
    loopN_up (step := stx_laws_markIntS_13) (fun i => ((((), ()), (markEnd a1 i, ()), ((i : Int), ()), ()), (), (marks a1 i ++ a0.drop i, ()))) a0.length _ (fun i hi => by
      have hL : (marks a1 i ++ a0.drop i).length = a0.length := by rw [List.length_append, marks_len, List.length_drop]; omega
      simp only [stx_laws_markIntS_13, st_laws_markIntS_13, hL, inb_nat hi, ltb_t (show (i : Int) < a0.length by omega), cond_true, wr (show -9223372036854775808 ≤ (i : Int) + 1 by omega) (by omega), Int.natCast_add, Int.natCast_one, markEnd_succ, Int.toNat_natCast, hs i hi]) (by
      have hL : (marks a1 a0.length ++ a0.drop a0.length).length = a0.length := by rw [List.length_append, marks_len, List.length_drop]; omega
      simp only [stx_laws_markIntS_13, st_laws_markIntS_13, hL, ltb_f (Int.le_refl _), cond_false]) _ (by show _ < 18446744073709551616; omega)
  rw [List.drop_length, List.append_nil] at hl
  unfold raw_laws_markIntS
  rw [hl]
  rfl
noncomputable def con_laws_markIntS : Con := ⟨I_laws_markIntS, U_laws_markIntS, fun x => (fun n => some ((n.1, ()), (n.2, ()))) (n_laws_markIntS x.1 x.2.1)⟩
theorem ok_laws_markIntS : ConOk Try.prog 113 con_laws_markIntS := (ok0_laws_markIntS).mono (fun x r hk h => (nn_laws_markIntS x.1 x.2.1 hk).trans h)
theorem markEnd_eq : ∀ (n : Nat) (k : Int), 0 ≤ k → k + n ≤ 9223372036854775807 → markEnd k n = k + n
  | 0, k, _, _ => by simp [markEnd]
  | n + 1, k, h, h2 => by
    rw [markEnd, wr (by omega) (by omega), markEnd_eq n (k + 1) (by omega) (by omega)]; omega
theorem markEnd_nn {n : Nat} (h : n ≤ 4611686018427387903) : ¬ markEnd 1 n < 0 := by rw [markEnd_eq n 1 (by omega) (by omega)]; omega
theorem dmark {n : Nat} (h : n ≤ 4611686018427387903) : ltb (markEnd 1 n) 0 = false := ltb_f (Int.not_lt.1 (markEnd_nn h))
end

/-! laws_markIntSS -/
section
noncomputable def B_laws_markIntSS : Code := (Try.f111.body).getD .skip
noncomputable def E_laws_markIntSS : Env := envOf TT [(113, con_laws_markIntS)] []
theorem fr_laws_markIntSS_0 : FrOk Try.prog ⟨E_laws_markIntSS, 19, fun _ => none⟩ B_laws_markIntSS := frOk_base mixed tt_ok ⟨ok_laws_markIntS, trivial⟩
noncomputable def D_laws_markIntSS_0 : Nat → Option Seg := fun _ => none
def L_laws_markIntSS_13 : Shape := ⟨[(0, false, [.at 1000001000]), (1, false, [.int .i64]), (5, false, [.int .i64])], [], [(1000001000, tL, (.ow .fz))]⟩
def S_laws_markIntSS_13 : Shape := ⟨[(0, false, [.at 1000001000]), (1, false, [.int .i64]), (5, false, [.ci .i64 0])], [], [(1000001000, tL, (.ow .fz))]⟩
def O_laws_markIntSS_13 : Shape := ⟨[(1, false, [.int .i64])], [], [(1000001000, tL, (.ow .fz))]⟩
def Z_laws_markIntSS_13 : Shape := ⟨[], [], []⟩
noncomputable def st_laws_markIntSS_13 (v0 v1 : Int) (v2 : List (List Int)) : Option ((L_laws_markIntSS_13).X ⊕ ((O_laws_markIntSS_13).X ⊕ (Z_laws_markIntSS_13).X)) :=
  bif (ltb v1 (v2.length : Int)) then
    bif (inb v1 v2.length) then
      let r4 := n_laws_markIntS (nth v2 v1 []) v0
      some (.inl ((((), ()), (r4.1, ()), ((IntKind.i64.wrap (v1 + 1)), ()), ()), (), ((v2.set (v1).toNat r4.2), ())))
    else none
  else
    some (.inr (.inl (((v0, ()), ()), (), (v2, ()))))
noncomputable def stx_laws_markIntSS_13 (x : (L_laws_markIntSS_13).X) := st_laws_markIntSS_13 x.1.2.1.1 x.1.2.2.1.1 x.2.2.1
def em_laws_markIntSS_13 (x : (S_laws_markIntSS_13).X) : (L_laws_markIntSS_13).X := ((((), ()), (x.1.2.1.1, ()), (0, ()), ()), (), (x.2.2.1, ()))
noncomputable def c_laws_markIntSS_13 : Code := (subN B_laws_markIntSS 64 52).getD .skip
theorem a_laws_markIntSS_13 : subN B_laws_markIntSS 64 13 = some (.block 0 (.loop c_laws_markIntSS_13)) := by kernel_rfl
theorem r_laws_markIntSS_13 (x : (L_laws_markIntSS_13).X) : roundT ⟨E_laws_markIntSS, 19, D_laws_markIntSS_0⟩ 0 c_laws_markIntSS_13 52 L_laws_markIntSS_13 O_laws_markIntSS_13 Z_laws_markIntSS_13 x = stx_laws_markIntSS_13 x := by kernel_rfl
def fu_laws_markIntSS_13 (x : (S_laws_markIntSS_13).X) : Nat := 18446744073709551616
noncomputable def F_laws_markIntSS_13 (x : (S_laws_markIntSS_13).X) : Option ((O_laws_markIntSS_13).X ⊕ (Z_laws_markIntSS_13).X) := loopN stx_laws_markIntSS_13 (fu_laws_markIntSS_13 x) (em_laws_markIntSS_13 x)
noncomputable def sg_laws_markIntSS_13 : Seg := ⟨S_laws_markIntSS_13, O_laws_markIntSS_13, Z_laws_markIntSS_13, F_laws_markIntSS_13⟩
noncomputable def D_laws_markIntSS_1 : Nat → Option Seg := fun q => bif Nat.beq q 13 then some sg_laws_markIntSS_13 else D_laws_markIntSS_0 q
theorem fr_laws_markIntSS_1 : FrOk Try.prog ⟨E_laws_markIntSS, 19, D_laws_markIntSS_1⟩ B_laws_markIntSS := (fr_laws_markIntSS_0).loop (sg := sg_laws_markIntSS_13) L_laws_markIntSS_13 em_laws_markIntSS_13 (by decide) a_laws_markIntSS_13 stx_laws_markIntSS_13 fu_laws_markIntSS_13 (by decide) (fun _ => rfl) (fun x r _ h => h) r_laws_markIntSS_13
abbrev I_laws_markIntSS : List Par := [.mt tLL (.ow (.ow .fz)), .rd tI]
abbrev U_laws_markIntSS : List OT := [⟨false, tI, .fz⟩]
noncomputable def raw_laws_markIntSS (a0 : List (List Int)) (a1 : Int) : Option (ResD U_laws_markIntSS × MutD I_laws_markIntSS) :=
  segM (F_laws_markIntSS_13 ((((), ()), (a1, ()), ((), ()), ()), (), (a0, ()))) (fun y4 =>
    some ((y4.1.1.1, ()), (y4.2.2.1, ()))) (fun y4 =>
    none)
theorem e_laws_markIntSS (x : InD I_laws_markIntSS) : execF ⟨E_laws_markIntSS, 19, D_laws_markIntSS_1⟩ Try.f111.results.toList B_laws_markIntSS I_laws_markIntSS U_laws_markIntSS x = raw_laws_markIntSS x.1 x.2.1 := by kernel_rfl
theorem ok0_laws_markIntSS : ConOk Try.prog 111 ⟨I_laws_markIntSS, U_laws_markIntSS, fun x => raw_laws_markIntSS x.1 x.2.1⟩ := conOk_exec (fr_laws_markIntSS_1) Try.func111 (by kernel_rfl) (by kernel_rfl) Try.ntmps111.symm (by decide) (fun x r h => (e_laws_markIntSS x).trans h)
noncomputable def u_IntS (x : List Int) (k : Int) : Int × List Int := n_laws_markIntS x k
noncomputable def n_laws_markIntSS (a0 : List (List Int)) (a1 : Int) : Int × List (List Int) := markL u_IntS a0 a1
theorem nn_laws_markIntSS (a0 : List (List Int)) (a1 : Int) (hk : InOk I_laws_markIntSS (a0, a1, ())) : raw_laws_markIntSS a0 a1 = (fun n => some ((n.1, ()), (n.2, ()))) (n_laws_markIntSS a0 a1) := by
  have hb : a0.length * 24 ≤ 2 ^ 47 := hk.1.1
  have hl : F_laws_markIntSS_13 ((((), ()), (a1, ()), ((), ()), ()), (), (a0, ())) = some (.inl ((((markL u_IntS a0 a1).1, ()), ()), (), ((markL u_IntS a0 a1).2, ()))) :=
    loopN_mark (step := stx_laws_markIntSS_13) a0 ([] : List Int) (fun i k m => ((((), ()), (k, ()), ((i : Int), ()), ()), (), (m, ()))) u_IntS (fun k m => .inl (((k, ()), ()), (), (m, ()))) (fun i s m hi hm => by
      simp only [stx_laws_markIntSS_13, st_laws_markIntSS_13, ltb_t (show (i : Int) < m.length by omega), List.length_set, inb_nat hi, Int.toNat_natCast, List.set_set, cond_true, nth_set hi, wr (show -9223372036854775808 ≤ (i : Int) + 1 by omega) (by omega), Int.natCast_add, Int.natCast_one, nth_nat]
      rfl) (fun s m hm => by simp only [stx_laws_markIntSS_13, st_laws_markIntSS_13, hm, ltb_f (Int.le_refl _), cond_false]) a1 _ (by show _ < 18446744073709551616; omega)
  unfold raw_laws_markIntSS n_laws_markIntSS
  rw [hl]; rfl
noncomputable def con_laws_markIntSS : Con := ⟨I_laws_markIntSS, U_laws_markIntSS, fun x => (fun n => some ((n.1, ()), (n.2, ()))) (n_laws_markIntSS x.1 x.2.1)⟩
theorem ok_laws_markIntSS : ConOk Try.prog 111 con_laws_markIntSS := (ok0_laws_markIntSS).mono (fun x r hk h => (nn_laws_markIntSS x.1 x.2.1 hk).trans h)
end
end Go.Tf
