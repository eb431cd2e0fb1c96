/- Functions of the program, and what they come to. -/
import Derived.Test.YtmamkjioahnecabExactGetBlockF14
namespace Go.Tf
open Go.Proofs
set_option synthInstance.maxHeartbeats 400000
set_option synthInstance.maxSize 10000
set_option linter.unusedVariables false
set_option linter.unusedSimpArgs false
set_option maxRecDepth 100000
/-! laws_eqEnt -/
section
noncomputable def B_laws_eqEnt : Code := (Try.f63.body).getD .skip
noncomputable def E_laws_eqEnt : Env := envOf TT [(104, con_laws_eqIntS)] []
theorem fr_laws_eqEnt_0 : FrOk Try.prog ⟨E_laws_eqEnt, 16, fun _ => none⟩ B_laws_eqEnt := frOk_base mixed tt_ok ⟨ok_laws_eqIntS, trivial⟩
noncomputable def D_laws_eqEnt_0 : Nat → Option Seg := fun _ => none
abbrev I_laws_eqEnt : List Par := [.rd tW, .rd tW]
abbrev U_laws_eqEnt : List OT := [⟨false, tB, .fz⟩]
noncomputable def raw_laws_eqEnt (a0 : dW) (a1 : dW) : Option (ResD U_laws_eqEnt × MutD I_laws_eqEnt) :=
  bif (a0.1 != a1.1) then
    some ((false, ()), ())
  else
    let r1 := n_laws_eqIntS a0.2 a1.2
    bif (!r1) then
      some ((false, ()), ())
    else
      some ((true, ()), ())
theorem e_laws_eqEnt (x : InD I_laws_eqEnt) : execF ⟨E_laws_eqEnt, 16, D_laws_eqEnt_0⟩ Try.f63.results.toList B_laws_eqEnt I_laws_eqEnt U_laws_eqEnt x = raw_laws_eqEnt x.1 x.2.1 := by kernel_rfl
theorem ok0_laws_eqEnt : ConOk Try.prog 63 ⟨I_laws_eqEnt, U_laws_eqEnt, fun x => raw_laws_eqEnt x.1 x.2.1⟩ := conOk_exec (fr_laws_eqEnt_0) Try.func63 (by kernel_rfl) (by kernel_rfl) Try.ntmps63.symm (by decide) (fun x r h => (e_laws_eqEnt x).trans h)
noncomputable def n_laws_eqEnt (a0 : dW) (a1 : dW) : Bool :=
  bif (a0.1 != a1.1) then
    false
  else
    let r1 := n_laws_eqIntS a0.2 a1.2
    bif (!r1) then
      false
    else
      true
noncomputable def con_laws_eqEnt : Con := ⟨I_laws_eqEnt, U_laws_eqEnt, fun x => (fun n => some ((n, ()), ())) (n_laws_eqEnt x.1 x.2.1)⟩
theorem nn_laws_eqEnt (a0 : dW) (a1 : dW) : raw_laws_eqEnt a0 a1 = (fun n => some ((n, ()), ())) (n_laws_eqEnt a0 a1) := bif_ty (p := fun (n : Bool) => ((n, ()), ())) (bif_some (p := fun (n : Bool) => ((n, ()), ())) rfl (bif_some (p := fun (n : Bool) => ((n, ()), ())) rfl rfl))
theorem ok_laws_eqEnt : ConOk Try.prog 63 con_laws_eqEnt := (ok0_laws_eqEnt).mono (fun x r _ h => (nn_laws_eqEnt x.1 x.2.1).trans h)
theorem eqd_laws_eqEnt (a b : dW) : n_laws_eqEnt a b = decide (a = b) := by
  unfold n_laws_eqEnt
  simp only [eq_step1, eq_step2, eq_step3, eq_step4, eq_step5, eqd_laws_eqIntS, Prod.ext_iff, Bool.decide_and, Bool.and_true]
theorem eqr_laws_eqEnt (a : dW) : n_laws_eqEnt a a = true := by rw [eqd_laws_eqEnt]; exact decide_eq_true rfl
end

/-! laws_eqEntS -/
section
noncomputable def B_laws_eqEntS : Code := (Try.f32.body).getD .skip
noncomputable def E_laws_eqEntS : Env := envOf TT [(63, con_laws_eqEnt)] []
theorem fr_laws_eqEntS_0 : FrOk Try.prog ⟨E_laws_eqEntS, 27, fun _ => none⟩ B_laws_eqEntS := frOk_base mixed tt_ok ⟨ok_laws_eqEnt, trivial⟩
noncomputable def D_laws_eqEntS_0 : Nat → Option Seg := fun _ => none
def L_laws_eqEntS_29 : Shape := ⟨[(0, false, [.br tW]), (1, false, [.br tW]), (5, false, [.int .i64])], [], []⟩
def S_laws_eqEntS_29 : Shape := ⟨[(0, false, [.br tW]), (1, false, [.br tW]), (5, false, [.ci .i64 0])], [], []⟩
def O_laws_eqEntS_29 : Shape := ⟨[], [], []⟩
def Z_laws_eqEntS_29 : Shape := ⟨[(4, false, [.bool])], [], []⟩
noncomputable def st_laws_eqEntS_29 (v0 : List dW) (v1 : List dW) (v2 : Int) : Option ((L_laws_eqEntS_29).X ⊕ ((O_laws_eqEntS_29).X ⊕ (Z_laws_eqEntS_29).X)) :=
  bif (ltb v2 (v0.length : Int)) then
    bif (inb v2 v0.length) then
      bif (inb v2 v1.length) then
        let r2 := n_laws_eqEnt (nth v0 v2 (0, [])) (nth v1 v2 (0, []))
        bif (!r2) then
          some (.inr (.inr (((false, ()), ()), (), ())))
        else
          some (.inl (((v0, ()), (v1, ()), ((IntKind.i64.wrap (v2 + 1)), ()), ()), (), ()))
      else none
    else none
  else
    some (.inr (.inl ((), (), ())))
noncomputable def stx_laws_eqEntS_29 (x : (L_laws_eqEntS_29).X) := st_laws_eqEntS_29 x.1.1.1 x.1.2.1.1 x.1.2.2.1.1
def em_laws_eqEntS_29 (x : (S_laws_eqEntS_29).X) : (L_laws_eqEntS_29).X := (((x.1.1.1, ()), (x.1.2.1.1, ()), (0, ()), ()), (), ())
noncomputable def c_laws_eqEntS_29 : Code := (subN B_laws_eqEntS 64 116).getD .skip
theorem a_laws_eqEntS_29 : subN B_laws_eqEntS 64 29 = some (.block 0 (.loop c_laws_eqEntS_29)) := by kernel_rfl
theorem r_laws_eqEntS_29 (x : (L_laws_eqEntS_29).X) : roundT ⟨E_laws_eqEntS, 27, D_laws_eqEntS_0⟩ 0 c_laws_eqEntS_29 116 L_laws_eqEntS_29 O_laws_eqEntS_29 Z_laws_eqEntS_29 x = stx_laws_eqEntS_29 x := by kernel_rfl
noncomputable def fu_laws_eqEntS_29 (x : (S_laws_eqEntS_29).X) : Nat := (fun (u0 : List dW) (u1 : List dW) => 18446744073709551616) x.1.1.1 x.1.2.1.1
noncomputable def F_laws_eqEntS_29 (x : (S_laws_eqEntS_29).X) : Option ((O_laws_eqEntS_29).X ⊕ (Z_laws_eqEntS_29).X) := loopN stx_laws_eqEntS_29 (fu_laws_eqEntS_29 x) (em_laws_eqEntS_29 x)
noncomputable def sg_laws_eqEntS_29 : Seg := ⟨S_laws_eqEntS_29, O_laws_eqEntS_29, Z_laws_eqEntS_29, F_laws_eqEntS_29⟩
noncomputable def D_laws_eqEntS_1 : Nat → Option Seg := fun q => bif Nat.beq q 29 then some sg_laws_eqEntS_29 else D_laws_eqEntS_0 q
theorem fr_laws_eqEntS_1 : FrOk Try.prog ⟨E_laws_eqEntS, 27, D_laws_eqEntS_1⟩ B_laws_eqEntS := (fr_laws_eqEntS_0).loop (sg := sg_laws_eqEntS_29) L_laws_eqEntS_29 em_laws_eqEntS_29 (by decide) a_laws_eqEntS_29 stx_laws_eqEntS_29 fu_laws_eqEntS_29 (by decide) (fun _ => rfl) (fun x r _ h => h) r_laws_eqEntS_29
abbrev I_laws_eqEntS : List Par := [.rd tWs, .rd tWs]
abbrev U_laws_eqEntS : List OT := [⟨false, tB, .fz⟩]
noncomputable def raw_laws_eqEntS (a0 : List dW) (a1 : List dW) : Option (ResD U_laws_eqEntS × MutD I_laws_eqEntS) :=
  bif ((a0.length : Int) != (a1.length : Int)) then
    some ((false, ()), ())
  else
    segM (F_laws_eqEntS_29 (((a0, ()), (a1, ()), ((), ()), ()), (), ())) (fun y2 =>
      some ((true, ()), ())) (fun y2 =>
      some ((y2.1.1.1, ()), ()))
theorem e_laws_eqEntS (x : InD I_laws_eqEntS) : execF ⟨E_laws_eqEntS, 27, D_laws_eqEntS_1⟩ Try.f32.results.toList B_laws_eqEntS I_laws_eqEntS U_laws_eqEntS x = raw_laws_eqEntS x.1 x.2.1 := by kernel_rfl
theorem ok0_laws_eqEntS : ConOk Try.prog 32 ⟨I_laws_eqEntS, U_laws_eqEntS, fun x => raw_laws_eqEntS x.1 x.2.1⟩ := conOk_exec (fr_laws_eqEntS_1) Try.func32 (by kernel_rfl) (by kernel_rfl) Try.ntmps32.symm (by decide) (fun x r h => (e_laws_eqEntS x).trans h)
noncomputable def n_laws_eqEntS (a0 a1 : List (dW)) : Bool := decide (a0 = a1)
theorem nn_laws_eqEntS (a0 a1 : List (dW)) (hk : InOk I_laws_eqEntS (a0, a1, ())) : raw_laws_eqEntS a0 a1 = (fun n => some ((n, ()), ())) (n_laws_eqEntS a0 a1) := by
  have hb : a0.length * 32 ≤ 2 ^ 47 := hk.1.1
  unfold raw_laws_eqEntS n_laws_eqEntS
  by_cases h : a0.length = a1.length
  · have hl : F_laws_eqEntS_29 (((a0, ()), (a1, ()), ((), ()), ()), (), ()) = some (bif decide (a0 = a1) then .inl ((), (), ()) else .inr (((false, ()), ()), (), ())) :=
      loopN_eq (step := stx_laws_eqEntS_29) a0 a1 ((0, []) : dW) (fun i => (((a0, ()), (a1, ()), ((i : Int), ()), ()), (), ())) n_laws_eqEnt eqd_laws_eqEnt _ _ h (fun i hi => by
        simp only [stx_laws_eqEntS_29, st_laws_eqEntS_29, inb_nat (h ▸ hi), inb_nat hi, nth_nat, Int.toNat_natCast, ltb_t (show (i : Int) < a0.length by omega), cond_true, wr (show -9223372036854775808 ≤ (i : Int) + 1 by omega) (by omega), Int.natCast_add, Int.natCast_one, pr_eta]
        cases n_laws_eqEnt (a0.getD i (0, [])) (a1.getD i (0, [])) <;> rfl) (by simp only [stx_laws_eqEntS_29, st_laws_eqEntS_29, ltb_f (Int.le_refl _), cond_false]) _ (by show _ < 18446744073709551616; omega)
    rw [show ((a0.length : Int) != (a1.length : Int)) = false by simp [h], bif_f, hl]
    cases decide (a0 = a1) <;> rfl
  · rw [show ((a0.length : Int) != (a1.length : Int)) = true from bne_iff_ne.2 (by omega), bif_t, decide_eq_false (fun e => h (congrArg _ e))]
theorem eqd_laws_eqEntS (a0 a1 : List (dW)) : n_laws_eqEntS a0 a1 = decide (a0 = a1) := rfl
noncomputable def con_laws_eqEntS : Con := ⟨I_laws_eqEntS, U_laws_eqEntS, fun x => (fun n => some ((n, ()), ())) (n_laws_eqEntS x.1 x.2.1)⟩
theorem ok_laws_eqEntS : ConOk Try.prog 32 con_laws_eqEntS := (ok0_laws_eqEntS).mono (fun x r hk h => (nn_laws_eqEntS x.1 x.2.1 hk).trans h)
theorem eqr_laws_eqEntS (a : List dW) : n_laws_eqEntS a a = true := by rw [eqd_laws_eqEntS]; exact decide_eq_true rfl
end

/-! laws_eqArr -/
section
noncomputable def B_laws_eqArr : Code := (Try.f10.body).getD .skip
noncomputable def E_laws_eqArr : Env := envOf TT [(30, con_laws_eqGeo), (31, con_laws_eqMemS), (32, con_laws_eqEntS)] []
theorem fr_laws_eqArr_0 : FrOk Try.prog ⟨E_laws_eqArr, 68, fun _ => none⟩ B_laws_eqArr := frOk_base mixed tt_ok ⟨ok_laws_eqGeo, ok_laws_eqMemS, ok_laws_eqEntS, trivial⟩
noncomputable def D_laws_eqArr_0 : Nat → Option Seg := fun _ => none
abbrev I_laws_eqArr : List Par := [.rd tA, .rd tA]
abbrev U_laws_eqArr : List OT := [⟨false, tB, .fz⟩]
noncomputable def raw_laws_eqArr (a0 : dA) (a1 : dA) : Option (ResD U_laws_eqArr × MutD I_laws_eqArr) :=
  bif (a0.1 != a1.1) then
    some ((false, ()), ())
  else
    let r1 := n_laws_eqGeo a0.2.1 a1.2.1
    bif (!r1) then
      some ((false, ()), ())
    else
      let r2 := n_laws_eqMemS a0.2.2.1 a1.2.2.1
      bif (!r2) then
        some ((false, ()), ())
      else
        bif (a0.2.2.2.1 != a1.2.2.2.1) then
          some ((false, ()), ())
        else
          bif (a0.2.2.2.2.1 != a1.2.2.2.2.1) then
            some ((false, ()), ())
          else
            bif (a0.2.2.2.2.2.1 != a1.2.2.2.2.2.1) then
              some ((false, ()), ())
            else
              bif (a0.2.2.2.2.2.2.1 != a1.2.2.2.2.2.2.1) then
                some ((false, ()), ())
              else
                bif (a0.2.2.2.2.2.2.2.1 != a1.2.2.2.2.2.2.2.1) then
                  some ((false, ()), ())
                else
                  let r3 := n_laws_eqEntS a0.2.2.2.2.2.2.2.2.1 a1.2.2.2.2.2.2.2.2.1
                  bif (!r3) then
                    some ((false, ()), ())
                  else
                    bif (a0.2.2.2.2.2.2.2.2.2.1 != a1.2.2.2.2.2.2.2.2.2.1) then
                      some ((false, ()), ())
                    else
                      bif (!(a0.2.2.2.2.2.2.2.2.2.2.1 == a1.2.2.2.2.2.2.2.2.2.2.1)) then
                        some ((false, ()), ())
                      else
                        bif (!(a0.2.2.2.2.2.2.2.2.2.2.2 == a1.2.2.2.2.2.2.2.2.2.2.2)) then
                          some ((false, ()), ())
                        else
                          some ((true, ()), ())
theorem e_laws_eqArr (x : InD I_laws_eqArr) : execF ⟨E_laws_eqArr, 68, D_laws_eqArr_0⟩ Try.f10.results.toList B_laws_eqArr I_laws_eqArr U_laws_eqArr x = raw_laws_eqArr x.1 x.2.1 := by kernel_rfl
theorem ok0_laws_eqArr : ConOk Try.prog 10 ⟨I_laws_eqArr, U_laws_eqArr, fun x => raw_laws_eqArr x.1 x.2.1⟩ := conOk_exec (fr_laws_eqArr_0) Try.func10 (by kernel_rfl) (by kernel_rfl) Try.ntmps10.symm (by decide) (fun x r h => (e_laws_eqArr x).trans h)
noncomputable def n_laws_eqArr (a0 : dA) (a1 : dA) : Bool :=
  bif (a0.1 != a1.1) then
    false
  else
    let r1 := n_laws_eqGeo a0.2.1 a1.2.1
    bif (!r1) then
      false
    else
      let r2 := n_laws_eqMemS a0.2.2.1 a1.2.2.1
      bif (!r2) then
        false
      else
        bif (a0.2.2.2.1 != a1.2.2.2.1) then
          false
        else
          bif (a0.2.2.2.2.1 != a1.2.2.2.2.1) then
            false
          else
            bif (a0.2.2.2.2.2.1 != a1.2.2.2.2.2.1) then
              false
            else
              bif (a0.2.2.2.2.2.2.1 != a1.2.2.2.2.2.2.1) then
                false
              else
                bif (a0.2.2.2.2.2.2.2.1 != a1.2.2.2.2.2.2.2.1) then
                  false
                else
                  let r3 := n_laws_eqEntS a0.2.2.2.2.2.2.2.2.1 a1.2.2.2.2.2.2.2.2.1
                  bif (!r3) then
                    false
                  else
                    bif (a0.2.2.2.2.2.2.2.2.2.1 != a1.2.2.2.2.2.2.2.2.2.1) then
                      false
                    else
                      bif (!(a0.2.2.2.2.2.2.2.2.2.2.1 == a1.2.2.2.2.2.2.2.2.2.2.1)) then
                        false
                      else
                        bif (!(a0.2.2.2.2.2.2.2.2.2.2.2 == a1.2.2.2.2.2.2.2.2.2.2.2)) then
                          false
                        else
                          true
noncomputable def con_laws_eqArr : Con := ⟨I_laws_eqArr, U_laws_eqArr, fun x => (fun n => some ((n, ()), ())) (n_laws_eqArr x.1 x.2.1)⟩
theorem nn_laws_eqArr (a0 : dA) (a1 : dA) : raw_laws_eqArr a0 a1 = (fun n => some ((n, ()), ())) (n_laws_eqArr a0 a1) := bif_ty (p := fun (n : Bool) => ((n, ()), ())) (bif_some (p := fun (n : Bool) => ((n, ()), ())) rfl (bif_some (p := fun (n : Bool) => ((n, ()), ())) rfl (bif_some (p := fun (n : Bool) => ((n, ()), ())) rfl (bif_some (p := fun (n : Bool) => ((n, ()), ())) rfl (bif_some (p := fun (n : Bool) => ((n, ()), ())) rfl (bif_some (p := fun (n : Bool) => ((n, ()), ())) rfl (bif_some (p := fun (n : Bool) => ((n, ()), ())) rfl (bif_some (p := fun (n : Bool) => ((n, ()), ())) rfl (bif_some (p := fun (n : Bool) => ((n, ()), ())) rfl (bif_some (p := fun (n : Bool) => ((n, ()), ())) rfl (bif_some (p := fun (n : Bool) => ((n, ()), ())) rfl (bif_some (p := fun (n : Bool) => ((n, ()), ())) rfl rfl))))))))))))
theorem ok_laws_eqArr : ConOk Try.prog 10 con_laws_eqArr := (ok0_laws_eqArr).mono (fun x r _ h => (nn_laws_eqArr x.1 x.2.1).trans h)
theorem eqd_laws_eqArr (a b : dA) : n_laws_eqArr a b = decide (a = b) := by
  unfold n_laws_eqArr
  simp only [eq_step1, eq_step2, eq_step3, eq_step4, eq_step5, eqd_laws_eqGeo, eqd_laws_eqMemS, eqd_laws_eqEntS, Prod.ext_iff, Bool.decide_and, Bool.and_true]
theorem eqr_laws_eqArr (a : dA) : n_laws_eqArr a a = true := by rw [eqd_laws_eqArr]; exact decide_eq_true rfl
end

/-! laws_FnExactGetBlock -/
section
noncomputable def B_laws_FnExactGetBlock : Code := (Try.f3.body).getD .skip
noncomputable def E_laws_FnExactGetBlock : Env := envOf TT [(6, con_laws_szArr), (7, con_spec_GetBlock), (8, con_laws_toArr), (9, con_impl_GetBlock), (10, con_laws_eqArr)] []
theorem fr_laws_FnExactGetBlock_0 : FrOk Try.prog ⟨E_laws_FnExactGetBlock, 44, fun _ => none⟩ B_laws_FnExactGetBlock := frOk_base mixed tt_ok ⟨ok_laws_szArr, ok_spec_GetBlock, ok_laws_toArr, ok_impl_GetBlock, ok_laws_eqArr, trivial⟩
noncomputable def D_laws_FnExactGetBlock_0 : Nat → Option Seg := fun _ => none
abbrev I_laws_FnExactGetBlock : List Par := [.rd tA, .rd tI]
abbrev U_laws_FnExactGetBlock : List OT := [⟨false, tB, .fz⟩]
noncomputable def raw_laws_FnExactGetBlock (a0 : dA) (a1 : Int) : Option (ResD U_laws_FnExactGetBlock × MutD I_laws_FnExactGetBlock) :=
  let r1 := n_laws_szArr a0 1048576
  bif (ltb r1 0) then
    some ((true, ()), ())
  else
    let r2 := n_laws_toArr a0
    let r3 := n_spec_GetBlock r2 a1
    let r4 := n_laws_toArr a0
    let r5 := n_impl_GetBlock r4 a1
    bif (!(r5.1 != r3.1)) then
      bif (r5.2 != r3.2) then
        some ((false, ()), ())
      else
        let r6 := n_laws_toArr a0
        let r7 := n_laws_eqArr r4 r6
        bif (!r7) then
          some ((false, ()), ())
        else
          some ((true, ()), ())
    else
      some ((false, ()), ())
theorem e_laws_FnExactGetBlock (x : InD I_laws_FnExactGetBlock) : execF ⟨E_laws_FnExactGetBlock, 44, D_laws_FnExactGetBlock_0⟩ Try.f3.results.toList B_laws_FnExactGetBlock I_laws_FnExactGetBlock U_laws_FnExactGetBlock x = raw_laws_FnExactGetBlock x.1 x.2.1 := by kernel_rfl
theorem ok0_laws_FnExactGetBlock : ConOk Try.prog 3 ⟨I_laws_FnExactGetBlock, U_laws_FnExactGetBlock, fun x => raw_laws_FnExactGetBlock x.1 x.2.1⟩ := conOk_exec (fr_laws_FnExactGetBlock_0) Try.func3 (by kernel_rfl) (by kernel_rfl) Try.ntmps3.symm (by decide) (fun x r h => (e_laws_FnExactGetBlock x).trans h)
noncomputable def n_laws_FnExactGetBlock (a0 : dA) (a1 : Int) : Bool := true
theorem nn_laws_FnExactGetBlock (a0 : dA) (a1 : Int) (hk : InOk I_laws_FnExactGetBlock (a0, a1, ())) : raw_laws_FnExactGetBlock a0 a1 = (fun n => some ((n, ()), ())) (n_laws_FnExactGetBlock a0 a1) := by
  unfold raw_laws_FnExactGetBlock n_laws_FnExactGetBlock n_impl_GetBlock n_spec_GetBlock
  simp only [id_laws_toArr, bne_self_eq_false, Bool.not_true, Bool.not_false, cond_true, cond_false, eqr_laws_eqArr]
  cases ltb (n_laws_szArr a0 1048576) 0 <;> rfl
noncomputable def con_laws_FnExactGetBlock : Con := ⟨I_laws_FnExactGetBlock, U_laws_FnExactGetBlock, fun x => (fun n => some ((n, ()), ())) (n_laws_FnExactGetBlock x.1 x.2.1)⟩
theorem ok_laws_FnExactGetBlock : ConOk Try.prog 3 con_laws_FnExactGetBlock := (ok0_laws_FnExactGetBlock).mono (fun x r hk h => (nn_laws_FnExactGetBlock x.1 x.2.1 hk).trans h)
end
end Go.Tf
