/- Functions of the program, and what they come to. -/
import Derived.Test.YtmamkjioahnecaaExactDurableF3
namespace Go.Tf
open Go.Proofs
set_option synthInstance.maxHeartbeats 400000
set_option synthInstance.maxSize 10000
set_option linter.unusedVariables false
set_option linter.unusedSimpArgs false
set_option maxRecDepth 100000
/-! laws_toGeo -/
section
noncomputable def B_laws_toGeo : Code := (Try.f84.body).getD .skip
noncomputable def E_laws_toGeo : Env := envOf TT [] []
theorem fr_laws_toGeo_0 : FrOk Try.prog ⟨E_laws_toGeo, 11, fun _ => none⟩ B_laws_toGeo := frOk_base mixed tt_ok trivial
noncomputable def D_laws_toGeo_0 : Nat → Option Seg := fun _ => none
abbrev I_laws_toGeo : List Par := [.rd tG]
abbrev U_laws_toGeo : List OT := [⟨false, tG, (.pr .fz .fz)⟩]
noncomputable def raw_laws_toGeo (a0 : dG) : Option (ResD U_laws_toGeo × MutD I_laws_toGeo) :=
  some ((a0, ()), ())
theorem e_laws_toGeo (x : InD I_laws_toGeo) : execF ⟨E_laws_toGeo, 11, D_laws_toGeo_0⟩ Try.f84.results.toList B_laws_toGeo I_laws_toGeo U_laws_toGeo x = raw_laws_toGeo x.1 := by kernel_rfl
theorem ok0_laws_toGeo : ConOk Try.prog 84 ⟨I_laws_toGeo, U_laws_toGeo, fun x => raw_laws_toGeo x.1⟩ := conOk_exec (fr_laws_toGeo_0) Try.func84 (by kernel_rfl) (by kernel_rfl) Try.ntmps84.symm (by decide) (fun x r h => (e_laws_toGeo x).trans h)
noncomputable def n_laws_toGeo (a0 : dG) : dG :=
  a0
noncomputable def con_laws_toGeo : Con := ⟨I_laws_toGeo, U_laws_toGeo, fun x => (fun n => some ((n, ()), ())) (n_laws_toGeo x.1)⟩
theorem nn_laws_toGeo (a0 : dG) : raw_laws_toGeo a0 = (fun n => some ((n, ()), ())) (n_laws_toGeo a0) := bif_ty (p := fun (n : dG) => ((n, ()), ())) rfl
theorem ok_laws_toGeo : ConOk Try.prog 84 con_laws_toGeo := (ok0_laws_toGeo).mono (fun x r _ h => (nn_laws_toGeo x.1).trans h)
theorem id_laws_toGeo (a : dG) : n_laws_toGeo a = a := by kernel_rfl
end

/-! laws_toEnt -/
section
noncomputable def B_laws_toEnt : Code := (Try.f143.body).getD .skip
noncomputable def E_laws_toEnt : Env := envOf TT [(18, con_laws_toIntS)] []
theorem fr_laws_toEnt_0 : FrOk Try.prog ⟨E_laws_toEnt, 12, fun _ => none⟩ B_laws_toEnt := frOk_base mixed tt_ok ⟨ok_laws_toIntS, trivial⟩
noncomputable def D_laws_toEnt_0 : Nat → Option Seg := fun _ => none
abbrev I_laws_toEnt : List Par := [.rd tW]
abbrev U_laws_toEnt : List OT := [⟨false, tW, (.pr .fz (.ow .fz))⟩]
noncomputable def raw_laws_toEnt (a0 : dW) : Option (ResD U_laws_toEnt × MutD I_laws_toEnt) :=
  let r1 := n_laws_toIntS a0.2
  some (((a0.1, r1), ()), ())
theorem e_laws_toEnt (x : InD I_laws_toEnt) : execF ⟨E_laws_toEnt, 12, D_laws_toEnt_0⟩ Try.f143.results.toList B_laws_toEnt I_laws_toEnt U_laws_toEnt x = raw_laws_toEnt x.1 := by kernel_rfl
theorem ok0_laws_toEnt : ConOk Try.prog 143 ⟨I_laws_toEnt, U_laws_toEnt, fun x => raw_laws_toEnt x.1⟩ := conOk_exec (fr_laws_toEnt_0) Try.func143 (by kernel_rfl) (by kernel_rfl) Try.ntmps143.symm (by decide) (fun x r h => (e_laws_toEnt x).trans h)
noncomputable def n_laws_toEnt (a0 : dW) : dW :=
  let r1 := n_laws_toIntS a0.2
  (a0.1, r1)
noncomputable def con_laws_toEnt : Con := ⟨I_laws_toEnt, U_laws_toEnt, fun x => (fun n => some ((n, ()), ())) (n_laws_toEnt x.1)⟩
theorem nn_laws_toEnt (a0 : dW) : raw_laws_toEnt a0 = (fun n => some ((n, ()), ())) (n_laws_toEnt a0) := bif_ty (p := fun (n : dW) => ((n, ()), ())) rfl
theorem ok_laws_toEnt : ConOk Try.prog 143 con_laws_toEnt := (ok0_laws_toEnt).mono (fun x r _ h => (nn_laws_toEnt x.1).trans h)
theorem id_laws_toEnt (a : dW) : n_laws_toEnt a = a := by kernel_rfl
end

/-! laws_toEntS -/
section
noncomputable def B_laws_toEntS : Code := (Try.f85.body).getD .skip
noncomputable def E_laws_toEntS : Env := envOf TT [(143, con_laws_toEnt)] []
theorem fr_laws_toEntS_0 : FrOk Try.prog ⟨E_laws_toEntS, 23, fun _ => none⟩ B_laws_toEntS := frOk_base mixed tt_ok ⟨ok_laws_toEnt, trivial⟩
noncomputable def D_laws_toEntS_0 : Nat → Option Seg := fun _ => none
def L_laws_toEntS_29 : Shape := ⟨[(0, false, [.br tW]), (3, false, [.at 800000000]), (4, false, [.int .i64])], [], [(800000000, tW, (.pr .fz (.ow .fz)))]⟩
def S_laws_toEntS_29 : Shape := ⟨[(0, false, [.br tW]), (3, false, [.at 800000000]), (4, false, [.ci .i64 0])], [], [(800000000, tW, (.pr .fz (.ow .fz)))]⟩
def O_laws_toEntS_29 : Shape := ⟨[(3, false, [.at 800000000])], [], [(800000000, tW, (.pr .fz (.ow .fz)))]⟩
def Z_laws_toEntS_29 : Shape := ⟨[], [], []⟩
noncomputable def st_laws_toEntS_29 (v0 : List dW) (v1 : Int) (v2 : List dW) : Option ((L_laws_toEntS_29).X ⊕ ((O_laws_toEntS_29).X ⊕ (Z_laws_toEntS_29).X)) :=
  bif (ltb v1 (v0.length : Int)) then
    bif (inb v1 v0.length) then
      let r2 := n_laws_toEnt (nth v0 v1 (0, []))
      bif (inb v1 v2.length) then
        some (.inl (((v0, ()), ((), ()), ((IntKind.i64.wrap (v1 + 1)), ()), ()), (), ((v2.set (v1).toNat r2), ())))
      else none
    else none
  else
    some (.inr (.inl ((((), ()), ()), (), (v2, ()))))
noncomputable def stx_laws_toEntS_29 (x : (L_laws_toEntS_29).X) := st_laws_toEntS_29 x.1.1.1 x.1.2.2.1.1 x.2.2.1
def em_laws_toEntS_29 (x : (S_laws_toEntS_29).X) : (L_laws_toEntS_29).X := (((x.1.1.1, ()), ((), ()), (0, ()), ()), (), (x.2.2.1, ()))
noncomputable def c_laws_toEntS_29 : Code := (subN B_laws_toEntS 64 116).getD .skip
theorem a_laws_toEntS_29 : subN B_laws_toEntS 64 29 = some (.block 0 (.loop c_laws_toEntS_29)) := by kernel_rfl
theorem r_laws_toEntS_29 (x : (L_laws_toEntS_29).X) : roundT ⟨E_laws_toEntS, 23, D_laws_toEntS_0⟩ 0 c_laws_toEntS_29 116 L_laws_toEntS_29 O_laws_toEntS_29 Z_laws_toEntS_29 x = stx_laws_toEntS_29 x := by kernel_rfl
noncomputable def fu_laws_toEntS_29 (x : (S_laws_toEntS_29).X) : Nat := (fun (u0 : List dW) (u1 : List dW) => 18446744073709551616) x.1.1.1 x.2.2.1
noncomputable def F_laws_toEntS_29 (x : (S_laws_toEntS_29).X) : Option ((O_laws_toEntS_29).X ⊕ (Z_laws_toEntS_29).X) := loopN stx_laws_toEntS_29 (fu_laws_toEntS_29 x) (em_laws_toEntS_29 x)
noncomputable def sg_laws_toEntS_29 : Seg := ⟨S_laws_toEntS_29, O_laws_toEntS_29, Z_laws_toEntS_29, F_laws_toEntS_29⟩
noncomputable def D_laws_toEntS_1 : Nat → Option Seg := fun q => bif Nat.beq q 29 then some sg_laws_toEntS_29 else D_laws_toEntS_0 q
theorem fr_laws_toEntS_1 : FrOk Try.prog ⟨E_laws_toEntS, 23, D_laws_toEntS_1⟩ B_laws_toEntS := (fr_laws_toEntS_0).loop (sg := sg_laws_toEntS_29) L_laws_toEntS_29 em_laws_toEntS_29 (by decide) a_laws_toEntS_29 stx_laws_toEntS_29 fu_laws_toEntS_29 (by decide) (fun _ => rfl) (fun x r _ h => h) r_laws_toEntS_29
abbrev I_laws_toEntS : List Par := [.rd tWs]
abbrev U_laws_toEntS : List OT := [⟨false, tWs, (.ow (.pr .fz (.ow .fz)))⟩]
noncomputable def raw_laws_toEntS (a0 : List dW) : Option (ResD U_laws_toEntS × MutD I_laws_toEntS) :=
  bif (mkok (a0.length : Int) 32) then
    segM (F_laws_toEntS_29 (((a0, ()), ((), ()), ((), ()), ()), (), ((List.replicate ((a0.length : Int)).toNat ((0, []) : dW)), ()))) (fun y2 =>
      some ((y2.2.2.1, ()), ())) (fun y2 =>
      none)
  else none
theorem e_laws_toEntS (x : InD I_laws_toEntS) : execF ⟨E_laws_toEntS, 23, D_laws_toEntS_1⟩ Try.f85.results.toList B_laws_toEntS I_laws_toEntS U_laws_toEntS x = raw_laws_toEntS x.1 := by kernel_rfl
theorem ok0_laws_toEntS : ConOk Try.prog 85 ⟨I_laws_toEntS, U_laws_toEntS, fun x => raw_laws_toEntS x.1⟩ := conOk_exec (fr_laws_toEntS_1) Try.func85 (by kernel_rfl) (by kernel_rfl) Try.ntmps85.symm (by decide) (fun x r h => (e_laws_toEntS x).trans h)
noncomputable def n_laws_toEntS (a0 : List (dW)) : List (dW) := a0
theorem nn_laws_toEntS (a0 : List (dW)) (hk : InOk I_laws_toEntS (a0, ())) : raw_laws_toEntS a0 = (fun n => some ((n, ()), ())) (n_laws_toEntS a0) := by
  have hb : a0.length * 32 ≤ 2 ^ 47 := hk.1.1
  have hl : F_laws_toEntS_29 (((a0, ()), ((), ()), ((), ()), ()), (), ((List.replicate a0.length ((0, []) : dW)), ())) = some (.inl ((((), ()), ()), (), (a0, ()))) :=
    loopN_fill (step := stx_laws_toEntS_29) a0 ((0, []) : dW) (fun i m => (((a0, ()), ((), ()), ((i : Int), ()), ()), (), (m, ()))) (fun m => .inl ((((), ()), ()), (), (m, ()))) (fun i m hi hm => by
      simp only [stx_laws_toEntS_29, st_laws_toEntS_29, inb_nat (show i < m.length by omega), inb_nat hi, nth_nat, Int.toNat_natCast, ltb_t (show (i : Int) < a0.length by omega), cond_true, wr (show -9223372036854775808 ≤ (i : Int) + 1 by omega) (by omega), Int.natCast_add, Int.natCast_one, pr_eta, id_laws_toEnt]) (fun m hm => by
      simp only [stx_laws_toEntS_29, st_laws_toEntS_29, ltb_f (Int.le_refl _), cond_false]) _ (by show _ < 18446744073709551616; omega)
  unfold raw_laws_toEntS n_laws_toEntS
  rw [show mkok (a0.length : Int) 32 = true by rw [mkok_iff]; omega, bif_t, Int.toNat_natCast, hl]
  rfl
noncomputable def con_laws_toEntS : Con := ⟨I_laws_toEntS, U_laws_toEntS, fun x => (fun n => some ((n, ()), ())) (n_laws_toEntS x.1)⟩
theorem ok_laws_toEntS : ConOk Try.prog 85 con_laws_toEntS := (ok0_laws_toEntS).mono (fun x r hk h => (nn_laws_toEntS x.1 hk).trans h)
theorem id_laws_toEntS (a : List dW) : n_laws_toEntS a = a := by kernel_rfl
end

/-! laws_toArr -/
section
noncomputable def B_laws_toArr : Code := (Try.f27.body).getD .skip
noncomputable def E_laws_toArr : Env := envOf TT [(17, con_laws_toMemS), (84, con_laws_toGeo), (85, con_laws_toEntS)] []
theorem fr_laws_toArr_0 : FrOk Try.prog ⟨E_laws_toArr, 44, fun _ => none⟩ B_laws_toArr := frOk_base mixed tt_ok ⟨ok_laws_toMemS, ok_laws_toGeo, ok_laws_toEntS, trivial⟩
noncomputable def D_laws_toArr_0 : Nat → Option Seg := fun _ => none
abbrev I_laws_toArr : List Par := [.rd tA]
abbrev U_laws_toArr : List OT := [⟨false, tA, (.pr .fz (.pr (.pr .fz .fz) (.pr (.ow (.pr (.ow (.ow .fz)) (.pr (.ow (.pr .fz (.ow .fz))) (.pr .fz (.ow .fz))))) (.pr .fz (.pr .fz (.pr .fz (.pr .fz (.pr .fz (.pr (.ow (.pr .fz (.ow .fz))) (.pr .fz (.pr .fz .fz)))))))))))⟩]
noncomputable def raw_laws_toArr (a0 : dA) : Option (ResD U_laws_toArr × MutD I_laws_toArr) :=
  let r1 := n_laws_toGeo a0.2.1
  let r2 := n_laws_toMemS a0.2.2.1
  let r3 := n_laws_toEntS a0.2.2.2.2.2.2.2.2.1
  some (((a0.1, r1, r2, a0.2.2.2.1, a0.2.2.2.2.1, a0.2.2.2.2.2.1, a0.2.2.2.2.2.2.1, a0.2.2.2.2.2.2.2.1, r3, a0.2.2.2.2.2.2.2.2.2), ()), ())
theorem e_laws_toArr (x : InD I_laws_toArr) : execF ⟨E_laws_toArr, 44, D_laws_toArr_0⟩ Try.f27.results.toList B_laws_toArr I_laws_toArr U_laws_toArr x = raw_laws_toArr x.1 := by kernel_rfl
theorem ok0_laws_toArr : ConOk Try.prog 27 ⟨I_laws_toArr, U_laws_toArr, fun x => raw_laws_toArr x.1⟩ := conOk_exec (fr_laws_toArr_0) Try.func27 (by kernel_rfl) (by kernel_rfl) Try.ntmps27.symm (by decide) (fun x r h => (e_laws_toArr x).trans h)
noncomputable def n_laws_toArr (a0 : dA) : dA :=
  let r1 := n_laws_toGeo a0.2.1
  let r2 := n_laws_toMemS a0.2.2.1
  let r3 := n_laws_toEntS a0.2.2.2.2.2.2.2.2.1
  (a0.1, r1, r2, a0.2.2.2.1, a0.2.2.2.2.1, a0.2.2.2.2.2.1, a0.2.2.2.2.2.2.1, a0.2.2.2.2.2.2.2.1, r3, a0.2.2.2.2.2.2.2.2.2)
noncomputable def con_laws_toArr : Con := ⟨I_laws_toArr, U_laws_toArr, fun x => (fun n => some ((n, ()), ())) (n_laws_toArr x.1)⟩
theorem nn_laws_toArr (a0 : dA) : raw_laws_toArr a0 = (fun n => some ((n, ()), ())) (n_laws_toArr a0) := bif_ty (p := fun (n : dA) => ((n, ()), ())) rfl
theorem ok_laws_toArr : ConOk Try.prog 27 con_laws_toArr := (ok0_laws_toArr).mono (fun x r _ h => (nn_laws_toArr x.1).trans h)
theorem id_laws_toArr (a : dA) : n_laws_toArr a = a := by kernel_rfl
end

/-! laws_eqIntSS -/
section
noncomputable def B_laws_eqIntSS : Code := (Try.f137.body).getD .skip
noncomputable def E_laws_eqIntSS : Env := envOf TT [(21, con_laws_eqIntS)] []
theorem fr_laws_eqIntSS_0 : FrOk Try.prog ⟨E_laws_eqIntSS, 27, fun _ => none⟩ B_laws_eqIntSS := frOk_base mixed tt_ok ⟨ok_laws_eqIntS, trivial⟩
noncomputable def D_laws_eqIntSS_0 : Nat → Option Seg := fun _ => none
def L_laws_eqIntSS_29 : Shape := ⟨[(0, false, [.br tL]), (1, false, [.br tL]), (5, false, [.int .i64])], [], []⟩
def S_laws_eqIntSS_29 : Shape := ⟨[(0, false, [.br tL]), (1, false, [.br tL]), (5, false, [.ci .i64 0])], [], []⟩
def O_laws_eqIntSS_29 : Shape := ⟨[], [], []⟩
def Z_laws_eqIntSS_29 : Shape := ⟨[(4, false, [.bool])], [], []⟩
noncomputable def st_laws_eqIntSS_29 (v0 : List (List Int)) (v1 : List (List Int)) (v2 : Int) : Option ((L_laws_eqIntSS_29).X ⊕ ((O_laws_eqIntSS_29).X ⊕ (Z_laws_eqIntSS_29).X)) :=
  bif (ltb v2 (v0.length : Int)) then
    bif (inb v2 v0.length) then
      bif (inb v2 v1.length) then
        let r2 := n_laws_eqIntS (nth v0 v2 []) (nth v1 v2 [])
        bif (!r2) then
          some (.inr (.inr (((false, ()), ()), (), ())))
        else
          some (.inl (((v0, ()), (v1, ()), ((IntKind.i64.wrap (v2 + 1)), ()), ()), (), ()))
      else none
    else none
  else
    some (.inr (.inl ((), (), ())))
noncomputable def stx_laws_eqIntSS_29 (x : (L_laws_eqIntSS_29).X) := st_laws_eqIntSS_29 x.1.1.1 x.1.2.1.1 x.1.2.2.1.1
def em_laws_eqIntSS_29 (x : (S_laws_eqIntSS_29).X) : (L_laws_eqIntSS_29).X := (((x.1.1.1, ()), (x.1.2.1.1, ()), (0, ()), ()), (), ())
noncomputable def c_laws_eqIntSS_29 : Code := (subN B_laws_eqIntSS 64 116).getD .skip
theorem a_laws_eqIntSS_29 : subN B_laws_eqIntSS 64 29 = some (.block 0 (.loop c_laws_eqIntSS_29)) := by kernel_rfl
theorem r_laws_eqIntSS_29 (x : (L_laws_eqIntSS_29).X) : roundT ⟨E_laws_eqIntSS, 27, D_laws_eqIntSS_0⟩ 0 c_laws_eqIntSS_29 116 L_laws_eqIntSS_29 O_laws_eqIntSS_29 Z_laws_eqIntSS_29 x = stx_laws_eqIntSS_29 x := by kernel_rfl
noncomputable def fu_laws_eqIntSS_29 (x : (S_laws_eqIntSS_29).X) : Nat := (fun (u0 : List (List Int)) (u1 : List (List Int)) => 18446744073709551616) x.1.1.1 x.1.2.1.1
noncomputable def F_laws_eqIntSS_29 (x : (S_laws_eqIntSS_29).X) : Option ((O_laws_eqIntSS_29).X ⊕ (Z_laws_eqIntSS_29).X) := loopN stx_laws_eqIntSS_29 (fu_laws_eqIntSS_29 x) (em_laws_eqIntSS_29 x)
noncomputable def sg_laws_eqIntSS_29 : Seg := ⟨S_laws_eqIntSS_29, O_laws_eqIntSS_29, Z_laws_eqIntSS_29, F_laws_eqIntSS_29⟩
noncomputable def D_laws_eqIntSS_1 : Nat → Option Seg := fun q => bif Nat.beq q 29 then some sg_laws_eqIntSS_29 else D_laws_eqIntSS_0 q
theorem fr_laws_eqIntSS_1 : FrOk Try.prog ⟨E_laws_eqIntSS, 27, D_laws_eqIntSS_1⟩ B_laws_eqIntSS := (fr_laws_eqIntSS_0).loop (sg := sg_laws_eqIntSS_29) L_laws_eqIntSS_29 em_laws_eqIntSS_29 (by decide) a_laws_eqIntSS_29 stx_laws_eqIntSS_29 fu_laws_eqIntSS_29 (by decide) (fun _ => rfl) (fun x r _ h => h) r_laws_eqIntSS_29
abbrev I_laws_eqIntSS : List Par := [.rd tLL, .rd tLL]
abbrev U_laws_eqIntSS : List OT := [⟨false, tB, .fz⟩]
noncomputable def raw_laws_eqIntSS (a0 : List (List Int)) (a1 : List (List Int)) : Option (ResD U_laws_eqIntSS × MutD I_laws_eqIntSS) :=
  bif ((a0.length : Int) != (a1.length : Int)) then
    some ((false, ()), ())
  else
    segM (F_laws_eqIntSS_29 (((a0, ()), (a1, ()), ((), ()), ()), (), ())) (fun y2 =>
      some ((true, ()), ())) (fun y2 =>
      some ((y2.1.1.1, ()), ()))
theorem e_laws_eqIntSS (x : InD I_laws_eqIntSS) : execF ⟨E_laws_eqIntSS, 27, D_laws_eqIntSS_1⟩ Try.f137.results.toList B_laws_eqIntSS I_laws_eqIntSS U_laws_eqIntSS x = raw_laws_eqIntSS x.1 x.2.1 := by kernel_rfl
theorem ok0_laws_eqIntSS : ConOk Try.prog 137 ⟨I_laws_eqIntSS, U_laws_eqIntSS, fun x => raw_laws_eqIntSS x.1 x.2.1⟩ := conOk_exec (fr_laws_eqIntSS_1) Try.func137 (by kernel_rfl) (by kernel_rfl) Try.ntmps137.symm (by decide) (fun x r h => (e_laws_eqIntSS x).trans h)
noncomputable def n_laws_eqIntSS (a0 a1 : List (List Int)) : Bool := decide (a0 = a1)
theorem nn_laws_eqIntSS (a0 a1 : List (List Int)) (hk : InOk I_laws_eqIntSS (a0, a1, ())) : raw_laws_eqIntSS a0 a1 = (fun n => some ((n, ()), ())) (n_laws_eqIntSS a0 a1) := by
  have hb : a0.length * 24 ≤ 2 ^ 47 := hk.1.1
  unfold raw_laws_eqIntSS n_laws_eqIntSS
  by_cases h : a0.length = a1.length
  · have hl : F_laws_eqIntSS_29 (((a0, ()), (a1, ()), ((), ()), ()), (), ()) = some (bif decide (a0 = a1) then .inl ((), (), ()) else .inr (((false, ()), ()), (), ())) :=
      loopN_eq (step := stx_laws_eqIntSS_29) a0 a1 ([] : List Int) (fun i => (((a0, ()), (a1, ()), ((i : Int), ()), ()), (), ())) n_laws_eqIntS eqd_laws_eqIntS _ _ h (fun i hi => by
        simp only [stx_laws_eqIntSS_29, st_laws_eqIntSS_29, inb_nat (h ▸ hi), inb_nat hi, nth_nat, Int.toNat_natCast, ltb_t (show (i : Int) < a0.length by omega), cond_true, wr (show -9223372036854775808 ≤ (i : Int) + 1 by omega) (by omega), Int.natCast_add, Int.natCast_one, pr_eta]
        cases n_laws_eqIntS (a0.getD i []) (a1.getD i []) <;> rfl) (by simp only [stx_laws_eqIntSS_29, st_laws_eqIntSS_29, ltb_f (Int.le_refl _), cond_false]) _ (by show _ < 18446744073709551616; omega)
    rw [show ((a0.length : Int) != (a1.length : Int)) = false by simp [h], bif_f, hl]
    cases decide (a0 = a1) <;> rfl
  · rw [show ((a0.length : Int) != (a1.length : Int)) = true from bne_iff_ne.2 (by omega), bif_t, decide_eq_false (fun e => h (congrArg _ e))]
theorem eqd_laws_eqIntSS (a0 a1 : List (List Int)) : n_laws_eqIntSS a0 a1 = decide (a0 = a1) := rfl
noncomputable def con_laws_eqIntSS : Con := ⟨I_laws_eqIntSS, U_laws_eqIntSS, fun x => (fun n => some ((n, ()), ())) (n_laws_eqIntSS x.1 x.2.1)⟩
theorem ok_laws_eqIntSS : ConOk Try.prog 137 con_laws_eqIntSS := (ok0_laws_eqIntSS).mono (fun x r hk h => (nn_laws_eqIntSS x.1 x.2.1 hk).trans h)
theorem eqr_laws_eqIntSS (a : List (List Int)) : n_laws_eqIntSS a a = true := by rw [eqd_laws_eqIntSS]; exact decide_eq_true rfl
end

/-! laws_eqWr -/
section
noncomputable def B_laws_eqWr : Code := (Try.f174.body).getD .skip
noncomputable def E_laws_eqWr : Env := envOf TT [(21, con_laws_eqIntS)] []
theorem fr_laws_eqWr_0 : FrOk Try.prog ⟨E_laws_eqWr, 16, fun _ => none⟩ B_laws_eqWr := frOk_base mixed tt_ok ⟨ok_laws_eqIntS, trivial⟩
noncomputable def D_laws_eqWr_0 : Nat → Option Seg := fun _ => none
abbrev I_laws_eqWr : List Par := [.rd tW, .rd tW]
abbrev U_laws_eqWr : List OT := [⟨false, tB, .fz⟩]
noncomputable def raw_laws_eqWr (a0 : dW) (a1 : dW) : Option (ResD U_laws_eqWr × MutD I_laws_eqWr) :=
  bif (a0.1 != a1.1) then
    some ((false, ()), ())
  else
    let r1 := n_laws_eqIntS a0.2 a1.2
    bif (!r1) then
      some ((false, ()), ())
    else
      some ((true, ()), ())
theorem e_laws_eqWr (x : InD I_laws_eqWr) : execF ⟨E_laws_eqWr, 16, D_laws_eqWr_0⟩ Try.f174.results.toList B_laws_eqWr I_laws_eqWr U_laws_eqWr x = raw_laws_eqWr x.1 x.2.1 := by kernel_rfl
theorem ok0_laws_eqWr : ConOk Try.prog 174 ⟨I_laws_eqWr, U_laws_eqWr, fun x => raw_laws_eqWr x.1 x.2.1⟩ := conOk_exec (fr_laws_eqWr_0) Try.func174 (by kernel_rfl) (by kernel_rfl) Try.ntmps174.symm (by decide) (fun x r h => (e_laws_eqWr x).trans h)
noncomputable def n_laws_eqWr (a0 : dW) (a1 : dW) : Bool :=
  bif (a0.1 != a1.1) then
    false
  else
    let r1 := n_laws_eqIntS a0.2 a1.2
    bif (!r1) then
      false
    else
      true
noncomputable def con_laws_eqWr : Con := ⟨I_laws_eqWr, U_laws_eqWr, fun x => (fun n => some ((n, ()), ())) (n_laws_eqWr x.1 x.2.1)⟩
theorem nn_laws_eqWr (a0 : dW) (a1 : dW) : raw_laws_eqWr a0 a1 = (fun n => some ((n, ()), ())) (n_laws_eqWr a0 a1) := bif_ty (p := fun (n : Bool) => ((n, ()), ())) (bif_some (p := fun (n : Bool) => ((n, ()), ())) rfl (bif_some (p := fun (n : Bool) => ((n, ()), ())) rfl rfl))
theorem ok_laws_eqWr : ConOk Try.prog 174 con_laws_eqWr := (ok0_laws_eqWr).mono (fun x r _ h => (nn_laws_eqWr x.1 x.2.1).trans h)
theorem eqd_laws_eqWr (a b : dW) : n_laws_eqWr a b = decide (a = b) := by
  unfold n_laws_eqWr
  simp only [eq_step1, eq_step2, eq_step3, eq_step4, eq_step5, eqd_laws_eqIntS, Prod.ext_iff, Bool.decide_and, Bool.and_true]
theorem eqr_laws_eqWr (a : dW) : n_laws_eqWr a a = true := by rw [eqd_laws_eqWr]; exact decide_eq_true rfl
end
end Go.Tf
