/- Functions of the program, and what they come to. -/
import Derived.Test.YtgmadfpnljibhaaExactSpoilAtF4
namespace Go.Tf
open Go.Proofs
set_option synthInstance.maxHeartbeats 400000
set_option synthInstance.maxSize 10000
set_option linter.unusedVariables false
set_option linter.unusedSimpArgs false
set_option maxRecDepth 100000
/-! laws_toWr -/
section
noncomputable def B_laws_toWr : Code := (Try.f163.body).getD .skip
noncomputable def E_laws_toWr : Env := envOf TT [(140, con_laws_toIntS)] []
theorem fr_laws_toWr_0 : FrOk Try.prog ⟨E_laws_toWr, 12, fun _ => none⟩ B_laws_toWr := frOk_base mixed tt_ok ⟨ok_laws_toIntS, trivial⟩
noncomputable def D_laws_toWr_0 : Nat → Option Seg := fun _ => none
abbrev I_laws_toWr : List Par := [.rd tW]
abbrev U_laws_toWr : List OT := [⟨false, tW, (.pr .fz (.ow .fz))⟩]
noncomputable def raw_laws_toWr (a0 : dW) : Option (ResD U_laws_toWr × MutD I_laws_toWr) :=
  let r1 := n_laws_toIntS a0.2
  some (((a0.1, r1), ()), ())
theorem e_laws_toWr (x : InD I_laws_toWr) : execF ⟨E_laws_toWr, 12, D_laws_toWr_0⟩ Try.f163.results.toList B_laws_toWr I_laws_toWr U_laws_toWr x = raw_laws_toWr x.1 := by kernel_rfl
theorem ok0_laws_toWr : ConOk Try.prog 163 ⟨I_laws_toWr, U_laws_toWr, fun x => raw_laws_toWr x.1⟩ := conOk_exec (fr_laws_toWr_0) Try.func163 (by kernel_rfl) (by kernel_rfl) Try.ntmps163.symm (by decide) (fun x r h => (e_laws_toWr x).trans h)
noncomputable def n_laws_toWr (a0 : dW) : dW :=
  let r1 := n_laws_toIntS a0.2
  (a0.1, r1)
noncomputable def con_laws_toWr : Con := ⟨I_laws_toWr, U_laws_toWr, fun x => (fun n => some ((n, ()), ())) (n_laws_toWr x.1)⟩
theorem nn_laws_toWr (a0 : dW) : raw_laws_toWr a0 = (fun n => some ((n, ()), ())) (n_laws_toWr a0) := bif_ty (p := fun (n : dW) => ((n, ()), ())) rfl
theorem ok_laws_toWr : ConOk Try.prog 163 con_laws_toWr := (ok0_laws_toWr).mono (fun x r _ h => (nn_laws_toWr x.1).trans h)
theorem id_laws_toWr (a : dW) : n_laws_toWr a = a := by kernel_rfl
end

/-! laws_toWrS -/
section
noncomputable def B_laws_toWrS : Code := (Try.f139.body).getD .skip
noncomputable def E_laws_toWrS : Env := envOf TT [(163, con_laws_toWr)] []
theorem fr_laws_toWrS_0 : FrOk Try.prog ⟨E_laws_toWrS, 23, fun _ => none⟩ B_laws_toWrS := frOk_base mixed tt_ok ⟨ok_laws_toWr, trivial⟩
noncomputable def D_laws_toWrS_0 : Nat → Option Seg := fun _ => none
def L_laws_toWrS_29 : Shape := ⟨[(0, false, [.br tW]), (3, false, [.at 800000000]), (4, false, [.int .i64])], [], [(800000000, tW, (.pr .fz (.ow .fz)))]⟩
def S_laws_toWrS_29 : Shape := ⟨[(0, false, [.br tW]), (3, false, [.at 800000000]), (4, false, [.ci .i64 0])], [], [(800000000, tW, (.pr .fz (.ow .fz)))]⟩
def O_laws_toWrS_29 : Shape := ⟨[(3, false, [.at 800000000])], [], [(800000000, tW, (.pr .fz (.ow .fz)))]⟩
def Z_laws_toWrS_29 : Shape := ⟨[], [], []⟩
noncomputable def st_laws_toWrS_29 (v0 : List dW) (v1 : Int) (v2 : List dW) : Option ((L_laws_toWrS_29).X ⊕ ((O_laws_toWrS_29).X ⊕ (Z_laws_toWrS_29).X)) :=
  bif (ltb v1 (v0.length : Int)) then
    bif (inb v1 v0.length) then
      let r2 := n_laws_toWr (nth v0 v1 (0, []))
      bif (inb v1 v2.length) then
        some (.inl (((v0, ()), ((), ()), ((IntKind.i64.wrap (v1 + 1)), ()), ()), (), ((v2.set (v1).toNat r2), ())))
      else none
    else none
  else
    some (.inr (.inl ((((), ()), ()), (), (v2, ()))))
noncomputable def stx_laws_toWrS_29 (x : (L_laws_toWrS_29).X) := st_laws_toWrS_29 x.1.1.1 x.1.2.2.1.1 x.2.2.1
def em_laws_toWrS_29 (x : (S_laws_toWrS_29).X) : (L_laws_toWrS_29).X := (((x.1.1.1, ()), ((), ()), (0, ()), ()), (), (x.2.2.1, ()))
noncomputable def c_laws_toWrS_29 : Code := (subN B_laws_toWrS 64 116).getD .skip
theorem a_laws_toWrS_29 : subN B_laws_toWrS 64 29 = some (.block 0 (.loop c_laws_toWrS_29)) := by kernel_rfl
theorem r_laws_toWrS_29 (x : (L_laws_toWrS_29).X) : roundT ⟨E_laws_toWrS, 23, D_laws_toWrS_0⟩ 0 c_laws_toWrS_29 116 L_laws_toWrS_29 O_laws_toWrS_29 Z_laws_toWrS_29 x = stx_laws_toWrS_29 x := by kernel_rfl
def fu_laws_toWrS_29 (x : (S_laws_toWrS_29).X) : Nat := 18446744073709551616
noncomputable def F_laws_toWrS_29 (x : (S_laws_toWrS_29).X) : Option ((O_laws_toWrS_29).X ⊕ (Z_laws_toWrS_29).X) := loopN stx_laws_toWrS_29 (fu_laws_toWrS_29 x) (em_laws_toWrS_29 x)
noncomputable def sg_laws_toWrS_29 : Seg := ⟨S_laws_toWrS_29, O_laws_toWrS_29, Z_laws_toWrS_29, F_laws_toWrS_29⟩
noncomputable def D_laws_toWrS_1 : Nat → Option Seg := fun q => bif Nat.beq q 29 then some sg_laws_toWrS_29 else D_laws_toWrS_0 q
theorem fr_laws_toWrS_1 : FrOk Try.prog ⟨E_laws_toWrS, 23, D_laws_toWrS_1⟩ B_laws_toWrS := (fr_laws_toWrS_0).loop (sg := sg_laws_toWrS_29) L_laws_toWrS_29 em_laws_toWrS_29 (by decide) a_laws_toWrS_29 stx_laws_toWrS_29 fu_laws_toWrS_29 (by decide) (fun _ => rfl) (fun x r _ h => h) r_laws_toWrS_29
abbrev I_laws_toWrS : List Par := [.rd tWs]
abbrev U_laws_toWrS : List OT := [⟨false, tWs, (.ow (.pr .fz (.ow .fz)))⟩]
noncomputable def raw_laws_toWrS (a0 : List dW) : Option (ResD U_laws_toWrS × MutD I_laws_toWrS) :=
  bif (mkok (a0.length : Int) 32) then
    segM (F_laws_toWrS_29 (((a0, ()), ((), ()), ((), ()), ()), (), ((List.replicate ((a0.length : Int)).toNat ((0, []) : dW)), ()))) (fun y2 =>
      some ((y2.2.2.1, ()), ())) (fun y2 =>
      none)
  else none
theorem e_laws_toWrS (x : InD I_laws_toWrS) : execF ⟨E_laws_toWrS, 23, D_laws_toWrS_1⟩ Try.f139.results.toList B_laws_toWrS I_laws_toWrS U_laws_toWrS x = raw_laws_toWrS x.1 := by kernel_rfl
theorem ok0_laws_toWrS : ConOk Try.prog 139 ⟨I_laws_toWrS, U_laws_toWrS, fun x => raw_laws_toWrS x.1⟩ := conOk_exec (fr_laws_toWrS_1) Try.func139 (by kernel_rfl) (by kernel_rfl) Try.ntmps139.symm (by decide) (fun x r h => (e_laws_toWrS x).trans h)
noncomputable def n_laws_toWrS (a0 : List (dW)) : List (dW) := a0
theorem nn_laws_toWrS (a0 : List (dW)) (hk : InOk I_laws_toWrS (a0, ())) : raw_laws_toWrS a0 = (fun n => some ((n, ()), ())) (n_laws_toWrS a0) := by
  have hb : a0.length * 32 ≤ 2 ^ 47 := hk.1.1
  have hl : F_laws_toWrS_29 (((a0, ()), ((), ()), ((), ()), ()), (), ((List.replicate a0.length ((0, []) : dW)), ())) = some (.inl ((((), ()), ()), (), (a0, ()))) :=
    loopN_fill (step := stx_laws_toWrS_29) a0 ((0, []) : dW) (fun i m => (((a0, ()), ((), ()), ((i : Int), ()), ()), (), (m, ()))) (fun m => .inl ((((), ()), ()), (), (m, ()))) (fun i m hi hm => by
      simp only [stx_laws_toWrS_29, st_laws_toWrS_29, inb_nat (show i < m.length by omega), inb_nat hi, nth_nat, Int.toNat_natCast, ltb_t (show (i : Int) < a0.length by omega), cond_true, wr (show -9223372036854775808 ≤ (i : Int) + 1 by omega) (by omega), Int.natCast_add, Int.natCast_one, pr_eta, id_laws_toWr]) (fun m hm => by
      simp only [stx_laws_toWrS_29, st_laws_toWrS_29, ltb_f (Int.le_refl _), cond_false]) _ (by show _ < 18446744073709551616; omega)
  unfold raw_laws_toWrS n_laws_toWrS
  rw [show mkok (a0.length : Int) 32 = true by rw [mkok_iff]; omega, bif_t, Int.toNat_natCast, hl]
  rfl
noncomputable def con_laws_toWrS : Con := ⟨I_laws_toWrS, U_laws_toWrS, fun x => (fun n => some ((n, ()), ())) (n_laws_toWrS x.1)⟩
theorem ok_laws_toWrS : ConOk Try.prog 139 con_laws_toWrS := (ok0_laws_toWrS).mono (fun x r hk h => (nn_laws_toWrS x.1 hk).trans h)
theorem id_laws_toWrS (a : List dW) : n_laws_toWrS a = a := by kernel_rfl
end

/-! laws_toMem -/
section
noncomputable def B_laws_toMem : Code := (Try.f103.body).getD .skip
noncomputable def E_laws_toMem : Env := envOf TT [(138, con_laws_toIntSS), (139, con_laws_toWrS), (140, con_laws_toIntS)] []
theorem fr_laws_toMem_0 : FrOk Try.prog ⟨E_laws_toMem, 20, fun _ => none⟩ B_laws_toMem := frOk_base mixed tt_ok ⟨ok_laws_toIntSS, ok_laws_toWrS, ok_laws_toIntS, trivial⟩
noncomputable def D_laws_toMem_0 : Nat → Option Seg := fun _ => none
abbrev I_laws_toMem : List Par := [.rd tM]
abbrev U_laws_toMem : List OT := [⟨false, tM, (.pr (.ow (.ow .fz)) (.pr (.ow (.pr .fz (.ow .fz))) (.pr .fz (.ow .fz))))⟩]
noncomputable def raw_laws_toMem (a0 : dM) : Option (ResD U_laws_toMem × MutD I_laws_toMem) :=
  let r1 := n_laws_toIntSS a0.1
  let r2 := n_laws_toWrS a0.2.1
  let r3 := n_laws_toIntS a0.2.2.2
  some (((r1, r2, a0.2.2.1, r3), ()), ())
theorem e_laws_toMem (x : InD I_laws_toMem) : execF ⟨E_laws_toMem, 20, D_laws_toMem_0⟩ Try.f103.results.toList B_laws_toMem I_laws_toMem U_laws_toMem x = raw_laws_toMem x.1 := by kernel_rfl
theorem ok0_laws_toMem : ConOk Try.prog 103 ⟨I_laws_toMem, U_laws_toMem, fun x => raw_laws_toMem x.1⟩ := conOk_exec (fr_laws_toMem_0) Try.func103 (by kernel_rfl) (by kernel_rfl) Try.ntmps103.symm (by decide) (fun x r h => (e_laws_toMem x).trans h)
noncomputable def n_laws_toMem (a0 : dM) : dM :=
  let r1 := n_laws_toIntSS a0.1
  let r2 := n_laws_toWrS a0.2.1
  let r3 := n_laws_toIntS a0.2.2.2
  (r1, r2, a0.2.2.1, r3)
noncomputable def con_laws_toMem : Con := ⟨I_laws_toMem, U_laws_toMem, fun x => (fun n => some ((n, ()), ())) (n_laws_toMem x.1)⟩
theorem nn_laws_toMem (a0 : dM) : raw_laws_toMem a0 = (fun n => some ((n, ()), ())) (n_laws_toMem a0) := bif_ty (p := fun (n : dM) => ((n, ()), ())) rfl
theorem ok_laws_toMem : ConOk Try.prog 103 con_laws_toMem := (ok0_laws_toMem).mono (fun x r _ h => (nn_laws_toMem x.1).trans h)
theorem id_laws_toMem (a : dM) : n_laws_toMem a = a := by kernel_rfl
end

/-! laws_toMemS -/
section
noncomputable def B_laws_toMemS : Code := (Try.f64.body).getD .skip
noncomputable def E_laws_toMemS : Env := envOf TT [(103, con_laws_toMem)] []
theorem fr_laws_toMemS_0 : FrOk Try.prog ⟨E_laws_toMemS, 23, fun _ => none⟩ B_laws_toMemS := frOk_base mixed tt_ok ⟨ok_laws_toMem, trivial⟩
noncomputable def D_laws_toMemS_0 : Nat → Option Seg := fun _ => none
def L_laws_toMemS_29 : Shape := ⟨[(0, false, [.br tM]), (3, false, [.at 800000000]), (4, false, [.int .i64])], [], [(800000000, tM, (.pr (.ow (.ow .fz)) (.pr (.ow (.pr .fz (.ow .fz))) (.pr .fz (.ow .fz)))))]⟩
def S_laws_toMemS_29 : Shape := ⟨[(0, false, [.br tM]), (3, false, [.at 800000000]), (4, false, [.ci .i64 0])], [], [(800000000, tM, (.pr (.ow (.ow .fz)) (.pr (.ow (.pr .fz (.ow .fz))) (.pr .fz (.ow .fz)))))]⟩
def O_laws_toMemS_29 : Shape := ⟨[(3, false, [.at 800000000])], [], [(800000000, tM, (.pr (.ow (.ow .fz)) (.pr (.ow (.pr .fz (.ow .fz))) (.pr .fz (.ow .fz)))))]⟩
def Z_laws_toMemS_29 : Shape := ⟨[], [], []⟩
noncomputable def st_laws_toMemS_29 (v0 : List dM) (v1 : Int) (v2 : List dM) : Option ((L_laws_toMemS_29).X ⊕ ((O_laws_toMemS_29).X ⊕ (Z_laws_toMemS_29).X)) :=
  bif (ltb v1 (v0.length : Int)) then
    bif (inb v1 v0.length) then
      let r2 := n_laws_toMem ((nth v0 v1 ([], [], false, [])).1, ((nth v0 v1 ([], [], false, [])).2).1, (((nth v0 v1 ([], [], false, [])).2).2))
      bif (inb v1 v2.length) then
        some (.inl (((v0, ()), ((), ()), ((IntKind.i64.wrap (v1 + 1)), ()), ()), (), ((v2.set (v1).toNat r2), ())))
      else none
    else none
  else
    some (.inr (.inl ((((), ()), ()), (), (v2, ()))))
noncomputable def stx_laws_toMemS_29 (x : (L_laws_toMemS_29).X) := st_laws_toMemS_29 x.1.1.1 x.1.2.2.1.1 x.2.2.1
def em_laws_toMemS_29 (x : (S_laws_toMemS_29).X) : (L_laws_toMemS_29).X := (((x.1.1.1, ()), ((), ()), (0, ()), ()), (), (x.2.2.1, ()))
noncomputable def c_laws_toMemS_29 : Code := (subN B_laws_toMemS 64 116).getD .skip
theorem a_laws_toMemS_29 : subN B_laws_toMemS 64 29 = some (.block 0 (.loop c_laws_toMemS_29)) := by kernel_rfl
theorem r_laws_toMemS_29 (x : (L_laws_toMemS_29).X) : roundT ⟨E_laws_toMemS, 23, D_laws_toMemS_0⟩ 0 c_laws_toMemS_29 116 L_laws_toMemS_29 O_laws_toMemS_29 Z_laws_toMemS_29 x = stx_laws_toMemS_29 x := by kernel_rfl
def fu_laws_toMemS_29 (x : (S_laws_toMemS_29).X) : Nat := 18446744073709551616
noncomputable def F_laws_toMemS_29 (x : (S_laws_toMemS_29).X) : Option ((O_laws_toMemS_29).X ⊕ (Z_laws_toMemS_29).X) := loopN stx_laws_toMemS_29 (fu_laws_toMemS_29 x) (em_laws_toMemS_29 x)
noncomputable def sg_laws_toMemS_29 : Seg := ⟨S_laws_toMemS_29, O_laws_toMemS_29, Z_laws_toMemS_29, F_laws_toMemS_29⟩
noncomputable def D_laws_toMemS_1 : Nat → Option Seg := fun q => bif Nat.beq q 29 then some sg_laws_toMemS_29 else D_laws_toMemS_0 q
theorem fr_laws_toMemS_1 : FrOk Try.prog ⟨E_laws_toMemS, 23, D_laws_toMemS_1⟩ B_laws_toMemS := (fr_laws_toMemS_0).loop (sg := sg_laws_toMemS_29) L_laws_toMemS_29 em_laws_toMemS_29 (by decide) a_laws_toMemS_29 stx_laws_toMemS_29 fu_laws_toMemS_29 (by decide) (fun _ => rfl) (fun x r _ h => h) r_laws_toMemS_29
abbrev I_laws_toMemS : List Par := [.rd tMs]
abbrev U_laws_toMemS : List OT := [⟨false, tMs, (.ow (.pr (.ow (.ow .fz)) (.pr (.ow (.pr .fz (.ow .fz))) (.pr .fz (.ow .fz)))))⟩]
noncomputable def raw_laws_toMemS (a0 : List dM) : Option (ResD U_laws_toMemS × MutD I_laws_toMemS) :=
  bif (mkok (a0.length : Int) 80) then
    segM (F_laws_toMemS_29 (((a0, ()), ((), ()), ((), ()), ()), (), ((List.replicate ((a0.length : Int)).toNat (([], [], false, []) : dM)), ()))) (fun y2 =>
      some ((y2.2.2.1, ()), ())) (fun y2 =>
      none)
  else none
theorem e_laws_toMemS (x : InD I_laws_toMemS) : execF ⟨E_laws_toMemS, 23, D_laws_toMemS_1⟩ Try.f64.results.toList B_laws_toMemS I_laws_toMemS U_laws_toMemS x = raw_laws_toMemS x.1 := by kernel_rfl
theorem ok0_laws_toMemS : ConOk Try.prog 64 ⟨I_laws_toMemS, U_laws_toMemS, fun x => raw_laws_toMemS x.1⟩ := conOk_exec (fr_laws_toMemS_1) Try.func64 (by kernel_rfl) (by kernel_rfl) Try.ntmps64.symm (by decide) (fun x r h => (e_laws_toMemS x).trans h)
noncomputable def n_laws_toMemS (a0 : List (dM)) : List (dM) := a0
theorem nn_laws_toMemS (a0 : List (dM)) (hk : InOk I_laws_toMemS (a0, ())) : raw_laws_toMemS a0 = (fun n => some ((n, ()), ())) (n_laws_toMemS a0) := by
  have hb : a0.length * 80 ≤ 2 ^ 47 := hk.1.1
  have hl : F_laws_toMemS_29 (((a0, ()), ((), ()), ((), ()), ()), (), ((List.replicate a0.length (([], [], false, []) : dM)), ())) = some (.inl ((((), ()), ()), (), (a0, ()))) :=
    loopN_fill (step := stx_laws_toMemS_29) a0 (([], [], false, []) : dM) (fun i m => (((a0, ()), ((), ()), ((i : Int), ()), ()), (), (m, ()))) (fun m => .inl ((((), ()), ()), (), (m, ()))) (fun i m hi hm => by
      simp only [stx_laws_toMemS_29, st_laws_toMemS_29, inb_nat (show i < m.length by omega), inb_nat hi, nth_nat, Int.toNat_natCast, ltb_t (show (i : Int) < a0.length by omega), cond_true, wr (show -9223372036854775808 ≤ (i : Int) + 1 by omega) (by omega), Int.natCast_add, Int.natCast_one, pr_eta, id_laws_toMem]) (fun m hm => by
      simp only [stx_laws_toMemS_29, st_laws_toMemS_29, ltb_f (Int.le_refl _), cond_false]) _ (by show _ < 18446744073709551616; omega)
  unfold raw_laws_toMemS n_laws_toMemS
  rw [show mkok (a0.length : Int) 80 = true by rw [mkok_iff]; omega, bif_t, Int.toNat_natCast, hl]
  rfl
noncomputable def con_laws_toMemS : Con := ⟨I_laws_toMemS, U_laws_toMemS, fun x => (fun n => some ((n, ()), ())) (n_laws_toMemS x.1)⟩
theorem ok_laws_toMemS : ConOk Try.prog 64 con_laws_toMemS := (ok0_laws_toMemS).mono (fun x r hk h => (nn_laws_toMemS x.1 hk).trans h)
theorem id_laws_toMemS (a : List dM) : n_laws_toMemS a = a := by kernel_rfl
end

/-! laws_toEnt -/
section
noncomputable def B_laws_toEnt : Code := (Try.f104.body).getD .skip
noncomputable def E_laws_toEnt : Env := envOf TT [(140, con_laws_toIntS)] []
theorem fr_laws_toEnt_0 : FrOk Try.prog ⟨E_laws_toEnt, 12, fun _ => none⟩ B_laws_toEnt := frOk_base mixed tt_ok ⟨ok_laws_toIntS, trivial⟩
noncomputable def D_laws_toEnt_0 : Nat → Option Seg := fun _ => none
abbrev I_laws_toEnt : List Par := [.rd tW]
abbrev U_laws_toEnt : List OT := [⟨false, tW, (.pr .fz (.ow .fz))⟩]
noncomputable def raw_laws_toEnt (a0 : dW) : Option (ResD U_laws_toEnt × MutD I_laws_toEnt) :=
  let r1 := n_laws_toIntS a0.2
  some (((a0.1, r1), ()), ())
theorem e_laws_toEnt (x : InD I_laws_toEnt) : execF ⟨E_laws_toEnt, 12, D_laws_toEnt_0⟩ Try.f104.results.toList B_laws_toEnt I_laws_toEnt U_laws_toEnt x = raw_laws_toEnt x.1 := by kernel_rfl
theorem ok0_laws_toEnt : ConOk Try.prog 104 ⟨I_laws_toEnt, U_laws_toEnt, fun x => raw_laws_toEnt x.1⟩ := conOk_exec (fr_laws_toEnt_0) Try.func104 (by kernel_rfl) (by kernel_rfl) Try.ntmps104.symm (by decide) (fun x r h => (e_laws_toEnt x).trans h)
noncomputable def n_laws_toEnt (a0 : dW) : dW :=
  let r1 := n_laws_toIntS a0.2
  (a0.1, r1)
noncomputable def con_laws_toEnt : Con := ⟨I_laws_toEnt, U_laws_toEnt, fun x => (fun n => some ((n, ()), ())) (n_laws_toEnt x.1)⟩
theorem nn_laws_toEnt (a0 : dW) : raw_laws_toEnt a0 = (fun n => some ((n, ()), ())) (n_laws_toEnt a0) := bif_ty (p := fun (n : dW) => ((n, ()), ())) rfl
theorem ok_laws_toEnt : ConOk Try.prog 104 con_laws_toEnt := (ok0_laws_toEnt).mono (fun x r _ h => (nn_laws_toEnt x.1).trans h)
theorem id_laws_toEnt (a : dW) : n_laws_toEnt a = a := by kernel_rfl
end

/-! laws_toEntS -/
section
noncomputable def B_laws_toEntS : Code := (Try.f65.body).getD .skip
noncomputable def E_laws_toEntS : Env := envOf TT [(104, con_laws_toEnt)] []
theorem fr_laws_toEntS_0 : FrOk Try.prog ⟨E_laws_toEntS, 23, fun _ => none⟩ B_laws_toEntS := frOk_base mixed tt_ok ⟨ok_laws_toEnt, trivial⟩
noncomputable def D_laws_toEntS_0 : Nat → Option Seg := fun _ => none
def L_laws_toEntS_29 : Shape := ⟨[(0, false, [.br tW]), (3, false, [.at 800000000]), (4, false, [.int .i64])], [], [(800000000, tW, (.pr .fz (.ow .fz)))]⟩
def S_laws_toEntS_29 : Shape := ⟨[(0, false, [.br tW]), (3, false, [.at 800000000]), (4, false, [.ci .i64 0])], [], [(800000000, tW, (.pr .fz (.ow .fz)))]⟩
def O_laws_toEntS_29 : Shape := ⟨[(3, false, [.at 800000000])], [], [(800000000, tW, (.pr .fz (.ow .fz)))]⟩
def Z_laws_toEntS_29 : Shape := ⟨[], [], []⟩
noncomputable def st_laws_toEntS_29 (v0 : List dW) (v1 : Int) (v2 : List dW) : Option ((L_laws_toEntS_29).X ⊕ ((O_laws_toEntS_29).X ⊕ (Z_laws_toEntS_29).X)) :=
  bif (ltb v1 (v0.length : Int)) then
    bif (inb v1 v0.length) then
      let r2 := n_laws_toEnt (nth v0 v1 (0, []))
      bif (inb v1 v2.length) then
        some (.inl (((v0, ()), ((), ()), ((IntKind.i64.wrap (v1 + 1)), ()), ()), (), ((v2.set (v1).toNat r2), ())))
      else none
    else none
  else
    some (.inr (.inl ((((), ()), ()), (), (v2, ()))))
noncomputable def stx_laws_toEntS_29 (x : (L_laws_toEntS_29).X) := st_laws_toEntS_29 x.1.1.1 x.1.2.2.1.1 x.2.2.1
def em_laws_toEntS_29 (x : (S_laws_toEntS_29).X) : (L_laws_toEntS_29).X := (((x.1.1.1, ()), ((), ()), (0, ()), ()), (), (x.2.2.1, ()))
noncomputable def c_laws_toEntS_29 : Code := (subN B_laws_toEntS 64 116).getD .skip
theorem a_laws_toEntS_29 : subN B_laws_toEntS 64 29 = some (.block 0 (.loop c_laws_toEntS_29)) := by kernel_rfl
theorem r_laws_toEntS_29 (x : (L_laws_toEntS_29).X) : roundT ⟨E_laws_toEntS, 23, D_laws_toEntS_0⟩ 0 c_laws_toEntS_29 116 L_laws_toEntS_29 O_laws_toEntS_29 Z_laws_toEntS_29 x = stx_laws_toEntS_29 x := by kernel_rfl
def fu_laws_toEntS_29 (x : (S_laws_toEntS_29).X) : Nat := 18446744073709551616
noncomputable def F_laws_toEntS_29 (x : (S_laws_toEntS_29).X) : Option ((O_laws_toEntS_29).X ⊕ (Z_laws_toEntS_29).X) := loopN stx_laws_toEntS_29 (fu_laws_toEntS_29 x) (em_laws_toEntS_29 x)
noncomputable def sg_laws_toEntS_29 : Seg := ⟨S_laws_toEntS_29, O_laws_toEntS_29, Z_laws_toEntS_29, F_laws_toEntS_29⟩
noncomputable def D_laws_toEntS_1 : Nat → Option Seg := fun q => bif Nat.beq q 29 then some sg_laws_toEntS_29 else D_laws_toEntS_0 q
theorem fr_laws_toEntS_1 : FrOk Try.prog ⟨E_laws_toEntS, 23, D_laws_toEntS_1⟩ B_laws_toEntS := (fr_laws_toEntS_0).loop (sg := sg_laws_toEntS_29) L_laws_toEntS_29 em_laws_toEntS_29 (by decide) a_laws_toEntS_29 stx_laws_toEntS_29 fu_laws_toEntS_29 (by decide) (fun _ => rfl) (fun x r _ h => h) r_laws_toEntS_29
abbrev I_laws_toEntS : List Par := [.rd tWs]
abbrev U_laws_toEntS : List OT := [⟨false, tWs, (.ow (.pr .fz (.ow .fz)))⟩]
noncomputable def raw_laws_toEntS (a0 : List dW) : Option (ResD U_laws_toEntS × MutD I_laws_toEntS) :=
  bif (mkok (a0.length : Int) 32) then
    segM (F_laws_toEntS_29 (((a0, ()), ((), ()), ((), ()), ()), (), ((List.replicate ((a0.length : Int)).toNat ((0, []) : dW)), ()))) (fun y2 =>
      some ((y2.2.2.1, ()), ())) (fun y2 =>
      none)
  else none
theorem e_laws_toEntS (x : InD I_laws_toEntS) : execF ⟨E_laws_toEntS, 23, D_laws_toEntS_1⟩ Try.f65.results.toList B_laws_toEntS I_laws_toEntS U_laws_toEntS x = raw_laws_toEntS x.1 := by kernel_rfl
theorem ok0_laws_toEntS : ConOk Try.prog 65 ⟨I_laws_toEntS, U_laws_toEntS, fun x => raw_laws_toEntS x.1⟩ := conOk_exec (fr_laws_toEntS_1) Try.func65 (by kernel_rfl) (by kernel_rfl) Try.ntmps65.symm (by decide) (fun x r h => (e_laws_toEntS x).trans h)
noncomputable def n_laws_toEntS (a0 : List (dW)) : List (dW) := a0
theorem nn_laws_toEntS (a0 : List (dW)) (hk : InOk I_laws_toEntS (a0, ())) : raw_laws_toEntS a0 = (fun n => some ((n, ()), ())) (n_laws_toEntS a0) := by
  have hb : a0.length * 32 ≤ 2 ^ 47 := hk.1.1
  have hl : F_laws_toEntS_29 (((a0, ()), ((), ()), ((), ()), ()), (), ((List.replicate a0.length ((0, []) : dW)), ())) = some (.inl ((((), ()), ()), (), (a0, ()))) :=
    loopN_fill (step := stx_laws_toEntS_29) a0 ((0, []) : dW) (fun i m => (((a0, ()), ((), ()), ((i : Int), ()), ()), (), (m, ()))) (fun m => .inl ((((), ()), ()), (), (m, ()))) (fun i m hi hm => by
      simp only [stx_laws_toEntS_29, st_laws_toEntS_29, inb_nat (show i < m.length by omega), inb_nat hi, nth_nat, Int.toNat_natCast, ltb_t (show (i : Int) < a0.length by omega), cond_true, wr (show -9223372036854775808 ≤ (i : Int) + 1 by omega) (by omega), Int.natCast_add, Int.natCast_one, pr_eta, id_laws_toEnt]) (fun m hm => by
      simp only [stx_laws_toEntS_29, st_laws_toEntS_29, ltb_f (Int.le_refl _), cond_false]) _ (by show _ < 18446744073709551616; omega)
  unfold raw_laws_toEntS n_laws_toEntS
  rw [show mkok (a0.length : Int) 32 = true by rw [mkok_iff]; omega, bif_t, Int.toNat_natCast, hl]
  rfl
noncomputable def con_laws_toEntS : Con := ⟨I_laws_toEntS, U_laws_toEntS, fun x => (fun n => some ((n, ()), ())) (n_laws_toEntS x.1)⟩
theorem ok_laws_toEntS : ConOk Try.prog 65 con_laws_toEntS := (ok0_laws_toEntS).mono (fun x r hk h => (nn_laws_toEntS x.1 hk).trans h)
theorem id_laws_toEntS (a : List dW) : n_laws_toEntS a = a := by kernel_rfl
end
end Go.Tf
