/- Functions of the program, and what they come to. -/
import Derived.Test.YtfpjmijaiekbgaaGreatExactBuildStepF0
namespace Go.Tf
open Go.Proofs
set_option synthInstance.maxHeartbeats 400000
set_option synthInstance.maxSize 10000
set_option linter.unusedVariables false
set_option linter.unusedSimpArgs false
set_option maxRecDepth 100000
/-! laws_szEnt -/
section
noncomputable def B_laws_szEnt : Code := (Tryz.f140.body).getD .skip
noncomputable def E_laws_szEnt : Env := envOf TT [(185, con_laws_szIntS)] []
theorem fr_laws_szEnt_0 : FrOk Tryz.prog ⟨E_laws_szEnt, 12, fun _ => none⟩ B_laws_szEnt := frOk_base mixed tt_ok ⟨ok_laws_szIntS, trivial⟩
noncomputable def D_laws_szEnt_0 : Nat → Option Seg := fun _ => none
abbrev I_laws_szEnt : List Par := [.rd tW, .rd tI]
abbrev U_laws_szEnt : List OT := [⟨false, tI, .fz⟩]
noncomputable def raw_laws_szEnt (a0 : dW) (a1 : Int) : Option (ResD U_laws_szEnt × MutD I_laws_szEnt) :=
  let r1 := n_laws_szIntS a0.2 a1
  bif (ltb r1 0) then
    some (((-1), ()), ())
  else
    some ((r1, ()), ())
theorem e_laws_szEnt (x : InD I_laws_szEnt) : execF ⟨E_laws_szEnt, 12, D_laws_szEnt_0⟩ Tryz.f140.results.toList B_laws_szEnt I_laws_szEnt U_laws_szEnt x = raw_laws_szEnt x.1 x.2.1 := by kernel_rfl
theorem ok0_laws_szEnt : ConOk Tryz.prog 140 ⟨I_laws_szEnt, U_laws_szEnt, fun x => raw_laws_szEnt x.1 x.2.1⟩ := conOk_exec (fr_laws_szEnt_0) Tryz.func140 (by kernel_rfl) (by kernel_rfl) Tryz.ntmps140.symm (by decide) (fun x r h => (e_laws_szEnt x).trans h)
noncomputable def n_laws_szEnt (a0 : dW) (a1 : Int) : Int :=
  let r1 := n_laws_szIntS a0.2 a1
  bif (ltb r1 0) then
    (-1)
  else
    r1
noncomputable def con_laws_szEnt : Con := ⟨I_laws_szEnt, U_laws_szEnt, fun x => (fun n => some ((n, ()), ())) (n_laws_szEnt x.1 x.2.1)⟩
theorem nn_laws_szEnt (a0 : dW) (a1 : Int) : raw_laws_szEnt a0 a1 = (fun n => some ((n, ()), ())) (n_laws_szEnt a0 a1) := bif_ty (p := fun (n : Int) => ((n, ()), ())) (bif_some (p := fun (n : Int) => ((n, ()), ())) rfl rfl)
theorem ok_laws_szEnt : ConOk Tryz.prog 140 con_laws_szEnt := (ok0_laws_szEnt).mono (fun x r _ h => (nn_laws_szEnt x.1 x.2.1).trans h)
end

/-! laws_szEntS -/
section
noncomputable def B_laws_szEntS : Code := (Tryz.f63.body).getD .skip
noncomputable def E_laws_szEntS : Env := envOf TT [(140, con_laws_szEnt)] []
theorem fr_laws_szEntS_0 : FrOk Tryz.prog ⟨E_laws_szEntS, 27, fun _ => none⟩ B_laws_szEntS := frOk_base mixed tt_ok ⟨ok_laws_szEnt, trivial⟩
noncomputable def D_laws_szEntS_0 : Nat → Option Seg := fun _ => none
def L_laws_szEntS_61 : Shape := ⟨[(0, false, [.br tW]), (1, false, [.int .i64]), (5, false, [.int .i64])], [], []⟩
def S_laws_szEntS_61 : Shape := ⟨[(0, false, [.br tW]), (1, false, [.int .i64]), (5, false, [.ci .i64 0])], [], []⟩
def O_laws_szEntS_61 : Shape := ⟨[(1, false, [.int .i64])], [], []⟩
def Z_laws_szEntS_61 : Shape := ⟨[(4, false, [.int .i64])], [], []⟩
noncomputable def st_laws_szEntS_61 (v0 : List dW) (v1 : Int) (v2 : Int) : Option ((L_laws_szEntS_61).X ⊕ ((O_laws_szEntS_61).X ⊕ (Z_laws_szEntS_61).X)) :=
  bif (ltb v2 (v0.length : Int)) then
    bif (inb v2 v0.length) then
      let r2 := n_laws_szEnt (nth v0 v2 (0, [])) v1
      bif (ltb r2 0) then
        some (.inr (.inr ((((-1), ()), ()), (), ())))
      else
        some (.inl (((v0, ()), (r2, ()), ((IntKind.i64.wrap (v2 + 1)), ()), ()), (), ()))
    else none
  else
    some (.inr (.inl (((v1, ()), ()), (), ())))
noncomputable def stx_laws_szEntS_61 (x : (L_laws_szEntS_61).X) := st_laws_szEntS_61 x.1.1.1 x.1.2.1.1 x.1.2.2.1.1
def em_laws_szEntS_61 (x : (S_laws_szEntS_61).X) : (L_laws_szEntS_61).X := (((x.1.1.1, ()), (x.1.2.1.1, ()), (0, ()), ()), (), ())
noncomputable def c_laws_szEntS_61 : Code := (subN B_laws_szEntS 64 244).getD .skip
theorem a_laws_szEntS_61 : subN B_laws_szEntS 64 61 = some (.block 0 (.loop c_laws_szEntS_61)) := by kernel_rfl
theorem r_laws_szEntS_61 (x : (L_laws_szEntS_61).X) : roundT ⟨E_laws_szEntS, 27, D_laws_szEntS_0⟩ 0 c_laws_szEntS_61 244 L_laws_szEntS_61 O_laws_szEntS_61 Z_laws_szEntS_61 x = stx_laws_szEntS_61 x := by kernel_rfl
noncomputable def fu_laws_szEntS_61 (x : (S_laws_szEntS_61).X) : Nat := (fun (u0 : List dW) (u1 : Int) => 18446744073709551616) x.1.1.1 x.1.2.1.1
noncomputable def F_laws_szEntS_61 (x : (S_laws_szEntS_61).X) : Option ((O_laws_szEntS_61).X ⊕ (Z_laws_szEntS_61).X) := loopN stx_laws_szEntS_61 (fu_laws_szEntS_61 x) (em_laws_szEntS_61 x)
noncomputable def sg_laws_szEntS_61 : Seg := ⟨S_laws_szEntS_61, O_laws_szEntS_61, Z_laws_szEntS_61, F_laws_szEntS_61⟩
noncomputable def D_laws_szEntS_1 : Nat → Option Seg := fun q => bif Nat.beq q 61 then some sg_laws_szEntS_61 else D_laws_szEntS_0 q
theorem fr_laws_szEntS_1 : FrOk Tryz.prog ⟨E_laws_szEntS, 27, D_laws_szEntS_1⟩ B_laws_szEntS := (fr_laws_szEntS_0).loop (sg := sg_laws_szEntS_61) L_laws_szEntS_61 em_laws_szEntS_61 (by decide) a_laws_szEntS_61 stx_laws_szEntS_61 fu_laws_szEntS_61 (by decide) (fun _ => rfl) (fun x r _ h => h) r_laws_szEntS_61
abbrev I_laws_szEntS : List Par := [.rd tWs, .rd tI]
abbrev U_laws_szEntS : List OT := [⟨false, tI, .fz⟩]
noncomputable def raw_laws_szEntS (a0 : List dW) (a1 : Int) : Option (ResD U_laws_szEntS × MutD I_laws_szEntS) :=
  bif (ltb (IntKind.i64.wrap (a1 - (a0.length : Int))) 0) then
    some (((-1), ()), ())
  else
    segM (F_laws_szEntS_61 (((a0, ()), ((IntKind.i64.wrap (a1 - (a0.length : Int))), ()), ((), ()), ()), (), ())) (fun y2 =>
      some ((y2.1.1.1, ()), ())) (fun y2 =>
      some ((y2.1.1.1, ()), ()))
theorem e_laws_szEntS (x : InD I_laws_szEntS) : execF ⟨E_laws_szEntS, 27, D_laws_szEntS_1⟩ Tryz.f63.results.toList B_laws_szEntS I_laws_szEntS U_laws_szEntS x = raw_laws_szEntS x.1 x.2.1 := by kernel_rfl
theorem ok0_laws_szEntS : ConOk Tryz.prog 63 ⟨I_laws_szEntS, U_laws_szEntS, fun x => raw_laws_szEntS x.1 x.2.1⟩ := conOk_exec (fr_laws_szEntS_1) Tryz.func63 (by kernel_rfl) (by kernel_rfl) Tryz.ntmps63.symm (by decide) (fun x r h => (e_laws_szEntS x).trans h)
noncomputable def n_laws_szEntS (a0 : List (dW)) (a1 : Int) : Int := bif ltb (IntKind.i64.wrap (a1 - (a0.length : Int))) 0 then (-1) else (szG n_laws_szEnt a0 (IntKind.i64.wrap (a1 - (a0.length : Int)))).getD (-1)
theorem nn_laws_szEntS (a0 : List (dW)) (a1 : Int) (hk : InOk I_laws_szEntS (a0, a1, ())) : raw_laws_szEntS a0 a1 = (fun n => some ((n, ()), ())) (n_laws_szEntS a0 a1) := by
  have hb : a0.length * 32 ≤ 2 ^ 47 := hk.1.1
  have hl : ∀ k : Int, F_laws_szEntS_61 (((a0, ()), (k, ()), ((), ()), ()), (), ()) = some (match szG n_laws_szEnt a0 k with | some r => .inl (((r, ()), ()), (), ()) | none => .inr ((((-1), ()), ()), (), ())) := fun k =>
    loopN_sz (step := stx_laws_szEntS_61) a0 ((0, []) : dW) (fun i k => (((a0, ()), (k, ()), ((i : Int), ()), ()), (), ())) n_laws_szEnt (fun r => .inl (((r, ()), ()), (), ())) (.inr ((((-1), ()), ()), (), ())) (fun i s hi => by
      simp only [stx_laws_szEntS_61, st_laws_szEntS_61, inb_nat hi, nth_nat, Int.toNat_natCast, ltb_t (show (i : Int) < a0.length by omega), cond_true, wr (show -9223372036854775808 ≤ (i : Int) + 1 by omega) (by omega), Int.natCast_add, Int.natCast_one, pr_eta]
      cases ltb (n_laws_szEnt (a0.getD i (0, [])) s) 0 <;> rfl) (fun s => by simp only [stx_laws_szEntS_61, st_laws_szEntS_61, ltb_f (Int.le_refl _), cond_false]) k _ (by show _ < 18446744073709551616; omega)
  unfold raw_laws_szEntS n_laws_szEntS
  rw [hl]
  cases ltb (IntKind.i64.wrap (a1 - (a0.length : Int))) 0
  · cases szG n_laws_szEnt a0 (IntKind.i64.wrap (a1 - (a0.length : Int))) <;> rfl
  · rfl
noncomputable def con_laws_szEntS : Con := ⟨I_laws_szEntS, U_laws_szEntS, fun x => (fun n => some ((n, ()), ())) (n_laws_szEntS x.1 x.2.1)⟩
theorem ok_laws_szEntS : ConOk Tryz.prog 63 con_laws_szEntS := (ok0_laws_szEntS).mono (fun x r hk h => (nn_laws_szEntS x.1 x.2.1 hk).trans h)
end

/-! laws_szArr -/
section
noncomputable def B_laws_szArr : Code := (Tryz.f13.body).getD .skip
noncomputable def E_laws_szArr : Env := envOf TT [(35, con_laws_szMemS), (63, con_laws_szEntS)] []
theorem fr_laws_szArr_0 : FrOk Tryz.prog ⟨E_laws_szArr, 18, fun _ => none⟩ B_laws_szArr := frOk_base mixed tt_ok ⟨ok_laws_szMemS, ok_laws_szEntS, trivial⟩
noncomputable def D_laws_szArr_0 : Nat → Option Seg := fun _ => none
abbrev I_laws_szArr : List Par := [.rd tA, .rd tI]
abbrev U_laws_szArr : List OT := [⟨false, tI, .fz⟩]
noncomputable def raw_laws_szArr (a0 : dA) (a1 : Int) : Option (ResD U_laws_szArr × MutD I_laws_szArr) :=
  let r1 := n_laws_szMemS a0.2.2.1 a1
  bif (ltb r1 0) then
    some (((-1), ()), ())
  else
    let r2 := n_laws_szEntS a0.2.2.2.2.2.2.2.2.1 r1
    bif (ltb r2 0) then
      some (((-1), ()), ())
    else
      some ((r2, ()), ())
theorem e_laws_szArr (x : InD I_laws_szArr) : execF ⟨E_laws_szArr, 18, D_laws_szArr_0⟩ Tryz.f13.results.toList B_laws_szArr I_laws_szArr U_laws_szArr x = raw_laws_szArr x.1 x.2.1 := by kernel_rfl
theorem ok0_laws_szArr : ConOk Tryz.prog 13 ⟨I_laws_szArr, U_laws_szArr, fun x => raw_laws_szArr x.1 x.2.1⟩ := conOk_exec (fr_laws_szArr_0) Tryz.func13 (by kernel_rfl) (by kernel_rfl) Tryz.ntmps13.symm (by decide) (fun x r h => (e_laws_szArr x).trans h)
noncomputable def n_laws_szArr (a0 : dA) (a1 : Int) : Int :=
  let r1 := n_laws_szMemS a0.2.2.1 a1
  bif (ltb r1 0) then
    (-1)
  else
    let r2 := n_laws_szEntS a0.2.2.2.2.2.2.2.2.1 r1
    bif (ltb r2 0) then
      (-1)
    else
      r2
noncomputable def con_laws_szArr : Con := ⟨I_laws_szArr, U_laws_szArr, fun x => (fun n => some ((n, ()), ())) (n_laws_szArr x.1 x.2.1)⟩
theorem nn_laws_szArr (a0 : dA) (a1 : Int) : raw_laws_szArr a0 a1 = (fun n => some ((n, ()), ())) (n_laws_szArr a0 a1) := bif_ty (p := fun (n : Int) => ((n, ()), ())) (bif_some (p := fun (n : Int) => ((n, ()), ())) rfl (bif_some (p := fun (n : Int) => ((n, ()), ())) rfl rfl))
theorem ok_laws_szArr : ConOk Tryz.prog 13 con_laws_szArr := (ok0_laws_szArr).mono (fun x r _ h => (nn_laws_szArr x.1 x.2.1).trans h)
theorem szEntS_le {l : List dW} {k : Int} (h0 : 0 ≤ k) (h1 : k ≤ 1048576) (hl : l.length * 32 ≤ 2 ^ 47) (hx : ∀ x ∈ l, x.2.length * 8 ≤ 2 ^ 47) (h : 0 ≤ n_laws_szEntS l k) : ((l.length + (l.map (fun x : dW => x.2.length)).sum : Nat) : Int) ≤ k - n_laws_szEntS l k ∧ n_laws_szEntS l k ≤ k :=
  szF_le (fun x hm k h0 h1 h => by
    have := hx x hm
    unfold n_laws_szEnt at h ⊢
    by_cases h2 : n_laws_szIntS x.2 k < 0
    · simp only [ltb_t h2, cond_true] at h; omega
    · simp only [ltb_f (Int.not_lt.1 h2), cond_false] at h ⊢
      have := szIntS_nn h0 h1 (by omega) h2
      omega) h0 h1 (by omega) h
theorem szArr_le {a : dA} (hm : tA.Ok a) (h : ltb (n_laws_szArr a 1048576) 0 = false) : mArr a ≤ 2097152 := by
  have h : 0 ≤ n_laws_szArr a 1048576 := by
    rcases Int.lt_or_le (n_laws_szArr a 1048576) 0 with h3 | h3
    · rw [ltb_t h3] at h; cases h
    · exact h3
  unfold n_laws_szArr at h
  by_cases c1 : n_laws_szMemS a.2.2.1 1048576 < 0
  · simp only [ltb_t c1, cond_true] at h; omega
  simp only [ltb_f (Int.not_lt.1 c1), cond_false] at h
  have e1 := szMemS_le (by omega) (by omega) hm.2.2.1 (Int.not_lt.1 c1)
  by_cases c2 : n_laws_szEntS a.2.2.2.2.2.2.2.2.1 (n_laws_szMemS a.2.2.1 1048576) < 0
  · simp only [ltb_t c2, cond_true] at h; omega
  have e2 := szEntS_le (Int.not_lt.1 c1) (by omega) hm.2.2.2.2.2.2.2.2.1.1 (fun x hx => (hm.2.2.2.2.2.2.2.2.1.2 x hx).2.1) (Int.not_lt.1 c2)
  have e3 := mMems_le (l := a.2.2.1)
  unfold mArr mEnts
  rw [sum_add1 (fun x : dW => x.2.length) 1]
  omega
end

/-! laws_toIntS -/
section
noncomputable def B_laws_toIntS : Code := (Tryz.f38.body).getD .skip
noncomputable def E_laws_toIntS : Env := envOf TT [] []
theorem fr_laws_toIntS_0 : FrOk Tryz.prog ⟨E_laws_toIntS, 22, fun _ => none⟩ B_laws_toIntS := frOk_base mixed tt_ok trivial
noncomputable def D_laws_toIntS_0 : Nat → Option Seg := fun _ => none
def L_laws_toIntS_29 : Shape := ⟨[(0, false, [.br tI]), (3, false, [.at 800000000]), (4, false, [.int .i64])], [], [(800000000, tI, .fz)]⟩
def S_laws_toIntS_29 : Shape := ⟨[(0, false, [.br tI]), (3, false, [.at 800000000]), (4, false, [.ci .i64 0])], [], [(800000000, tI, .fz)]⟩
def O_laws_toIntS_29 : Shape := ⟨[(3, false, [.at 800000000])], [], [(800000000, tI, .fz)]⟩
def Z_laws_toIntS_29 : Shape := ⟨[], [], []⟩
noncomputable def st_laws_toIntS_29 (v0 : List Int) (v1 : Int) (v2 : List Int) : Option ((L_laws_toIntS_29).X ⊕ ((O_laws_toIntS_29).X ⊕ (Z_laws_toIntS_29).X)) :=
  bif (ltb v1 (v0.length : Int)) then
    bif (inb v1 v0.length) then
      bif (inb v1 v2.length) then
        some (.inl (((v0, ()), ((), ()), ((IntKind.i64.wrap (v1 + 1)), ()), ()), (), ((v2.set (v1).toNat (nth v0 v1 0)), ())))
      else none
    else none
  else
    some (.inr (.inl ((((), ()), ()), (), (v2, ()))))
noncomputable def stx_laws_toIntS_29 (x : (L_laws_toIntS_29).X) := st_laws_toIntS_29 x.1.1.1 x.1.2.2.1.1 x.2.2.1
def em_laws_toIntS_29 (x : (S_laws_toIntS_29).X) : (L_laws_toIntS_29).X := (((x.1.1.1, ()), ((), ()), (0, ()), ()), (), (x.2.2.1, ()))
noncomputable def c_laws_toIntS_29 : Code := (subN B_laws_toIntS 64 116).getD .skip
theorem a_laws_toIntS_29 : subN B_laws_toIntS 64 29 = some (.block 0 (.loop c_laws_toIntS_29)) := by kernel_rfl
theorem r_laws_toIntS_29 (x : (L_laws_toIntS_29).X) : roundT ⟨E_laws_toIntS, 22, D_laws_toIntS_0⟩ 0 c_laws_toIntS_29 116 L_laws_toIntS_29 O_laws_toIntS_29 Z_laws_toIntS_29 x = stx_laws_toIntS_29 x := by kernel_rfl
noncomputable def fu_laws_toIntS_29 (x : (S_laws_toIntS_29).X) : Nat := (fun (u0 : List Int) (u1 : List Int) => 18446744073709551616) x.1.1.1 x.2.2.1
noncomputable def F_laws_toIntS_29 (x : (S_laws_toIntS_29).X) : Option ((O_laws_toIntS_29).X ⊕ (Z_laws_toIntS_29).X) := loopN stx_laws_toIntS_29 (fu_laws_toIntS_29 x) (em_laws_toIntS_29 x)
noncomputable def sg_laws_toIntS_29 : Seg := ⟨S_laws_toIntS_29, O_laws_toIntS_29, Z_laws_toIntS_29, F_laws_toIntS_29⟩
noncomputable def D_laws_toIntS_1 : Nat → Option Seg := fun q => bif Nat.beq q 29 then some sg_laws_toIntS_29 else D_laws_toIntS_0 q
theorem fr_laws_toIntS_1 : FrOk Tryz.prog ⟨E_laws_toIntS, 22, D_laws_toIntS_1⟩ B_laws_toIntS := (fr_laws_toIntS_0).loop (sg := sg_laws_toIntS_29) L_laws_toIntS_29 em_laws_toIntS_29 (by decide) a_laws_toIntS_29 stx_laws_toIntS_29 fu_laws_toIntS_29 (by decide) (fun _ => rfl) (fun x r _ h => h) r_laws_toIntS_29
abbrev I_laws_toIntS : List Par := [.rd tL]
abbrev U_laws_toIntS : List OT := [⟨false, tL, (.ow .fz)⟩]
noncomputable def raw_laws_toIntS (a0 : List Int) : Option (ResD U_laws_toIntS × MutD I_laws_toIntS) :=
  bif (mkok (a0.length : Int) 8) then
    segM (F_laws_toIntS_29 (((a0, ()), ((), ()), ((), ()), ()), (), ((List.replicate ((a0.length : Int)).toNat (0 : Int)), ()))) (fun y0 =>
      some ((y0.2.2.1, ()), ())) (fun y0 =>
      none)
  else none
theorem e_laws_toIntS (x : InD I_laws_toIntS) : execF ⟨E_laws_toIntS, 22, D_laws_toIntS_1⟩ Tryz.f38.results.toList B_laws_toIntS I_laws_toIntS U_laws_toIntS x = raw_laws_toIntS x.1 := by kernel_rfl
theorem ok0_laws_toIntS : ConOk Tryz.prog 38 ⟨I_laws_toIntS, U_laws_toIntS, fun x => raw_laws_toIntS x.1⟩ := conOk_exec (fr_laws_toIntS_1) Tryz.func38 (by kernel_rfl) (by kernel_rfl) Tryz.ntmps38.symm (by decide) (fun x r h => (e_laws_toIntS x).trans h)
noncomputable def n_laws_toIntS (a0 : List Int) : List Int := a0
theorem nn_laws_toIntS (a0 : List Int) (hk : InOk I_laws_toIntS (a0, ())) : raw_laws_toIntS a0 = (fun n => some ((n, ()), ())) (n_laws_toIntS a0) := by
  have hb : a0.length * 8 ≤ 2 ^ 47 := hk.1.1
  have hs : ∀ i, i < a0.length → (a0.take i ++ List.replicate (a0.length - i) (0 : Int)).set i (a0.getD i 0) = a0.take (i + 1) ++ List.replicate (a0.length - (i + 1)) 0 := fun i hi => by
    have hl : (a0.take i).length = i := by rw [List.length_take]; omega
    rw [List.set_append_right _ _ (by rw [hl]; exact Nat.le_refl _), hl, Nat.sub_self, List.take_add_one, List.append_assoc, show a0.length - i = (a0.length - (i + 1)) + 1 by omega, List.replicate_succ]
    simp [hi]
  have hl : F_laws_toIntS_29 (((a0, ()), ((), ()), ((), ()), ()), (), ((a0.take 0 ++ List.replicate (a0.length - 0) 0), ())) = some (.inl ((((), ()), ()), (), (a0.take a0.length ++ List.replicate (a0.length - a0.length) 0, ()))) :=
    loopN_up (step := stx_laws_toIntS_29) (fun i => (((a0, ()), ((), ()), ((i : Int), ()), ()), (), (a0.take i ++ List.replicate (a0.length - i) 0, ()))) a0.length _ (fun i hi => by
      have hL : (a0.take i ++ List.replicate (a0.length - i) (0 : Int)).length = a0.length := by rw [List.length_append, List.length_take, List.length_replicate]; omega
      simp only [stx_laws_toIntS_29, st_laws_toIntS_29, hL, inb_nat hi, nth_nat, Int.toNat_natCast, ltb_t (show (i : Int) < a0.length by omega), cond_true, wr (show -9223372036854775808 ≤ (i : Int) + 1 by omega) (by omega), Int.natCast_add, Int.natCast_one, hs i hi]) (by
      simp only [stx_laws_toIntS_29, st_laws_toIntS_29, ltb_f (Int.le_refl _), cond_false]) _ (by show _ < 18446744073709551616; omega)
  unfold raw_laws_toIntS n_laws_toIntS
  rw [List.take_zero, List.nil_append, Nat.sub_zero] at hl
  rw [show mkok (a0.length : Int) 8 = true by rw [mkok_iff]; omega, bif_t, Int.toNat_natCast, hl]
  simp [segM]
noncomputable def con_laws_toIntS : Con := ⟨I_laws_toIntS, U_laws_toIntS, fun x => (fun n => some ((n, ()), ())) (n_laws_toIntS x.1)⟩
theorem ok_laws_toIntS : ConOk Tryz.prog 38 con_laws_toIntS := (ok0_laws_toIntS).mono (fun x r hk h => (nn_laws_toIntS x.1 hk).trans h)
theorem id_laws_toIntS (a : List Int) : n_laws_toIntS a = a := by kernel_rfl
end

/-! laws_toIntSS -/
section
noncomputable def B_laws_toIntSS : Code := (Tryz.f189.body).getD .skip
noncomputable def E_laws_toIntSS : Env := envOf TT [(38, con_laws_toIntS)] []
theorem fr_laws_toIntSS_0 : FrOk Tryz.prog ⟨E_laws_toIntSS, 23, fun _ => none⟩ B_laws_toIntSS := frOk_base mixed tt_ok ⟨ok_laws_toIntS, trivial⟩
noncomputable def D_laws_toIntSS_0 : Nat → Option Seg := fun _ => none
def L_laws_toIntSS_29 : Shape := ⟨[(0, false, [.br tL]), (3, false, [.at 800000000]), (4, false, [.int .i64])], [], [(800000000, tL, (.ow .fz))]⟩
def S_laws_toIntSS_29 : Shape := ⟨[(0, false, [.br tL]), (3, false, [.at 800000000]), (4, false, [.ci .i64 0])], [], [(800000000, tL, (.ow .fz))]⟩
def O_laws_toIntSS_29 : Shape := ⟨[(3, false, [.at 800000000])], [], [(800000000, tL, (.ow .fz))]⟩
def Z_laws_toIntSS_29 : Shape := ⟨[], [], []⟩
noncomputable def st_laws_toIntSS_29 (v0 : List (List Int)) (v1 : Int) (v2 : List (List Int)) : Option ((L_laws_toIntSS_29).X ⊕ ((O_laws_toIntSS_29).X ⊕ (Z_laws_toIntSS_29).X)) :=
  bif (ltb v1 (v0.length : Int)) then
    bif (inb v1 v0.length) then
      let r2 := n_laws_toIntS (nth v0 v1 [])
      bif (inb v1 v2.length) then
        some (.inl (((v0, ()), ((), ()), ((IntKind.i64.wrap (v1 + 1)), ()), ()), (), ((v2.set (v1).toNat r2), ())))
      else none
    else none
  else
    some (.inr (.inl ((((), ()), ()), (), (v2, ()))))
noncomputable def stx_laws_toIntSS_29 (x : (L_laws_toIntSS_29).X) := st_laws_toIntSS_29 x.1.1.1 x.1.2.2.1.1 x.2.2.1
def em_laws_toIntSS_29 (x : (S_laws_toIntSS_29).X) : (L_laws_toIntSS_29).X := (((x.1.1.1, ()), ((), ()), (0, ()), ()), (), (x.2.2.1, ()))
noncomputable def c_laws_toIntSS_29 : Code := (subN B_laws_toIntSS 64 116).getD .skip
theorem a_laws_toIntSS_29 : subN B_laws_toIntSS 64 29 = some (.block 0 (.loop c_laws_toIntSS_29)) := by kernel_rfl
theorem r_laws_toIntSS_29 (x : (L_laws_toIntSS_29).X) : roundT ⟨E_laws_toIntSS, 23, D_laws_toIntSS_0⟩ 0 c_laws_toIntSS_29 116 L_laws_toIntSS_29 O_laws_toIntSS_29 Z_laws_toIntSS_29 x = stx_laws_toIntSS_29 x := by kernel_rfl
noncomputable def fu_laws_toIntSS_29 (x : (S_laws_toIntSS_29).X) : Nat := (fun (u0 : List (List Int)) (u1 : List (List Int)) => 18446744073709551616) x.1.1.1 x.2.2.1
noncomputable def F_laws_toIntSS_29 (x : (S_laws_toIntSS_29).X) : Option ((O_laws_toIntSS_29).X ⊕ (Z_laws_toIntSS_29).X) := loopN stx_laws_toIntSS_29 (fu_laws_toIntSS_29 x) (em_laws_toIntSS_29 x)
noncomputable def sg_laws_toIntSS_29 : Seg := ⟨S_laws_toIntSS_29, O_laws_toIntSS_29, Z_laws_toIntSS_29, F_laws_toIntSS_29⟩
noncomputable def D_laws_toIntSS_1 : Nat → Option Seg := fun q => bif Nat.beq q 29 then some sg_laws_toIntSS_29 else D_laws_toIntSS_0 q
theorem fr_laws_toIntSS_1 : FrOk Tryz.prog ⟨E_laws_toIntSS, 23, D_laws_toIntSS_1⟩ B_laws_toIntSS := (fr_laws_toIntSS_0).loop (sg := sg_laws_toIntSS_29) L_laws_toIntSS_29 em_laws_toIntSS_29 (by decide) a_laws_toIntSS_29 stx_laws_toIntSS_29 fu_laws_toIntSS_29 (by decide) (fun _ => rfl) (fun x r _ h => h) r_laws_toIntSS_29
abbrev I_laws_toIntSS : List Par := [.rd tLL]
abbrev U_laws_toIntSS : List OT := [⟨false, tLL, (.ow (.ow .fz))⟩]
noncomputable def raw_laws_toIntSS (a0 : List (List Int)) : Option (ResD U_laws_toIntSS × MutD I_laws_toIntSS) :=
  bif (mkok (a0.length : Int) 24) then
    segM (F_laws_toIntSS_29 (((a0, ()), ((), ()), ((), ()), ()), (), ((List.replicate ((a0.length : Int)).toNat ([] : List Int)), ()))) (fun y2 =>
      some ((y2.2.2.1, ()), ())) (fun y2 =>
      none)
  else none
theorem e_laws_toIntSS (x : InD I_laws_toIntSS) : execF ⟨E_laws_toIntSS, 23, D_laws_toIntSS_1⟩ Tryz.f189.results.toList B_laws_toIntSS I_laws_toIntSS U_laws_toIntSS x = raw_laws_toIntSS x.1 := by kernel_rfl
theorem ok0_laws_toIntSS : ConOk Tryz.prog 189 ⟨I_laws_toIntSS, U_laws_toIntSS, fun x => raw_laws_toIntSS x.1⟩ := conOk_exec (fr_laws_toIntSS_1) Tryz.func189 (by kernel_rfl) (by kernel_rfl) Tryz.ntmps189.symm (by decide) (fun x r h => (e_laws_toIntSS x).trans h)
noncomputable def n_laws_toIntSS (a0 : List (List Int)) : List (List Int) := a0
theorem nn_laws_toIntSS (a0 : List (List Int)) (hk : InOk I_laws_toIntSS (a0, ())) : raw_laws_toIntSS a0 = (fun n => some ((n, ()), ())) (n_laws_toIntSS a0) := by
  have hb : a0.length * 24 ≤ 2 ^ 47 := hk.1.1
  have hl : F_laws_toIntSS_29 (((a0, ()), ((), ()), ((), ()), ()), (), ((List.replicate a0.length ([] : List Int)), ())) = some (.inl ((((), ()), ()), (), (a0, ()))) :=
    loopN_fill (step := stx_laws_toIntSS_29) a0 ([] : List Int) (fun i m => (((a0, ()), ((), ()), ((i : Int), ()), ()), (), (m, ()))) (fun m => .inl ((((), ()), ()), (), (m, ()))) (fun i m hi hm => by
      simp only [stx_laws_toIntSS_29, st_laws_toIntSS_29, inb_nat (show i < m.length by omega), inb_nat hi, nth_nat, Int.toNat_natCast, ltb_t (show (i : Int) < a0.length by omega), cond_true, wr (show -9223372036854775808 ≤ (i : Int) + 1 by omega) (by omega), Int.natCast_add, Int.natCast_one, pr_eta, id_laws_toIntS]) (fun m hm => by
      simp only [stx_laws_toIntSS_29, st_laws_toIntSS_29, ltb_f (Int.le_refl _), cond_false]) _ (by show _ < 18446744073709551616; omega)
  unfold raw_laws_toIntSS n_laws_toIntSS
  rw [show mkok (a0.length : Int) 24 = true by rw [mkok_iff]; omega, bif_t, Int.toNat_natCast, hl]
  rfl
noncomputable def con_laws_toIntSS : Con := ⟨I_laws_toIntSS, U_laws_toIntSS, fun x => (fun n => some ((n, ()), ())) (n_laws_toIntSS x.1)⟩
theorem ok_laws_toIntSS : ConOk Tryz.prog 189 con_laws_toIntSS := (ok0_laws_toIntSS).mono (fun x r hk h => (nn_laws_toIntSS x.1 hk).trans h)
theorem id_laws_toIntSS (a : List (List Int)) : n_laws_toIntSS a = a := by kernel_rfl
end

/-! laws_toWr -/
section
noncomputable def B_laws_toWr : Code := (Tryz.f238.body).getD .skip
noncomputable def E_laws_toWr : Env := envOf TT [(38, con_laws_toIntS)] []
theorem fr_laws_toWr_0 : FrOk Tryz.prog ⟨E_laws_toWr, 12, fun _ => none⟩ B_laws_toWr := frOk_base mixed tt_ok ⟨ok_laws_toIntS, trivial⟩
noncomputable def D_laws_toWr_0 : Nat → Option Seg := fun _ => none
abbrev I_laws_toWr : List Par := [.rd tW]
abbrev U_laws_toWr : List OT := [⟨false, tW, (.pr .fz (.ow .fz))⟩]
noncomputable def raw_laws_toWr (a0 : dW) : Option (ResD U_laws_toWr × MutD I_laws_toWr) :=
  let r1 := n_laws_toIntS a0.2
  some (((a0.1, r1), ()), ())
theorem e_laws_toWr (x : InD I_laws_toWr) : execF ⟨E_laws_toWr, 12, D_laws_toWr_0⟩ Tryz.f238.results.toList B_laws_toWr I_laws_toWr U_laws_toWr x = raw_laws_toWr x.1 := by kernel_rfl
theorem ok0_laws_toWr : ConOk Tryz.prog 238 ⟨I_laws_toWr, U_laws_toWr, fun x => raw_laws_toWr x.1⟩ := conOk_exec (fr_laws_toWr_0) Tryz.func238 (by kernel_rfl) (by kernel_rfl) Tryz.ntmps238.symm (by decide) (fun x r h => (e_laws_toWr x).trans h)
noncomputable def n_laws_toWr (a0 : dW) : dW :=
  let r1 := n_laws_toIntS a0.2
  (a0.1, r1)
noncomputable def con_laws_toWr : Con := ⟨I_laws_toWr, U_laws_toWr, fun x => (fun n => some ((n, ()), ())) (n_laws_toWr x.1)⟩
theorem nn_laws_toWr (a0 : dW) : raw_laws_toWr a0 = (fun n => some ((n, ()), ())) (n_laws_toWr a0) := bif_ty (p := fun (n : dW) => ((n, ()), ())) rfl
theorem ok_laws_toWr : ConOk Tryz.prog 238 con_laws_toWr := (ok0_laws_toWr).mono (fun x r _ h => (nn_laws_toWr x.1).trans h)
theorem id_laws_toWr (a : dW) : n_laws_toWr a = a := by kernel_rfl
end
end Go.Tf
