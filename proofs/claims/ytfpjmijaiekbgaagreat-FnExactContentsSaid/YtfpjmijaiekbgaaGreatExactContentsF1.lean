/- Functions of the program, and what they come to. -/
import Derived.Test.YtfpjmijaiekbgaaGreatExactContentsF0
namespace Go.Tf
open Go.Proofs
set_option synthInstance.maxHeartbeats 400000
set_option synthInstance.maxSize 10000
set_option linter.unusedVariables false
set_option linter.unusedSimpArgs false
set_option maxRecDepth 100000
/-! laws_szEnt -/
section
noncomputable def B_laws_szEnt : Code := (Tryz.f140.body).getD .skip
noncomputable def E_laws_szEnt : Env := envOf TT [(185, con_laws_szIntS)] []
theorem fr_laws_szEnt_0 : FrOk Tryz.prog ⟨E_laws_szEnt, 12, fun _ => none⟩ B_laws_szEnt := frOk_base mixed tt_ok ⟨ok_laws_szIntS, trivial⟩
noncomputable def D_laws_szEnt_0 : Nat → Option Seg := fun _ => none
abbrev I_laws_szEnt : List Par := [.rd tW, .rd tI]
abbrev U_laws_szEnt : List OT := [⟨false, tI, .fz⟩]
noncomputable def raw_laws_szEnt (a0 : dW) (a1 : Int) : Option (ResD U_laws_szEnt × MutD I_laws_szEnt) :=
  let r1 := n_laws_szIntS a0.2 a1
  bif (ltb r1 0) then
    some (((-1), ()), ())
  else
    some ((r1, ()), ())
theorem e_laws_szEnt (x : InD I_laws_szEnt) : execF ⟨E_laws_szEnt, 12, D_laws_szEnt_0⟩ Tryz.f140.results.toList B_laws_szEnt I_laws_szEnt U_laws_szEnt x = raw_laws_szEnt x.1 x.2.1 := by kernel_rfl
theorem ok0_laws_szEnt : ConOk Tryz.prog 140 ⟨I_laws_szEnt, U_laws_szEnt, fun x => raw_laws_szEnt x.1 x.2.1⟩ := conOk_exec (fr_laws_szEnt_0) Tryz.func140 (by kernel_rfl) (by kernel_rfl) Tryz.ntmps140.symm (by decide) (fun x r h => (e_laws_szEnt x).trans h)
noncomputable def n_laws_szEnt (a0 : dW) (a1 : Int) : Int :=
  let r1 := n_laws_szIntS a0.2 a1
  bif (ltb r1 0) then
    (-1)
  else
    r1
noncomputable def con_laws_szEnt : Con := ⟨I_laws_szEnt, U_laws_szEnt, fun x => (fun n => some ((n, ()), ())) (n_laws_szEnt x.1 x.2.1)⟩
theorem nn_laws_szEnt (a0 : dW) (a1 : Int) : raw_laws_szEnt a0 a1 = (fun n => some ((n, ()), ())) (n_laws_szEnt a0 a1) := bif_ty (p := fun (n : Int) => ((n, ()), ())) (bif_some (p := fun (n : Int) => ((n, ()), ())) rfl rfl)
theorem ok_laws_szEnt : ConOk Tryz.prog 140 con_laws_szEnt := (ok0_laws_szEnt).mono (fun x r _ h => (nn_laws_szEnt x.1 x.2.1).trans h)
end

/-! laws_szEntS -/
section
noncomputable def B_laws_szEntS : Code := (Tryz.f63.body).getD .skip
noncomputable def E_laws_szEntS : Env := envOf TT [(140, con_laws_szEnt)] []
theorem fr_laws_szEntS_0 : FrOk Tryz.prog ⟨E_laws_szEntS, 27, fun _ => none⟩ B_laws_szEntS := frOk_base mixed tt_ok ⟨ok_laws_szEnt, trivial⟩
noncomputable def D_laws_szEntS_0 : Nat → Option Seg := fun _ => none
def L_laws_szEntS_61 : Shape := ⟨[(0, false, [.br tW]), (1, false, [.int .i64]), (5, false, [.int .i64])], [], []⟩
def S_laws_szEntS_61 : Shape := ⟨[(0, false, [.br tW]), (1, false, [.int .i64]), (5, false, [.ci .i64 0])], [], []⟩
def O_laws_szEntS_61 : Shape := ⟨[(1, false, [.int .i64])], [], []⟩
def Z_laws_szEntS_61 : Shape := ⟨[(4, false, [.int .i64])], [], []⟩
noncomputable def st_laws_szEntS_61 (v0 : List dW) (v1 : Int) (v2 : Int) : Option ((L_laws_szEntS_61).X ⊕ ((O_laws_szEntS_61).X ⊕ (Z_laws_szEntS_61).X)) :=
  bif (ltb v2 (v0.length : Int)) then
    bif (inb v2 v0.length) then
      let r2 := n_laws_szEnt (nth v0 v2 (0, [])) v1
      bif (ltb r2 0) then
        some (.inr (.inr ((((-1), ()), ()), (), ())))
      else
        some (.inl (((v0, ()), (r2, ()), ((IntKind.i64.wrap (v2 + 1)), ()), ()), (), ()))
    else none
  else
    some (.inr (.inl (((v1, ()), ()), (), ())))
noncomputable def stx_laws_szEntS_61 (x : (L_laws_szEntS_61).X) := st_laws_szEntS_61 x.1.1.1 x.1.2.1.1 x.1.2.2.1.1
def em_laws_szEntS_61 (x : (S_laws_szEntS_61).X) : (L_laws_szEntS_61).X := (((x.1.1.1, ()), (x.1.2.1.1, ()), (0, ()), ()), (), ())
noncomputable def c_laws_szEntS_61 : Code := (subN B_laws_szEntS 64 244).getD .skip
theorem a_laws_szEntS_61 : subN B_laws_szEntS 64 61 = some (.block 0 (.loop c_laws_szEntS_61)) := by kernel_rfl
theorem r_laws_szEntS_61 (x : (L_laws_szEntS_61).X) : roundT ⟨E_laws_szEntS, 27, D_laws_szEntS_0⟩ 0 c_laws_szEntS_61 244 L_laws_szEntS_61 O_laws_szEntS_61 Z_laws_szEntS_61 x = stx_laws_szEntS_61 x := by kernel_rfl
noncomputable def fu_laws_szEntS_61 (x : (S_laws_szEntS_61).X) : Nat := (fun (u0 : List dW) (u1 : Int) => 18446744073709551616) x.1.1.1 x.1.2.1.1
noncomputable def F_laws_szEntS_61 (x : (S_laws_szEntS_61).X) : Option ((O_laws_szEntS_61).X ⊕ (Z_laws_szEntS_61).X) := loopN stx_laws_szEntS_61 (fu_laws_szEntS_61 x) (em_laws_szEntS_61 x)
noncomputable def sg_laws_szEntS_61 : Seg := ⟨S_laws_szEntS_61, O_laws_szEntS_61, Z_laws_szEntS_61, F_laws_szEntS_61⟩
noncomputable def D_laws_szEntS_1 : Nat → Option Seg := fun q => bif Nat.beq q 61 then some sg_laws_szEntS_61 else D_laws_szEntS_0 q
theorem fr_laws_szEntS_1 : FrOk Tryz.prog ⟨E_laws_szEntS, 27, D_laws_szEntS_1⟩ B_laws_szEntS := (fr_laws_szEntS_0).loop (sg := sg_laws_szEntS_61) L_laws_szEntS_61 em_laws_szEntS_61 (by decide) a_laws_szEntS_61 stx_laws_szEntS_61 fu_laws_szEntS_61 (by decide) (fun _ => rfl) (fun x r _ h => h) r_laws_szEntS_61
abbrev I_laws_szEntS : List Par := [.rd tWs, .rd tI]
abbrev U_laws_szEntS : List OT := [⟨false, tI, .fz⟩]
noncomputable def raw_laws_szEntS (a0 : List dW) (a1 : Int) : Option (ResD U_laws_szEntS × MutD I_laws_szEntS) :=
  bif (ltb (IntKind.i64.wrap (a1 - (a0.length : Int))) 0) then
    some (((-1), ()), ())
  else
    segM (F_laws_szEntS_61 (((a0, ()), ((IntKind.i64.wrap (a1 - (a0.length : Int))), ()), ((), ()), ()), (), ())) (fun y2 =>
      some ((y2.1.1.1, ()), ())) (fun y2 =>
      some ((y2.1.1.1, ()), ()))
theorem e_laws_szEntS (x : InD I_laws_szEntS) : execF ⟨E_laws_szEntS, 27, D_laws_szEntS_1⟩ Tryz.f63.results.toList B_laws_szEntS I_laws_szEntS U_laws_szEntS x = raw_laws_szEntS x.1 x.2.1 := by kernel_rfl
theorem ok0_laws_szEntS : ConOk Tryz.prog 63 ⟨I_laws_szEntS, U_laws_szEntS, fun x => raw_laws_szEntS x.1 x.2.1⟩ := conOk_exec (fr_laws_szEntS_1) Tryz.func63 (by kernel_rfl) (by kernel_rfl) Tryz.ntmps63.symm (by decide) (fun x r h => (e_laws_szEntS x).trans h)
noncomputable def n_laws_szEntS (a0 : List (dW)) (a1 : Int) : Int := bif ltb (IntKind.i64.wrap (a1 - (a0.length : Int))) 0 then (-1) else (szG n_laws_szEnt a0 (IntKind.i64.wrap (a1 - (a0.length : Int)))).getD (-1)
theorem nn_laws_szEntS (a0 : List (dW)) (a1 : Int) (hk : InOk I_laws_szEntS (a0, a1, ())) : raw_laws_szEntS a0 a1 = (fun n => some ((n, ()), ())) (n_laws_szEntS a0 a1) := by
  have hb : a0.length * 32 ≤ 2 ^ 47 := hk.1.1
  have hl : ∀ k : Int, F_laws_szEntS_61 (((a0, ()), (k, ()), ((), ()), ()), (), ()) = some (match szG n_laws_szEnt a0 k with | some r => .inl (((r, ()), ()), (), ()) | none => .inr ((((-1), ()), ()), (), ())) := fun k =>
    loopN_sz (step := stx_laws_szEntS_61) a0 ((0, []) : dW) (fun i k => (((a0, ()), (k, ()), ((i : Int), ()), ()), (), ())) n_laws_szEnt (fun r => .inl (((r, ()), ()), (), ())) (.inr ((((-1), ()), ()), (), ())) (fun i s hi => by
      simp only [stx_laws_szEntS_61, st_laws_szEntS_61, inb_nat hi, nth_nat, Int.toNat_natCast, ltb_t (show (i : Int) < a0.length by omega), cond_true, wr (show -9223372036854775808 ≤ (i : Int) + 1 by omega) (by omega), Int.natCast_add, Int.natCast_one, pr_eta]
      cases ltb (n_laws_szEnt (a0.getD i (0, [])) s) 0 <;> rfl) (fun s => by simp only [stx_laws_szEntS_61, st_laws_szEntS_61, ltb_f (Int.le_refl _), cond_false]) k _ (by show _ < 18446744073709551616; omega)
  unfold raw_laws_szEntS n_laws_szEntS
  rw [hl]
  cases ltb (IntKind.i64.wrap (a1 - (a0.length : Int))) 0
  · cases szG n_laws_szEnt a0 (IntKind.i64.wrap (a1 - (a0.length : Int))) <;> rfl
  · rfl
noncomputable def con_laws_szEntS : Con := ⟨I_laws_szEntS, U_laws_szEntS, fun x => (fun n => some ((n, ()), ())) (n_laws_szEntS x.1 x.2.1)⟩
theorem ok_laws_szEntS : ConOk Tryz.prog 63 con_laws_szEntS := (ok0_laws_szEntS).mono (fun x r hk h => (nn_laws_szEntS x.1 x.2.1 hk).trans h)
end

/-! laws_szArr -/
section
noncomputable def B_laws_szArr : Code := (Tryz.f13.body).getD .skip
noncomputable def E_laws_szArr : Env := envOf TT [(35, con_laws_szMemS), (63, con_laws_szEntS)] []
theorem fr_laws_szArr_0 : FrOk Tryz.prog ⟨E_laws_szArr, 18, fun _ => none⟩ B_laws_szArr := frOk_base mixed tt_ok ⟨ok_laws_szMemS, ok_laws_szEntS, trivial⟩
noncomputable def D_laws_szArr_0 : Nat → Option Seg := fun _ => none
abbrev I_laws_szArr : List Par := [.rd tA, .rd tI]
abbrev U_laws_szArr : List OT := [⟨false, tI, .fz⟩]
noncomputable def raw_laws_szArr (a0 : dA) (a1 : Int) : Option (ResD U_laws_szArr × MutD I_laws_szArr) :=
  let r1 := n_laws_szMemS a0.2.2.1 a1
  bif (ltb r1 0) then
    some (((-1), ()), ())
  else
    let r2 := n_laws_szEntS a0.2.2.2.2.2.2.2.2.1 r1
    bif (ltb r2 0) then
      some (((-1), ()), ())
    else
      some ((r2, ()), ())
theorem e_laws_szArr (x : InD I_laws_szArr) : execF ⟨E_laws_szArr, 18, D_laws_szArr_0⟩ Tryz.f13.results.toList B_laws_szArr I_laws_szArr U_laws_szArr x = raw_laws_szArr x.1 x.2.1 := by kernel_rfl
theorem ok0_laws_szArr : ConOk Tryz.prog 13 ⟨I_laws_szArr, U_laws_szArr, fun x => raw_laws_szArr x.1 x.2.1⟩ := conOk_exec (fr_laws_szArr_0) Tryz.func13 (by kernel_rfl) (by kernel_rfl) Tryz.ntmps13.symm (by decide) (fun x r h => (e_laws_szArr x).trans h)
noncomputable def n_laws_szArr (a0 : dA) (a1 : Int) : Int :=
  let r1 := n_laws_szMemS a0.2.2.1 a1
  bif (ltb r1 0) then
    (-1)
  else
    let r2 := n_laws_szEntS a0.2.2.2.2.2.2.2.2.1 r1
    bif (ltb r2 0) then
      (-1)
    else
      r2
noncomputable def con_laws_szArr : Con := ⟨I_laws_szArr, U_laws_szArr, fun x => (fun n => some ((n, ()), ())) (n_laws_szArr x.1 x.2.1)⟩
theorem nn_laws_szArr (a0 : dA) (a1 : Int) : raw_laws_szArr a0 a1 = (fun n => some ((n, ()), ())) (n_laws_szArr a0 a1) := bif_ty (p := fun (n : Int) => ((n, ()), ())) (bif_some (p := fun (n : Int) => ((n, ()), ())) rfl (bif_some (p := fun (n : Int) => ((n, ()), ())) rfl rfl))
theorem ok_laws_szArr : ConOk Tryz.prog 13 con_laws_szArr := (ok0_laws_szArr).mono (fun x r _ h => (nn_laws_szArr x.1 x.2.1).trans h)
theorem szEntS_le {l : List dW} {k : Int} (h0 : 0 ≤ k) (h1 : k ≤ 1048576) (hl : l.length * 32 ≤ 2 ^ 47) (hx : ∀ x ∈ l, x.2.length * 8 ≤ 2 ^ 47) (h : 0 ≤ n_laws_szEntS l k) : ((l.length + (l.map (fun x : dW => x.2.length)).sum : Nat) : Int) ≤ k - n_laws_szEntS l k ∧ n_laws_szEntS l k ≤ k :=
  szF_le (fun x hm k h0 h1 h => by
    have := hx x hm
    unfold n_laws_szEnt at h ⊢
    by_cases h2 : n_laws_szIntS x.2 k < 0
    · simp only [ltb_t h2, cond_true] at h; omega
    · simp only [ltb_f (Int.not_lt.1 h2), cond_false] at h ⊢
      have := szIntS_nn h0 h1 (by omega) h2
      omega) h0 h1 (by omega) h
theorem szArr_le {a : dA} (hm : tA.Ok a) (h : ltb (n_laws_szArr a 1048576) 0 = false) : mArr a ≤ 2097152 := by
  have h : 0 ≤ n_laws_szArr a 1048576 := by
    rcases Int.lt_or_le (n_laws_szArr a 1048576) 0 with h3 | h3
    · rw [ltb_t h3] at h; cases h
    · exact h3
  unfold n_laws_szArr at h
  by_cases c1 : n_laws_szMemS a.2.2.1 1048576 < 0
  · simp only [ltb_t c1, cond_true] at h; omega
  simp only [ltb_f (Int.not_lt.1 c1), cond_false] at h
  have e1 := szMemS_le (by omega) (by omega) hm.2.2.1 (Int.not_lt.1 c1)
  by_cases c2 : n_laws_szEntS a.2.2.2.2.2.2.2.2.1 (n_laws_szMemS a.2.2.1 1048576) < 0
  · simp only [ltb_t c2, cond_true] at h; omega
  have e2 := szEntS_le (Int.not_lt.1 c1) (by omega) hm.2.2.2.2.2.2.2.2.1.1 (fun x hx => (hm.2.2.2.2.2.2.2.2.1.2 x hx).2.1) (Int.not_lt.1 c2)
  have e3 := mMems_le (l := a.2.2.1)
  unfold mArr mEnts
  rw [sum_add1 (fun x : dW => x.2.length) 1]
  omega
end

/-! spec_l1In -/
section
noncomputable def B_spec_l1In : Code := (Tryz.f98.body).getD .skip
noncomputable def E_spec_l1In : Env := envOf TT [] []
theorem fr_spec_l1In_0 : FrOk Tryz.prog ⟨E_spec_l1In, 15, fun _ => none⟩ B_spec_l1In := frOk_base mixed tt_ok trivial
noncomputable def D_spec_l1In_0 : Nat → Option Seg := fun _ => none
abbrev I_spec_l1In : List Par := [.rd tI, .rd tI, .rd tI]
abbrev U_spec_l1In : List OT := [⟨false, tB, .fz⟩]
noncomputable def raw_spec_l1In (a0 : Int) (a1 : Int) (a2 : Int) : Option (ResD U_spec_l1In × MutD I_spec_l1In) :=
  bif (leb a1 a0) then
    some (((leb a0 a2), ()), ())
  else
    some ((false, ()), ())
theorem e_spec_l1In (x : InD I_spec_l1In) : execF ⟨E_spec_l1In, 15, D_spec_l1In_0⟩ Tryz.f98.results.toList B_spec_l1In I_spec_l1In U_spec_l1In x = raw_spec_l1In x.1 x.2.1 x.2.2.1 := by kernel_rfl
theorem ok0_spec_l1In : ConOk Tryz.prog 98 ⟨I_spec_l1In, U_spec_l1In, fun x => raw_spec_l1In x.1 x.2.1 x.2.2.1⟩ := conOk_exec (fr_spec_l1In_0) Tryz.func98 (by kernel_rfl) (by kernel_rfl) Tryz.ntmps98.symm (by decide) (fun x r h => (e_spec_l1In x).trans h)
noncomputable def n_spec_l1In (a0 : Int) (a1 : Int) (a2 : Int) : Bool :=
  bif (leb a1 a0) then
    (leb a0 a2)
  else
    false
noncomputable def con_spec_l1In : Con := ⟨I_spec_l1In, U_spec_l1In, fun x => (fun n => some ((n, ()), ())) (n_spec_l1In x.1 x.2.1 x.2.2.1)⟩
theorem nn_spec_l1In (a0 : Int) (a1 : Int) (a2 : Int) : raw_spec_l1In a0 a1 a2 = (fun n => some ((n, ()), ())) (n_spec_l1In a0 a1 a2) := bif_ty (p := fun (n : Bool) => ((n, ()), ())) (bif_some (p := fun (n : Bool) => ((n, ()), ())) rfl rfl)
theorem ok_spec_l1In : ConOk Tryz.prog 98 con_spec_l1In := (ok0_spec_l1In).mono (fun x r _ h => (nn_spec_l1In x.1 x.2.1 x.2.2.1).trans h)
theorem in_iff {a b c : Int} : n_spec_l1In a b c = true ↔ b ≤ a ∧ a ≤ c := by
  unfold n_spec_l1In
  cases h : leb b a
  · have := mt leb_t (by rw [h]; simp : ¬ leb b a = true)
    simp [this]
  · simp [leb_iff, leb_iff.1 h]
theorem in_t {a b c : Int} (h : b ≤ a) (h2 : a ≤ c) : n_spec_l1In a b c = true := in_iff.2 ⟨h, h2⟩
theorem in_f {a b c : Int} (h : ¬ (b ≤ a ∧ a ≤ c)) : n_spec_l1In a b c = false := by
  cases e : n_spec_l1In a b c
  · rfl
  · exact absurd (in_iff.1 e) h
theorem in_eq (x a b : Int) : n_spec_l1In x a b = (leb a x && leb x b) := by
  unfold n_spec_l1In; cases leb a x <;> rfl
theorem in_len {x : Int} {n : Nat} (h : n ≤ 1152921504606846976) : n_spec_l1In x 0 (IntKind.i64.wrap ((n : Int) - 1)) = inb x n := by
  rw [wr (by omega) (by omega), Bool.eq_iff_iff, in_iff, inb_iff]; omega
end

/-! spec_GeoOk -/
section
noncomputable def B_spec_GeoOk : Code := (Tryz.f141.body).getD .skip
noncomputable def E_spec_GeoOk : Env := envOf TT [(98, con_spec_l1In)] []
theorem fr_spec_GeoOk_0 : FrOk Tryz.prog ⟨E_spec_GeoOk, 11, fun _ => none⟩ B_spec_GeoOk := frOk_base mixed tt_ok ⟨ok_spec_l1In, trivial⟩
noncomputable def D_spec_GeoOk_0 : Nat → Option Seg := fun _ => none
abbrev I_spec_GeoOk : List Par := [.rd tG]
abbrev U_spec_GeoOk : List OT := [⟨false, tB, .fz⟩]
noncomputable def raw_spec_GeoOk (a0 : dG) : Option (ResD U_spec_GeoOk × MutD I_spec_GeoOk) :=
  let r1 := n_spec_l1In a0.1 3 5
  bif r1 then
    let r2 := n_spec_l1In a0.2 1 8
    some ((r2, ()), ())
  else
    some ((false, ()), ())
theorem e_spec_GeoOk (x : InD I_spec_GeoOk) : execF ⟨E_spec_GeoOk, 11, D_spec_GeoOk_0⟩ Tryz.f141.results.toList B_spec_GeoOk I_spec_GeoOk U_spec_GeoOk x = raw_spec_GeoOk x.1 := by kernel_rfl
theorem ok0_spec_GeoOk : ConOk Tryz.prog 141 ⟨I_spec_GeoOk, U_spec_GeoOk, fun x => raw_spec_GeoOk x.1⟩ := conOk_exec (fr_spec_GeoOk_0) Tryz.func141 (by kernel_rfl) (by kernel_rfl) Tryz.ntmps141.symm (by decide) (fun x r h => (e_spec_GeoOk x).trans h)
noncomputable def n_spec_GeoOk (a0 : dG) : Bool :=
  let r1 := n_spec_l1In a0.1 3 5
  bif r1 then
    let r2 := n_spec_l1In a0.2 1 8
    r2
  else
    false
noncomputable def con_spec_GeoOk : Con := ⟨I_spec_GeoOk, U_spec_GeoOk, fun x => (fun n => some ((n, ()), ())) (n_spec_GeoOk x.1)⟩
theorem nn_spec_GeoOk (a0 : dG) : raw_spec_GeoOk a0 = (fun n => some ((n, ()), ())) (n_spec_GeoOk a0) := bif_ty (p := fun (n : Bool) => ((n, ()), ())) (bif_some (p := fun (n : Bool) => ((n, ()), ())) rfl rfl)
theorem ok_spec_GeoOk : ConOk Tryz.prog 141 con_spec_GeoOk := (ok0_spec_GeoOk).mono (fun x r _ h => (nn_spec_GeoOk x.1).trans h)
theorem geo_iff {a : Int × Int} : n_spec_GeoOk a = true ↔ (3 ≤ a.1 ∧ a.1 ≤ 5) ∧ 1 ≤ a.2 ∧ a.2 ≤ 8 := by
  unfold n_spec_GeoOk
  cases h : n_spec_l1In a.1 3 5
  · have : ¬ (3 ≤ a.1 ∧ a.1 ≤ 5) := fun e => by rw [in_iff.2 e] at h; simp at h
    simp [this]
  · simp only [cond_true, in_iff]
    exact ⟨fun e => ⟨in_iff.1 h, e⟩, fun e => e.2⟩
def memBad (a : dA) (i : Nat) : Bool := !(memOk (nth a.2.2.1 i noMem)) || ((((nth a.2.2.1 i noMem).1.length : Int) != 6 + a.2.1.2) || ((nth a.2.2.1 i noMem).2.2.1 && (((i : Int) != a.2.2.2.1) && !a.2.2.2.2.2.2.2.2.2.2.2)))
def memsOk (a : dA) : Bool := !((List.range a.2.2.1.length).any (memBad a)) && (a.2.2.1.length : Int) == a.2.1.1
def dirtBad (g : dG) (l : List dW) (i : Nat) : Bool := !(leb 0 (nth l i (0, [])).1 && leb (nth l i (0, [])).1 (g.2 - 1)) || (((nth l i (0, [])).2.length : Int) != g.1 - 1 || (!((nth l i (0, [])).2.all isW) || (decide (0 < i) && leb (nth l i (0, [])).1 (nth l ((i - 1 : Nat) : Int) (0, [])).1)))
def dirtyOk (g : dG) (l : List dW) : Bool := !((List.range l.length).any (dirtBad g l))
/-- an array that is right -/
noncomputable def arrOk (a : dA) : Bool :=
  n_spec_GeoOk a.2.1 && ((leb 1 a.1 && leb a.1 60000) && (memsOk a && (dirtyOk a.2.1 a.2.2.2.2.2.2.2.2.1 && ((leb (-1) a.2.2.2.1 && leb a.2.2.2.1 (a.2.1.1 - 1)) && ((leb 0 a.2.2.2.2.1 && leb a.2.2.2.2.1 a.2.1.2) && (!(a.2.2.2.1 == -1 && a.2.2.2.2.1 != 0) &&
  ((leb 0 a.2.2.2.2.2.2.1 && leb a.2.2.2.2.2.2.1 60000) && ((leb a.2.2.2.2.2.2.1 a.2.2.2.2.2.1 && leb a.2.2.2.2.2.1 60000) && (leb a.2.2.2.2.2.1 (a.2.2.2.2.2.2.1 + 4) && ((leb 0 a.2.2.2.2.2.2.2.1 && leb a.2.2.2.2.2.2.2.1 60000) && (leb (-1) a.2.2.2.2.2.2.2.2.2.1 && leb a.2.2.2.2.2.2.2.2.2.1 1000)))))))))))
theorem arrOk_geo {a : dA} (h : arrOk a = true) : n_spec_GeoOk a.2.1 = true := (Bool.and_eq_true_iff.1 h).1
theorem geo_f {a : Int × Int} (h : ¬ n_spec_GeoOk a = true) : n_spec_GeoOk a = false := by cases e : n_spec_GeoOk a <;> simp_all
theorem arrOk_mems {a : dA} (h : arrOk a = true) : memsOk a = true := by simp only [arrOk, Bool.and_eq_true] at h; exact h.2.2.1
theorem arrOk_len {a : dA} (h : arrOk a = true) : (a.2.2.1.length : Int) = a.2.1.1 := by have := arrOk_mems h; simp only [memsOk, Bool.and_eq_true, beq_iff_eq] at this; exact this.2
theorem memsOk_at {a : dA} (h : memsOk a = true) {i : Nat} (hi : i < a.2.2.1.length) : memOk (nth a.2.2.1 i noMem) = true ∧ ((nth a.2.2.1 i noMem).1.length : Int) = 6 + a.2.1.2 ∧ ((nth a.2.2.1 i noMem).2.2.1 = true → (i : Int) = a.2.2.2.1 ∨ a.2.2.2.2.2.2.2.2.2.2.2 = true) := by
  simp only [memsOk, Bool.and_eq_true, Bool.not_eq_true', List.any_eq_false, List.mem_range] at h
  have := h.1 i hi
  simp only [memBad, Bool.not_eq_true, Bool.or_eq_false_iff, Bool.not_eq_false', bne_eq_false_iff_eq, Bool.and_eq_false_iff] at this
  refine ⟨this.1, this.2.1, fun hf => ?_⟩
  rcases this.2.2 with h1 | h1 | h1
  · rw [hf] at h1; cases h1
  · exact .inl h1
  · exact .inr h1
noncomputable def strOk (g : dG) (s : Int) : Bool := n_spec_GeoOk g && (leb 0 s && leb s (g.2 - 1))
noncomputable def parityOf (g : dG) (s : Int) : Int := bif strOk g s then g.1 - 1 - s.tmod g.1 else -1
noncomputable def diskOf (g : dG) (s i : Int) : Int := bif strOk g s && (leb 0 i && leb i (g.1 - 2)) then (parityOf g s + 1 + i).tmod g.1 else -1
theorem strOk_iff {g : dG} {s : Int} : strOk g s = true ↔ n_spec_GeoOk g = true ∧ 0 ≤ s ∧ s ≤ g.2 - 1 := by simp [strOk, leb_iff]
theorem parity_in {g : dG} {s : Int} (h : strOk g s = true) : 0 ≤ parityOf g s ∧ parityOf g s ≤ g.1 - 1 := by
  have h1 := strOk_iff.1 h
  have h2 := geo_iff.1 h1.1
  unfold parityOf
  rw [h, cond_true, Int.tmod_eq_emod_of_nonneg h1.2.1]
  have := Int.emod_nonneg s (show g.1 ≠ 0 by omega)
  have := Int.emod_lt_of_pos s (show 0 < g.1 by omega)
  omega
theorem disk_in {g : dG} {s i : Int} (h : strOk g s = true) (h1 : 0 ≤ i) (h2 : i ≤ g.1 - 2) : 0 ≤ diskOf g s i ∧ diskOf g s i ≤ g.1 - 1 := by
  have h3 := geo_iff.1 (strOk_iff.1 h).1
  have h4 := parity_in h
  unfold diskOf
  rw [h, leb_t h1, leb_t h2, Bool.and_self, Bool.and_self, cond_true, Int.tmod_eq_emod_of_nonneg (by omega)]
  have := Int.emod_nonneg (parityOf g s + 1 + i) (show g.1 ≠ 0 by omega)
  have := Int.emod_lt_of_pos (parityOf g s + 1 + i) (show 0 < g.1 by omega)
  omega
/-- the last of n places that a thing is not at -/
def missAt (p : Nat → Bool) : Nat → Int
  | 0 => -1
  | n + 1 => bif p n then missAt p n else n
def miss2 (p : Nat → Bool) (n : Nat) : Bool := (List.range n).any (fun i => !p i && leb 0 (missAt p i))
theorem missAt_in (p : Nat → Bool) : ∀ n, missAt p n = -1 ∨ (0 ≤ missAt p n ∧ missAt p n < n ∧ p (missAt p n).toNat = false)
  | 0 => .inl rfl
  | n + 1 => by
    unfold missAt
    cases h : p n
    · exact .inr ⟨by show (0 : Int) ≤ n; omega, by show (n : Int) < _; omega, h⟩
    · rcases missAt_in p n with h1 | h1
      · exact .inl h1
      · exact .inr ⟨h1.1, by show missAt p n < _; omega, h1.2.2⟩
def wordList (a : dA) (s : Int) (n : Nat) : List Int := (List.range n).map (fun (i : Nat) => word a i s)
theorem wordList_len (a : dA) (s : Int) (n : Nat) : (wordList a s n).length = n := by unfold wordList; rw [List.length_map, List.length_range]
theorem wordList_succ (a : dA) (s : Int) (n : Nat) : wordList a s n ++ [word a n s] = wordList a s (n + 1) := by unfold wordList; rw [List.range_succ, List.map_append]; rfl
theorem wordList_at (a : dA) (s : Int) {i n : Nat} (h : i < n) : nth (wordList a s n) i 0 = word a i s := by
  unfold wordList
  rw [nth_nat, getD_get (by rw [List.length_map, List.length_range]; exact h)]; simp
/-- a stripe's words -/
def words (a : dA) (s : Int) : List Int × Bool :=
  bif miss2 (fun (i : Nat) => wordOk a i s) a.2.1.1.toNat then ([], false)
  else bif leb 0 (missAt (fun (i : Nat) => wordOk a i s) a.2.1.1.toNat) then ((wordList a s a.2.1.1.toNat).set (missAt (fun (i : Nat) => wordOk a i s) a.2.1.1.toNat).toNat (xorOf (wordList a s a.2.1.1.toNat)), true)
  else (wordList a s a.2.1.1.toNat, true)
theorem words_len {a : dA} {s : Int} (h : (words a s).2 = true) : (words a s).1.length = a.2.1.1.toNat := by
  unfold words at h ⊢
  cases h1 : miss2 (fun (i : Nat) => wordOk a i s) a.2.1.1.toNat
  · cases leb 0 (missAt (fun (i : Nat) => wordOk a i s) a.2.1.1.toNat)
    · exact wordList_len _ _ _
    · simp only [cond_false, cond_true, List.length_set]; exact wordList_len _ _ _
  · rw [h1] at h; cases h
theorem miss_word (a : dA) (s : Int) (n : Nat) (h : leb 0 (missAt (fun (i : Nat) => wordOk a i s) n) = true) : inb (missAt (fun (i : Nat) => wordOk a i s) n) (wordList a s n).length = true ∧ missWord (wordList a s n) (missAt (fun (i : Nat) => wordOk a i s) n) = xorOf (wordList a s n) := by
  rcases missAt_in (fun (i : Nat) => wordOk a i s) n with h1 | h1
  · rw [h1] at h; cases h
  · have h2 : inb (missAt (fun (i : Nat) => wordOk a i s) n) (wordList a s n).length = true := by rw [wordList_len, inb_iff]; exact ⟨h1.1, h1.2.1⟩
    refine ⟨h2, missWord0 h2 ?_⟩
    have h3 := wordList_at a s (show (missAt (fun (i : Nat) => wordOk a i s) n).toNat < n by omega)
    rw [show (((missAt (fun (i : Nat) => wordOk a i s) n).toNat : Nat) : Int) = missAt (fun (i : Nat) => wordOk a i s) n by omega] at h3
    rw [h3]
    unfold word
    have h4 : wordOk a (missAt (fun (i : Nat) => wordOk a i s) n) s = false := by
      have := h1.2.2
      have this : wordOk a ((missAt (fun (i : Nat) => wordOk a i s) n).toNat : Nat) s = false := h1.2.2
      rwa [show (((missAt (fun (i : Nat) => wordOk a i s) n).toNat : Nat) : Int) = missAt (fun (i : Nat) => wordOk a i s) n by omega] at this
    rw [h4]; rfl
noncomputable def dataA (a : dA) (s : Int) : List Int × Bool := bif (words a s).2 then ((List.range (a.2.1.1 - 1).toNat).map (fun (i : Nat) => nth (words a s).1 (diskOf a.2.1 s i) 0), true) else ([], false)
noncomputable def dataOf (a : dA) (s : Int) : List Int × Bool := bif arrOk a && (!a.2.2.2.2.2.2.2.2.2.2.2 && strOk a.2.1 s) then dataA a s else ([], false)
theorem dataA_len (a : dA) (s : Int) : (dataA a s).1.length ≤ (a.2.1.1 - 1).toNat := by
  unfold dataA
  cases (words a s).2
  · exact Nat.zero_le _
  · simp
noncomputable def durable (a : dA) : List Int := bif arrOk a && (List.range a.2.1.2.toNat).all (fun (s : Nat) => (dataOf a s).2) then (List.range a.2.1.2.toNat).flatMap (fun (s : Nat) => (dataOf a s).1) else []
end

/-! spec_Blocks -/
section
noncomputable def B_spec_Blocks : Code := (Tryz.f64.body).getD .skip
noncomputable def E_spec_Blocks : Env := envOf TT [(141, con_spec_GeoOk)] []
theorem fr_spec_Blocks_0 : FrOk Tryz.prog ⟨E_spec_Blocks, 12, fun _ => none⟩ B_spec_Blocks := frOk_base mixed tt_ok ⟨ok_spec_GeoOk, trivial⟩
noncomputable def D_spec_Blocks_0 : Nat → Option Seg := fun _ => none
abbrev I_spec_Blocks : List Par := [.rd tG]
abbrev U_spec_Blocks : List OT := [⟨false, tI, .fz⟩]
noncomputable def raw_spec_Blocks (a0 : dG) : Option (ResD U_spec_Blocks × MutD I_spec_Blocks) :=
  let r1 := n_spec_GeoOk a0
  bif (!r1) then
    some ((0, ()), ())
  else
    some (((IntKind.i64.wrap (a0.2 * (IntKind.i64.wrap (a0.1 - 1)))), ()), ())
theorem e_spec_Blocks (x : InD I_spec_Blocks) : execF ⟨E_spec_Blocks, 12, D_spec_Blocks_0⟩ Tryz.f64.results.toList B_spec_Blocks I_spec_Blocks U_spec_Blocks x = raw_spec_Blocks x.1 := by kernel_rfl
theorem ok0_spec_Blocks : ConOk Tryz.prog 64 ⟨I_spec_Blocks, U_spec_Blocks, fun x => raw_spec_Blocks x.1⟩ := conOk_exec (fr_spec_Blocks_0) Tryz.func64 (by kernel_rfl) (by kernel_rfl) Tryz.ntmps64.symm (by decide) (fun x r h => (e_spec_Blocks x).trans h)
noncomputable def n_spec_Blocks (a0 : dG) : Int :=
  let r1 := n_spec_GeoOk a0
  bif (!r1) then
    0
  else
    (IntKind.i64.wrap (a0.2 * (IntKind.i64.wrap (a0.1 - 1))))
noncomputable def con_spec_Blocks : Con := ⟨I_spec_Blocks, U_spec_Blocks, fun x => (fun n => some ((n, ()), ())) (n_spec_Blocks x.1)⟩
theorem nn_spec_Blocks (a0 : dG) : raw_spec_Blocks a0 = (fun n => some ((n, ()), ())) (n_spec_Blocks a0) := bif_ty (p := fun (n : Int) => ((n, ()), ())) (bif_some (p := fun (n : Int) => ((n, ()), ())) rfl rfl)
theorem ok_spec_Blocks : ConOk Tryz.prog 64 con_spec_Blocks := (ok0_spec_Blocks).mono (fun x r _ h => (nn_spec_Blocks x.1).trans h)
theorem spec_Blocks_le (a : Int × Int) : 0 ≤ n_spec_Blocks a ∧ n_spec_Blocks a ≤ 32 := by
  unfold n_spec_Blocks
  cases h : n_spec_GeoOk a
  · simp
  · obtain ⟨⟨h1, h2⟩, h3, h4⟩ := geo_iff.1 h
    have h5 : 0 ≤ a.2 * (a.1 - 1) := Int.mul_nonneg (by omega) (by omega)
    have h6 : a.2 * (a.1 - 1) ≤ 8 * 4 := Int.mul_le_mul h4 (by omega) (by omega) (by omega)
    simp only [Bool.not_true, cond_false, wr (show -9223372036854775808 ≤ a.1 - 1 by omega) (by omega), wr (show -9223372036854775808 ≤ a.2 * (a.1 - 1) by omega) (by omega)]
    omega
theorem spec_Blocks_eq {a : Int × Int} (h : n_spec_GeoOk a = true) : n_spec_Blocks a = a.2 * (a.1 - 1) := by
  unfold n_spec_Blocks
  obtain ⟨⟨h1, h2⟩, h3, h4⟩ := geo_iff.1 h
  have h5 : 0 ≤ a.2 * (a.1 - 1) := Int.mul_nonneg (by omega) (by omega)
  have h6 : a.2 * (a.1 - 1) ≤ 8 * 4 := Int.mul_le_mul h4 (by omega) (by omega) (by omega)
  simp only [h, Bool.not_true, cond_false, wr (show -9223372036854775808 ≤ a.1 - 1 by omega) (by omega), wr (show -9223372036854775808 ≤ a.2 * (a.1 - 1) by omega) (by omega)]
def entAt (l : List dW) (s : Int) : Int := idxOf (fun e : dW => e.1 == s) l
noncomputable def blkOk (g : dG) (b : Int) : Bool := leb 0 b && leb b (n_spec_Blocks g - 1)
noncomputable def stripeOf (g : dG) (b : Int) : Int := bif blkOk g b then b.tdiv (g.1 - 1) else -1
noncomputable def indexIn (g : dG) (b : Int) : Int := bif blkOk g b then b.tmod (g.1 - 1) else -1
theorem blk_split {g : dG} {b : Int} (h : blkOk g b = true) : n_spec_GeoOk g = true ∧ (0 ≤ b.tdiv (g.1 - 1) ∧ b.tdiv (g.1 - 1) ≤ g.2 - 1) ∧ (0 ≤ b.tmod (g.1 - 1) ∧ b.tmod (g.1 - 1) ≤ g.1 - 2) := by
  simp only [blkOk, Bool.and_eq_true, leb_iff] at h
  cases hg : n_spec_GeoOk g
  · have : n_spec_Blocks g = 0 := by unfold n_spec_Blocks; rw [hg]; rfl
    omega
  · rw [spec_Blocks_eq hg] at h
    have h2 := geo_iff.1 hg
    rw [Int.tdiv_eq_ediv_of_nonneg h.1, Int.tmod_eq_emod_of_nonneg h.1]
    have h3 := Int.ediv_lt_of_lt_mul (show 0 < g.1 - 1 by omega) (show b < g.2 * (g.1 - 1) by omega)
    have h4 := Int.ediv_nonneg h.1 (show 0 ≤ g.1 - 1 by omega)
    have h5 := Int.emod_nonneg b (show g.1 - 1 ≠ 0 by omega)
    have h6 := Int.emod_lt_of_pos b (show 0 < g.1 - 1 by omega)
    exact ⟨rfl, ⟨h4, by omega⟩, h5, by omega⟩
theorem stripeOf_ok {g : dG} {b : Int} (h : blkOk g b = true) : strOk g (stripeOf g b) = true := by
  obtain ⟨h1, h2, _⟩ := blk_split h
  unfold stripeOf
  rw [h, cond_true, strOk_iff]
  exact ⟨h1, h2⟩
noncomputable def blockCode (a : dA) (b : Int) : Int := bif !(arrOk a) then 1 else bif a.2.2.2.2.2.2.2.2.2.2.1 then 6 else bif blkOk a.2.1 b then 0 else 2
/-- a stripe as it is asked -/
noncomputable def stripeNow (a : dA) (s : Int) : List Int × Bool := bif leb 0 (entAt a.2.2.2.2.2.2.2.2.1 s) then ((nth a.2.2.2.2.2.2.2.2.1 (entAt a.2.2.2.2.2.2.2.2.1 s) (0, [])).2, true) else bif a.2.2.2.2.2.2.2.2.2.2.2 then ([], false) else dataA a s
noncomputable def getBlock (a : dA) (b : Int) : Int × Int := bif blockCode a b != 0 then (0, blockCode a b) else bif (stripeNow a (stripeOf a.2.1 b)).2 then (nth (stripeNow a (stripeOf a.2.1 b)).1 (indexIn a.2.1 b) 0, 0) else (0, 5)
theorem code_good {a : dA} {b : Int} (h : blockCode a b = 0) : arrOk a = true ∧ blkOk a.2.1 b = true ∧ a.2.2.2.2.2.2.2.2.2.2.1 = false := by
  unfold blockCode at h
  cases ha : arrOk a
  · rw [ha] at h; exact absurd (show (1 : Int) = 0 from h) (by decide)
  · rw [ha] at h
    cases hd : a.2.2.2.2.2.2.2.2.2.2.1
    · rw [hd] at h
      cases hb : blkOk a.2.1 b
      · rw [hb] at h; exact absurd (show (2 : Int) = 0 from h) (by decide)
      · exact ⟨rfl, rfl, rfl⟩
    · rw [hd] at h; exact absurd (show (6 : Int) = 0 from h) (by decide)
theorem dirty_at {a : dA} (h : arrOk a = true) {i : Nat} (hi : i < a.2.2.2.2.2.2.2.2.1.length) : (0 ≤ (nth a.2.2.2.2.2.2.2.2.1 i (0, [])).1 ∧ (nth a.2.2.2.2.2.2.2.2.1 i (0, [])).1 ≤ a.2.1.2 - 1) ∧ ((nth a.2.2.2.2.2.2.2.2.1 i (0, [])).2.length : Int) = a.2.1.1 - 1 ∧ (nth a.2.2.2.2.2.2.2.2.1 i (0, [])).2.all isW = true ∧ (0 < i → (nth a.2.2.2.2.2.2.2.2.1 ((i - 1 : Nat) : Int) (0, [])).1 < (nth a.2.2.2.2.2.2.2.2.1 i (0, [])).1) := by
  have h1 : dirtyOk a.2.1 a.2.2.2.2.2.2.2.2.1 = true := by simp only [arrOk, Bool.and_eq_true] at h; exact h.2.2.2.1
  simp only [dirtyOk, Bool.not_eq_true', List.any_eq_false, List.mem_range] at h1
  have h2 := h1 i hi
  simp only [dirtBad, Bool.not_eq_true, Bool.or_eq_false_iff, Bool.not_eq_false', bne_eq_false_iff_eq, Bool.and_eq_true, Bool.and_eq_false_iff, decide_eq_false_iff_not, leb_iff] at h2
  refine ⟨h2.1, h2.2.1, h2.2.2.1, fun h0 => ?_⟩
  rcases h2.2.2.2 with h3 | h3
  · exact absurd h0 h3
  · have := mt leb_t (by rw [h3]; simp : ¬ leb (nth a.2.2.2.2.2.2.2.2.1 i (0, [])).1 (nth a.2.2.2.2.2.2.2.2.1 ((i - 1 : Nat) : Int) (0, [])).1 = true)
    omega
theorem stripeNow_len {a : dA} {s : Int} (h : arrOk a = true) (hs : strOk a.2.1 s = true) (h2 : (stripeNow a s).2 = true) : ((stripeNow a s).1.length : Int) = a.2.1.1 - 1 := by
  have hg := geo_iff.1 (arrOk_geo h)
  unfold stripeNow at h2 ⊢
  cases hk : leb 0 (entAt a.2.2.2.2.2.2.2.2.1 s)
  · rw [hk] at h2
    simp only [cond_false] at h2 ⊢
    cases hb : a.2.2.2.2.2.2.2.2.2.2.2
    · rw [hb] at h2
      simp only [cond_false] at h2 ⊢
      unfold dataA at h2 ⊢
      cases hw : (words a s).2
      · rw [hw] at h2; cases h2
      · simp only [cond_true, List.length_map, List.length_range]; omega
    · rw [hb] at h2; cases h2
  · have h3 := inb_iff.1 (idxOf_in (d := ((0, []) : dW)) hk).1
    have := (dirty_at h (i := (entAt a.2.2.2.2.2.2.2.2.1 s).toNat) (by unfold entAt; omega)).2.1
    rw [show (((entAt a.2.2.2.2.2.2.2.2.1 s).toNat : Nat) : Int) = entAt a.2.2.2.2.2.2.2.2.1 s by have := leb_iff.1 hk; omega] at this
    exact this
theorem blk_in (g : dG) (b : Int) : n_spec_l1In b 0 (IntKind.i64.wrap (n_spec_Blocks g - 1)) = blkOk g b := by
  have := spec_Blocks_le g
  rw [wr (by omega) (by omega), in_eq]; rfl
noncomputable def contents (a : dA) : List Int := bif (List.range (n_spec_Blocks a.2.1).toNat).all (fun (b : Nat) => !((getBlock a b).2 != 0)) then (List.range (n_spec_Blocks a.2.1).toNat).map (fun (b : Nat) => (getBlock a b).1) else []
end
end Go.Tf
