/- Functions of the program, and what they come to. -/
import Derived.Test.YtgmadfpnljibhaaExactSpoilAtF0
namespace Go.Tf
open Go.Proofs
set_option synthInstance.maxHeartbeats 400000
set_option synthInstance.maxSize 10000
set_option linter.unusedVariables false
set_option linter.unusedSimpArgs false
set_option maxRecDepth 100000
/-! laws_szEnt -/
section
noncomputable def B_laws_szEnt : Code := (Try.f97.body).getD .skip
noncomputable def E_laws_szEnt : Env := envOf TT [(135, con_laws_szIntS)] []
theorem fr_laws_szEnt_0 : FrOk Try.prog ⟨E_laws_szEnt, 12, fun _ => none⟩ B_laws_szEnt := frOk_base mixed tt_ok ⟨ok_laws_szIntS, trivial⟩
noncomputable def D_laws_szEnt_0 : Nat → Option Seg := fun _ => none
abbrev I_laws_szEnt : List Par := [.rd tW, .rd tI]
abbrev U_laws_szEnt : List OT := [⟨false, tI, .fz⟩]
noncomputable def raw_laws_szEnt (a0 : dW) (a1 : Int) : Option (ResD U_laws_szEnt × MutD I_laws_szEnt) :=
  let r1 := n_laws_szIntS a0.2 a1
  bif (ltb r1 0) then
    some (((-1), ()), ())
  else
    some ((r1, ()), ())
theorem e_laws_szEnt (x : InD I_laws_szEnt) : execF ⟨E_laws_szEnt, 12, D_laws_szEnt_0⟩ Try.f97.results.toList B_laws_szEnt I_laws_szEnt U_laws_szEnt x = raw_laws_szEnt x.1 x.2.1 := by kernel_rfl
theorem ok0_laws_szEnt : ConOk Try.prog 97 ⟨I_laws_szEnt, U_laws_szEnt, fun x => raw_laws_szEnt x.1 x.2.1⟩ := conOk_exec (fr_laws_szEnt_0) Try.func97 (by kernel_rfl) (by kernel_rfl) Try.ntmps97.symm (by decide) (fun x r h => (e_laws_szEnt x).trans h)
noncomputable def n_laws_szEnt (a0 : dW) (a1 : Int) : Int :=
  let r1 := n_laws_szIntS a0.2 a1
  bif (ltb r1 0) then
    (-1)
  else
    r1
noncomputable def con_laws_szEnt : Con := ⟨I_laws_szEnt, U_laws_szEnt, fun x => (fun n => some ((n, ()), ())) (n_laws_szEnt x.1 x.2.1)⟩
theorem nn_laws_szEnt (a0 : dW) (a1 : Int) : raw_laws_szEnt a0 a1 = (fun n => some ((n, ()), ())) (n_laws_szEnt a0 a1) := bif_ty (p := fun (n : Int) => ((n, ()), ())) (bif_some (p := fun (n : Int) => ((n, ()), ())) rfl rfl)
theorem ok_laws_szEnt : ConOk Try.prog 97 con_laws_szEnt := (ok0_laws_szEnt).mono (fun x r _ h => (nn_laws_szEnt x.1 x.2.1).trans h)
end

/-! laws_szEntS -/
section
noncomputable def B_laws_szEntS : Code := (Try.f57.body).getD .skip
noncomputable def E_laws_szEntS : Env := envOf TT [(97, con_laws_szEnt)] []
theorem fr_laws_szEntS_0 : FrOk Try.prog ⟨E_laws_szEntS, 27, fun _ => none⟩ B_laws_szEntS := frOk_base mixed tt_ok ⟨ok_laws_szEnt, trivial⟩
noncomputable def D_laws_szEntS_0 : Nat → Option Seg := fun _ => none
def L_laws_szEntS_61 : Shape := ⟨[(0, false, [.br tW]), (1, false, [.int .i64]), (5, false, [.int .i64])], [], []⟩
def S_laws_szEntS_61 : Shape := ⟨[(0, false, [.br tW]), (1, false, [.int .i64]), (5, false, [.ci .i64 0])], [], []⟩
def O_laws_szEntS_61 : Shape := ⟨[(1, false, [.int .i64])], [], []⟩
def Z_laws_szEntS_61 : Shape := ⟨[(4, false, [.int .i64])], [], []⟩
noncomputable def st_laws_szEntS_61 (v0 : List dW) (v1 v2 : Int) : Option ((L_laws_szEntS_61).X ⊕ ((O_laws_szEntS_61).X ⊕ (Z_laws_szEntS_61).X)) :=
  bif (ltb v2 (v0.length : Int)) then
    bif (inb v2 v0.length) then
      let r2 := n_laws_szEnt (nth v0 v2 (0, [])) v1
      bif (ltb r2 0) then
        some (.inr (.inr ((((-1), ()), ()), (), ())))
      else
        some (.inl (((v0, ()), (r2, ()), ((IntKind.i64.wrap (v2 + 1)), ()), ()), (), ()))
    else none
  else
    some (.inr (.inl (((v1, ()), ()), (), ())))
noncomputable def stx_laws_szEntS_61 (x : (L_laws_szEntS_61).X) := st_laws_szEntS_61 x.1.1.1 x.1.2.1.1 x.1.2.2.1.1
def em_laws_szEntS_61 (x : (S_laws_szEntS_61).X) : (L_laws_szEntS_61).X := (((x.1.1.1, ()), (x.1.2.1.1, ()), (0, ()), ()), (), ())
noncomputable def c_laws_szEntS_61 : Code := (subN B_laws_szEntS 64 244).getD .skip
theorem a_laws_szEntS_61 : subN B_laws_szEntS 64 61 = some (.block 0 (.loop c_laws_szEntS_61)) := by kernel_rfl
theorem r_laws_szEntS_61 (x : (L_laws_szEntS_61).X) : roundT ⟨E_laws_szEntS, 27, D_laws_szEntS_0⟩ 0 c_laws_szEntS_61 244 L_laws_szEntS_61 O_laws_szEntS_61 Z_laws_szEntS_61 x = stx_laws_szEntS_61 x := by kernel_rfl
def fu_laws_szEntS_61 (x : (S_laws_szEntS_61).X) : Nat := 18446744073709551616
noncomputable def F_laws_szEntS_61 (x : (S_laws_szEntS_61).X) : Option ((O_laws_szEntS_61).X ⊕ (Z_laws_szEntS_61).X) := loopN stx_laws_szEntS_61 (fu_laws_szEntS_61 x) (em_laws_szEntS_61 x)
noncomputable def sg_laws_szEntS_61 : Seg := ⟨S_laws_szEntS_61, O_laws_szEntS_61, Z_laws_szEntS_61, F_laws_szEntS_61⟩
noncomputable def D_laws_szEntS_1 : Nat → Option Seg := fun q => bif Nat.beq q 61 then some sg_laws_szEntS_61 else D_laws_szEntS_0 q
theorem fr_laws_szEntS_1 : FrOk Try.prog ⟨E_laws_szEntS, 27, D_laws_szEntS_1⟩ B_laws_szEntS := (fr_laws_szEntS_0).loop (sg := sg_laws_szEntS_61) L_laws_szEntS_61 em_laws_szEntS_61 (by decide) a_laws_szEntS_61 stx_laws_szEntS_61 fu_laws_szEntS_61 (by decide) (fun _ => rfl) (fun x r _ h => h) r_laws_szEntS_61
abbrev I_laws_szEntS : List Par := [.rd tWs, .rd tI]
abbrev U_laws_szEntS : List OT := [⟨false, tI, .fz⟩]
noncomputable def raw_laws_szEntS (a0 : List dW) (a1 : Int) : Option (ResD U_laws_szEntS × MutD I_laws_szEntS) :=
  bif (ltb (IntKind.i64.wrap (a1 - (a0.length : Int))) 0) then
    some (((-1), ()), ())
  else
    segM (F_laws_szEntS_61 (((a0, ()), ((IntKind.i64.wrap (a1 - (a0.length : Int))), ()), ((), ()), ()), (), ())) (fun y2 =>
      some ((y2.1.1.1, ()), ())) (fun y2 =>
      some ((y2.1.1.1, ()), ()))
theorem e_laws_szEntS (x : InD I_laws_szEntS) : execF ⟨E_laws_szEntS, 27, D_laws_szEntS_1⟩ Try.f57.results.toList B_laws_szEntS I_laws_szEntS U_laws_szEntS x = raw_laws_szEntS x.1 x.2.1 := by kernel_rfl
theorem ok0_laws_szEntS : ConOk Try.prog 57 ⟨I_laws_szEntS, U_laws_szEntS, fun x => raw_laws_szEntS x.1 x.2.1⟩ := conOk_exec (fr_laws_szEntS_1) Try.func57 (by kernel_rfl) (by kernel_rfl) Try.ntmps57.symm (by decide) (fun x r h => (e_laws_szEntS x).trans h)
noncomputable def n_laws_szEntS (a0 : List (dW)) (a1 : Int) : Int := bif ltb (IntKind.i64.wrap (a1 - (a0.length : Int))) 0 then (-1) else (szG n_laws_szEnt a0 (IntKind.i64.wrap (a1 - (a0.length : Int)))).getD (-1)
theorem nn_laws_szEntS (a0 : List (dW)) (a1 : Int) (hk : InOk I_laws_szEntS (a0, a1, ())) : raw_laws_szEntS a0 a1 = (fun n => some ((n, ()), ())) (n_laws_szEntS a0 a1) := by
  have hb : a0.length * 32 ≤ 2 ^ 47 := hk.1.1
  have hl : ∀ k : Int, F_laws_szEntS_61 (((a0, ()), (k, ()), ((), ()), ()), (), ()) = some (match szG n_laws_szEnt a0 k with | some r => .inl (((r, ()), ()), (), ()) | none => .inr ((((-1), ()), ()), (), ())) := fun k =>
    loopN_sz (step := stx_laws_szEntS_61) a0 ((0, []) : dW) (fun i k => (((a0, ()), (k, ()), ((i : Int), ()), ()), (), ())) n_laws_szEnt (fun r => .inl (((r, ()), ()), (), ())) (.inr ((((-1), ()), ()), (), ())) (fun i s hi => by
      simp only [stx_laws_szEntS_61, st_laws_szEntS_61, inb_nat hi, nth_nat, Int.toNat_natCast, ltb_t (show (i : Int) < a0.length by omega), cond_true, wr (show -9223372036854775808 ≤ (i : Int) + 1 by omega) (by omega), Int.natCast_add, Int.natCast_one, pr_eta]
      cases ltb (n_laws_szEnt (a0.getD i (0, [])) s) 0 <;> rfl) (fun s => by simp only [stx_laws_szEntS_61, st_laws_szEntS_61, ltb_f (Int.le_refl _), cond_false]) k _ (by show _ < 18446744073709551616; omega)
  unfold raw_laws_szEntS n_laws_szEntS
  rw [hl]
  cases ltb (IntKind.i64.wrap (a1 - (a0.length : Int))) 0
  · cases szG n_laws_szEnt a0 (IntKind.i64.wrap (a1 - (a0.length : Int))) <;> rfl
  · rfl
noncomputable def con_laws_szEntS : Con := ⟨I_laws_szEntS, U_laws_szEntS, fun x => (fun n => some ((n, ()), ())) (n_laws_szEntS x.1 x.2.1)⟩
theorem ok_laws_szEntS : ConOk Try.prog 57 con_laws_szEntS := (ok0_laws_szEntS).mono (fun x r hk h => (nn_laws_szEntS x.1 x.2.1 hk).trans h)
end

/-! laws_szArr -/
section
noncomputable def B_laws_szArr : Code := (Try.f26.body).getD .skip
noncomputable def E_laws_szArr : Env := envOf TT [(56, con_laws_szMemS), (57, con_laws_szEntS)] []
theorem fr_laws_szArr_0 : FrOk Try.prog ⟨E_laws_szArr, 18, fun _ => none⟩ B_laws_szArr := frOk_base mixed tt_ok ⟨ok_laws_szMemS, ok_laws_szEntS, trivial⟩
noncomputable def D_laws_szArr_0 : Nat → Option Seg := fun _ => none
abbrev I_laws_szArr : List Par := [.rd tA, .rd tI]
abbrev U_laws_szArr : List OT := [⟨false, tI, .fz⟩]
noncomputable def raw_laws_szArr (a0 : dA) (a1 : Int) : Option (ResD U_laws_szArr × MutD I_laws_szArr) :=
  let r1 := n_laws_szMemS a0.2.2.1 a1
  bif (ltb r1 0) then
    some (((-1), ()), ())
  else
    let r2 := n_laws_szEntS a0.2.2.2.2.2.2.2.2.1 r1
    bif (ltb r2 0) then
      some (((-1), ()), ())
    else
      some ((r2, ()), ())
theorem e_laws_szArr (x : InD I_laws_szArr) : execF ⟨E_laws_szArr, 18, D_laws_szArr_0⟩ Try.f26.results.toList B_laws_szArr I_laws_szArr U_laws_szArr x = raw_laws_szArr x.1 x.2.1 := by kernel_rfl
theorem ok0_laws_szArr : ConOk Try.prog 26 ⟨I_laws_szArr, U_laws_szArr, fun x => raw_laws_szArr x.1 x.2.1⟩ := conOk_exec (fr_laws_szArr_0) Try.func26 (by kernel_rfl) (by kernel_rfl) Try.ntmps26.symm (by decide) (fun x r h => (e_laws_szArr x).trans h)
noncomputable def n_laws_szArr (a0 : dA) (a1 : Int) : Int :=
  let r1 := n_laws_szMemS a0.2.2.1 a1
  bif (ltb r1 0) then
    (-1)
  else
    let r2 := n_laws_szEntS a0.2.2.2.2.2.2.2.2.1 r1
    bif (ltb r2 0) then
      (-1)
    else
      r2
noncomputable def con_laws_szArr : Con := ⟨I_laws_szArr, U_laws_szArr, fun x => (fun n => some ((n, ()), ())) (n_laws_szArr x.1 x.2.1)⟩
theorem nn_laws_szArr (a0 : dA) (a1 : Int) : raw_laws_szArr a0 a1 = (fun n => some ((n, ()), ())) (n_laws_szArr a0 a1) := bif_ty (p := fun (n : Int) => ((n, ()), ())) (bif_some (p := fun (n : Int) => ((n, ()), ())) rfl (bif_some (p := fun (n : Int) => ((n, ()), ())) rfl rfl))
theorem ok_laws_szArr : ConOk Try.prog 26 con_laws_szArr := (ok0_laws_szArr).mono (fun x r _ h => (nn_laws_szArr x.1 x.2.1).trans h)
theorem szEntS_le {l : List dW} {k : Int} (h0 : 0 ≤ k) (h1 : k ≤ 1048576) (hl : l.length * 32 ≤ 2 ^ 47) (hx : ∀ x ∈ l, x.2.length * 8 ≤ 2 ^ 47) (h : 0 ≤ n_laws_szEntS l k) : ((l.length + (l.map (fun x : dW => x.2.length)).sum : Nat) : Int) ≤ k - n_laws_szEntS l k ∧ n_laws_szEntS l k ≤ k :=
  szF_le (fun x hm k h0 h1 h => by
    have := hx x hm
    unfold n_laws_szEnt at h ⊢
    by_cases h2 : n_laws_szIntS x.2 k < 0
    · simp only [ltb_t h2, cond_true] at h; omega
    · simp only [ltb_f (Int.not_lt.1 h2), cond_false] at h ⊢
      have := szIntS_nn h0 h1 (by omega) h2
      omega) h0 h1 (by omega) h
theorem szArr_le {a : dA} (hm : tA.Ok a) (h : ltb (n_laws_szArr a 1048576) 0 = false) : mArr a ≤ 2097152 := by
  have h : 0 ≤ n_laws_szArr a 1048576 := by
    rcases Int.lt_or_le (n_laws_szArr a 1048576) 0 with h3 | h3
    · rw [ltb_t h3] at h; cases h
    · exact h3
  unfold n_laws_szArr at h
  by_cases c1 : n_laws_szMemS a.2.2.1 1048576 < 0
  · simp only [ltb_t c1, cond_true] at h; omega
  simp only [ltb_f (Int.not_lt.1 c1), cond_false] at h
  have e1 := szMemS_le (by omega) (by omega) hm.2.2.1 (Int.not_lt.1 c1)
  by_cases c2 : n_laws_szEntS a.2.2.2.2.2.2.2.2.1 (n_laws_szMemS a.2.2.1 1048576) < 0
  · simp only [ltb_t c2, cond_true] at h; omega
  have e2 := szEntS_le (Int.not_lt.1 c1) (by omega) hm.2.2.2.2.2.2.2.2.1.1 (fun x hx => (hm.2.2.2.2.2.2.2.2.1.2 x hx).2.1) (Int.not_lt.1 c2)
  have e3 := mMems_le (l := a.2.2.1)
  unfold mArr mEnts
  rw [sum_add1 (fun x : dW => x.2.length) 1]
  omega
end

/-! spec_l2Copy -/
section
noncomputable def B_spec_l2Copy : Code := (Try.f98.body).getD .skip
noncomputable def E_spec_l2Copy : Env := envOf TT [] [(21056, .fz), (21120, .fz), (37952, (.pr .fz .fz)), (38016, (.pr .fz .fz))]
theorem fr_spec_l2Copy_0 : FrOk Try.prog ⟨E_spec_l2Copy, 60, fun _ => none⟩ B_spec_l2Copy := frOk_base mixed tt_ok trivial
noncomputable def D_spec_l2Copy_0 : Nat → Option Seg := fun _ => none
def L_spec_l2Copy_29 : Shape := ⟨[(1, false, [.ptr 0 0]), (2, false, [.ptr 64 0]), (3, false, [.ptr 4544 0]), (4, false, [.int .i64])], [(0, [.br tL, .br tW, .bool, .br tI]), (64, [.nil, .nil, .bool, .nil]), (4544, [.at 800000001, .nil, .bool, .at 800000000])], [(800000001, tL, .fz), (800000000, tI, .fz)]⟩
def S_spec_l2Copy_29 : Shape := ⟨[(1, false, [.ptr 0 0]), (2, false, [.ptr 64 0]), (3, false, [.ptr 4544 0]), (4, false, [.ci .i64 0])], [(0, [.br tL, .br tW, .bool, .br tI]), (64, [.nil, .nil, .bool, .nil]), (4544, [.at 800000001, .nil, .bool, .at 800000000])], [(800000001, tL, .fz), (800000000, tI, .fz)]⟩
def O_spec_l2Copy_29 : Shape := ⟨[(1, false, [.ptr 0 0]), (2, false, [.ptr 64 0]), (3, false, [.ptr 4544 0])], [(0, [.br tL, .br tW, .bool, .br tI]), (64, [.nil, .nil, .bool, .nil]), (4544, [.at 800000000, .nil, .bool, .at 800000001])], [(800000000, tL, .fz), (800000001, tI, .fz)]⟩
def Z_spec_l2Copy_29 : Shape := ⟨[], [], []⟩
abbrev mk_spec_l2Copy_29 (v0 : Int) (v1 v2 v3 : dM) : (L_spec_l2Copy_29).X := ((((), ()), ((), ()), ((), ()), (v0, ()), ()), ((v1.1, v1.2.1, v1.2.2.1, v1.2.2.2, ()), ((), (), v2.2.2.1, (), ()), ((), (), v3.2.2.1, (), ()), ()), (v3.1, v3.2.2.2, ()))
abbrev ms_spec_l2Copy_29 (v0 v1 v2 : dM) : (S_spec_l2Copy_29).X := ((((), ()), ((), ()), ((), ()), ((), ()), ()), ((v0.1, v0.2.1, v0.2.2.1, v0.2.2.2, ()), ((), (), v1.2.2.1, (), ()), ((), (), v2.2.2.1, (), ()), ()), (v2.1, v2.2.2.2, ()))
abbrev mo_spec_l2Copy_29 (v0 v1 v2 : dM) : (O_spec_l2Copy_29).X := ((((), ()), ((), ()), ((), ()), ()), ((v0.1, v0.2.1, v0.2.2.1, v0.2.2.2, ()), ((), (), v1.2.2.1, (), ()), ((), (), v2.2.2.1, (), ()), ()), (v2.1, v2.2.2.2, ()))
noncomputable def st_spec_l2Copy_29 (v0 : Int) (v1 : List (List Int)) (v2 : List dW) (v3 : Bool) (v4 : List Int) (v5 v6 : Bool) (v7 : List (List Int)) (v8 : List Int) : Option ((L_spec_l2Copy_29).X ⊕ ((O_spec_l2Copy_29).X ⊕ (Z_spec_l2Copy_29).X)) :=
  bif (ltb v0 (v1.length : Int)) then
    bif (inb v0 v1.length) then
      bif (apok ([] : List Int).length (nth v1 v0 []).length 8) then
        bif (apok v7.length ([(([] : List Int) ++ (nth v1 v0 []))] : List (List Int)).length 24) then
          some (.inl ((((), ()), ((), ()), ((), ()), ((IntKind.i64.wrap (v0 + 1)), ()), ()), ((v1, v2, v3, v4, ()), ((), (), v5, (), ()), ((), (), v6, (), ()), ()), ((v7 ++ ([(([] : List Int) ++ (nth v1 v0 []))] : List (List Int))), v8, ())))
        else none
      else none
    else none
  else
    some (.inr (.inl ((((), ()), ((), ()), ((), ()), ()), ((v1, v2, v3, v4, ()), ((), (), v5, (), ()), ((), (), v6, (), ()), ()), (v7, v8, ()))))
noncomputable def stx_spec_l2Copy_29 (x : (L_spec_l2Copy_29).X) := st_spec_l2Copy_29 x.1.2.2.2.1.1 x.2.1.1.1 x.2.1.1.2.1 x.2.1.1.2.2.1 x.2.1.1.2.2.2.1 x.2.1.2.1.2.2.1 x.2.1.2.2.1.2.2.1 x.2.2.1 x.2.2.2.1
def em_spec_l2Copy_29 (x : (S_spec_l2Copy_29).X) : (L_spec_l2Copy_29).X := ((((), ()), ((), ()), ((), ()), (0, ()), ()), ((x.2.1.1.1, x.2.1.1.2.1, x.2.1.1.2.2.1, x.2.1.1.2.2.2.1, ()), ((), (), x.2.1.2.1.2.2.1, (), ()), ((), (), x.2.1.2.2.1.2.2.1, (), ()), ()), (x.2.2.1, x.2.2.2.1, ()))
noncomputable def c_spec_l2Copy_29 : Code := (subN B_spec_l2Copy 64 116).getD .skip
theorem a_spec_l2Copy_29 : subN B_spec_l2Copy 64 29 = some (.block 0 (.loop c_spec_l2Copy_29)) := by kernel_rfl
theorem r_spec_l2Copy_29 (x : (L_spec_l2Copy_29).X) : roundT ⟨E_spec_l2Copy, 60, D_spec_l2Copy_0⟩ 0 c_spec_l2Copy_29 116 L_spec_l2Copy_29 O_spec_l2Copy_29 Z_spec_l2Copy_29 x = stx_spec_l2Copy_29 x := by kernel_rfl
def fu_spec_l2Copy_29 (x : (S_spec_l2Copy_29).X) : Nat := 18446744073709551616
noncomputable def F_spec_l2Copy_29 (x : (S_spec_l2Copy_29).X) : Option ((O_spec_l2Copy_29).X ⊕ (Z_spec_l2Copy_29).X) := loopN stx_spec_l2Copy_29 (fu_spec_l2Copy_29 x) (em_spec_l2Copy_29 x)
noncomputable def sg_spec_l2Copy_29 : Seg := ⟨S_spec_l2Copy_29, O_spec_l2Copy_29, Z_spec_l2Copy_29, F_spec_l2Copy_29⟩
noncomputable def D_spec_l2Copy_1 : Nat → Option Seg := fun q => bif Nat.beq q 29 then some sg_spec_l2Copy_29 else D_spec_l2Copy_0 q
theorem fr_spec_l2Copy_1 : FrOk Try.prog ⟨E_spec_l2Copy, 60, D_spec_l2Copy_1⟩ B_spec_l2Copy := (fr_spec_l2Copy_0).loop (sg := sg_spec_l2Copy_29) L_spec_l2Copy_29 em_spec_l2Copy_29 (by decide) a_spec_l2Copy_29 stx_spec_l2Copy_29 fu_spec_l2Copy_29 (by decide) (fun _ => rfl) (fun x r _ h => h) r_spec_l2Copy_29
def L_spec_l2Copy_61 : Shape := ⟨[(1, false, [.ptr 0 0]), (2, false, [.ptr 64 0]), (3, false, [.ptr 4544 0]), (5, false, [.int .i64])], [(0, [.br tL, .br tW, .bool, .br tI]), (64, [.nil, .nil, .bool, .nil]), (4544, [.at 800000000, .at 800000002, .bool, .at 800000001])], [(800000000, tL, .fz), (800000002, tW, (.pr .fz .fz)), (800000001, tI, .fz)]⟩
def S_spec_l2Copy_61 : Shape := ⟨[(1, false, [.ptr 0 0]), (2, false, [.ptr 64 0]), (3, false, [.ptr 4544 0]), (5, false, [.ci .i64 0])], [(0, [.br tL, .br tW, .bool, .br tI]), (64, [.nil, .nil, .bool, .nil]), (4544, [.at 800000000, .at 800000002, .bool, .at 800000001])], [(800000000, tL, .fz), (800000002, tW, (.pr .fz .fz)), (800000001, tI, .fz)]⟩
def O_spec_l2Copy_61 : Shape := ⟨[(2, false, [.ptr 64 0]), (3, false, [.ptr 4544 0])], [(64, [.nil, .nil, .bool, .nil]), (4544, [.at 800000000, .at 800000001, .bool, .at 800000002])], [(800000000, tL, .fz), (800000001, tW, (.pr .fz .fz)), (800000002, tI, .fz)]⟩
def Z_spec_l2Copy_61 : Shape := ⟨[], [], []⟩
abbrev mk_spec_l2Copy_61 (v0 : Int) (v1 v2 v3 : dM) : (L_spec_l2Copy_61).X := ((((), ()), ((), ()), ((), ()), (v0, ()), ()), ((v1.1, v1.2.1, v1.2.2.1, v1.2.2.2, ()), ((), (), v2.2.2.1, (), ()), ((), (), v3.2.2.1, (), ()), ()), (v3.1, v3.2.1, v3.2.2.2, ()))
abbrev ms_spec_l2Copy_61 (v0 v1 v2 : dM) : (S_spec_l2Copy_61).X := ((((), ()), ((), ()), ((), ()), ((), ()), ()), ((v0.1, v0.2.1, v0.2.2.1, v0.2.2.2, ()), ((), (), v1.2.2.1, (), ()), ((), (), v2.2.2.1, (), ()), ()), (v2.1, v2.2.1, v2.2.2.2, ()))
abbrev mo_spec_l2Copy_61 (v0 v1 : dM) : (O_spec_l2Copy_61).X := ((((), ()), ((), ()), ()), (((), (), v0.2.2.1, (), ()), ((), (), v1.2.2.1, (), ()), ()), (v1.1, v1.2.1, v1.2.2.2, ()))
noncomputable def st_spec_l2Copy_61 (v0 : Int) (v1 : List (List Int)) (v2 : List dW) (v3 : Bool) (v4 : List Int) (v5 v6 : Bool) (v7 : List (List Int)) (v8 : List dW) (v9 : List Int) : Option ((L_spec_l2Copy_61).X ⊕ ((O_spec_l2Copy_61).X ⊕ (Z_spec_l2Copy_61).X)) :=
  bif (ltb v0 (v2.length : Int)) then
    bif (inb v0 v2.length) then
      bif (inb v0 v2.length) then
        bif (apok ([] : List Int).length ((nth v2 v0 (0, [])).2).length 8) then
          bif (apok v8.length ([((nth v2 v0 (0, [])).1, (([] : List Int) ++ ((nth v2 v0 (0, [])).2)))] : List dW).length 32) then
            some (.inl ((((), ()), ((), ()), ((), ()), ((IntKind.i64.wrap (v0 + 1)), ()), ()), ((v1, v2, v3, v4, ()), ((), (), v5, (), ()), ((), (), v6, (), ()), ()), (v7, (v8 ++ ([((nth v2 v0 (0, [])).1, (([] : List Int) ++ ((nth v2 v0 (0, [])).2)))] : List dW)), v9, ())))
          else none
        else none
      else none
    else none
  else
    some (.inr (.inl ((((), ()), ((), ()), ()), (((), (), v5, (), ()), ((), (), v6, (), ()), ()), (v7, v8, v9, ()))))
noncomputable def stx_spec_l2Copy_61 (x : (L_spec_l2Copy_61).X) := st_spec_l2Copy_61 x.1.2.2.2.1.1 x.2.1.1.1 x.2.1.1.2.1 x.2.1.1.2.2.1 x.2.1.1.2.2.2.1 x.2.1.2.1.2.2.1 x.2.1.2.2.1.2.2.1 x.2.2.1 x.2.2.2.1 x.2.2.2.2.1
def em_spec_l2Copy_61 (x : (S_spec_l2Copy_61).X) : (L_spec_l2Copy_61).X := ((((), ()), ((), ()), ((), ()), (0, ()), ()), ((x.2.1.1.1, x.2.1.1.2.1, x.2.1.1.2.2.1, x.2.1.1.2.2.2.1, ()), ((), (), x.2.1.2.1.2.2.1, (), ()), ((), (), x.2.1.2.2.1.2.2.1, (), ()), ()), (x.2.2.1, x.2.2.2.1, x.2.2.2.2.1, ()))
noncomputable def c_spec_l2Copy_61 : Code := (subN B_spec_l2Copy 64 244).getD .skip
theorem a_spec_l2Copy_61 : subN B_spec_l2Copy 64 61 = some (.block 2 (.loop c_spec_l2Copy_61)) := by kernel_rfl
theorem r_spec_l2Copy_61 (x : (L_spec_l2Copy_61).X) : roundT ⟨E_spec_l2Copy, 60, D_spec_l2Copy_1⟩ 2 c_spec_l2Copy_61 244 L_spec_l2Copy_61 O_spec_l2Copy_61 Z_spec_l2Copy_61 x = stx_spec_l2Copy_61 x := by kernel_rfl
def fu_spec_l2Copy_61 (x : (S_spec_l2Copy_61).X) : Nat := 18446744073709551616
noncomputable def F_spec_l2Copy_61 (x : (S_spec_l2Copy_61).X) : Option ((O_spec_l2Copy_61).X ⊕ (Z_spec_l2Copy_61).X) := loopN stx_spec_l2Copy_61 (fu_spec_l2Copy_61 x) (em_spec_l2Copy_61 x)
noncomputable def sg_spec_l2Copy_61 : Seg := ⟨S_spec_l2Copy_61, O_spec_l2Copy_61, Z_spec_l2Copy_61, F_spec_l2Copy_61⟩
noncomputable def D_spec_l2Copy_2 : Nat → Option Seg := fun q => bif Nat.beq q 61 then some sg_spec_l2Copy_61 else D_spec_l2Copy_1 q
theorem fr_spec_l2Copy_2 : FrOk Try.prog ⟨E_spec_l2Copy, 60, D_spec_l2Copy_2⟩ B_spec_l2Copy := (fr_spec_l2Copy_1).loop (sg := sg_spec_l2Copy_61) L_spec_l2Copy_61 em_spec_l2Copy_61 (by decide) a_spec_l2Copy_61 stx_spec_l2Copy_61 fu_spec_l2Copy_61 (by decide) (fun _ => rfl) (fun x r _ h => h) r_spec_l2Copy_61
abbrev I_spec_l2Copy : List Par := [.rd tM]
abbrev U_spec_l2Copy : List OT := [⟨false, tM, (.pr (.ow .fz) (.pr (.ow (.pr .fz .fz)) (.pr .fz (.ow .fz))))⟩]
noncomputable def raw_spec_l2Copy (a0 : dM) : Option (ResD U_spec_l2Copy × MutD I_spec_l2Copy) :=
  bif (apok ([] : List Int).length a0.2.2.2.length 8) then
    segM (F_spec_l2Copy_29 ((((), ()), ((), ()), ((), ()), ((), ()), ()), ((a0.1, a0.2.1, a0.2.2.1, a0.2.2.2, ()), ((), (), false, (), ()), ((), (), a0.2.2.1, (), ()), ()), ([], (([] : List Int) ++ a0.2.2.2), ()))) (fun y0 =>
      segM (F_spec_l2Copy_61 ((((), ()), ((), ()), ((), ()), ((), ()), ()), ((y0.2.1.1.1, y0.2.1.1.2.1, y0.2.1.1.2.2.1, y0.2.1.1.2.2.2.1, ()), ((), (), y0.2.1.2.1.2.2.1, (), ()), ((), (), y0.2.1.2.2.1.2.2.1, (), ()), ()), (y0.2.2.1, [], y0.2.2.2.1, ()))) (fun y1 =>
        some (((y1.2.2.1, y1.2.2.2.1, y1.2.1.2.1.2.2.1, y1.2.2.2.2.1), ()), ())) (fun y1 =>
        none)) (fun y0 =>
      none)
  else none
theorem e_spec_l2Copy (x : InD I_spec_l2Copy) : execF ⟨E_spec_l2Copy, 60, D_spec_l2Copy_2⟩ Try.f98.results.toList B_spec_l2Copy I_spec_l2Copy U_spec_l2Copy x = raw_spec_l2Copy x.1 := by kernel_rfl
theorem ok0_spec_l2Copy : ConOk Try.prog 98 ⟨I_spec_l2Copy, U_spec_l2Copy, fun x => raw_spec_l2Copy x.1⟩ := conOk_exec (fr_spec_l2Copy_2) Try.func98 (by kernel_rfl) (by kernel_rfl) Try.ntmps98.symm (by decide) (fun x r h => (e_spec_l2Copy x).trans h)
noncomputable def n_spec_l2Copy (a0 : dM) : dM := a0
theorem nn_spec_l2Copy (a0 : dM) (hk : InOk I_spec_l2Copy (a0, ())) : raw_spec_l2Copy a0 = (fun n => some ((n, ()), ())) (n_spec_l2Copy a0) := by
  have hb1 : a0.1.length * 24 ≤ 2 ^ 47 := hk.1.1.1
  have hb2 : a0.2.1.length * 32 ≤ 2 ^ 47 := hk.1.2.1.1
  have hb3 : a0.2.2.2.length * 8 ≤ 2 ^ 47 := hk.1.2.2.2.1
  have hs : ∀ i, i < a0.1.length → (a0.1.getD i []).length * 8 ≤ 2 ^ 47 := fun i hi => by rw [getD_get hi]; exact (hk.1.1.2 _ (List.getElem_mem hi)).1
  have hc : ∀ i, i < a0.2.1.length → (a0.2.1.getD i (0, [])).2.length * 8 ≤ 2 ^ 47 := fun i hi => by rw [getD_get hi]; exact (hk.1.2.1.2 _ (List.getElem_mem hi)).2.1
  have h1 : F_spec_l2Copy_29 (ms_spec_l2Copy_29 a0 noMem ([], [], a0.2.2.1, a0.2.2.2)) = some (.inl (mo_spec_l2Copy_29 a0 noMem (a0.1, [], a0.2.2.1, a0.2.2.2))) := by
    have := loopN_fold (step := stx_spec_l2Copy_29) a0.1 [] (fun i s => mk_spec_l2Copy_29 i a0 noMem (s, [], a0.2.2.1, a0.2.2.2)) (fun s x => s ++ [x]) (fun i s => s.length = i) (fun s => .inl (mo_spec_l2Copy_29 a0 noMem (s, [], a0.2.2.1, a0.2.2.2))) (fun i s hi hs2 => ⟨by
      have := hs i hi
      simp only [stx_spec_l2Copy_29, mk_spec_l2Copy_29, st_spec_l2Copy_29, ltb_t (show (i : Int) < a0.1.length by omega), cond_true, wr (show -9223372036854775808 ≤ (i : Int) + 1 by omega) (by omega), Int.natCast_add, Int.natCast_one, Int.toNat_natCast, inb_nat hi, nth_nat, List.nil_append]
      rw [apok_iff.2 (show (([] : List Int).length + (a0.1.getD i []).length) * 8 ≤ 140737488355328 by rw [List.length_nil]; omega), apok_iff.2 (show (s.length + [a0.1.getD i []].length) * 24 ≤ 140737488355328 by simp only [List.length_cons, List.length_nil]; omega)]; rfl, by simp [hs2]⟩) (fun s _ => by simp only [stx_spec_l2Copy_29, mk_spec_l2Copy_29, st_spec_l2Copy_29, ltb_f (Int.le_refl _), cond_false]) [] rfl 18446744073709551616 (by omega)
    rw [foldl_id] at this
    exact this
  have h2 : F_spec_l2Copy_61 (ms_spec_l2Copy_61 a0 noMem (a0.1, [], a0.2.2.1, a0.2.2.2)) = some (.inl (mo_spec_l2Copy_61 noMem a0)) := by
    have := loopN_fold (step := stx_spec_l2Copy_61) a0.2.1 (0, []) (fun i s => mk_spec_l2Copy_61 i a0 noMem (a0.1, s, a0.2.2.1, a0.2.2.2)) (fun s x => s ++ [x]) (fun i s => s.length = i) (fun s => .inl (mo_spec_l2Copy_61 noMem (a0.1, s, a0.2.2.1, a0.2.2.2))) (fun i s hi hs2 => ⟨by
      have := hc i hi
      simp only [stx_spec_l2Copy_61, mk_spec_l2Copy_61, st_spec_l2Copy_61, ltb_t (show (i : Int) < a0.2.1.length by omega), cond_true, wr (show -9223372036854775808 ≤ (i : Int) + 1 by omega) (by omega), Int.natCast_add, Int.natCast_one, Int.toNat_natCast, inb_nat hi, nth_nat, List.nil_append, pr_eta]
      rw [apok_iff.2 (show (([] : List Int).length + (a0.2.1.getD i (0, [])).2.length) * 8 ≤ 140737488355328 by rw [List.length_nil]; omega), apok_iff.2 (show (s.length + [a0.2.1.getD i (0, [])].length) * 32 ≤ 140737488355328 by simp only [List.length_cons, List.length_nil]; omega)]; rfl, by simp [hs2]⟩) (fun s _ => by simp only [stx_spec_l2Copy_61, mk_spec_l2Copy_61, st_spec_l2Copy_61, ltb_f (Int.le_refl _), cond_false]) [] rfl 18446744073709551616 (by omega)
    rw [foldl_id] at this
    exact this
  unfold raw_spec_l2Copy n_spec_l2Copy
  rw [apok_iff.2 (show (([] : List Int).length + a0.2.2.2.length) * 8 ≤ 140737488355328 by rw [List.length_nil]; omega)]
  simp only [cond_true, List.nil_append, h1, segM_inl, h2]
noncomputable def con_spec_l2Copy : Con := ⟨I_spec_l2Copy, U_spec_l2Copy, fun x => (fun n => some ((n, ()), ())) (n_spec_l2Copy x.1)⟩
theorem ok_spec_l2Copy : ConOk Try.prog 98 con_spec_l2Copy := (ok0_spec_l2Copy).mono (fun x r hk h => (nn_spec_l2Copy x.1 hk).trans h)
end

/-! spec_l6Copy -/
section
noncomputable def B_spec_l6Copy : Code := (Try.f58.body).getD .skip
noncomputable def E_spec_l6Copy : Env := envOf TT [(98, con_spec_l2Copy)] [(8192, (.pr (.ow .fz) (.pr (.ow (.pr .fz .fz)) (.pr .fz (.ow .fz))))), (25088, (.pr (.ow .fz) (.pr (.ow (.pr .fz .fz)) (.pr .fz (.ow .fz))))), (28672, (.pr .fz .fz)), (46144, (.pr .fz .fz))]
theorem fr_spec_l6Copy_0 : FrOk Try.prog ⟨E_spec_l6Copy, 57, fun _ => none⟩ B_spec_l6Copy := frOk_base mixed tt_ok ⟨ok_spec_l2Copy, trivial⟩
noncomputable def D_spec_l6Copy_0 : Nat → Option Seg := fun _ => none
def L_spec_l6Copy_61 : Shape := ⟨[(1, false, [.ptr 0 0]), (2, false, [.ptr 64 0]), (3, false, [.ptr 4160 0]), (4, false, [.int .i64])], [(0, [.int .i64, .int .i64, .int .i64, .br tM, .int .i64, .int .i64, .int .i64, .int .i64, .int .i64, .br tW, .int .i64, .bool, .bool]), (64, [.int .i64, .int .i64, .int .i64, .nil, .int .i64, .int .i64, .int .i64, .int .i64, .int .i64, .nil, .int .i64, .bool, .bool]), (4160, [.int .i64, .int .i64, .int .i64, .at 800000000, .int .i64, .int .i64, .int .i64, .int .i64, .int .i64, .br tW, .int .i64, .bool, .bool])], [(800000000, tM, (.pr (.ow .fz) (.pr (.ow (.pr .fz .fz)) (.pr .fz (.ow .fz)))))]⟩
def S_spec_l6Copy_61 : Shape := ⟨[(1, false, [.ptr 0 0]), (2, false, [.ptr 64 0]), (3, false, [.ptr 4160 0]), (4, false, [.ci .i64 0])], [(0, [.int .i64, .int .i64, .int .i64, .br tM, .int .i64, .int .i64, .int .i64, .int .i64, .int .i64, .br tW, .int .i64, .bool, .bool]), (64, [.int .i64, .int .i64, .int .i64, .nil, .int .i64, .int .i64, .int .i64, .int .i64, .int .i64, .nil, .int .i64, .bool, .bool]), (4160, [.int .i64, .int .i64, .int .i64, .at 800000000, .int .i64, .int .i64, .int .i64, .int .i64, .int .i64, .br tW, .int .i64, .bool, .bool])], [(800000000, tM, (.pr (.ow .fz) (.pr (.ow (.pr .fz .fz)) (.pr .fz (.ow .fz)))))]⟩
def O_spec_l6Copy_61 : Shape := ⟨[(1, false, [.ptr 0 0]), (2, false, [.ptr 64 0]), (3, false, [.ptr 4160 0])], [(0, [.int .i64, .int .i64, .int .i64, .br tM, .int .i64, .int .i64, .int .i64, .int .i64, .int .i64, .br tW, .int .i64, .bool, .bool]), (64, [.int .i64, .int .i64, .int .i64, .nil, .int .i64, .int .i64, .int .i64, .int .i64, .int .i64, .nil, .int .i64, .bool, .bool]), (4160, [.int .i64, .int .i64, .int .i64, .at 800000000, .int .i64, .int .i64, .int .i64, .int .i64, .int .i64, .br tW, .int .i64, .bool, .bool])], [(800000000, tM, (.pr (.ow .fz) (.pr (.ow (.pr .fz .fz)) (.pr .fz (.ow .fz)))))]⟩
def Z_spec_l6Copy_61 : Shape := ⟨[], [], []⟩
abbrev mk_spec_l6Copy_61 (v0 : Int) (v1 v2 v3 : dA) : (L_spec_l6Copy_61).X := ((((), ()), ((), ()), ((), ()), (v0, ()), ()), ((v1.1, v1.2.1.1, v1.2.1.2, v1.2.2.1, v1.2.2.2.1, v1.2.2.2.2.1, v1.2.2.2.2.2.1, v1.2.2.2.2.2.2.1, v1.2.2.2.2.2.2.2.1, v1.2.2.2.2.2.2.2.2.1, v1.2.2.2.2.2.2.2.2.2.1, v1.2.2.2.2.2.2.2.2.2.2.1, v1.2.2.2.2.2.2.2.2.2.2.2, ()), (v2.1, v2.2.1.1, v2.2.1.2, (), v2.2.2.2.1, v2.2.2.2.2.1, v2.2.2.2.2.2.1, v2.2.2.2.2.2.2.1, v2.2.2.2.2.2.2.2.1, (), v2.2.2.2.2.2.2.2.2.2.1, v2.2.2.2.2.2.2.2.2.2.2.1, v2.2.2.2.2.2.2.2.2.2.2.2, ()), (v3.1, v3.2.1.1, v3.2.1.2, (), v3.2.2.2.1, v3.2.2.2.2.1, v3.2.2.2.2.2.1, v3.2.2.2.2.2.2.1, v3.2.2.2.2.2.2.2.1, v3.2.2.2.2.2.2.2.2.1, v3.2.2.2.2.2.2.2.2.2.1, v3.2.2.2.2.2.2.2.2.2.2.1, v3.2.2.2.2.2.2.2.2.2.2.2, ()), ()), (v3.2.2.1, ()))
abbrev ms_spec_l6Copy_61 (v0 v1 v2 : dA) : (S_spec_l6Copy_61).X := ((((), ()), ((), ()), ((), ()), ((), ()), ()), ((v0.1, v0.2.1.1, v0.2.1.2, v0.2.2.1, v0.2.2.2.1, v0.2.2.2.2.1, v0.2.2.2.2.2.1, v0.2.2.2.2.2.2.1, v0.2.2.2.2.2.2.2.1, v0.2.2.2.2.2.2.2.2.1, v0.2.2.2.2.2.2.2.2.2.1, v0.2.2.2.2.2.2.2.2.2.2.1, v0.2.2.2.2.2.2.2.2.2.2.2, ()), (v1.1, v1.2.1.1, v1.2.1.2, (), v1.2.2.2.1, v1.2.2.2.2.1, v1.2.2.2.2.2.1, v1.2.2.2.2.2.2.1, v1.2.2.2.2.2.2.2.1, (), v1.2.2.2.2.2.2.2.2.2.1, v1.2.2.2.2.2.2.2.2.2.2.1, v1.2.2.2.2.2.2.2.2.2.2.2, ()), (v2.1, v2.2.1.1, v2.2.1.2, (), v2.2.2.2.1, v2.2.2.2.2.1, v2.2.2.2.2.2.1, v2.2.2.2.2.2.2.1, v2.2.2.2.2.2.2.2.1, v2.2.2.2.2.2.2.2.2.1, v2.2.2.2.2.2.2.2.2.2.1, v2.2.2.2.2.2.2.2.2.2.2.1, v2.2.2.2.2.2.2.2.2.2.2.2, ()), ()), (v2.2.2.1, ()))
abbrev mo_spec_l6Copy_61 (v0 v1 v2 : dA) : (O_spec_l6Copy_61).X := ((((), ()), ((), ()), ((), ()), ()), ((v0.1, v0.2.1.1, v0.2.1.2, v0.2.2.1, v0.2.2.2.1, v0.2.2.2.2.1, v0.2.2.2.2.2.1, v0.2.2.2.2.2.2.1, v0.2.2.2.2.2.2.2.1, v0.2.2.2.2.2.2.2.2.1, v0.2.2.2.2.2.2.2.2.2.1, v0.2.2.2.2.2.2.2.2.2.2.1, v0.2.2.2.2.2.2.2.2.2.2.2, ()), (v1.1, v1.2.1.1, v1.2.1.2, (), v1.2.2.2.1, v1.2.2.2.2.1, v1.2.2.2.2.2.1, v1.2.2.2.2.2.2.1, v1.2.2.2.2.2.2.2.1, (), v1.2.2.2.2.2.2.2.2.2.1, v1.2.2.2.2.2.2.2.2.2.2.1, v1.2.2.2.2.2.2.2.2.2.2.2, ()), (v2.1, v2.2.1.1, v2.2.1.2, (), v2.2.2.2.1, v2.2.2.2.2.1, v2.2.2.2.2.2.1, v2.2.2.2.2.2.2.1, v2.2.2.2.2.2.2.2.1, v2.2.2.2.2.2.2.2.2.1, v2.2.2.2.2.2.2.2.2.2.1, v2.2.2.2.2.2.2.2.2.2.2.1, v2.2.2.2.2.2.2.2.2.2.2.2, ()), ()), (v2.2.2.1, ()))
noncomputable def st_spec_l6Copy_61 (v0 v1 v2 v3 : Int) (v4 : List dM) (v5 v6 v7 v8 v9 : Int) (v10 : List dW) (v11 : Int) (v12 v13 : Bool) (v14 v15 v16 v17 v18 v19 v20 v21 v22 : Int) (v23 v24 : Bool) (v25 v26 v27 v28 v29 v30 v31 v32 : Int) (v33 : List dW) (v34 : Int) (v35 v36 : Bool) (v37 : List dM) : Option ((L_spec_l6Copy_61).X ⊕ ((O_spec_l6Copy_61).X ⊕ (Z_spec_l6Copy_61).X)) :=
  bif (ltb v0 (v4.length : Int)) then
    bif (inb v0 v4.length) then
      let r2 := n_spec_l2Copy ((nth v4 v0 ([], [], false, [])).1, ((nth v4 v0 ([], [], false, [])).2).1, (((nth v4 v0 ([], [], false, [])).2).2))
      bif (apok v37.length ([r2] : List dM).length 80) then
        some (.inl ((((), ()), ((), ()), ((), ()), ((IntKind.i64.wrap (v0 + 1)), ()), ()), ((v1, v2, v3, v4, v5, v6, v7, v8, v9, v10, v11, v12, v13, ()), (v14, v15, v16, (), v17, v18, v19, v20, v21, (), v22, v23, v24, ()), (v25, v26, v27, (), v28, v29, v30, v31, v32, v33, v34, v35, v36, ()), ()), ((v37 ++ ([r2] : List dM)), ())))
      else none
    else none
  else
    some (.inr (.inl ((((), ()), ((), ()), ((), ()), ()), ((v1, v2, v3, v4, v5, v6, v7, v8, v9, v10, v11, v12, v13, ()), (v14, v15, v16, (), v17, v18, v19, v20, v21, (), v22, v23, v24, ()), (v25, v26, v27, (), v28, v29, v30, v31, v32, v33, v34, v35, v36, ()), ()), (v37, ()))))
noncomputable def stx_spec_l6Copy_61 (x : (L_spec_l6Copy_61).X) := st_spec_l6Copy_61 x.1.2.2.2.1.1 x.2.1.1.1 x.2.1.1.2.1 x.2.1.1.2.2.1 x.2.1.1.2.2.2.1 x.2.1.1.2.2.2.2.1 x.2.1.1.2.2.2.2.2.1 x.2.1.1.2.2.2.2.2.2.1 x.2.1.1.2.2.2.2.2.2.2.1 x.2.1.1.2.2.2.2.2.2.2.2.1 x.2.1.1.2.2.2.2.2.2.2.2.2.1 x.2.1.1.2.2.2.2.2.2.2.2.2.2.1 x.2.1.1.2.2.2.2.2.2.2.2.2.2.2.1 x.2.1.1.2.2.2.2.2.2.2.2.2.2.2.2.1 x.2.1.2.1.1 x.2.1.2.1.2.1 x.2.1.2.1.2.2.1 x.2.1.2.1.2.2.2.2.1 x.2.1.2.1.2.2.2.2.2.1 x.2.1.2.1.2.2.2.2.2.2.1 x.2.1.2.1.2.2.2.2.2.2.2.1 x.2.1.2.1.2.2.2.2.2.2.2.2.1 x.2.1.2.1.2.2.2.2.2.2.2.2.2.2.1 x.2.1.2.1.2.2.2.2.2.2.2.2.2.2.2.1 x.2.1.2.1.2.2.2.2.2.2.2.2.2.2.2.2.1 x.2.1.2.2.1.1 x.2.1.2.2.1.2.1 x.2.1.2.2.1.2.2.1 x.2.1.2.2.1.2.2.2.2.1 x.2.1.2.2.1.2.2.2.2.2.1 x.2.1.2.2.1.2.2.2.2.2.2.1 x.2.1.2.2.1.2.2.2.2.2.2.2.1 x.2.1.2.2.1.2.2.2.2.2.2.2.2.1 x.2.1.2.2.1.2.2.2.2.2.2.2.2.2.1 x.2.1.2.2.1.2.2.2.2.2.2.2.2.2.2.1 x.2.1.2.2.1.2.2.2.2.2.2.2.2.2.2.2.1 x.2.1.2.2.1.2.2.2.2.2.2.2.2.2.2.2.2.1 x.2.2.1
def em_spec_l6Copy_61 (x : (S_spec_l6Copy_61).X) : (L_spec_l6Copy_61).X := ((((), ()), ((), ()), ((), ()), (0, ()), ()), ((x.2.1.1.1, x.2.1.1.2.1, x.2.1.1.2.2.1, x.2.1.1.2.2.2.1, x.2.1.1.2.2.2.2.1, x.2.1.1.2.2.2.2.2.1, x.2.1.1.2.2.2.2.2.2.1, x.2.1.1.2.2.2.2.2.2.2.1, x.2.1.1.2.2.2.2.2.2.2.2.1, x.2.1.1.2.2.2.2.2.2.2.2.2.1, x.2.1.1.2.2.2.2.2.2.2.2.2.2.1, x.2.1.1.2.2.2.2.2.2.2.2.2.2.2.1, x.2.1.1.2.2.2.2.2.2.2.2.2.2.2.2.1, ()), (x.2.1.2.1.1, x.2.1.2.1.2.1, x.2.1.2.1.2.2.1, (), x.2.1.2.1.2.2.2.2.1, x.2.1.2.1.2.2.2.2.2.1, x.2.1.2.1.2.2.2.2.2.2.1, x.2.1.2.1.2.2.2.2.2.2.2.1, x.2.1.2.1.2.2.2.2.2.2.2.2.1, (), x.2.1.2.1.2.2.2.2.2.2.2.2.2.2.1, x.2.1.2.1.2.2.2.2.2.2.2.2.2.2.2.1, x.2.1.2.1.2.2.2.2.2.2.2.2.2.2.2.2.1, ()), (x.2.1.2.2.1.1, x.2.1.2.2.1.2.1, x.2.1.2.2.1.2.2.1, (), x.2.1.2.2.1.2.2.2.2.1, x.2.1.2.2.1.2.2.2.2.2.1, x.2.1.2.2.1.2.2.2.2.2.2.1, x.2.1.2.2.1.2.2.2.2.2.2.2.1, x.2.1.2.2.1.2.2.2.2.2.2.2.2.1, x.2.1.2.2.1.2.2.2.2.2.2.2.2.2.1, x.2.1.2.2.1.2.2.2.2.2.2.2.2.2.2.1, x.2.1.2.2.1.2.2.2.2.2.2.2.2.2.2.2.1, x.2.1.2.2.1.2.2.2.2.2.2.2.2.2.2.2.2.1, ()), ()), (x.2.2.1, ()))
noncomputable def c_spec_l6Copy_61 : Code := (subN B_spec_l6Copy 64 244).getD .skip
theorem a_spec_l6Copy_61 : subN B_spec_l6Copy 64 61 = some (.block 0 (.loop c_spec_l6Copy_61)) := by kernel_rfl
theorem r_spec_l6Copy_61 (x : (L_spec_l6Copy_61).X) : roundT ⟨E_spec_l6Copy, 57, D_spec_l6Copy_0⟩ 0 c_spec_l6Copy_61 244 L_spec_l6Copy_61 O_spec_l6Copy_61 Z_spec_l6Copy_61 x = stx_spec_l6Copy_61 x := by kernel_rfl
def fu_spec_l6Copy_61 (x : (S_spec_l6Copy_61).X) : Nat := 18446744073709551616
noncomputable def F_spec_l6Copy_61 (x : (S_spec_l6Copy_61).X) : Option ((O_spec_l6Copy_61).X ⊕ (Z_spec_l6Copy_61).X) := loopN stx_spec_l6Copy_61 (fu_spec_l6Copy_61 x) (em_spec_l6Copy_61 x)
noncomputable def sg_spec_l6Copy_61 : Seg := ⟨S_spec_l6Copy_61, O_spec_l6Copy_61, Z_spec_l6Copy_61, F_spec_l6Copy_61⟩
noncomputable def D_spec_l6Copy_1 : Nat → Option Seg := fun q => bif Nat.beq q 61 then some sg_spec_l6Copy_61 else D_spec_l6Copy_0 q
theorem fr_spec_l6Copy_1 : FrOk Try.prog ⟨E_spec_l6Copy, 57, D_spec_l6Copy_1⟩ B_spec_l6Copy := (fr_spec_l6Copy_0).loop (sg := sg_spec_l6Copy_61) L_spec_l6Copy_61 em_spec_l6Copy_61 (by decide) a_spec_l6Copy_61 stx_spec_l6Copy_61 fu_spec_l6Copy_61 (by decide) (fun _ => rfl) (fun x r _ h => h) r_spec_l6Copy_61
def L_spec_l6Copy_253 : Shape := ⟨[(1, false, [.ptr 0 0]), (2, false, [.ptr 64 0]), (3, false, [.ptr 4160 0]), (5, false, [.int .i64])], [(0, [.int .i64, .int .i64, .int .i64, .br tM, .int .i64, .int .i64, .int .i64, .int .i64, .int .i64, .br tW, .int .i64, .bool, .bool]), (64, [.int .i64, .int .i64, .int .i64, .nil, .int .i64, .int .i64, .int .i64, .int .i64, .int .i64, .nil, .int .i64, .bool, .bool]), (4160, [.int .i64, .int .i64, .int .i64, .at 800000000, .int .i64, .int .i64, .int .i64, .int .i64, .int .i64, .at 800000001, .int .i64, .bool, .bool])], [(800000000, tM, (.pr (.ow .fz) (.pr (.ow (.pr .fz .fz)) (.pr .fz (.ow .fz))))), (800000001, tW, (.pr .fz .fz))]⟩
def S_spec_l6Copy_253 : Shape := ⟨[(1, false, [.ptr 0 0]), (2, false, [.ptr 64 0]), (3, false, [.ptr 4160 0]), (5, false, [.ci .i64 0])], [(0, [.int .i64, .int .i64, .int .i64, .br tM, .int .i64, .int .i64, .int .i64, .int .i64, .int .i64, .br tW, .int .i64, .bool, .bool]), (64, [.int .i64, .int .i64, .int .i64, .nil, .int .i64, .int .i64, .int .i64, .int .i64, .int .i64, .nil, .int .i64, .bool, .bool]), (4160, [.int .i64, .int .i64, .int .i64, .at 800000000, .int .i64, .int .i64, .int .i64, .int .i64, .int .i64, .at 800000001, .int .i64, .bool, .bool])], [(800000000, tM, (.pr (.ow .fz) (.pr (.ow (.pr .fz .fz)) (.pr .fz (.ow .fz))))), (800000001, tW, (.pr .fz .fz))]⟩
def O_spec_l6Copy_253 : Shape := ⟨[(2, false, [.ptr 64 0]), (3, false, [.ptr 4160 0])], [(64, [.int .i64, .int .i64, .int .i64, .nil, .int .i64, .int .i64, .int .i64, .int .i64, .int .i64, .nil, .int .i64, .bool, .bool]), (4160, [.int .i64, .int .i64, .int .i64, .at 800000000, .int .i64, .int .i64, .int .i64, .int .i64, .int .i64, .at 800000001, .int .i64, .bool, .bool])], [(800000000, tM, (.pr (.ow .fz) (.pr (.ow (.pr .fz .fz)) (.pr .fz (.ow .fz))))), (800000001, tW, (.pr .fz .fz))]⟩
def Z_spec_l6Copy_253 : Shape := ⟨[], [], []⟩
abbrev mk_spec_l6Copy_253 (v0 : Int) (v1 v2 v3 : dA) : (L_spec_l6Copy_253).X := ((((), ()), ((), ()), ((), ()), (v0, ()), ()), ((v1.1, v1.2.1.1, v1.2.1.2, v1.2.2.1, v1.2.2.2.1, v1.2.2.2.2.1, v1.2.2.2.2.2.1, v1.2.2.2.2.2.2.1, v1.2.2.2.2.2.2.2.1, v1.2.2.2.2.2.2.2.2.1, v1.2.2.2.2.2.2.2.2.2.1, v1.2.2.2.2.2.2.2.2.2.2.1, v1.2.2.2.2.2.2.2.2.2.2.2, ()), (v2.1, v2.2.1.1, v2.2.1.2, (), v2.2.2.2.1, v2.2.2.2.2.1, v2.2.2.2.2.2.1, v2.2.2.2.2.2.2.1, v2.2.2.2.2.2.2.2.1, (), v2.2.2.2.2.2.2.2.2.2.1, v2.2.2.2.2.2.2.2.2.2.2.1, v2.2.2.2.2.2.2.2.2.2.2.2, ()), (v3.1, v3.2.1.1, v3.2.1.2, (), v3.2.2.2.1, v3.2.2.2.2.1, v3.2.2.2.2.2.1, v3.2.2.2.2.2.2.1, v3.2.2.2.2.2.2.2.1, (), v3.2.2.2.2.2.2.2.2.2.1, v3.2.2.2.2.2.2.2.2.2.2.1, v3.2.2.2.2.2.2.2.2.2.2.2, ()), ()), (v3.2.2.1, v3.2.2.2.2.2.2.2.2.1, ()))
abbrev ms_spec_l6Copy_253 (v0 v1 v2 : dA) : (S_spec_l6Copy_253).X := ((((), ()), ((), ()), ((), ()), ((), ()), ()), ((v0.1, v0.2.1.1, v0.2.1.2, v0.2.2.1, v0.2.2.2.1, v0.2.2.2.2.1, v0.2.2.2.2.2.1, v0.2.2.2.2.2.2.1, v0.2.2.2.2.2.2.2.1, v0.2.2.2.2.2.2.2.2.1, v0.2.2.2.2.2.2.2.2.2.1, v0.2.2.2.2.2.2.2.2.2.2.1, v0.2.2.2.2.2.2.2.2.2.2.2, ()), (v1.1, v1.2.1.1, v1.2.1.2, (), v1.2.2.2.1, v1.2.2.2.2.1, v1.2.2.2.2.2.1, v1.2.2.2.2.2.2.1, v1.2.2.2.2.2.2.2.1, (), v1.2.2.2.2.2.2.2.2.2.1, v1.2.2.2.2.2.2.2.2.2.2.1, v1.2.2.2.2.2.2.2.2.2.2.2, ()), (v2.1, v2.2.1.1, v2.2.1.2, (), v2.2.2.2.1, v2.2.2.2.2.1, v2.2.2.2.2.2.1, v2.2.2.2.2.2.2.1, v2.2.2.2.2.2.2.2.1, (), v2.2.2.2.2.2.2.2.2.2.1, v2.2.2.2.2.2.2.2.2.2.2.1, v2.2.2.2.2.2.2.2.2.2.2.2, ()), ()), (v2.2.2.1, v2.2.2.2.2.2.2.2.2.1, ()))
abbrev mo_spec_l6Copy_253 (v0 v1 : dA) : (O_spec_l6Copy_253).X := ((((), ()), ((), ()), ()), ((v0.1, v0.2.1.1, v0.2.1.2, (), v0.2.2.2.1, v0.2.2.2.2.1, v0.2.2.2.2.2.1, v0.2.2.2.2.2.2.1, v0.2.2.2.2.2.2.2.1, (), v0.2.2.2.2.2.2.2.2.2.1, v0.2.2.2.2.2.2.2.2.2.2.1, v0.2.2.2.2.2.2.2.2.2.2.2, ()), (v1.1, v1.2.1.1, v1.2.1.2, (), v1.2.2.2.1, v1.2.2.2.2.1, v1.2.2.2.2.2.1, v1.2.2.2.2.2.2.1, v1.2.2.2.2.2.2.2.1, (), v1.2.2.2.2.2.2.2.2.2.1, v1.2.2.2.2.2.2.2.2.2.2.1, v1.2.2.2.2.2.2.2.2.2.2.2, ()), ()), (v1.2.2.1, v1.2.2.2.2.2.2.2.2.1, ()))
noncomputable def st_spec_l6Copy_253 (v0 v1 v2 v3 : Int) (v4 : List dM) (v5 v6 v7 v8 v9 : Int) (v10 : List dW) (v11 : Int) (v12 v13 : Bool) (v14 v15 v16 v17 v18 v19 v20 v21 v22 : Int) (v23 v24 : Bool) (v25 v26 v27 v28 v29 v30 v31 v32 v33 : Int) (v34 v35 : Bool) (v36 : List dM) (v37 : List dW) : Option ((L_spec_l6Copy_253).X ⊕ ((O_spec_l6Copy_253).X ⊕ (Z_spec_l6Copy_253).X)) :=
  bif (ltb v0 (v10.length : Int)) then
    bif (inb v0 v10.length) then
      bif (inb v0 v10.length) then
        bif (apok ([] : List Int).length ((nth v10 v0 (0, [])).2).length 8) then
          bif (apok v37.length ([((nth v10 v0 (0, [])).1, (([] : List Int) ++ ((nth v10 v0 (0, [])).2)))] : List dW).length 32) then
            some (.inl ((((), ()), ((), ()), ((), ()), ((IntKind.i64.wrap (v0 + 1)), ()), ()), ((v1, v2, v3, v4, v5, v6, v7, v8, v9, v10, v11, v12, v13, ()), (v14, v15, v16, (), v17, v18, v19, v20, v21, (), v22, v23, v24, ()), (v25, v26, v27, (), v28, v29, v30, v31, v32, (), v33, v34, v35, ()), ()), (v36, (v37 ++ ([((nth v10 v0 (0, [])).1, (([] : List Int) ++ ((nth v10 v0 (0, [])).2)))] : List dW)), ())))
          else none
        else none
      else none
    else none
  else
    some (.inr (.inl ((((), ()), ((), ()), ()), ((v14, v15, v16, (), v17, v18, v19, v20, v21, (), v22, v23, v24, ()), (v25, v26, v27, (), v28, v29, v30, v31, v32, (), v33, v34, v35, ()), ()), (v36, v37, ()))))
noncomputable def stx_spec_l6Copy_253 (x : (L_spec_l6Copy_253).X) := st_spec_l6Copy_253 x.1.2.2.2.1.1 x.2.1.1.1 x.2.1.1.2.1 x.2.1.1.2.2.1 x.2.1.1.2.2.2.1 x.2.1.1.2.2.2.2.1 x.2.1.1.2.2.2.2.2.1 x.2.1.1.2.2.2.2.2.2.1 x.2.1.1.2.2.2.2.2.2.2.1 x.2.1.1.2.2.2.2.2.2.2.2.1 x.2.1.1.2.2.2.2.2.2.2.2.2.1 x.2.1.1.2.2.2.2.2.2.2.2.2.2.1 x.2.1.1.2.2.2.2.2.2.2.2.2.2.2.1 x.2.1.1.2.2.2.2.2.2.2.2.2.2.2.2.1 x.2.1.2.1.1 x.2.1.2.1.2.1 x.2.1.2.1.2.2.1 x.2.1.2.1.2.2.2.2.1 x.2.1.2.1.2.2.2.2.2.1 x.2.1.2.1.2.2.2.2.2.2.1 x.2.1.2.1.2.2.2.2.2.2.2.1 x.2.1.2.1.2.2.2.2.2.2.2.2.1 x.2.1.2.1.2.2.2.2.2.2.2.2.2.2.1 x.2.1.2.1.2.2.2.2.2.2.2.2.2.2.2.1 x.2.1.2.1.2.2.2.2.2.2.2.2.2.2.2.2.1 x.2.1.2.2.1.1 x.2.1.2.2.1.2.1 x.2.1.2.2.1.2.2.1 x.2.1.2.2.1.2.2.2.2.1 x.2.1.2.2.1.2.2.2.2.2.1 x.2.1.2.2.1.2.2.2.2.2.2.1 x.2.1.2.2.1.2.2.2.2.2.2.2.1 x.2.1.2.2.1.2.2.2.2.2.2.2.2.1 x.2.1.2.2.1.2.2.2.2.2.2.2.2.2.2.1 x.2.1.2.2.1.2.2.2.2.2.2.2.2.2.2.2.1 x.2.1.2.2.1.2.2.2.2.2.2.2.2.2.2.2.2.1 x.2.2.1 x.2.2.2.1
def em_spec_l6Copy_253 (x : (S_spec_l6Copy_253).X) : (L_spec_l6Copy_253).X := ((((), ()), ((), ()), ((), ()), (0, ()), ()), ((x.2.1.1.1, x.2.1.1.2.1, x.2.1.1.2.2.1, x.2.1.1.2.2.2.1, x.2.1.1.2.2.2.2.1, x.2.1.1.2.2.2.2.2.1, x.2.1.1.2.2.2.2.2.2.1, x.2.1.1.2.2.2.2.2.2.2.1, x.2.1.1.2.2.2.2.2.2.2.2.1, x.2.1.1.2.2.2.2.2.2.2.2.2.1, x.2.1.1.2.2.2.2.2.2.2.2.2.2.1, x.2.1.1.2.2.2.2.2.2.2.2.2.2.2.1, x.2.1.1.2.2.2.2.2.2.2.2.2.2.2.2.1, ()), (x.2.1.2.1.1, x.2.1.2.1.2.1, x.2.1.2.1.2.2.1, (), x.2.1.2.1.2.2.2.2.1, x.2.1.2.1.2.2.2.2.2.1, x.2.1.2.1.2.2.2.2.2.2.1, x.2.1.2.1.2.2.2.2.2.2.2.1, x.2.1.2.1.2.2.2.2.2.2.2.2.1, (), x.2.1.2.1.2.2.2.2.2.2.2.2.2.2.1, x.2.1.2.1.2.2.2.2.2.2.2.2.2.2.2.1, x.2.1.2.1.2.2.2.2.2.2.2.2.2.2.2.2.1, ()), (x.2.1.2.2.1.1, x.2.1.2.2.1.2.1, x.2.1.2.2.1.2.2.1, (), x.2.1.2.2.1.2.2.2.2.1, x.2.1.2.2.1.2.2.2.2.2.1, x.2.1.2.2.1.2.2.2.2.2.2.1, x.2.1.2.2.1.2.2.2.2.2.2.2.1, x.2.1.2.2.1.2.2.2.2.2.2.2.2.1, (), x.2.1.2.2.1.2.2.2.2.2.2.2.2.2.2.1, x.2.1.2.2.1.2.2.2.2.2.2.2.2.2.2.2.1, x.2.1.2.2.1.2.2.2.2.2.2.2.2.2.2.2.2.1, ()), ()), (x.2.2.1, x.2.2.2.1, ()))
noncomputable def c_spec_l6Copy_253 : Code := (subN B_spec_l6Copy 64 1012).getD .skip
theorem a_spec_l6Copy_253 : subN B_spec_l6Copy 64 253 = some (.block 2 (.loop c_spec_l6Copy_253)) := by kernel_rfl
theorem r_spec_l6Copy_253 (x : (L_spec_l6Copy_253).X) : roundT ⟨E_spec_l6Copy, 57, D_spec_l6Copy_1⟩ 2 c_spec_l6Copy_253 1012 L_spec_l6Copy_253 O_spec_l6Copy_253 Z_spec_l6Copy_253 x = stx_spec_l6Copy_253 x := by kernel_rfl
def fu_spec_l6Copy_253 (x : (S_spec_l6Copy_253).X) : Nat := 18446744073709551616
noncomputable def F_spec_l6Copy_253 (x : (S_spec_l6Copy_253).X) : Option ((O_spec_l6Copy_253).X ⊕ (Z_spec_l6Copy_253).X) := loopN stx_spec_l6Copy_253 (fu_spec_l6Copy_253 x) (em_spec_l6Copy_253 x)
noncomputable def sg_spec_l6Copy_253 : Seg := ⟨S_spec_l6Copy_253, O_spec_l6Copy_253, Z_spec_l6Copy_253, F_spec_l6Copy_253⟩
noncomputable def D_spec_l6Copy_2 : Nat → Option Seg := fun q => bif Nat.beq q 253 then some sg_spec_l6Copy_253 else D_spec_l6Copy_1 q
theorem fr_spec_l6Copy_2 : FrOk Try.prog ⟨E_spec_l6Copy, 57, D_spec_l6Copy_2⟩ B_spec_l6Copy := (fr_spec_l6Copy_1).loop (sg := sg_spec_l6Copy_253) L_spec_l6Copy_253 em_spec_l6Copy_253 (by decide) a_spec_l6Copy_253 stx_spec_l6Copy_253 fu_spec_l6Copy_253 (by decide) (fun _ => rfl) (fun x r _ h => h) r_spec_l6Copy_253
abbrev I_spec_l6Copy : List Par := [.rd tA]
abbrev U_spec_l6Copy : List OT := [⟨false, tA, (.pr .fz (.pr (.pr .fz .fz) (.pr (.ow (.pr (.ow .fz) (.pr (.ow (.pr .fz .fz)) (.pr .fz (.ow .fz))))) (.pr .fz (.pr .fz (.pr .fz (.pr .fz (.pr .fz (.pr (.ow (.pr .fz .fz)) (.pr .fz (.pr .fz .fz)))))))))))⟩]
noncomputable def raw_spec_l6Copy (a0 : dA) : Option (ResD U_spec_l6Copy × MutD I_spec_l6Copy) :=
  segM (F_spec_l6Copy_61 ((((), ()), ((), ()), ((), ()), ((), ()), ()), ((a0.1, a0.2.1.1, a0.2.1.2, a0.2.2.1, a0.2.2.2.1, a0.2.2.2.2.1, a0.2.2.2.2.2.1, a0.2.2.2.2.2.2.1, a0.2.2.2.2.2.2.2.1, a0.2.2.2.2.2.2.2.2.1, a0.2.2.2.2.2.2.2.2.2.1, a0.2.2.2.2.2.2.2.2.2.2.1, a0.2.2.2.2.2.2.2.2.2.2.2, ()), (0, 0, 0, (), 0, 0, 0, 0, 0, (), 0, false, false, ()), (a0.1, a0.2.1.1, a0.2.1.2, (), a0.2.2.2.1, a0.2.2.2.2.1, a0.2.2.2.2.2.1, a0.2.2.2.2.2.2.1, a0.2.2.2.2.2.2.2.1, a0.2.2.2.2.2.2.2.2.1, a0.2.2.2.2.2.2.2.2.2.1, a0.2.2.2.2.2.2.2.2.2.2.1, a0.2.2.2.2.2.2.2.2.2.2.2, ()), ()), (([] : List dM), ()))) (fun y2 =>
    segM (F_spec_l6Copy_253 ((((), ()), ((), ()), ((), ()), ((), ()), ()), ((y2.2.1.1.1, y2.2.1.1.2.1, y2.2.1.1.2.2.1, y2.2.1.1.2.2.2.1, y2.2.1.1.2.2.2.2.1, y2.2.1.1.2.2.2.2.2.1, y2.2.1.1.2.2.2.2.2.2.1, y2.2.1.1.2.2.2.2.2.2.2.1, y2.2.1.1.2.2.2.2.2.2.2.2.1, y2.2.1.1.2.2.2.2.2.2.2.2.2.1, y2.2.1.1.2.2.2.2.2.2.2.2.2.2.1, y2.2.1.1.2.2.2.2.2.2.2.2.2.2.2.1, y2.2.1.1.2.2.2.2.2.2.2.2.2.2.2.2.1, ()), (y2.2.1.2.1.1, y2.2.1.2.1.2.1, y2.2.1.2.1.2.2.1, (), y2.2.1.2.1.2.2.2.2.1, y2.2.1.2.1.2.2.2.2.2.1, y2.2.1.2.1.2.2.2.2.2.2.1, y2.2.1.2.1.2.2.2.2.2.2.2.1, y2.2.1.2.1.2.2.2.2.2.2.2.2.1, (), y2.2.1.2.1.2.2.2.2.2.2.2.2.2.2.1, y2.2.1.2.1.2.2.2.2.2.2.2.2.2.2.2.1, y2.2.1.2.1.2.2.2.2.2.2.2.2.2.2.2.2.1, ()), (y2.2.1.2.2.1.1, y2.2.1.2.2.1.2.1, y2.2.1.2.2.1.2.2.1, (), y2.2.1.2.2.1.2.2.2.2.1, y2.2.1.2.2.1.2.2.2.2.2.1, y2.2.1.2.2.1.2.2.2.2.2.2.1, y2.2.1.2.2.1.2.2.2.2.2.2.2.1, y2.2.1.2.2.1.2.2.2.2.2.2.2.2.1, (), y2.2.1.2.2.1.2.2.2.2.2.2.2.2.2.2.1, y2.2.1.2.2.1.2.2.2.2.2.2.2.2.2.2.2.1, y2.2.1.2.2.1.2.2.2.2.2.2.2.2.2.2.2.2.1, ()), ()), (y2.2.2.1, ([] : List dW), ()))) (fun y3 =>
      some (((y3.2.1.2.1.1, (y3.2.1.2.1.2.1, y3.2.1.2.1.2.2.1), y3.2.2.1, y3.2.1.2.1.2.2.2.2.1, y3.2.1.2.1.2.2.2.2.2.1, y3.2.1.2.1.2.2.2.2.2.2.1, y3.2.1.2.1.2.2.2.2.2.2.2.1, y3.2.1.2.1.2.2.2.2.2.2.2.2.1, y3.2.2.2.1, y3.2.1.2.1.2.2.2.2.2.2.2.2.2.2.1, y3.2.1.2.1.2.2.2.2.2.2.2.2.2.2.2.1, y3.2.1.2.1.2.2.2.2.2.2.2.2.2.2.2.2.1), ()), ())) (fun y3 =>
      none)) (fun y2 =>
    none)
theorem e_spec_l6Copy (x : InD I_spec_l6Copy) : execF ⟨E_spec_l6Copy, 57, D_spec_l6Copy_2⟩ Try.f58.results.toList B_spec_l6Copy I_spec_l6Copy U_spec_l6Copy x = raw_spec_l6Copy x.1 := by kernel_rfl
theorem ok0_spec_l6Copy : ConOk Try.prog 58 ⟨I_spec_l6Copy, U_spec_l6Copy, fun x => raw_spec_l6Copy x.1⟩ := conOk_exec (fr_spec_l6Copy_2) Try.func58 (by kernel_rfl) (by kernel_rfl) Try.ntmps58.symm (by decide) (fun x r h => (e_spec_l6Copy x).trans h)
noncomputable def n_spec_l6Copy (a0 : dA) : dA := a0
theorem nn_spec_l6Copy (a0 : dA) (hk : InOk I_spec_l6Copy (a0, ())) : raw_spec_l6Copy a0 = (fun n => some ((n, ()), ())) (n_spec_l6Copy a0) := by
  have hb : a0.2.2.1.length * 80 ≤ 2 ^ 47 := hk.1.2.2.1.1
  have hb2 : a0.2.2.2.2.2.2.2.2.1.length * 32 ≤ 2 ^ 47 := hk.1.2.2.2.2.2.2.2.2.1.1
  have hc : ∀ i, i < a0.2.2.2.2.2.2.2.2.1.length → (a0.2.2.2.2.2.2.2.2.1.getD i (0, [])).2.length * 8 ≤ 2 ^ 47 := fun i hi => by rw [getD_get hi]; exact (hk.1.2.2.2.2.2.2.2.2.1.2 _ (List.getElem_mem hi)).2.1
  have h1 := loopN_fold (step := stx_spec_l6Copy_61) a0.2.2.1 noMem (fun i s => mk_spec_l6Copy_61 i a0 noArr (a0.1, a0.2.1, s, a0.2.2.2)) (fun s x => s ++ [x]) (fun i s => s.length = i) (fun s => .inl (mo_spec_l6Copy_61 a0 noArr (a0.1, a0.2.1, s, a0.2.2.2))) (fun i s hi hs => ⟨by
      simp only [stx_spec_l6Copy_61, mk_spec_l6Copy_61, st_spec_l6Copy_61, ltb_t (show (i : Int) < a0.2.2.1.length by omega), cond_true, wr (show -9223372036854775808 ≤ (i : Int) + 1 by omega) (by omega), Int.natCast_add, Int.natCast_one, Int.toNat_natCast, inb_nat hi, nth_nat, n_spec_l2Copy, pr_eta]
      rw [apok_iff.2 (show (s.length + [a0.2.2.1.getD i ([], [], false, [])].length) * 80 ≤ 140737488355328 by simp only [List.length_cons, List.length_nil]; omega)]; rfl, by simp [hs]⟩) (fun s hs => by simp only [stx_spec_l6Copy_61, mk_spec_l6Copy_61, st_spec_l6Copy_61, ltb_f (Int.le_refl _), cond_false]) [] rfl 18446744073709551616 (by omega)
  have h2 := loopN_fold (step := stx_spec_l6Copy_253) a0.2.2.2.2.2.2.2.2.1 (0, []) (fun i s => mk_spec_l6Copy_253 i a0 noArr (a0.1, a0.2.1, a0.2.2.1, a0.2.2.2.1, a0.2.2.2.2.1, a0.2.2.2.2.2.1, a0.2.2.2.2.2.2.1, a0.2.2.2.2.2.2.2.1, s, a0.2.2.2.2.2.2.2.2.2)) (fun s x => s ++ [x]) (fun i s => s.length = i) (fun s => .inl (mo_spec_l6Copy_253 noArr (a0.1, a0.2.1, a0.2.2.1, a0.2.2.2.1, a0.2.2.2.2.1, a0.2.2.2.2.2.1, a0.2.2.2.2.2.2.1, a0.2.2.2.2.2.2.2.1, s, a0.2.2.2.2.2.2.2.2.2))) (fun i s hi hs => ⟨by
      have := hc i hi
      simp only [stx_spec_l6Copy_253, mk_spec_l6Copy_253, st_spec_l6Copy_253, ltb_t (show (i : Int) < a0.2.2.2.2.2.2.2.2.1.length by omega), cond_true, wr (show -9223372036854775808 ≤ (i : Int) + 1 by omega) (by omega), Int.natCast_add, Int.natCast_one, Int.toNat_natCast, inb_nat hi, nth_nat, List.nil_append, pr_eta]
      rw [apok_iff.2 (show (([] : List Int).length + (a0.2.2.2.2.2.2.2.2.1.getD i (0, [])).2.length) * 8 ≤ 140737488355328 by rw [List.length_nil]; omega), apok_iff.2 (show (s.length + [a0.2.2.2.2.2.2.2.2.1.getD i (0, [])].length) * 32 ≤ 140737488355328 by simp only [List.length_cons, List.length_nil]; omega)]; rfl, by simp [hs]⟩) (fun s hs => by simp only [stx_spec_l6Copy_253, mk_spec_l6Copy_253, st_spec_l6Copy_253, ltb_f (Int.le_refl _), cond_false]) [] rfl 18446744073709551616 (by omega)
  rw [foldl_id] at h1 h2
  unfold raw_spec_l6Copy n_spec_l6Copy
  rw [show F_spec_l6Copy_61 (ms_spec_l6Copy_61 a0 noArr (a0.1, a0.2.1, [], a0.2.2.2)) = _ from h1, segM_inl]
  refine (congrArg (fun z => segM z _ _) (show F_spec_l6Copy_253 (ms_spec_l6Copy_253 a0 noArr (a0.1, a0.2.1, a0.2.2.1, a0.2.2.2.1, a0.2.2.2.2.1, a0.2.2.2.2.2.1, a0.2.2.2.2.2.2.1, a0.2.2.2.2.2.2.2.1, [], a0.2.2.2.2.2.2.2.2.2)) = _ from h2)).trans rfl
noncomputable def con_spec_l6Copy : Con := ⟨I_spec_l6Copy, U_spec_l6Copy, fun x => (fun n => some ((n, ()), ())) (n_spec_l6Copy x.1)⟩
theorem ok_spec_l6Copy : ConOk Try.prog 58 con_spec_l6Copy := (ok0_spec_l6Copy).mono (fun x r hk h => (nn_spec_l6Copy x.1 hk).trans h)
end

/-! spec_l1In -/
section
noncomputable def B_spec_l1In : Code := (Try.f60.body).getD .skip
noncomputable def E_spec_l1In : Env := envOf TT [] []
theorem fr_spec_l1In_0 : FrOk Try.prog ⟨E_spec_l1In, 15, fun _ => none⟩ B_spec_l1In := frOk_base mixed tt_ok trivial
noncomputable def D_spec_l1In_0 : Nat → Option Seg := fun _ => none
abbrev I_spec_l1In : List Par := [.rd tI, .rd tI, .rd tI]
abbrev U_spec_l1In : List OT := [⟨false, tB, .fz⟩]
noncomputable def raw_spec_l1In (a0 a1 a2 : Int) : Option (ResD U_spec_l1In × MutD I_spec_l1In) :=
  bif (leb a1 a0) then
    some (((leb a0 a2), ()), ())
  else
    some ((false, ()), ())
theorem e_spec_l1In (x : InD I_spec_l1In) : execF ⟨E_spec_l1In, 15, D_spec_l1In_0⟩ Try.f60.results.toList B_spec_l1In I_spec_l1In U_spec_l1In x = raw_spec_l1In x.1 x.2.1 x.2.2.1 := by kernel_rfl
theorem ok0_spec_l1In : ConOk Try.prog 60 ⟨I_spec_l1In, U_spec_l1In, fun x => raw_spec_l1In x.1 x.2.1 x.2.2.1⟩ := conOk_exec (fr_spec_l1In_0) Try.func60 (by kernel_rfl) (by kernel_rfl) Try.ntmps60.symm (by decide) (fun x r h => (e_spec_l1In x).trans h)
noncomputable def n_spec_l1In (a0 a1 a2 : Int) : Bool :=
  bif (leb a1 a0) then
    (leb a0 a2)
  else
    false
noncomputable def con_spec_l1In : Con := ⟨I_spec_l1In, U_spec_l1In, fun x => (fun n => some ((n, ()), ())) (n_spec_l1In x.1 x.2.1 x.2.2.1)⟩
theorem nn_spec_l1In (a0 a1 a2 : Int) : raw_spec_l1In a0 a1 a2 = (fun n => some ((n, ()), ())) (n_spec_l1In a0 a1 a2) := bif_ty (p := fun (n : Bool) => ((n, ()), ())) (bif_some (p := fun (n : Bool) => ((n, ()), ())) rfl rfl)
theorem ok_spec_l1In : ConOk Try.prog 60 con_spec_l1In := (ok0_spec_l1In).mono (fun x r _ h => (nn_spec_l1In x.1 x.2.1 x.2.2.1).trans h)
theorem in_iff {a b c : Int} : n_spec_l1In a b c = true ↔ b ≤ a ∧ a ≤ c := by
  unfold n_spec_l1In
  cases h : leb b a
  · have := mt leb_t (by rw [h]; simp : ¬ leb b a = true)
    simp [this]
  · simp [leb_iff, leb_iff.1 h]
theorem in_t {a b c : Int} (h : b ≤ a) (h2 : a ≤ c) : n_spec_l1In a b c = true := in_iff.2 ⟨h, h2⟩
theorem in_f {a b c : Int} (h : ¬ (b ≤ a ∧ a ≤ c)) : n_spec_l1In a b c = false := by
  cases e : n_spec_l1In a b c
  · rfl
  · exact absurd (in_iff.1 e) h
theorem in_eq (x a b : Int) : n_spec_l1In x a b = (leb a x && leb x b) := by
  unfold n_spec_l1In; cases leb a x <;> rfl
theorem in_len {x : Int} {n : Nat} (h : n ≤ 1152921504606846976) : n_spec_l1In x 0 (IntKind.i64.wrap ((n : Int) - 1)) = inb x n := by
  rw [wr (by omega) (by omega), Bool.eq_iff_iff, in_iff, inb_iff]; omega
end
end Go.Tf
