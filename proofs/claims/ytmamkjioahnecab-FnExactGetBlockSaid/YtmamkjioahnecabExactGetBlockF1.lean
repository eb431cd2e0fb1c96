/- Functions of the program, and what they come to. -/
import Derived.Test.YtmamkjioahnecabExactGetBlockF0
namespace Go.Tf
open Go.Proofs
set_option synthInstance.maxHeartbeats 400000
set_option synthInstance.maxSize 10000
set_option linter.unusedVariables false
set_option linter.unusedSimpArgs false
set_option maxRecDepth 100000
/-! laws_szEnt -/
section
noncomputable def B_laws_szEnt : Code := (Try.f52.body).getD .skip
noncomputable def E_laws_szEnt : Env := envOf TT [(91, con_laws_szIntS)] []
theorem fr_laws_szEnt_0 : FrOk Try.prog ⟨E_laws_szEnt, 12, fun _ => none⟩ B_laws_szEnt := frOk_base mixed tt_ok ⟨ok_laws_szIntS, trivial⟩
noncomputable def D_laws_szEnt_0 : Nat → Option Seg := fun _ => none
abbrev I_laws_szEnt : List Par := [.rd tW, .rd tI]
abbrev U_laws_szEnt : List OT := [⟨false, tI, .fz⟩]
noncomputable def raw_laws_szEnt (a0 : dW) (a1 : Int) : Option (ResD U_laws_szEnt × MutD I_laws_szEnt) :=
  let r1 := n_laws_szIntS a0.2 a1
  bif (ltb r1 0) then
    some (((-1), ()), ())
  else
    some ((r1, ()), ())
theorem e_laws_szEnt (x : InD I_laws_szEnt) : execF ⟨E_laws_szEnt, 12, D_laws_szEnt_0⟩ Try.f52.results.toList B_laws_szEnt I_laws_szEnt U_laws_szEnt x = raw_laws_szEnt x.1 x.2.1 := by kernel_rfl
theorem ok0_laws_szEnt : ConOk Try.prog 52 ⟨I_laws_szEnt, U_laws_szEnt, fun x => raw_laws_szEnt x.1 x.2.1⟩ := conOk_exec (fr_laws_szEnt_0) Try.func52 (by kernel_rfl) (by kernel_rfl) Try.ntmps52.symm (by decide) (fun x r h => (e_laws_szEnt x).trans h)
noncomputable def n_laws_szEnt (a0 : dW) (a1 : Int) : Int :=
  let r1 := n_laws_szIntS a0.2 a1
  bif (ltb r1 0) then
    (-1)
  else
    r1
noncomputable def con_laws_szEnt : Con := ⟨I_laws_szEnt, U_laws_szEnt, fun x => (fun n => some ((n, ()), ())) (n_laws_szEnt x.1 x.2.1)⟩
theorem nn_laws_szEnt (a0 : dW) (a1 : Int) : raw_laws_szEnt a0 a1 = (fun n => some ((n, ()), ())) (n_laws_szEnt a0 a1) := bif_ty (p := fun (n : Int) => ((n, ()), ())) (bif_some (p := fun (n : Int) => ((n, ()), ())) rfl rfl)
theorem ok_laws_szEnt : ConOk Try.prog 52 con_laws_szEnt := (ok0_laws_szEnt).mono (fun x r _ h => (nn_laws_szEnt x.1 x.2.1).trans h)
end

/-! laws_szEntS -/
section
noncomputable def B_laws_szEntS : Code := (Try.f18.body).getD .skip
noncomputable def E_laws_szEntS : Env := envOf TT [(52, con_laws_szEnt)] []
theorem fr_laws_szEntS_0 : FrOk Try.prog ⟨E_laws_szEntS, 27, fun _ => none⟩ B_laws_szEntS := frOk_base mixed tt_ok ⟨ok_laws_szEnt, trivial⟩
noncomputable def D_laws_szEntS_0 : Nat → Option Seg := fun _ => none
def L_laws_szEntS_61 : Shape := ⟨[(0, false, [.br tW]), (1, false, [.int .i64]), (5, false, [.int .i64])], [], []⟩
def S_laws_szEntS_61 : Shape := ⟨[(0, false, [.br tW]), (1, false, [.int .i64]), (5, false, [.ci .i64 0])], [], []⟩
def O_laws_szEntS_61 : Shape := ⟨[(1, false, [.int .i64])], [], []⟩
def Z_laws_szEntS_61 : Shape := ⟨[(4, false, [.int .i64])], [], []⟩
noncomputable def st_laws_szEntS_61 (v0 : List dW) (v1 : Int) (v2 : Int) : Option ((L_laws_szEntS_61).X ⊕ ((O_laws_szEntS_61).X ⊕ (Z_laws_szEntS_61).X)) :=
  bif (ltb v2 (v0.length : Int)) then
    bif (inb v2 v0.length) then
      let r2 := n_laws_szEnt (nth v0 v2 (0, [])) v1
      bif (ltb r2 0) then
        some (.inr (.inr ((((-1), ()), ()), (), ())))
      else
        some (.inl (((v0, ()), (r2, ()), ((IntKind.i64.wrap (v2 + 1)), ()), ()), (), ()))
    else none
  else
    some (.inr (.inl (((v1, ()), ()), (), ())))
noncomputable def stx_laws_szEntS_61 (x : (L_laws_szEntS_61).X) := st_laws_szEntS_61 x.1.1.1 x.1.2.1.1 x.1.2.2.1.1
def em_laws_szEntS_61 (x : (S_laws_szEntS_61).X) : (L_laws_szEntS_61).X := (((x.1.1.1, ()), (x.1.2.1.1, ()), (0, ()), ()), (), ())
noncomputable def c_laws_szEntS_61 : Code := (subN B_laws_szEntS 64 244).getD .skip
theorem a_laws_szEntS_61 : subN B_laws_szEntS 64 61 = some (.block 0 (.loop c_laws_szEntS_61)) := by kernel_rfl
theorem r_laws_szEntS_61 (x : (L_laws_szEntS_61).X) : roundT ⟨E_laws_szEntS, 27, D_laws_szEntS_0⟩ 0 c_laws_szEntS_61 244 L_laws_szEntS_61 O_laws_szEntS_61 Z_laws_szEntS_61 x = stx_laws_szEntS_61 x := by kernel_rfl
noncomputable def fu_laws_szEntS_61 (x : (S_laws_szEntS_61).X) : Nat := (fun (u0 : List dW) (u1 : Int) => 18446744073709551616) x.1.1.1 x.1.2.1.1
noncomputable def F_laws_szEntS_61 (x : (S_laws_szEntS_61).X) : Option ((O_laws_szEntS_61).X ⊕ (Z_laws_szEntS_61).X) := loopN stx_laws_szEntS_61 (fu_laws_szEntS_61 x) (em_laws_szEntS_61 x)
noncomputable def sg_laws_szEntS_61 : Seg := ⟨S_laws_szEntS_61, O_laws_szEntS_61, Z_laws_szEntS_61, F_laws_szEntS_61⟩
noncomputable def D_laws_szEntS_1 : Nat → Option Seg := fun q => bif Nat.beq q 61 then some sg_laws_szEntS_61 else D_laws_szEntS_0 q
theorem fr_laws_szEntS_1 : FrOk Try.prog ⟨E_laws_szEntS, 27, D_laws_szEntS_1⟩ B_laws_szEntS := (fr_laws_szEntS_0).loop (sg := sg_laws_szEntS_61) L_laws_szEntS_61 em_laws_szEntS_61 (by decide) a_laws_szEntS_61 stx_laws_szEntS_61 fu_laws_szEntS_61 (by decide) (fun _ => rfl) (fun x r _ h => h) r_laws_szEntS_61
abbrev I_laws_szEntS : List Par := [.rd tWs, .rd tI]
abbrev U_laws_szEntS : List OT := [⟨false, tI, .fz⟩]
noncomputable def raw_laws_szEntS (a0 : List dW) (a1 : Int) : Option (ResD U_laws_szEntS × MutD I_laws_szEntS) :=
  bif (ltb (IntKind.i64.wrap (a1 - (a0.length : Int))) 0) then
    some (((-1), ()), ())
  else
    segM (F_laws_szEntS_61 (((a0, ()), ((IntKind.i64.wrap (a1 - (a0.length : Int))), ()), ((), ()), ()), (), ())) (fun y2 =>
      some ((y2.1.1.1, ()), ())) (fun y2 =>
      some ((y2.1.1.1, ()), ()))
theorem e_laws_szEntS (x : InD I_laws_szEntS) : execF ⟨E_laws_szEntS, 27, D_laws_szEntS_1⟩ Try.f18.results.toList B_laws_szEntS I_laws_szEntS U_laws_szEntS x = raw_laws_szEntS x.1 x.2.1 := by kernel_rfl
theorem ok0_laws_szEntS : ConOk Try.prog 18 ⟨I_laws_szEntS, U_laws_szEntS, fun x => raw_laws_szEntS x.1 x.2.1⟩ := conOk_exec (fr_laws_szEntS_1) Try.func18 (by kernel_rfl) (by kernel_rfl) Try.ntmps18.symm (by decide) (fun x r h => (e_laws_szEntS x).trans h)
noncomputable def n_laws_szEntS (a0 : List (dW)) (a1 : Int) : Int := bif ltb (IntKind.i64.wrap (a1 - (a0.length : Int))) 0 then (-1) else (szG n_laws_szEnt a0 (IntKind.i64.wrap (a1 - (a0.length : Int)))).getD (-1)
theorem nn_laws_szEntS (a0 : List (dW)) (a1 : Int) (hk : InOk I_laws_szEntS (a0, a1, ())) : raw_laws_szEntS a0 a1 = (fun n => some ((n, ()), ())) (n_laws_szEntS a0 a1) := by
  have hb : a0.length * 32 ≤ 2 ^ 47 := hk.1.1
  have hl : ∀ k : Int, F_laws_szEntS_61 (((a0, ()), (k, ()), ((), ()), ()), (), ()) = some (match szG n_laws_szEnt a0 k with | some r => .inl (((r, ()), ()), (), ()) | none => .inr ((((-1), ()), ()), (), ())) := fun k =>
    loopN_sz (step := stx_laws_szEntS_61) a0 ((0, []) : dW) (fun i k => (((a0, ()), (k, ()), ((i : Int), ()), ()), (), ())) n_laws_szEnt (fun r => .inl (((r, ()), ()), (), ())) (.inr ((((-1), ()), ()), (), ())) (fun i s hi => by
      simp only [stx_laws_szEntS_61, st_laws_szEntS_61, inb_nat hi, nth_nat, Int.toNat_natCast, ltb_t (show (i : Int) < a0.length by omega), cond_true, wr (show -9223372036854775808 ≤ (i : Int) + 1 by omega) (by omega), Int.natCast_add, Int.natCast_one, pr_eta]
      cases ltb (n_laws_szEnt (a0.getD i (0, [])) s) 0 <;> rfl) (fun s => by simp only [stx_laws_szEntS_61, st_laws_szEntS_61, ltb_f (Int.le_refl _), cond_false]) k _ (by show _ < 18446744073709551616; omega)
  unfold raw_laws_szEntS n_laws_szEntS
  rw [hl]
  cases ltb (IntKind.i64.wrap (a1 - (a0.length : Int))) 0
  · cases szG n_laws_szEnt a0 (IntKind.i64.wrap (a1 - (a0.length : Int))) <;> rfl
  · rfl
noncomputable def con_laws_szEntS : Con := ⟨I_laws_szEntS, U_laws_szEntS, fun x => (fun n => some ((n, ()), ())) (n_laws_szEntS x.1 x.2.1)⟩
theorem ok_laws_szEntS : ConOk Try.prog 18 con_laws_szEntS := (ok0_laws_szEntS).mono (fun x r hk h => (nn_laws_szEntS x.1 x.2.1 hk).trans h)
end

/-! laws_szArr -/
section
noncomputable def B_laws_szArr : Code := (Try.f6.body).getD .skip
noncomputable def E_laws_szArr : Env := envOf TT [(17, con_laws_szMemS), (18, con_laws_szEntS)] []
theorem fr_laws_szArr_0 : FrOk Try.prog ⟨E_laws_szArr, 18, fun _ => none⟩ B_laws_szArr := frOk_base mixed tt_ok ⟨ok_laws_szMemS, ok_laws_szEntS, trivial⟩
noncomputable def D_laws_szArr_0 : Nat → Option Seg := fun _ => none
abbrev I_laws_szArr : List Par := [.rd tA, .rd tI]
abbrev U_laws_szArr : List OT := [⟨false, tI, .fz⟩]
noncomputable def raw_laws_szArr (a0 : dA) (a1 : Int) : Option (ResD U_laws_szArr × MutD I_laws_szArr) :=
  let r1 := n_laws_szMemS a0.2.2.1 a1
  bif (ltb r1 0) then
    some (((-1), ()), ())
  else
    let r2 := n_laws_szEntS a0.2.2.2.2.2.2.2.2.1 r1
    bif (ltb r2 0) then
      some (((-1), ()), ())
    else
      some ((r2, ()), ())
theorem e_laws_szArr (x : InD I_laws_szArr) : execF ⟨E_laws_szArr, 18, D_laws_szArr_0⟩ Try.f6.results.toList B_laws_szArr I_laws_szArr U_laws_szArr x = raw_laws_szArr x.1 x.2.1 := by kernel_rfl
theorem ok0_laws_szArr : ConOk Try.prog 6 ⟨I_laws_szArr, U_laws_szArr, fun x => raw_laws_szArr x.1 x.2.1⟩ := conOk_exec (fr_laws_szArr_0) Try.func6 (by kernel_rfl) (by kernel_rfl) Try.ntmps6.symm (by decide) (fun x r h => (e_laws_szArr x).trans h)
noncomputable def n_laws_szArr (a0 : dA) (a1 : Int) : Int :=
  let r1 := n_laws_szMemS a0.2.2.1 a1
  bif (ltb r1 0) then
    (-1)
  else
    let r2 := n_laws_szEntS a0.2.2.2.2.2.2.2.2.1 r1
    bif (ltb r2 0) then
      (-1)
    else
      r2
noncomputable def con_laws_szArr : Con := ⟨I_laws_szArr, U_laws_szArr, fun x => (fun n => some ((n, ()), ())) (n_laws_szArr x.1 x.2.1)⟩
theorem nn_laws_szArr (a0 : dA) (a1 : Int) : raw_laws_szArr a0 a1 = (fun n => some ((n, ()), ())) (n_laws_szArr a0 a1) := bif_ty (p := fun (n : Int) => ((n, ()), ())) (bif_some (p := fun (n : Int) => ((n, ()), ())) rfl (bif_some (p := fun (n : Int) => ((n, ()), ())) rfl rfl))
theorem ok_laws_szArr : ConOk Try.prog 6 con_laws_szArr := (ok0_laws_szArr).mono (fun x r _ h => (nn_laws_szArr x.1 x.2.1).trans h)
end

/-! spec_l1In -/
section
noncomputable def B_spec_l1In : Code := (Try.f35.body).getD .skip
noncomputable def E_spec_l1In : Env := envOf TT [] []
theorem fr_spec_l1In_0 : FrOk Try.prog ⟨E_spec_l1In, 15, fun _ => none⟩ B_spec_l1In := frOk_base mixed tt_ok trivial
noncomputable def D_spec_l1In_0 : Nat → Option Seg := fun _ => none
abbrev I_spec_l1In : List Par := [.rd tI, .rd tI, .rd tI]
abbrev U_spec_l1In : List OT := [⟨false, tB, .fz⟩]
noncomputable def raw_spec_l1In (a0 : Int) (a1 : Int) (a2 : Int) : Option (ResD U_spec_l1In × MutD I_spec_l1In) :=
  bif (leb a1 a0) then
    some (((leb a0 a2), ()), ())
  else
    some ((false, ()), ())
theorem e_spec_l1In (x : InD I_spec_l1In) : execF ⟨E_spec_l1In, 15, D_spec_l1In_0⟩ Try.f35.results.toList B_spec_l1In I_spec_l1In U_spec_l1In x = raw_spec_l1In x.1 x.2.1 x.2.2.1 := by kernel_rfl
theorem ok0_spec_l1In : ConOk Try.prog 35 ⟨I_spec_l1In, U_spec_l1In, fun x => raw_spec_l1In x.1 x.2.1 x.2.2.1⟩ := conOk_exec (fr_spec_l1In_0) Try.func35 (by kernel_rfl) (by kernel_rfl) Try.ntmps35.symm (by decide) (fun x r h => (e_spec_l1In x).trans h)
noncomputable def n_spec_l1In (a0 : Int) (a1 : Int) (a2 : Int) : Bool :=
  bif (leb a1 a0) then
    (leb a0 a2)
  else
    false
noncomputable def con_spec_l1In : Con := ⟨I_spec_l1In, U_spec_l1In, fun x => (fun n => some ((n, ()), ())) (n_spec_l1In x.1 x.2.1 x.2.2.1)⟩
theorem nn_spec_l1In (a0 : Int) (a1 : Int) (a2 : Int) : raw_spec_l1In a0 a1 a2 = (fun n => some ((n, ()), ())) (n_spec_l1In a0 a1 a2) := bif_ty (p := fun (n : Bool) => ((n, ()), ())) (bif_some (p := fun (n : Bool) => ((n, ()), ())) rfl rfl)
theorem ok_spec_l1In : ConOk Try.prog 35 con_spec_l1In := (ok0_spec_l1In).mono (fun x r _ h => (nn_spec_l1In x.1 x.2.1 x.2.2.1).trans h)
theorem in_iff {a b c : Int} : n_spec_l1In a b c = true ↔ b ≤ a ∧ a ≤ c := by
  unfold n_spec_l1In
  cases h : leb b a
  · have := mt leb_t (by rw [h]; simp : ¬ leb b a = true)
    simp [this]
  · simp [leb_iff, leb_iff.1 h]
theorem in_t {a b c : Int} (h : b ≤ a) (h2 : a ≤ c) : n_spec_l1In a b c = true := in_iff.2 ⟨h, h2⟩
theorem in_f {a b c : Int} (h : ¬ (b ≤ a ∧ a ≤ c)) : n_spec_l1In a b c = false := by
  cases e : n_spec_l1In a b c
  · rfl
  · exact absurd (in_iff.1 e) h
theorem in_eq (x a b : Int) : n_spec_l1In x a b = (leb a x && leb x b) := by
  unfold n_spec_l1In; cases leb a x <;> rfl
theorem in_len {x : Int} {n : Nat} (h : n ≤ 1152921504606846976) : n_spec_l1In x 0 (IntKind.i64.wrap ((n : Int) - 1)) = inb x n := by
  rw [wr (by omega) (by omega), Bool.eq_iff_iff, in_iff, inb_iff]; omega
end

/-! spec_GeoOk -/
section
noncomputable def B_spec_GeoOk : Code := (Try.f65.body).getD .skip
noncomputable def E_spec_GeoOk : Env := envOf TT [(35, con_spec_l1In)] []
theorem fr_spec_GeoOk_0 : FrOk Try.prog ⟨E_spec_GeoOk, 11, fun _ => none⟩ B_spec_GeoOk := frOk_base mixed tt_ok ⟨ok_spec_l1In, trivial⟩
noncomputable def D_spec_GeoOk_0 : Nat → Option Seg := fun _ => none
abbrev I_spec_GeoOk : List Par := [.rd tG]
abbrev U_spec_GeoOk : List OT := [⟨false, tB, .fz⟩]
noncomputable def raw_spec_GeoOk (a0 : dG) : Option (ResD U_spec_GeoOk × MutD I_spec_GeoOk) :=
  let r1 := n_spec_l1In a0.1 3 5
  bif r1 then
    let r2 := n_spec_l1In a0.2 1 8
    some ((r2, ()), ())
  else
    some ((false, ()), ())
theorem e_spec_GeoOk (x : InD I_spec_GeoOk) : execF ⟨E_spec_GeoOk, 11, D_spec_GeoOk_0⟩ Try.f65.results.toList B_spec_GeoOk I_spec_GeoOk U_spec_GeoOk x = raw_spec_GeoOk x.1 := by kernel_rfl
theorem ok0_spec_GeoOk : ConOk Try.prog 65 ⟨I_spec_GeoOk, U_spec_GeoOk, fun x => raw_spec_GeoOk x.1⟩ := conOk_exec (fr_spec_GeoOk_0) Try.func65 (by kernel_rfl) (by kernel_rfl) Try.ntmps65.symm (by decide) (fun x r h => (e_spec_GeoOk x).trans h)
noncomputable def n_spec_GeoOk (a0 : dG) : Bool :=
  let r1 := n_spec_l1In a0.1 3 5
  bif r1 then
    let r2 := n_spec_l1In a0.2 1 8
    r2
  else
    false
noncomputable def con_spec_GeoOk : Con := ⟨I_spec_GeoOk, U_spec_GeoOk, fun x => (fun n => some ((n, ()), ())) (n_spec_GeoOk x.1)⟩
theorem nn_spec_GeoOk (a0 : dG) : raw_spec_GeoOk a0 = (fun n => some ((n, ()), ())) (n_spec_GeoOk a0) := bif_ty (p := fun (n : Bool) => ((n, ()), ())) (bif_some (p := fun (n : Bool) => ((n, ()), ())) rfl rfl)
theorem ok_spec_GeoOk : ConOk Try.prog 65 con_spec_GeoOk := (ok0_spec_GeoOk).mono (fun x r _ h => (nn_spec_GeoOk x.1).trans h)
theorem geo_iff {a : Int × Int} : n_spec_GeoOk a = true ↔ (3 ≤ a.1 ∧ a.1 ≤ 5) ∧ 1 ≤ a.2 ∧ a.2 ≤ 8 := by
  unfold n_spec_GeoOk
  cases h : n_spec_l1In a.1 3 5
  · have : ¬ (3 ≤ a.1 ∧ a.1 ≤ 5) := fun e => by rw [in_iff.2 e] at h; simp at h
    simp [this]
  · simp only [cond_true, in_iff]
    exact ⟨fun e => ⟨in_iff.1 h, e⟩, fun e => e.2⟩
def memBad (a : dA) (i : Nat) : Bool := !(memOk (nth a.2.2.1 i noMem)) || ((((nth a.2.2.1 i noMem).1.length : Int) != 6 + a.2.1.2) || ((nth a.2.2.1 i noMem).2.2.1 && (((i : Int) != a.2.2.2.1) && !a.2.2.2.2.2.2.2.2.2.2.2)))
def memsOk (a : dA) : Bool := !((List.range a.2.2.1.length).any (memBad a)) && (a.2.2.1.length : Int) == a.2.1.1
def dirtBad (g : dG) (l : List dW) (i : Nat) : Bool := !(leb 0 (nth l i (0, [])).1 && leb (nth l i (0, [])).1 (g.2 - 1)) || (((nth l i (0, [])).2.length : Int) != g.1 - 1 || (!((nth l i (0, [])).2.all isW) || (decide (0 < i) && leb (nth l i (0, [])).1 (nth l ((i - 1 : Nat) : Int) (0, [])).1)))
def dirtyOk (g : dG) (l : List dW) : Bool := !((List.range l.length).any (dirtBad g l))
/-- an array that is right -/
noncomputable def arrOk (a : dA) : Bool :=
  n_spec_GeoOk a.2.1 && ((leb 1 a.1 && leb a.1 60000) && (memsOk a && (dirtyOk a.2.1 a.2.2.2.2.2.2.2.2.1 && ((leb (-1) a.2.2.2.1 && leb a.2.2.2.1 (a.2.1.1 - 1)) && ((leb 0 a.2.2.2.2.1 && leb a.2.2.2.2.1 a.2.1.2) && (!(a.2.2.2.1 == -1 && a.2.2.2.2.1 != 0) &&
  ((leb 0 a.2.2.2.2.2.2.1 && leb a.2.2.2.2.2.2.1 60000) && ((leb a.2.2.2.2.2.2.1 a.2.2.2.2.2.1 && leb a.2.2.2.2.2.1 60000) && (leb a.2.2.2.2.2.1 (a.2.2.2.2.2.2.1 + 4) && ((leb 0 a.2.2.2.2.2.2.2.1 && leb a.2.2.2.2.2.2.2.1 60000) && (leb (-1) a.2.2.2.2.2.2.2.2.2.1 && leb a.2.2.2.2.2.2.2.2.2.1 1000)))))))))))
theorem arrOk_geo {a : dA} (h : arrOk a = true) : n_spec_GeoOk a.2.1 = true := (Bool.and_eq_true_iff.1 h).1
theorem geo_f {a : Int × Int} (h : ¬ n_spec_GeoOk a = true) : n_spec_GeoOk a = false := by cases e : n_spec_GeoOk a <;> simp_all
theorem arrOk_mems {a : dA} (h : arrOk a = true) : memsOk a = true := by simp only [arrOk, Bool.and_eq_true] at h; exact h.2.2.1
theorem arrOk_len {a : dA} (h : arrOk a = true) : (a.2.2.1.length : Int) = a.2.1.1 := by have := arrOk_mems h; simp only [memsOk, Bool.and_eq_true, beq_iff_eq] at this; exact this.2
theorem memsOk_at {a : dA} (h : memsOk a = true) {i : Nat} (hi : i < a.2.2.1.length) : memOk (nth a.2.2.1 i noMem) = true ∧ ((nth a.2.2.1 i noMem).1.length : Int) = 6 + a.2.1.2 ∧ ((nth a.2.2.1 i noMem).2.2.1 = true → (i : Int) = a.2.2.2.1 ∨ a.2.2.2.2.2.2.2.2.2.2.2 = true) := by
  simp only [memsOk, Bool.and_eq_true, Bool.not_eq_true', List.any_eq_false, List.mem_range] at h
  have := h.1 i hi
  simp only [memBad, Bool.not_eq_true, Bool.or_eq_false_iff, Bool.not_eq_false', bne_eq_false_iff_eq, Bool.and_eq_false_iff] at this
  refine ⟨this.1, this.2.1, fun hf => ?_⟩
  rcases this.2.2 with h1 | h1 | h1
  · rw [hf] at h1; cases h1
  · exact .inl h1
  · exact .inr h1
noncomputable def strOk (g : dG) (s : Int) : Bool := n_spec_GeoOk g && (leb 0 s && leb s (g.2 - 1))
noncomputable def parityOf (g : dG) (s : Int) : Int := bif strOk g s then g.1 - 1 - s.tmod g.1 else -1
noncomputable def diskOf (g : dG) (s i : Int) : Int := bif strOk g s && (leb 0 i && leb i (g.1 - 2)) then (parityOf g s + 1 + i).tmod g.1 else -1
theorem strOk_iff {g : dG} {s : Int} : strOk g s = true ↔ n_spec_GeoOk g = true ∧ 0 ≤ s ∧ s ≤ g.2 - 1 := by simp [strOk, leb_iff]
theorem parity_in {g : dG} {s : Int} (h : strOk g s = true) : 0 ≤ parityOf g s ∧ parityOf g s ≤ g.1 - 1 := by
  have h1 := strOk_iff.1 h
  have h2 := geo_iff.1 h1.1
  unfold parityOf
  rw [h, cond_true, Int.tmod_eq_emod_of_nonneg h1.2.1]
  have := Int.emod_nonneg s (show g.1 ≠ 0 by omega)
  have := Int.emod_lt_of_pos s (show 0 < g.1 by omega)
  omega
theorem disk_in {g : dG} {s i : Int} (h : strOk g s = true) (h1 : 0 ≤ i) (h2 : i ≤ g.1 - 2) : 0 ≤ diskOf g s i ∧ diskOf g s i ≤ g.1 - 1 := by
  have h3 := geo_iff.1 (strOk_iff.1 h).1
  have h4 := parity_in h
  unfold diskOf
  rw [h, leb_t h1, leb_t h2, Bool.and_self, Bool.and_self, cond_true, Int.tmod_eq_emod_of_nonneg (by omega)]
  have := Int.emod_nonneg (parityOf g s + 1 + i) (show g.1 ≠ 0 by omega)
  have := Int.emod_lt_of_pos (parityOf g s + 1 + i) (show 0 < g.1 by omega)
  omega
/-- the last of n places that a thing is not at -/
def missAt (p : Nat → Bool) : Nat → Int
  | 0 => -1
  | n + 1 => bif p n then missAt p n else n
def miss2 (p : Nat → Bool) (n : Nat) : Bool := (List.range n).any (fun i => !p i && leb 0 (missAt p i))
theorem missAt_in (p : Nat → Bool) : ∀ n, missAt p n = -1 ∨ (0 ≤ missAt p n ∧ missAt p n < n ∧ p (missAt p n).toNat = false)
  | 0 => .inl rfl
  | n + 1 => by
    unfold missAt
    cases h : p n
    · exact .inr ⟨by show (0 : Int) ≤ n; omega, by show (n : Int) < _; omega, h⟩
    · rcases missAt_in p n with h1 | h1
      · exact .inl h1
      · exact .inr ⟨h1.1, by show missAt p n < _; omega, h1.2.2⟩
def wordList (a : dA) (s : Int) (n : Nat) : List Int := (List.range n).map (fun (i : Nat) => word a i s)
theorem wordList_len (a : dA) (s : Int) (n : Nat) : (wordList a s n).length = n := by unfold wordList; rw [List.length_map, List.length_range]
theorem wordList_succ (a : dA) (s : Int) (n : Nat) : wordList a s n ++ [word a n s] = wordList a s (n + 1) := by unfold wordList; rw [List.range_succ, List.map_append]; rfl
theorem wordList_at (a : dA) (s : Int) {i n : Nat} (h : i < n) : nth (wordList a s n) i 0 = word a i s := by
  unfold wordList
  rw [nth_nat, getD_get (by rw [List.length_map, List.length_range]; exact h)]; simp
/-- a stripe's words -/
def words (a : dA) (s : Int) : List Int × Bool :=
  bif miss2 (fun (i : Nat) => wordOk a i s) a.2.1.1.toNat then ([], false)
  else bif leb 0 (missAt (fun (i : Nat) => wordOk a i s) a.2.1.1.toNat) then ((wordList a s a.2.1.1.toNat).set (missAt (fun (i : Nat) => wordOk a i s) a.2.1.1.toNat).toNat (xorOf (wordList a s a.2.1.1.toNat)), true)
  else (wordList a s a.2.1.1.toNat, true)
theorem words_len {a : dA} {s : Int} (h : (words a s).2 = true) : (words a s).1.length = a.2.1.1.toNat := by
  unfold words at h ⊢
  cases h1 : miss2 (fun (i : Nat) => wordOk a i s) a.2.1.1.toNat
  · cases leb 0 (missAt (fun (i : Nat) => wordOk a i s) a.2.1.1.toNat)
    · exact wordList_len _ _ _
    · simp only [cond_false, cond_true, List.length_set]; exact wordList_len _ _ _
  · rw [h1] at h; cases h
theorem miss_word (a : dA) (s : Int) (n : Nat) (h : leb 0 (missAt (fun (i : Nat) => wordOk a i s) n) = true) : inb (missAt (fun (i : Nat) => wordOk a i s) n) (wordList a s n).length = true ∧ missWord (wordList a s n) (missAt (fun (i : Nat) => wordOk a i s) n) = xorOf (wordList a s n) := by
  rcases missAt_in (fun (i : Nat) => wordOk a i s) n with h1 | h1
  · rw [h1] at h; cases h
  · have h2 : inb (missAt (fun (i : Nat) => wordOk a i s) n) (wordList a s n).length = true := by rw [wordList_len, inb_iff]; exact ⟨h1.1, h1.2.1⟩
    refine ⟨h2, missWord0 h2 ?_⟩
    have h3 := wordList_at a s (show (missAt (fun (i : Nat) => wordOk a i s) n).toNat < n by omega)
    rw [show (((missAt (fun (i : Nat) => wordOk a i s) n).toNat : Nat) : Int) = missAt (fun (i : Nat) => wordOk a i s) n by omega] at h3
    rw [h3]
    unfold word
    have h4 : wordOk a (missAt (fun (i : Nat) => wordOk a i s) n) s = false := by
      have := h1.2.2
      have this : wordOk a ((missAt (fun (i : Nat) => wordOk a i s) n).toNat : Nat) s = false := h1.2.2
      rwa [show (((missAt (fun (i : Nat) => wordOk a i s) n).toNat : Nat) : Int) = missAt (fun (i : Nat) => wordOk a i s) n by omega] at this
    rw [h4]; rfl
noncomputable def dataA (a : dA) (s : Int) : List Int × Bool := bif (words a s).2 then ((List.range (a.2.1.1 - 1).toNat).map (fun (i : Nat) => nth (words a s).1 (diskOf a.2.1 s i) 0), true) else ([], false)
noncomputable def dataOf (a : dA) (s : Int) : List Int × Bool := bif arrOk a && (!a.2.2.2.2.2.2.2.2.2.2.2 && strOk a.2.1 s) then dataA a s else ([], false)
theorem dataA_len (a : dA) (s : Int) : (dataA a s).1.length ≤ (a.2.1.1 - 1).toNat := by
  unfold dataA
  cases (words a s).2
  · exact Nat.zero_le _
  · simp
noncomputable def durable (a : dA) : List Int := bif arrOk a && (List.range a.2.1.2.toNat).all (fun (s : Nat) => (dataOf a s).2) then (List.range a.2.1.2.toNat).flatMap (fun (s : Nat) => (dataOf a s).1) else []
end

/-! spec_l6Secs -/
section
noncomputable def B_spec_l6Secs : Code := (Try.f88.body).getD .skip
noncomputable def E_spec_l6Secs : Env := envOf TT [] []
theorem fr_spec_l6Secs_0 : FrOk Try.prog ⟨E_spec_l6Secs, 6, fun _ => none⟩ B_spec_l6Secs := frOk_base mixed tt_ok trivial
noncomputable def D_spec_l6Secs_0 : Nat → Option Seg := fun _ => none
abbrev I_spec_l6Secs : List Par := [.rd tG]
abbrev U_spec_l6Secs : List OT := [⟨false, tI, .fz⟩]
noncomputable def raw_spec_l6Secs (a0 : dG) : Option (ResD U_spec_l6Secs × MutD I_spec_l6Secs) :=
  some (((IntKind.i64.wrap (6 + a0.2)), ()), ())
theorem e_spec_l6Secs (x : InD I_spec_l6Secs) : execF ⟨E_spec_l6Secs, 6, D_spec_l6Secs_0⟩ Try.f88.results.toList B_spec_l6Secs I_spec_l6Secs U_spec_l6Secs x = raw_spec_l6Secs x.1 := by kernel_rfl
theorem ok0_spec_l6Secs : ConOk Try.prog 88 ⟨I_spec_l6Secs, U_spec_l6Secs, fun x => raw_spec_l6Secs x.1⟩ := conOk_exec (fr_spec_l6Secs_0) Try.func88 (by kernel_rfl) (by kernel_rfl) Try.ntmps88.symm (by decide) (fun x r h => (e_spec_l6Secs x).trans h)
noncomputable def n_spec_l6Secs (a0 : dG) : Int :=
  (IntKind.i64.wrap (6 + a0.2))
noncomputable def con_spec_l6Secs : Con := ⟨I_spec_l6Secs, U_spec_l6Secs, fun x => (fun n => some ((n, ()), ())) (n_spec_l6Secs x.1)⟩
theorem nn_spec_l6Secs (a0 : dG) : raw_spec_l6Secs a0 = (fun n => some ((n, ()), ())) (n_spec_l6Secs a0) := bif_ty (p := fun (n : Int) => ((n, ()), ())) rfl
theorem ok_spec_l6Secs : ConOk Try.prog 88 con_spec_l6Secs := (ok0_spec_l6Secs).mono (fun x r _ h => (nn_spec_l6Secs x.1).trans h)
end
end Go.Tf
