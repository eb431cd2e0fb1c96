/- Functions of the program, and what they come to. -/
import Derived.Test.YtfpfaanblbakkaaExactCleanF0
namespace Go.Tf
open Go.Proofs
set_option synthInstance.maxHeartbeats 400000
set_option synthInstance.maxSize 10000
set_option linter.unusedVariables false
set_option linter.unusedSimpArgs false
set_option maxRecDepth 100000
/-! laws_szWrS -/
section
noncomputable def B_laws_szWrS : Code := (Try.f118.body).getD .skip
noncomputable def E_laws_szWrS : Env := envOf TT [(141, con_laws_szWr)] []
theorem fr_laws_szWrS_0 : FrOk Try.prog ⟨E_laws_szWrS, 27, fun _ => none⟩ B_laws_szWrS := frOk_base mixed tt_ok ⟨ok_laws_szWr, trivial⟩
noncomputable def D_laws_szWrS_0 : Nat → Option Seg := fun _ => none
def L_laws_szWrS_61 : Shape := ⟨[(0, false, [.br tW]), (1, false, [.int .i64]), (5, false, [.int .i64])], [], []⟩
def S_laws_szWrS_61 : Shape := ⟨[(0, false, [.br tW]), (1, false, [.int .i64]), (5, false, [.ci .i64 0])], [], []⟩
def O_laws_szWrS_61 : Shape := ⟨[(1, false, [.int .i64])], [], []⟩
def Z_laws_szWrS_61 : Shape := ⟨[(4, false, [.int .i64])], [], []⟩
noncomputable def st_laws_szWrS_61 (v0 : List (Int × (List Int))) (v1 : Int) (v2 : Int) : Option ((L_laws_szWrS_61).X ⊕ ((O_laws_szWrS_61).X ⊕ (Z_laws_szWrS_61).X)) :=
  bif (ltb v2 (v0.length : Int)) then
    bif (inb v2 v0.length) then
      let r2 := n_laws_szWr (nth v0 v2 (0, [])) v1
      bif (ltb r2 0) then
        some (.inr (.inr ((((-1), ()), ()), (), ())))
      else
        some (.inl (((v0, ()), (r2, ()), ((IntKind.i64.wrap (v2 + 1)), ()), ()), (), ()))
    else none
  else
    some (.inr (.inl (((v1, ()), ()), (), ())))
noncomputable def stx_laws_szWrS_61 (x : (L_laws_szWrS_61).X) := st_laws_szWrS_61 x.1.1.1 x.1.2.1.1 x.1.2.2.1.1
def em_laws_szWrS_61 (x : (S_laws_szWrS_61).X) : (L_laws_szWrS_61).X := (((x.1.1.1, ()), (x.1.2.1.1, ()), (0, ()), ()), (), ())
noncomputable def c_laws_szWrS_61 : Code := (subN B_laws_szWrS 64 244).getD .skip
theorem a_laws_szWrS_61 : subN B_laws_szWrS 64 61 = some (.block 0 (.loop c_laws_szWrS_61)) := by kernel_rfl
theorem r_laws_szWrS_61 (x : (L_laws_szWrS_61).X) : roundT ⟨E_laws_szWrS, 27, D_laws_szWrS_0⟩ 0 c_laws_szWrS_61 244 L_laws_szWrS_61 O_laws_szWrS_61 Z_laws_szWrS_61 x = stx_laws_szWrS_61 x := by kernel_rfl
noncomputable def fu_laws_szWrS_61 (x : (S_laws_szWrS_61).X) : Nat := (fun (u0 : List (Int × (List Int))) (u1 : Int) => 18446744073709551616) x.1.1.1 x.1.2.1.1
noncomputable def F_laws_szWrS_61 (x : (S_laws_szWrS_61).X) : Option ((O_laws_szWrS_61).X ⊕ (Z_laws_szWrS_61).X) := loopN stx_laws_szWrS_61 (fu_laws_szWrS_61 x) (em_laws_szWrS_61 x)
noncomputable def sg_laws_szWrS_61 : Seg := ⟨S_laws_szWrS_61, O_laws_szWrS_61, Z_laws_szWrS_61, F_laws_szWrS_61⟩
noncomputable def D_laws_szWrS_1 : Nat → Option Seg := fun q => bif Nat.beq q 61 then some sg_laws_szWrS_61 else D_laws_szWrS_0 q
theorem fr_laws_szWrS_1 : FrOk Try.prog ⟨E_laws_szWrS, 27, D_laws_szWrS_1⟩ B_laws_szWrS := (fr_laws_szWrS_0).loop (sg := sg_laws_szWrS_61) L_laws_szWrS_61 em_laws_szWrS_61 (by decide) a_laws_szWrS_61 stx_laws_szWrS_61 fu_laws_szWrS_61 (by decide) (fun _ => rfl) (fun x r _ h => h) r_laws_szWrS_61
abbrev I_laws_szWrS : List Par := [.rd tWs, .rd tI]
abbrev U_laws_szWrS : List OT := [⟨false, tI, .fz⟩]
noncomputable def raw_laws_szWrS (a0 : List (Int × (List Int))) (a1 : Int) : Option (ResD U_laws_szWrS × MutD I_laws_szWrS) :=
  bif (ltb (IntKind.i64.wrap (a1 - (a0.length : Int))) 0) then
    some (((-1), ()), ())
  else
    segM (F_laws_szWrS_61 (((a0, ()), ((IntKind.i64.wrap (a1 - (a0.length : Int))), ()), ((), ()), ()), (), ())) (fun y2 =>
      some ((y2.1.1.1, ()), ())) (fun y2 =>
      some ((y2.1.1.1, ()), ()))
theorem e_laws_szWrS (x : InD I_laws_szWrS) : execF ⟨E_laws_szWrS, 27, D_laws_szWrS_1⟩ Try.f118.results.toList B_laws_szWrS I_laws_szWrS U_laws_szWrS x = raw_laws_szWrS x.1 x.2.1 := by kernel_rfl
theorem ok0_laws_szWrS : ConOk Try.prog 118 ⟨I_laws_szWrS, U_laws_szWrS, fun x => raw_laws_szWrS x.1 x.2.1⟩ := conOk_exec (fr_laws_szWrS_1) Try.func118 (by kernel_rfl) (by kernel_rfl) Try.ntmps118.symm (by decide) (fun x r h => (e_laws_szWrS x).trans h)
noncomputable def n_laws_szWrS (a0 : List (Int × (List Int))) (a1 : Int) : Int := bif ltb (IntKind.i64.wrap (a1 - (a0.length : Int))) 0 then (-1) else (szG n_laws_szWr a0 (IntKind.i64.wrap (a1 - (a0.length : Int)))).getD (-1)
theorem nn_laws_szWrS (a0 : List (Int × (List Int))) (a1 : Int) (hk : InOk I_laws_szWrS (a0, a1, ())) : raw_laws_szWrS a0 a1 = (fun n => some ((n, ()), ())) (n_laws_szWrS a0 a1) := by
  have hb : a0.length * 32 ≤ 2 ^ 47 := hk.1.1
  have hl : ∀ k : Int, F_laws_szWrS_61 (((a0, ()), (k, ()), ((), ()), ()), (), ()) = some (match szG n_laws_szWr a0 k with | some r => .inl (((r, ()), ()), (), ()) | none => .inr ((((-1), ()), ()), (), ())) := fun k =>
    loopN_sz (step := stx_laws_szWrS_61) a0 ((0, []) : Int × (List Int)) (fun i k => (((a0, ()), (k, ()), ((i : Int), ()), ()), (), ())) n_laws_szWr (fun r => .inl (((r, ()), ()), (), ())) (.inr ((((-1), ()), ()), (), ())) (fun i s hi => by
      simp only [stx_laws_szWrS_61, st_laws_szWrS_61, inb_nat hi, nth_nat, Int.toNat_natCast, ltb_t (show (i : Int) < a0.length by omega), cond_true, wr (show -9223372036854775808 ≤ (i : Int) + 1 by omega) (by omega), Int.natCast_add, Int.natCast_one, pr_eta]
      cases ltb (n_laws_szWr (a0.getD i (0, [])) s) 0 <;> rfl) (fun s => by simp only [stx_laws_szWrS_61, st_laws_szWrS_61, ltb_f (Int.le_refl _), cond_false]) k _ (by show _ < 18446744073709551616; omega)
  unfold raw_laws_szWrS n_laws_szWrS
  rw [hl]
  cases ltb (IntKind.i64.wrap (a1 - (a0.length : Int))) 0
  · cases szG n_laws_szWr a0 (IntKind.i64.wrap (a1 - (a0.length : Int))) <;> rfl
  · rfl
noncomputable def con_laws_szWrS : Con := ⟨I_laws_szWrS, U_laws_szWrS, fun x => (fun n => some ((n, ()), ())) (n_laws_szWrS x.1 x.2.1)⟩
theorem ok_laws_szWrS : ConOk Try.prog 118 con_laws_szWrS := (ok0_laws_szWrS).mono (fun x r hk h => (nn_laws_szWrS x.1 x.2.1 hk).trans h)
end

/-! laws_szMem -/
section
noncomputable def B_laws_szMem : Code := (Try.f86.body).getD .skip
noncomputable def E_laws_szMem : Env := envOf TT [(66, con_laws_szIntS), (117, con_laws_szIntSS), (118, con_laws_szWrS)] []
theorem fr_laws_szMem_0 : FrOk Try.prog ⟨E_laws_szMem, 24, fun _ => none⟩ B_laws_szMem := frOk_base mixed tt_ok ⟨ok_laws_szIntS, ok_laws_szIntSS, ok_laws_szWrS, trivial⟩
noncomputable def D_laws_szMem_0 : Nat → Option Seg := fun _ => none
abbrev I_laws_szMem : List Par := [.rd tM, .rd tI]
abbrev U_laws_szMem : List OT := [⟨false, tI, .fz⟩]
noncomputable def raw_laws_szMem (a0 : (List (List Int)) × (List (Int × (List Int))) × Bool × (List Int)) (a1 : Int) : Option (ResD U_laws_szMem × MutD I_laws_szMem) :=
  let r1 := n_laws_szIntSS a0.1 a1
  bif (ltb r1 0) then
    some (((-1), ()), ())
  else
    let r2 := n_laws_szWrS a0.2.1 r1
    bif (ltb r2 0) then
      some (((-1), ()), ())
    else
      let r3 := n_laws_szIntS a0.2.2.2 r2
      bif (ltb r3 0) then
        some (((-1), ()), ())
      else
        some ((r3, ()), ())
theorem e_laws_szMem (x : InD I_laws_szMem) : execF ⟨E_laws_szMem, 24, D_laws_szMem_0⟩ Try.f86.results.toList B_laws_szMem I_laws_szMem U_laws_szMem x = raw_laws_szMem x.1 x.2.1 := by kernel_rfl
theorem ok0_laws_szMem : ConOk Try.prog 86 ⟨I_laws_szMem, U_laws_szMem, fun x => raw_laws_szMem x.1 x.2.1⟩ := conOk_exec (fr_laws_szMem_0) Try.func86 (by kernel_rfl) (by kernel_rfl) Try.ntmps86.symm (by decide) (fun x r h => (e_laws_szMem x).trans h)
noncomputable def n_laws_szMem (a0 : (List (List Int)) × (List (Int × (List Int))) × Bool × (List Int)) (a1 : Int) : Int :=
  let r1 := n_laws_szIntSS a0.1 a1
  bif (ltb r1 0) then
    (-1)
  else
    let r2 := n_laws_szWrS a0.2.1 r1
    bif (ltb r2 0) then
      (-1)
    else
      let r3 := n_laws_szIntS a0.2.2.2 r2
      bif (ltb r3 0) then
        (-1)
      else
        r3
noncomputable def con_laws_szMem : Con := ⟨I_laws_szMem, U_laws_szMem, fun x => (fun n => some ((n, ()), ())) (n_laws_szMem x.1 x.2.1)⟩
theorem nn_laws_szMem (a0 : (List (List Int)) × (List (Int × (List Int))) × Bool × (List Int)) (a1 : Int) : raw_laws_szMem a0 a1 = (fun n => some ((n, ()), ())) (n_laws_szMem a0 a1) := bif_ty (p := fun (n : Int) => ((n, ()), ())) (bif_some (p := fun (n : Int) => ((n, ()), ())) rfl (bif_some (p := fun (n : Int) => ((n, ()), ())) rfl (bif_some (p := fun (n : Int) => ((n, ()), ())) rfl rfl)))
theorem ok_laws_szMem : ConOk Try.prog 86 con_laws_szMem := (ok0_laws_szMem).mono (fun x r _ h => (nn_laws_szMem x.1 x.2.1).trans h)
end

/-! laws_szMemS -/
section
noncomputable def B_laws_szMemS : Code := (Try.f53.body).getD .skip
noncomputable def E_laws_szMemS : Env := envOf TT [(86, con_laws_szMem)] []
theorem fr_laws_szMemS_0 : FrOk Try.prog ⟨E_laws_szMemS, 27, fun _ => none⟩ B_laws_szMemS := frOk_base mixed tt_ok ⟨ok_laws_szMem, trivial⟩
noncomputable def D_laws_szMemS_0 : Nat → Option Seg := fun _ => none
def L_laws_szMemS_61 : Shape := ⟨[(0, false, [.br tM]), (1, false, [.int .i64]), (5, false, [.int .i64])], [], []⟩
def S_laws_szMemS_61 : Shape := ⟨[(0, false, [.br tM]), (1, false, [.int .i64]), (5, false, [.ci .i64 0])], [], []⟩
def O_laws_szMemS_61 : Shape := ⟨[(1, false, [.int .i64])], [], []⟩
def Z_laws_szMemS_61 : Shape := ⟨[(4, false, [.int .i64])], [], []⟩
noncomputable def st_laws_szMemS_61 (v0 : List ((List (List Int)) × (List (Int × (List Int))) × Bool × (List Int))) (v1 : Int) (v2 : Int) : Option ((L_laws_szMemS_61).X ⊕ ((O_laws_szMemS_61).X ⊕ (Z_laws_szMemS_61).X)) :=
  bif (ltb v2 (v0.length : Int)) then
    bif (inb v2 v0.length) then
      let r2 := n_laws_szMem ((nth v0 v2 ([], [], false, [])).1, ((nth v0 v2 ([], [], false, [])).2).1, (((nth v0 v2 ([], [], false, [])).2).2)) v1
      bif (ltb r2 0) then
        some (.inr (.inr ((((-1), ()), ()), (), ())))
      else
        some (.inl (((v0, ()), (r2, ()), ((IntKind.i64.wrap (v2 + 1)), ()), ()), (), ()))
    else none
  else
    some (.inr (.inl (((v1, ()), ()), (), ())))
noncomputable def stx_laws_szMemS_61 (x : (L_laws_szMemS_61).X) := st_laws_szMemS_61 x.1.1.1 x.1.2.1.1 x.1.2.2.1.1
def em_laws_szMemS_61 (x : (S_laws_szMemS_61).X) : (L_laws_szMemS_61).X := (((x.1.1.1, ()), (x.1.2.1.1, ()), (0, ()), ()), (), ())
noncomputable def c_laws_szMemS_61 : Code := (subN B_laws_szMemS 64 244).getD .skip
theorem a_laws_szMemS_61 : subN B_laws_szMemS 64 61 = some (.block 0 (.loop c_laws_szMemS_61)) := by kernel_rfl
theorem r_laws_szMemS_61 (x : (L_laws_szMemS_61).X) : roundT ⟨E_laws_szMemS, 27, D_laws_szMemS_0⟩ 0 c_laws_szMemS_61 244 L_laws_szMemS_61 O_laws_szMemS_61 Z_laws_szMemS_61 x = stx_laws_szMemS_61 x := by kernel_rfl
noncomputable def fu_laws_szMemS_61 (x : (S_laws_szMemS_61).X) : Nat := (fun (u0 : List ((List (List Int)) × (List (Int × (List Int))) × Bool × (List Int))) (u1 : Int) => 18446744073709551616) x.1.1.1 x.1.2.1.1
noncomputable def F_laws_szMemS_61 (x : (S_laws_szMemS_61).X) : Option ((O_laws_szMemS_61).X ⊕ (Z_laws_szMemS_61).X) := loopN stx_laws_szMemS_61 (fu_laws_szMemS_61 x) (em_laws_szMemS_61 x)
noncomputable def sg_laws_szMemS_61 : Seg := ⟨S_laws_szMemS_61, O_laws_szMemS_61, Z_laws_szMemS_61, F_laws_szMemS_61⟩
noncomputable def D_laws_szMemS_1 : Nat → Option Seg := fun q => bif Nat.beq q 61 then some sg_laws_szMemS_61 else D_laws_szMemS_0 q
theorem fr_laws_szMemS_1 : FrOk Try.prog ⟨E_laws_szMemS, 27, D_laws_szMemS_1⟩ B_laws_szMemS := (fr_laws_szMemS_0).loop (sg := sg_laws_szMemS_61) L_laws_szMemS_61 em_laws_szMemS_61 (by decide) a_laws_szMemS_61 stx_laws_szMemS_61 fu_laws_szMemS_61 (by decide) (fun _ => rfl) (fun x r _ h => h) r_laws_szMemS_61
abbrev I_laws_szMemS : List Par := [.rd tMs, .rd tI]
abbrev U_laws_szMemS : List OT := [⟨false, tI, .fz⟩]
noncomputable def raw_laws_szMemS (a0 : List ((List (List Int)) × (List (Int × (List Int))) × Bool × (List Int))) (a1 : Int) : Option (ResD U_laws_szMemS × MutD I_laws_szMemS) :=
  bif (ltb (IntKind.i64.wrap (a1 - (a0.length : Int))) 0) then
    some (((-1), ()), ())
  else
    segM (F_laws_szMemS_61 (((a0, ()), ((IntKind.i64.wrap (a1 - (a0.length : Int))), ()), ((), ()), ()), (), ())) (fun y2 =>
      some ((y2.1.1.1, ()), ())) (fun y2 =>
      some ((y2.1.1.1, ()), ()))
theorem e_laws_szMemS (x : InD I_laws_szMemS) : execF ⟨E_laws_szMemS, 27, D_laws_szMemS_1⟩ Try.f53.results.toList B_laws_szMemS I_laws_szMemS U_laws_szMemS x = raw_laws_szMemS x.1 x.2.1 := by kernel_rfl
theorem ok0_laws_szMemS : ConOk Try.prog 53 ⟨I_laws_szMemS, U_laws_szMemS, fun x => raw_laws_szMemS x.1 x.2.1⟩ := conOk_exec (fr_laws_szMemS_1) Try.func53 (by kernel_rfl) (by kernel_rfl) Try.ntmps53.symm (by decide) (fun x r h => (e_laws_szMemS x).trans h)
noncomputable def n_laws_szMemS (a0 : List ((List (List Int)) × (List (Int × (List Int))) × Bool × (List Int))) (a1 : Int) : Int := bif ltb (IntKind.i64.wrap (a1 - (a0.length : Int))) 0 then (-1) else (szG n_laws_szMem a0 (IntKind.i64.wrap (a1 - (a0.length : Int)))).getD (-1)
theorem nn_laws_szMemS (a0 : List ((List (List Int)) × (List (Int × (List Int))) × Bool × (List Int))) (a1 : Int) (hk : InOk I_laws_szMemS (a0, a1, ())) : raw_laws_szMemS a0 a1 = (fun n => some ((n, ()), ())) (n_laws_szMemS a0 a1) := by
  have hb : a0.length * 80 ≤ 2 ^ 47 := hk.1.1
  have hl : ∀ k : Int, F_laws_szMemS_61 (((a0, ()), (k, ()), ((), ()), ()), (), ()) = some (match szG n_laws_szMem a0 k with | some r => .inl (((r, ()), ()), (), ()) | none => .inr ((((-1), ()), ()), (), ())) := fun k =>
    loopN_sz (step := stx_laws_szMemS_61) a0 (([], [], false, []) : (List (List Int)) × (List (Int × (List Int))) × Bool × (List Int)) (fun i k => (((a0, ()), (k, ()), ((i : Int), ()), ()), (), ())) n_laws_szMem (fun r => .inl (((r, ()), ()), (), ())) (.inr ((((-1), ()), ()), (), ())) (fun i s hi => by
      simp only [stx_laws_szMemS_61, st_laws_szMemS_61, inb_nat hi, nth_nat, Int.toNat_natCast, ltb_t (show (i : Int) < a0.length by omega), cond_true, wr (show -9223372036854775808 ≤ (i : Int) + 1 by omega) (by omega), Int.natCast_add, Int.natCast_one, pr_eta]
      cases ltb (n_laws_szMem (a0.getD i ([], [], false, [])) s) 0 <;> rfl) (fun s => by simp only [stx_laws_szMemS_61, st_laws_szMemS_61, ltb_f (Int.le_refl _), cond_false]) k _ (by show _ < 18446744073709551616; omega)
  unfold raw_laws_szMemS n_laws_szMemS
  rw [hl]
  cases ltb (IntKind.i64.wrap (a1 - (a0.length : Int))) 0
  · cases szG n_laws_szMem a0 (IntKind.i64.wrap (a1 - (a0.length : Int))) <;> rfl
  · rfl
noncomputable def con_laws_szMemS : Con := ⟨I_laws_szMemS, U_laws_szMemS, fun x => (fun n => some ((n, ()), ())) (n_laws_szMemS x.1 x.2.1)⟩
theorem ok_laws_szMemS : ConOk Try.prog 53 con_laws_szMemS := (ok0_laws_szMemS).mono (fun x r hk h => (nn_laws_szMemS x.1 x.2.1 hk).trans h)
end

/-! laws_szEnt -/
section
noncomputable def B_laws_szEnt : Code := (Try.f109.body).getD .skip
noncomputable def E_laws_szEnt : Env := envOf TT [(66, con_laws_szIntS)] []
theorem fr_laws_szEnt_0 : FrOk Try.prog ⟨E_laws_szEnt, 12, fun _ => none⟩ B_laws_szEnt := frOk_base mixed tt_ok ⟨ok_laws_szIntS, trivial⟩
noncomputable def D_laws_szEnt_0 : Nat → Option Seg := fun _ => none
abbrev I_laws_szEnt : List Par := [.rd tW, .rd tI]
abbrev U_laws_szEnt : List OT := [⟨false, tI, .fz⟩]
noncomputable def raw_laws_szEnt (a0 : Int × (List Int)) (a1 : Int) : Option (ResD U_laws_szEnt × MutD I_laws_szEnt) :=
  let r1 := n_laws_szIntS a0.2 a1
  bif (ltb r1 0) then
    some (((-1), ()), ())
  else
    some ((r1, ()), ())
theorem e_laws_szEnt (x : InD I_laws_szEnt) : execF ⟨E_laws_szEnt, 12, D_laws_szEnt_0⟩ Try.f109.results.toList B_laws_szEnt I_laws_szEnt U_laws_szEnt x = raw_laws_szEnt x.1 x.2.1 := by kernel_rfl
theorem ok0_laws_szEnt : ConOk Try.prog 109 ⟨I_laws_szEnt, U_laws_szEnt, fun x => raw_laws_szEnt x.1 x.2.1⟩ := conOk_exec (fr_laws_szEnt_0) Try.func109 (by kernel_rfl) (by kernel_rfl) Try.ntmps109.symm (by decide) (fun x r h => (e_laws_szEnt x).trans h)
noncomputable def n_laws_szEnt (a0 : Int × (List Int)) (a1 : Int) : Int :=
  let r1 := n_laws_szIntS a0.2 a1
  bif (ltb r1 0) then
    (-1)
  else
    r1
noncomputable def con_laws_szEnt : Con := ⟨I_laws_szEnt, U_laws_szEnt, fun x => (fun n => some ((n, ()), ())) (n_laws_szEnt x.1 x.2.1)⟩
theorem nn_laws_szEnt (a0 : Int × (List Int)) (a1 : Int) : raw_laws_szEnt a0 a1 = (fun n => some ((n, ()), ())) (n_laws_szEnt a0 a1) := bif_ty (p := fun (n : Int) => ((n, ()), ())) (bif_some (p := fun (n : Int) => ((n, ()), ())) rfl rfl)
theorem ok_laws_szEnt : ConOk Try.prog 109 con_laws_szEnt := (ok0_laws_szEnt).mono (fun x r _ h => (nn_laws_szEnt x.1 x.2.1).trans h)
end

/-! laws_szEntS -/
section
noncomputable def B_laws_szEntS : Code := (Try.f75.body).getD .skip
noncomputable def E_laws_szEntS : Env := envOf TT [(109, con_laws_szEnt)] []
theorem fr_laws_szEntS_0 : FrOk Try.prog ⟨E_laws_szEntS, 27, fun _ => none⟩ B_laws_szEntS := frOk_base mixed tt_ok ⟨ok_laws_szEnt, trivial⟩
noncomputable def D_laws_szEntS_0 : Nat → Option Seg := fun _ => none
def L_laws_szEntS_61 : Shape := ⟨[(0, false, [.br tW]), (1, false, [.int .i64]), (5, false, [.int .i64])], [], []⟩
def S_laws_szEntS_61 : Shape := ⟨[(0, false, [.br tW]), (1, false, [.int .i64]), (5, false, [.ci .i64 0])], [], []⟩
def O_laws_szEntS_61 : Shape := ⟨[(1, false, [.int .i64])], [], []⟩
def Z_laws_szEntS_61 : Shape := ⟨[(4, false, [.int .i64])], [], []⟩
noncomputable def st_laws_szEntS_61 (v0 : List (Int × (List Int))) (v1 : Int) (v2 : Int) : Option ((L_laws_szEntS_61).X ⊕ ((O_laws_szEntS_61).X ⊕ (Z_laws_szEntS_61).X)) :=
  bif (ltb v2 (v0.length : Int)) then
    bif (inb v2 v0.length) then
      let r2 := n_laws_szEnt (nth v0 v2 (0, [])) v1
      bif (ltb r2 0) then
        some (.inr (.inr ((((-1), ()), ()), (), ())))
      else
        some (.inl (((v0, ()), (r2, ()), ((IntKind.i64.wrap (v2 + 1)), ()), ()), (), ()))
    else none
  else
    some (.inr (.inl (((v1, ()), ()), (), ())))
noncomputable def stx_laws_szEntS_61 (x : (L_laws_szEntS_61).X) := st_laws_szEntS_61 x.1.1.1 x.1.2.1.1 x.1.2.2.1.1
def em_laws_szEntS_61 (x : (S_laws_szEntS_61).X) : (L_laws_szEntS_61).X := (((x.1.1.1, ()), (x.1.2.1.1, ()), (0, ()), ()), (), ())
noncomputable def c_laws_szEntS_61 : Code := (subN B_laws_szEntS 64 244).getD .skip
theorem a_laws_szEntS_61 : subN B_laws_szEntS 64 61 = some (.block 0 (.loop c_laws_szEntS_61)) := by kernel_rfl
theorem r_laws_szEntS_61 (x : (L_laws_szEntS_61).X) : roundT ⟨E_laws_szEntS, 27, D_laws_szEntS_0⟩ 0 c_laws_szEntS_61 244 L_laws_szEntS_61 O_laws_szEntS_61 Z_laws_szEntS_61 x = stx_laws_szEntS_61 x := by kernel_rfl
noncomputable def fu_laws_szEntS_61 (x : (S_laws_szEntS_61).X) : Nat := (fun (u0 : List (Int × (List Int))) (u1 : Int) => 18446744073709551616) x.1.1.1 x.1.2.1.1
noncomputable def F_laws_szEntS_61 (x : (S_laws_szEntS_61).X) : Option ((O_laws_szEntS_61).X ⊕ (Z_laws_szEntS_61).X) := loopN stx_laws_szEntS_61 (fu_laws_szEntS_61 x) (em_laws_szEntS_61 x)
noncomputable def sg_laws_szEntS_61 : Seg := ⟨S_laws_szEntS_61, O_laws_szEntS_61, Z_laws_szEntS_61, F_laws_szEntS_61⟩
noncomputable def D_laws_szEntS_1 : Nat → Option Seg := fun q => bif Nat.beq q 61 then some sg_laws_szEntS_61 else D_laws_szEntS_0 q
theorem fr_laws_szEntS_1 : FrOk Try.prog ⟨E_laws_szEntS, 27, D_laws_szEntS_1⟩ B_laws_szEntS := (fr_laws_szEntS_0).loop (sg := sg_laws_szEntS_61) L_laws_szEntS_61 em_laws_szEntS_61 (by decide) a_laws_szEntS_61 stx_laws_szEntS_61 fu_laws_szEntS_61 (by decide) (fun _ => rfl) (fun x r _ h => h) r_laws_szEntS_61
abbrev I_laws_szEntS : List Par := [.rd tWs, .rd tI]
abbrev U_laws_szEntS : List OT := [⟨false, tI, .fz⟩]
noncomputable def raw_laws_szEntS (a0 : List (Int × (List Int))) (a1 : Int) : Option (ResD U_laws_szEntS × MutD I_laws_szEntS) :=
  bif (ltb (IntKind.i64.wrap (a1 - (a0.length : Int))) 0) then
    some (((-1), ()), ())
  else
    segM (F_laws_szEntS_61 (((a0, ()), ((IntKind.i64.wrap (a1 - (a0.length : Int))), ()), ((), ()), ()), (), ())) (fun y2 =>
      some ((y2.1.1.1, ()), ())) (fun y2 =>
      some ((y2.1.1.1, ()), ()))
theorem e_laws_szEntS (x : InD I_laws_szEntS) : execF ⟨E_laws_szEntS, 27, D_laws_szEntS_1⟩ Try.f75.results.toList B_laws_szEntS I_laws_szEntS U_laws_szEntS x = raw_laws_szEntS x.1 x.2.1 := by kernel_rfl
theorem ok0_laws_szEntS : ConOk Try.prog 75 ⟨I_laws_szEntS, U_laws_szEntS, fun x => raw_laws_szEntS x.1 x.2.1⟩ := conOk_exec (fr_laws_szEntS_1) Try.func75 (by kernel_rfl) (by kernel_rfl) Try.ntmps75.symm (by decide) (fun x r h => (e_laws_szEntS x).trans h)
noncomputable def n_laws_szEntS (a0 : List (Int × (List Int))) (a1 : Int) : Int := bif ltb (IntKind.i64.wrap (a1 - (a0.length : Int))) 0 then (-1) else (szG n_laws_szEnt a0 (IntKind.i64.wrap (a1 - (a0.length : Int)))).getD (-1)
theorem nn_laws_szEntS (a0 : List (Int × (List Int))) (a1 : Int) (hk : InOk I_laws_szEntS (a0, a1, ())) : raw_laws_szEntS a0 a1 = (fun n => some ((n, ()), ())) (n_laws_szEntS a0 a1) := by
  have hb : a0.length * 32 ≤ 2 ^ 47 := hk.1.1
  have hl : ∀ k : Int, F_laws_szEntS_61 (((a0, ()), (k, ()), ((), ()), ()), (), ()) = some (match szG n_laws_szEnt a0 k with | some r => .inl (((r, ()), ()), (), ()) | none => .inr ((((-1), ()), ()), (), ())) := fun k =>
    loopN_sz (step := stx_laws_szEntS_61) a0 ((0, []) : Int × (List Int)) (fun i k => (((a0, ()), (k, ()), ((i : Int), ()), ()), (), ())) n_laws_szEnt (fun r => .inl (((r, ()), ()), (), ())) (.inr ((((-1), ()), ()), (), ())) (fun i s hi => by
      simp only [stx_laws_szEntS_61, st_laws_szEntS_61, inb_nat hi, nth_nat, Int.toNat_natCast, ltb_t (show (i : Int) < a0.length by omega), cond_true, wr (show -9223372036854775808 ≤ (i : Int) + 1 by omega) (by omega), Int.natCast_add, Int.natCast_one, pr_eta]
      cases ltb (n_laws_szEnt (a0.getD i (0, [])) s) 0 <;> rfl) (fun s => by simp only [stx_laws_szEntS_61, st_laws_szEntS_61, ltb_f (Int.le_refl _), cond_false]) k _ (by show _ < 18446744073709551616; omega)
  unfold raw_laws_szEntS n_laws_szEntS
  rw [hl]
  cases ltb (IntKind.i64.wrap (a1 - (a0.length : Int))) 0
  · cases szG n_laws_szEnt a0 (IntKind.i64.wrap (a1 - (a0.length : Int))) <;> rfl
  · rfl
noncomputable def con_laws_szEntS : Con := ⟨I_laws_szEntS, U_laws_szEntS, fun x => (fun n => some ((n, ()), ())) (n_laws_szEntS x.1 x.2.1)⟩
theorem ok_laws_szEntS : ConOk Try.prog 75 con_laws_szEntS := (ok0_laws_szEntS).mono (fun x r hk h => (nn_laws_szEntS x.1 x.2.1 hk).trans h)
end

/-! laws_szArr -/
section
noncomputable def B_laws_szArr : Code := (Try.f31.body).getD .skip
noncomputable def E_laws_szArr : Env := envOf TT [(53, con_laws_szMemS), (75, con_laws_szEntS)] []
theorem fr_laws_szArr_0 : FrOk Try.prog ⟨E_laws_szArr, 18, fun _ => none⟩ B_laws_szArr := frOk_base mixed tt_ok ⟨ok_laws_szMemS, ok_laws_szEntS, trivial⟩
noncomputable def D_laws_szArr_0 : Nat → Option Seg := fun _ => none
abbrev I_laws_szArr : List Par := [.rd tA, .rd tI]
abbrev U_laws_szArr : List OT := [⟨false, tI, .fz⟩]
noncomputable def raw_laws_szArr (a0 : Int × (Int × Int) × (List ((List (List Int)) × (List (Int × (List Int))) × Bool × (List Int))) × Int × Int × Int × Int × Int × (List (Int × (List Int))) × Int × Bool × Bool) (a1 : Int) : Option (ResD U_laws_szArr × MutD I_laws_szArr) :=
  let r1 := n_laws_szMemS a0.2.2.1 a1
  bif (ltb r1 0) then
    some (((-1), ()), ())
  else
    let r2 := n_laws_szEntS a0.2.2.2.2.2.2.2.2.1 r1
    bif (ltb r2 0) then
      some (((-1), ()), ())
    else
      some ((r2, ()), ())
theorem e_laws_szArr (x : InD I_laws_szArr) : execF ⟨E_laws_szArr, 18, D_laws_szArr_0⟩ Try.f31.results.toList B_laws_szArr I_laws_szArr U_laws_szArr x = raw_laws_szArr x.1 x.2.1 := by kernel_rfl
theorem ok0_laws_szArr : ConOk Try.prog 31 ⟨I_laws_szArr, U_laws_szArr, fun x => raw_laws_szArr x.1 x.2.1⟩ := conOk_exec (fr_laws_szArr_0) Try.func31 (by kernel_rfl) (by kernel_rfl) Try.ntmps31.symm (by decide) (fun x r h => (e_laws_szArr x).trans h)
noncomputable def n_laws_szArr (a0 : Int × (Int × Int) × (List ((List (List Int)) × (List (Int × (List Int))) × Bool × (List Int))) × Int × Int × Int × Int × Int × (List (Int × (List Int))) × Int × Bool × Bool) (a1 : Int) : Int :=
  let r1 := n_laws_szMemS a0.2.2.1 a1
  bif (ltb r1 0) then
    (-1)
  else
    let r2 := n_laws_szEntS a0.2.2.2.2.2.2.2.2.1 r1
    bif (ltb r2 0) then
      (-1)
    else
      r2
noncomputable def con_laws_szArr : Con := ⟨I_laws_szArr, U_laws_szArr, fun x => (fun n => some ((n, ()), ())) (n_laws_szArr x.1 x.2.1)⟩
theorem nn_laws_szArr (a0 : Int × (Int × Int) × (List ((List (List Int)) × (List (Int × (List Int))) × Bool × (List Int))) × Int × Int × Int × Int × Int × (List (Int × (List Int))) × Int × Bool × Bool) (a1 : Int) : raw_laws_szArr a0 a1 = (fun n => some ((n, ()), ())) (n_laws_szArr a0 a1) := bif_ty (p := fun (n : Int) => ((n, ()), ())) (bif_some (p := fun (n : Int) => ((n, ()), ())) rfl (bif_some (p := fun (n : Int) => ((n, ()), ())) rfl rfl))
theorem ok_laws_szArr : ConOk Try.prog 31 con_laws_szArr := (ok0_laws_szArr).mono (fun x r _ h => (nn_laws_szArr x.1 x.2.1).trans h)
end
end Go.Tf
