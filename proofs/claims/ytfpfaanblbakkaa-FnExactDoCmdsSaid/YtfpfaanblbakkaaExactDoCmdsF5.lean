/- Functions of the program, and what they come to. -/
import Derived.Test.YtfpfaanblbakkaaExactDoCmdsF4
namespace Go.Tf
open Go.Proofs
set_option synthInstance.maxHeartbeats 400000
set_option synthInstance.maxSize 10000
set_option linter.unusedVariables false
set_option linter.unusedSimpArgs false
set_option maxRecDepth 100000
/-! laws_szCmdS -/
section
noncomputable def B_laws_szCmdS : Code := (Try.f45.body).getD .skip
noncomputable def E_laws_szCmdS : Env := envOf TT [(13, con_laws_szCmd)] []
theorem fr_laws_szCmdS_0 : FrOk Try.prog ⟨E_laws_szCmdS, 27, fun _ => none⟩ B_laws_szCmdS := frOk_base mixed tt_ok ⟨ok_laws_szCmd, trivial⟩
noncomputable def D_laws_szCmdS_0 : Nat → Option Seg := fun _ => none
def L_laws_szCmdS_61 : Shape := ⟨[(0, false, [.br tC]), (1, false, [.int .i64]), (5, false, [.int .i64])], [], []⟩
def S_laws_szCmdS_61 : Shape := ⟨[(0, false, [.br tC]), (1, false, [.int .i64]), (5, false, [.ci .i64 0])], [], []⟩
def O_laws_szCmdS_61 : Shape := ⟨[(1, false, [.int .i64])], [], []⟩
def Z_laws_szCmdS_61 : Shape := ⟨[(4, false, [.int .i64])], [], []⟩
noncomputable def st_laws_szCmdS_61 (v0 : List (Int × Int × Int × Int × (List Int))) (v1 : Int) (v2 : Int) : Option ((L_laws_szCmdS_61).X ⊕ ((O_laws_szCmdS_61).X ⊕ (Z_laws_szCmdS_61).X)) :=
  bif (ltb v2 (v0.length : Int)) then
    bif (inb v2 v0.length) then
      let r2 := n_laws_szCmd ((nth v0 v2 (0, 0, 0, 0, [])).1, ((nth v0 v2 (0, 0, 0, 0, [])).2).1, (((nth v0 v2 (0, 0, 0, 0, [])).2).2).1, ((((nth v0 v2 (0, 0, 0, 0, [])).2).2).2)) v1
      bif (ltb r2 0) then
        some (.inr (.inr ((((-1), ()), ()), (), ())))
      else
        some (.inl (((v0, ()), (r2, ()), ((IntKind.i64.wrap (v2 + 1)), ()), ()), (), ()))
    else none
  else
    some (.inr (.inl (((v1, ()), ()), (), ())))
noncomputable def stx_laws_szCmdS_61 (x : (L_laws_szCmdS_61).X) := st_laws_szCmdS_61 x.1.1.1 x.1.2.1.1 x.1.2.2.1.1
def em_laws_szCmdS_61 (x : (S_laws_szCmdS_61).X) : (L_laws_szCmdS_61).X := (((x.1.1.1, ()), (x.1.2.1.1, ()), (0, ()), ()), (), ())
noncomputable def c_laws_szCmdS_61 : Code := (subN B_laws_szCmdS 64 244).getD .skip
theorem a_laws_szCmdS_61 : subN B_laws_szCmdS 64 61 = some (.block 0 (.loop c_laws_szCmdS_61)) := by kernel_rfl
theorem r_laws_szCmdS_61 (x : (L_laws_szCmdS_61).X) : roundT ⟨E_laws_szCmdS, 27, D_laws_szCmdS_0⟩ 0 c_laws_szCmdS_61 244 L_laws_szCmdS_61 O_laws_szCmdS_61 Z_laws_szCmdS_61 x = stx_laws_szCmdS_61 x := by kernel_rfl
noncomputable def fu_laws_szCmdS_61 (x : (S_laws_szCmdS_61).X) : Nat := (fun (u0 : List (Int × Int × Int × Int × (List Int))) (u1 : Int) => 18446744073709551616) x.1.1.1 x.1.2.1.1
noncomputable def F_laws_szCmdS_61 (x : (S_laws_szCmdS_61).X) : Option ((O_laws_szCmdS_61).X ⊕ (Z_laws_szCmdS_61).X) := loopN stx_laws_szCmdS_61 (fu_laws_szCmdS_61 x) (em_laws_szCmdS_61 x)
noncomputable def sg_laws_szCmdS_61 : Seg := ⟨S_laws_szCmdS_61, O_laws_szCmdS_61, Z_laws_szCmdS_61, F_laws_szCmdS_61⟩
noncomputable def D_laws_szCmdS_1 : Nat → Option Seg := fun q => bif Nat.beq q 61 then some sg_laws_szCmdS_61 else D_laws_szCmdS_0 q
theorem fr_laws_szCmdS_1 : FrOk Try.prog ⟨E_laws_szCmdS, 27, D_laws_szCmdS_1⟩ B_laws_szCmdS := (fr_laws_szCmdS_0).loop (sg := sg_laws_szCmdS_61) L_laws_szCmdS_61 em_laws_szCmdS_61 (by decide) a_laws_szCmdS_61 stx_laws_szCmdS_61 fu_laws_szCmdS_61 (by decide) (fun _ => rfl) (fun x r _ h => h) r_laws_szCmdS_61
abbrev I_laws_szCmdS : List Par := [.rd tCs, .rd tI]
abbrev U_laws_szCmdS : List OT := [⟨false, tI, .fz⟩]
noncomputable def raw_laws_szCmdS (a0 : List (Int × Int × Int × Int × (List Int))) (a1 : Int) : Option (ResD U_laws_szCmdS × MutD I_laws_szCmdS) :=
  bif (ltb (IntKind.i64.wrap (a1 - (a0.length : Int))) 0) then
    some (((-1), ()), ())
  else
    segM (F_laws_szCmdS_61 (((a0, ()), ((IntKind.i64.wrap (a1 - (a0.length : Int))), ()), ((), ()), ()), (), ())) (fun y2 =>
      some ((y2.1.1.1, ()), ())) (fun y2 =>
      some ((y2.1.1.1, ()), ()))
theorem e_laws_szCmdS (x : InD I_laws_szCmdS) : execF ⟨E_laws_szCmdS, 27, D_laws_szCmdS_1⟩ Try.f45.results.toList B_laws_szCmdS I_laws_szCmdS U_laws_szCmdS x = raw_laws_szCmdS x.1 x.2.1 := by kernel_rfl
theorem ok0_laws_szCmdS : ConOk Try.prog 45 ⟨I_laws_szCmdS, U_laws_szCmdS, fun x => raw_laws_szCmdS x.1 x.2.1⟩ := conOk_exec (fr_laws_szCmdS_1) Try.func45 (by kernel_rfl) (by kernel_rfl) Try.ntmps45.symm (by decide) (fun x r h => (e_laws_szCmdS x).trans h)
noncomputable def n_laws_szCmdS (a0 : List (Int × Int × Int × Int × (List Int))) (a1 : Int) : Int := bif ltb (IntKind.i64.wrap (a1 - (a0.length : Int))) 0 then (-1) else (szG n_laws_szCmd a0 (IntKind.i64.wrap (a1 - (a0.length : Int)))).getD (-1)
theorem nn_laws_szCmdS (a0 : List (Int × Int × Int × Int × (List Int))) (a1 : Int) (hk : InOk I_laws_szCmdS (a0, a1, ())) : raw_laws_szCmdS a0 a1 = (fun n => some ((n, ()), ())) (n_laws_szCmdS a0 a1) := by
  have hb : a0.length * 56 ≤ 2 ^ 47 := hk.1.1
  have hl : ∀ k : Int, F_laws_szCmdS_61 (((a0, ()), (k, ()), ((), ()), ()), (), ()) = some (match szG n_laws_szCmd a0 k with | some r => .inl (((r, ()), ()), (), ()) | none => .inr ((((-1), ()), ()), (), ())) := fun k =>
    loopN_sz (step := stx_laws_szCmdS_61) a0 ((0, 0, 0, 0, []) : Int × Int × Int × Int × (List Int)) (fun i k => (((a0, ()), (k, ()), ((i : Int), ()), ()), (), ())) n_laws_szCmd (fun r => .inl (((r, ()), ()), (), ())) (.inr ((((-1), ()), ()), (), ())) (fun i s hi => by
      simp only [stx_laws_szCmdS_61, st_laws_szCmdS_61, inb_nat hi, nth_nat, Int.toNat_natCast, ltb_t (show (i : Int) < a0.length by omega), cond_true, wr (show -9223372036854775808 ≤ (i : Int) + 1 by omega) (by omega), Int.natCast_add, Int.natCast_one, pr_eta]
      cases ltb (n_laws_szCmd (a0.getD i (0, 0, 0, 0, [])) s) 0 <;> rfl) (fun s => by simp only [stx_laws_szCmdS_61, st_laws_szCmdS_61, ltb_f (Int.le_refl _), cond_false]) k _ (by show _ < 18446744073709551616; omega)
  unfold raw_laws_szCmdS n_laws_szCmdS
  rw [hl]
  cases ltb (IntKind.i64.wrap (a1 - (a0.length : Int))) 0
  · cases szG n_laws_szCmd a0 (IntKind.i64.wrap (a1 - (a0.length : Int))) <;> rfl
  · rfl
noncomputable def con_laws_szCmdS : Con := ⟨I_laws_szCmdS, U_laws_szCmdS, fun x => (fun n => some ((n, ()), ())) (n_laws_szCmdS x.1 x.2.1)⟩
theorem ok_laws_szCmdS : ConOk Try.prog 45 con_laws_szCmdS := (ok0_laws_szCmdS).mono (fun x r hk h => (nn_laws_szCmdS x.1 x.2.1 hk).trans h)
theorem szCmdS_le {l : List dC} {k : Int} (hk : 0 ≤ k) (hk2 : k ≤ 1048576) (hl : l.length ≤ 17592186044416) (hx : ∀ x ∈ l, x.2.2.2.2.length ≤ 17592186044416) (h : ltb (n_laws_szCmdS l k) 0 = false) : (l.length : Int) + ((l.map (fun x : dC => x.2.2.2.2.length)).sum : Nat) ≤ k := by
  unfold n_laws_szCmdS at h
  rw [wr (show -9223372036854775808 ≤ k - (l.length : Int) by omega) (by omega)] at h
  cases h1 : ltb (k - (l.length : Int)) 0
  · rw [h1] at h
    have h2 : 0 ≤ k - (l.length : Int) := by
      rcases Int.lt_or_le (k - (l.length : Int)) 0 with h3 | h3
      · rw [ltb_t h3] at h1; cases h1
      · exact h3
    cases hg : szG n_laws_szCmd l (k - (l.length : Int)) with
    | none => rw [hg] at h; simp only [cond_false, Option.getD_none, ltb_t (show (-1 : Int) < 0 by omega)] at h; cases h
    | some r =>
      have := szG_le (m := fun x : dC => x.2.2.2.2.length) (fun x hx2 k' h0 h1 hu => by
        unfold n_laws_szCmd at hu ⊢
        cases hs : ltb (n_laws_szIntS x.2.2.2.2 k') 0
        · simp only [hs, cond_false] at hu ⊢
          have := szIntS_nn h0 h1 (hx x hx2) (by omega)
          omega
        · simp only [hs, cond_true] at hu
          omega) h2 (by omega) hg
      omega
  · rw [h1] at h
    simp only [cond_true, ltb_t (show (-1 : Int) < 0 by omega)] at h; cases h
end

/-! spec_l14Do -/
section
noncomputable def B_spec_l14Do : Code := (Try.f73.body).getD .skip
noncomputable def E_spec_l14Do : Env := envOf TT [] []
theorem fr_spec_l14Do_0 : FrOk Try.prog ⟨E_spec_l14Do, 85, fun _ => none⟩ B_spec_l14Do := frOk_base mixed tt_ok trivial
noncomputable def D_spec_l14Do_0 : Nat → Option Seg := fun _ => none
def L_spec_l14Do_1885 : Shape := ⟨[(0, false, [.at 1000001000]), (3, false, [.ptr 0 0]), (4, false, [.ptr 64 0]), (5, false, [.ptr 4288 0]), (6, false, [.int .i64])], [(0, [.int .i64, .int .i64, .int .i64, .int .i64, .br tI]), (64, [.int .i64, .int .i64, .nil]), (4288, [.int .i64, .int .i64, .nil])], [(1000001000, tI, .fz)]⟩
def S_spec_l14Do_1885 : Shape := ⟨[(0, false, [.at 1000001000]), (3, false, [.ptr 0 0]), (4, false, [.ptr 64 0]), (5, false, [.ptr 4288 0]), (6, false, [.ci .i64 0])], [(0, [.int .i64, .int .i64, .int .i64, .int .i64, .br tI]), (64, [.int .i64, .int .i64, .nil]), (4288, [.int .i64, .int .i64, .nil])], [(1000001000, tI, .fz)]⟩
def O_spec_l14Do_1885 : Shape := ⟨[(4, false, [.ptr 64 0]), (5, false, [.ptr 4288 0])], [(64, [.int .i64, .int .i64, .nil]), (4288, [.int .i64, .int .i64, .nil])], [(1000001000, tI, .fz)]⟩
def Z_spec_l14Do_1885 : Shape := ⟨[], [], []⟩
noncomputable def st_spec_l14Do_1885 (v0 : Int) (v1 : Int) (v2 : Int) (v3 : Int) (v4 : Int) (v5 : List Int) (v6 : Int) (v7 : Int) (v8 : Int) (v9 : Int) (v10 : List Int) : Option ((L_spec_l14Do_1885).X ⊕ ((O_spec_l14Do_1885).X ⊕ (Z_spec_l14Do_1885).X)) :=
  bif (ltb v0 (v5.length : Int)) then
    bif (inb v0 v5.length) then
      bif (inb (IntKind.i64.wrap (v3 + v0)) v10.length) then
        some (.inl ((((), ()), ((), ()), ((), ()), ((), ()), ((IntKind.i64.wrap (v0 + 1)), ()), ()), ((v1, v2, v3, v4, v5, ()), (v6, v7, (), ()), (v8, v9, (), ()), ()), ((v10.set ((IntKind.i64.wrap (v3 + v0))).toNat (nth v5 v0 0)), ())))
      else none
    else none
  else
    some (.inr (.inl ((((), ()), ((), ()), ()), ((v6, v7, (), ()), (v8, v9, (), ()), ()), (v10, ()))))
noncomputable def stx_spec_l14Do_1885 (x : (L_spec_l14Do_1885).X) := st_spec_l14Do_1885 x.1.2.2.2.2.1.1 x.2.1.1.1 x.2.1.1.2.1 x.2.1.1.2.2.1 x.2.1.1.2.2.2.1 x.2.1.1.2.2.2.2.1 x.2.1.2.1.1 x.2.1.2.1.2.1 x.2.1.2.2.1.1 x.2.1.2.2.1.2.1 x.2.2.1
def em_spec_l14Do_1885 (x : (S_spec_l14Do_1885).X) : (L_spec_l14Do_1885).X := ((((), ()), ((), ()), ((), ()), ((), ()), (0, ()), ()), ((x.2.1.1.1, x.2.1.1.2.1, x.2.1.1.2.2.1, x.2.1.1.2.2.2.1, x.2.1.1.2.2.2.2.1, ()), (x.2.1.2.1.1, x.2.1.2.1.2.1, (), ()), (x.2.1.2.2.1.1, x.2.1.2.2.1.2.1, (), ()), ()), (x.2.2.1, ()))
noncomputable def c_spec_l14Do_1885 : Code := (subN B_spec_l14Do 64 7540).getD .skip
theorem a_spec_l14Do_1885 : subN B_spec_l14Do 64 1885 = some (.block 1 (.loop c_spec_l14Do_1885)) := by kernel_rfl
theorem r_spec_l14Do_1885 (x : (L_spec_l14Do_1885).X) : roundT ⟨E_spec_l14Do, 85, D_spec_l14Do_0⟩ 1 c_spec_l14Do_1885 7540 L_spec_l14Do_1885 O_spec_l14Do_1885 Z_spec_l14Do_1885 x = stx_spec_l14Do_1885 x := by kernel_rfl
noncomputable def fu_spec_l14Do_1885 (x : (S_spec_l14Do_1885).X) : Nat := (fun (u0 : Int) (u1 : Int) (u2 : Int) (u3 : Int) (u4 : List Int) (u5 : Int) (u6 : Int) (u7 : Int) (u8 : Int) (u9 : List Int) => 18446744073709551616) x.2.1.1.1 x.2.1.1.2.1 x.2.1.1.2.2.1 x.2.1.1.2.2.2.1 x.2.1.1.2.2.2.2.1 x.2.1.2.1.1 x.2.1.2.1.2.1 x.2.1.2.2.1.1 x.2.1.2.2.1.2.1 x.2.2.1
noncomputable def F_spec_l14Do_1885 (x : (S_spec_l14Do_1885).X) : Option ((O_spec_l14Do_1885).X ⊕ (Z_spec_l14Do_1885).X) := loopN stx_spec_l14Do_1885 (fu_spec_l14Do_1885 x) (em_spec_l14Do_1885 x)
noncomputable def sg_spec_l14Do_1885 : Seg := ⟨S_spec_l14Do_1885, O_spec_l14Do_1885, Z_spec_l14Do_1885, F_spec_l14Do_1885⟩
noncomputable def D_spec_l14Do_1 : Nat → Option Seg := fun q => bif Nat.beq q 1885 then some sg_spec_l14Do_1885 else D_spec_l14Do_0 q
theorem fr_spec_l14Do_1 : FrOk Try.prog ⟨E_spec_l14Do, 85, D_spec_l14Do_1⟩ B_spec_l14Do := (fr_spec_l14Do_0).loop (sg := sg_spec_l14Do_1885) L_spec_l14Do_1885 em_spec_l14Do_1885 (by decide) a_spec_l14Do_1885 stx_spec_l14Do_1885 fu_spec_l14Do_1885 (by decide) (fun _ => rfl) (fun x r _ h => h) r_spec_l14Do_1885
def L_spec_l14Do_7549 : Shape := ⟨[(0, false, [.at 1000001000]), (3, false, [.ptr 0 0]), (4, false, [.ptr 64 0]), (5, false, [.ptr 4288 0]), (7, false, [.int .i64])], [(0, [.int .i64, .int .i64, .int .i64, .int .i64, .br tI]), (64, [.int .i64, .int .i64, .nil]), (4288, [.int .i64, .int .i64, .nil])], [(1000001000, tI, .fz)]⟩
def S_spec_l14Do_7549 : Shape := ⟨[(0, false, [.at 1000001000]), (3, false, [.ptr 0 0]), (4, false, [.ptr 64 0]), (5, false, [.ptr 4288 0]), (7, false, [.ci .i64 0])], [(0, [.int .i64, .int .i64, .int .i64, .int .i64, .br tI]), (64, [.int .i64, .int .i64, .nil]), (4288, [.int .i64, .int .i64, .nil])], [(1000001000, tI, .fz)]⟩
def O_spec_l14Do_7549 : Shape := ⟨[(4, false, [.ptr 64 0]), (5, false, [.ptr 4288 0])], [(64, [.int .i64, .int .i64, .nil]), (4288, [.int .i64, .int .i64, .nil])], [(1000001000, tI, .fz)]⟩
def Z_spec_l14Do_7549 : Shape := ⟨[], [], []⟩
noncomputable def st_spec_l14Do_7549 (v0 : Int) (v1 : Int) (v2 : Int) (v3 : Int) (v4 : Int) (v5 : List Int) (v6 : Int) (v7 : Int) (v8 : Int) (v9 : Int) (v10 : List Int) : Option ((L_spec_l14Do_7549).X ⊕ ((O_spec_l14Do_7549).X ⊕ (Z_spec_l14Do_7549).X)) :=
  bif (ltb v0 v4) then
    bif (inb (IntKind.i64.wrap (v3 + v0)) v10.length) then
      some (.inl ((((), ()), ((), ()), ((), ()), ((), ()), ((IntKind.i64.wrap (v0 + 1)), ()), ()), ((v1, v2, v3, v4, v5, ()), (v6, v7, (), ()), (v8, v9, (), ()), ()), ((v10.set ((IntKind.i64.wrap (v3 + v0))).toNat 0), ())))
    else none
  else
    some (.inr (.inl ((((), ()), ((), ()), ()), ((v6, v7, (), ()), (v8, v9, (), ()), ()), (v10, ()))))
noncomputable def stx_spec_l14Do_7549 (x : (L_spec_l14Do_7549).X) := st_spec_l14Do_7549 x.1.2.2.2.2.1.1 x.2.1.1.1 x.2.1.1.2.1 x.2.1.1.2.2.1 x.2.1.1.2.2.2.1 x.2.1.1.2.2.2.2.1 x.2.1.2.1.1 x.2.1.2.1.2.1 x.2.1.2.2.1.1 x.2.1.2.2.1.2.1 x.2.2.1
def em_spec_l14Do_7549 (x : (S_spec_l14Do_7549).X) : (L_spec_l14Do_7549).X := ((((), ()), ((), ()), ((), ()), ((), ()), (0, ()), ()), ((x.2.1.1.1, x.2.1.1.2.1, x.2.1.1.2.2.1, x.2.1.1.2.2.2.1, x.2.1.1.2.2.2.2.1, ()), (x.2.1.2.1.1, x.2.1.2.1.2.1, (), ()), (x.2.1.2.2.1.1, x.2.1.2.2.1.2.1, (), ()), ()), (x.2.2.1, ()))
noncomputable def c_spec_l14Do_7549 : Code := (subN B_spec_l14Do 64 30196).getD .skip
theorem a_spec_l14Do_7549 : subN B_spec_l14Do 64 7549 = some (.block 3 (.loop c_spec_l14Do_7549)) := by kernel_rfl
theorem r_spec_l14Do_7549 (x : (L_spec_l14Do_7549).X) : roundT ⟨E_spec_l14Do, 85, D_spec_l14Do_1⟩ 3 c_spec_l14Do_7549 30196 L_spec_l14Do_7549 O_spec_l14Do_7549 Z_spec_l14Do_7549 x = stx_spec_l14Do_7549 x := by kernel_rfl
noncomputable def fu_spec_l14Do_7549 (x : (S_spec_l14Do_7549).X) : Nat := (fun (u0 : Int) (u1 : Int) (u2 : Int) (u3 : Int) (u4 : List Int) (u5 : Int) (u6 : Int) (u7 : Int) (u8 : Int) (u9 : List Int) => 18446744073709551616) x.2.1.1.1 x.2.1.1.2.1 x.2.1.1.2.2.1 x.2.1.1.2.2.2.1 x.2.1.1.2.2.2.2.1 x.2.1.2.1.1 x.2.1.2.1.2.1 x.2.1.2.2.1.1 x.2.1.2.2.1.2.1 x.2.2.1
noncomputable def F_spec_l14Do_7549 (x : (S_spec_l14Do_7549).X) : Option ((O_spec_l14Do_7549).X ⊕ (Z_spec_l14Do_7549).X) := loopN stx_spec_l14Do_7549 (fu_spec_l14Do_7549 x) (em_spec_l14Do_7549 x)
noncomputable def sg_spec_l14Do_7549 : Seg := ⟨S_spec_l14Do_7549, O_spec_l14Do_7549, Z_spec_l14Do_7549, F_spec_l14Do_7549⟩
noncomputable def D_spec_l14Do_2 : Nat → Option Seg := fun q => bif Nat.beq q 7549 then some sg_spec_l14Do_7549 else D_spec_l14Do_1 q
theorem fr_spec_l14Do_2 : FrOk Try.prog ⟨E_spec_l14Do, 85, D_spec_l14Do_2⟩ B_spec_l14Do := (fr_spec_l14Do_1).loop (sg := sg_spec_l14Do_7549) L_spec_l14Do_7549 em_spec_l14Do_7549 (by decide) a_spec_l14Do_7549 stx_spec_l14Do_7549 fu_spec_l14Do_7549 (by decide) (fun _ => rfl) (fun x r _ h => h) r_spec_l14Do_7549
abbrev I_spec_l14Do : List Par := [.mt tL (.ow .fz), .rd tC]
abbrev U_spec_l14Do : List OT := [⟨false, tN, (.pr .fz (.pr .fz (.ow .fz)))⟩]
noncomputable def raw_spec_l14Do (a0 : List Int) (a1 : Int × Int × Int × Int × (List Int)) : Option (ResD U_spec_l14Do × MutD I_spec_l14Do) :=
  bif (a1.1 == 1) then
    bif (cutok a1.2.2.1 (IntKind.i64.wrap (a1.2.2.1 + a1.2.2.2.1)) a0.length) then
      bif (apok ([] : List Int).length ((a0.drop (a1.2.2.1).toNat).take ((IntKind.i64.wrap (a1.2.2.1 + a1.2.2.2.1)) - a1.2.2.1).toNat).length 8) then
        some (((a1.2.1, 0, (([] : List Int) ++ ((a0.drop (a1.2.2.1).toNat).take ((IntKind.i64.wrap (a1.2.2.1 + a1.2.2.2.1)) - a1.2.2.1).toNat))), ()), (a0, ()))
      else none
    else none
  else
    bif (a1.1 == 2) then
      bif (a1.1 == 2) then
        segM (F_spec_l14Do_1885 ((((), ()), ((), ()), ((), ()), ((), ()), ((), ()), ()), ((a1.1, a1.2.1, a1.2.2.1, a1.2.2.2.1, a1.2.2.2.2, ()), (0, 0, (), ()), (a1.2.1, 0, (), ()), ()), (a0, ()))) (fun y0 =>
          some (((y0.2.1.2.1.1, y0.2.1.2.1.2.1, []), ()), (y0.2.2.1, ()))) (fun y0 =>
          none)
      else
        bif (a1.1 == 6) then
          segM (F_spec_l14Do_7549 ((((), ()), ((), ()), ((), ()), ((), ()), ((), ()), ()), ((a1.1, a1.2.1, a1.2.2.1, a1.2.2.2.1, a1.2.2.2.2, ()), (0, 0, (), ()), (a1.2.1, 0, (), ()), ()), (a0, ()))) (fun y1 =>
            some (((y1.2.1.2.1.1, y1.2.1.2.1.2.1, []), ()), (y1.2.2.1, ()))) (fun y1 =>
            none)
        else
          bif (a1.1 == 5) then
            bif (inb a1.2.2.1 a0.length) then
              bif (inb 0 a1.2.2.2.2.length) then
                bif ((nth a0 a1.2.2.1 0) != (nth a1.2.2.2.2 0 0)) then
                  some (((a1.2.1, 4, []), ()), (a0, ()))
                else
                  bif (inb 1 a1.2.2.2.2.length) then
                    bif (inb a1.2.2.1 a0.length) then
                      some (((a1.2.1, 0, []), ()), ((a0.set (a1.2.2.1).toNat (nth a1.2.2.2.2 1 0)), ()))
                    else none
                  else none
              else none
            else none
          else
            some (((a1.2.1, 0, []), ()), (a0, ()))
    else
      bif (a1.1 == 3) then
        segM (F_spec_l14Do_1885 ((((), ()), ((), ()), ((), ()), ((), ()), ((), ()), ()), ((a1.1, a1.2.1, a1.2.2.1, a1.2.2.2.1, a1.2.2.2.2, ()), (0, 0, (), ()), (a1.2.1, 0, (), ()), ()), (a0, ()))) (fun y2 =>
          some (((y2.2.1.2.1.1, y2.2.1.2.1.2.1, []), ()), (y2.2.2.1, ()))) (fun y2 =>
          none)
      else
        bif (a1.1 == 6) then
          segM (F_spec_l14Do_7549 ((((), ()), ((), ()), ((), ()), ((), ()), ((), ()), ()), ((a1.1, a1.2.1, a1.2.2.1, a1.2.2.2.1, a1.2.2.2.2, ()), (0, 0, (), ()), (a1.2.1, 0, (), ()), ()), (a0, ()))) (fun y3 =>
            some (((y3.2.1.2.1.1, y3.2.1.2.1.2.1, []), ()), (y3.2.2.1, ()))) (fun y3 =>
            none)
        else
          bif (a1.1 == 5) then
            bif (inb a1.2.2.1 a0.length) then
              bif (inb 0 a1.2.2.2.2.length) then
                bif ((nth a0 a1.2.2.1 0) != (nth a1.2.2.2.2 0 0)) then
                  some (((a1.2.1, 4, []), ()), (a0, ()))
                else
                  bif (inb 1 a1.2.2.2.2.length) then
                    bif (inb a1.2.2.1 a0.length) then
                      some (((a1.2.1, 0, []), ()), ((a0.set (a1.2.2.1).toNat (nth a1.2.2.2.2 1 0)), ()))
                    else none
                  else none
              else none
            else none
          else
            some (((a1.2.1, 0, []), ()), (a0, ()))
theorem e_spec_l14Do (x : InD I_spec_l14Do) : execF ⟨E_spec_l14Do, 85, D_spec_l14Do_2⟩ Try.f73.results.toList B_spec_l14Do I_spec_l14Do U_spec_l14Do x = raw_spec_l14Do x.1 x.2.1 := by kernel_rfl
theorem ok0_spec_l14Do : ConOk Try.prog 73 ⟨I_spec_l14Do, U_spec_l14Do, fun x => raw_spec_l14Do x.1 x.2.1⟩ := conOk_exec (fr_spec_l14Do_2) Try.func73 (by kernel_rfl) (by kernel_rfl) Try.ntmps73.symm (by decide) (fun x r h => (e_spec_l14Do x).trans h)
noncomputable def con_spec_l14Do : Con := ⟨I_spec_l14Do, U_spec_l14Do, fun x => raw_spec_l14Do x.1 x.2.1⟩
theorem ok_spec_l14Do : ConOk Try.prog 73 con_spec_l14Do := ok0_spec_l14Do
end

/-! spec_DoCmd -/
section
noncomputable def B_spec_DoCmd : Code := (Try.f21.body).getD .skip
noncomputable def E_spec_DoCmd : Env := envOf TT [(67, con_spec_CmdCode), (68, con_spec_Blocks), (73, con_spec_l14Do)] []
theorem fr_spec_DoCmd_0 : FrOk Try.prog ⟨E_spec_DoCmd, 34, fun _ => none⟩ B_spec_DoCmd := frOk_base mixed tt_ok ⟨ok_spec_CmdCode, ok_spec_Blocks, ok_spec_l14Do, trivial⟩
noncomputable def D_spec_DoCmd_0 : Nat → Option Seg := fun _ => none
abbrev I_spec_DoCmd : List Par := [.rd tG, .rd tL, .rd tC]
abbrev U_spec_DoCmd : List OT := [⟨false, tL, (.ow .fz)⟩, ⟨false, tN, (.pr .fz (.pr .fz (.ow .fz)))⟩]
noncomputable def raw_spec_DoCmd (a0 : Int × Int) (a1 : List Int) (a2 : Int × Int × Int × Int × (List Int)) : Option (ResD U_spec_DoCmd × MutD I_spec_DoCmd) :=
  bif (apok ([] : List Int).length a1.length 8) then
    let r1 := n_spec_CmdCode a0 a2
    let r2 := n_spec_Blocks a0
    bif ((a1.length : Int) != r2) then
      some (((([] : List Int) ++ a1), (a2.2.1, 1, []), ()), ())
    else
      bif (r1 != 0) then
        some (((([] : List Int) ++ a1), (a2.2.1, r1, []), ()), ())
      else
        bnd (raw_spec_l14Do (([] : List Int) ++ a1) a2) fun r3 =>
        some ((r3.2.1, r3.1.1, ()), ())
  else none
theorem e_spec_DoCmd (x : InD I_spec_DoCmd) : execF ⟨E_spec_DoCmd, 34, D_spec_DoCmd_0⟩ Try.f21.results.toList B_spec_DoCmd I_spec_DoCmd U_spec_DoCmd x = raw_spec_DoCmd x.1 x.2.1 x.2.2.1 := by kernel_rfl
theorem ok0_spec_DoCmd : ConOk Try.prog 21 ⟨I_spec_DoCmd, U_spec_DoCmd, fun x => raw_spec_DoCmd x.1 x.2.1 x.2.2.1⟩ := conOk_exec (fr_spec_DoCmd_0) Try.func21 (by kernel_rfl) (by kernel_rfl) Try.ntmps21.symm (by decide) (fun x r h => (e_spec_DoCmd x).trans h)
theorem do_write (op id lba n x1 x2 y1 : Int) (v l : List Int) (h0 : 0 ≤ lba) (hv : v.length ≤ 6) (hl : lba + v.length ≤ l.length) (hb : l.length ≤ 1000) :
    F_spec_l14Do_1885 ((((), ()), ((), ()), ((), ()), ((), ()), ((), ()), ()), ((op, id, lba, n, v, ()), (x1, x2, (), ()), (y1, 0, (), ()), ()), (l, ())) = some (.inl ((((), ()), ((), ()), ()), ((x1, x2, (), ()), (y1, 0, (), ()), ()), (patch l lba.toNat v, ()))) := by
  have h := loopN_up (step := stx_spec_l14Do_1885) (fun i => ((((), ()), ((), ()), ((), ()), ((), ()), ((i : Int), ()), ()), ((op, id, lba, n, v, ()), (x1, x2, (), ()), (y1, 0, (), ()), ()), (patch l lba.toNat (v.take i), ()))) v.length (.inl ((((), ()), ((), ()), ()), ((x1, x2, (), ()), (y1, 0, (), ()), ()), (patch l lba.toNat (v.take v.length), ()))) (fun i hi => by
    have hp : (patch l lba.toNat (v.take i)).length = l.length := patch_len (by rw [List.length_take]; omega)
    simp only [stx_spec_l14Do_1885, st_spec_l14Do_1885, ltb_t (show (i : Int) < v.length by omega), inb_nat hi, nth_nat, hp, wr (show -9223372036854775808 ≤ lba + (i : Int) by omega) (by omega), inb_iff.2 (show 0 ≤ lba + (i : Int) ∧ lba + (i : Int) < l.length by omega), cond_true,
      wr (show -9223372036854775808 ≤ (i : Int) + 1 by omega) (by omega), Int.natCast_add, Int.natCast_one]
    have hi2 : (v.take i).length = i := by rw [List.length_take]; omega
    have := patch_snoc (l := l) (lo := lba.toNat) (m := v.take i) (x := v.getD i 0) (by omega)
    rw [hi2] at this
    rw [show (lba + (i : Int)).toNat = lba.toNat + i by omega, this, getD_get hi, List.take_append_getElem hi]) (by
    simp only [stx_spec_l14Do_1885, st_spec_l14Do_1885, ltb_f (Int.le_refl _), cond_false]) 18446744073709551616 (by omega)
  rw [List.take_length] at h
  have h0' : patch l lba.toNat (v.take 0) = l := by unfold patch; simp
  simp only [h0'] at h
  exact h
theorem do_zero (op id lba n x1 x2 y1 : Int) (v l : List Int) (h0 : 0 ≤ lba) (hn : 0 ≤ n) (hv : n ≤ 6) (hl : lba + n ≤ l.length) (hb : l.length ≤ 1000) :
    F_spec_l14Do_7549 ((((), ()), ((), ()), ((), ()), ((), ()), ((), ()), ()), ((op, id, lba, n, v, ()), (x1, x2, (), ()), (y1, 0, (), ()), ()), (l, ())) = some (.inl ((((), ()), ((), ()), ()), ((x1, x2, (), ()), (y1, 0, (), ()), ()), (patch l lba.toNat (List.replicate n.toNat 0), ()))) := by
  have h := loopN_up (step := stx_spec_l14Do_7549) (fun i => ((((), ()), ((), ()), ((), ()), ((), ()), ((i : Int), ()), ()), ((op, id, lba, n, v, ()), (x1, x2, (), ()), (y1, 0, (), ()), ()), (patch l lba.toNat (List.replicate i 0), ()))) n.toNat (.inl ((((), ()), ((), ()), ()), ((x1, x2, (), ()), (y1, 0, (), ()), ()), (patch l lba.toNat (List.replicate n.toNat 0), ()))) (fun i hi => by
    have hp : (patch l lba.toNat (List.replicate i 0)).length = l.length := patch_len (by rw [List.length_replicate]; omega)
    simp only [stx_spec_l14Do_7549, st_spec_l14Do_7549, ltb_t (show (i : Int) < n by omega), hp, wr (show -9223372036854775808 ≤ lba + (i : Int) by omega) (by omega), inb_iff.2 (show 0 ≤ lba + (i : Int) ∧ lba + (i : Int) < l.length by omega), cond_true,
      wr (show -9223372036854775808 ≤ (i : Int) + 1 by omega) (by omega), Int.natCast_add, Int.natCast_one]
    have := patch_snoc (l := l) (lo := lba.toNat) (m := List.replicate i 0) (x := 0) (by rw [List.length_replicate]; omega)
    rw [List.length_replicate] at this
    rw [show (lba + (i : Int)).toNat = lba.toNat + i by omega, this, ← List.replicate_succ']) (by
    simp only [stx_spec_l14Do_7549, st_spec_l14Do_7549, ltb_f (show n ≤ (n.toNat : Int) by omega), cond_false]) 18446744073709551616 (by omega)
  have h0' : patch l lba.toNat (List.replicate 0 0) = l := by unfold patch; simp
  simp only [h0'] at h
  exact h
noncomputable def n_spec_DoCmd (a0 : dG) (a1 : List Int) (a2 : dC) : List Int × dN := pDo a0 a1 a2
theorem nn_spec_DoCmd (a0 : dG) (a1 : List Int) (a2 : dC) (hk : InOk I_spec_DoCmd (a0, a1, a2, ())) : raw_spec_DoCmd a0 a1 a2 = (fun n => some ((n.1, n.2, ()), ())) (n_spec_DoCmd a0 a1 a2) := by
  have hb : a1.length * 8 ≤ 2 ^ 47 := hk.2.1.1
  have hB := spec_Blocks_le a0
  unfold raw_spec_DoCmd n_spec_DoCmd pDo
  simp only [show apok ([] : List Int).length a1.length 8 = true from apok_iff.2 (by simp only [List.length_nil]; omega), cond_true, List.nil_append]
  by_cases h1 : (a1.length : Int) = n_spec_Blocks a0
  · by_cases h2 : n_spec_CmdCode a0 a2 = 0
    · rw [show ((a1.length : Int) != n_spec_Blocks a0) = false by simp [h1], show (n_spec_CmdCode a0 a2 != 0) = false by simp [h2]]
      obtain ⟨op, id, lba, n, v⟩ := a2
      simp only [cond_false]
      unfold raw_spec_l14Do
      rcases good_cmd h2 with rfl | ⟨p, ⟨rfl | rfl, q1, q2, q3⟩ | ⟨rfl | rfl, q1, q2, q3⟩ | ⟨rfl, q1, q3⟩⟩
      · rfl
      · have hw : IntKind.i64.wrap (lba + n) = lba + n := wr (by omega) (by omega)
        simp only [beq_self_eq_true, cond_true, hw, cutok_iff.2 (show 0 ≤ lba ∧ lba ≤ lba + n ∧ lba + n ≤ a1.length by omega), show (lba + n - lba).toNat = n.toNat by omega, List.nil_append,
          show apok ([] : List Int).length ((a1.drop lba.toNat).take n.toNat).length 8 = true from apok_iff.2 (by rw [List.length_nil, List.length_take]; omega)]
        rfl
      · show bnd (segM (F_spec_l14Do_7549 _) _ _) _ = _
        rw [do_zero 6 id lba n 0 0 id v a1 p (by omega) q2 (by omega) (by omega)]
        rfl
      · show bnd (segM (F_spec_l14Do_1885 _) _ _) _ = _
        rw [do_write 2 id lba n 0 0 id v a1 p q2 (by omega) (by omega)]
        rfl
      · show bnd (segM (F_spec_l14Do_1885 _) _ _) _ = _
        rw [do_write 3 id lba n 0 0 id v a1 p q2 (by omega) (by omega)]
        rfl
      · show bnd (bif inb lba a1.length then bif inb 0 v.length then bif nth a1 lba 0 != nth v 0 0 then _ else bif inb 1 v.length then bif inb lba a1.length then _ else _ else _ else _ else _) _ = _
        rw [inb_iff.2 (show 0 ≤ lba ∧ lba < a1.length by omega), inb_iff.2 (show (0 : Int) ≤ 0 ∧ (0 : Int) < v.length by omega), inb_iff.2 (show (0 : Int) ≤ 1 ∧ (1 : Int) < v.length by omega), bne]
        cases (nth a1 lba 0 == nth v 0 0) <;> rfl
    · rw [show ((a1.length : Int) != n_spec_Blocks a0) = false by simp [h1], show (n_spec_CmdCode a0 a2 != 0) = true from bne_iff_ne.2 h2]
      rfl
  · rw [show ((a1.length : Int) != n_spec_Blocks a0) = true from bne_iff_ne.2 h1]
    rfl
noncomputable def con_spec_DoCmd : Con := ⟨I_spec_DoCmd, U_spec_DoCmd, fun x => (fun n => some ((n.1, n.2, ()), ())) (n_spec_DoCmd x.1 x.2.1 x.2.2.1)⟩
theorem ok_spec_DoCmd : ConOk Try.prog 21 con_spec_DoCmd := (ok0_spec_DoCmd).mono (fun x r hk h => (nn_spec_DoCmd x.1 x.2.1 x.2.2.1 hk).trans h)
end

/-! spec_DoCmds -/
section
noncomputable def B_spec_DoCmds : Code := (Try.f46.body).getD .skip
noncomputable def E_spec_DoCmds : Env := envOf TT [(21, con_spec_DoCmd)] [(8192, (.pr .fz (.pr .fz .fz))), (32896, (.pr .fz (.pr .fz .fz)))]
theorem fr_spec_DoCmds_0 : FrOk Try.prog ⟨E_spec_DoCmds, 44, fun _ => none⟩ B_spec_DoCmds := frOk_base mixed tt_ok ⟨ok_spec_DoCmd, trivial⟩
noncomputable def D_spec_DoCmds_0 : Nat → Option Seg := fun _ => none
def L_spec_DoCmds_61 : Shape := ⟨[(2, false, [.br tC]), (3, false, [.ptr 0 0]), (8, false, [.at 800000000]), (9, false, [.at 800000001]), (10, false, [.int .i64])], [(0, [.int .i64, .int .i64])], [(800000000, tI, .fz), (800000001, tN, (.pr .fz (.pr .fz .fz)))]⟩
def S_spec_DoCmds_61 : Shape := ⟨[(2, false, [.br tC]), (3, false, [.ptr 0 0]), (8, false, [.at 800000000]), (9, false, [.at 800000001]), (10, false, [.ci .i64 0])], [(0, [.int .i64, .int .i64])], [(800000000, tI, .fz), (800000001, tN, (.pr .fz (.pr .fz .fz)))]⟩
def O_spec_DoCmds_61 : Shape := ⟨[(8, false, [.at 800000000]), (9, false, [.at 800000001])], [], [(800000000, tI, .fz), (800000001, tN, (.pr .fz (.pr .fz .fz)))]⟩
def Z_spec_DoCmds_61 : Shape := ⟨[], [], []⟩
noncomputable def st_spec_DoCmds_61 (v0 : List (Int × Int × Int × Int × (List Int))) (v1 : Int) (v2 : Int) (v3 : Int) (v4 : List Int) (v5 : List (Int × Int × (List Int))) : Option ((L_spec_DoCmds_61).X ⊕ ((O_spec_DoCmds_61).X ⊕ (Z_spec_DoCmds_61).X)) :=
  bif (ltb v1 (v0.length : Int)) then
    bif (ltb v1 400) then
      bif (inb v1 v0.length) then
        let r2 := n_spec_DoCmd (v2, v3) v4 ((nth v0 v1 (0, 0, 0, 0, [])).1, ((nth v0 v1 (0, 0, 0, 0, [])).2).1, (((nth v0 v1 (0, 0, 0, 0, [])).2).2).1, ((((nth v0 v1 (0, 0, 0, 0, [])).2).2).2))
        bif (apok v5.length ([r2.2] : List (Int × Int × (List Int))).length 40) then
          some (.inl (((v0, ()), ((), ()), ((), ()), ((), ()), ((IntKind.i64.wrap (v1 + 1)), ()), ()), ((v2, v3, ()), ()), (r2.1, (v5 ++ ([r2.2] : List (Int × Int × (List Int)))), ())))
        else none
      else none
    else
      some (.inr (.inl ((((), ()), ((), ()), ()), (), (v4, v5, ()))))
  else
    some (.inr (.inl ((((), ()), ((), ()), ()), (), (v4, v5, ()))))
noncomputable def stx_spec_DoCmds_61 (x : (L_spec_DoCmds_61).X) := st_spec_DoCmds_61 x.1.1.1 x.1.2.2.2.2.1.1 x.2.1.1.1 x.2.1.1.2.1 x.2.2.1 x.2.2.2.1
def em_spec_DoCmds_61 (x : (S_spec_DoCmds_61).X) : (L_spec_DoCmds_61).X := (((x.1.1.1, ()), ((), ()), ((), ()), ((), ()), (0, ()), ()), ((x.2.1.1.1, x.2.1.1.2.1, ()), ()), (x.2.2.1, x.2.2.2.1, ()))
noncomputable def c_spec_DoCmds_61 : Code := (subN B_spec_DoCmds 64 244).getD .skip
theorem a_spec_DoCmds_61 : subN B_spec_DoCmds 64 61 = some (.block 0 (.loop c_spec_DoCmds_61)) := by kernel_rfl
theorem r_spec_DoCmds_61 (x : (L_spec_DoCmds_61).X) : roundT ⟨E_spec_DoCmds, 44, D_spec_DoCmds_0⟩ 0 c_spec_DoCmds_61 244 L_spec_DoCmds_61 O_spec_DoCmds_61 Z_spec_DoCmds_61 x = stx_spec_DoCmds_61 x := by kernel_rfl
noncomputable def fu_spec_DoCmds_61 (x : (S_spec_DoCmds_61).X) : Nat := (fun (u0 : List (Int × Int × Int × Int × (List Int))) (u1 : Int) (u2 : Int) (u3 : List Int) (u4 : List (Int × Int × (List Int))) => 18446744073709551616) x.1.1.1 x.2.1.1.1 x.2.1.1.2.1 x.2.2.1 x.2.2.2.1
noncomputable def F_spec_DoCmds_61 (x : (S_spec_DoCmds_61).X) : Option ((O_spec_DoCmds_61).X ⊕ (Z_spec_DoCmds_61).X) := loopN stx_spec_DoCmds_61 (fu_spec_DoCmds_61 x) (em_spec_DoCmds_61 x)
noncomputable def sg_spec_DoCmds_61 : Seg := ⟨S_spec_DoCmds_61, O_spec_DoCmds_61, Z_spec_DoCmds_61, F_spec_DoCmds_61⟩
noncomputable def D_spec_DoCmds_1 : Nat → Option Seg := fun q => bif Nat.beq q 61 then some sg_spec_DoCmds_61 else D_spec_DoCmds_0 q
theorem fr_spec_DoCmds_1 : FrOk Try.prog ⟨E_spec_DoCmds, 44, D_spec_DoCmds_1⟩ B_spec_DoCmds := (fr_spec_DoCmds_0).loop (sg := sg_spec_DoCmds_61) L_spec_DoCmds_61 em_spec_DoCmds_61 (by decide) a_spec_DoCmds_61 stx_spec_DoCmds_61 fu_spec_DoCmds_61 (by decide) (fun _ => rfl) (fun x r _ h => h) r_spec_DoCmds_61
abbrev I_spec_DoCmds : List Par := [.rd tG, .rd tL, .rd tCs]
abbrev U_spec_DoCmds : List OT := [⟨false, tL, (.ow .fz)⟩, ⟨false, tNs, (.ow (.pr .fz (.pr .fz .fz)))⟩]
noncomputable def raw_spec_DoCmds (a0 : Int × Int) (a1 : List Int) (a2 : List (Int × Int × Int × Int × (List Int))) : Option (ResD U_spec_DoCmds × MutD I_spec_DoCmds) :=
  bif (apok ([] : List Int).length a1.length 8) then
    segM (F_spec_DoCmds_61 (((a2, ()), ((), ()), ((), ()), ((), ()), ((), ()), ()), ((a0.1, a0.2, ()), ()), ((([] : List Int) ++ a1), ([] : List (Int × Int × (List Int))), ()))) (fun y2 =>
      some ((y2.2.2.1, y2.2.2.2.1, ()), ())) (fun y2 =>
      none)
  else none
theorem e_spec_DoCmds (x : InD I_spec_DoCmds) : execF ⟨E_spec_DoCmds, 44, D_spec_DoCmds_1⟩ Try.f46.results.toList B_spec_DoCmds I_spec_DoCmds U_spec_DoCmds x = raw_spec_DoCmds x.1 x.2.1 x.2.2.1 := by kernel_rfl
theorem ok0_spec_DoCmds : ConOk Try.prog 46 ⟨I_spec_DoCmds, U_spec_DoCmds, fun x => raw_spec_DoCmds x.1 x.2.1 x.2.2.1⟩ := conOk_exec (fr_spec_DoCmds_1) Try.func46 (by kernel_rfl) (by kernel_rfl) Try.ntmps46.symm (by decide) (fun x r h => (e_spec_DoCmds x).trans h)
noncomputable def n_spec_DoCmds (a0 : dG) (a1 : List Int) (a2 : List dC) : List Int × List dN := doAll a0 a1 a2
theorem nn_spec_DoCmds (a0 : dG) (a1 : List Int) (a2 : List dC) (hk : InOk I_spec_DoCmds (a0, a1, a2, ())) : raw_spec_DoCmds a0 a1 a2 = (fun n => some ((n.1, n.2, ()), ())) (n_spec_DoCmds a0 a1 a2) := by
  have hb : a1.length * 8 ≤ 2 ^ 47 := hk.2.1.1
  have hc : a2.length * 56 ≤ 2 ^ 47 := hk.2.2.1.1
  have hT : (a2.take 400).length ≤ 400 ∧ (a2.take 400).length ≤ a2.length ∧ ((a2.take 400).length = a2.length ∨ (a2.take 400).length = 400) := by rw [List.length_take]; omega
  have hl : F_spec_DoCmds_61 (((a2, ()), ((), ()), ((), ()), ((), ()), ((), ()), ()), ((a0.1, a0.2, ()), ()), (a1, ([] : List dN), ())) = some (.inl ((((), ()), ((), ()), ()), (), ((doAll a0 a1 a2).1, (doAll a0 a1 a2).2, ()))) :=
    loopN_fold (step := stx_spec_DoCmds_61) (a2.take 400) ((0, 0, 0, 0, []) : dC) (fun (i : Nat) (s : List Int × List dN) => (((a2, ()), ((), ()), ((), ()), ((), ()), ((i : Int), ()), ()), ((a0.1, a0.2, ()), ()), (s.1, s.2, ()))) (doOne a0) (fun i s => s.2.length = i) (fun s => .inl ((((), ()), ((), ()), ()), (), (s.1, s.2, ())))
      (fun i s hi hs => by
        have hi2 : i < a2.length := by omega
        have he : a2.getD i ((0, 0, 0, 0, []) : dC) = (a2.take 400).getD i (0, 0, 0, 0, []) := by rw [getD_get hi2, getD_get hi, List.getElem_take]
        refine ⟨?_, by show (s.2 ++ [_]).length = i + 1; rw [List.length_append, hs]; rfl⟩
        simp only [stx_spec_DoCmds_61, st_spec_DoCmds_61, ltb_t (show (i : Int) < a2.length by omega), ltb_t (show (i : Int) < 400 by omega), inb_nat hi2, nth_nat, cond_true, wr (show -9223372036854775808 ≤ (i : Int) + 1 by omega) (by omega), Int.natCast_add, Int.natCast_one, pr_eta, he, n_spec_DoCmd]
        rw [show apok s.2.length ([(pDo a0 s.1 ((a2.take 400).getD i (0, 0, 0, 0, []))).2] : List dN).length 40 = true from apok_iff.2 (by rw [hs]; simp only [List.length_cons, List.length_nil]; omega)]
        rfl)
      (fun s hs => by
        rcases hT.2.2 with h | h
        · simp only [stx_spec_DoCmds_61, st_spec_DoCmds_61, h, ltb_f (Int.le_refl _), cond_false]
        · simp only [stx_spec_DoCmds_61, st_spec_DoCmds_61, h, ltb_f (show (400 : Int) ≤ ((400 : Nat) : Int) by omega), cond_false]
          cases ltb ((400 : Nat) : Int) (a2.length : Int) <;> rfl) (a1, []) rfl _ (by show _ < 18446744073709551616; omega)
  unfold raw_spec_DoCmds n_spec_DoCmds
  simp only [show apok ([] : List Int).length a1.length 8 = true from apok_iff.2 (by rw [List.length_nil]; omega), cond_true, List.nil_append]
  rw [hl]; rfl
noncomputable def con_spec_DoCmds : Con := ⟨I_spec_DoCmds, U_spec_DoCmds, fun x => (fun n => some ((n.1, n.2, ()), ())) (n_spec_DoCmds x.1 x.2.1 x.2.2.1)⟩
theorem ok_spec_DoCmds : ConOk Try.prog 46 con_spec_DoCmds := (ok0_spec_DoCmds).mono (fun x r hk h => (nn_spec_DoCmds x.1 x.2.1 x.2.2.1 hk).trans h)
end

/-! laws_toCmd -/
section
noncomputable def B_laws_toCmd : Code := (Try.f16.body).getD .skip
noncomputable def E_laws_toCmd : Env := envOf TT [(22, con_laws_toIntS)] []
theorem fr_laws_toCmd_0 : FrOk Try.prog ⟨E_laws_toCmd, 21, fun _ => none⟩ B_laws_toCmd := frOk_base mixed tt_ok ⟨ok_laws_toIntS, trivial⟩
noncomputable def D_laws_toCmd_0 : Nat → Option Seg := fun _ => none
abbrev I_laws_toCmd : List Par := [.rd tC]
abbrev U_laws_toCmd : List OT := [⟨false, tC, (.pr .fz (.pr .fz (.pr .fz (.pr .fz (.ow .fz)))))⟩]
noncomputable def raw_laws_toCmd (a0 : Int × Int × Int × Int × (List Int)) : Option (ResD U_laws_toCmd × MutD I_laws_toCmd) :=
  let r1 := n_laws_toIntS a0.2.2.2.2
  some (((a0.1, a0.2.1, a0.2.2.1, a0.2.2.2.1, r1), ()), ())
theorem e_laws_toCmd (x : InD I_laws_toCmd) : execF ⟨E_laws_toCmd, 21, D_laws_toCmd_0⟩ Try.f16.results.toList B_laws_toCmd I_laws_toCmd U_laws_toCmd x = raw_laws_toCmd x.1 := by kernel_rfl
theorem ok0_laws_toCmd : ConOk Try.prog 16 ⟨I_laws_toCmd, U_laws_toCmd, fun x => raw_laws_toCmd x.1⟩ := conOk_exec (fr_laws_toCmd_0) Try.func16 (by kernel_rfl) (by kernel_rfl) Try.ntmps16.symm (by decide) (fun x r h => (e_laws_toCmd x).trans h)
noncomputable def n_laws_toCmd (a0 : Int × Int × Int × Int × List Int) : Int × Int × Int × Int × List Int := a0
theorem nn_laws_toCmd (a0 : Int × Int × Int × Int × List Int) (hk : InOk I_laws_toCmd (a0, ())) : raw_laws_toCmd a0 = (fun n => some ((n, ()), ())) (n_laws_toCmd a0) := rfl
noncomputable def con_laws_toCmd : Con := ⟨I_laws_toCmd, U_laws_toCmd, fun x => (fun n => some ((n, ()), ())) (n_laws_toCmd x.1)⟩
theorem ok_laws_toCmd : ConOk Try.prog 16 con_laws_toCmd := (ok0_laws_toCmd).mono (fun x r hk h => (nn_laws_toCmd x.1 hk).trans h)
theorem id_laws_toCmd (a : Int × Int × Int × Int × (List Int)) : n_laws_toCmd a = a := by kernel_rfl
end

/-! laws_toCmdS -/
section
noncomputable def B_laws_toCmdS : Code := (Try.f47.body).getD .skip
noncomputable def E_laws_toCmdS : Env := envOf TT [(16, con_laws_toCmd)] []
theorem fr_laws_toCmdS_0 : FrOk Try.prog ⟨E_laws_toCmdS, 23, fun _ => none⟩ B_laws_toCmdS := frOk_base mixed tt_ok ⟨ok_laws_toCmd, trivial⟩
noncomputable def D_laws_toCmdS_0 : Nat → Option Seg := fun _ => none
def L_laws_toCmdS_29 : Shape := ⟨[(0, false, [.br tC]), (3, false, [.at 800000000]), (4, false, [.int .i64])], [], [(800000000, tC, (.pr .fz (.pr .fz (.pr .fz (.pr .fz (.ow .fz))))))]⟩
def S_laws_toCmdS_29 : Shape := ⟨[(0, false, [.br tC]), (3, false, [.at 800000000]), (4, false, [.ci .i64 0])], [], [(800000000, tC, (.pr .fz (.pr .fz (.pr .fz (.pr .fz (.ow .fz))))))]⟩
def O_laws_toCmdS_29 : Shape := ⟨[(3, false, [.at 800000000])], [], [(800000000, tC, (.pr .fz (.pr .fz (.pr .fz (.pr .fz (.ow .fz))))))]⟩
def Z_laws_toCmdS_29 : Shape := ⟨[], [], []⟩
noncomputable def st_laws_toCmdS_29 (v0 : List (Int × Int × Int × Int × (List Int))) (v1 : Int) (v2 : List (Int × Int × Int × Int × (List Int))) : Option ((L_laws_toCmdS_29).X ⊕ ((O_laws_toCmdS_29).X ⊕ (Z_laws_toCmdS_29).X)) :=
  bif (ltb v1 (v0.length : Int)) then
    bif (inb v1 v0.length) then
      let r2 := n_laws_toCmd ((nth v0 v1 (0, 0, 0, 0, [])).1, ((nth v0 v1 (0, 0, 0, 0, [])).2).1, (((nth v0 v1 (0, 0, 0, 0, [])).2).2).1, ((((nth v0 v1 (0, 0, 0, 0, [])).2).2).2))
      bif (inb v1 v2.length) then
        some (.inl (((v0, ()), ((), ()), ((IntKind.i64.wrap (v1 + 1)), ()), ()), (), ((v2.set (v1).toNat r2), ())))
      else none
    else none
  else
    some (.inr (.inl ((((), ()), ()), (), (v2, ()))))
noncomputable def stx_laws_toCmdS_29 (x : (L_laws_toCmdS_29).X) := st_laws_toCmdS_29 x.1.1.1 x.1.2.2.1.1 x.2.2.1
def em_laws_toCmdS_29 (x : (S_laws_toCmdS_29).X) : (L_laws_toCmdS_29).X := (((x.1.1.1, ()), ((), ()), (0, ()), ()), (), (x.2.2.1, ()))
noncomputable def c_laws_toCmdS_29 : Code := (subN B_laws_toCmdS 64 116).getD .skip
theorem a_laws_toCmdS_29 : subN B_laws_toCmdS 64 29 = some (.block 0 (.loop c_laws_toCmdS_29)) := by kernel_rfl
theorem r_laws_toCmdS_29 (x : (L_laws_toCmdS_29).X) : roundT ⟨E_laws_toCmdS, 23, D_laws_toCmdS_0⟩ 0 c_laws_toCmdS_29 116 L_laws_toCmdS_29 O_laws_toCmdS_29 Z_laws_toCmdS_29 x = stx_laws_toCmdS_29 x := by kernel_rfl
noncomputable def fu_laws_toCmdS_29 (x : (S_laws_toCmdS_29).X) : Nat := (fun (u0 : List (Int × Int × Int × Int × (List Int))) (u1 : List (Int × Int × Int × Int × (List Int))) => 18446744073709551616) x.1.1.1 x.2.2.1
noncomputable def F_laws_toCmdS_29 (x : (S_laws_toCmdS_29).X) : Option ((O_laws_toCmdS_29).X ⊕ (Z_laws_toCmdS_29).X) := loopN stx_laws_toCmdS_29 (fu_laws_toCmdS_29 x) (em_laws_toCmdS_29 x)
noncomputable def sg_laws_toCmdS_29 : Seg := ⟨S_laws_toCmdS_29, O_laws_toCmdS_29, Z_laws_toCmdS_29, F_laws_toCmdS_29⟩
noncomputable def D_laws_toCmdS_1 : Nat → Option Seg := fun q => bif Nat.beq q 29 then some sg_laws_toCmdS_29 else D_laws_toCmdS_0 q
theorem fr_laws_toCmdS_1 : FrOk Try.prog ⟨E_laws_toCmdS, 23, D_laws_toCmdS_1⟩ B_laws_toCmdS := (fr_laws_toCmdS_0).loop (sg := sg_laws_toCmdS_29) L_laws_toCmdS_29 em_laws_toCmdS_29 (by decide) a_laws_toCmdS_29 stx_laws_toCmdS_29 fu_laws_toCmdS_29 (by decide) (fun _ => rfl) (fun x r _ h => h) r_laws_toCmdS_29
abbrev I_laws_toCmdS : List Par := [.rd tCs]
abbrev U_laws_toCmdS : List OT := [⟨false, tCs, (.ow (.pr .fz (.pr .fz (.pr .fz (.pr .fz (.ow .fz))))))⟩]
noncomputable def raw_laws_toCmdS (a0 : List (Int × Int × Int × Int × (List Int))) : Option (ResD U_laws_toCmdS × MutD I_laws_toCmdS) :=
  bif (mkok (a0.length : Int) 56) then
    segM (F_laws_toCmdS_29 (((a0, ()), ((), ()), ((), ()), ()), (), ((List.replicate ((a0.length : Int)).toNat ((0, 0, 0, 0, []) : Int × Int × Int × Int × (List Int))), ()))) (fun y2 =>
      some ((y2.2.2.1, ()), ())) (fun y2 =>
      none)
  else none
theorem e_laws_toCmdS (x : InD I_laws_toCmdS) : execF ⟨E_laws_toCmdS, 23, D_laws_toCmdS_1⟩ Try.f47.results.toList B_laws_toCmdS I_laws_toCmdS U_laws_toCmdS x = raw_laws_toCmdS x.1 := by kernel_rfl
theorem ok0_laws_toCmdS : ConOk Try.prog 47 ⟨I_laws_toCmdS, U_laws_toCmdS, fun x => raw_laws_toCmdS x.1⟩ := conOk_exec (fr_laws_toCmdS_1) Try.func47 (by kernel_rfl) (by kernel_rfl) Try.ntmps47.symm (by decide) (fun x r h => (e_laws_toCmdS x).trans h)
noncomputable def n_laws_toCmdS (a0 : List (Int × Int × Int × Int × (List Int))) : List (Int × Int × Int × Int × (List Int)) := a0
theorem nn_laws_toCmdS (a0 : List (Int × Int × Int × Int × (List Int))) (hk : InOk I_laws_toCmdS (a0, ())) : raw_laws_toCmdS a0 = (fun n => some ((n, ()), ())) (n_laws_toCmdS a0) := by
  have hb : a0.length * 56 ≤ 2 ^ 47 := hk.1.1
  have hl : F_laws_toCmdS_29 (((a0, ()), ((), ()), ((), ()), ()), (), ((List.replicate a0.length ((0, 0, 0, 0, []) : Int × Int × Int × Int × (List Int))), ())) = some (.inl ((((), ()), ()), (), (a0, ()))) :=
    loopN_fill (step := stx_laws_toCmdS_29) a0 ((0, 0, 0, 0, []) : Int × Int × Int × Int × (List Int)) (fun i m => (((a0, ()), ((), ()), ((i : Int), ()), ()), (), (m, ()))) (fun m => .inl ((((), ()), ()), (), (m, ()))) (fun i m hi hm => by
      simp only [stx_laws_toCmdS_29, st_laws_toCmdS_29, inb_nat (show i < m.length by omega), inb_nat hi, nth_nat, Int.toNat_natCast, ltb_t (show (i : Int) < a0.length by omega), cond_true, wr (show -9223372036854775808 ≤ (i : Int) + 1 by omega) (by omega), Int.natCast_add, Int.natCast_one, pr_eta, id_laws_toCmd]) (fun m hm => by
      simp only [stx_laws_toCmdS_29, st_laws_toCmdS_29, ltb_f (Int.le_refl _), cond_false]) _ (by show _ < 18446744073709551616; omega)
  unfold raw_laws_toCmdS n_laws_toCmdS
  rw [show mkok (a0.length : Int) 56 = true by rw [mkok_iff]; omega, bif_t, Int.toNat_natCast, hl]
  rfl
noncomputable def con_laws_toCmdS : Con := ⟨I_laws_toCmdS, U_laws_toCmdS, fun x => (fun n => some ((n, ()), ())) (n_laws_toCmdS x.1)⟩
theorem ok_laws_toCmdS : ConOk Try.prog 47 con_laws_toCmdS := (ok0_laws_toCmdS).mono (fun x r hk h => (nn_laws_toCmdS x.1 hk).trans h)
theorem id_laws_toCmdS (a : List (Int × Int × Int × Int × (List Int))) : n_laws_toCmdS a = a := by kernel_rfl
end
end Go.Tf
