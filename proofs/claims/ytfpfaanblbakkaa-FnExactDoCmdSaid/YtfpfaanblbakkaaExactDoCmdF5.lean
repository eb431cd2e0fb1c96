/- Functions of the program, and what they come to. -/
import Derived.Test.YtfpfaanblbakkaaExactDoCmdF4
namespace Go.Tf
open Go.Proofs
set_option synthInstance.maxHeartbeats 400000
set_option synthInstance.maxSize 10000
set_option linter.unusedVariables false
set_option linter.unusedSimpArgs false
set_option maxRecDepth 100000
/-! laws_markIntS -/
section
noncomputable def B_laws_markIntS : Code := (Try.f26.body).getD .skip
noncomputable def E_laws_markIntS : Env := envOf TT [] []
theorem fr_laws_markIntS_0 : FrOk Try.prog ⟨E_laws_markIntS, 19, fun _ => none⟩ B_laws_markIntS := frOk_base mixed tt_ok trivial
noncomputable def D_laws_markIntS_0 : Nat → Option Seg := fun _ => none
def L_laws_markIntS_13 : Shape := ⟨[(0, false, [.at 1000001000]), (1, false, [.int .i64]), (5, false, [.int .i64])], [], [(1000001000, tI, .fz)]⟩
def S_laws_markIntS_13 : Shape := ⟨[(0, false, [.at 1000001000]), (1, false, [.int .i64]), (5, false, [.ci .i64 0])], [], [(1000001000, tI, .fz)]⟩
def O_laws_markIntS_13 : Shape := ⟨[(1, false, [.int .i64])], [], [(1000001000, tI, .fz)]⟩
def Z_laws_markIntS_13 : Shape := ⟨[], [], []⟩
noncomputable def st_laws_markIntS_13 (v0 : Int) (v1 : Int) (v2 : List Int) : Option ((L_laws_markIntS_13).X ⊕ ((O_laws_markIntS_13).X ⊕ (Z_laws_markIntS_13).X)) :=
  bif (ltb v1 (v2.length : Int)) then
    bif (inb v1 v2.length) then
      some (.inl ((((), ()), ((IntKind.i64.wrap (v0 + 1)), ()), ((IntKind.i64.wrap (v1 + 1)), ()), ()), (), ((v2.set (v1).toNat v0), ())))
    else none
  else
    some (.inr (.inl (((v0, ()), ()), (), (v2, ()))))
noncomputable def stx_laws_markIntS_13 (x : (L_laws_markIntS_13).X) := st_laws_markIntS_13 x.1.2.1.1 x.1.2.2.1.1 x.2.2.1
def em_laws_markIntS_13 (x : (S_laws_markIntS_13).X) : (L_laws_markIntS_13).X := ((((), ()), (x.1.2.1.1, ()), (0, ()), ()), (), (x.2.2.1, ()))
noncomputable def c_laws_markIntS_13 : Code := (subN B_laws_markIntS 64 52).getD .skip
theorem a_laws_markIntS_13 : subN B_laws_markIntS 64 13 = some (.block 0 (.loop c_laws_markIntS_13)) := by kernel_rfl
theorem r_laws_markIntS_13 (x : (L_laws_markIntS_13).X) : roundT ⟨E_laws_markIntS, 19, D_laws_markIntS_0⟩ 0 c_laws_markIntS_13 52 L_laws_markIntS_13 O_laws_markIntS_13 Z_laws_markIntS_13 x = stx_laws_markIntS_13 x := by kernel_rfl
noncomputable def fu_laws_markIntS_13 (x : (S_laws_markIntS_13).X) : Nat := (fun (u0 : Int) (u1 : List Int) => 18446744073709551616) x.1.2.1.1 x.2.2.1
noncomputable def F_laws_markIntS_13 (x : (S_laws_markIntS_13).X) : Option ((O_laws_markIntS_13).X ⊕ (Z_laws_markIntS_13).X) := loopN stx_laws_markIntS_13 (fu_laws_markIntS_13 x) (em_laws_markIntS_13 x)
noncomputable def sg_laws_markIntS_13 : Seg := ⟨S_laws_markIntS_13, O_laws_markIntS_13, Z_laws_markIntS_13, F_laws_markIntS_13⟩
noncomputable def D_laws_markIntS_1 : Nat → Option Seg := fun q => bif Nat.beq q 13 then some sg_laws_markIntS_13 else D_laws_markIntS_0 q
theorem fr_laws_markIntS_1 : FrOk Try.prog ⟨E_laws_markIntS, 19, D_laws_markIntS_1⟩ B_laws_markIntS := (fr_laws_markIntS_0).loop (sg := sg_laws_markIntS_13) L_laws_markIntS_13 em_laws_markIntS_13 (by decide) a_laws_markIntS_13 stx_laws_markIntS_13 fu_laws_markIntS_13 (by decide) (fun _ => rfl) (fun x r _ h => h) r_laws_markIntS_13
abbrev I_laws_markIntS : List Par := [.mt tL (.ow .fz), .rd tI]
abbrev U_laws_markIntS : List OT := [⟨false, tI, .fz⟩]
noncomputable def raw_laws_markIntS (a0 : List Int) (a1 : Int) : Option (ResD U_laws_markIntS × MutD I_laws_markIntS) :=
  segM (F_laws_markIntS_13 ((((), ()), (a1, ()), ((), ()), ()), (), (a0, ()))) (fun y0 =>
    some ((y0.1.1.1, ()), (y0.2.2.1, ()))) (fun y0 =>
    none)
theorem e_laws_markIntS (x : InD I_laws_markIntS) : execF ⟨E_laws_markIntS, 19, D_laws_markIntS_1⟩ Try.f26.results.toList B_laws_markIntS I_laws_markIntS U_laws_markIntS x = raw_laws_markIntS x.1 x.2.1 := by kernel_rfl
theorem ok0_laws_markIntS : ConOk Try.prog 26 ⟨I_laws_markIntS, U_laws_markIntS, fun x => raw_laws_markIntS x.1 x.2.1⟩ := conOk_exec (fr_laws_markIntS_1) Try.func26 (by kernel_rfl) (by kernel_rfl) Try.ntmps26.symm (by decide) (fun x r h => (e_laws_markIntS x).trans h)
/-- marks from k on -/
def marks (k : Int) : Nat → List Int
  | 0 => []
  | n + 1 => k :: marks (IntKind.i64.wrap (k + 1)) n
def markEnd (k : Int) : Nat → Int
  | 0 => k
  | n + 1 => markEnd (IntKind.i64.wrap (k + 1)) n
theorem marks_len : ∀ (n : Nat) (k : Int), (marks k n).length = n
  | 0, _ => rfl
  | n + 1, k => by simp [marks, marks_len n]
theorem marks_snoc : ∀ (n : Nat) (k : Int), marks k (n + 1) = marks k n ++ [markEnd k n]
  | 0, _ => rfl
  | n + 1, k => by rw [marks, marks_snoc n]; rfl
theorem markEnd_succ : ∀ (n : Nat) (k : Int), markEnd k (n + 1) = IntKind.i64.wrap (markEnd k n + 1)
  | 0, _ => rfl
  | n + 1, k => by rw [markEnd, markEnd_succ n]; rfl
noncomputable def n_laws_markIntS (a0 : List Int) (a1 : Int) : Int × List Int := (markEnd a1 a0.length, marks a1 a0.length)
theorem nn_laws_markIntS (a0 : List Int) (a1 : Int) (hk : InOk I_laws_markIntS (a0, a1, ())) : raw_laws_markIntS a0 a1 = (fun n => some ((n.1, ()), (n.2, ()))) (n_laws_markIntS a0 a1) := by
  have hb : a0.length * 8 ≤ 2 ^ 47 := hk.1.1
  have hs : ∀ i, i < a0.length → (marks a1 i ++ a0.drop i).set i (markEnd a1 i) = marks a1 (i + 1) ++ a0.drop (i + 1) := fun i hi => by
    rw [List.set_append_right _ _ (by rw [marks_len]; exact Nat.le_refl _), marks_len, Nat.sub_self, marks_snoc, List.append_assoc, List.drop_eq_getElem_cons hi]; rfl
  have hl : F_laws_markIntS_13 ((((), ()), (a1, ()), ((), ()), ()), (), (a0, ())) = some (.inl (((markEnd a1 a0.length, ()), ()), (), (marks a1 a0.length ++ a0.drop a0.length, ()))) :=
    loopN_up (step := stx_laws_markIntS_13) (fun i => ((((), ()), (markEnd a1 i, ()), ((i : Int), ()), ()), (), (marks a1 i ++ a0.drop i, ()))) a0.length _ (fun i hi => by
      have hL : (marks a1 i ++ a0.drop i).length = a0.length := by rw [List.length_append, marks_len, List.length_drop]; omega
      simp only [stx_laws_markIntS_13, st_laws_markIntS_13, hL, inb_nat hi, ltb_t (show (i : Int) < a0.length by omega), cond_true, wr (show -9223372036854775808 ≤ (i : Int) + 1 by omega) (by omega), Int.natCast_add, Int.natCast_one, markEnd_succ, Int.toNat_natCast, hs i hi]) (by
      have hL : (marks a1 a0.length ++ a0.drop a0.length).length = a0.length := by rw [List.length_append, marks_len, List.length_drop]; omega
      simp only [stx_laws_markIntS_13, st_laws_markIntS_13, hL, ltb_f (Int.le_refl _), cond_false]) _ (by show _ < 18446744073709551616; omega)
  rw [List.drop_length, List.append_nil] at hl
  unfold raw_laws_markIntS
  rw [hl]
  rfl
noncomputable def con_laws_markIntS : Con := ⟨I_laws_markIntS, U_laws_markIntS, fun x => (fun n => some ((n.1, ()), (n.2, ()))) (n_laws_markIntS x.1 x.2.1)⟩
theorem ok_laws_markIntS : ConOk Try.prog 26 con_laws_markIntS := (ok0_laws_markIntS).mono (fun x r hk h => (nn_laws_markIntS x.1 x.2.1 hk).trans h)
end

/-! laws_markCmd -/
section
noncomputable def B_laws_markCmd : Code := (Try.f27.body).getD .skip
noncomputable def E_laws_markCmd : Env := envOf TT [(26, con_laws_markIntS)] []
theorem fr_laws_markCmd_0 : FrOk Try.prog ⟨E_laws_markCmd, 10, fun _ => none⟩ B_laws_markCmd := frOk_base mixed tt_ok ⟨ok_laws_markIntS, trivial⟩
noncomputable def D_laws_markCmd_0 : Nat → Option Seg := fun _ => none
abbrev I_laws_markCmd : List Par := [.mt tC (.pr .fz (.pr .fz (.pr .fz (.pr .fz (.ow .fz))))), .rd tI]
abbrev U_laws_markCmd : List OT := [⟨false, tI, .fz⟩]
noncomputable def raw_laws_markCmd (a0 : Int × Int × Int × Int × (List Int)) (a1 : Int) : Option (ResD U_laws_markCmd × MutD I_laws_markCmd) :=
  let r1 := n_laws_markIntS a0.2.2.2.2 a1
  some ((r1.1, ()), ((a0.1, a0.2.1, a0.2.2.1, a0.2.2.2.1, r1.2), ()))
theorem e_laws_markCmd (x : InD I_laws_markCmd) : execF ⟨E_laws_markCmd, 10, D_laws_markCmd_0⟩ Try.f27.results.toList B_laws_markCmd I_laws_markCmd U_laws_markCmd x = raw_laws_markCmd x.1 x.2.1 := by kernel_rfl
theorem ok0_laws_markCmd : ConOk Try.prog 27 ⟨I_laws_markCmd, U_laws_markCmd, fun x => raw_laws_markCmd x.1 x.2.1⟩ := conOk_exec (fr_laws_markCmd_0) Try.func27 (by kernel_rfl) (by kernel_rfl) Try.ntmps27.symm (by decide) (fun x r h => (e_laws_markCmd x).trans h)
noncomputable def n_laws_markCmd (a0 : Int × Int × Int × Int × (List Int)) (a1 : Int) : Int × (Int × Int × Int × Int × (List Int)) :=
  let r1 := n_laws_markIntS a0.2.2.2.2 a1
  (r1.1, (a0.1, a0.2.1, a0.2.2.1, a0.2.2.2.1, r1.2))
noncomputable def con_laws_markCmd : Con := ⟨I_laws_markCmd, U_laws_markCmd, fun x => (fun n => some ((n.1, ()), (n.2, ()))) (n_laws_markCmd x.1 x.2.1)⟩
theorem nn_laws_markCmd (a0 : Int × Int × Int × Int × (List Int)) (a1 : Int) : raw_laws_markCmd a0 a1 = (fun n => some ((n.1, ()), (n.2, ()))) (n_laws_markCmd a0 a1) := bif_ty (p := fun (n : Int × (Int × Int × Int × Int × (List Int))) => ((n.1, ()), (n.2, ()))) rfl
theorem ok_laws_markCmd : ConOk Try.prog 27 con_laws_markCmd := (ok0_laws_markCmd).mono (fun x r _ h => (nn_laws_markCmd x.1 x.2.1).trans h)
theorem markEnd_eq : ∀ (n : Nat) (k : Int), 0 ≤ k → k + n ≤ 9223372036854775807 → markEnd k n = k + n
  | 0, k, _, _ => by simp [markEnd]
  | n + 1, k, h, h2 => by
    rw [markEnd, wr (by omega) (by omega), markEnd_eq n (k + 1) (by omega) (by omega)]; omega
theorem markEnd_nn {n : Nat} (h : n ≤ 4611686018427387903) : ¬ markEnd 1 n < 0 := by rw [markEnd_eq n 1 (by omega) (by omega)]; omega
theorem dmark {n : Nat} (h : n ≤ 4611686018427387903) : ltb (markEnd 1 n) 0 = false := ltb_f (Int.not_lt.1 (markEnd_nn h))
end

/-! laws_markAns -/
section
noncomputable def B_laws_markAns : Code := (Try.f28.body).getD .skip
noncomputable def E_laws_markAns : Env := envOf TT [(26, con_laws_markIntS)] []
theorem fr_laws_markAns_0 : FrOk Try.prog ⟨E_laws_markAns, 10, fun _ => none⟩ B_laws_markAns := frOk_base mixed tt_ok ⟨ok_laws_markIntS, trivial⟩
noncomputable def D_laws_markAns_0 : Nat → Option Seg := fun _ => none
abbrev I_laws_markAns : List Par := [.mt tN (.pr .fz (.pr .fz (.ow .fz))), .rd tI]
abbrev U_laws_markAns : List OT := [⟨false, tI, .fz⟩]
noncomputable def raw_laws_markAns (a0 : Int × Int × (List Int)) (a1 : Int) : Option (ResD U_laws_markAns × MutD I_laws_markAns) :=
  let r1 := n_laws_markIntS a0.2.2 a1
  some ((r1.1, ()), ((a0.1, a0.2.1, r1.2), ()))
theorem e_laws_markAns (x : InD I_laws_markAns) : execF ⟨E_laws_markAns, 10, D_laws_markAns_0⟩ Try.f28.results.toList B_laws_markAns I_laws_markAns U_laws_markAns x = raw_laws_markAns x.1 x.2.1 := by kernel_rfl
theorem ok0_laws_markAns : ConOk Try.prog 28 ⟨I_laws_markAns, U_laws_markAns, fun x => raw_laws_markAns x.1 x.2.1⟩ := conOk_exec (fr_laws_markAns_0) Try.func28 (by kernel_rfl) (by kernel_rfl) Try.ntmps28.symm (by decide) (fun x r h => (e_laws_markAns x).trans h)
noncomputable def n_laws_markAns (a0 : Int × Int × (List Int)) (a1 : Int) : Int × (Int × Int × (List Int)) :=
  let r1 := n_laws_markIntS a0.2.2 a1
  (r1.1, (a0.1, a0.2.1, r1.2))
noncomputable def con_laws_markAns : Con := ⟨I_laws_markAns, U_laws_markAns, fun x => (fun n => some ((n.1, ()), (n.2, ()))) (n_laws_markAns x.1 x.2.1)⟩
theorem nn_laws_markAns (a0 : Int × Int × (List Int)) (a1 : Int) : raw_laws_markAns a0 a1 = (fun n => some ((n.1, ()), (n.2, ()))) (n_laws_markAns a0 a1) := bif_ty (p := fun (n : Int × (Int × Int × (List Int))) => ((n.1, ()), (n.2, ()))) rfl
theorem ok_laws_markAns : ConOk Try.prog 28 con_laws_markAns := (ok0_laws_markAns).mono (fun x r _ h => (nn_laws_markAns x.1 x.2.1).trans h)
end

/-! laws_heldIntS -/
section
noncomputable def B_laws_heldIntS : Code := (Try.f29.body).getD .skip
noncomputable def E_laws_heldIntS : Env := envOf TT [] []
theorem fr_laws_heldIntS_0 : FrOk Try.prog ⟨E_laws_heldIntS, 21, fun _ => none⟩ B_laws_heldIntS := frOk_base mixed tt_ok trivial
noncomputable def D_laws_heldIntS_0 : Nat → Option Seg := fun _ => none
def L_laws_heldIntS_13 : Shape := ⟨[(0, false, [.br tI]), (1, false, [.int .i64]), (5, false, [.int .i64])], [], []⟩
def S_laws_heldIntS_13 : Shape := ⟨[(0, false, [.br tI]), (1, false, [.int .i64]), (5, false, [.ci .i64 0])], [], []⟩
def O_laws_heldIntS_13 : Shape := ⟨[(1, false, [.int .i64])], [], []⟩
def Z_laws_heldIntS_13 : Shape := ⟨[(4, false, [.int .i64])], [], []⟩
noncomputable def st_laws_heldIntS_13 (v0 : List Int) (v1 : Int) (v2 : Int) : Option ((L_laws_heldIntS_13).X ⊕ ((O_laws_heldIntS_13).X ⊕ (Z_laws_heldIntS_13).X)) :=
  bif (ltb v2 (v0.length : Int)) then
    bif (inb v2 v0.length) then
      bif ((nth v0 v2 0) != v1) then
        some (.inr (.inr ((((-1), ()), ()), (), ())))
      else
        some (.inl (((v0, ()), ((IntKind.i64.wrap (v1 + 1)), ()), ((IntKind.i64.wrap (v2 + 1)), ()), ()), (), ()))
    else none
  else
    some (.inr (.inl (((v1, ()), ()), (), ())))
noncomputable def stx_laws_heldIntS_13 (x : (L_laws_heldIntS_13).X) := st_laws_heldIntS_13 x.1.1.1 x.1.2.1.1 x.1.2.2.1.1
def em_laws_heldIntS_13 (x : (S_laws_heldIntS_13).X) : (L_laws_heldIntS_13).X := (((x.1.1.1, ()), (x.1.2.1.1, ()), (0, ()), ()), (), ())
noncomputable def c_laws_heldIntS_13 : Code := (subN B_laws_heldIntS 64 52).getD .skip
theorem a_laws_heldIntS_13 : subN B_laws_heldIntS 64 13 = some (.block 0 (.loop c_laws_heldIntS_13)) := by kernel_rfl
theorem r_laws_heldIntS_13 (x : (L_laws_heldIntS_13).X) : roundT ⟨E_laws_heldIntS, 21, D_laws_heldIntS_0⟩ 0 c_laws_heldIntS_13 52 L_laws_heldIntS_13 O_laws_heldIntS_13 Z_laws_heldIntS_13 x = stx_laws_heldIntS_13 x := by kernel_rfl
noncomputable def fu_laws_heldIntS_13 (x : (S_laws_heldIntS_13).X) : Nat := (fun (u0 : List Int) (u1 : Int) => 18446744073709551616) x.1.1.1 x.1.2.1.1
noncomputable def F_laws_heldIntS_13 (x : (S_laws_heldIntS_13).X) : Option ((O_laws_heldIntS_13).X ⊕ (Z_laws_heldIntS_13).X) := loopN stx_laws_heldIntS_13 (fu_laws_heldIntS_13 x) (em_laws_heldIntS_13 x)
noncomputable def sg_laws_heldIntS_13 : Seg := ⟨S_laws_heldIntS_13, O_laws_heldIntS_13, Z_laws_heldIntS_13, F_laws_heldIntS_13⟩
noncomputable def D_laws_heldIntS_1 : Nat → Option Seg := fun q => bif Nat.beq q 13 then some sg_laws_heldIntS_13 else D_laws_heldIntS_0 q
theorem fr_laws_heldIntS_1 : FrOk Try.prog ⟨E_laws_heldIntS, 21, D_laws_heldIntS_1⟩ B_laws_heldIntS := (fr_laws_heldIntS_0).loop (sg := sg_laws_heldIntS_13) L_laws_heldIntS_13 em_laws_heldIntS_13 (by decide) a_laws_heldIntS_13 stx_laws_heldIntS_13 fu_laws_heldIntS_13 (by decide) (fun _ => rfl) (fun x r _ h => h) r_laws_heldIntS_13
abbrev I_laws_heldIntS : List Par := [.rd tL, .rd tI]
abbrev U_laws_heldIntS : List OT := [⟨false, tI, .fz⟩]
noncomputable def raw_laws_heldIntS (a0 : List Int) (a1 : Int) : Option (ResD U_laws_heldIntS × MutD I_laws_heldIntS) :=
  segM (F_laws_heldIntS_13 (((a0, ()), (a1, ()), ((), ()), ()), (), ())) (fun y0 =>
    some ((y0.1.1.1, ()), ())) (fun y0 =>
    some ((y0.1.1.1, ()), ()))
theorem e_laws_heldIntS (x : InD I_laws_heldIntS) : execF ⟨E_laws_heldIntS, 21, D_laws_heldIntS_1⟩ Try.f29.results.toList B_laws_heldIntS I_laws_heldIntS U_laws_heldIntS x = raw_laws_heldIntS x.1 x.2.1 := by kernel_rfl
theorem ok0_laws_heldIntS : ConOk Try.prog 29 ⟨I_laws_heldIntS, U_laws_heldIntS, fun x => raw_laws_heldIntS x.1 x.2.1⟩ := conOk_exec (fr_laws_heldIntS_1) Try.func29 (by kernel_rfl) (by kernel_rfl) Try.ntmps29.symm (by decide) (fun x r h => (e_laws_heldIntS x).trans h)
noncomputable def n_laws_heldIntS (a0 : List Int) (a1 : Int) : Int := bif (List.range a0.length).any (fun i => a0.getD i 0 != markEnd a1 i) then -1 else markEnd a1 a0.length
theorem nn_laws_heldIntS (a0 : List Int) (a1 : Int) (hk : InOk I_laws_heldIntS (a0, a1, ())) : raw_laws_heldIntS a0 a1 = (fun n => some ((n, ()), ())) (n_laws_heldIntS a0 a1) := by
  have hb : a0.length * 8 ≤ 2 ^ 47 := hk.1.1
  have hl : F_laws_heldIntS_13 (((a0, ()), (a1, ()), ((), ()), ()), (), ()) = some (bif (List.range a0.length).any (fun i => a0.getD i 0 != markEnd a1 i) then .inr ((((-1), ()), ()), (), ()) else .inl (((markEnd a1 a0.length, ()), ()), (), ())) :=
    loopN_all (step := stx_laws_heldIntS_13) (fun i => (((a0, ()), (markEnd a1 i, ()), ((i : Int), ()), ()), (), ())) a0.length (fun i => a0.getD i 0 != markEnd a1 i) _ _ (fun i hi => by
      simp only [stx_laws_heldIntS_13, st_laws_heldIntS_13, inb_nat hi, nth_nat, ltb_t (show (i : Int) < a0.length by omega), cond_true, wr (show -9223372036854775808 ≤ (i : Int) + 1 by omega) (by omega), Int.natCast_add, Int.natCast_one, markEnd_succ]
      cases (a0.getD i 0 != markEnd a1 i) <;> rfl) (by simp only [stx_laws_heldIntS_13, st_laws_heldIntS_13, ltb_f (Int.le_refl _), cond_false]) _ (by show _ < 18446744073709551616; omega)
  unfold raw_laws_heldIntS n_laws_heldIntS
  rw [hl]
  cases (List.range a0.length).any (fun i => a0.getD i 0 != markEnd a1 i) <;> rfl
theorem marks_get : ∀ (n i : Nat) (k : Int), i < n → (marks k n).getD i 0 = markEnd k i
  | n + 1, 0, k, _ => rfl
  | n + 1, i + 1, k, h => marks_get n i _ (by omega)
theorem held_marks (n : Nat) (k : Int) : n_laws_heldIntS (marks k n) k = markEnd k n := by
  unfold n_laws_heldIntS
  rw [marks_len]
  have : (List.range n).any (fun i => (marks k n).getD i 0 != markEnd k i) = false := by
    rw [List.any_eq_false]
    intro i hi
    rw [marks_get n i k (List.mem_range.1 hi)]
    simp
  rw [this]; rfl
noncomputable def con_laws_heldIntS : Con := ⟨I_laws_heldIntS, U_laws_heldIntS, fun x => (fun n => some ((n, ()), ())) (n_laws_heldIntS x.1 x.2.1)⟩
theorem ok_laws_heldIntS : ConOk Try.prog 29 con_laws_heldIntS := (ok0_laws_heldIntS).mono (fun x r hk h => (nn_laws_heldIntS x.1 x.2.1 hk).trans h)
end

/-! laws_heldAns -/
section
noncomputable def B_laws_heldAns : Code := (Try.f30.body).getD .skip
noncomputable def E_laws_heldAns : Env := envOf TT [(29, con_laws_heldIntS)] []
theorem fr_laws_heldAns_0 : FrOk Try.prog ⟨E_laws_heldAns, 12, fun _ => none⟩ B_laws_heldAns := frOk_base mixed tt_ok ⟨ok_laws_heldIntS, trivial⟩
noncomputable def D_laws_heldAns_0 : Nat → Option Seg := fun _ => none
abbrev I_laws_heldAns : List Par := [.rd tN, .rd tI]
abbrev U_laws_heldAns : List OT := [⟨false, tI, .fz⟩]
noncomputable def raw_laws_heldAns (a0 : Int × Int × (List Int)) (a1 : Int) : Option (ResD U_laws_heldAns × MutD I_laws_heldAns) :=
  let r1 := n_laws_heldIntS a0.2.2 a1
  bif (ltb r1 0) then
    some (((-1), ()), ())
  else
    some ((r1, ()), ())
theorem e_laws_heldAns (x : InD I_laws_heldAns) : execF ⟨E_laws_heldAns, 12, D_laws_heldAns_0⟩ Try.f30.results.toList B_laws_heldAns I_laws_heldAns U_laws_heldAns x = raw_laws_heldAns x.1 x.2.1 := by kernel_rfl
theorem ok0_laws_heldAns : ConOk Try.prog 30 ⟨I_laws_heldAns, U_laws_heldAns, fun x => raw_laws_heldAns x.1 x.2.1⟩ := conOk_exec (fr_laws_heldAns_0) Try.func30 (by kernel_rfl) (by kernel_rfl) Try.ntmps30.symm (by decide) (fun x r h => (e_laws_heldAns x).trans h)
noncomputable def n_laws_heldAns (a0 : Int × Int × (List Int)) (a1 : Int) : Int :=
  let r1 := n_laws_heldIntS a0.2.2 a1
  bif (ltb r1 0) then
    (-1)
  else
    r1
noncomputable def con_laws_heldAns : Con := ⟨I_laws_heldAns, U_laws_heldAns, fun x => (fun n => some ((n, ()), ())) (n_laws_heldAns x.1 x.2.1)⟩
theorem nn_laws_heldAns (a0 : Int × Int × (List Int)) (a1 : Int) : raw_laws_heldAns a0 a1 = (fun n => some ((n, ()), ())) (n_laws_heldAns a0 a1) := bif_ty (p := fun (n : Int) => ((n, ()), ())) (bif_some (p := fun (n : Int) => ((n, ()), ())) rfl rfl)
theorem ok_laws_heldAns : ConOk Try.prog 30 con_laws_heldAns := (ok0_laws_heldAns).mono (fun x r _ h => (nn_laws_heldAns x.1 x.2.1).trans h)
theorem held_int (n : Nat) {k : Int} (h0 : 0 ≤ k) (h : k + n ≤ 9223372036854775807) : n_laws_heldIntS (marks k n) k = k + n := by rw [held_marks, markEnd_eq n k h0 h]
theorem held_ans {a b : Int} {n : Nat} {k : Int} (h0 : 0 ≤ k) (h : k + n ≤ 9223372036854775807) : n_laws_heldAns (a, b, marks k n) k = k + n := by
  unfold n_laws_heldAns
  simp only [held_int n h0 h, ltb_f (show 0 ≤ k + (n : Int) by omega), cond_false]
end

/-! laws_FnExactDoCmd -/
section
noncomputable def B_laws_FnExactDoCmd : Code := (Try.f5.body).getD .skip
noncomputable def E_laws_FnExactDoCmd : Env := envOf TT [(13, con_laws_szCmd), (15, con_laws_toGeo), (16, con_laws_toCmd), (18, con_laws_eqCmd), (21, con_spec_DoCmd), (22, con_laws_toIntS), (23, con_impl_DoCmd), (24, con_laws_eqIntS), (25, con_laws_eqAns), (26, con_laws_markIntS), (27, con_laws_markCmd), (28, con_laws_markAns), (29, con_laws_heldIntS), (30, con_laws_heldAns)] []
theorem fr_laws_FnExactDoCmd_0 : FrOk Try.prog ⟨E_laws_FnExactDoCmd, 141, fun _ => none⟩ B_laws_FnExactDoCmd := frOk_base mixed tt_ok ⟨ok_laws_szCmd, ok_laws_toGeo, ok_laws_toCmd, ok_laws_eqCmd, ok_spec_DoCmd, ok_laws_toIntS, ok_impl_DoCmd, ok_laws_eqIntS, ok_laws_eqAns, ok_laws_markIntS, ok_laws_markCmd, ok_laws_markAns, ok_laws_heldIntS, ok_laws_heldAns, trivial⟩
noncomputable def D_laws_FnExactDoCmd_0 : Nat → Option Seg := fun _ => none
abbrev I_laws_FnExactDoCmd : List Par := [.rd tG, .rd tL, .rd tC]
abbrev U_laws_FnExactDoCmd : List OT := [⟨false, tB, .fz⟩]
noncomputable def raw_laws_FnExactDoCmd (a0 : Int × Int) (a1 : List Int) (a2 : Int × Int × Int × Int × (List Int)) : Option (ResD U_laws_FnExactDoCmd × MutD I_laws_FnExactDoCmd) :=
  bif (ltb 1048576 (a1.length : Int)) then
    some ((true, ()), ())
  else
    let r1 := n_laws_szCmd a2 1048576
    bif (ltb r1 0) then
      some ((true, ()), ())
    else
      let r2 := n_laws_toGeo a0
      let r3 := n_laws_toIntS a1
      let r4 := n_laws_toCmd a2
      let r5 := n_spec_DoCmd r2 r3 r4
      let r6 := n_laws_toIntS a1
      let r7 := n_laws_toCmd a2
      let r8 := n_laws_toGeo a0
      let r9 := n_impl_DoCmd r8 r6 r7
      let r10 := n_laws_eqIntS r9.1 r5.1
      bif (!(!r10)) then
        let r11 := n_laws_eqAns r9.2 r5.2
        bif (!r11) then
          some ((false, ()), ())
        else
          let r12 := n_laws_toIntS a1
          let r13 := n_laws_eqIntS r6 r12
          bif (!r13) then
            some ((false, ()), ())
          else
            let r14 := n_laws_toCmd a2
            let r15 := n_laws_eqCmd r7 r14
            bif (!r15) then
              some ((false, ()), ())
            else
              let r16 := n_laws_markIntS r6 1
              let r17 := n_laws_markCmd r7 r16.1
              bif (!(ltb r17.1 0)) then
                let r18 := n_laws_eqIntS r9.1 r5.1
                bif (!(!r18)) then
                  let r19 := n_laws_eqAns r9.2 r5.2
                  bif (!r19) then
                    some ((false, ()), ())
                  else
                    let r20 := n_laws_markIntS r9.1 1
                    let r21 := n_laws_markAns r9.2 r20.1
                    let r22 := n_laws_heldIntS r20.2 1
                    bif (ltb r22 0) then
                      some ((false, ()), ())
                    else
                      let r23 := n_laws_heldAns (r9.2.1, r9.2.2.1, r21.2.2.2) r22
                      bif (ltb r23 0) then
                        some ((false, ()), ())
                      else
                        bif (r23 != r21.1) then
                          some ((false, ()), ())
                        else
                          let r24 := n_laws_toGeo a0
                          let r25 := n_laws_toIntS a1
                          let r26 := n_laws_toCmd a2
                          let r27 := n_impl_DoCmd r24 r25 r26
                          let r28 := n_laws_eqIntS r27.1 r5.1
                          bif (!(!r28)) then
                            let r29 := n_laws_eqAns r27.2 r5.2
                            bif (!r29) then
                              some ((false, ()), ())
                            else
                              let r30 := n_laws_heldIntS r20.2 1
                              bif (ltb r30 0) then
                                some ((false, ()), ())
                              else
                                let r31 := n_laws_heldAns (r9.2.1, r9.2.2.1, r21.2.2.2) r30
                                bif (ltb r31 0) then
                                  some ((false, ()), ())
                                else
                                  bif (r31 != r21.1) then
                                    some ((false, ()), ())
                                  else
                                    some ((true, ()), ())
                          else
                            some ((false, ()), ())
                else
                  some ((false, ()), ())
              else
                some ((false, ()), ())
      else
        some ((false, ()), ())
theorem e_laws_FnExactDoCmd (x : InD I_laws_FnExactDoCmd) : execF ⟨E_laws_FnExactDoCmd, 141, D_laws_FnExactDoCmd_0⟩ Try.f5.results.toList B_laws_FnExactDoCmd I_laws_FnExactDoCmd U_laws_FnExactDoCmd x = raw_laws_FnExactDoCmd x.1 x.2.1 x.2.2.1 := by kernel_rfl
theorem ok0_laws_FnExactDoCmd : ConOk Try.prog 5 ⟨I_laws_FnExactDoCmd, U_laws_FnExactDoCmd, fun x => raw_laws_FnExactDoCmd x.1 x.2.1 x.2.2.1⟩ := conOk_exec (fr_laws_FnExactDoCmd_0) Try.func5 (by kernel_rfl) (by kernel_rfl) Try.ntmps5.symm (by decide) (fun x r h => (e_laws_FnExactDoCmd x).trans h)
noncomputable def n_laws_FnExactDoCmd (a0 : dG) (a1 : List Int) (a2 : dC) : Bool := true
theorem nn_laws_FnExactDoCmd (a0 : dG) (a1 : List Int) (a2 : dC) (hk : InOk I_laws_FnExactDoCmd (a0, a1, a2, ())) : raw_laws_FnExactDoCmd a0 a1 a2 = (fun n => some ((n, ()), ())) (n_laws_FnExactDoCmd a0 a1 a2) := by
  have hb : a1.length * 8 ≤ 2 ^ 47 := hk.2.1.1
  have hc : a2.2.2.2.2.length * 8 ≤ 2 ^ 47 := hk.2.2.1.2.2.2.2.1
  have hl := pDo_len a0 a1 a2
  have hv := pDo_vals a0 a1 a2
  unfold raw_laws_FnExactDoCmd n_laws_FnExactDoCmd
  simp only [id_laws_toGeo, id_laws_toIntS, id_laws_toCmd, n_spec_DoCmd, n_impl_DoCmd, eqr_laws_eqIntS, eqr_laws_eqAns, eqr_laws_eqCmd, Bool.not_true, Bool.not_false, cond_true, cond_false, n_laws_markIntS, n_laws_markCmd, n_laws_markAns,
    held_int _ (show (0 : Int) ≤ 1 by omega) (show 1 + ((pDo a0 a1 a2).1.length : Int) ≤ 9223372036854775807 by omega),
    markEnd_eq (pDo a0 a1 a2).1.length 1 (by omega) (by omega), markEnd_eq a1.length 1 (by omega) (by omega), markEnd_eq a2.2.2.2.2.length (1 + a1.length) (by omega) (by omega),
    markEnd_eq (pDo a0 a1 a2).2.2.2.length (1 + (pDo a0 a1 a2).1.length) (by omega) (by omega),
    held_ans (show (0 : Int) ≤ 1 + ((pDo a0 a1 a2).1.length : Int) by omega) (show 1 + ((pDo a0 a1 a2).1.length : Int) + ((pDo a0 a1 a2).2.2.2.length : Int) ≤ 9223372036854775807 by omega),
    ltb_f (show 0 ≤ 1 + (a1.length : Int) + a2.2.2.2.2.length by omega), ltb_f (show 0 ≤ 1 + ((pDo a0 a1 a2).1.length : Int) by omega), ltb_f (show 0 ≤ 1 + ((pDo a0 a1 a2).1.length : Int) + (pDo a0 a1 a2).2.2.2.length by omega), bne_self_eq_false]
  cases ltb 1048576 (a1.length : Int)
  · cases ltb (n_laws_szCmd a2 1048576) 0 <;> rfl
  · rfl
noncomputable def con_laws_FnExactDoCmd : Con := ⟨I_laws_FnExactDoCmd, U_laws_FnExactDoCmd, fun x => (fun n => some ((n, ()), ())) (n_laws_FnExactDoCmd x.1 x.2.1 x.2.2.1)⟩
theorem ok_laws_FnExactDoCmd : ConOk Try.prog 5 con_laws_FnExactDoCmd := (ok0_laws_FnExactDoCmd).mono (fun x r hk h => (nn_laws_FnExactDoCmd x.1 x.2.1 x.2.2.1 hk).trans h)
end
end Go.Tf
