/- Functions of the program, and what they come to. -/
import Derived.Test.YtgmadfpnljibhaaModelsF5
namespace Go.Tf
open Go.Proofs
set_option synthInstance.maxHeartbeats 400000
set_option synthInstance.maxSize 10000
set_option linter.unusedVariables false
set_option linter.unusedSimpArgs false
set_option maxRecDepth 100000
/-! impl_DoCmds -/
section
noncomputable def B_impl_DoCmds : Code := (Try.f17.body).getD .skip
noncomputable def E_impl_DoCmds : Env := envOf TT [(49, con_impl_copyInts), (50, con_impl_DoCmd)] []
theorem fr_impl_DoCmds_0 : FrOk Try.prog ⟨E_impl_DoCmds, 42, fun _ => none⟩ B_impl_DoCmds := frOk_base mixed tt_ok ⟨ok_impl_copyInts, ok_impl_DoCmd, trivial⟩
noncomputable def D_impl_DoCmds_0 : Nat → Option Seg := fun _ => none
def L_impl_DoCmds_61 : Shape := ⟨[(3, false, [.ptr 0 0]), (8, false, [.at 800000000]), (9, false, [.at 800000001]), (21, false, [.br tC]), (22, false, [.int .i64]), (23, false, [.int .i64])], [(0, [.int .i64, .int .i64])], [(800000000, tI, .fz), (800000001, tN, (.pr .fz (.pr .fz (.ow .fz))))]⟩
def S_impl_DoCmds_61 : Shape := ⟨[(3, false, [.ptr 0 0]), (8, false, [.at 800000000]), (9, false, [.at 800000001]), (21, false, [.br tC]), (22, false, [.int .i64]), (23, false, [.ci .i64 0])], [(0, [.int .i64, .int .i64])], [(800000000, tI, .fz), (800000001, tN, (.pr .fz (.pr .fz (.ow .fz))))]⟩
def O_impl_DoCmds_61 : Shape := ⟨[(8, false, [.at 800000000]), (9, false, [.at 800000001])], [], [(800000000, tI, .fz), (800000001, tN, (.pr .fz (.pr .fz (.ow .fz))))]⟩
def Z_impl_DoCmds_61 : Shape := ⟨[], [], []⟩
noncomputable def st_impl_DoCmds_61 (v0 : List dC) (v1 v2 v3 v4 : Int) (v5 : List Int) (v6 : List dN) : Option ((L_impl_DoCmds_61).X ⊕ ((O_impl_DoCmds_61).X ⊕ (Z_impl_DoCmds_61).X)) :=
  bif (ltb v2 v1) then
    bif (inb v2 v0.length) then
      let r3 := n_impl_DoCmd (v3, v4) v5 ((nth v0 v2 (0, 0, 0, 0, [])).1, ((nth v0 v2 (0, 0, 0, 0, [])).2).1, (((nth v0 v2 (0, 0, 0, 0, [])).2).2).1, ((((nth v0 v2 (0, 0, 0, 0, [])).2).2).2))
      bif (apok v6.length ([r3.2] : List dN).length 40) then
        some (.inl ((((), ()), ((), ()), ((), ()), (v0, ()), (v1, ()), ((IntKind.i64.wrap (v2 + 1)), ()), ()), ((v3, v4, ()), ()), (r3.1, (v6 ++ ([r3.2] : List dN)), ())))
      else none
    else none
  else
    some (.inr (.inl ((((), ()), ((), ()), ()), (), (v5, v6, ()))))
noncomputable def stx_impl_DoCmds_61 (x : (L_impl_DoCmds_61).X) := st_impl_DoCmds_61 x.1.2.2.2.1.1 x.1.2.2.2.2.1.1 x.1.2.2.2.2.2.1.1 x.2.1.1.1 x.2.1.1.2.1 x.2.2.1 x.2.2.2.1
def em_impl_DoCmds_61 (x : (S_impl_DoCmds_61).X) : (L_impl_DoCmds_61).X := ((((), ()), ((), ()), ((), ()), (x.1.2.2.2.1.1, ()), (x.1.2.2.2.2.1.1, ()), (0, ()), ()), ((x.2.1.1.1, x.2.1.1.2.1, ()), ()), (x.2.2.1, x.2.2.2.1, ()))
noncomputable def c_impl_DoCmds_61 : Code := (subN B_impl_DoCmds 64 244).getD .skip
theorem a_impl_DoCmds_61 : subN B_impl_DoCmds 64 61 = some (.block 0 (.loop c_impl_DoCmds_61)) := by kernel_rfl
theorem r_impl_DoCmds_61 (x : (L_impl_DoCmds_61).X) : roundT ⟨E_impl_DoCmds, 42, D_impl_DoCmds_0⟩ 0 c_impl_DoCmds_61 244 L_impl_DoCmds_61 O_impl_DoCmds_61 Z_impl_DoCmds_61 x = stx_impl_DoCmds_61 x := by kernel_rfl
def fu_impl_DoCmds_61 (x : (S_impl_DoCmds_61).X) : Nat := 18446744073709551616
noncomputable def F_impl_DoCmds_61 (x : (S_impl_DoCmds_61).X) : Option ((O_impl_DoCmds_61).X ⊕ (Z_impl_DoCmds_61).X) := loopN stx_impl_DoCmds_61 (fu_impl_DoCmds_61 x) (em_impl_DoCmds_61 x)
noncomputable def sg_impl_DoCmds_61 : Seg := ⟨S_impl_DoCmds_61, O_impl_DoCmds_61, Z_impl_DoCmds_61, F_impl_DoCmds_61⟩
noncomputable def D_impl_DoCmds_1 : Nat → Option Seg := fun q => bif Nat.beq q 61 then some sg_impl_DoCmds_61 else D_impl_DoCmds_0 q
theorem fr_impl_DoCmds_1 : FrOk Try.prog ⟨E_impl_DoCmds, 42, D_impl_DoCmds_1⟩ B_impl_DoCmds := (fr_impl_DoCmds_0).loop (sg := sg_impl_DoCmds_61) L_impl_DoCmds_61 em_impl_DoCmds_61 (by decide) a_impl_DoCmds_61 stx_impl_DoCmds_61 fu_impl_DoCmds_61 (by decide) (fun _ => rfl) (fun x r _ h => h) r_impl_DoCmds_61
abbrev I_impl_DoCmds : List Par := [.rd tG, .rd tL, .rd tCs]
abbrev U_impl_DoCmds : List OT := [⟨false, tL, (.ow .fz)⟩, ⟨false, tNs, (.ow (.pr .fz (.pr .fz (.ow .fz))))⟩]
noncomputable def raw_impl_DoCmds (a0 : dG) (a1 : List Int) (a2 : List dC) : Option (ResD U_impl_DoCmds × MutD I_impl_DoCmds) :=
  let r1 := n_impl_copyInts a1
  bif (cutok 0 (bif (ltb 400 (a2.length : Int)) then 400 else (a2.length : Int)) a2.length) then
    segM (F_impl_DoCmds_61 ((((), ()), ((), ()), ((), ()), (((a2.drop (0 : Int).toNat).take ((bif (ltb 400 (a2.length : Int)) then 400 else (a2.length : Int)) - 0).toNat), ()), ((((a2.drop (0 : Int).toNat).take ((bif (ltb 400 (a2.length : Int)) then 400 else (a2.length : Int)) - 0).toNat).length : Int), ()), ((), ()), ()), ((a0.1, a0.2, ()), ()), (r1, ([] : List dN), ()))) (fun y3 =>
      some ((y3.2.2.1, y3.2.2.2.1, ()), ())) (fun y3 =>
      none)
  else none
theorem e_impl_DoCmds (x : InD I_impl_DoCmds) : execF ⟨E_impl_DoCmds, 42, D_impl_DoCmds_1⟩ Try.f17.results.toList B_impl_DoCmds I_impl_DoCmds U_impl_DoCmds x = raw_impl_DoCmds x.1 x.2.1 x.2.2.1 := by kernel_rfl
theorem ok0_impl_DoCmds : ConOk Try.prog 17 ⟨I_impl_DoCmds, U_impl_DoCmds, fun x => raw_impl_DoCmds x.1 x.2.1 x.2.2.1⟩ := conOk_exec (fr_impl_DoCmds_1) Try.func17 (by kernel_rfl) (by kernel_rfl) Try.ntmps17.symm (by decide) (fun x r h => (e_impl_DoCmds x).trans h)
noncomputable def n_impl_DoCmds (a0 : dG) (a1 : List Int) (a2 : List dC) : List Int × List dN := doAll a0 a1 a2
theorem nn_impl_DoCmds (a0 : dG) (a1 : List Int) (a2 : List dC) (hk : InOk I_impl_DoCmds (a0, a1, a2, ())) : raw_impl_DoCmds a0 a1 a2 = (fun n => some ((n.1, n.2, ()), ())) (n_impl_DoCmds a0 a1 a2) := by
  have hc : a2.length * 56 ≤ 2 ^ 47 := hk.2.2.1.1
  have hm : (bif (ltb 400 (a2.length : Int)) then 400 else (a2.length : Int)) = min 400 (a2.length : Int) := by
    by_cases h : 400 < (a2.length : Int)
    · rw [ltb_t h, bif_t]; omega
    · rw [ltb_f (by omega), bif_f]; omega
  have ht : ((a2.drop (0 : Int).toNat).take (min 400 (a2.length : Int) - 0).toNat) = a2.take 400 := by
    show (a2.drop 0).take _ = _
    rw [List.drop_zero]
    by_cases h : a2.length ≤ 400
    · rw [List.take_of_length_le (by omega), List.take_of_length_le h]
    · rw [show (min 400 (a2.length : Int) - 0).toNat = 400 by omega]
  have hT : (a2.take 400).length ≤ 400 := by rw [List.length_take]; omega
  have hl : F_impl_DoCmds_61 ((((), ()), ((), ()), ((), ()), (a2.take 400, ()), (((a2.take 400).length : Int), ()), ((), ()), ()), ((a0.1, a0.2, ()), ()), (a1, ([] : List dN), ())) = some (.inl ((((), ()), ((), ()), ()), (), ((doAll a0 a1 a2).1, (doAll a0 a1 a2).2, ()))) :=
    loopN_fold (step := stx_impl_DoCmds_61) (a2.take 400) ((0, 0, 0, 0, []) : dC) (fun (i : Nat) (s : List Int × List dN) => ((((), ()), ((), ()), ((), ()), (a2.take 400, ()), (((a2.take 400).length : Int), ()), ((i : Int), ()), ()), ((a0.1, a0.2, ()), ()), (s.1, s.2, ()))) (doOne a0) (fun i s => s.2.length = i) (fun s => .inl ((((), ()), ((), ()), ()), (), (s.1, s.2, ())))
      (fun i s hi hs => by
        refine ⟨?_, by show (s.2 ++ [_]).length = i + 1; rw [List.length_append, hs]; rfl⟩
        simp only [stx_impl_DoCmds_61, st_impl_DoCmds_61, ltb_t (show (i : Int) < (a2.take 400).length by omega), inb_nat hi, nth_nat, cond_true, wr (show -9223372036854775808 ≤ (i : Int) + 1 by omega) (by omega), Int.natCast_add, Int.natCast_one, pr_eta, n_impl_DoCmd]
        rw [show apok s.2.length ([(pDo a0 s.1 ((a2.take 400).getD i (0, 0, 0, 0, []))).2] : List dN).length 40 = true from apok_iff.2 (by rw [hs]; simp only [List.length_cons, List.length_nil]; omega)]
        rfl)
      (fun s hs => by simp only [stx_impl_DoCmds_61, st_impl_DoCmds_61, ltb_f (Int.le_refl _), cond_false]) (a1, []) rfl _ (by show _ < 18446744073709551616; omega)
  unfold raw_impl_DoCmds n_impl_DoCmds
  simp only [hm, ht, n_impl_copyInts, cutok_iff.2 (show (0 : Int) ≤ 0 ∧ 0 ≤ min 400 (a2.length : Int) ∧ min 400 (a2.length : Int) ≤ a2.length by omega), cond_true]
  rw [hl]; rfl
noncomputable def con_impl_DoCmds : Con := ⟨I_impl_DoCmds, U_impl_DoCmds, fun x => (fun n => some ((n.1, n.2, ()), ())) (n_impl_DoCmds x.1 x.2.1 x.2.2.1)⟩
theorem ok_impl_DoCmds : ConOk Try.prog 17 con_impl_DoCmds := (ok0_impl_DoCmds).mono (fun x r hk h => (nn_impl_DoCmds x.1 x.2.1 x.2.2.1 hk).trans h)
end

/-! laws_at -/
section
noncomputable def B_laws_at : Code := (Try.f18.body).getD .skip
noncomputable def E_laws_at : Env := envOf TT [] []
theorem fr_laws_at_0 : FrOk Try.prog ⟨E_laws_at, 21, fun _ => none⟩ B_laws_at := frOk_base mixed tt_ok trivial
noncomputable def D_laws_at_0 : Nat → Option Seg := fun _ => none
abbrev I_laws_at : List Par := [.rd tYs, .rd tI]
abbrev U_laws_at : List OT := [⟨false, tI, .fz⟩]
noncomputable def raw_laws_at (a0 : List Int) (a1 : Int) : Option (ResD U_laws_at × MutD I_laws_at) :=
  bif (ltb a1 (a0.length : Int)) then
    bif (inb a1 a0.length) then
      some (((IntKind.i64.wrap (nth a0 a1 0)), ()), ())
    else none
  else
    some ((((IntKind.i64.wrap ((IntKind.i64.wrap (a1 * 31)) + (IntKind.i64.wrap ((a0.length : Int) * 7)))).tmod 256), ()), ())
theorem e_laws_at (x : InD I_laws_at) : execF ⟨E_laws_at, 21, D_laws_at_0⟩ Try.f18.results.toList B_laws_at I_laws_at U_laws_at x = raw_laws_at x.1 x.2.1 := by kernel_rfl
theorem ok0_laws_at : ConOk Try.prog 18 ⟨I_laws_at, U_laws_at, fun x => raw_laws_at x.1 x.2.1⟩ := conOk_exec (fr_laws_at_0) Try.func18 (by kernel_rfl) (by kernel_rfl) Try.ntmps18.symm (by decide) (fun x r h => (e_laws_at x).trans h)
noncomputable def con_laws_at : Con := ⟨I_laws_at, U_laws_at, fun x => raw_laws_at x.1 x.2.1⟩
theorem ok_laws_at : ConOk Try.prog 18 con_laws_at := ok0_laws_at
/-- a byte of a code, or a number that follows from its place -/
def atV (a0 : List Int) (i : Int) : Int := bif ltb i (a0.length : Int) then nth a0 i 0 else (i * 31 + (a0.length : Int) * 7).tmod 256
theorem dr_at {a0 : List Int} {i : Int} (hb : a0.length ≤ 140737488355328) (hx : ∀ x ∈ a0, 0 ≤ x ∧ x ≤ 255) (i0 : 0 ≤ i) (i1 : i ≤ 1000) : raw_laws_at a0 i = some ((atV a0 i, ()), ()) ∧ 0 ≤ atV a0 i ∧ atV a0 i ≤ 255 := by
  unfold raw_laws_at atV
  by_cases h : i < (a0.length : Int)
  · have hi : inb i a0.length = true := inb_iff.2 ⟨i0, h⟩
    have hr := nth_mem (P := fun x : Int => 0 ≤ x ∧ x ≤ 255) (d := 0) hi hx
    rw [ltb_t h, hi, wr (show -9223372036854775808 ≤ nth a0 i 0 by omega) (by omega)]
    exact ⟨rfl, hr⟩
  · rw [ltb_f (by omega), cond_false, cond_false, wr (show -9223372036854775808 ≤ i * 31 by omega) (by omega), wr (show -9223372036854775808 ≤ (a0.length : Int) * 7 by omega) (by omega), wr (show -9223372036854775808 ≤ i * 31 + (a0.length : Int) * 7 by omega) (by omega)]
    refine ⟨rfl, Int.tmod_nonneg _ (by omega), ?_⟩
    have := Int.tmod_lt_of_pos (i * 31 + (a0.length : Int) * 7) (show (0 : Int) < 256 by omega)
    omega
theorem code_bytes {a0 : List Int} (h : Ty.Ok (.sl (.int .u8)) a0) : ∀ x ∈ a0, 0 ≤ x ∧ x ≤ 255 := fun x hx => h.2 x hx
end

/-! laws_sameInts -/
section
noncomputable def B_laws_sameInts : Code := (Try.f19.body).getD .skip
noncomputable def E_laws_sameInts : Env := envOf TT [] []
theorem fr_laws_sameInts_0 : FrOk Try.prog ⟨E_laws_sameInts, 26, fun _ => none⟩ B_laws_sameInts := frOk_base mixed tt_ok trivial
noncomputable def D_laws_sameInts_0 : Nat → Option Seg := fun _ => none
def L_laws_sameInts_29 : Shape := ⟨[(0, false, [.br tI]), (1, false, [.br tI]), (5, false, [.int .i64])], [], []⟩
def S_laws_sameInts_29 : Shape := ⟨[(0, false, [.br tI]), (1, false, [.br tI]), (5, false, [.ci .i64 0])], [], []⟩
def O_laws_sameInts_29 : Shape := ⟨[], [], []⟩
def Z_laws_sameInts_29 : Shape := ⟨[(4, false, [.bool])], [], []⟩
noncomputable def st_laws_sameInts_29 (v0 v1 : List Int) (v2 : Int) : Option ((L_laws_sameInts_29).X ⊕ ((O_laws_sameInts_29).X ⊕ (Z_laws_sameInts_29).X)) :=
  bif (ltb v2 (v0.length : Int)) then
    bif (inb v2 v0.length) then
      bif (inb v2 v1.length) then
        bif ((nth v0 v2 0) != (nth v1 v2 0)) then
          some (.inr (.inr (((false, ()), ()), (), ())))
        else
          some (.inl (((v0, ()), (v1, ()), ((IntKind.i64.wrap (v2 + 1)), ()), ()), (), ()))
      else none
    else none
  else
    some (.inr (.inl ((), (), ())))
noncomputable def stx_laws_sameInts_29 (x : (L_laws_sameInts_29).X) := st_laws_sameInts_29 x.1.1.1 x.1.2.1.1 x.1.2.2.1.1
def em_laws_sameInts_29 (x : (S_laws_sameInts_29).X) : (L_laws_sameInts_29).X := (((x.1.1.1, ()), (x.1.2.1.1, ()), (0, ()), ()), (), ())
noncomputable def c_laws_sameInts_29 : Code := (subN B_laws_sameInts 64 116).getD .skip
theorem a_laws_sameInts_29 : subN B_laws_sameInts 64 29 = some (.block 0 (.loop c_laws_sameInts_29)) := by kernel_rfl
theorem r_laws_sameInts_29 (x : (L_laws_sameInts_29).X) : roundT ⟨E_laws_sameInts, 26, D_laws_sameInts_0⟩ 0 c_laws_sameInts_29 116 L_laws_sameInts_29 O_laws_sameInts_29 Z_laws_sameInts_29 x = stx_laws_sameInts_29 x := by kernel_rfl
def fu_laws_sameInts_29 (x : (S_laws_sameInts_29).X) : Nat := 18446744073709551616
noncomputable def F_laws_sameInts_29 (x : (S_laws_sameInts_29).X) : Option ((O_laws_sameInts_29).X ⊕ (Z_laws_sameInts_29).X) := loopN stx_laws_sameInts_29 (fu_laws_sameInts_29 x) (em_laws_sameInts_29 x)
noncomputable def sg_laws_sameInts_29 : Seg := ⟨S_laws_sameInts_29, O_laws_sameInts_29, Z_laws_sameInts_29, F_laws_sameInts_29⟩
noncomputable def D_laws_sameInts_1 : Nat → Option Seg := fun q => bif Nat.beq q 29 then some sg_laws_sameInts_29 else D_laws_sameInts_0 q
theorem fr_laws_sameInts_1 : FrOk Try.prog ⟨E_laws_sameInts, 26, D_laws_sameInts_1⟩ B_laws_sameInts := (fr_laws_sameInts_0).loop (sg := sg_laws_sameInts_29) L_laws_sameInts_29 em_laws_sameInts_29 (by decide) a_laws_sameInts_29 stx_laws_sameInts_29 fu_laws_sameInts_29 (by decide) (fun _ => rfl) (fun x r _ h => h) r_laws_sameInts_29
abbrev I_laws_sameInts : List Par := [.rd tL, .rd tL]
abbrev U_laws_sameInts : List OT := [⟨false, tB, .fz⟩]
noncomputable def raw_laws_sameInts (a0 a1 : List Int) : Option (ResD U_laws_sameInts × MutD I_laws_sameInts) :=
  bif ((a0.length : Int) != (a1.length : Int)) then
    some ((false, ()), ())
  else
    segM (F_laws_sameInts_29 (((a0, ()), (a1, ()), ((), ()), ()), (), ())) (fun y0 =>
      some ((true, ()), ())) (fun y0 =>
      some ((y0.1.1.1, ()), ()))
theorem e_laws_sameInts (x : InD I_laws_sameInts) : execF ⟨E_laws_sameInts, 26, D_laws_sameInts_1⟩ Try.f19.results.toList B_laws_sameInts I_laws_sameInts U_laws_sameInts x = raw_laws_sameInts x.1 x.2.1 := by kernel_rfl
theorem ok0_laws_sameInts : ConOk Try.prog 19 ⟨I_laws_sameInts, U_laws_sameInts, fun x => raw_laws_sameInts x.1 x.2.1⟩ := conOk_exec (fr_laws_sameInts_1) Try.func19 (by kernel_rfl) (by kernel_rfl) Try.ntmps19.symm (by decide) (fun x r h => (e_laws_sameInts x).trans h)
noncomputable def n_laws_sameInts (a0 a1 : List Int) : Bool := decide (a0 = a1)
theorem nn_laws_sameInts (a0 a1 : List Int) (hk : InOk I_laws_sameInts (a0, a1, ())) : raw_laws_sameInts a0 a1 = (fun n => some ((n, ()), ())) (n_laws_sameInts a0 a1) := by
  have hb : a0.length * 8 ≤ 2 ^ 47 := hk.1.1
  have hl : a0.length = a1.length → F_laws_sameInts_29 (((a0, ()), (a1, ()), ((), ()), ()), (), ()) = some (bif (List.range a0.length).any (fun i => a0.getD i 0 != a1.getD i 0) then .inr (((false, ()), ()), (), ()) else .inl ((), (), ())) := fun hL =>
    loopN_all (step := stx_laws_sameInts_29) (fun i => (((a0, ()), (a1, ()), ((i : Int), ()), ()), (), ())) a0.length (fun i => a0.getD i 0 != a1.getD i 0) _ _ (fun i hi => by
      simp only [stx_laws_sameInts_29, st_laws_sameInts_29, inb_nat hi, inb_nat (hL ▸ hi), nth_nat, ltb_t (show (i : Int) < a0.length by omega), cond_true, wr (show -9223372036854775808 ≤ (i : Int) + 1 by omega) (by omega), Int.natCast_add, Int.natCast_one]
      cases (a0.getD i 0 != a1.getD i 0) <;> rfl) (by simp only [stx_laws_sameInts_29, st_laws_sameInts_29, ltb_f (Int.le_refl _), cond_false]) _ (by show _ < 18446744073709551616; omega)
  unfold raw_laws_sameInts n_laws_sameInts
  by_cases h : a0.length = a1.length
  · rw [show ((a0.length : Int) != (a1.length : Int)) = false by simp [h], bif_f, hl h]
    by_cases e : a0 = a1
    · subst e
      have : (List.range a0.length).any (fun i => a0.getD i 0 != a0.getD i 0) = false := by simp
      rw [this, decide_eq_true rfl]
      rfl
    · have : (List.range a0.length).any (fun i => a0.getD i 0 != a1.getD i 0) = true := by
        rcases Bool.eq_false_or_eq_true ((List.range a0.length).any (fun i => a0.getD i 0 != a1.getD i 0)) with h2 | h2
        · exact h2
        · refine absurd (List.ext_getElem h fun i h3 h4 => ?_) e
          rw [List.any_eq_false] at h2
          have := h2 i (List.mem_range.2 h3)
          simpa [h3, h4] using this
      rw [this, decide_eq_false e]
      rfl
  · rw [show ((a0.length : Int) != (a1.length : Int)) = true from bne_iff_ne.2 (by omega), bif_t, decide_eq_false (fun e => h (congrArg _ e))]
theorem sameInts_refl (a : List Int) : n_laws_sameInts a a = true := by unfold n_laws_sameInts; simp
noncomputable def con_laws_sameInts : Con := ⟨I_laws_sameInts, U_laws_sameInts, fun x => (fun n => some ((n, ()), ())) (n_laws_sameInts x.1 x.2.1)⟩
theorem ok_laws_sameInts : ConOk Try.prog 19 con_laws_sameInts := (ok0_laws_sameInts).mono (fun x r hk h => (nn_laws_sameInts x.1 x.2.1 hk).trans h)
end

/-! laws_sameAns -/
section
noncomputable def B_laws_sameAns : Code := (Try.f25.body).getD .skip
noncomputable def E_laws_sameAns : Env := envOf TT [(19, con_laws_sameInts)] []
theorem fr_laws_sameAns_0 : FrOk Try.prog ⟨E_laws_sameAns, 24, fun _ => none⟩ B_laws_sameAns := frOk_base mixed tt_ok ⟨ok_laws_sameInts, trivial⟩
noncomputable def D_laws_sameAns_0 : Nat → Option Seg := fun _ => none
abbrev I_laws_sameAns : List Par := [.rd tN, .rd tN]
abbrev U_laws_sameAns : List OT := [⟨false, tB, .fz⟩]
noncomputable def raw_laws_sameAns (a0 a1 : dN) : Option (ResD U_laws_sameAns × MutD I_laws_sameAns) :=
  bif (a0.1 == a1.1) then
    bif (a0.2.1 == a1.2.1) then
      let r1 := n_laws_sameInts a0.2.2 a1.2.2
      some ((r1, ()), ())
    else
      some ((false, ()), ())
  else
    some ((false, ()), ())
theorem e_laws_sameAns (x : InD I_laws_sameAns) : execF ⟨E_laws_sameAns, 24, D_laws_sameAns_0⟩ Try.f25.results.toList B_laws_sameAns I_laws_sameAns U_laws_sameAns x = raw_laws_sameAns x.1 x.2.1 := by kernel_rfl
theorem ok0_laws_sameAns : ConOk Try.prog 25 ⟨I_laws_sameAns, U_laws_sameAns, fun x => raw_laws_sameAns x.1 x.2.1⟩ := conOk_exec (fr_laws_sameAns_0) Try.func25 (by kernel_rfl) (by kernel_rfl) Try.ntmps25.symm (by decide) (fun x r h => (e_laws_sameAns x).trans h)
noncomputable def n_laws_sameAns (a0 a1 : dN) : Bool :=
  bif (a0.1 == a1.1) then
    bif (a0.2.1 == a1.2.1) then
      let r1 := n_laws_sameInts a0.2.2 a1.2.2
      r1
    else
      false
  else
    false
noncomputable def con_laws_sameAns : Con := ⟨I_laws_sameAns, U_laws_sameAns, fun x => (fun n => some ((n, ()), ())) (n_laws_sameAns x.1 x.2.1)⟩
theorem nn_laws_sameAns (a0 a1 : dN) : raw_laws_sameAns a0 a1 = (fun n => some ((n, ()), ())) (n_laws_sameAns a0 a1) := bif_ty (p := fun (n : Bool) => ((n, ()), ())) (bif_some (p := fun (n : Bool) => ((n, ()), ())) (bif_some (p := fun (n : Bool) => ((n, ()), ())) rfl rfl) rfl)
theorem ok_laws_sameAns : ConOk Try.prog 25 con_laws_sameAns := (ok0_laws_sameAns).mono (fun x r _ h => (nn_laws_sameAns x.1 x.2.1).trans h)
theorem sameAns_refl (a : dN) : n_laws_sameAns a a = true := by unfold n_laws_sameAns; simp only [beq_self_eq_true, cond_true, sameInts_refl]
end

/-! laws_sameAnss -/
section
noncomputable def B_laws_sameAnss : Code := (Try.f20.body).getD .skip
noncomputable def E_laws_sameAnss : Env := envOf TT [(25, con_laws_sameAns)] []
theorem fr_laws_sameAnss_0 : FrOk Try.prog ⟨E_laws_sameAnss, 27, fun _ => none⟩ B_laws_sameAnss := frOk_base mixed tt_ok ⟨ok_laws_sameAns, trivial⟩
noncomputable def D_laws_sameAnss_0 : Nat → Option Seg := fun _ => none
def L_laws_sameAnss_29 : Shape := ⟨[(0, false, [.br tN]), (1, false, [.br tN]), (5, false, [.int .i64])], [], []⟩
def S_laws_sameAnss_29 : Shape := ⟨[(0, false, [.br tN]), (1, false, [.br tN]), (5, false, [.ci .i64 0])], [], []⟩
def O_laws_sameAnss_29 : Shape := ⟨[], [], []⟩
def Z_laws_sameAnss_29 : Shape := ⟨[(4, false, [.bool])], [], []⟩
abbrev mk_laws_sameAnss_29 (v0 v1 : List dN) (v2 : Int) : (L_laws_sameAnss_29).X := (((v0, ()), (v1, ()), (v2, ()), ()), (), ())
abbrev ms_laws_sameAnss_29 (v0 v1 : List dN) : (S_laws_sameAnss_29).X := (((v0, ()), (v1, ()), ((), ()), ()), (), ())
abbrev mo_laws_sameAnss_29  : (O_laws_sameAnss_29).X := ((), (), ())
noncomputable def st_laws_sameAnss_29 (v0 v1 : List dN) (v2 : Int) : Option ((L_laws_sameAnss_29).X ⊕ ((O_laws_sameAnss_29).X ⊕ (Z_laws_sameAnss_29).X)) :=
  bif (ltb v2 (v0.length : Int)) then
    bif (inb v2 v0.length) then
      bif (inb v2 v1.length) then
        let r2 := n_laws_sameAns ((nth v0 v2 (0, 0, [])).1, ((nth v0 v2 (0, 0, [])).2)) ((nth v1 v2 (0, 0, [])).1, ((nth v1 v2 (0, 0, [])).2))
        bif (!r2) then
          some (.inr (.inr (((false, ()), ()), (), ())))
        else
          some (.inl (((v0, ()), (v1, ()), ((IntKind.i64.wrap (v2 + 1)), ()), ()), (), ()))
      else none
    else none
  else
    some (.inr (.inl ((), (), ())))
noncomputable def stx_laws_sameAnss_29 (x : (L_laws_sameAnss_29).X) := st_laws_sameAnss_29 x.1.1.1 x.1.2.1.1 x.1.2.2.1.1
def em_laws_sameAnss_29 (x : (S_laws_sameAnss_29).X) : (L_laws_sameAnss_29).X := (((x.1.1.1, ()), (x.1.2.1.1, ()), (0, ()), ()), (), ())
noncomputable def c_laws_sameAnss_29 : Code := (subN B_laws_sameAnss 64 116).getD .skip
theorem a_laws_sameAnss_29 : subN B_laws_sameAnss 64 29 = some (.block 0 (.loop c_laws_sameAnss_29)) := by kernel_rfl
theorem r_laws_sameAnss_29 (x : (L_laws_sameAnss_29).X) : roundT ⟨E_laws_sameAnss, 27, D_laws_sameAnss_0⟩ 0 c_laws_sameAnss_29 116 L_laws_sameAnss_29 O_laws_sameAnss_29 Z_laws_sameAnss_29 x = stx_laws_sameAnss_29 x := by kernel_rfl
def fu_laws_sameAnss_29 (x : (S_laws_sameAnss_29).X) : Nat := 18446744073709551616
noncomputable def F_laws_sameAnss_29 (x : (S_laws_sameAnss_29).X) : Option ((O_laws_sameAnss_29).X ⊕ (Z_laws_sameAnss_29).X) := loopN stx_laws_sameAnss_29 (fu_laws_sameAnss_29 x) (em_laws_sameAnss_29 x)
noncomputable def sg_laws_sameAnss_29 : Seg := ⟨S_laws_sameAnss_29, O_laws_sameAnss_29, Z_laws_sameAnss_29, F_laws_sameAnss_29⟩
noncomputable def D_laws_sameAnss_1 : Nat → Option Seg := fun q => bif Nat.beq q 29 then some sg_laws_sameAnss_29 else D_laws_sameAnss_0 q
theorem fr_laws_sameAnss_1 : FrOk Try.prog ⟨E_laws_sameAnss, 27, D_laws_sameAnss_1⟩ B_laws_sameAnss := (fr_laws_sameAnss_0).loop (sg := sg_laws_sameAnss_29) L_laws_sameAnss_29 em_laws_sameAnss_29 (by decide) a_laws_sameAnss_29 stx_laws_sameAnss_29 fu_laws_sameAnss_29 (by decide) (fun _ => rfl) (fun x r _ h => h) r_laws_sameAnss_29
abbrev I_laws_sameAnss : List Par := [.rd tNs, .rd tNs]
abbrev U_laws_sameAnss : List OT := [⟨false, tB, .fz⟩]
noncomputable def raw_laws_sameAnss (a0 a1 : List dN) : Option (ResD U_laws_sameAnss × MutD I_laws_sameAnss) :=
  bif ((a0.length : Int) != (a1.length : Int)) then
    some ((false, ()), ())
  else
    segM (F_laws_sameAnss_29 (((a0, ()), (a1, ()), ((), ()), ()), (), ())) (fun y2 =>
      some ((true, ()), ())) (fun y2 =>
      some ((y2.1.1.1, ()), ()))
theorem e_laws_sameAnss (x : InD I_laws_sameAnss) : execF ⟨E_laws_sameAnss, 27, D_laws_sameAnss_1⟩ Try.f20.results.toList B_laws_sameAnss I_laws_sameAnss U_laws_sameAnss x = raw_laws_sameAnss x.1 x.2.1 := by kernel_rfl
theorem ok0_laws_sameAnss : ConOk Try.prog 20 ⟨I_laws_sameAnss, U_laws_sameAnss, fun x => raw_laws_sameAnss x.1 x.2.1⟩ := conOk_exec (fr_laws_sameAnss_1) Try.func20 (by kernel_rfl) (by kernel_rfl) Try.ntmps20.symm (by decide) (fun x r h => (e_laws_sameAnss x).trans h)
noncomputable def con_laws_sameAnss : Con := ⟨I_laws_sameAnss, U_laws_sameAnss, fun x => raw_laws_sameAnss x.1 x.2.1⟩
theorem ok_laws_sameAnss : ConOk Try.prog 20 con_laws_sameAnss := ok0_laws_sameAnss
theorem same_anss (l : List dN) (h : l.length ≤ 1000000000) : raw_laws_sameAnss l l = some ((true, ()), ()) := by
  have l1 : F_laws_sameAnss_29 (ms_laws_sameAnss_29 l l) = some (.inl mo_laws_sameAnss_29) :=
    loopN_rng (step := stx_laws_sameAnss_29) l.length (fun i (_ : Unit) => mk_laws_sameAnss_29 l l i) (fun _ _ => ()) (fun _ _ => True) (fun _ => .inl mo_laws_sameAnss_29) (fun i s hi _ => ⟨by
      simp only [stx_laws_sameAnss_29, mk_laws_sameAnss_29, st_laws_sameAnss_29, ltb_t (show (i : Int) < l.length by omega), cond_true, wr (show -9223372036854775808 ≤ (i : Int) + 1 by omega) (by omega), Int.natCast_add, Int.natCast_one, Int.toNat_natCast, inb_nat hi, pr_eta, sameAns_refl, Bool.not_true, cond_true, cond_false], trivial⟩) (fun s _ => by simp only [stx_laws_sameAnss_29, mk_laws_sameAnss_29, st_laws_sameAnss_29, ltb_f (Int.le_refl _), cond_false]) () trivial 18446744073709551616 (by omega)
  unfold raw_laws_sameAnss
  rw [bne_self_eq_false, cond_false]
  exact (congrArg (fun z => segM z _ _) l1).trans rfl
end

/-! spec_DrawCmds -/
section
noncomputable def B_spec_DrawCmds : Code := (Try.f21.body).getD .skip
noncomputable def E_spec_DrawCmds : Env := envOf TT [(33, con_spec_l1New), (51, con_spec_l3Geo), (52, con_spec_l13Draw)] []
theorem fr_spec_DrawCmds_0 : FrOk Try.prog ⟨E_spec_DrawCmds, 20, fun _ => none⟩ B_spec_DrawCmds := frOk_base mixed tt_ok ⟨ok_spec_l1New, ok_spec_l3Geo, ok_spec_l13Draw, trivial⟩
noncomputable def D_spec_DrawCmds_0 : Nat → Option Seg := fun _ => none
abbrev I_spec_DrawCmds : List Par := [.kp tYs .fz]
abbrev U_spec_DrawCmds : List OT := [⟨false, tG, .fz⟩, ⟨false, tC, .fz⟩, ⟨false, tC, .fz⟩]
noncomputable def raw_spec_DrawCmds (a0 : List Int) : Option (ResD U_spec_DrawCmds × MutD I_spec_DrawCmds) :=
  let r1 := n_spec_l1New a0
  bnd (raw_spec_l3Geo r1) fun r2 =>
  bnd (raw_spec_l13Draw r2.2.1 r2.1.1) fun r3 =>
  bnd (raw_spec_l13Draw r3.2.1 r2.1.1) fun r4 =>
  some ((r2.1.1, r3.1.1, r4.1.1, ()), ())
theorem e_spec_DrawCmds (x : InD I_spec_DrawCmds) : execF ⟨E_spec_DrawCmds, 20, D_spec_DrawCmds_0⟩ Try.f21.results.toList B_spec_DrawCmds I_spec_DrawCmds U_spec_DrawCmds x = raw_spec_DrawCmds x.1 := by kernel_rfl
theorem ok0_spec_DrawCmds : ConOk Try.prog 21 ⟨I_spec_DrawCmds, U_spec_DrawCmds, fun x => raw_spec_DrawCmds x.1⟩ := conOk_exec (fr_spec_DrawCmds_0) Try.func21 (by kernel_rfl) (by kernel_rfl) Try.ntmps21.symm (by decide) (fun x r h => (e_spec_DrawCmds x).trans h)
noncomputable def con_spec_DrawCmds : Con := ⟨I_spec_DrawCmds, U_spec_DrawCmds, fun x => raw_spec_DrawCmds x.1⟩
theorem ok_spec_DrawCmds : ConOk Try.prog 21 con_spec_DrawCmds := ok0_spec_DrawCmds
theorem dr_DrawCmds (a0 : List Int) (hb : a0.length ≤ 140737488355328) : ∃ (g : Int × Int) (a b : Int × Int × Int × Int × List Int), raw_spec_DrawCmds a0 = some ((g, a, b, ()), ()) ∧ n_spec_GeoOk g = true ∧ CmdOk g a ∧ CmdOk g b := by
  unfold raw_spec_DrawCmds
  obtain ⟨g, u1, e1, q1, d1⟩ := dr_geo _ (dr_new a0 hb)
  obtain ⟨a, u2, e2, q2, d2⟩ := dr_l13Draw u1 g d1 q1
  obtain ⟨b, u3, e3, q3, d3⟩ := dr_l13Draw u2 g d2 q1
  simp only [e1, e2, e3, bnd_some]
  exact ⟨g, a, b, rfl, q1, q2, q3⟩
end
end Go.Tf
