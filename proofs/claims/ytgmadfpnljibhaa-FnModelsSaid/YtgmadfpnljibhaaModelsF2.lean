/- Functions of the program, and what they come to. -/
import Derived.Test.YtgmadfpnljibhaaModelsF1
namespace Go.Tf
open Go.Proofs
set_option synthInstance.maxHeartbeats 400000
set_option synthInstance.maxSize 10000
set_option linter.unusedVariables false
set_option linter.unusedSimpArgs false
set_option maxRecDepth 100000
/-! spec_l1Any -/
section
noncomputable def B_spec_l1Any : Code := (Try.f87.body).getD .skip
noncomputable def E_spec_l1Any : Env := envOf TT [(47, con_spec_l1Below), (85, con_spec_l1Int), (130, con_spec_l1Sec)] []
theorem fr_spec_l1Any_0 : FrOk Try.prog ⟨E_spec_l1Any, 23, fun _ => none⟩ B_spec_l1Any := frOk_base mixed tt_ok ⟨ok_spec_l1Below, ok_spec_l1Int, ok_spec_l1Sec, trivial⟩
noncomputable def D_spec_l1Any_0 : Nat → Option Seg := fun _ => none
abbrev I_spec_l1Any : List Par := [.pt tU .fz]
abbrev U_spec_l1Any : List OT := [⟨false, tL, (.ow .fz)⟩]
noncomputable def raw_spec_l1Any (a0 : dU) : Option (ResD U_spec_l1Any × MutD I_spec_l1Any) :=
  bnd (raw_spec_l1Sec a0) fun r1 =>
  bnd (raw_spec_l1Below r1.2.1 10) fun r2 =>
  bif (r2.1.1 == 0) then
    bnd (raw_spec_l1Int r2.2.1 ([(-1), 65536] : List Int)) fun r3 =>
    bif (apok r1.1.1.length ([r3.1.1] : List Int).length 8) then
      some (((r1.1.1 ++ ([r3.1.1] : List Int)), ()), (r3.2.1, ()))
    else none
  else
    bif (r2.1.1 == 1) then
      bnd (raw_spec_l1Below r2.2.1 2) fun r4 =>
      bif (mkok (IntKind.i64.wrap (12 + r4.1.1)) 8) then
        some (((List.replicate ((IntKind.i64.wrap (12 + r4.1.1))).toNat (0 : Int)), ()), (r4.2.1, ()))
      else none
    else
      some ((r1.1.1, ()), (r2.2.1, ()))
theorem e_spec_l1Any (x : InD I_spec_l1Any) : execF ⟨E_spec_l1Any, 23, D_spec_l1Any_0⟩ Try.f87.results.toList B_spec_l1Any I_spec_l1Any U_spec_l1Any x = raw_spec_l1Any x.1 := by kernel_rfl
theorem ok0_spec_l1Any : ConOk Try.prog 87 ⟨I_spec_l1Any, U_spec_l1Any, fun x => raw_spec_l1Any x.1⟩ := conOk_exec (fr_spec_l1Any_0) Try.func87 (by kernel_rfl) (by kernel_rfl) Try.ntmps87.symm (by decide) (fun x r h => (e_spec_l1Any x).trans h)
noncomputable def con_spec_l1Any : Con := ⟨I_spec_l1Any, U_spec_l1Any, fun x => raw_spec_l1Any x.1⟩
theorem ok_spec_l1Any : ConOk Try.prog 87 con_spec_l1Any := ok0_spec_l1Any
theorem dr_l1Any (u : dU) (h : DrOk u) : ∃ (l : List Int) (u' : dU), raw_spec_l1Any u = some ((l, ()), (u', ())) ∧ l.length ≤ 14 ∧ DrOk u' := by
  unfold raw_spec_l1Any
  obtain ⟨l, u1, e1, q1, d1⟩ := dr_l1Sec u h
  obtain ⟨r, u2, e2, q2, d2⟩ := dr_below u1 10 d1
  simp only [e1, e2, bnd_some]
  cases (r == 0)
  · cases (r == 1)
    · exact ⟨_, _, rfl, by omega, d2⟩
    · obtain ⟨r3, u3, e3, q3, d3⟩ := dr_below u2 2 d2
      have := q3.1; have := q3.2.1 (by omega)
      have hm : mkok (IntKind.i64.wrap (12 + r3)) 8 = true := by rw [wr (by omega) (by omega), mkok_iff]; omega
      simp only [cond_true, cond_false, e3, bnd_some, hm]
      exact ⟨_, _, rfl, by simp only [List.length_replicate]; rw [wr (by omega) (by omega)]; omega, d3⟩
  · obtain ⟨r3, u3, e3, q3, d3⟩ := dr_int u2 [(-1), 65536] d2 (by simp)
    simp only [cond_true, e3, bnd_some]
    rw [apok_iff.2 (show (l.length + [r3].length) * 8 ≤ 140737488355328 by simp only [List.length_cons, List.length_nil]; omega)]
    exact ⟨_, _, rfl, by simp only [List.length_append, List.length_cons, List.length_nil]; omega, d3⟩
end

/-! spec_l7Some -/
section
noncomputable def B_spec_l7Some : Code := (Try.f88.body).getD .skip
noncomputable def E_spec_l7Some : Env := envOf TT [(121, con_spec_l1Draw)] []
theorem fr_spec_l7Some_0 : FrOk Try.prog ⟨E_spec_l7Some, 19, fun _ => none⟩ B_spec_l7Some := frOk_base mixed tt_ok ⟨ok_spec_l1Draw, trivial⟩
noncomputable def D_spec_l7Some_0 : Nat → Option Seg := fun _ => none
def L_spec_l7Some_29 : Shape := ⟨[(0, false, [.ptr 1000000000 0]), (1, false, [.int .i64]), (5, false, [.at 800000000]), (6, false, [.int .i64])], [(1000000000, [.fz tY, .int .i64, .int .i64])], [(800000000, tI, .fz)]⟩
def S_spec_l7Some_29 : Shape := ⟨[(0, false, [.ptr 1000000000 0]), (1, false, [.int .i64]), (5, false, [.at 800000000]), (6, false, [.ci .i64 0])], [(1000000000, [.fz tY, .int .i64, .int .i64])], [(800000000, tI, .fz)]⟩
def O_spec_l7Some_29 : Shape := ⟨[(5, false, [.at 800000000])], [(1000000000, [.fz tY, .int .i64, .int .i64])], [(800000000, tI, .fz)]⟩
def Z_spec_l7Some_29 : Shape := ⟨[], [], []⟩
noncomputable def st_spec_l7Some_29 (v0 v1 : Int) (v2 : List Int) (v3 v4 : Int) (v5 : List Int) : Option ((L_spec_l7Some_29).X ⊕ ((O_spec_l7Some_29).X ⊕ (Z_spec_l7Some_29).X)) :=
  bif (ltb v1 v0) then
    bnd (raw_spec_l1Draw (v2, v3, v4)) fun r2 =>
    bif (apok v5.length ([r2.1.1] : List Int).length 8) then
      some (.inl ((((), ()), (v0, ()), ((), ()), ((IntKind.i64.wrap (v1 + 1)), ()), ()), ((r2.2.1.1, r2.2.1.2.1, r2.2.1.2.2, ()), ()), ((v5 ++ ([r2.1.1] : List Int)), ())))
    else none
  else
    some (.inr (.inl ((((), ()), ()), ((v2, v3, v4, ()), ()), (v5, ()))))
noncomputable def stx_spec_l7Some_29 (x : (L_spec_l7Some_29).X) := st_spec_l7Some_29 x.1.2.1.1 x.1.2.2.2.1.1 x.2.1.1.1 x.2.1.1.2.1 x.2.1.1.2.2.1 x.2.2.1
def em_spec_l7Some_29 (x : (S_spec_l7Some_29).X) : (L_spec_l7Some_29).X := ((((), ()), (x.1.2.1.1, ()), ((), ()), (0, ()), ()), ((x.2.1.1.1, x.2.1.1.2.1, x.2.1.1.2.2.1, ()), ()), (x.2.2.1, ()))
noncomputable def c_spec_l7Some_29 : Code := (subN B_spec_l7Some 64 116).getD .skip
theorem a_spec_l7Some_29 : subN B_spec_l7Some 64 29 = some (.block 0 (.loop c_spec_l7Some_29)) := by kernel_rfl
theorem r_spec_l7Some_29 (x : (L_spec_l7Some_29).X) : roundT ⟨E_spec_l7Some, 19, D_spec_l7Some_0⟩ 0 c_spec_l7Some_29 116 L_spec_l7Some_29 O_spec_l7Some_29 Z_spec_l7Some_29 x = stx_spec_l7Some_29 x := by kernel_rfl
def fu_spec_l7Some_29 (x : (S_spec_l7Some_29).X) : Nat := 18446744073709551616
noncomputable def F_spec_l7Some_29 (x : (S_spec_l7Some_29).X) : Option ((O_spec_l7Some_29).X ⊕ (Z_spec_l7Some_29).X) := loopN stx_spec_l7Some_29 (fu_spec_l7Some_29 x) (em_spec_l7Some_29 x)
noncomputable def sg_spec_l7Some_29 : Seg := ⟨S_spec_l7Some_29, O_spec_l7Some_29, Z_spec_l7Some_29, F_spec_l7Some_29⟩
noncomputable def D_spec_l7Some_1 : Nat → Option Seg := fun q => bif Nat.beq q 29 then some sg_spec_l7Some_29 else D_spec_l7Some_0 q
theorem fr_spec_l7Some_1 : FrOk Try.prog ⟨E_spec_l7Some, 19, D_spec_l7Some_1⟩ B_spec_l7Some := (fr_spec_l7Some_0).loop (sg := sg_spec_l7Some_29) L_spec_l7Some_29 em_spec_l7Some_29 (by decide) a_spec_l7Some_29 stx_spec_l7Some_29 fu_spec_l7Some_29 (by decide) (fun _ => rfl) (fun x r _ h => h) r_spec_l7Some_29
abbrev I_spec_l7Some : List Par := [.pt tU .fz, .rd tI]
abbrev U_spec_l7Some : List OT := [⟨false, tL, (.ow .fz)⟩]
noncomputable def raw_spec_l7Some (a0 : dU) (a1 : Int) : Option (ResD U_spec_l7Some × MutD I_spec_l7Some) :=
  segM (F_spec_l7Some_29 ((((), ()), (a1, ()), ((), ()), ((), ()), ()), ((a0.1, a0.2.1, a0.2.2, ()), ()), (([] : List Int), ()))) (fun y2 =>
    some ((y2.2.2.1, ()), ((y2.2.1.1.1, y2.2.1.1.2.1, y2.2.1.1.2.2.1), ()))) (fun y2 =>
    none)
theorem e_spec_l7Some (x : InD I_spec_l7Some) : execF ⟨E_spec_l7Some, 19, D_spec_l7Some_1⟩ Try.f88.results.toList B_spec_l7Some I_spec_l7Some U_spec_l7Some x = raw_spec_l7Some x.1 x.2.1 := by kernel_rfl
theorem ok0_spec_l7Some : ConOk Try.prog 88 ⟨I_spec_l7Some, U_spec_l7Some, fun x => raw_spec_l7Some x.1 x.2.1⟩ := conOk_exec (fr_spec_l7Some_1) Try.func88 (by kernel_rfl) (by kernel_rfl) Try.ntmps88.symm (by decide) (fun x r h => (e_spec_l7Some x).trans h)
noncomputable def con_spec_l7Some : Con := ⟨I_spec_l7Some, U_spec_l7Some, fun x => raw_spec_l7Some x.1 x.2.1⟩
theorem ok_spec_l7Some : ConOk Try.prog 88 con_spec_l7Some := ok0_spec_l7Some
theorem dr_some (u : List Int × Int × Int) (n : Int) (h : DrOk u) (hn : n ≤ 1048576) : ∃ (l : List Int) (u' : List Int × Int × Int), raw_spec_l7Some u n = some ((l, ()), (u', ())) ∧ ((l.length : Int) = max 0 n ∧ ∀ x ∈ l, n_spec_l1In x 0 65535 = true) ∧ DrOk u' := by
  have hl : ∃ b, F_spec_l7Some_29 ((((), ()), (n, ()), ((), ()), ((), ()), ()), ((u.1, u.2.1, u.2.2, ()), ()), (([] : List Int), ())) = some b ∧
      ∃ (l : List Int) (u' : List Int × Int × Int), b = .inl ((((), ()), ()), ((u'.1, u'.2.1, u'.2.2, ()), ()), (l, ())) ∧ ((l.length : Int) = max 0 n ∧ ∀ x ∈ l, n_spec_l1In x 0 65535 = true) ∧ DrOk u' := by
    refine loopN_ind (step := stx_spec_l7Some_29) (fun x => (n - (x.1.2.2.2.1.1 : Int)).toNat)
      (fun x => (x.1.2.1.1 : Int) = n ∧ ((0 : Int) ≤ (x.1.2.2.2.1.1 : Int) ∧ (x.1.2.2.2.1.1 : Int) ≤ max 0 n) ∧ (List.length (α := Int) x.2.2.1 : Int) = (x.1.2.2.2.1.1 : Int) ∧ (∀ y ∈ (x.2.2.1 : List Int), n_spec_l1In y 0 65535 = true) ∧ DrOk (x.2.1.1.1, x.2.1.1.2.1, x.2.1.1.2.2.1)) _ ?_ _ _
      ⟨rfl, ⟨Int.le_refl _, by show (0 : Int) ≤ max 0 n; omega⟩, rfl, fun y hy => absurd hy List.not_mem_nil, h⟩ (by show (n - 0).toNat < 18446744073709551616; omega)
    rintro ⟨⟨⟨_, _⟩, ⟨(n : Int), _⟩, ⟨_, _⟩, ⟨(i : Int), _⟩, _⟩, ⟨⟨(c : List Int), (p : Int), (sd : Int), _⟩, _⟩, ⟨(l : List Int), _⟩⟩ ⟨h0, ⟨hi, hi2⟩, hll, hw, hd⟩
    simp only at h0 hi hi2 hll hw hd
    subst h0
    simp only [stx_spec_l7Some_29, st_spec_l7Some_29]
    by_cases h1 : i < n
    · rw [ltb_t h1]
      obtain ⟨r1, u1, e1, q1, d1⟩ := dr_draw (c, p, sd) hd
      rw [e1, bnd_some]
      dsimp only
      rw [show apok l.length ([r1] : List Int).length 8 = true from apok_iff.2 (by simp only [List.length_cons, List.length_nil]; omega), bif_t, bif_t]
      refine .inl ⟨_, rfl, ⟨rfl, ⟨?_, ?_⟩, ?_, ?_, d1⟩, ?_⟩
      · show 0 ≤ IntKind.i64.wrap (i + 1); rw [wr (by omega) (by omega)]; omega
      · show IntKind.i64.wrap (i + 1) ≤ _; rw [wr (by omega) (by omega)]; omega
      · show ((l ++ [r1]).length : Int) = IntKind.i64.wrap (i + 1); rw [wr (by omega) (by omega), List.length_append]; simp only [List.length_cons, List.length_nil]; omega
      · intro y hy
        rcases List.mem_append.1 hy with hy | hy
        · exact hw y hy
        · rw [List.mem_singleton.1 hy]; exact q1
      · show (n - IntKind.i64.wrap (i + 1)).toNat < (n - i).toNat; rw [wr (by omega) (by omega)]; omega
    · rw [ltb_f (Int.not_lt.1 h1)]
      have k1 : (i : Int) ≤ max 0 n := hi2
      have k2 : (l.length : Int) = i := hll
      have k3 : (0 : Int) ≤ i := hi
      exact .inr ⟨_, rfl, l, (c, p, sd), rfl, ⟨by omega, hw⟩, hd⟩
  obtain ⟨b, e, l, u', rfl, hq, hd⟩ := hl
  unfold raw_spec_l7Some
  rw [e]
  exact ⟨_, _, rfl, hq, hd⟩
end

/-! spec_Blocks -/
section
noncomputable def B_spec_Blocks : Code := (Try.f89.body).getD .skip
noncomputable def E_spec_Blocks : Env := envOf TT [(91, con_spec_GeoOk)] []
theorem fr_spec_Blocks_0 : FrOk Try.prog ⟨E_spec_Blocks, 12, fun _ => none⟩ B_spec_Blocks := frOk_base mixed tt_ok ⟨ok_spec_GeoOk, trivial⟩
noncomputable def D_spec_Blocks_0 : Nat → Option Seg := fun _ => none
abbrev I_spec_Blocks : List Par := [.rd tG]
abbrev U_spec_Blocks : List OT := [⟨false, tI, .fz⟩]
noncomputable def raw_spec_Blocks (a0 : dG) : Option (ResD U_spec_Blocks × MutD I_spec_Blocks) :=
  let r1 := n_spec_GeoOk a0
  bif (!r1) then
    some ((0, ()), ())
  else
    some (((IntKind.i64.wrap (a0.2 * (IntKind.i64.wrap (a0.1 - 1)))), ()), ())
theorem e_spec_Blocks (x : InD I_spec_Blocks) : execF ⟨E_spec_Blocks, 12, D_spec_Blocks_0⟩ Try.f89.results.toList B_spec_Blocks I_spec_Blocks U_spec_Blocks x = raw_spec_Blocks x.1 := by kernel_rfl
theorem ok0_spec_Blocks : ConOk Try.prog 89 ⟨I_spec_Blocks, U_spec_Blocks, fun x => raw_spec_Blocks x.1⟩ := conOk_exec (fr_spec_Blocks_0) Try.func89 (by kernel_rfl) (by kernel_rfl) Try.ntmps89.symm (by decide) (fun x r h => (e_spec_Blocks x).trans h)
noncomputable def n_spec_Blocks (a0 : dG) : Int :=
  let r1 := n_spec_GeoOk a0
  bif (!r1) then
    0
  else
    (IntKind.i64.wrap (a0.2 * (IntKind.i64.wrap (a0.1 - 1))))
noncomputable def con_spec_Blocks : Con := ⟨I_spec_Blocks, U_spec_Blocks, fun x => (fun n => some ((n, ()), ())) (n_spec_Blocks x.1)⟩
theorem nn_spec_Blocks (a0 : dG) : raw_spec_Blocks a0 = (fun n => some ((n, ()), ())) (n_spec_Blocks a0) := bif_ty (p := fun (n : Int) => ((n, ()), ())) (bif_some (p := fun (n : Int) => ((n, ()), ())) rfl rfl)
theorem ok_spec_Blocks : ConOk Try.prog 89 con_spec_Blocks := (ok0_spec_Blocks).mono (fun x r _ h => (nn_spec_Blocks x.1).trans h)
theorem spec_Blocks_le (a : Int × Int) : 0 ≤ n_spec_Blocks a ∧ n_spec_Blocks a ≤ 32 := by
  unfold n_spec_Blocks
  cases h : n_spec_GeoOk a
  · simp
  · obtain ⟨⟨h1, h2⟩, h3, h4⟩ := geo_iff.1 h
    have h5 : 0 ≤ a.2 * (a.1 - 1) := Int.mul_nonneg (by omega) (by omega)
    have h6 : a.2 * (a.1 - 1) ≤ 8 * 4 := Int.mul_le_mul h4 (by omega) (by omega) (by omega)
    simp only [Bool.not_true, cond_false, wr (show -9223372036854775808 ≤ a.1 - 1 by omega) (by omega), wr (show -9223372036854775808 ≤ a.2 * (a.1 - 1) by omega) (by omega)]
    omega
theorem spec_Blocks_eq {a : Int × Int} (h : n_spec_GeoOk a = true) : n_spec_Blocks a = a.2 * (a.1 - 1) := by
  unfold n_spec_Blocks
  obtain ⟨⟨h1, h2⟩, h3, h4⟩ := geo_iff.1 h
  have h5 : 0 ≤ a.2 * (a.1 - 1) := Int.mul_nonneg (by omega) (by omega)
  have h6 : a.2 * (a.1 - 1) ≤ 8 * 4 := Int.mul_le_mul h4 (by omega) (by omega) (by omega)
  simp only [h, Bool.not_true, cond_false, wr (show -9223372036854775808 ≤ a.1 - 1 by omega) (by omega), wr (show -9223372036854775808 ≤ a.2 * (a.1 - 1) by omega) (by omega)]
end

/-! spec_l14Blocks -/
section
noncomputable def B_spec_l14Blocks : Code := (Try.f46.body).getD .skip
noncomputable def E_spec_l14Blocks : Env := envOf TT [(86, con_spec_l1Once), (87, con_spec_l1Any), (88, con_spec_l7Some), (89, con_spec_Blocks)] []
theorem fr_spec_l14Blocks_0 : FrOk Try.prog ⟨E_spec_l14Blocks, 13, fun _ => none⟩ B_spec_l14Blocks := frOk_base mixed tt_ok ⟨ok_spec_l1Once, ok_spec_l1Any, ok_spec_l7Some, ok_spec_Blocks, trivial⟩
noncomputable def D_spec_l14Blocks_0 : Nat → Option Seg := fun _ => none
abbrev I_spec_l14Blocks : List Par := [.pt tU .fz, .rd tG]
abbrev U_spec_l14Blocks : List OT := [⟨false, tL, (.ow .fz)⟩]
noncomputable def raw_spec_l14Blocks (a0 : dU) (a1 : dG) : Option (ResD U_spec_l14Blocks × MutD I_spec_l14Blocks) :=
  bnd (raw_spec_l1Once a0 12) fun r1 =>
  bif r1.1.1 then
    bnd (raw_spec_l1Any r1.2.1) fun r2 =>
    some ((r2.1.1, ()), (r2.2.1, ()))
  else
    let r3 := n_spec_Blocks a1
    bnd (raw_spec_l7Some r1.2.1 r3) fun r4 =>
    some ((r4.1.1, ()), (r4.2.1, ()))
theorem e_spec_l14Blocks (x : InD I_spec_l14Blocks) : execF ⟨E_spec_l14Blocks, 13, D_spec_l14Blocks_0⟩ Try.f46.results.toList B_spec_l14Blocks I_spec_l14Blocks U_spec_l14Blocks x = raw_spec_l14Blocks x.1 x.2.1 := by kernel_rfl
theorem ok0_spec_l14Blocks : ConOk Try.prog 46 ⟨I_spec_l14Blocks, U_spec_l14Blocks, fun x => raw_spec_l14Blocks x.1 x.2.1⟩ := conOk_exec (fr_spec_l14Blocks_0) Try.func46 (by kernel_rfl) (by kernel_rfl) Try.ntmps46.symm (by decide) (fun x r h => (e_spec_l14Blocks x).trans h)
noncomputable def con_spec_l14Blocks : Con := ⟨I_spec_l14Blocks, U_spec_l14Blocks, fun x => raw_spec_l14Blocks x.1 x.2.1⟩
theorem ok_spec_l14Blocks : ConOk Try.prog 46 con_spec_l14Blocks := ok0_spec_l14Blocks
theorem dr_l14Blocks (u : dU) (g : dG) (h : DrOk u) : ∃ (l : List Int) (u' : dU), raw_spec_l14Blocks u g = some ((l, ()), (u', ())) ∧ DrOk u' := by
  have hB := spec_Blocks_le g
  unfold raw_spec_l14Blocks
  obtain ⟨r, u1, e1, d1⟩ := dr_once u 12 h
  simp only [e1, bnd_some]
  cases r
  · obtain ⟨l, u2, e2, _, d2⟩ := dr_some u1 (n_spec_Blocks g) d1 (by omega)
    simp only [cond_false, e2, bnd_some]
    exact ⟨_, _, rfl, d2⟩
  · obtain ⟨l, u2, e2, _, d2⟩ := dr_l1Any u1 d1
    simp only [cond_true, e2, bnd_some]
    exact ⟨_, _, rfl, d2⟩
end

/-! spec_l13Draw -/
section
noncomputable def B_spec_l13Draw : Code := (Try.f52.body).getD .skip
noncomputable def E_spec_l13Draw : Env := envOf TT [(47, con_spec_l1Below), (85, con_spec_l1Int), (88, con_spec_l7Some), (89, con_spec_Blocks)] []
theorem fr_spec_l13Draw_0 : FrOk Try.prog ⟨E_spec_l13Draw, 55, fun _ => none⟩ B_spec_l13Draw := frOk_base mixed tt_ok ⟨ok_spec_l1Below, ok_spec_l1Int, ok_spec_l7Some, ok_spec_Blocks, trivial⟩
noncomputable def D_spec_l13Draw_0 : Nat → Option Seg := fun _ => none
abbrev I_spec_l13Draw : List Par := [.pt tU .fz, .rd tG]
abbrev U_spec_l13Draw : List OT := [⟨false, tC, (.pr .fz (.pr .fz (.pr .fz (.pr .fz (.ow .fz)))))⟩]
noncomputable def raw_spec_l13Draw (a0 : dU) (a1 : dG) : Option (ResD U_spec_l13Draw × MutD I_spec_l13Draw) :=
  bnd (raw_spec_l1Int a0 ([1, 1, 2, 2, 2, 3, 3, 4, 5, 6] : List Int)) fun r1 =>
  bnd (raw_spec_l1Below r1.2.1 99) fun r2 =>
  bif (r1.1.1 == 4) then
    some (((r1.1.1, (IntKind.i64.wrap (1 + r2.1.1)), 0, 0, []), ()), (r2.2.1, ()))
  else
    bnd (raw_spec_l1Below r2.2.1 4) fun r3 =>
    let r4 := n_spec_Blocks a1
    bif (ltb r4 (IntKind.i64.wrap (1 + r3.1.1))) then
      let r5 := n_spec_Blocks a1
      bnd (raw_spec_l1Below r3.2.1 (IntKind.i64.wrap ((IntKind.i64.wrap (r5 - 1)) + 1))) fun r6 =>
      bif (r1.1.1 == 1) then
        bif (r1.1.1 == 1) then
          some (((r1.1.1, (IntKind.i64.wrap (1 + r2.1.1)), r6.1.1, 1, []), ()), (r6.2.1, ()))
        else
          bif (r1.1.1 == 5) then
            bnd (raw_spec_l1Int r6.2.1 ([0, 0, 1, 2] : List Int)) fun r7 =>
            bnd (raw_spec_l1Int r7.2.1 ([0, 1, 2, 7] : List Int)) fun r8 =>
            some (((r1.1.1, (IntKind.i64.wrap (1 + r2.1.1)), r6.1.1, 0, ([r7.1.1, r8.1.1] : List Int)), ()), (r8.2.1, ()))
          else
            bnd (raw_spec_l7Some r6.2.1 1) fun r9 =>
            some (((r1.1.1, (IntKind.i64.wrap (1 + r2.1.1)), r6.1.1, 0, r9.1.1), ()), (r9.2.1, ()))
      else
        bif (r1.1.1 == 6) then
          some (((r1.1.1, (IntKind.i64.wrap (1 + r2.1.1)), r6.1.1, 1, []), ()), (r6.2.1, ()))
        else
          bif (r1.1.1 == 5) then
            bnd (raw_spec_l1Int r6.2.1 ([0, 0, 1, 2] : List Int)) fun r10 =>
            bnd (raw_spec_l1Int r10.2.1 ([0, 1, 2, 7] : List Int)) fun r11 =>
            some (((r1.1.1, (IntKind.i64.wrap (1 + r2.1.1)), r6.1.1, 0, ([r10.1.1, r11.1.1] : List Int)), ()), (r11.2.1, ()))
          else
            bnd (raw_spec_l7Some r6.2.1 1) fun r12 =>
            some (((r1.1.1, (IntKind.i64.wrap (1 + r2.1.1)), r6.1.1, 0, r12.1.1), ()), (r12.2.1, ()))
    else
      let r13 := n_spec_Blocks a1
      bnd (raw_spec_l1Below r3.2.1 (IntKind.i64.wrap ((IntKind.i64.wrap (r13 - (IntKind.i64.wrap (1 + r3.1.1)))) + 1))) fun r14 =>
      bif (r1.1.1 == 1) then
        bif (r1.1.1 == 1) then
          some (((r1.1.1, (IntKind.i64.wrap (1 + r2.1.1)), r14.1.1, (IntKind.i64.wrap (1 + r3.1.1)), []), ()), (r14.2.1, ()))
        else
          bif (r1.1.1 == 5) then
            bnd (raw_spec_l1Int r14.2.1 ([0, 0, 1, 2] : List Int)) fun r15 =>
            bnd (raw_spec_l1Int r15.2.1 ([0, 1, 2, 7] : List Int)) fun r16 =>
            some (((r1.1.1, (IntKind.i64.wrap (1 + r2.1.1)), r14.1.1, 0, ([r15.1.1, r16.1.1] : List Int)), ()), (r16.2.1, ()))
          else
            bnd (raw_spec_l7Some r14.2.1 (IntKind.i64.wrap (1 + r3.1.1))) fun r17 =>
            some (((r1.1.1, (IntKind.i64.wrap (1 + r2.1.1)), r14.1.1, 0, r17.1.1), ()), (r17.2.1, ()))
      else
        bif (r1.1.1 == 6) then
          some (((r1.1.1, (IntKind.i64.wrap (1 + r2.1.1)), r14.1.1, (IntKind.i64.wrap (1 + r3.1.1)), []), ()), (r14.2.1, ()))
        else
          bif (r1.1.1 == 5) then
            bnd (raw_spec_l1Int r14.2.1 ([0, 0, 1, 2] : List Int)) fun r18 =>
            bnd (raw_spec_l1Int r18.2.1 ([0, 1, 2, 7] : List Int)) fun r19 =>
            some (((r1.1.1, (IntKind.i64.wrap (1 + r2.1.1)), r14.1.1, 0, ([r18.1.1, r19.1.1] : List Int)), ()), (r19.2.1, ()))
          else
            bnd (raw_spec_l7Some r14.2.1 (IntKind.i64.wrap (1 + r3.1.1))) fun r20 =>
            some (((r1.1.1, (IntKind.i64.wrap (1 + r2.1.1)), r14.1.1, 0, r20.1.1), ()), (r20.2.1, ()))
theorem e_spec_l13Draw (x : InD I_spec_l13Draw) : execF ⟨E_spec_l13Draw, 55, D_spec_l13Draw_0⟩ Try.f52.results.toList B_spec_l13Draw I_spec_l13Draw U_spec_l13Draw x = raw_spec_l13Draw x.1 x.2.1 := by kernel_rfl
theorem ok0_spec_l13Draw : ConOk Try.prog 52 ⟨I_spec_l13Draw, U_spec_l13Draw, fun x => raw_spec_l13Draw x.1 x.2.1⟩ := conOk_exec (fr_spec_l13Draw_0) Try.func52 (by kernel_rfl) (by kernel_rfl) Try.ntmps52.symm (by decide) (fun x r h => (e_spec_l13Draw x).trans h)
noncomputable def con_spec_l13Draw : Con := ⟨I_spec_l13Draw, U_spec_l13Draw, fun x => raw_spec_l13Draw x.1 x.2.1⟩
theorem ok_spec_l13Draw : ConOk Try.prog 52 con_spec_l13Draw := ok0_spec_l13Draw
/-- a command that the geometry takes -/
def CmdOk (g : Int × Int) (c : Int × Int × Int × Int × List Int) : Prop :=
  (1 ≤ c.2.1 ∧ c.2.1 ≤ 999) ∧ c.2.2.2.2.length ≤ 6 ∧ (∀ x ∈ c.2.2.2.2, n_spec_l1In x 0 65535 = true) ∧ (0 ≤ c.2.2.1 ∧ c.2.2.1 ≤ 32 ∧ 0 ≤ c.2.2.2.1 ∧ c.2.2.2.1 ≤ 6) ∧
    (c.1 = 4 ∨ (0 ≤ c.2.2.1 ∧ (((c.1 = 1 ∨ c.1 = 6) ∧ (1 ≤ c.2.2.2.1 ∧ c.2.2.2.1 ≤ 6) ∧ c.2.2.1 ≤ n_spec_Blocks g - c.2.2.2.1) ∨
      ((c.1 = 2 ∨ c.1 = 3) ∧ 1 ≤ c.2.2.2.2.length ∧ c.2.2.1 ≤ n_spec_Blocks g - c.2.2.2.2.length) ∨ (c.1 = 5 ∧ c.2.2.2.2.length = 2 ∧ c.2.2.1 ≤ n_spec_Blocks g - 1))))
theorem spec_Blocks_ge {g : Int × Int} (h : n_spec_GeoOk g = true) : 2 ≤ n_spec_Blocks g := by
  rw [spec_Blocks_eq h]
  obtain ⟨⟨h1, h2⟩, h3, h4⟩ := geo_iff.1 h
  have : 1 * 2 ≤ g.2 * (g.1 - 1) := Int.mul_le_mul h3 (by omega) (by omega) (by omega)
  omega
theorem dr_l13Draw (u : List Int × Int × Int) (g : Int × Int) (h : DrOk u) (hg : n_spec_GeoOk g = true) :
    ∃ (c : Int × Int × Int × Int × List Int) (u' : List Int × Int × Int), raw_spec_l13Draw u g = some ((c, ()), (u', ())) ∧ CmdOk g c ∧ DrOk u' := by
  obtain ⟨op, u1, e1, q1, d1⟩ := dr_int u [1, 1, 2, 2, 2, 3, 3, 4, 5, 6] h (by simp)
  obtain ⟨r2, u2, e2, q2, d2⟩ := dr_below u1 99 d1
  obtain ⟨r3, u3, e3, q3, d3⟩ := dr_below u2 4 d2
  have hB := spec_Blocks_ge hg
  have hB2 := (spec_Blocks_le g).2
  have := q2.1; have := q2.2.1 (by omega); have := q3.1; have := q3.2.1 (by omega)
  have hid : IntKind.i64.wrap (1 + r2) = 1 + r2 := wr (by omega) (by omega)
  have hn : IntKind.i64.wrap (1 + r3) = 1 + r3 := wr (by omega) (by omega)
  have key : ∀ n : Int, 1 ≤ n → n ≤ 4 → n ≤ n_spec_Blocks g → op ≠ 4 → ∃ (c : Int × Int × Int × Int × List Int) (u' : List Int × Int × Int),
      (bnd (raw_spec_l1Below u3 (IntKind.i64.wrap ((IntKind.i64.wrap (n_spec_Blocks g - n)) + 1))) fun r6 =>
      bif (op == 1) then
        bif (op == 1) then
          some (((op, 1 + r2, r6.1.1, n, []), ()), (r6.2.1, ()))
        else
          bif (op == 5) then
            bnd (raw_spec_l1Int r6.2.1 ([0, 0, 1, 2] : List Int)) fun r7 =>
            bnd (raw_spec_l1Int r7.2.1 ([0, 1, 2, 7] : List Int)) fun r8 =>
            some (((op, 1 + r2, r6.1.1, 0, ([r7.1.1, r8.1.1] : List Int)), ()), (r8.2.1, ()))
          else
            bnd (raw_spec_l7Some r6.2.1 n) fun r9 =>
            some (((op, 1 + r2, r6.1.1, 0, r9.1.1), ()), (r9.2.1, ()))
      else
        bif (op == 6) then
          some (((op, 1 + r2, r6.1.1, n, []), ()), (r6.2.1, ()))
        else
          bif (op == 5) then
            bnd (raw_spec_l1Int r6.2.1 ([0, 0, 1, 2] : List Int)) fun r10 =>
            bnd (raw_spec_l1Int r10.2.1 ([0, 1, 2, 7] : List Int)) fun r11 =>
            some (((op, 1 + r2, r6.1.1, 0, ([r10.1.1, r11.1.1] : List Int)), ()), (r11.2.1, ()))
          else
            bnd (raw_spec_l7Some r6.2.1 n) fun r12 =>
            some (((op, 1 + r2, r6.1.1, 0, r12.1.1), ()), (r12.2.1, ()))) = (some ((c, ()), (u', ())) : Option (ResD U_spec_l13Draw × MutD I_spec_l13Draw)) ∧ CmdOk g c ∧ DrOk u' := by
    intro n n1 n4 nB h4
    have hw : IntKind.i64.wrap ((IntKind.i64.wrap (n_spec_Blocks g - n)) + 1) = n_spec_Blocks g - n + 1 := by
      rw [wr (show -9223372036854775808 ≤ n_spec_Blocks g - n by omega) (by omega), wr (by omega) (by omega)]
    obtain ⟨at', u4, e4, q4, d4⟩ := dr_below u3 (n_spec_Blocks g - n + 1) d3
    have := q4.1; have := q4.2.1 (by omega)
    rw [hw, e4, bnd_some]
    simp only [List.mem_cons, List.not_mem_nil, or_false] at q1
    by_cases h1 : op = 1
    · subst h1
      exact ⟨_, _, rfl, ⟨⟨by show 1 ≤ 1 + r2; omega, by show 1 + r2 ≤ 999; omega⟩, by simp, by simp, by dsimp only; omega, .inr ⟨q4.1, .inl ⟨.inl rfl, ⟨n1, by show n ≤ 6; omega⟩, by show at' ≤ n_spec_Blocks g - n; omega⟩⟩⟩, d4⟩
    · rw [show (op == 1) = false from beq_eq_false_iff_ne.2 h1, bif_f]
      by_cases h6 : op = 6
      · subst h6
        exact ⟨_, _, rfl, ⟨⟨by show 1 ≤ 1 + r2; omega, by show 1 + r2 ≤ 999; omega⟩, by simp, by simp, by dsimp only; omega, .inr ⟨q4.1, .inl ⟨.inr rfl, ⟨n1, by show n ≤ 6; omega⟩, by show at' ≤ n_spec_Blocks g - n; omega⟩⟩⟩, d4⟩
      · rw [show (op == 6) = false from beq_eq_false_iff_ne.2 h6, bif_f]
        by_cases h5 : op = 5
        · subst h5
          obtain ⟨x1, u5, e5, q5, d5⟩ := dr_int u4 [0, 0, 1, 2] d4 (by simp)
          obtain ⟨x2, u6, e6, q6, d6⟩ := dr_int u5 [0, 1, 2, 7] d5 (by simp)
          simp only [List.mem_cons, List.not_mem_nil, or_false] at q5 q6
          simp only [beq_self_eq_true, cond_true, e5, e6, bnd_some]
          refine ⟨_, _, rfl, ⟨⟨by show 1 ≤ 1 + r2; omega, by show 1 + r2 ≤ 999; omega⟩, by simp, ?_, by dsimp only; omega, .inr ⟨q4.1, .inr (.inr ⟨rfl, rfl, by show at' ≤ n_spec_Blocks g - 1; omega⟩)⟩⟩, d6⟩
          intro y hy
          simp only [List.mem_cons, List.not_mem_nil, or_false] at hy
          exact in_t (by omega) (by omega)
        · rw [show (op == 5) = false from beq_eq_false_iff_ne.2 h5, bif_f]
          obtain ⟨l, u5, e5, q5, d5⟩ := dr_some u4 n d4 (by omega)
          have hl := q5.1
          rw [e5, bnd_some]
          refine ⟨_, _, rfl, ⟨⟨by show 1 ≤ 1 + r2; omega, by show 1 + r2 ≤ 999; omega⟩, by show l.length ≤ 6; omega, q5.2, by dsimp only; omega, .inr ⟨q4.1, .inr (.inl ⟨by show op = 2 ∨ op = 3; omega, by show 1 ≤ l.length; omega, by show at' ≤ n_spec_Blocks g - l.length; omega⟩)⟩⟩, d5⟩
  unfold raw_spec_l13Draw
  simp only [e1, e2, e3, bnd_some, hid, hn]
  by_cases h4 : op = 4
  · subst h4
    exact ⟨_, _, rfl, ⟨⟨by show 1 ≤ 1 + r2; omega, by show 1 + r2 ≤ 999; omega⟩, by simp, by simp, by dsimp only; omega, .inl rfl⟩, d2⟩
  · rw [show (op == 4) = false from beq_eq_false_iff_ne.2 h4, bif_f]
    by_cases hb : n_spec_Blocks g < 1 + r3
    · rw [ltb_t hb, bif_t]
      exact key 1 (by omega) (by omega) (by omega) h4
    · rw [ltb_f (by omega), bif_f]
      exact key (1 + r3) (by omega) (by omega) (by omega) h4
end

/-! spec_l13Any -/
section
noncomputable def B_spec_l13Any : Code := (Try.f48.body).getD .skip
noncomputable def E_spec_l13Any : Env := envOf TT [(47, con_spec_l1Below), (52, con_spec_l13Draw), (85, con_spec_l1Int), (91, con_spec_GeoOk)] []
theorem fr_spec_l13Any_0 : FrOk Try.prog ⟨E_spec_l13Any, 56, fun _ => none⟩ B_spec_l13Any := frOk_base mixed tt_ok ⟨ok_spec_l1Below, ok_spec_l13Draw, ok_spec_l1Int, ok_spec_GeoOk, trivial⟩
noncomputable def D_spec_l13Any_0 : Nat → Option Seg := fun _ => none
abbrev I_spec_l13Any : List Par := [.pt tU .fz, .rd tG]
abbrev U_spec_l13Any : List OT := [⟨false, tC, (.pr .fz (.pr .fz (.pr .fz (.pr .fz (.ow .fz)))))⟩]
noncomputable def raw_spec_l13Any (a0 : dU) (a1 : dG) : Option (ResD U_spec_l13Any × MutD I_spec_l13Any) :=
  let r1 := n_spec_GeoOk a1
  bif r1 then
    bnd (raw_spec_l13Draw a0 a1) fun r2 =>
    bnd (raw_spec_l1Below r2.2.1 12) fun r3 =>
    bif (r3.1.1 == 0) then
      bnd (raw_spec_l1Int r3.2.1 ([0, 7, (-1), 4] : List Int)) fun r4 =>
      some (((r4.1.1, r2.1.1.2), ()), (r4.2.1, ()))
    else
      bif (r3.1.1 == 1) then
        bnd (raw_spec_l1Int r3.2.1 ([0, 999, 1000, 65536] : List Int)) fun r5 =>
        some (((r2.1.1.1, r5.1.1, r2.1.1.2.2), ()), (r5.2.1, ()))
      else
        bif (r3.1.1 == 2) then
          bnd (raw_spec_l1Int r3.2.1 ([(-1), 7, 31, 32, 9223372036854775807] : List Int)) fun r6 =>
          some (((r2.1.1.1, r2.1.1.2.1, r6.1.1, r2.1.1.2.2.2), ()), (r6.2.1, ()))
        else
          bif (r3.1.1 == 3) then
            bnd (raw_spec_l1Int r3.2.1 ([0, 6, 7, (-1), 65536] : List Int)) fun r7 =>
            some (((r2.1.1.1, r2.1.1.2.1, r2.1.1.2.2.1, r7.1.1, r2.1.1.2.2.2.2), ()), (r7.2.1, ()))
          else
            bif (r3.1.1 == 4) then
              bnd (raw_spec_l1Int r3.2.1 ([(-1), 5, 65536] : List Int)) fun r8 =>
              bif (apok r2.1.1.2.2.2.2.length ([r8.1.1] : List Int).length 8) then
                some (((r2.1.1.1, r2.1.1.2.1, r2.1.1.2.2.1, r2.1.1.2.2.2.1, (r2.1.1.2.2.2.2 ++ ([r8.1.1] : List Int))), ()), (r8.2.1, ()))
              else none
            else
              bif (r3.1.1 == 5) then
                bnd (raw_spec_l1Below r3.2.1 2) fun r9 =>
                bif (mkok (IntKind.i64.wrap (6 + r9.1.1)) 8) then
                  some (((r2.1.1.1, r2.1.1.2.1, r2.1.1.2.2.1, r2.1.1.2.2.2.1, (List.replicate ((IntKind.i64.wrap (6 + r9.1.1))).toNat (0 : Int))), ()), (r9.2.1, ()))
                else none
              else
                some ((r2.1.1, ()), (r3.2.1, ()))
  else
    bnd (raw_spec_l1Below a0 12) fun r10 =>
    bif (r10.1.1 == 0) then
      bnd (raw_spec_l1Int r10.2.1 ([0, 7, (-1), 4] : List Int)) fun r11 =>
      some (((r11.1.1, 1, 0, 1, []), ()), (r11.2.1, ()))
    else
      bif (r10.1.1 == 1) then
        bnd (raw_spec_l1Int r10.2.1 ([0, 999, 1000, 65536] : List Int)) fun r12 =>
        some (((1, r12.1.1, 0, 1, []), ()), (r12.2.1, ()))
      else
        bif (r10.1.1 == 2) then
          bnd (raw_spec_l1Int r10.2.1 ([(-1), 7, 31, 32, 9223372036854775807] : List Int)) fun r13 =>
          some (((1, 1, r13.1.1, 1, []), ()), (r13.2.1, ()))
        else
          bif (r10.1.1 == 3) then
            bnd (raw_spec_l1Int r10.2.1 ([0, 6, 7, (-1), 65536] : List Int)) fun r14 =>
            some (((1, 1, 0, r14.1.1, []), ()), (r14.2.1, ()))
          else
            bif (r10.1.1 == 4) then
              bnd (raw_spec_l1Int r10.2.1 ([(-1), 5, 65536] : List Int)) fun r15 =>
              bif (apok ([] : List Int).length ([r15.1.1] : List Int).length 8) then
                some (((1, 1, 0, 1, (([] : List Int) ++ ([r15.1.1] : List Int))), ()), (r15.2.1, ()))
              else none
            else
              bif (r10.1.1 == 5) then
                bnd (raw_spec_l1Below r10.2.1 2) fun r16 =>
                bif (mkok (IntKind.i64.wrap (6 + r16.1.1)) 8) then
                  some (((1, 1, 0, 1, (List.replicate ((IntKind.i64.wrap (6 + r16.1.1))).toNat (0 : Int))), ()), (r16.2.1, ()))
                else none
              else
                some (((1, 1, 0, 1, []), ()), (r10.2.1, ()))
theorem e_spec_l13Any (x : InD I_spec_l13Any) : execF ⟨E_spec_l13Any, 56, D_spec_l13Any_0⟩ Try.f48.results.toList B_spec_l13Any I_spec_l13Any U_spec_l13Any x = raw_spec_l13Any x.1 x.2.1 := by kernel_rfl
theorem ok0_spec_l13Any : ConOk Try.prog 48 ⟨I_spec_l13Any, U_spec_l13Any, fun x => raw_spec_l13Any x.1 x.2.1⟩ := conOk_exec (fr_spec_l13Any_0) Try.func48 (by kernel_rfl) (by kernel_rfl) Try.ntmps48.symm (by decide) (fun x r h => (e_spec_l13Any x).trans h)
noncomputable def con_spec_l13Any : Con := ⟨I_spec_l13Any, U_spec_l13Any, fun x => raw_spec_l13Any x.1 x.2.1⟩
theorem ok_spec_l13Any : ConOk Try.prog 48 con_spec_l13Any := ok0_spec_l13Any
theorem dr_l13Any (u : List Int × Int × Int) (g : Int × Int) (h : DrOk u) (hg : n_spec_GeoOk g = true) :
    ∃ (c : Int × Int × Int × Int × List Int) (u' : List Int × Int × Int), raw_spec_l13Any u g = some ((c, ()), (u', ())) ∧ c.2.2.2.2.length ≤ 7 ∧ DrOk u' := by
  obtain ⟨c, u1, e1, q1, d1⟩ := dr_l13Draw u g h hg
  obtain ⟨k, u2, e2, q2, d2⟩ := dr_below u1 12 d1
  have hl := q1.2.1
  unfold raw_spec_l13Any
  simp only [hg, e1, e2, bnd_some, cond_true]
  cases (k == 0)
  · cases (k == 1)
    · cases (k == 2)
      · cases (k == 3)
        · cases (k == 4)
          · cases (k == 5)
            · exact ⟨_, _, rfl, by omega, d2⟩
            · obtain ⟨r, u3, e3, q3, d3⟩ := dr_below u2 2 d2
              have := q3.1; have := q3.2.1 (by omega)
              have hm : mkok (IntKind.i64.wrap (6 + r)) 8 = true := by rw [wr (by omega) (by omega), mkok_iff]; omega
              simp only [cond_true, cond_false, e3, bnd_some, hm]
              exact ⟨_, _, rfl, by simp only [List.length_replicate]; rw [wr (by omega) (by omega)]; omega, d3⟩
          · obtain ⟨r, u3, e3, q3, d3⟩ := dr_int u2 [(-1), 5, 65536] d2 (by simp)
            simp only [cond_true, cond_false, e3, bnd_some]
            rw [show apok c.2.2.2.2.length ([r] : List Int).length 8 = true from apok_iff.2 (by simp only [List.length_cons, List.length_nil]; omega)]
            exact ⟨_, _, rfl, by simp only [List.length_append, List.length_cons, List.length_nil]; omega, d3⟩
        · obtain ⟨r, u3, e3, q3, d3⟩ := dr_int u2 [0, 6, 7, (-1), 65536] d2 (by simp)
          simp only [cond_true, cond_false, e3, bnd_some]
          exact ⟨_, _, rfl, by dsimp only; omega, d3⟩
      · obtain ⟨r, u3, e3, q3, d3⟩ := dr_int u2 [(-1), 7, 31, 32, 9223372036854775807] d2 (by simp)
        simp only [cond_true, cond_false, e3, bnd_some]
        exact ⟨_, _, rfl, by dsimp only; omega, d3⟩
    · obtain ⟨r, u3, e3, q3, d3⟩ := dr_int u2 [0, 999, 1000, 65536] d2 (by simp)
      simp only [cond_true, cond_false, e3, bnd_some]
      exact ⟨_, _, rfl, by dsimp only; omega, d3⟩
  · obtain ⟨r, u3, e3, q3, d3⟩ := dr_int u2 [0, 7, (-1), 4] d2 (by simp)
    simp only [cond_true, e3, bnd_some]
    exact ⟨_, _, rfl, by dsimp only; omega, d3⟩
theorem dr_l13AnyB (u : dU) (g : dG) (h : DrOk u) : ∃ (c : dC) (u' : dU), raw_spec_l13Any u g = some ((c, ()), (u', ())) ∧ DrOk u' := by
  cases hg : n_spec_GeoOk g
  · obtain ⟨k, u2, e2, q2, d2⟩ := dr_below u 12 h
    unfold raw_spec_l13Any
    simp only [hg, e2, bnd_some, cond_false]
    cases (k == 0)
    · cases (k == 1)
      · cases (k == 2)
        · cases (k == 3)
          · cases (k == 4)
            · cases (k == 5)
              · exact ⟨_, _, rfl, d2⟩
              · obtain ⟨r, u3, e3, q3, d3⟩ := dr_below u2 2 d2
                have := q3.1; have := q3.2.1 (by omega)
                have hm : mkok (IntKind.i64.wrap (6 + r)) 8 = true := by rw [wr (by omega) (by omega), mkok_iff]; omega
                simp only [cond_true, cond_false, e3, bnd_some, hm]
                exact ⟨_, _, rfl, d3⟩
            · obtain ⟨r, u3, e3, q3, d3⟩ := dr_int u2 [(-1), 5, 65536] d2 (by simp)
              simp only [cond_true, cond_false, e3, bnd_some]
              exact ⟨_, _, rfl, d3⟩
          · obtain ⟨r, u3, e3, q3, d3⟩ := dr_int u2 [0, 6, 7, (-1), 65536] d2 (by simp)
            simp only [cond_true, cond_false, e3, bnd_some]
            exact ⟨_, _, rfl, d3⟩
        · obtain ⟨r, u3, e3, q3, d3⟩ := dr_int u2 [(-1), 7, 31, 32, 9223372036854775807] d2 (by simp)
          simp only [cond_true, cond_false, e3, bnd_some]
          exact ⟨_, _, rfl, d3⟩
      · obtain ⟨r, u3, e3, q3, d3⟩ := dr_int u2 [0, 999, 1000, 65536] d2 (by simp)
        simp only [cond_true, cond_false, e3, bnd_some]
        exact ⟨_, _, rfl, d3⟩
    · obtain ⟨r, u3, e3, q3, d3⟩ := dr_int u2 [0, 7, (-1), 4] d2 (by simp)
      simp only [cond_true, e3, bnd_some]
      exact ⟨_, _, rfl, d3⟩
  · obtain ⟨c, u1, e1, _, d1⟩ := dr_l13Any u g h hg
    exact ⟨c, u1, e1, d1⟩
end
end Go.Tf
