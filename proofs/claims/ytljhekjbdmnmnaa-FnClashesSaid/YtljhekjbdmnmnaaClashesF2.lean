/- Functions of the program, and what they come to. -/
import Derived.Test.YtljhekjbdmnmnaaClashesF1
namespace Go.Tf
open Go.Proofs
set_option linter.unusedVariables false
set_option linter.unusedSimpArgs false
set_option maxRecDepth 100000
/-! spec_l3Geo -/
section
noncomputable def B_spec_l3Geo : Code := (Try.f44.body).getD .skip
noncomputable def E_spec_l3Geo : Env := envOf TT [(53, con_spec_l1Below)] []
theorem fr_spec_l3Geo_0 : FrOk Try.prog ⟨E_spec_l3Geo, 10, fun _ => none⟩ B_spec_l3Geo := frOk_base mixed tt_ok ⟨ok_spec_l1Below, trivial⟩
noncomputable def D_spec_l3Geo_0 : Nat → Option Seg := fun _ => none
abbrev I_spec_l3Geo : List Par := [.pt tU .fz]
abbrev U_spec_l3Geo : List OT := [⟨false, tG, (.pr .fz .fz)⟩]
noncomputable def raw_spec_l3Geo (a0 : (List Int) × Int × Int) : Option (ResD U_spec_l3Geo × MutD I_spec_l3Geo) :=
  bnd (raw_spec_l1Below a0 3) fun r1 =>
  bnd (raw_spec_l1Below r1.2.1 8) fun r2 =>
  some ((((IntKind.i64.wrap (3 + r1.1.1)), (IntKind.i64.wrap (1 + r2.1.1))), ()), (r2.2.1, ()))
theorem e_spec_l3Geo (x : InD I_spec_l3Geo) : execF ⟨E_spec_l3Geo, 10, D_spec_l3Geo_0⟩ Try.f44.results.toList B_spec_l3Geo I_spec_l3Geo U_spec_l3Geo x = raw_spec_l3Geo x.1 := by kernel_rfl
theorem ok0_spec_l3Geo : ConOk Try.prog 44 ⟨I_spec_l3Geo, U_spec_l3Geo, fun x => raw_spec_l3Geo x.1⟩ := conOk_exec (fr_spec_l3Geo_0) Try.func44 (by kernel_rfl) (by kernel_rfl) Try.ntmps44.symm (by decide) (fun x r h => (e_spec_l3Geo x).trans h)
noncomputable def con_spec_l3Geo : Con := ⟨I_spec_l3Geo, U_spec_l3Geo, fun x => raw_spec_l3Geo x.1⟩
theorem ok_spec_l3Geo : ConOk Try.prog 44 con_spec_l3Geo := ok0_spec_l3Geo
theorem dr_geo (u : List Int × Int × Int) (h : DrOk u) : ∃ (g : Int × Int) (u' : List Int × Int × Int), raw_spec_l3Geo u = some ((g, ()), (u', ())) ∧ n_spec_GeoOk g = true ∧ DrOk u' := by
  unfold raw_spec_l3Geo
  obtain ⟨r1, u1, e1, q1, d1⟩ := dr_below u 3 h
  obtain ⟨r2, u2, e2, q2, d2⟩ := dr_below u1 8 d1
  simp only [e1, e2, bnd_some]
  refine ⟨_, _, rfl, ?_, d2⟩
  have := q1.2.1 (by omega); have := q2.2.1 (by omega); have := q1.1; have := q2.1
  rw [wr (by omega) (by omega), wr (by omega) (by omega)]
  exact geo_iff.2 ⟨⟨by show 3 ≤ 3 + r1; omega, by show 3 + r1 ≤ 5; omega⟩, by show 1 ≤ 1 + r2; omega, by show 1 + r2 ≤ 8; omega⟩
end

/-! spec_l1Int -/
section
noncomputable def B_spec_l1Int : Code := (Try.f54.body).getD .skip
noncomputable def E_spec_l1Int : Env := envOf TT [(53, con_spec_l1Below)] []
theorem fr_spec_l1Int_0 : FrOk Try.prog ⟨E_spec_l1Int, 12, fun _ => none⟩ B_spec_l1Int := frOk_base mixed tt_ok ⟨ok_spec_l1Below, trivial⟩
noncomputable def D_spec_l1Int_0 : Nat → Option Seg := fun _ => none
abbrev I_spec_l1Int : List Par := [.pt tU .fz, .rd tL]
abbrev U_spec_l1Int : List OT := [⟨false, tI, .fz⟩]
noncomputable def raw_spec_l1Int (a0 : (List Int) × Int × Int) (a1 : List Int) : Option (ResD U_spec_l1Int × MutD I_spec_l1Int) :=
  bnd (raw_spec_l1Below a0 (a1.length : Int)) fun r1 =>
  bif (inb r1.1.1 a1.length) then
    some (((nth a1 r1.1.1 0), ()), (r1.2.1, ()))
  else none
theorem e_spec_l1Int (x : InD I_spec_l1Int) : execF ⟨E_spec_l1Int, 12, D_spec_l1Int_0⟩ Try.f54.results.toList B_spec_l1Int I_spec_l1Int U_spec_l1Int x = raw_spec_l1Int x.1 x.2.1 := by kernel_rfl
theorem ok0_spec_l1Int : ConOk Try.prog 54 ⟨I_spec_l1Int, U_spec_l1Int, fun x => raw_spec_l1Int x.1 x.2.1⟩ := conOk_exec (fr_spec_l1Int_0) Try.func54 (by kernel_rfl) (by kernel_rfl) Try.ntmps54.symm (by decide) (fun x r h => (e_spec_l1Int x).trans h)
noncomputable def con_spec_l1Int : Con := ⟨I_spec_l1Int, U_spec_l1Int, fun x => raw_spec_l1Int x.1 x.2.1⟩
theorem ok_spec_l1Int : ConOk Try.prog 54 con_spec_l1Int := ok0_spec_l1Int
theorem dr_int (u : List Int × Int × Int) (l : List Int) (h : DrOk u) (hl : l ≠ []) : ∃ (r : Int) (u' : List Int × Int × Int), raw_spec_l1Int u l = some ((r, ()), (u', ())) ∧ r ∈ l ∧ DrOk u' := by
  unfold raw_spec_l1Int
  obtain ⟨r1, u1, e1, q1, d1⟩ := dr_below u (l.length : Int) h
  have hp : 0 < l.length := List.length_pos_iff.2 hl
  have hr := q1.2.1 (by omega)
  simp only [e1, bnd_some, inb_iff.2 ⟨q1.1, hr⟩, cond_true]
  refine ⟨_, _, rfl, ?_, d1⟩
  have : r1.toNat < l.length := by have := q1.1; omega
  unfold nth
  rw [List.getD_eq_getElem?_getD, List.getElem?_eq_getElem this, Option.getD_some]
  exact List.getElem_mem this
end

/-! spec_l1Draw -/
section
noncomputable def B_spec_l1Draw : Code := (Try.f59.body).getD .skip
noncomputable def E_spec_l1Draw : Env := envOf TT [(54, con_spec_l1Int)] []
theorem fr_spec_l1Draw_0 : FrOk Try.prog ⟨E_spec_l1Draw, 6, fun _ => none⟩ B_spec_l1Draw := frOk_base mixed tt_ok ⟨ok_spec_l1Int, trivial⟩
noncomputable def D_spec_l1Draw_0 : Nat → Option Seg := fun _ => none
abbrev I_spec_l1Draw : List Par := [.pt tU .fz]
abbrev U_spec_l1Draw : List OT := [⟨false, tI, .fz⟩]
noncomputable def raw_spec_l1Draw (a0 : (List Int) × Int × Int) : Option (ResD U_spec_l1Draw × MutD I_spec_l1Draw) :=
  bnd (raw_spec_l1Int a0 ([0, 1, 2, 7, 255, 256, 4660, 65535] : List Int)) fun r1 =>
  some ((r1.1.1, ()), (r1.2.1, ()))
theorem e_spec_l1Draw (x : InD I_spec_l1Draw) : execF ⟨E_spec_l1Draw, 6, D_spec_l1Draw_0⟩ Try.f59.results.toList B_spec_l1Draw I_spec_l1Draw U_spec_l1Draw x = raw_spec_l1Draw x.1 := by kernel_rfl
theorem ok0_spec_l1Draw : ConOk Try.prog 59 ⟨I_spec_l1Draw, U_spec_l1Draw, fun x => raw_spec_l1Draw x.1⟩ := conOk_exec (fr_spec_l1Draw_0) Try.func59 (by kernel_rfl) (by kernel_rfl) Try.ntmps59.symm (by decide) (fun x r h => (e_spec_l1Draw x).trans h)
noncomputable def con_spec_l1Draw : Con := ⟨I_spec_l1Draw, U_spec_l1Draw, fun x => raw_spec_l1Draw x.1⟩
theorem ok_spec_l1Draw : ConOk Try.prog 59 con_spec_l1Draw := ok0_spec_l1Draw
theorem dr_draw (u : List Int × Int × Int) (h : DrOk u) : ∃ (r : Int) (u' : List Int × Int × Int), raw_spec_l1Draw u = some ((r, ()), (u', ())) ∧ n_spec_l1In r 0 65535 = true ∧ DrOk u' := by
  unfold raw_spec_l1Draw
  obtain ⟨r1, u1, e1, q1, d1⟩ := dr_int u [0, 1, 2, 7, 255, 256, 4660, 65535] h (by simp)
  simp only [e1, bnd_some]
  refine ⟨_, _, rfl, ?_, d1⟩
  simp only [List.mem_cons, List.not_mem_nil, or_false] at q1
  exact in_t (by omega) (by omega)
end

/-! spec_l7Some -/
section
noncomputable def B_spec_l7Some : Code := (Try.f57.body).getD .skip
noncomputable def E_spec_l7Some : Env := envOf TT [(59, con_spec_l1Draw)] []
theorem fr_spec_l7Some_0 : FrOk Try.prog ⟨E_spec_l7Some, 19, fun _ => none⟩ B_spec_l7Some := frOk_base mixed tt_ok ⟨ok_spec_l1Draw, trivial⟩
noncomputable def D_spec_l7Some_0 : Nat → Option Seg := fun _ => none
def L_spec_l7Some_29 : Shape := ⟨[(0, false, [.ptr 1000000000 0]), (1, false, [.int .i64]), (5, false, [.at 800000000]), (6, false, [.int .i64])], [(1000000000, [.fz tY, .int .i64, .int .i64])], [(800000000, tI, .fz)]⟩
def S_spec_l7Some_29 : Shape := ⟨[(0, false, [.ptr 1000000000 0]), (1, false, [.int .i64]), (5, false, [.at 800000000]), (6, false, [.ci .i64 0])], [(1000000000, [.fz tY, .int .i64, .int .i64])], [(800000000, tI, .fz)]⟩
def O_spec_l7Some_29 : Shape := ⟨[(5, false, [.at 800000000])], [(1000000000, [.fz tY, .int .i64, .int .i64])], [(800000000, tI, .fz)]⟩
def Z_spec_l7Some_29 : Shape := ⟨[], [], []⟩
noncomputable def st_spec_l7Some_29 (v0 : Int) (v1 : Int) (v2 : List Int) (v3 : Int) (v4 : Int) (v5 : List Int) : Option ((L_spec_l7Some_29).X ⊕ ((O_spec_l7Some_29).X ⊕ (Z_spec_l7Some_29).X)) :=
  bif (ltb v1 v0) then
    bnd (raw_spec_l1Draw (v2, v3, v4)) fun r2 =>
    bif (apok v5.length ([r2.1.1] : List Int).length 8) then
      some (.inl ((((), ()), (v0, ()), ((), ()), ((IntKind.i64.wrap (v1 + 1)), ()), ()), ((r2.2.1.1, r2.2.1.2.1, r2.2.1.2.2, ()), ()), ((v5 ++ ([r2.1.1] : List Int)), ())))
    else none
  else
    some (.inr (.inl ((((), ()), ()), ((v2, v3, v4, ()), ()), (v5, ()))))
noncomputable def stx_spec_l7Some_29 (x : (L_spec_l7Some_29).X) := st_spec_l7Some_29 x.1.2.1.1 x.1.2.2.2.1.1 x.2.1.1.1 x.2.1.1.2.1 x.2.1.1.2.2.1 x.2.2.1
def em_spec_l7Some_29 (x : (S_spec_l7Some_29).X) : (L_spec_l7Some_29).X := ((((), ()), (x.1.2.1.1, ()), ((), ()), (0, ()), ()), ((x.2.1.1.1, x.2.1.1.2.1, x.2.1.1.2.2.1, ()), ()), (x.2.2.1, ()))
noncomputable def c_spec_l7Some_29 : Code := (subN B_spec_l7Some 64 116).getD .skip
theorem a_spec_l7Some_29 : subN B_spec_l7Some 64 29 = some (.block 0 (.loop c_spec_l7Some_29)) := by kernel_rfl
theorem r_spec_l7Some_29 (x : (L_spec_l7Some_29).X) : roundT ⟨E_spec_l7Some, 19, D_spec_l7Some_0⟩ 0 c_spec_l7Some_29 116 L_spec_l7Some_29 O_spec_l7Some_29 Z_spec_l7Some_29 x = stx_spec_l7Some_29 x := by kernel_rfl
noncomputable def fu_spec_l7Some_29 (x : (S_spec_l7Some_29).X) : Nat := (fun (u0 : Int) (u1 : List Int) (u2 : Int) (u3 : Int) (u4 : List Int) => 18446744073709551616) x.1.2.1.1 x.2.1.1.1 x.2.1.1.2.1 x.2.1.1.2.2.1 x.2.2.1
noncomputable def F_spec_l7Some_29 (x : (S_spec_l7Some_29).X) : Option ((O_spec_l7Some_29).X ⊕ (Z_spec_l7Some_29).X) := loopN stx_spec_l7Some_29 (fu_spec_l7Some_29 x) (em_spec_l7Some_29 x)
noncomputable def sg_spec_l7Some_29 : Seg := ⟨S_spec_l7Some_29, O_spec_l7Some_29, Z_spec_l7Some_29, F_spec_l7Some_29⟩
noncomputable def D_spec_l7Some_1 : Nat → Option Seg := fun q => bif Nat.beq q 29 then some sg_spec_l7Some_29 else D_spec_l7Some_0 q
theorem fr_spec_l7Some_1 : FrOk Try.prog ⟨E_spec_l7Some, 19, D_spec_l7Some_1⟩ B_spec_l7Some := (fr_spec_l7Some_0).loop (sg := sg_spec_l7Some_29) L_spec_l7Some_29 em_spec_l7Some_29 (by decide) a_spec_l7Some_29 stx_spec_l7Some_29 fu_spec_l7Some_29 (by decide) (fun _ => rfl) (fun x r _ h => h) r_spec_l7Some_29
abbrev I_spec_l7Some : List Par := [.pt tU .fz, .rd tI]
abbrev U_spec_l7Some : List OT := [⟨false, tL, (.ow .fz)⟩]
noncomputable def raw_spec_l7Some (a0 : (List Int) × Int × Int) (a1 : Int) : Option (ResD U_spec_l7Some × MutD I_spec_l7Some) :=
  segM (F_spec_l7Some_29 ((((), ()), (a1, ()), ((), ()), ((), ()), ()), ((a0.1, a0.2.1, a0.2.2, ()), ()), (([] : List Int), ()))) (fun y2 =>
    some ((y2.2.2.1, ()), ((y2.2.1.1.1, y2.2.1.1.2.1, y2.2.1.1.2.2.1), ()))) (fun y2 =>
    none)
theorem e_spec_l7Some (x : InD I_spec_l7Some) : execF ⟨E_spec_l7Some, 19, D_spec_l7Some_1⟩ Try.f57.results.toList B_spec_l7Some I_spec_l7Some U_spec_l7Some x = raw_spec_l7Some x.1 x.2.1 := by kernel_rfl
theorem ok0_spec_l7Some : ConOk Try.prog 57 ⟨I_spec_l7Some, U_spec_l7Some, fun x => raw_spec_l7Some x.1 x.2.1⟩ := conOk_exec (fr_spec_l7Some_1) Try.func57 (by kernel_rfl) (by kernel_rfl) Try.ntmps57.symm (by decide) (fun x r h => (e_spec_l7Some x).trans h)
noncomputable def con_spec_l7Some : Con := ⟨I_spec_l7Some, U_spec_l7Some, fun x => raw_spec_l7Some x.1 x.2.1⟩
theorem ok_spec_l7Some : ConOk Try.prog 57 con_spec_l7Some := ok0_spec_l7Some
theorem dr_some (u : List Int × Int × Int) (n : Int) (h : DrOk u) (hn : n ≤ 1048576) : ∃ (l : List Int) (u' : List Int × Int × Int), raw_spec_l7Some u n = some ((l, ()), (u', ())) ∧ ((l.length : Int) = max 0 n ∧ ∀ x ∈ l, n_spec_l1In x 0 65535 = true) ∧ DrOk u' := by
  have hl : ∃ b, F_spec_l7Some_29 ((((), ()), (n, ()), ((), ()), ((), ()), ()), ((u.1, u.2.1, u.2.2, ()), ()), (([] : List Int), ())) = some b ∧
      ∃ (l : List Int) (u' : List Int × Int × Int), b = .inl ((((), ()), ()), ((u'.1, u'.2.1, u'.2.2, ()), ()), (l, ())) ∧ ((l.length : Int) = max 0 n ∧ ∀ x ∈ l, n_spec_l1In x 0 65535 = true) ∧ DrOk u' := by
    refine loopN_ind (step := stx_spec_l7Some_29) (fun x => (n - (x.1.2.2.2.1.1 : Int)).toNat)
      (fun x => (x.1.2.1.1 : Int) = n ∧ ((0 : Int) ≤ (x.1.2.2.2.1.1 : Int) ∧ (x.1.2.2.2.1.1 : Int) ≤ max 0 n) ∧ (List.length (α := Int) x.2.2.1 : Int) = (x.1.2.2.2.1.1 : Int) ∧ (∀ y ∈ (x.2.2.1 : List Int), n_spec_l1In y 0 65535 = true) ∧ DrOk (x.2.1.1.1, x.2.1.1.2.1, x.2.1.1.2.2.1)) _ ?_ _ _
      ⟨rfl, ⟨Int.le_refl _, by show (0 : Int) ≤ max 0 n; omega⟩, rfl, fun y hy => absurd hy List.not_mem_nil, h⟩ (by show (n - 0).toNat < 18446744073709551616; omega)
    rintro ⟨⟨⟨_, _⟩, ⟨(n : Int), _⟩, ⟨_, _⟩, ⟨(i : Int), _⟩, _⟩, ⟨⟨(c : List Int), (p : Int), (sd : Int), _⟩, _⟩, ⟨(l : List Int), _⟩⟩ ⟨h0, ⟨hi, hi2⟩, hll, hw, hd⟩
    simp only at h0 hi hi2 hll hw hd
    subst h0
    simp only [stx_spec_l7Some_29, st_spec_l7Some_29]
    by_cases h1 : i < n
    · rw [ltb_t h1]
      obtain ⟨r1, u1, e1, q1, d1⟩ := dr_draw (c, p, sd) hd
      rw [e1, bnd_some]
      dsimp only
      rw [show apok l.length ([r1] : List Int).length 8 = true from apok_iff.2 (by simp only [List.length_cons, List.length_nil]; omega), bif_t, bif_t]
      refine .inl ⟨_, rfl, ⟨rfl, ⟨?_, ?_⟩, ?_, ?_, d1⟩, ?_⟩
      · show 0 ≤ IntKind.i64.wrap (i + 1); rw [wr (by omega) (by omega)]; omega
      · show IntKind.i64.wrap (i + 1) ≤ _; rw [wr (by omega) (by omega)]; omega
      · show ((l ++ [r1]).length : Int) = IntKind.i64.wrap (i + 1); rw [wr (by omega) (by omega), List.length_append]; simp only [List.length_cons, List.length_nil]; omega
      · intro y hy
        rcases List.mem_append.1 hy with hy | hy
        · exact hw y hy
        · rw [List.mem_singleton.1 hy]; exact q1
      · show (n - IntKind.i64.wrap (i + 1)).toNat < (n - i).toNat; rw [wr (by omega) (by omega)]; omega
    · rw [ltb_f (Int.not_lt.1 h1)]
      have k1 : (i : Int) ≤ max 0 n := hi2
      have k2 : (l.length : Int) = i := hll
      have k3 : (0 : Int) ≤ i := hi
      exact .inr ⟨_, rfl, l, (c, p, sd), rfl, ⟨by omega, hw⟩, hd⟩
  obtain ⟨b, e, l, u', rfl, hq, hd⟩ := hl
  unfold raw_spec_l7Some
  rw [e]
  exact ⟨_, _, rfl, hq, hd⟩
end

/-! spec_l13Draw -/
section
noncomputable def B_spec_l13Draw : Code := (Try.f45.body).getD .skip
noncomputable def E_spec_l13Draw : Env := envOf TT [(36, con_spec_Blocks), (53, con_spec_l1Below), (54, con_spec_l1Int), (57, con_spec_l7Some)] []
theorem fr_spec_l13Draw_0 : FrOk Try.prog ⟨E_spec_l13Draw, 55, fun _ => none⟩ B_spec_l13Draw := frOk_base mixed tt_ok ⟨ok_spec_Blocks, ok_spec_l1Below, ok_spec_l1Int, ok_spec_l7Some, trivial⟩
noncomputable def D_spec_l13Draw_0 : Nat → Option Seg := fun _ => none
abbrev I_spec_l13Draw : List Par := [.pt tU .fz, .rd tG]
abbrev U_spec_l13Draw : List OT := [⟨false, tC, (.pr .fz (.pr .fz (.pr .fz (.pr .fz (.ow .fz)))))⟩]
noncomputable def raw_spec_l13Draw (a0 : (List Int) × Int × Int) (a1 : Int × Int) : Option (ResD U_spec_l13Draw × MutD I_spec_l13Draw) :=
  bnd (raw_spec_l1Int a0 ([1, 1, 2, 2, 2, 3, 3, 4, 5, 6] : List Int)) fun r1 =>
  bnd (raw_spec_l1Below r1.2.1 99) fun r2 =>
  bif (r1.1.1 == 4) then
    some (((r1.1.1, (IntKind.i64.wrap (1 + r2.1.1)), 0, 0, []), ()), (r2.2.1, ()))
  else
    bnd (raw_spec_l1Below r2.2.1 4) fun r3 =>
    let r4 := n_spec_Blocks a1
    bif (ltb r4 (IntKind.i64.wrap (1 + r3.1.1))) then
      let r5 := n_spec_Blocks a1
      bnd (raw_spec_l1Below r3.2.1 (IntKind.i64.wrap ((IntKind.i64.wrap (r5 - 1)) + 1))) fun r6 =>
      bif (r1.1.1 == 1) then
        bif (r1.1.1 == 1) then
          some (((r1.1.1, (IntKind.i64.wrap (1 + r2.1.1)), r6.1.1, 1, []), ()), (r6.2.1, ()))
        else
          bif (r1.1.1 == 5) then
            bnd (raw_spec_l1Int r6.2.1 ([0, 0, 1, 2] : List Int)) fun r7 =>
            bnd (raw_spec_l1Int r7.2.1 ([0, 1, 2, 7] : List Int)) fun r8 =>
            some (((r1.1.1, (IntKind.i64.wrap (1 + r2.1.1)), r6.1.1, 0, ([r7.1.1, r8.1.1] : List Int)), ()), (r8.2.1, ()))
          else
            bnd (raw_spec_l7Some r6.2.1 1) fun r9 =>
            some (((r1.1.1, (IntKind.i64.wrap (1 + r2.1.1)), r6.1.1, 0, r9.1.1), ()), (r9.2.1, ()))
      else
        bif (r1.1.1 == 6) then
          some (((r1.1.1, (IntKind.i64.wrap (1 + r2.1.1)), r6.1.1, 1, []), ()), (r6.2.1, ()))
        else
          bif (r1.1.1 == 5) then
            bnd (raw_spec_l1Int r6.2.1 ([0, 0, 1, 2] : List Int)) fun r10 =>
            bnd (raw_spec_l1Int r10.2.1 ([0, 1, 2, 7] : List Int)) fun r11 =>
            some (((r1.1.1, (IntKind.i64.wrap (1 + r2.1.1)), r6.1.1, 0, ([r10.1.1, r11.1.1] : List Int)), ()), (r11.2.1, ()))
          else
            bnd (raw_spec_l7Some r6.2.1 1) fun r12 =>
            some (((r1.1.1, (IntKind.i64.wrap (1 + r2.1.1)), r6.1.1, 0, r12.1.1), ()), (r12.2.1, ()))
    else
      let r13 := n_spec_Blocks a1
      bnd (raw_spec_l1Below r3.2.1 (IntKind.i64.wrap ((IntKind.i64.wrap (r13 - (IntKind.i64.wrap (1 + r3.1.1)))) + 1))) fun r14 =>
      bif (r1.1.1 == 1) then
        bif (r1.1.1 == 1) then
          some (((r1.1.1, (IntKind.i64.wrap (1 + r2.1.1)), r14.1.1, (IntKind.i64.wrap (1 + r3.1.1)), []), ()), (r14.2.1, ()))
        else
          bif (r1.1.1 == 5) then
            bnd (raw_spec_l1Int r14.2.1 ([0, 0, 1, 2] : List Int)) fun r15 =>
            bnd (raw_spec_l1Int r15.2.1 ([0, 1, 2, 7] : List Int)) fun r16 =>
            some (((r1.1.1, (IntKind.i64.wrap (1 + r2.1.1)), r14.1.1, 0, ([r15.1.1, r16.1.1] : List Int)), ()), (r16.2.1, ()))
          else
            bnd (raw_spec_l7Some r14.2.1 (IntKind.i64.wrap (1 + r3.1.1))) fun r17 =>
            some (((r1.1.1, (IntKind.i64.wrap (1 + r2.1.1)), r14.1.1, 0, r17.1.1), ()), (r17.2.1, ()))
      else
        bif (r1.1.1 == 6) then
          some (((r1.1.1, (IntKind.i64.wrap (1 + r2.1.1)), r14.1.1, (IntKind.i64.wrap (1 + r3.1.1)), []), ()), (r14.2.1, ()))
        else
          bif (r1.1.1 == 5) then
            bnd (raw_spec_l1Int r14.2.1 ([0, 0, 1, 2] : List Int)) fun r18 =>
            bnd (raw_spec_l1Int r18.2.1 ([0, 1, 2, 7] : List Int)) fun r19 =>
            some (((r1.1.1, (IntKind.i64.wrap (1 + r2.1.1)), r14.1.1, 0, ([r18.1.1, r19.1.1] : List Int)), ()), (r19.2.1, ()))
          else
            bnd (raw_spec_l7Some r14.2.1 (IntKind.i64.wrap (1 + r3.1.1))) fun r20 =>
            some (((r1.1.1, (IntKind.i64.wrap (1 + r2.1.1)), r14.1.1, 0, r20.1.1), ()), (r20.2.1, ()))
theorem e_spec_l13Draw (x : InD I_spec_l13Draw) : execF ⟨E_spec_l13Draw, 55, D_spec_l13Draw_0⟩ Try.f45.results.toList B_spec_l13Draw I_spec_l13Draw U_spec_l13Draw x = raw_spec_l13Draw x.1 x.2.1 := by kernel_rfl
theorem ok0_spec_l13Draw : ConOk Try.prog 45 ⟨I_spec_l13Draw, U_spec_l13Draw, fun x => raw_spec_l13Draw x.1 x.2.1⟩ := conOk_exec (fr_spec_l13Draw_0) Try.func45 (by kernel_rfl) (by kernel_rfl) Try.ntmps45.symm (by decide) (fun x r h => (e_spec_l13Draw x).trans h)
noncomputable def con_spec_l13Draw : Con := ⟨I_spec_l13Draw, U_spec_l13Draw, fun x => raw_spec_l13Draw x.1 x.2.1⟩
theorem ok_spec_l13Draw : ConOk Try.prog 45 con_spec_l13Draw := ok0_spec_l13Draw
/-- a command that the geometry takes -/
def CmdOk (g : Int × Int) (c : Int × Int × Int × Int × List Int) : Prop :=
  (1 ≤ c.2.1 ∧ c.2.1 ≤ 999) ∧ c.2.2.2.2.length ≤ 6 ∧ (∀ x ∈ c.2.2.2.2, n_spec_l1In x 0 65535 = true) ∧ (0 ≤ c.2.2.1 ∧ c.2.2.1 ≤ 32 ∧ 0 ≤ c.2.2.2.1 ∧ c.2.2.2.1 ≤ 6) ∧
    (c.1 = 4 ∨ (0 ≤ c.2.2.1 ∧ (((c.1 = 1 ∨ c.1 = 6) ∧ (1 ≤ c.2.2.2.1 ∧ c.2.2.2.1 ≤ 6) ∧ c.2.2.1 ≤ n_spec_Blocks g - c.2.2.2.1) ∨
      ((c.1 = 2 ∨ c.1 = 3) ∧ 1 ≤ c.2.2.2.2.length ∧ c.2.2.1 ≤ n_spec_Blocks g - c.2.2.2.2.length) ∨ (c.1 = 5 ∧ c.2.2.2.2.length = 2 ∧ c.2.2.1 ≤ n_spec_Blocks g - 1))))
theorem spec_Blocks_ge {g : Int × Int} (h : n_spec_GeoOk g = true) : 2 ≤ n_spec_Blocks g := by
  rw [spec_Blocks_eq h]
  obtain ⟨⟨h1, h2⟩, h3, h4⟩ := geo_iff.1 h
  have : 1 * 2 ≤ g.2 * (g.1 - 1) := Int.mul_le_mul h3 (by omega) (by omega) (by omega)
  omega
theorem dr_l13Draw (u : List Int × Int × Int) (g : Int × Int) (h : DrOk u) (hg : n_spec_GeoOk g = true) :
    ∃ (c : Int × Int × Int × Int × List Int) (u' : List Int × Int × Int), raw_spec_l13Draw u g = some ((c, ()), (u', ())) ∧ CmdOk g c ∧ DrOk u' := by
  obtain ⟨op, u1, e1, q1, d1⟩ := dr_int u [1, 1, 2, 2, 2, 3, 3, 4, 5, 6] h (by simp)
  obtain ⟨r2, u2, e2, q2, d2⟩ := dr_below u1 99 d1
  obtain ⟨r3, u3, e3, q3, d3⟩ := dr_below u2 4 d2
  have hB := spec_Blocks_ge hg
  have hB2 := (spec_Blocks_le g).2
  have := q2.1; have := q2.2.1 (by omega); have := q3.1; have := q3.2.1 (by omega)
  have hid : IntKind.i64.wrap (1 + r2) = 1 + r2 := wr (by omega) (by omega)
  have hn : IntKind.i64.wrap (1 + r3) = 1 + r3 := wr (by omega) (by omega)
  have key : ∀ n : Int, 1 ≤ n → n ≤ 4 → n ≤ n_spec_Blocks g → op ≠ 4 → ∃ (c : Int × Int × Int × Int × List Int) (u' : List Int × Int × Int),
      (bnd (raw_spec_l1Below u3 (IntKind.i64.wrap ((IntKind.i64.wrap (n_spec_Blocks g - n)) + 1))) fun r6 =>
      bif (op == 1) then
        bif (op == 1) then
          some (((op, 1 + r2, r6.1.1, n, []), ()), (r6.2.1, ()))
        else
          bif (op == 5) then
            bnd (raw_spec_l1Int r6.2.1 ([0, 0, 1, 2] : List Int)) fun r7 =>
            bnd (raw_spec_l1Int r7.2.1 ([0, 1, 2, 7] : List Int)) fun r8 =>
            some (((op, 1 + r2, r6.1.1, 0, ([r7.1.1, r8.1.1] : List Int)), ()), (r8.2.1, ()))
          else
            bnd (raw_spec_l7Some r6.2.1 n) fun r9 =>
            some (((op, 1 + r2, r6.1.1, 0, r9.1.1), ()), (r9.2.1, ()))
      else
        bif (op == 6) then
          some (((op, 1 + r2, r6.1.1, n, []), ()), (r6.2.1, ()))
        else
          bif (op == 5) then
            bnd (raw_spec_l1Int r6.2.1 ([0, 0, 1, 2] : List Int)) fun r10 =>
            bnd (raw_spec_l1Int r10.2.1 ([0, 1, 2, 7] : List Int)) fun r11 =>
            some (((op, 1 + r2, r6.1.1, 0, ([r10.1.1, r11.1.1] : List Int)), ()), (r11.2.1, ()))
          else
            bnd (raw_spec_l7Some r6.2.1 n) fun r12 =>
            some (((op, 1 + r2, r6.1.1, 0, r12.1.1), ()), (r12.2.1, ()))) = (some ((c, ()), (u', ())) : Option (ResD U_spec_l13Draw × MutD I_spec_l13Draw)) ∧ CmdOk g c ∧ DrOk u' := by
    intro n n1 n4 nB h4
    have hw : IntKind.i64.wrap ((IntKind.i64.wrap (n_spec_Blocks g - n)) + 1) = n_spec_Blocks g - n + 1 := by
      rw [wr (show -9223372036854775808 ≤ n_spec_Blocks g - n by omega) (by omega), wr (by omega) (by omega)]
    obtain ⟨at', u4, e4, q4, d4⟩ := dr_below u3 (n_spec_Blocks g - n + 1) d3
    have := q4.1; have := q4.2.1 (by omega)
    rw [hw, e4, bnd_some]
    simp only [List.mem_cons, List.not_mem_nil, or_false] at q1
    by_cases h1 : op = 1
    · subst h1
      exact ⟨_, _, rfl, ⟨⟨by show 1 ≤ 1 + r2; omega, by show 1 + r2 ≤ 999; omega⟩, by simp, by simp, by dsimp only; omega, .inr ⟨q4.1, .inl ⟨.inl rfl, ⟨n1, by show n ≤ 6; omega⟩, by show at' ≤ n_spec_Blocks g - n; omega⟩⟩⟩, d4⟩
    · rw [show (op == 1) = false from beq_eq_false_iff_ne.2 h1, bif_f]
      by_cases h6 : op = 6
      · subst h6
        exact ⟨_, _, rfl, ⟨⟨by show 1 ≤ 1 + r2; omega, by show 1 + r2 ≤ 999; omega⟩, by simp, by simp, by dsimp only; omega, .inr ⟨q4.1, .inl ⟨.inr rfl, ⟨n1, by show n ≤ 6; omega⟩, by show at' ≤ n_spec_Blocks g - n; omega⟩⟩⟩, d4⟩
      · rw [show (op == 6) = false from beq_eq_false_iff_ne.2 h6, bif_f]
        by_cases h5 : op = 5
        · subst h5
          obtain ⟨x1, u5, e5, q5, d5⟩ := dr_int u4 [0, 0, 1, 2] d4 (by simp)
          obtain ⟨x2, u6, e6, q6, d6⟩ := dr_int u5 [0, 1, 2, 7] d5 (by simp)
          simp only [List.mem_cons, List.not_mem_nil, or_false] at q5 q6
          simp only [beq_self_eq_true, cond_true, e5, e6, bnd_some]
          refine ⟨_, _, rfl, ⟨⟨by show 1 ≤ 1 + r2; omega, by show 1 + r2 ≤ 999; omega⟩, by simp, ?_, by dsimp only; omega, .inr ⟨q4.1, .inr (.inr ⟨rfl, rfl, by show at' ≤ n_spec_Blocks g - 1; omega⟩)⟩⟩, d6⟩
          intro y hy
          simp only [List.mem_cons, List.not_mem_nil, or_false] at hy
          exact in_t (by omega) (by omega)
        · rw [show (op == 5) = false from beq_eq_false_iff_ne.2 h5, bif_f]
          obtain ⟨l, u5, e5, q5, d5⟩ := dr_some u4 n d4 (by omega)
          have hl := q5.1
          rw [e5, bnd_some]
          refine ⟨_, _, rfl, ⟨⟨by show 1 ≤ 1 + r2; omega, by show 1 + r2 ≤ 999; omega⟩, by show l.length ≤ 6; omega, q5.2, by dsimp only; omega, .inr ⟨q4.1, .inr (.inl ⟨by show op = 2 ∨ op = 3; omega, by show 1 ≤ l.length; omega, by show at' ≤ n_spec_Blocks g - l.length; omega⟩)⟩⟩, d5⟩
  unfold raw_spec_l13Draw
  simp only [e1, e2, e3, bnd_some, hid, hn]
  by_cases h4 : op = 4
  · subst h4
    exact ⟨_, _, rfl, ⟨⟨by show 1 ≤ 1 + r2; omega, by show 1 + r2 ≤ 999; omega⟩, by simp, by simp, by dsimp only; omega, .inl rfl⟩, d2⟩
  · rw [show (op == 4) = false from beq_eq_false_iff_ne.2 h4, bif_f]
    by_cases hb : n_spec_Blocks g < 1 + r3
    · rw [ltb_t hb, bif_t]
      exact key 1 (by omega) (by omega) (by omega) h4
    · rw [ltb_f (by omega), bif_f]
      exact key (1 + r3) (by omega) (by omega) (by omega) h4
end

/-! spec_DrawCmds -/
section
noncomputable def B_spec_DrawCmds : Code := (Try.f26.body).getD .skip
noncomputable def E_spec_DrawCmds : Env := envOf TT [(43, con_spec_l1New), (44, con_spec_l3Geo), (45, con_spec_l13Draw)] []
theorem fr_spec_DrawCmds_0 : FrOk Try.prog ⟨E_spec_DrawCmds, 20, fun _ => none⟩ B_spec_DrawCmds := frOk_base mixed tt_ok ⟨ok_spec_l1New, ok_spec_l3Geo, ok_spec_l13Draw, trivial⟩
noncomputable def D_spec_DrawCmds_0 : Nat → Option Seg := fun _ => none
abbrev I_spec_DrawCmds : List Par := [.kp tYs .fz]
abbrev U_spec_DrawCmds : List OT := [⟨false, tG, .fz⟩, ⟨false, tC, .fz⟩, ⟨false, tC, .fz⟩]
noncomputable def raw_spec_DrawCmds (a0 : List Int) : Option (ResD U_spec_DrawCmds × MutD I_spec_DrawCmds) :=
  let r1 := n_spec_l1New a0
  bnd (raw_spec_l3Geo r1) fun r2 =>
  bnd (raw_spec_l13Draw r2.2.1 r2.1.1) fun r3 =>
  bnd (raw_spec_l13Draw r3.2.1 r2.1.1) fun r4 =>
  some ((r2.1.1, r3.1.1, r4.1.1, ()), ())
theorem e_spec_DrawCmds (x : InD I_spec_DrawCmds) : execF ⟨E_spec_DrawCmds, 20, D_spec_DrawCmds_0⟩ Try.f26.results.toList B_spec_DrawCmds I_spec_DrawCmds U_spec_DrawCmds x = raw_spec_DrawCmds x.1 := by kernel_rfl
theorem ok0_spec_DrawCmds : ConOk Try.prog 26 ⟨I_spec_DrawCmds, U_spec_DrawCmds, fun x => raw_spec_DrawCmds x.1⟩ := conOk_exec (fr_spec_DrawCmds_0) Try.func26 (by kernel_rfl) (by kernel_rfl) Try.ntmps26.symm (by decide) (fun x r h => (e_spec_DrawCmds x).trans h)
noncomputable def con_spec_DrawCmds : Con := ⟨I_spec_DrawCmds, U_spec_DrawCmds, fun x => raw_spec_DrawCmds x.1⟩
theorem ok_spec_DrawCmds : ConOk Try.prog 26 con_spec_DrawCmds := ok0_spec_DrawCmds
theorem dr_DrawCmds (a0 : List Int) (hb : a0.length ≤ 140737488355328) : ∃ (g : Int × Int) (a b : Int × Int × Int × Int × List Int), raw_spec_DrawCmds a0 = some ((g, a, b, ()), ()) ∧ n_spec_GeoOk g = true ∧ CmdOk g a ∧ CmdOk g b := by
  unfold raw_spec_DrawCmds
  obtain ⟨g, u1, e1, q1, d1⟩ := dr_geo _ (dr_new a0 hb)
  obtain ⟨a, u2, e2, q2, d2⟩ := dr_l13Draw u1 g d1 q1
  obtain ⟨b, u3, e3, q3, d3⟩ := dr_l13Draw u2 g d2 q1
  simp only [e1, e2, e3, bnd_some]
  exact ⟨g, a, b, rfl, q1, q2, q3⟩
end
end Go.Tf
