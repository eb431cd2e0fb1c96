/- Functions of the program, and what they come to. -/
import Derived.Test.YtgmadfpnljibhaaModelsF0
namespace Go.Tf
open Go.Proofs
set_option synthInstance.maxHeartbeats 400000
set_option synthInstance.maxSize 10000
set_option linter.unusedVariables false
set_option linter.unusedSimpArgs false
set_option maxRecDepth 100000
/-! spec_l3Geo -/
section
noncomputable def B_spec_l3Geo : Code := (Try.f51.body).getD .skip
noncomputable def E_spec_l3Geo : Env := envOf TT [(47, con_spec_l1Below)] []
theorem fr_spec_l3Geo_0 : FrOk Try.prog ⟨E_spec_l3Geo, 10, fun _ => none⟩ B_spec_l3Geo := frOk_base mixed tt_ok ⟨ok_spec_l1Below, trivial⟩
noncomputable def D_spec_l3Geo_0 : Nat → Option Seg := fun _ => none
abbrev I_spec_l3Geo : List Par := [.pt tU .fz]
abbrev U_spec_l3Geo : List OT := [⟨false, tG, (.pr .fz .fz)⟩]
noncomputable def raw_spec_l3Geo (a0 : dU) : Option (ResD U_spec_l3Geo × MutD I_spec_l3Geo) :=
  bnd (raw_spec_l1Below a0 3) fun r1 =>
  bnd (raw_spec_l1Below r1.2.1 8) fun r2 =>
  some ((((IntKind.i64.wrap (3 + r1.1.1)), (IntKind.i64.wrap (1 + r2.1.1))), ()), (r2.2.1, ()))
theorem e_spec_l3Geo (x : InD I_spec_l3Geo) : execF ⟨E_spec_l3Geo, 10, D_spec_l3Geo_0⟩ Try.f51.results.toList B_spec_l3Geo I_spec_l3Geo U_spec_l3Geo x = raw_spec_l3Geo x.1 := by kernel_rfl
theorem ok0_spec_l3Geo : ConOk Try.prog 51 ⟨I_spec_l3Geo, U_spec_l3Geo, fun x => raw_spec_l3Geo x.1⟩ := conOk_exec (fr_spec_l3Geo_0) Try.func51 (by kernel_rfl) (by kernel_rfl) Try.ntmps51.symm (by decide) (fun x r h => (e_spec_l3Geo x).trans h)
noncomputable def con_spec_l3Geo : Con := ⟨I_spec_l3Geo, U_spec_l3Geo, fun x => raw_spec_l3Geo x.1⟩
theorem ok_spec_l3Geo : ConOk Try.prog 51 con_spec_l3Geo := ok0_spec_l3Geo
theorem dr_geo (u : List Int × Int × Int) (h : DrOk u) : ∃ (g : Int × Int) (u' : List Int × Int × Int), raw_spec_l3Geo u = some ((g, ()), (u', ())) ∧ n_spec_GeoOk g = true ∧ DrOk u' := by
  unfold raw_spec_l3Geo
  obtain ⟨r1, u1, e1, q1, d1⟩ := dr_below u 3 h
  obtain ⟨r2, u2, e2, q2, d2⟩ := dr_below u1 8 d1
  simp only [e1, e2, bnd_some]
  refine ⟨_, _, rfl, ?_, d2⟩
  have := q1.2.1 (by omega); have := q2.2.1 (by omega); have := q1.1; have := q2.1
  rw [wr (by omega) (by omega), wr (by omega) (by omega)]
  exact geo_iff.2 ⟨⟨by show 3 ≤ 3 + r1; omega, by show 3 + r1 ≤ 5; omega⟩, by show 1 ≤ 1 + r2; omega, by show 1 + r2 ≤ 8; omega⟩
end

/-! spec_l1Int -/
section
noncomputable def B_spec_l1Int : Code := (Try.f85.body).getD .skip
noncomputable def E_spec_l1Int : Env := envOf TT [(47, con_spec_l1Below)] []
theorem fr_spec_l1Int_0 : FrOk Try.prog ⟨E_spec_l1Int, 12, fun _ => none⟩ B_spec_l1Int := frOk_base mixed tt_ok ⟨ok_spec_l1Below, trivial⟩
noncomputable def D_spec_l1Int_0 : Nat → Option Seg := fun _ => none
abbrev I_spec_l1Int : List Par := [.pt tU .fz, .rd tL]
abbrev U_spec_l1Int : List OT := [⟨false, tI, .fz⟩]
noncomputable def raw_spec_l1Int (a0 : dU) (a1 : List Int) : Option (ResD U_spec_l1Int × MutD I_spec_l1Int) :=
  bnd (raw_spec_l1Below a0 (a1.length : Int)) fun r1 =>
  bif (inb r1.1.1 a1.length) then
    some (((nth a1 r1.1.1 0), ()), (r1.2.1, ()))
  else none
theorem e_spec_l1Int (x : InD I_spec_l1Int) : execF ⟨E_spec_l1Int, 12, D_spec_l1Int_0⟩ Try.f85.results.toList B_spec_l1Int I_spec_l1Int U_spec_l1Int x = raw_spec_l1Int x.1 x.2.1 := by kernel_rfl
theorem ok0_spec_l1Int : ConOk Try.prog 85 ⟨I_spec_l1Int, U_spec_l1Int, fun x => raw_spec_l1Int x.1 x.2.1⟩ := conOk_exec (fr_spec_l1Int_0) Try.func85 (by kernel_rfl) (by kernel_rfl) Try.ntmps85.symm (by decide) (fun x r h => (e_spec_l1Int x).trans h)
noncomputable def con_spec_l1Int : Con := ⟨I_spec_l1Int, U_spec_l1Int, fun x => raw_spec_l1Int x.1 x.2.1⟩
theorem ok_spec_l1Int : ConOk Try.prog 85 con_spec_l1Int := ok0_spec_l1Int
theorem dr_int (u : List Int × Int × Int) (l : List Int) (h : DrOk u) (hl : l ≠ []) : ∃ (r : Int) (u' : List Int × Int × Int), raw_spec_l1Int u l = some ((r, ()), (u', ())) ∧ r ∈ l ∧ DrOk u' := by
  unfold raw_spec_l1Int
  obtain ⟨r1, u1, e1, q1, d1⟩ := dr_below u (l.length : Int) h
  have hp : 0 < l.length := List.length_pos_iff.2 hl
  have hr := q1.2.1 (by omega)
  simp only [e1, bnd_some, inb_iff.2 ⟨q1.1, hr⟩, cond_true]
  refine ⟨_, _, rfl, ?_, d1⟩
  have : r1.toNat < l.length := by have := q1.1; omega
  unfold nth
  rw [List.getD_eq_getElem?_getD, List.getElem?_eq_getElem this, Option.getD_some]
  exact List.getElem_mem this
end

/-! spec_l3Any -/
section
noncomputable def B_spec_l3Any : Code := (Try.f45.body).getD .skip
noncomputable def E_spec_l3Any : Env := envOf TT [(47, con_spec_l1Below), (51, con_spec_l3Geo), (85, con_spec_l1Int)] []
theorem fr_spec_l3Any_0 : FrOk Try.prog ⟨E_spec_l3Any, 21, fun _ => none⟩ B_spec_l3Any := frOk_base mixed tt_ok ⟨ok_spec_l1Below, ok_spec_l3Geo, ok_spec_l1Int, trivial⟩
noncomputable def D_spec_l3Any_0 : Nat → Option Seg := fun _ => none
abbrev I_spec_l3Any : List Par := [.pt tU .fz]
abbrev U_spec_l3Any : List OT := [⟨false, tG, (.pr .fz .fz)⟩]
noncomputable def raw_spec_l3Any (a0 : dU) : Option (ResD U_spec_l3Any × MutD I_spec_l3Any) :=
  bnd (raw_spec_l3Geo a0) fun r1 =>
  bnd (raw_spec_l1Below r1.2.1 8) fun r2 =>
  bif (r2.1.1 == 0) then
    bnd (raw_spec_l1Int r2.2.1 ([0, 2, 6, (-1)] : List Int)) fun r3 =>
    some (((r3.1.1, r1.1.1.2), ()), (r3.2.1, ()))
  else
    bif (r2.1.1 == 1) then
      bnd (raw_spec_l1Int r2.2.1 ([0, 9, (-1)] : List Int)) fun r4 =>
      some (((r1.1.1.1, r4.1.1), ()), (r4.2.1, ()))
    else
      some ((r1.1.1, ()), (r2.2.1, ()))
theorem e_spec_l3Any (x : InD I_spec_l3Any) : execF ⟨E_spec_l3Any, 21, D_spec_l3Any_0⟩ Try.f45.results.toList B_spec_l3Any I_spec_l3Any U_spec_l3Any x = raw_spec_l3Any x.1 := by kernel_rfl
theorem ok0_spec_l3Any : ConOk Try.prog 45 ⟨I_spec_l3Any, U_spec_l3Any, fun x => raw_spec_l3Any x.1⟩ := conOk_exec (fr_spec_l3Any_0) Try.func45 (by kernel_rfl) (by kernel_rfl) Try.ntmps45.symm (by decide) (fun x r h => (e_spec_l3Any x).trans h)
noncomputable def con_spec_l3Any : Con := ⟨I_spec_l3Any, U_spec_l3Any, fun x => raw_spec_l3Any x.1⟩
theorem ok_spec_l3Any : ConOk Try.prog 45 con_spec_l3Any := ok0_spec_l3Any
theorem dr_l3Any (u : dU) (h : DrOk u) : ∃ (g : dG) (u' : dU), raw_spec_l3Any u = some ((g, ()), (u', ())) ∧ DrOk u' := by
  unfold raw_spec_l3Any
  obtain ⟨g, u1, e1, _, d1⟩ := dr_geo u h
  obtain ⟨r, u2, e2, _, d2⟩ := dr_below u1 8 d1
  simp only [e1, e2, bnd_some]
  cases (r == 0)
  · cases (r == 1)
    · exact ⟨_, _, rfl, d2⟩
    · obtain ⟨r3, u3, e3, _, d3⟩ := dr_int u2 [0, 9, (-1)] d2 (by simp)
      simp only [cond_true, cond_false, e3, bnd_some]
      exact ⟨_, _, rfl, d3⟩
  · obtain ⟨r3, u3, e3, _, d3⟩ := dr_int u2 [0, 2, 6, (-1)] d2 (by simp)
    simp only [cond_true, e3, bnd_some]
    exact ⟨_, _, rfl, d3⟩
end

/-! spec_l1Once -/
section
noncomputable def B_spec_l1Once : Code := (Try.f86.body).getD .skip
noncomputable def E_spec_l1Once : Env := envOf TT [(47, con_spec_l1Below)] []
theorem fr_spec_l1Once_0 : FrOk Try.prog ⟨E_spec_l1Once, 9, fun _ => none⟩ B_spec_l1Once := frOk_base mixed tt_ok ⟨ok_spec_l1Below, trivial⟩
noncomputable def D_spec_l1Once_0 : Nat → Option Seg := fun _ => none
abbrev I_spec_l1Once : List Par := [.pt tU .fz, .rd tI]
abbrev U_spec_l1Once : List OT := [⟨false, tB, .fz⟩]
noncomputable def raw_spec_l1Once (a0 : dU) (a1 : Int) : Option (ResD U_spec_l1Once × MutD I_spec_l1Once) :=
  bnd (raw_spec_l1Below a0 a1) fun r1 =>
  some (((r1.1.1 == 0), ()), (r1.2.1, ()))
theorem e_spec_l1Once (x : InD I_spec_l1Once) : execF ⟨E_spec_l1Once, 9, D_spec_l1Once_0⟩ Try.f86.results.toList B_spec_l1Once I_spec_l1Once U_spec_l1Once x = raw_spec_l1Once x.1 x.2.1 := by kernel_rfl
theorem ok0_spec_l1Once : ConOk Try.prog 86 ⟨I_spec_l1Once, U_spec_l1Once, fun x => raw_spec_l1Once x.1 x.2.1⟩ := conOk_exec (fr_spec_l1Once_0) Try.func86 (by kernel_rfl) (by kernel_rfl) Try.ntmps86.symm (by decide) (fun x r h => (e_spec_l1Once x).trans h)
noncomputable def con_spec_l1Once : Con := ⟨I_spec_l1Once, U_spec_l1Once, fun x => raw_spec_l1Once x.1 x.2.1⟩
theorem ok_spec_l1Once : ConOk Try.prog 86 con_spec_l1Once := ok0_spec_l1Once
theorem dr_once (u : dU) (n : Int) (h : DrOk u) : ∃ (r : Bool) (u' : dU), raw_spec_l1Once u n = some ((r, ()), (u', ())) ∧ DrOk u' := by
  unfold raw_spec_l1Once
  obtain ⟨r, u1, e1, _, d1⟩ := dr_below u n h
  simp only [e1, bnd_some]
  exact ⟨_, _, rfl, d1⟩
end

/-! spec_l1Draw -/
section
noncomputable def B_spec_l1Draw : Code := (Try.f121.body).getD .skip
noncomputable def E_spec_l1Draw : Env := envOf TT [(85, con_spec_l1Int)] []
theorem fr_spec_l1Draw_0 : FrOk Try.prog ⟨E_spec_l1Draw, 6, fun _ => none⟩ B_spec_l1Draw := frOk_base mixed tt_ok ⟨ok_spec_l1Int, trivial⟩
noncomputable def D_spec_l1Draw_0 : Nat → Option Seg := fun _ => none
abbrev I_spec_l1Draw : List Par := [.pt tU .fz]
abbrev U_spec_l1Draw : List OT := [⟨false, tI, .fz⟩]
noncomputable def raw_spec_l1Draw (a0 : dU) : Option (ResD U_spec_l1Draw × MutD I_spec_l1Draw) :=
  bnd (raw_spec_l1Int a0 ([0, 1, 2, 7, 255, 256, 4660, 65535] : List Int)) fun r1 =>
  some ((r1.1.1, ()), (r1.2.1, ()))
theorem e_spec_l1Draw (x : InD I_spec_l1Draw) : execF ⟨E_spec_l1Draw, 6, D_spec_l1Draw_0⟩ Try.f121.results.toList B_spec_l1Draw I_spec_l1Draw U_spec_l1Draw x = raw_spec_l1Draw x.1 := by kernel_rfl
theorem ok0_spec_l1Draw : ConOk Try.prog 121 ⟨I_spec_l1Draw, U_spec_l1Draw, fun x => raw_spec_l1Draw x.1⟩ := conOk_exec (fr_spec_l1Draw_0) Try.func121 (by kernel_rfl) (by kernel_rfl) Try.ntmps121.symm (by decide) (fun x r h => (e_spec_l1Draw x).trans h)
noncomputable def con_spec_l1Draw : Con := ⟨I_spec_l1Draw, U_spec_l1Draw, fun x => raw_spec_l1Draw x.1⟩
theorem ok_spec_l1Draw : ConOk Try.prog 121 con_spec_l1Draw := ok0_spec_l1Draw
theorem dr_draw (u : List Int × Int × Int) (h : DrOk u) : ∃ (r : Int) (u' : List Int × Int × Int), raw_spec_l1Draw u = some ((r, ()), (u', ())) ∧ n_spec_l1In r 0 65535 = true ∧ DrOk u' := by
  unfold raw_spec_l1Draw
  obtain ⟨r1, u1, e1, q1, d1⟩ := dr_int u [0, 1, 2, 7, 255, 256, 4660, 65535] h (by simp)
  simp only [e1, bnd_some]
  refine ⟨_, _, rfl, ?_, d1⟩
  simp only [List.mem_cons, List.not_mem_nil, or_false] at q1
  exact in_t (by omega) (by omega)
end

/-! spec_l1Sec -/
section
noncomputable def B_spec_l1Sec : Code := (Try.f130.body).getD .skip
noncomputable def E_spec_l1Sec : Env := envOf TT [(47, con_spec_l1Below), (121, con_spec_l1Draw)] []
theorem fr_spec_l1Sec_0 : FrOk Try.prog ⟨E_spec_l1Sec, 18, fun _ => none⟩ B_spec_l1Sec := frOk_base mixed tt_ok ⟨ok_spec_l1Below, ok_spec_l1Draw, trivial⟩
noncomputable def D_spec_l1Sec_0 : Nat → Option Seg := fun _ => none
def L_spec_l1Sec_29 : Shape := ⟨[(0, false, [.ptr 1000000000 0]), (3, false, [.at 800000000]), (4, false, [.int .i64])], [(1000000000, [.fz tY, .int .i64, .int .i64])], [(800000000, tI, .fz)]⟩
def S_spec_l1Sec_29 : Shape := ⟨[(0, false, [.ptr 1000000000 0]), (3, false, [.at 800000000]), (4, false, [.int .i64])], [(1000000000, [.fz tY, .int .i64, .int .i64])], [(800000000, tI, .fz)]⟩
def O_spec_l1Sec_29 : Shape := ⟨[(3, false, [.at 800000000])], [(1000000000, [.fz tY, .int .i64, .int .i64])], [(800000000, tI, .fz)]⟩
def Z_spec_l1Sec_29 : Shape := ⟨[], [], []⟩
abbrev mk_spec_l1Sec_29 (v0 : Int) (v1 : dU) (v2 : List Int) : (L_spec_l1Sec_29).X := ((((), ()), ((), ()), (v0, ()), ()), ((v1.1, v1.2.1, v1.2.2, ()), ()), (v2, ()))
abbrev ms_spec_l1Sec_29 (v0 : Int) (v1 : dU) (v2 : List Int) : (S_spec_l1Sec_29).X := ((((), ()), ((), ()), (v0, ()), ()), ((v1.1, v1.2.1, v1.2.2, ()), ()), (v2, ()))
abbrev mo_spec_l1Sec_29 (v0 : dU) (v1 : List Int) : (O_spec_l1Sec_29).X := ((((), ()), ()), ((v0.1, v0.2.1, v0.2.2, ()), ()), (v1, ()))
noncomputable def st_spec_l1Sec_29 (v0 : Int) (v1 : List Int) (v2 v3 : Int) (v4 : List Int) : Option ((L_spec_l1Sec_29).X ⊕ ((O_spec_l1Sec_29).X ⊕ (Z_spec_l1Sec_29).X)) :=
  bif (ltb 0 v0) then
    bnd (raw_spec_l1Draw (v1, v2, v3)) fun r3 =>
    bif (apok v4.length ([r3.1.1] : List Int).length 8) then
      some (.inl ((((), ()), ((), ()), ((IntKind.i64.wrap (v0 - 1)), ()), ()), ((r3.2.1.1, r3.2.1.2.1, r3.2.1.2.2, ()), ()), ((v4 ++ ([r3.1.1] : List Int)), ())))
    else none
  else
    some (.inr (.inl ((((), ()), ()), ((v1, v2, v3, ()), ()), (v4, ()))))
noncomputable def stx_spec_l1Sec_29 (x : (L_spec_l1Sec_29).X) := st_spec_l1Sec_29 x.1.2.2.1.1 x.2.1.1.1 x.2.1.1.2.1 x.2.1.1.2.2.1 x.2.2.1
def em_spec_l1Sec_29 (x : (S_spec_l1Sec_29).X) : (L_spec_l1Sec_29).X := ((((), ()), ((), ()), (x.1.2.2.1.1, ()), ()), ((x.2.1.1.1, x.2.1.1.2.1, x.2.1.1.2.2.1, ()), ()), (x.2.2.1, ()))
noncomputable def c_spec_l1Sec_29 : Code := (subN B_spec_l1Sec 64 116).getD .skip
theorem a_spec_l1Sec_29 : subN B_spec_l1Sec 64 29 = some (.block 0 (.loop c_spec_l1Sec_29)) := by kernel_rfl
theorem r_spec_l1Sec_29 (x : (L_spec_l1Sec_29).X) : roundT ⟨E_spec_l1Sec, 18, D_spec_l1Sec_0⟩ 0 c_spec_l1Sec_29 116 L_spec_l1Sec_29 O_spec_l1Sec_29 Z_spec_l1Sec_29 x = stx_spec_l1Sec_29 x := by kernel_rfl
def fu_spec_l1Sec_29 (x : (S_spec_l1Sec_29).X) : Nat := 18446744073709551616
noncomputable def F_spec_l1Sec_29 (x : (S_spec_l1Sec_29).X) : Option ((O_spec_l1Sec_29).X ⊕ (Z_spec_l1Sec_29).X) := loopN stx_spec_l1Sec_29 (fu_spec_l1Sec_29 x) (em_spec_l1Sec_29 x)
noncomputable def sg_spec_l1Sec_29 : Seg := ⟨S_spec_l1Sec_29, O_spec_l1Sec_29, Z_spec_l1Sec_29, F_spec_l1Sec_29⟩
noncomputable def D_spec_l1Sec_1 : Nat → Option Seg := fun q => bif Nat.beq q 29 then some sg_spec_l1Sec_29 else D_spec_l1Sec_0 q
theorem fr_spec_l1Sec_1 : FrOk Try.prog ⟨E_spec_l1Sec, 18, D_spec_l1Sec_1⟩ B_spec_l1Sec := (fr_spec_l1Sec_0).loop (sg := sg_spec_l1Sec_29) L_spec_l1Sec_29 em_spec_l1Sec_29 (by decide) a_spec_l1Sec_29 stx_spec_l1Sec_29 fu_spec_l1Sec_29 (by decide) (fun _ => rfl) (fun x r _ h => h) r_spec_l1Sec_29
abbrev I_spec_l1Sec : List Par := [.pt tU .fz]
abbrev U_spec_l1Sec : List OT := [⟨false, tL, (.ow .fz)⟩]
noncomputable def raw_spec_l1Sec (a0 : dU) : Option (ResD U_spec_l1Sec × MutD I_spec_l1Sec) :=
  bnd (raw_spec_l1Below a0 5) fun r1 =>
  segM (F_spec_l1Sec_29 ((((), ()), ((), ()), (r1.1.1, ()), ()), ((r1.2.1.1, r1.2.1.2.1, r1.2.1.2.2, ()), ()), (([] : List Int), ()))) (fun y3 =>
    some ((y3.2.2.1, ()), ((y3.2.1.1.1, y3.2.1.1.2.1, y3.2.1.1.2.2.1), ()))) (fun y3 =>
    none)
theorem e_spec_l1Sec (x : InD I_spec_l1Sec) : execF ⟨E_spec_l1Sec, 18, D_spec_l1Sec_1⟩ Try.f130.results.toList B_spec_l1Sec I_spec_l1Sec U_spec_l1Sec x = raw_spec_l1Sec x.1 := by kernel_rfl
theorem ok0_spec_l1Sec : ConOk Try.prog 130 ⟨I_spec_l1Sec, U_spec_l1Sec, fun x => raw_spec_l1Sec x.1⟩ := conOk_exec (fr_spec_l1Sec_1) Try.func130 (by kernel_rfl) (by kernel_rfl) Try.ntmps130.symm (by decide) (fun x r h => (e_spec_l1Sec x).trans h)
noncomputable def con_spec_l1Sec : Con := ⟨I_spec_l1Sec, U_spec_l1Sec, fun x => raw_spec_l1Sec x.1⟩
theorem ok_spec_l1Sec : ConOk Try.prog 130 con_spec_l1Sec := ok0_spec_l1Sec
theorem dr_l1loop : ∀ (n : Nat) (u : dU) (l : List Int) (fuel : Nat), n < fuel → DrOk u → n + l.length ≤ 1000 →
    ∃ (u' : dU) (l' : List Int), loopN stx_spec_l1Sec_29 fuel (mk_spec_l1Sec_29 n u l) = some (.inl (mo_spec_l1Sec_29 u' l')) ∧ DrOk u' ∧ l'.length = n + l.length
  | 0, u, l, fuel + 1, _, hu, _ => ⟨u, l, by simp only [loopN, stx_spec_l1Sec_29, mk_spec_l1Sec_29, st_spec_l1Sec_29]; rfl, hu, by omega⟩
  | n + 1, u, l, fuel + 1, hf, hu, hl => by
    obtain ⟨x, u1, e1, _, d1⟩ := dr_draw u hu
    obtain ⟨u', l', e2, d2, h2⟩ := dr_l1loop n u1 (l ++ [x]) fuel (by omega) d1 (by rw [List.length_append]; simp only [List.length_cons, List.length_nil]; omega)
    refine ⟨u', l', ?_, d2, by rw [h2, List.length_append]; simp only [List.length_cons, List.length_nil]; omega⟩
    rw [← e2, loopN]
    simp only [stx_spec_l1Sec_29, mk_spec_l1Sec_29, st_spec_l1Sec_29, ltb_t (show (0 : Int) < ((n + 1 : Nat) : Int) by omega), cond_true, pr_eta, e1, bnd_some, show ((n + 1 : Nat) : Int) - 1 = (n : Int) by omega, wr (show -9223372036854775808 ≤ (n : Int) by omega) (by omega),
      apok_iff.2 (show (l.length + [x].length) * 8 ≤ 140737488355328 by simp only [List.length_cons, List.length_nil]; omega)]
theorem dr_l1Sec (u : dU) (h : DrOk u) : ∃ (l : List Int) (u' : dU), raw_spec_l1Sec u = some ((l, ()), (u', ())) ∧ l.length ≤ 4 ∧ DrOk u' := by
  obtain ⟨r1, u1, e1, q1, d1⟩ := dr_below u 5 h
  have := q1.1; have := q1.2.1 (by omega)
  obtain ⟨u', l', e2, d2, h2⟩ := dr_l1loop r1.toNat u1 [] 18446744073709551616 (by omega) d1 (by simp only [List.length_nil]; omega)
  rw [show ((r1.toNat : Nat) : Int) = r1 by omega] at e2
  unfold raw_spec_l1Sec
  simp only [e1, bnd_some]
  refine ⟨l', u', ?_, by rw [h2]; simp only [List.length_nil]; omega, d2⟩
  exact (congrArg (fun z => segM z _ _) (show F_spec_l1Sec_29 (ms_spec_l1Sec_29 r1 u1 []) = _ from e2)).trans rfl
end
end Go.Tf
