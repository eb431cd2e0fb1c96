/- Functions of the program, and what they come to. -/
import Derived.Test.YtgmadfpnljibhaaModelsF2
namespace Go.Tf
open Go.Proofs
set_option synthInstance.maxHeartbeats 400000
set_option synthInstance.maxSize 10000
set_option linter.unusedVariables false
set_option linter.unusedSimpArgs false
set_option maxRecDepth 100000
/-! spec_DrawDoCmds -/
section
noncomputable def B_spec_DrawDoCmds : Code := (Try.f16.body).getD .skip
noncomputable def E_spec_DrawDoCmds : Env := envOf TT [(33, con_spec_l1New), (45, con_spec_l3Any), (46, con_spec_l14Blocks), (47, con_spec_l1Below), (48, con_spec_l13Any)] [(16384, (.pr .fz (.pr .fz (.pr .fz (.pr .fz .fz))))), (33024, (.pr .fz (.pr .fz (.pr .fz (.pr .fz .fz)))))]
theorem fr_spec_DrawDoCmds_0 : FrOk Try.prog ⟨E_spec_DrawDoCmds, 33, fun _ => none⟩ B_spec_DrawDoCmds := frOk_base mixed tt_ok ⟨ok_spec_l1New, ok_spec_l3Any, ok_spec_l14Blocks, ok_spec_l1Below, ok_spec_l13Any, trivial⟩
noncomputable def D_spec_DrawDoCmds_0 : Nat → Option Seg := fun _ => none
def L_spec_DrawDoCmds_253 : Shape := ⟨[(2, false, [.ptr 0 0]), (5, false, [.ptr 4163 0]), (6, false, [.ptr 8320 0]), (7, false, [.at 800000000]), (8, false, [.at 800000001]), (9, false, [.int .i64])], [(0, [.int .i64, .int .i64]), (4163, [.fz tY, .int .i64, .int .i64]), (8320, [.int .i64, .int .i64])], [(800000000, tI, .fz), (800000001, tC, (.pr .fz (.pr .fz (.pr .fz (.pr .fz .fz)))))]⟩
def S_spec_DrawDoCmds_253 : Shape := ⟨[(2, false, [.ptr 0 0]), (5, false, [.ptr 4163 0]), (6, false, [.ptr 8320 0]), (7, false, [.at 800000000]), (8, false, [.at 800000001]), (9, false, [.int .i64])], [(0, [.int .i64, .int .i64]), (4163, [.fz tY, .int .i64, .int .i64]), (8320, [.int .i64, .int .i64])], [(800000000, tI, .fz), (800000001, tC, (.pr .fz (.pr .fz (.pr .fz (.pr .fz .fz)))))]⟩
def O_spec_DrawDoCmds_253 : Shape := ⟨[(2, false, [.ptr 0 0]), (6, false, [.ptr 8320 0]), (7, false, [.at 800000000]), (8, false, [.at 800000001])], [(0, [.int .i64, .int .i64]), (8320, [.int .i64, .int .i64])], [(800000000, tI, .fz), (800000001, tC, (.pr .fz (.pr .fz (.pr .fz (.pr .fz .fz)))))]⟩
def Z_spec_DrawDoCmds_253 : Shape := ⟨[], [], []⟩
abbrev mk_spec_DrawDoCmds_253 (v0 : Int) (v1 : dG) (v2 : dU) (v3 : dG) (v4 : List Int) (v5 : List dC) : (L_spec_DrawDoCmds_253).X := ((((), ()), ((), ()), ((), ()), ((), ()), ((), ()), (v0, ()), ()), ((v1.1, v1.2, ()), (v2.1, v2.2.1, v2.2.2, ()), (v3.1, v3.2, ()), ()), (v4, v5, ()))
abbrev ms_spec_DrawDoCmds_253 (v0 : Int) (v1 : dG) (v2 : dU) (v3 : dG) (v4 : List Int) (v5 : List dC) : (S_spec_DrawDoCmds_253).X := ((((), ()), ((), ()), ((), ()), ((), ()), ((), ()), (v0, ()), ()), ((v1.1, v1.2, ()), (v2.1, v2.2.1, v2.2.2, ()), (v3.1, v3.2, ()), ()), (v4, v5, ()))
abbrev mo_spec_DrawDoCmds_253 (v0 v1 : dG) (v2 : List Int) (v3 : List dC) : (O_spec_DrawDoCmds_253).X := ((((), ()), ((), ()), ((), ()), ((), ()), ()), ((v0.1, v0.2, ()), (v1.1, v1.2, ()), ()), (v2, v3, ()))
noncomputable def st_spec_DrawDoCmds_253 (v0 v1 v2 : Int) (v3 : List Int) (v4 v5 v6 v7 : Int) (v8 : List Int) (v9 : List dC) : Option ((L_spec_DrawDoCmds_253).X ⊕ ((O_spec_DrawDoCmds_253).X ⊕ (Z_spec_DrawDoCmds_253).X)) :=
  bif (ltb 0 v0) then
    bnd (raw_spec_l13Any (v3, v4, v5) (v6, v7)) fun r6 =>
    bif (apok v9.length ([r6.1.1] : List dC).length 56) then
      some (.inl ((((), ()), ((), ()), ((), ()), ((), ()), ((), ()), ((IntKind.i64.wrap (v0 - 1)), ()), ()), ((v1, v2, ()), (r6.2.1.1, r6.2.1.2.1, r6.2.1.2.2, ()), (v6, v7, ()), ()), (v8, (v9 ++ ([r6.1.1] : List dC)), ())))
    else none
  else
    some (.inr (.inl ((((), ()), ((), ()), ((), ()), ((), ()), ()), ((v1, v2, ()), (v6, v7, ()), ()), (v8, v9, ()))))
noncomputable def stx_spec_DrawDoCmds_253 (x : (L_spec_DrawDoCmds_253).X) := st_spec_DrawDoCmds_253 x.1.2.2.2.2.2.1.1 x.2.1.1.1 x.2.1.1.2.1 x.2.1.2.1.1 x.2.1.2.1.2.1 x.2.1.2.1.2.2.1 x.2.1.2.2.1.1 x.2.1.2.2.1.2.1 x.2.2.1 x.2.2.2.1
def em_spec_DrawDoCmds_253 (x : (S_spec_DrawDoCmds_253).X) : (L_spec_DrawDoCmds_253).X := ((((), ()), ((), ()), ((), ()), ((), ()), ((), ()), (x.1.2.2.2.2.2.1.1, ()), ()), ((x.2.1.1.1, x.2.1.1.2.1, ()), (x.2.1.2.1.1, x.2.1.2.1.2.1, x.2.1.2.1.2.2.1, ()), (x.2.1.2.2.1.1, x.2.1.2.2.1.2.1, ()), ()), (x.2.2.1, x.2.2.2.1, ()))
noncomputable def c_spec_DrawDoCmds_253 : Code := (subN B_spec_DrawDoCmds 64 1012).getD .skip
theorem a_spec_DrawDoCmds_253 : subN B_spec_DrawDoCmds 64 253 = some (.block 0 (.loop c_spec_DrawDoCmds_253)) := by kernel_rfl
theorem r_spec_DrawDoCmds_253 (x : (L_spec_DrawDoCmds_253).X) : roundT ⟨E_spec_DrawDoCmds, 33, D_spec_DrawDoCmds_0⟩ 0 c_spec_DrawDoCmds_253 1012 L_spec_DrawDoCmds_253 O_spec_DrawDoCmds_253 Z_spec_DrawDoCmds_253 x = stx_spec_DrawDoCmds_253 x := by kernel_rfl
def fu_spec_DrawDoCmds_253 (x : (S_spec_DrawDoCmds_253).X) : Nat := 18446744073709551616
noncomputable def F_spec_DrawDoCmds_253 (x : (S_spec_DrawDoCmds_253).X) : Option ((O_spec_DrawDoCmds_253).X ⊕ (Z_spec_DrawDoCmds_253).X) := loopN stx_spec_DrawDoCmds_253 (fu_spec_DrawDoCmds_253 x) (em_spec_DrawDoCmds_253 x)
noncomputable def sg_spec_DrawDoCmds_253 : Seg := ⟨S_spec_DrawDoCmds_253, O_spec_DrawDoCmds_253, Z_spec_DrawDoCmds_253, F_spec_DrawDoCmds_253⟩
noncomputable def D_spec_DrawDoCmds_1 : Nat → Option Seg := fun q => bif Nat.beq q 253 then some sg_spec_DrawDoCmds_253 else D_spec_DrawDoCmds_0 q
theorem fr_spec_DrawDoCmds_1 : FrOk Try.prog ⟨E_spec_DrawDoCmds, 33, D_spec_DrawDoCmds_1⟩ B_spec_DrawDoCmds := (fr_spec_DrawDoCmds_0).loop (sg := sg_spec_DrawDoCmds_253) L_spec_DrawDoCmds_253 em_spec_DrawDoCmds_253 (by decide) a_spec_DrawDoCmds_253 stx_spec_DrawDoCmds_253 fu_spec_DrawDoCmds_253 (by decide) (fun _ => rfl) (fun x r _ h => h) r_spec_DrawDoCmds_253
abbrev I_spec_DrawDoCmds : List Par := [.kp tYs .fz]
abbrev U_spec_DrawDoCmds : List OT := [⟨false, tG, (.pr .fz .fz)⟩, ⟨false, tL, (.ow .fz)⟩, ⟨false, tCs, (.ow (.pr .fz (.pr .fz (.pr .fz (.pr .fz .fz)))))⟩]
noncomputable def raw_spec_DrawDoCmds (a0 : List Int) : Option (ResD U_spec_DrawDoCmds × MutD I_spec_DrawDoCmds) :=
  let r1 := n_spec_l1New a0
  bnd (raw_spec_l3Any r1) fun r2 =>
  bnd (raw_spec_l14Blocks r2.2.1 r2.1.1) fun r3 =>
  bnd (raw_spec_l1Below r3.2.1 6) fun r4 =>
  segM (F_spec_DrawDoCmds_253 ((((), ()), ((), ()), ((), ()), ((), ()), ((), ()), (r4.1.1, ()), ()), ((0, 0, ()), (r4.2.1.1, r4.2.1.2.1, r4.2.1.2.2, ()), (r2.1.1.1, r2.1.1.2, ()), ()), (r3.1.1, ([] : List dC), ()))) (fun y6 =>
    some (((y6.2.1.2.1.1, y6.2.1.2.1.2.1), y6.2.2.1, y6.2.2.2.1, ()), ())) (fun y6 =>
    none)
theorem e_spec_DrawDoCmds (x : InD I_spec_DrawDoCmds) : execF ⟨E_spec_DrawDoCmds, 33, D_spec_DrawDoCmds_1⟩ Try.f16.results.toList B_spec_DrawDoCmds I_spec_DrawDoCmds U_spec_DrawDoCmds x = raw_spec_DrawDoCmds x.1 := by kernel_rfl
theorem ok0_spec_DrawDoCmds : ConOk Try.prog 16 ⟨I_spec_DrawDoCmds, U_spec_DrawDoCmds, fun x => raw_spec_DrawDoCmds x.1⟩ := conOk_exec (fr_spec_DrawDoCmds_1) Try.func16 (by kernel_rfl) (by kernel_rfl) Try.ntmps16.symm (by decide) (fun x r h => (e_spec_DrawDoCmds x).trans h)
noncomputable def con_spec_DrawDoCmds : Con := ⟨I_spec_DrawDoCmds, U_spec_DrawDoCmds, fun x => raw_spec_DrawDoCmds x.1⟩
theorem ok_spec_DrawDoCmds : ConOk Try.prog 16 con_spec_DrawDoCmds := ok0_spec_DrawDoCmds
theorem dr_cmdsloop (g : dG) (l : List Int) : ∀ (n : Nat) (u : dU) (cs : List dC) (fuel : Nat), n < fuel → DrOk u → n + cs.length ≤ 100 →
    ∃ cs' : List dC, loopN stx_spec_DrawDoCmds_253 fuel (mk_spec_DrawDoCmds_253 n (0, 0) u g l cs) = some (.inl (mo_spec_DrawDoCmds_253 (0, 0) g l cs')) ∧ cs'.length = n + cs.length
  | 0, u, cs, fuel + 1, _, hu, _ => ⟨cs, by simp only [loopN, stx_spec_DrawDoCmds_253, mk_spec_DrawDoCmds_253, st_spec_DrawDoCmds_253]; rfl, by omega⟩
  | n + 1, u, cs, fuel + 1, hf, hu, hl => by
    obtain ⟨c, u1, e1, d1⟩ := dr_l13AnyB u g hu
    obtain ⟨cs', e2, h2⟩ := dr_cmdsloop g l n u1 (cs ++ [c]) fuel (by omega) d1 (by rw [List.length_append]; simp only [List.length_cons, List.length_nil]; omega)
    refine ⟨cs', ?_, by rw [h2, List.length_append]; simp only [List.length_cons, List.length_nil]; omega⟩
    rw [← e2, loopN]
    simp only [stx_spec_DrawDoCmds_253, mk_spec_DrawDoCmds_253, st_spec_DrawDoCmds_253, ltb_t (show (0 : Int) < ((n + 1 : Nat) : Int) by omega), cond_true, pr_eta, e1, bnd_some, show ((n + 1 : Nat) : Int) - 1 = (n : Int) by omega, wr (show -9223372036854775808 ≤ (n : Int) by omega) (by omega),
      apok_iff.2 (show (cs.length + [c].length) * 56 ≤ 140737488355328 by simp only [List.length_cons, List.length_nil]; omega)]
theorem dr_DrawDoCmds (a0 : List Int) (hb : a0.length ≤ 140737488355328) : ∃ (g : dG) (l : List Int) (cs : List dC), raw_spec_DrawDoCmds a0 = some ((g, l, cs, ()), ()) ∧ cs.length ≤ 5 := by
  unfold raw_spec_DrawDoCmds
  obtain ⟨g, u1, e1, d1⟩ := dr_l3Any _ (dr_new a0 hb)
  obtain ⟨l, u2, e2, d2⟩ := dr_l14Blocks u1 g d1
  obtain ⟨r, u3, e3, q3, d3⟩ := dr_below u2 6 d2
  have := q3.1; have := q3.2.1 (by omega)
  obtain ⟨cs, e4, h4⟩ := dr_cmdsloop g l r.toNat u3 [] 18446744073709551616 (by omega) d3 (by simp only [List.length_nil]; omega)
  rw [show ((r.toNat : Nat) : Int) = r by omega] at e4
  simp only [e1, e2, e3, bnd_some]
  refine ⟨g, l, cs, ?_, by rw [h4, List.length_nil]; omega⟩
  exact (congrArg (fun z => segM z _ _) (show F_spec_DrawDoCmds_253 (ms_spec_DrawDoCmds_253 r (0, 0) u3 g l []) = _ from e4)).trans rfl
end

/-! impl_copyInts -/
section
noncomputable def B_impl_copyInts : Code := (Try.f49.body).getD .skip
noncomputable def E_impl_copyInts : Env := envOf TT [] []
theorem fr_impl_copyInts_0 : FrOk Try.prog ⟨E_impl_copyInts, 6, fun _ => none⟩ B_impl_copyInts := frOk_base mixed tt_ok trivial
noncomputable def D_impl_copyInts_0 : Nat → Option Seg := fun _ => none
abbrev I_impl_copyInts : List Par := [.rd tL]
abbrev U_impl_copyInts : List OT := [⟨false, tL, (.ow .fz)⟩]
noncomputable def raw_impl_copyInts (a0 : List Int) : Option (ResD U_impl_copyInts × MutD I_impl_copyInts) :=
  bif (apok ([] : List Int).length a0.length 8) then
    some (((([] : List Int) ++ a0), ()), ())
  else none
theorem e_impl_copyInts (x : InD I_impl_copyInts) : execF ⟨E_impl_copyInts, 6, D_impl_copyInts_0⟩ Try.f49.results.toList B_impl_copyInts I_impl_copyInts U_impl_copyInts x = raw_impl_copyInts x.1 := by kernel_rfl
theorem ok0_impl_copyInts : ConOk Try.prog 49 ⟨I_impl_copyInts, U_impl_copyInts, fun x => raw_impl_copyInts x.1⟩ := conOk_exec (fr_impl_copyInts_0) Try.func49 (by kernel_rfl) (by kernel_rfl) Try.ntmps49.symm (by decide) (fun x r h => (e_impl_copyInts x).trans h)
noncomputable def n_impl_copyInts (a0 : List Int) : List Int := a0
theorem nn_impl_copyInts (a0 : List Int) (hk : InOk I_impl_copyInts (a0, ())) : raw_impl_copyInts a0 = (fun n => some ((n, ()), ())) (n_impl_copyInts a0) := by
  have hb : a0.length * 8 ≤ 2 ^ 47 := hk.1.1
  unfold raw_impl_copyInts n_impl_copyInts
  rw [show apok ([] : List Int).length a0.length 8 = true by rw [apok_iff, List.length_nil]; omega]
  rfl
noncomputable def con_impl_copyInts : Con := ⟨I_impl_copyInts, U_impl_copyInts, fun x => (fun n => some ((n, ()), ())) (n_impl_copyInts x.1)⟩
theorem ok_impl_copyInts : ConOk Try.prog 49 con_impl_copyInts := (ok0_impl_copyInts).mono (fun x r hk h => (nn_impl_copyInts x.1 hk).trans h)
end

/-! impl_within -/
section
noncomputable def B_impl_within : Code := (Try.f39.body).getD .skip
noncomputable def E_impl_within : Env := envOf TT [] []
theorem fr_impl_within_0 : FrOk Try.prog ⟨E_impl_within, 15, fun _ => none⟩ B_impl_within := frOk_base mixed tt_ok trivial
noncomputable def D_impl_within_0 : Nat → Option Seg := fun _ => none
abbrev I_impl_within : List Par := [.rd tI, .rd tI, .rd tI]
abbrev U_impl_within : List OT := [⟨false, tB, .fz⟩]
noncomputable def raw_impl_within (a0 a1 a2 : Int) : Option (ResD U_impl_within × MutD I_impl_within) :=
  bif (leb a1 a0) then
    some (((leb a0 a2), ()), ())
  else
    some ((false, ()), ())
theorem e_impl_within (x : InD I_impl_within) : execF ⟨E_impl_within, 15, D_impl_within_0⟩ Try.f39.results.toList B_impl_within I_impl_within U_impl_within x = raw_impl_within x.1 x.2.1 x.2.2.1 := by kernel_rfl
theorem ok0_impl_within : ConOk Try.prog 39 ⟨I_impl_within, U_impl_within, fun x => raw_impl_within x.1 x.2.1 x.2.2.1⟩ := conOk_exec (fr_impl_within_0) Try.func39 (by kernel_rfl) (by kernel_rfl) Try.ntmps39.symm (by decide) (fun x r h => (e_impl_within x).trans h)
noncomputable def n_impl_within (a0 a1 a2 : Int) : Bool :=
  bif (leb a1 a0) then
    (leb a0 a2)
  else
    false
noncomputable def con_impl_within : Con := ⟨I_impl_within, U_impl_within, fun x => (fun n => some ((n, ()), ())) (n_impl_within x.1 x.2.1 x.2.2.1)⟩
theorem nn_impl_within (a0 a1 a2 : Int) : raw_impl_within a0 a1 a2 = (fun n => some ((n, ()), ())) (n_impl_within a0 a1 a2) := bif_ty (p := fun (n : Bool) => ((n, ()), ())) (bif_some (p := fun (n : Bool) => ((n, ()), ())) rfl rfl)
theorem ok_impl_within : ConOk Try.prog 39 con_impl_within := (ok0_impl_within).mono (fun x r _ h => (nn_impl_within x.1 x.2.1 x.2.2.1).trans h)
theorem impl_in_eq (a b c : Int) : n_impl_within a b c = n_spec_l1In a b c := by kernel_rfl
end

/-! impl_GeoOk -/
section
noncomputable def B_impl_GeoOk : Code := (Try.f40.body).getD .skip
noncomputable def E_impl_GeoOk : Env := envOf TT [(39, con_impl_within)] []
theorem fr_impl_GeoOk_0 : FrOk Try.prog ⟨E_impl_GeoOk, 11, fun _ => none⟩ B_impl_GeoOk := frOk_base mixed tt_ok ⟨ok_impl_within, trivial⟩
noncomputable def D_impl_GeoOk_0 : Nat → Option Seg := fun _ => none
abbrev I_impl_GeoOk : List Par := [.rd tG]
abbrev U_impl_GeoOk : List OT := [⟨false, tB, .fz⟩]
noncomputable def raw_impl_GeoOk (a0 : dG) : Option (ResD U_impl_GeoOk × MutD I_impl_GeoOk) :=
  let r1 := n_impl_within a0.1 3 5
  bif r1 then
    let r2 := n_impl_within a0.2 1 8
    some ((r2, ()), ())
  else
    some ((false, ()), ())
theorem e_impl_GeoOk (x : InD I_impl_GeoOk) : execF ⟨E_impl_GeoOk, 11, D_impl_GeoOk_0⟩ Try.f40.results.toList B_impl_GeoOk I_impl_GeoOk U_impl_GeoOk x = raw_impl_GeoOk x.1 := by kernel_rfl
theorem ok0_impl_GeoOk : ConOk Try.prog 40 ⟨I_impl_GeoOk, U_impl_GeoOk, fun x => raw_impl_GeoOk x.1⟩ := conOk_exec (fr_impl_GeoOk_0) Try.func40 (by kernel_rfl) (by kernel_rfl) Try.ntmps40.symm (by decide) (fun x r h => (e_impl_GeoOk x).trans h)
noncomputable def n_impl_GeoOk (a0 : dG) : Bool :=
  let r1 := n_impl_within a0.1 3 5
  bif r1 then
    let r2 := n_impl_within a0.2 1 8
    r2
  else
    false
noncomputable def con_impl_GeoOk : Con := ⟨I_impl_GeoOk, U_impl_GeoOk, fun x => (fun n => some ((n, ()), ())) (n_impl_GeoOk x.1)⟩
theorem nn_impl_GeoOk (a0 : dG) : raw_impl_GeoOk a0 = (fun n => some ((n, ()), ())) (n_impl_GeoOk a0) := bif_ty (p := fun (n : Bool) => ((n, ()), ())) (bif_some (p := fun (n : Bool) => ((n, ()), ())) rfl rfl)
theorem ok_impl_GeoOk : ConOk Try.prog 40 con_impl_GeoOk := (ok0_impl_GeoOk).mono (fun x r _ h => (nn_impl_GeoOk x.1).trans h)
theorem geo_eq (a : Int × Int) : n_impl_GeoOk a = n_spec_GeoOk a := by kernel_rfl
end

/-! impl_Blocks -/
section
noncomputable def B_impl_Blocks : Code := (Try.f55.body).getD .skip
noncomputable def E_impl_Blocks : Env := envOf TT [(40, con_impl_GeoOk)] []
theorem fr_impl_Blocks_0 : FrOk Try.prog ⟨E_impl_Blocks, 12, fun _ => none⟩ B_impl_Blocks := frOk_base mixed tt_ok ⟨ok_impl_GeoOk, trivial⟩
noncomputable def D_impl_Blocks_0 : Nat → Option Seg := fun _ => none
abbrev I_impl_Blocks : List Par := [.rd tG]
abbrev U_impl_Blocks : List OT := [⟨false, tI, .fz⟩]
noncomputable def raw_impl_Blocks (a0 : dG) : Option (ResD U_impl_Blocks × MutD I_impl_Blocks) :=
  let r1 := n_impl_GeoOk a0
  bif (!r1) then
    some ((0, ()), ())
  else
    some (((IntKind.i64.wrap (a0.2 * (IntKind.i64.wrap (a0.1 - 1)))), ()), ())
theorem e_impl_Blocks (x : InD I_impl_Blocks) : execF ⟨E_impl_Blocks, 12, D_impl_Blocks_0⟩ Try.f55.results.toList B_impl_Blocks I_impl_Blocks U_impl_Blocks x = raw_impl_Blocks x.1 := by kernel_rfl
theorem ok0_impl_Blocks : ConOk Try.prog 55 ⟨I_impl_Blocks, U_impl_Blocks, fun x => raw_impl_Blocks x.1⟩ := conOk_exec (fr_impl_Blocks_0) Try.func55 (by kernel_rfl) (by kernel_rfl) Try.ntmps55.symm (by decide) (fun x r h => (e_impl_Blocks x).trans h)
noncomputable def n_impl_Blocks (a0 : dG) : Int :=
  let r1 := n_impl_GeoOk a0
  bif (!r1) then
    0
  else
    (IntKind.i64.wrap (a0.2 * (IntKind.i64.wrap (a0.1 - 1))))
noncomputable def con_impl_Blocks : Con := ⟨I_impl_Blocks, U_impl_Blocks, fun x => (fun n => some ((n, ()), ())) (n_impl_Blocks x.1)⟩
theorem nn_impl_Blocks (a0 : dG) : raw_impl_Blocks a0 = (fun n => some ((n, ()), ())) (n_impl_Blocks a0) := bif_ty (p := fun (n : Int) => ((n, ()), ())) (bif_some (p := fun (n : Int) => ((n, ()), ())) rfl rfl)
theorem ok_impl_Blocks : ConOk Try.prog 55 con_impl_Blocks := (ok0_impl_Blocks).mono (fun x r _ h => (nn_impl_Blocks x.1).trans h)
theorem impl_Blocks_eq (a : Int × Int) : n_impl_Blocks a = n_spec_Blocks a := by kernel_rfl
end

/-! impl_runOf -/
section
noncomputable def B_impl_runOf : Code := (Try.f93.body).getD .skip
noncomputable def E_impl_runOf : Env := envOf TT [] []
theorem fr_impl_runOf_0 : FrOk Try.prog ⟨E_impl_runOf, 18, fun _ => none⟩ B_impl_runOf := frOk_base mixed tt_ok trivial
noncomputable def D_impl_runOf_0 : Nat → Option Seg := fun _ => none
abbrev I_impl_runOf : List Par := [.rd tC]
abbrev U_impl_runOf : List OT := [⟨false, tI, .fz⟩]
noncomputable def raw_impl_runOf (a0 : dC) : Option (ResD U_impl_runOf × MutD I_impl_runOf) :=
  bif (a0.1 == 1) then
    bif (a0.1 == 1) then
      some ((a0.2.2.2.1, ()), ())
    else
      bif (a0.1 == 2) then
        bif (a0.1 == 2) then
          some (((a0.2.2.2.2.length : Int), ()), ())
        else
          bif (a0.1 == 5) then
            some ((1, ()), ())
          else
            some ((0, ()), ())
      else
        bif (a0.1 == 3) then
          some (((a0.2.2.2.2.length : Int), ()), ())
        else
          bif (a0.1 == 5) then
            some ((1, ()), ())
          else
            some ((0, ()), ())
  else
    bif (a0.1 == 6) then
      some ((a0.2.2.2.1, ()), ())
    else
      bif (a0.1 == 2) then
        bif (a0.1 == 2) then
          some (((a0.2.2.2.2.length : Int), ()), ())
        else
          bif (a0.1 == 5) then
            some ((1, ()), ())
          else
            some ((0, ()), ())
      else
        bif (a0.1 == 3) then
          some (((a0.2.2.2.2.length : Int), ()), ())
        else
          bif (a0.1 == 5) then
            some ((1, ()), ())
          else
            some ((0, ()), ())
theorem e_impl_runOf (x : InD I_impl_runOf) : execF ⟨E_impl_runOf, 18, D_impl_runOf_0⟩ Try.f93.results.toList B_impl_runOf I_impl_runOf U_impl_runOf x = raw_impl_runOf x.1 := by kernel_rfl
theorem ok0_impl_runOf : ConOk Try.prog 93 ⟨I_impl_runOf, U_impl_runOf, fun x => raw_impl_runOf x.1⟩ := conOk_exec (fr_impl_runOf_0) Try.func93 (by kernel_rfl) (by kernel_rfl) Try.ntmps93.symm (by decide) (fun x r h => (e_impl_runOf x).trans h)
noncomputable def n_impl_runOf (a0 : dC) : Int :=
  bif (a0.1 == 1) then
    bif (a0.1 == 1) then
      a0.2.2.2.1
    else
      bif (a0.1 == 2) then
        bif (a0.1 == 2) then
          (a0.2.2.2.2.length : Int)
        else
          bif (a0.1 == 5) then
            1
          else
            0
      else
        bif (a0.1 == 3) then
          (a0.2.2.2.2.length : Int)
        else
          bif (a0.1 == 5) then
            1
          else
            0
  else
    bif (a0.1 == 6) then
      a0.2.2.2.1
    else
      bif (a0.1 == 2) then
        bif (a0.1 == 2) then
          (a0.2.2.2.2.length : Int)
        else
          bif (a0.1 == 5) then
            1
          else
            0
      else
        bif (a0.1 == 3) then
          (a0.2.2.2.2.length : Int)
        else
          bif (a0.1 == 5) then
            1
          else
            0
noncomputable def con_impl_runOf : Con := ⟨I_impl_runOf, U_impl_runOf, fun x => (fun n => some ((n, ()), ())) (n_impl_runOf x.1)⟩
theorem nn_impl_runOf (a0 : dC) : raw_impl_runOf a0 = (fun n => some ((n, ()), ())) (n_impl_runOf a0) := bif_ty (p := fun (n : Int) => ((n, ()), ())) (bif_some (p := fun (n : Int) => ((n, ()), ())) (bif_some (p := fun (n : Int) => ((n, ()), ())) rfl (bif_some (p := fun (n : Int) => ((n, ()), ())) (bif_some (p := fun (n : Int) => ((n, ()), ())) rfl (bif_some (p := fun (n : Int) => ((n, ()), ())) rfl rfl)) (bif_some (p := fun (n : Int) => ((n, ()), ())) rfl (bif_some (p := fun (n : Int) => ((n, ()), ())) rfl rfl)))) (bif_some (p := fun (n : Int) => ((n, ()), ())) rfl (bif_some (p := fun (n : Int) => ((n, ()), ())) (bif_some (p := fun (n : Int) => ((n, ()), ())) rfl (bif_some (p := fun (n : Int) => ((n, ()), ())) rfl rfl)) (bif_some (p := fun (n : Int) => ((n, ()), ())) rfl (bif_some (p := fun (n : Int) => ((n, ()), ())) rfl rfl)))))
theorem ok_impl_runOf : ConOk Try.prog 93 con_impl_runOf := (ok0_impl_runOf).mono (fun x r _ h => (nn_impl_runOf x.1).trans h)
end
end Go.Tf
