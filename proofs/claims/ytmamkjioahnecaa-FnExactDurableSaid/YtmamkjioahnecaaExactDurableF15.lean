/- Functions of the program, and what they come to. -/
import Derived.Test.YtmamkjioahnecaaExactDurableF14
namespace Go.Tf
open Go.Proofs
set_option synthInstance.maxHeartbeats 400000
set_option synthInstance.maxSize 10000
set_option linter.unusedVariables false
set_option linter.unusedSimpArgs false
set_option maxRecDepth 100000
/-! impl_Durable -/
section
noncomputable def B_impl_Durable : Code := (Try.f61.body).getD .skip
noncomputable def E_impl_Durable : Env := envOf TT [(65, con_impl_DataOf), (121, con_impl_GeoOk)] []
theorem fr_impl_Durable_0 : FrOk Try.prog ⟨E_impl_Durable, 32, fun _ => none⟩ B_impl_Durable := frOk_base mixed tt_ok ⟨ok_impl_DataOf, ok_impl_GeoOk, trivial⟩
noncomputable def D_impl_Durable_0 : Nat → Option Seg := fun _ => none
def L_impl_Durable_61 : Shape := ⟨[(1, false, [.ptr 0 0]), (3, false, [.at 800000000]), (15, false, [.int .i64]), (16, false, [.int .i64])], [(0, [.int .i64, .int .i64, .int .i64, .br tM, .int .i64, .int .i64, .int .i64, .int .i64, .int .i64, .br tW, .int .i64, .bool, .bool])], [(800000000, tI, .fz)]⟩
def S_impl_Durable_61 : Shape := ⟨[(1, false, [.ptr 0 0]), (3, false, [.at 800000000]), (15, false, [.int .i64]), (16, false, [.ci .i64 0])], [(0, [.int .i64, .int .i64, .int .i64, .br tM, .int .i64, .int .i64, .int .i64, .int .i64, .int .i64, .br tW, .int .i64, .bool, .bool])], [(800000000, tI, .fz)]⟩
def O_impl_Durable_61 : Shape := ⟨[(3, false, [.at 800000000])], [], [(800000000, tI, .fz)]⟩
def Z_impl_Durable_61 : Shape := ⟨[(2, false, [.nil])], [], []⟩
abbrev mk_impl_Durable_61 (v0 : Int) (v1 : Int) (v2 : dA) (v3 : List Int) : (L_impl_Durable_61).X := ((((), ()), ((), ()), (v0, ()), (v1, ()), ()), ((v2.1, v2.2.1.1, v2.2.1.2, v2.2.2.1, v2.2.2.2.1, v2.2.2.2.2.1, v2.2.2.2.2.2.1, v2.2.2.2.2.2.2.1, v2.2.2.2.2.2.2.2.1, v2.2.2.2.2.2.2.2.2.1, v2.2.2.2.2.2.2.2.2.2.1, v2.2.2.2.2.2.2.2.2.2.2.1, v2.2.2.2.2.2.2.2.2.2.2.2, ()), ()), (v3, ()))
abbrev ms_impl_Durable_61 (v0 : Int) (v1 : dA) (v2 : List Int) : (S_impl_Durable_61).X := ((((), ()), ((), ()), (v0, ()), ((), ()), ()), ((v1.1, v1.2.1.1, v1.2.1.2, v1.2.2.1, v1.2.2.2.1, v1.2.2.2.2.1, v1.2.2.2.2.2.1, v1.2.2.2.2.2.2.1, v1.2.2.2.2.2.2.2.1, v1.2.2.2.2.2.2.2.2.1, v1.2.2.2.2.2.2.2.2.2.1, v1.2.2.2.2.2.2.2.2.2.2.1, v1.2.2.2.2.2.2.2.2.2.2.2, ()), ()), (v2, ()))
abbrev mo_impl_Durable_61 (v0 : List Int) : (O_impl_Durable_61).X := ((((), ()), ()), (), (v0, ()))
abbrev mz_impl_Durable_61  : (Z_impl_Durable_61).X := ((((), ()), ()), (), ())
noncomputable def st_impl_Durable_61 (v0 : Int) (v1 : Int) (v2 : Int) (v3 : Int) (v4 : Int) (v5 : List dM) (v6 : Int) (v7 : Int) (v8 : Int) (v9 : Int) (v10 : Int) (v11 : List dW) (v12 : Int) (v13 : Bool) (v14 : Bool) (v15 : List Int) : Option ((L_impl_Durable_61).X ⊕ ((O_impl_Durable_61).X ⊕ (Z_impl_Durable_61).X)) :=
  bif (ltb v1 v0) then
    let r3 := n_impl_DataOf (v2, (v3, v4), v5, v6, v7, v8, v9, v10, v11, v12, v13, v14) v1
    bif (!r3.2) then
      some (.inr (.inr ((((), ()), ()), (), ())))
    else
      bif (apok v15.length r3.1.length 8) then
        some (.inl ((((), ()), ((), ()), (v0, ()), ((IntKind.i64.wrap (v1 + 1)), ()), ()), ((v2, v3, v4, v5, v6, v7, v8, v9, v10, v11, v12, v13, v14, ()), ()), ((v15 ++ r3.1), ())))
      else none
  else
    some (.inr (.inl ((((), ()), ()), (), (v15, ()))))
noncomputable def stx_impl_Durable_61 (x : (L_impl_Durable_61).X) := st_impl_Durable_61 x.1.2.2.1.1 x.1.2.2.2.1.1 x.2.1.1.1 x.2.1.1.2.1 x.2.1.1.2.2.1 x.2.1.1.2.2.2.1 x.2.1.1.2.2.2.2.1 x.2.1.1.2.2.2.2.2.1 x.2.1.1.2.2.2.2.2.2.1 x.2.1.1.2.2.2.2.2.2.2.1 x.2.1.1.2.2.2.2.2.2.2.2.1 x.2.1.1.2.2.2.2.2.2.2.2.2.1 x.2.1.1.2.2.2.2.2.2.2.2.2.2.1 x.2.1.1.2.2.2.2.2.2.2.2.2.2.2.1 x.2.1.1.2.2.2.2.2.2.2.2.2.2.2.2.1 x.2.2.1
def em_impl_Durable_61 (x : (S_impl_Durable_61).X) : (L_impl_Durable_61).X := ((((), ()), ((), ()), (x.1.2.2.1.1, ()), (0, ()), ()), ((x.2.1.1.1, x.2.1.1.2.1, x.2.1.1.2.2.1, x.2.1.1.2.2.2.1, x.2.1.1.2.2.2.2.1, x.2.1.1.2.2.2.2.2.1, x.2.1.1.2.2.2.2.2.2.1, x.2.1.1.2.2.2.2.2.2.2.1, x.2.1.1.2.2.2.2.2.2.2.2.1, x.2.1.1.2.2.2.2.2.2.2.2.2.1, x.2.1.1.2.2.2.2.2.2.2.2.2.2.1, x.2.1.1.2.2.2.2.2.2.2.2.2.2.2.1, x.2.1.1.2.2.2.2.2.2.2.2.2.2.2.2.1, ()), ()), (x.2.2.1, ()))
noncomputable def c_impl_Durable_61 : Code := (subN B_impl_Durable 64 244).getD .skip
theorem a_impl_Durable_61 : subN B_impl_Durable 64 61 = some (.block 0 (.loop c_impl_Durable_61)) := by kernel_rfl
theorem r_impl_Durable_61 (x : (L_impl_Durable_61).X) : roundT ⟨E_impl_Durable, 32, D_impl_Durable_0⟩ 0 c_impl_Durable_61 244 L_impl_Durable_61 O_impl_Durable_61 Z_impl_Durable_61 x = stx_impl_Durable_61 x := by kernel_rfl
noncomputable def fu_impl_Durable_61 (x : (S_impl_Durable_61).X) : Nat := (fun (u0 : Int) (u1 : Int) (u2 : Int) (u3 : Int) (u4 : List dM) (u5 : Int) (u6 : Int) (u7 : Int) (u8 : Int) (u9 : Int) (u10 : List dW) (u11 : Int) (u12 : Bool) (u13 : Bool) (u14 : List Int) => 18446744073709551616) x.1.2.2.1.1 x.2.1.1.1 x.2.1.1.2.1 x.2.1.1.2.2.1 x.2.1.1.2.2.2.1 x.2.1.1.2.2.2.2.1 x.2.1.1.2.2.2.2.2.1 x.2.1.1.2.2.2.2.2.2.1 x.2.1.1.2.2.2.2.2.2.2.1 x.2.1.1.2.2.2.2.2.2.2.2.1 x.2.1.1.2.2.2.2.2.2.2.2.2.1 x.2.1.1.2.2.2.2.2.2.2.2.2.2.1 x.2.1.1.2.2.2.2.2.2.2.2.2.2.2.1 x.2.1.1.2.2.2.2.2.2.2.2.2.2.2.2.1 x.2.2.1
noncomputable def F_impl_Durable_61 (x : (S_impl_Durable_61).X) : Option ((O_impl_Durable_61).X ⊕ (Z_impl_Durable_61).X) := loopN stx_impl_Durable_61 (fu_impl_Durable_61 x) (em_impl_Durable_61 x)
noncomputable def sg_impl_Durable_61 : Seg := ⟨S_impl_Durable_61, O_impl_Durable_61, Z_impl_Durable_61, F_impl_Durable_61⟩
noncomputable def D_impl_Durable_1 : Nat → Option Seg := fun q => bif Nat.beq q 61 then some sg_impl_Durable_61 else D_impl_Durable_0 q
theorem fr_impl_Durable_1 : FrOk Try.prog ⟨E_impl_Durable, 32, D_impl_Durable_1⟩ B_impl_Durable := (fr_impl_Durable_0).loop (sg := sg_impl_Durable_61) L_impl_Durable_61 em_impl_Durable_61 (by decide) a_impl_Durable_61 stx_impl_Durable_61 fu_impl_Durable_61 (by decide) (fun _ => rfl) (fun x r _ h => h) r_impl_Durable_61
abbrev I_impl_Durable : List Par := [.rd tA]
abbrev U_impl_Durable : List OT := [⟨false, tL, (.ow .fz)⟩]
noncomputable def raw_impl_Durable (a0 : dA) : Option (ResD U_impl_Durable × MutD I_impl_Durable) :=
  let r1 := n_impl_GeoOk a0.2.1
  bif (!r1) then
    some ((([] : List Int), ()), ())
  else
    segM (F_impl_Durable_61 ((((), ()), ((), ()), (a0.2.1.2, ()), ((), ()), ()), ((a0.1, a0.2.1.1, a0.2.1.2, a0.2.2.1, a0.2.2.2.1, a0.2.2.2.2.1, a0.2.2.2.2.2.1, a0.2.2.2.2.2.2.1, a0.2.2.2.2.2.2.2.1, a0.2.2.2.2.2.2.2.2.1, a0.2.2.2.2.2.2.2.2.2.1, a0.2.2.2.2.2.2.2.2.2.2.1, a0.2.2.2.2.2.2.2.2.2.2.2, ()), ()), (([] : List Int), ()))) (fun y3 =>
      some ((y3.2.2.1, ()), ())) (fun y3 =>
      some (([], ()), ()))
theorem e_impl_Durable (x : InD I_impl_Durable) : execF ⟨E_impl_Durable, 32, D_impl_Durable_1⟩ Try.f61.results.toList B_impl_Durable I_impl_Durable U_impl_Durable x = raw_impl_Durable x.1 := by kernel_rfl
theorem ok0_impl_Durable : ConOk Try.prog 61 ⟨I_impl_Durable, U_impl_Durable, fun x => raw_impl_Durable x.1⟩ := conOk_exec (fr_impl_Durable_1) Try.func61 (by kernel_rfl) (by kernel_rfl) Try.ntmps61.symm (by decide) (fun x r h => (e_impl_Durable x).trans h)
noncomputable def n_impl_Durable (a0 : dA) : List Int := durable a0
theorem nn_impl_Durable (a0 : dA) (hk : InOk I_impl_Durable (a0, ())) : raw_impl_Durable a0 = (fun n => some ((n, ()), ())) (n_impl_Durable a0) := by
  unfold raw_impl_Durable n_impl_Durable durable
  rw [geo_eq]
  cases hg0 : n_spec_GeoOk a0.2.1
  · rw [show arrOk a0 = false by unfold arrOk; rw [hg0]; rfl]; rfl
  have hg := geo_iff.1 hg0
  have h1 : F_impl_Durable_61 (ms_impl_Durable_61 a0.2.1.2 a0 []) = some (bif (List.range a0.2.1.2.toNat).all (fun (s : Nat) => (dataOf a0 s).2) then .inl (mo_impl_Durable_61 ((List.range a0.2.1.2.toNat).foldl (fun l (s : Nat) => l ++ (dataOf a0 s).1) [])) else .inr (mz_impl_Durable_61)) :=
    loopN_foldE (step := stx_impl_Durable_61) a0.2.1.2.toNat (fun i s => mk_impl_Durable_61 a0.2.1.2 i a0 s) (fun (s : Nat) => (dataOf a0 s).2) (fun l (s : Nat) => l ++ (dataOf a0 s).1) (fun i s => s.length ≤ 4 * i) (fun s => .inl (mo_impl_Durable_61 s)) _ (fun i s hi hs => by
      have := dataOf_len i hg0
      refine ⟨?_, fun _ => by rw [List.length_append]; omega⟩
      simp only [stx_impl_Durable_61, mk_impl_Durable_61, st_impl_Durable_61, ltb_t (show (i : Int) < a0.2.1.2 by omega), cond_true, wr (show -9223372036854775808 ≤ (i : Int) + 1 by omega) (by omega), Int.natCast_add, Int.natCast_one, Int.toNat_natCast, pr_eta, n_impl_DataOf, apok_iff.2 (show (s.length + (dataOf a0 i).1.length) * 8 ≤ 140737488355328 by omega)]
      cases (dataOf a0 i).2 <;> rfl) (fun s hs => by simp only [stx_impl_Durable_61, mk_impl_Durable_61, st_impl_Durable_61, ltb_f (show a0.2.1.2 ≤ (a0.2.1.2.toNat : Int) by omega), cond_false]) [] (Nat.zero_le _) _ (by show _ < 18446744073709551616; omega)
  rw [h1, foldl_app]
  cases ha : arrOk a0
  · have : (List.range a0.2.1.2.toNat).all (fun (s : Nat) => (dataOf a0 s).2) = false := by
      rw [List.all_eq_false]
      refine ⟨0, List.mem_range.2 (by omega), ?_⟩
      unfold dataOf
      rw [ha]; simp
    rw [this]; rfl
  · cases (List.range a0.2.1.2.toNat).all (fun (s : Nat) => (dataOf a0 s).2) <;> rfl
noncomputable def con_impl_Durable : Con := ⟨I_impl_Durable, U_impl_Durable, fun x => (fun n => some ((n, ()), ())) (n_impl_Durable x.1)⟩
theorem ok_impl_Durable : ConOk Try.prog 61 con_impl_Durable := (ok0_impl_Durable).mono (fun x r hk h => (nn_impl_Durable x.1 hk).trans h)
end

/-! laws_FnExactDurable -/
section
noncomputable def B_laws_FnExactDurable : Code := (Try.f13.body).getD .skip
noncomputable def E_laws_FnExactDurable : Env := envOf TT [(21, con_laws_eqIntS), (23, con_laws_markIntS), (25, con_laws_szArr), (27, con_laws_toArr), (29, con_laws_eqArr), (50, con_laws_markArr), (60, con_spec_Durable), (61, con_impl_Durable), (62, con_laws_heldIntS)] []
theorem fr_laws_FnExactDurable_0 : FrOk Try.prog ⟨E_laws_FnExactDurable, 69, fun _ => none⟩ B_laws_FnExactDurable := frOk_base mixed tt_ok ⟨ok_laws_eqIntS, ok_laws_markIntS, ok_laws_szArr, ok_laws_toArr, ok_laws_eqArr, ok_laws_markArr, ok_spec_Durable, ok_impl_Durable, ok_laws_heldIntS, trivial⟩
noncomputable def D_laws_FnExactDurable_0 : Nat → Option Seg := fun _ => none
abbrev I_laws_FnExactDurable : List Par := [.rd tA]
abbrev U_laws_FnExactDurable : List OT := [⟨false, tB, .fz⟩]
noncomputable def raw_laws_FnExactDurable (a0 : dA) : Option (ResD U_laws_FnExactDurable × MutD I_laws_FnExactDurable) :=
  let r1 := n_laws_szArr a0 1048576
  bif (ltb r1 0) then
    some ((true, ()), ())
  else
    let r2 := n_laws_toArr a0
    let r3 := n_spec_Durable r2
    let r4 := n_laws_toArr a0
    let r5 := n_impl_Durable r4
    let r6 := n_laws_eqIntS r5 r3
    bif (!r6) then
      some ((false, ()), ())
    else
      let r7 := n_laws_toArr a0
      let r8 := n_laws_eqArr r4 r7
      bif (!r8) then
        some ((false, ()), ())
      else
        let r9 := n_laws_markArr r4 1
        bif (!(ltb r9.1 0)) then
          let r10 := n_laws_eqIntS r5 r3
          bif (!r10) then
            some ((false, ()), ())
          else
            let r11 := n_laws_markIntS r5 1
            let r12 := n_laws_heldIntS r11.2 1
            bif (ltb r12 0) then
              some ((false, ()), ())
            else
              bif (r12 != r11.1) then
                some ((false, ()), ())
              else
                let r13 := n_laws_toArr a0
                let r14 := n_impl_Durable r13
                let r15 := n_laws_eqIntS r14 r3
                bif (!r15) then
                  some ((false, ()), ())
                else
                  let r16 := n_laws_heldIntS r11.2 1
                  bif (ltb r16 0) then
                    some ((false, ()), ())
                  else
                    bif (r16 != r11.1) then
                      some ((false, ()), ())
                    else
                      some ((true, ()), ())
        else
          some ((false, ()), ())
theorem e_laws_FnExactDurable (x : InD I_laws_FnExactDurable) : execF ⟨E_laws_FnExactDurable, 69, D_laws_FnExactDurable_0⟩ Try.f13.results.toList B_laws_FnExactDurable I_laws_FnExactDurable U_laws_FnExactDurable x = raw_laws_FnExactDurable x.1 := by kernel_rfl
theorem ok0_laws_FnExactDurable : ConOk Try.prog 13 ⟨I_laws_FnExactDurable, U_laws_FnExactDurable, fun x => raw_laws_FnExactDurable x.1⟩ := conOk_exec (fr_laws_FnExactDurable_0) Try.func13 (by kernel_rfl) (by kernel_rfl) Try.ntmps13.symm (by decide) (fun x r h => (e_laws_FnExactDurable x).trans h)
noncomputable def n_laws_FnExactDurable (a0 : dA) : Bool := true
theorem flat_small {f : Nat → List Int} {c : Nat} (h : ∀ i, (f i).length ≤ c) : ∀ n, ((List.range n).flatMap f).length ≤ c * n
  | 0 => by simp
  | n + 1 => by
    rw [List.range_succ, List.flatMap_append, List.length_append, Nat.mul_add]
    have := flat_small h n
    have := h n
    simp only [List.flatMap_cons, List.flatMap_nil, List.append_nil]
    omega
theorem durable_small (a : dA) : (durable a).length ≤ 32 := by
  unfold durable
  cases ha : arrOk a
  · exact Nat.zero_le _
  · cases (List.range a.2.1.2.toNat).all (fun (s : Nat) => (dataOf a s).2)
    · exact Nat.zero_le _
    · have hg := geo_iff.1 (arrOk_geo ha)
      have := flat_small (f := fun (s : Nat) => (dataOf a s).1) (c := 4) (fun i => dataOf_len i (arrOk_geo ha)) a.2.1.2.toNat
      show ((List.range a.2.1.2.toNat).flatMap (fun (s : Nat) => (dataOf a s).1)).length ≤ 32
      omega
/-- what is asked of the marks of a list -/
theorem mk_list3 {l : List Int} (h : l.length ≤ 4611686018427387903) : ltb (markEnd 1 l.length) 0 = false ∧ n_laws_heldIntS (marks 1 l.length) 1 = markEnd 1 l.length := ⟨dmark h, held_marks _ _⟩
theorem nn_laws_FnExactDurable (a0 : dA) (hk : InOk I_laws_FnExactDurable (a0, ())) : raw_laws_FnExactDurable a0 = (fun n => some ((n, ()), ())) (n_laws_FnExactDurable a0) := by
  unfold raw_laws_FnExactDurable n_laws_FnExactDurable n_impl_Durable n_spec_Durable
  cases h : ltb (n_laws_szArr a0 1048576) 0
  · have hs := szArr_le (a := a0) hk.1 h
    have hd := durable_small a0
    obtain ⟨f1, f2, f3⟩ := mk_arr3 (x := a0) (by omega)
    simp only [h, id_laws_toArr, eqr_laws_eqArr, eqr_laws_eqIntS, Bool.not_true, Bool.not_false, cond_true, cond_false, f1, n_laws_markIntS, held_marks, dmark (show (durable a0).length ≤ 4611686018427387903 by omega), bne_self_eq_false]
  · simp only [h, cond_true]
noncomputable def con_laws_FnExactDurable : Con := ⟨I_laws_FnExactDurable, U_laws_FnExactDurable, fun x => (fun n => some ((n, ()), ())) (n_laws_FnExactDurable x.1)⟩
theorem ok_laws_FnExactDurable : ConOk Try.prog 13 con_laws_FnExactDurable := (ok0_laws_FnExactDurable).mono (fun x r hk h => (nn_laws_FnExactDurable x.1 hk).trans h)
end
end Go.Tf
