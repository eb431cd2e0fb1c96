/- Functions of the program, and what they come to. -/
import Derived.Test.YtfpjmijaiekbgaaGreatExactBuildStepF14
namespace Go.Tf
open Go.Proofs
set_option synthInstance.maxHeartbeats 400000
set_option synthInstance.maxSize 10000
set_option linter.unusedVariables false
set_option linter.unusedSimpArgs false
set_option maxRecDepth 100000
/-! impl_Arr_op -/
section
noncomputable def B_impl_Arr_op : Code := (Tryz.f154.body).getD .skip
noncomputable def E_impl_Arr_op : Env := envOf TT [] []
theorem fr_impl_Arr_op_0 : FrOk Tryz.prog ⟨E_impl_Arr_op, 26, fun _ => none⟩ B_impl_Arr_op := frOk_base mixed tt_ok trivial
noncomputable def D_impl_Arr_op_0 : Nat → Option Seg := fun _ => none
abbrev I_impl_Arr_op : List Par := [.pt tA (.pr .fz (.pr (.pr .fz .fz) (.pr (.ow (.pr (.ow (.ow .fz)) (.pr (.ow (.pr .fz (.ow .fz))) (.pr .fz (.ow .fz))))) (.pr .fz (.pr .fz (.pr .fz (.pr .fz (.pr .fz (.pr (.ow (.pr .fz (.ow .fz))) (.pr .fz (.pr .fz .fz)))))))))))]
abbrev U_impl_Arr_op : List OT := [⟨false, tB, .fz⟩]
noncomputable def raw_impl_Arr_op (a0 : dA) : Option (ResD U_impl_Arr_op × MutD I_impl_Arr_op) :=
  bif (a0.2.2.2.2.2.2.2.2.2.1 == 0) then
    some ((false, ()), ((a0.1, a0.2.1, a0.2.2.1, a0.2.2.2.1, a0.2.2.2.2.1, a0.2.2.2.2.2.1, a0.2.2.2.2.2.2.1, a0.2.2.2.2.2.2.2.1, a0.2.2.2.2.2.2.2.2.1, (-1), true, a0.2.2.2.2.2.2.2.2.2.2.2), ()))
  else
    bif (ltb 0 a0.2.2.2.2.2.2.2.2.2.1) then
      some ((true, ()), ((a0.1, a0.2.1, a0.2.2.1, a0.2.2.2.1, a0.2.2.2.2.1, a0.2.2.2.2.2.1, a0.2.2.2.2.2.2.1, a0.2.2.2.2.2.2.2.1, a0.2.2.2.2.2.2.2.2.1, (IntKind.i64.wrap (a0.2.2.2.2.2.2.2.2.2.1 - 1)), a0.2.2.2.2.2.2.2.2.2.2), ()))
    else
      some ((true, ()), (a0, ()))
theorem e_impl_Arr_op (x : InD I_impl_Arr_op) : execF ⟨E_impl_Arr_op, 26, D_impl_Arr_op_0⟩ Tryz.f154.results.toList B_impl_Arr_op I_impl_Arr_op U_impl_Arr_op x = raw_impl_Arr_op x.1 := by kernel_rfl
theorem ok0_impl_Arr_op : ConOk Tryz.prog 154 ⟨I_impl_Arr_op, U_impl_Arr_op, fun x => raw_impl_Arr_op x.1⟩ := conOk_exec (fr_impl_Arr_op_0) Tryz.func154 (by kernel_rfl) (by kernel_rfl) Tryz.ntmps154.symm (by decide) (fun x r h => (e_impl_Arr_op x).trans h)
noncomputable def n_impl_Arr_op (a0 : dA) : Bool × dA :=
  bif (a0.2.2.2.2.2.2.2.2.2.1 == 0) then
    (false, (a0.1, a0.2.1, a0.2.2.1, a0.2.2.2.1, a0.2.2.2.2.1, a0.2.2.2.2.2.1, a0.2.2.2.2.2.2.1, a0.2.2.2.2.2.2.2.1, a0.2.2.2.2.2.2.2.2.1, (-1), true, a0.2.2.2.2.2.2.2.2.2.2.2))
  else
    bif (ltb 0 a0.2.2.2.2.2.2.2.2.2.1) then
      (true, (a0.1, a0.2.1, a0.2.2.1, a0.2.2.2.1, a0.2.2.2.2.1, a0.2.2.2.2.2.1, a0.2.2.2.2.2.2.1, a0.2.2.2.2.2.2.2.1, a0.2.2.2.2.2.2.2.2.1, (IntKind.i64.wrap (a0.2.2.2.2.2.2.2.2.2.1 - 1)), a0.2.2.2.2.2.2.2.2.2.2))
    else
      (true, a0)
noncomputable def con_impl_Arr_op : Con := ⟨I_impl_Arr_op, U_impl_Arr_op, fun x => (fun n => some ((n.1, ()), (n.2, ()))) (n_impl_Arr_op x.1)⟩
theorem nn_impl_Arr_op (a0 : dA) : raw_impl_Arr_op a0 = (fun n => some ((n.1, ()), (n.2, ()))) (n_impl_Arr_op a0) := bif_ty (p := fun (n : Bool × dA) => ((n.1, ()), (n.2, ()))) (bif_some (p := fun (n : Bool × dA) => ((n.1, ()), (n.2, ()))) rfl (bif_some (p := fun (n : Bool × dA) => ((n.1, ()), (n.2, ()))) rfl rfl))
theorem ok_impl_Arr_op : ConOk Tryz.prog 154 con_impl_Arr_op := (ok0_impl_Arr_op).mono (fun x r _ h => (nn_impl_Arr_op x.1).trans h)
theorem impl_op_eq {a : dA} (h : downA a = false) : n_impl_Arr_op a = opA a := by
  unfold n_impl_Arr_op opA
  rw [h]
  cases (a.2.2.2.2.2.2.2.2.2.1 == 0)
  · cases ltb 0 a.2.2.2.2.2.2.2.2.2.1
    · rfl
    · show (true, _) = (true, setFD a _ false)
      unfold setFD
      rw [show a.2.2.2.2.2.2.2.2.2.2 = (downA a, a.2.2.2.2.2.2.2.2.2.2.2) from rfl, h]
  · rfl
end

/-! impl_WriteSec_1 -/
section
noncomputable def B_impl_WriteSec_1 : Code := (Tryz.f217.body).getD .skip
noncomputable def E_impl_WriteSec_1 : Env := envOf TT [] []
theorem fr_impl_WriteSec_1_0 : FrOk Tryz.prog ⟨E_impl_WriteSec_1, 7, fun _ => none⟩ B_impl_WriteSec_1 := frOk_base mixed tt_ok trivial
noncomputable def D_impl_WriteSec_1_0 : Nat → Option Seg := fun _ => none
abbrev I_impl_WriteSec_1 : List Par := [.rd tI, .rp tI]
abbrev U_impl_WriteSec_1 : List OT := [⟨false, tB, .fz⟩]
noncomputable def raw_impl_WriteSec_1 (a0 : Int) (a1 : Int) : Option (ResD U_impl_WriteSec_1 × MutD I_impl_WriteSec_1) :=
  some (((a0 == a1), ()), ())
theorem e_impl_WriteSec_1 (x : InD I_impl_WriteSec_1) : execF ⟨E_impl_WriteSec_1, 7, D_impl_WriteSec_1_0⟩ Tryz.f217.results.toList B_impl_WriteSec_1 I_impl_WriteSec_1 U_impl_WriteSec_1 x = raw_impl_WriteSec_1 x.1 x.2.1 := by kernel_rfl
theorem ok0_impl_WriteSec_1 : ConOk Tryz.prog 217 ⟨I_impl_WriteSec_1, U_impl_WriteSec_1, fun x => raw_impl_WriteSec_1 x.1 x.2.1⟩ := conOk_exec (fr_impl_WriteSec_1_0) Tryz.func217 (by kernel_rfl) (by kernel_rfl) Tryz.ntmps217.symm (by decide) (fun x r h => (e_impl_WriteSec_1 x).trans h)
noncomputable def n_impl_WriteSec_1 (a0 : Int) (a1 : Int) : Bool :=
  (a0 == a1)
noncomputable def con_impl_WriteSec_1 : Con := ⟨I_impl_WriteSec_1, U_impl_WriteSec_1, fun x => (fun n => some ((n, ()), ())) (n_impl_WriteSec_1 x.1 x.2.1)⟩
theorem nn_impl_WriteSec_1 (a0 : Int) (a1 : Int) : raw_impl_WriteSec_1 a0 a1 = (fun n => some ((n, ()), ())) (n_impl_WriteSec_1 a0 a1) := bif_ty (p := fun (n : Bool) => ((n, ()), ())) rfl
theorem ok_impl_WriteSec_1 : ConOk Tryz.prog 217 con_impl_WriteSec_1 := (ok0_impl_WriteSec_1).mono (fun x r _ h => (nn_impl_WriteSec_1 x.1 x.2.1).trans h)
end

/-! slices_IndexFunc_int -/
section
noncomputable def B_slices_IndexFunc_int : Code := (Tryz.f251.body).getD .skip
noncomputable def E_slices_IndexFunc_int : Env := envOf TT [(217, con_impl_WriteSec_1)] []
theorem fr_slices_IndexFunc_int_0 : FrOk Tryz.prog ⟨E_slices_IndexFunc_int, 19, fun _ => none⟩ B_slices_IndexFunc_int := frOk_base mixed tt_ok ⟨ok_impl_WriteSec_1, trivial⟩
noncomputable def D_slices_IndexFunc_int_0 : Nat → Option Seg := fun _ => none
def L_slices_IndexFunc_int_13 : Shape := ⟨[(0, false, [.br tI]), (1, false, [.fx 217 tI]), (7, false, [.int .i64]), (8, false, [.int .i64])], [], []⟩
def S_slices_IndexFunc_int_13 : Shape := ⟨[(0, false, [.br tI]), (1, false, [.fx 217 tI]), (7, false, [.int .i64]), (8, false, [.ci .i64 0])], [], []⟩
def O_slices_IndexFunc_int_13 : Shape := ⟨[], [], []⟩
def Z_slices_IndexFunc_int_13 : Shape := ⟨[(4, false, [.int .i64])], [], []⟩
abbrev mk_slices_IndexFunc_int_13 (v0 : List Int) (v1 : Int) (v2 : Int) (v3 : Int) : (L_slices_IndexFunc_int_13).X := (((v0, ()), (v1, ()), (v2, ()), (v3, ()), ()), (), ())
abbrev ms_slices_IndexFunc_int_13 (v0 : List Int) (v1 : Int) (v2 : Int) : (S_slices_IndexFunc_int_13).X := (((v0, ()), (v1, ()), (v2, ()), ((), ()), ()), (), ())
abbrev mo_slices_IndexFunc_int_13  : (O_slices_IndexFunc_int_13).X := ((), (), ())
abbrev mz_slices_IndexFunc_int_13 (v0 : Int) : (Z_slices_IndexFunc_int_13).X := (((v0, ()), ()), (), ())
noncomputable def st_slices_IndexFunc_int_13 (v0 : List Int) (v1 : Int) (v2 : Int) (v3 : Int) : Option ((L_slices_IndexFunc_int_13).X ⊕ ((O_slices_IndexFunc_int_13).X ⊕ (Z_slices_IndexFunc_int_13).X)) :=
  bif (ltb v3 v2) then
    bif (inb v3 v0.length) then
      let r2 := n_impl_WriteSec_1 (nth v0 v3 0) v1
      bif r2 then
        some (.inr (.inr (((v3, ()), ()), (), ())))
      else
        some (.inl (((v0, ()), (v1, ()), (v2, ()), ((IntKind.i64.wrap (v3 + 1)), ()), ()), (), ()))
    else none
  else
    some (.inr (.inl ((), (), ())))
noncomputable def stx_slices_IndexFunc_int_13 (x : (L_slices_IndexFunc_int_13).X) := st_slices_IndexFunc_int_13 x.1.1.1 x.1.2.1.1 x.1.2.2.1.1 x.1.2.2.2.1.1
def em_slices_IndexFunc_int_13 (x : (S_slices_IndexFunc_int_13).X) : (L_slices_IndexFunc_int_13).X := (((x.1.1.1, ()), (x.1.2.1.1, ()), (x.1.2.2.1.1, ()), (0, ()), ()), (), ())
noncomputable def c_slices_IndexFunc_int_13 : Code := (subN B_slices_IndexFunc_int 64 52).getD .skip
theorem a_slices_IndexFunc_int_13 : subN B_slices_IndexFunc_int 64 13 = some (.block 0 (.loop c_slices_IndexFunc_int_13)) := by kernel_rfl
theorem r_slices_IndexFunc_int_13 (x : (L_slices_IndexFunc_int_13).X) : roundT ⟨E_slices_IndexFunc_int, 19, D_slices_IndexFunc_int_0⟩ 0 c_slices_IndexFunc_int_13 52 L_slices_IndexFunc_int_13 O_slices_IndexFunc_int_13 Z_slices_IndexFunc_int_13 x = stx_slices_IndexFunc_int_13 x := by kernel_rfl
noncomputable def fu_slices_IndexFunc_int_13 (x : (S_slices_IndexFunc_int_13).X) : Nat := (fun (u0 : List Int) (u1 : Int) (u2 : Int) => 18446744073709551616) x.1.1.1 x.1.2.1.1 x.1.2.2.1.1
noncomputable def F_slices_IndexFunc_int_13 (x : (S_slices_IndexFunc_int_13).X) : Option ((O_slices_IndexFunc_int_13).X ⊕ (Z_slices_IndexFunc_int_13).X) := loopN stx_slices_IndexFunc_int_13 (fu_slices_IndexFunc_int_13 x) (em_slices_IndexFunc_int_13 x)
noncomputable def sg_slices_IndexFunc_int_13 : Seg := ⟨S_slices_IndexFunc_int_13, O_slices_IndexFunc_int_13, Z_slices_IndexFunc_int_13, F_slices_IndexFunc_int_13⟩
noncomputable def D_slices_IndexFunc_int_1 : Nat → Option Seg := fun q => bif Nat.beq q 13 then some sg_slices_IndexFunc_int_13 else D_slices_IndexFunc_int_0 q
theorem fr_slices_IndexFunc_int_1 : FrOk Tryz.prog ⟨E_slices_IndexFunc_int, 19, D_slices_IndexFunc_int_1⟩ B_slices_IndexFunc_int := (fr_slices_IndexFunc_int_0).loop (sg := sg_slices_IndexFunc_int_13) L_slices_IndexFunc_int_13 em_slices_IndexFunc_int_13 (by decide) a_slices_IndexFunc_int_13 stx_slices_IndexFunc_int_13 fu_slices_IndexFunc_int_13 (by decide) (fun _ => rfl) (fun x r _ h => h) r_slices_IndexFunc_int_13
abbrev I_slices_IndexFunc_int : List Par := [.rd tL, .fn 217 tI]
abbrev U_slices_IndexFunc_int : List OT := [⟨false, tI, .fz⟩]
noncomputable def raw_slices_IndexFunc_int (a0 : List Int) (a1 : Int) : Option (ResD U_slices_IndexFunc_int × MutD I_slices_IndexFunc_int) :=
  segM (F_slices_IndexFunc_int_13 (((a0, ()), (a1, ()), ((a0.length : Int), ()), ((), ()), ()), (), ())) (fun y2 =>
    some (((-1), ()), ())) (fun y2 =>
    some ((y2.1.1.1, ()), ()))
theorem e_slices_IndexFunc_int (x : InD I_slices_IndexFunc_int) : execF ⟨E_slices_IndexFunc_int, 19, D_slices_IndexFunc_int_1⟩ Tryz.f251.results.toList B_slices_IndexFunc_int I_slices_IndexFunc_int U_slices_IndexFunc_int x = raw_slices_IndexFunc_int x.1 x.2.1 := by kernel_rfl
theorem ok0_slices_IndexFunc_int : ConOk Tryz.prog 251 ⟨I_slices_IndexFunc_int, U_slices_IndexFunc_int, fun x => raw_slices_IndexFunc_int x.1 x.2.1⟩ := conOk_exec (fr_slices_IndexFunc_int_1) Tryz.func251 (by kernel_rfl) (by kernel_rfl) Tryz.ntmps251.symm (by decide) (fun x r h => (e_slices_IndexFunc_int x).trans h)
noncomputable def n_slices_IndexFunc_int (a0 : List Int) (a1 : Int) : Int := idxOf (fun e : Int => e == a1) a0
theorem nn_slices_IndexFunc_int (a0 : List Int) (a1 : Int) (hk : InOk I_slices_IndexFunc_int (a0, a1, ())) : raw_slices_IndexFunc_int a0 a1 = (fun n => some ((n, ()), ())) (n_slices_IndexFunc_int a0 a1) := by
  have hb : a0.length * 8 ≤ 2 ^ 47 := hk.1.1
  have h1 : F_slices_IndexFunc_int_13 (ms_slices_IndexFunc_int_13 a0 a1 a0.length) = some (bif leb 0 (idxOf (fun e : Int => e == a1) a0) then .inr (mz_slices_IndexFunc_int_13 (idxOf (fun e : Int => e == a1) a0)) else .inl mo_slices_IndexFunc_int_13) :=
    loopN_idx (step := stx_slices_IndexFunc_int_13) a0 0 (fun i => mk_slices_IndexFunc_int_13 a0 a1 a0.length i) (fun e : Int => e == a1) (fun i => .inr (mz_slices_IndexFunc_int_13 i)) _ (fun i hi => by
      simp only [stx_slices_IndexFunc_int_13, mk_slices_IndexFunc_int_13, st_slices_IndexFunc_int_13, ltb_t (show (i : Int) < a0.length by omega), cond_true, wr (show -9223372036854775808 ≤ (i : Int) + 1 by omega) (by omega), Int.natCast_add, Int.natCast_one, Int.toNat_natCast, inb_nat hi, nth_nat, n_impl_WriteSec_1]
      cases (a0.getD i 0 == a1) <;> rfl) (by simp only [stx_slices_IndexFunc_int_13, mk_slices_IndexFunc_int_13, st_slices_IndexFunc_int_13, ltb_f (Int.le_refl _), cond_false]) _ (by show _ < 18446744073709551616; omega)
  unfold raw_slices_IndexFunc_int n_slices_IndexFunc_int
  rw [h1]
  cases h : leb 0 (idxOf (fun e : Int => e == a1) a0)
  · rw [idx_neg h]; rfl
  · rfl
noncomputable def con_slices_IndexFunc_int : Con := ⟨I_slices_IndexFunc_int, U_slices_IndexFunc_int, fun x => (fun n => some ((n, ()), ())) (n_slices_IndexFunc_int x.1 x.2.1)⟩
theorem ok_slices_IndexFunc_int : ConOk Tryz.prog 251 con_slices_IndexFunc_int := (ok0_slices_IndexFunc_int).mono (fun x r hk h => (nn_slices_IndexFunc_int x.1 x.2.1 hk).trans h)
end

/-! slices_DeleteFunc_int -/
section
noncomputable def B_slices_DeleteFunc_int : Code := (Tryz.f216.body).getD .skip
noncomputable def E_slices_DeleteFunc_int : Env := envOf TT [(217, con_impl_WriteSec_1), (251, con_slices_IndexFunc_int)] []
theorem fr_slices_DeleteFunc_int_0 : FrOk Tryz.prog ⟨E_slices_DeleteFunc_int, 42, fun _ => none⟩ B_slices_DeleteFunc_int := frOk_base mixed tt_ok ⟨ok_impl_WriteSec_1, ok_slices_IndexFunc_int, trivial⟩
noncomputable def D_slices_DeleteFunc_int_0 : Nat → Option Seg := fun _ => none
def L_slices_DeleteFunc_int_61 : Shape := ⟨[(0, false, [.at 800000000]), (1, false, [.fx 217 tI]), (5, false, [.int .i64]), (6, false, [.int .i64])], [], [(800000000, tI, .fz)]⟩
def S_slices_DeleteFunc_int_61 : Shape := ⟨[(0, false, [.at 800000000]), (1, false, [.fx 217 tI]), (5, false, [.int .i64]), (6, false, [.int .i64])], [], [(800000000, tI, .fz)]⟩
def O_slices_DeleteFunc_int_61 : Shape := ⟨[(0, false, [.at 800000000]), (5, false, [.int .i64])], [], [(800000000, tI, .fz)]⟩
def Z_slices_DeleteFunc_int_61 : Shape := ⟨[], [], []⟩
abbrev mk_slices_DeleteFunc_int_61 (v0 : Int) (v1 : Int) (v2 : Int) (v3 : List Int) : (L_slices_DeleteFunc_int_61).X := ((((), ()), (v0, ()), (v1, ()), (v2, ()), ()), (), (v3, ()))
abbrev ms_slices_DeleteFunc_int_61 (v0 : Int) (v1 : Int) (v2 : Int) (v3 : List Int) : (S_slices_DeleteFunc_int_61).X := ((((), ()), (v0, ()), (v1, ()), (v2, ()), ()), (), (v3, ()))
abbrev mo_slices_DeleteFunc_int_61 (v0 : Int) (v1 : List Int) : (O_slices_DeleteFunc_int_61).X := ((((), ()), (v0, ()), ()), (), (v1, ()))
noncomputable def st_slices_DeleteFunc_int_61 (v0 : Int) (v1 : Int) (v2 : Int) (v3 : List Int) : Option ((L_slices_DeleteFunc_int_61).X ⊕ ((O_slices_DeleteFunc_int_61).X ⊕ (Z_slices_DeleteFunc_int_61).X)) :=
  bif (ltb v2 (v3.length : Int)) then
    bif (inb v2 v3.length) then
      let r3 := n_impl_WriteSec_1 (nth v3 v2 0) v0
      bif (!r3) then
        bif (inb v1 v3.length) then
          some (.inl ((((), ()), (v0, ()), ((IntKind.i64.wrap (v1 + 1)), ()), ((IntKind.i64.wrap (v2 + 1)), ()), ()), (), ((v3.set (v1).toNat (nth v3 v2 0)), ())))
        else none
      else
        some (.inl ((((), ()), (v0, ()), (v1, ()), ((IntKind.i64.wrap (v2 + 1)), ()), ()), (), (v3, ())))
    else none
  else
    some (.inr (.inl ((((), ()), (v1, ()), ()), (), (v3, ()))))
noncomputable def stx_slices_DeleteFunc_int_61 (x : (L_slices_DeleteFunc_int_61).X) := st_slices_DeleteFunc_int_61 x.1.2.1.1 x.1.2.2.1.1 x.1.2.2.2.1.1 x.2.2.1
def em_slices_DeleteFunc_int_61 (x : (S_slices_DeleteFunc_int_61).X) : (L_slices_DeleteFunc_int_61).X := ((((), ()), (x.1.2.1.1, ()), (x.1.2.2.1.1, ()), (x.1.2.2.2.1.1, ()), ()), (), (x.2.2.1, ()))
noncomputable def c_slices_DeleteFunc_int_61 : Code := (subN B_slices_DeleteFunc_int 64 244).getD .skip
theorem a_slices_DeleteFunc_int_61 : subN B_slices_DeleteFunc_int 64 61 = some (.block 0 (.loop c_slices_DeleteFunc_int_61)) := by kernel_rfl
theorem r_slices_DeleteFunc_int_61 (x : (L_slices_DeleteFunc_int_61).X) : roundT ⟨E_slices_DeleteFunc_int, 42, D_slices_DeleteFunc_int_0⟩ 0 c_slices_DeleteFunc_int_61 244 L_slices_DeleteFunc_int_61 O_slices_DeleteFunc_int_61 Z_slices_DeleteFunc_int_61 x = stx_slices_DeleteFunc_int_61 x := by kernel_rfl
noncomputable def fu_slices_DeleteFunc_int_61 (x : (S_slices_DeleteFunc_int_61).X) : Nat := (fun (u0 : Int) (u1 : Int) (u2 : Int) (u3 : List Int) => 18446744073709551616) x.1.2.1.1 x.1.2.2.1.1 x.1.2.2.2.1.1 x.2.2.1
noncomputable def F_slices_DeleteFunc_int_61 (x : (S_slices_DeleteFunc_int_61).X) : Option ((O_slices_DeleteFunc_int_61).X ⊕ (Z_slices_DeleteFunc_int_61).X) := loopN stx_slices_DeleteFunc_int_61 (fu_slices_DeleteFunc_int_61 x) (em_slices_DeleteFunc_int_61 x)
noncomputable def sg_slices_DeleteFunc_int_61 : Seg := ⟨S_slices_DeleteFunc_int_61, O_slices_DeleteFunc_int_61, Z_slices_DeleteFunc_int_61, F_slices_DeleteFunc_int_61⟩
noncomputable def D_slices_DeleteFunc_int_1 : Nat → Option Seg := fun q => bif Nat.beq q 61 then some sg_slices_DeleteFunc_int_61 else D_slices_DeleteFunc_int_0 q
theorem fr_slices_DeleteFunc_int_1 : FrOk Tryz.prog ⟨E_slices_DeleteFunc_int, 42, D_slices_DeleteFunc_int_1⟩ B_slices_DeleteFunc_int := (fr_slices_DeleteFunc_int_0).loop (sg := sg_slices_DeleteFunc_int_61) L_slices_DeleteFunc_int_61 em_slices_DeleteFunc_int_61 (by decide) a_slices_DeleteFunc_int_61 stx_slices_DeleteFunc_int_61 fu_slices_DeleteFunc_int_61 (by decide) (fun _ => rfl) (fun x r _ h => h) r_slices_DeleteFunc_int_61
abbrev I_slices_DeleteFunc_int : List Par := [.kp tL (.ow .fz), .fn 217 tI]
abbrev U_slices_DeleteFunc_int : List OT := [⟨false, tL, (.ow .fz)⟩]
noncomputable def raw_slices_DeleteFunc_int (a0 : List Int) (a1 : Int) : Option (ResD U_slices_DeleteFunc_int × MutD I_slices_DeleteFunc_int) :=
  let r1 := n_slices_IndexFunc_int a0 a1
  bif (r1 == (-1)) then
    some ((a0, ()), ())
  else
    segM (F_slices_DeleteFunc_int_61 ((((), ()), (a1, ()), (r1, ()), ((IntKind.i64.wrap (r1 + 1)), ()), ()), (), (a0, ()))) (fun y3 =>
      bif (cutok y3.1.2.1.1 (y3.2.2.1.length : Int) y3.2.2.1.length) then
        bif (cutok 0 y3.1.2.1.1 (y3.2.2.1.take (y3.1.2.1.1).toNat ++ (List.replicate ((y3.2.2.1.length : Int) - y3.1.2.1.1).toNat (0 : Int)) ++ y3.2.2.1.drop ((y3.1.2.1.1).toNat + (List.replicate ((y3.2.2.1.length : Int) - y3.1.2.1.1).toNat (0 : Int)).length)).length) then
          some (((((y3.2.2.1.take (y3.1.2.1.1).toNat ++ (List.replicate ((y3.2.2.1.length : Int) - y3.1.2.1.1).toNat (0 : Int)) ++ y3.2.2.1.drop ((y3.1.2.1.1).toNat + (List.replicate ((y3.2.2.1.length : Int) - y3.1.2.1.1).toNat (0 : Int)).length)).drop (0 : Int).toNat).take (y3.1.2.1.1 - 0).toNat), ()), ())
        else none
      else none) (fun y3 =>
      none)
theorem e_slices_DeleteFunc_int (x : InD I_slices_DeleteFunc_int) : execF ⟨E_slices_DeleteFunc_int, 42, D_slices_DeleteFunc_int_1⟩ Tryz.f216.results.toList B_slices_DeleteFunc_int I_slices_DeleteFunc_int U_slices_DeleteFunc_int x = raw_slices_DeleteFunc_int x.1 x.2.1 := by kernel_rfl
theorem ok0_slices_DeleteFunc_int : ConOk Tryz.prog 216 ⟨I_slices_DeleteFunc_int, U_slices_DeleteFunc_int, fun x => raw_slices_DeleteFunc_int x.1 x.2.1⟩ := conOk_exec (fr_slices_DeleteFunc_int_1) Tryz.func216 (by kernel_rfl) (by kernel_rfl) Tryz.ntmps216.symm (by decide) (fun x r h => (e_slices_DeleteFunc_int x).trans h)
noncomputable def n_slices_DeleteFunc_int (a0 : List Int) (a1 : Int) : List Int := sans a0 a1
theorem nn_slices_DeleteFunc_int (a0 : List Int) (a1 : Int) (hk : InOk I_slices_DeleteFunc_int (a0, a1, ())) : raw_slices_DeleteFunc_int a0 a1 = (fun n => some ((n, ()), ())) (n_slices_DeleteFunc_int a0 a1) := by
  have hb : a0.length * 8 ≤ 2 ^ 47 := hk.1.1
  have hs : sans a0 a1 = a0.filter (fun x => !(x == a1)) := rfl
  unfold raw_slices_DeleteFunc_int n_slices_DeleteFunc_int n_slices_IndexFunc_int
  simp only []
  cases hi : leb 0 (idxOf (fun e : Int => e == a1) a0)
  · rw [idx_neg hi, hs, idx_none hi]; rfl
  · obtain ⟨h1, h2⟩ := idxOf_in (d := (0 : Int)) hi
    have h3 := inb_iff.1 h1
    have h4 := idx_first hi
    generalize hk0 : idxOf (fun e : Int => e == a1) a0 = k at *
    obtain ⟨k, rfl⟩ : ∃ m : Nat, k = m := ⟨k.toNat, by omega⟩
    rw [Int.toNat_natCast] at h4
    rw [show ((k : Int) == -1) = false from beq_eq_false_iff_ne.2 (by omega), cond_false, wr (show -9223372036854775808 ≤ (k : Int) + 1 by omega) (by omega)]
    obtain ⟨b, e, i, s, rfl, q1, q2, q3⟩ := loopN_ind (step := stx_slices_DeleteFunc_int_61) (fun x => (a0.length - Int.toNat x.1.2.2.2.1.1))
      (fun x => ∃ (i j : Nat) (s : List Int), x = mk_slices_DeleteFunc_int_61 a1 i j s ∧ i < j ∧ j ≤ a0.length ∧ s.length = a0.length ∧ s.take i = (a0.take j).filter (fun x => !(x == a1)) ∧ s.drop j = a0.drop j)
      (fun b => ∃ (i : Nat) (s : List Int), b = .inl (mo_slices_DeleteFunc_int_61 i s) ∧ i ≤ a0.length ∧ s.length = a0.length ∧ s.take i = a0.filter (fun x => !(x == a1)))
      (fun x hx => by
        obtain ⟨i, j, s, rfl, p1, p2, p3, p4, p5⟩ := hx
        by_cases hj : j < a0.length
        · left
          have e1 : nth s j 0 = a0[j] := by
            rw [nth_nat, getD_get (by omega)]
            have := List.getElem_drop (xs := s) (i := j) (j := 0) (h := by rw [List.length_drop]; omega)
            have h6 : (s.drop j)[0]'(by rw [List.length_drop]; omega) = (a0.drop j)[0]'(by rw [List.length_drop]; omega) := by simp only [p5]
            simpa using h6
          have e2 : a0.take (j + 1) = a0.take j ++ [a0[j]] := (List.take_append_getElem hj).symm
          simp only [stx_slices_DeleteFunc_int_61, mk_slices_DeleteFunc_int_61, st_slices_DeleteFunc_int_61, p3, ltb_t (show (j : Int) < a0.length by omega), inb_nat hj, inb_nat (show i < a0.length by omega), e1, n_impl_WriteSec_1, wr (show -9223372036854775808 ≤ (j : Int) + 1 by omega) (by omega), wr (show -9223372036854775808 ≤ (i : Int) + 1 by omega) (by omega), cond_true, Int.toNat_natCast]
          cases hx : (a0[j] == a1)
          · refine ⟨_, rfl, ⟨i + 1, j + 1, s.set i a0[j], rfl, by omega, by omega, by rw [List.length_set, p3], ?_, ?_⟩, by show a0.length - ((j : Int) + 1).toNat < a0.length - ((j : Int)).toNat; omega⟩
            · rw [List.take_set, ← List.take_append_getElem (show i < s.length by omega), List.set_append_right _ _ (by rw [List.length_take]; omega), p4, e2, List.filter_append, List.filter_cons, hx]
              have : i - (List.filter (fun x => !x == a1) (a0.take j)).length = 0 := by rw [← p4, List.length_take]; omega
              rw [this]; rfl
            · rw [List.drop_set_of_lt (by omega), ← List.drop_drop, p5, List.drop_drop]
          · refine ⟨_, rfl, ⟨i, j + 1, s, rfl, by omega, by omega, p3, ?_, ?_⟩, by show a0.length - ((j : Int) + 1).toNat < a0.length - ((j : Int)).toNat; omega⟩
            · rw [p4, e2, List.filter_append, List.filter_cons, hx]; simp
            · rw [← List.drop_drop, p5, List.drop_drop]
        · right
          have : j = a0.length := by omega
          subst this
          rw [List.take_length] at p4
          refine ⟨_, ?_, i, s, rfl, by omega, p3, p4⟩
          simp only [stx_slices_DeleteFunc_int_61, mk_slices_DeleteFunc_int_61, st_slices_DeleteFunc_int_61, p3, ltb_f (Int.le_refl _), cond_false]) 18446744073709551616 (mk_slices_DeleteFunc_int_61 a1 k (k + 1 : Nat) a0) ⟨k, k + 1, a0, rfl, by omega, by omega, rfl, h4.symm, rfl⟩ (by show a0.length - ((k + 1 : Nat) : Int).toNat < 18446744073709551616; omega)
    rw [show ((k + 1 : Nat) : Int) = (k : Int) + 1 by omega] at e
    rw [show F_slices_DeleteFunc_int_61 (ms_slices_DeleteFunc_int_61 a1 k ((k : Int) + 1) a0) = _ from e]
    rw [hs, ← q3]
    have hL : (s.take i ++ List.replicate ((s.length : Int) - i).toNat (0 : Int) ++ s.drop ((i : Int).toNat + (List.replicate ((s.length : Int) - i).toNat (0 : Int)).length)).length = s.length := by
      simp only [List.length_append, List.length_take, List.length_replicate, List.length_drop]; omega
    show (bif cutok i s.length s.length then bif cutok 0 i (s.take i ++ List.replicate ((s.length : Int) - i).toNat (0 : Int) ++ s.drop ((i : Int).toNat + (List.replicate ((s.length : Int) - i).toNat (0 : Int)).length)).length then some ((((s.take i ++ List.replicate ((s.length : Int) - i).toNat (0 : Int) ++ s.drop ((i : Int).toNat + (List.replicate ((s.length : Int) - i).toNat (0 : Int)).length)).drop 0).take ((i : Int) - 0).toNat, ()), ()) else none else none) = some ((s.take i, ()), ())
    rw [hL, cutok_iff.2 (show 0 ≤ (i : Int) ∧ (i : Int) ≤ s.length ∧ (s.length : Int) ≤ s.length by omega), cutok_iff.2 (show (0 : Int) ≤ 0 ∧ (0 : Int) ≤ i ∧ (i : Int) ≤ s.length by omega), List.drop_zero, show ((i : Int) - 0).toNat = i by omega, List.append_assoc, List.take_append_of_le_length (by rw [List.length_take]; omega), List.take_take, Nat.min_self]; rfl
noncomputable def con_slices_DeleteFunc_int : Con := ⟨I_slices_DeleteFunc_int, U_slices_DeleteFunc_int, fun x => (fun n => some ((n, ()), ())) (n_slices_DeleteFunc_int x.1 x.2.1)⟩
theorem ok_slices_DeleteFunc_int : ConOk Tryz.prog 216 con_slices_DeleteFunc_int := (ok0_slices_DeleteFunc_int).mono (fun x r hk h => (nn_slices_DeleteFunc_int x.1 x.2.1 hk).trans h)
end

/-! impl_WriteSec -/
section
noncomputable def B_impl_WriteSec : Code := (Tryz.f155.body).getD .skip
noncomputable def E_impl_WriteSec : Env := envOf TT [(132, con_impl_MemOk), (151, con_impl_copyInts), (203, con_impl_SecOk), (204, con_impl_hasSec), (215, con_impl_copyMem), (216, con_slices_DeleteFunc_int)] []
theorem fr_impl_WriteSec_0 : FrOk Tryz.prog ⟨E_impl_WriteSec, 51, fun _ => none⟩ B_impl_WriteSec := frOk_base mixed tt_ok ⟨ok_impl_MemOk, ok_impl_copyInts, ok_impl_SecOk, ok_impl_hasSec, ok_impl_copyMem, ok_slices_DeleteFunc_int, trivial⟩
noncomputable def D_impl_WriteSec_0 : Nat → Option Seg := fun _ => none
abbrev I_impl_WriteSec : List Par := [.rd tM, .rd tI, .rd tL]
abbrev U_impl_WriteSec : List OT := [⟨false, tM, (.pr (.ow (.ow .fz)) (.pr (.ow (.pr .fz (.ow .fz))) (.pr .fz (.ow .fz))))⟩, ⟨false, tB, .fz⟩]
noncomputable def raw_impl_WriteSec (a0 : dM) (a1 : Int) (a2 : List Int) : Option (ResD U_impl_WriteSec × MutD I_impl_WriteSec) :=
  let r1 := n_impl_copyMem a0
  let r2 := n_impl_MemOk a0
  bif (!(!r2)) then
    bif (!a0.2.2.1) then
      let r3 := n_impl_hasSec a0 a1
      bif (!(!r3)) then
        let r4 := n_impl_SecOk a2
        bif (!(!r4)) then
          bif ((a0.2.1.length : Int) == 60) then
            some ((r1, false, ()), ())
          else
            let r5 := n_impl_copyInts a2
            bif (apok r1.2.1.length ([(a1, r5)] : List dW).length 32) then
              let r6 := n_slices_DeleteFunc_int r1.2.2.2 a1
              some (((r1.1, (r1.2.1 ++ ([(a1, r5)] : List dW)), r1.2.2.1, r6), true, ()), ())
            else none
        else
          some ((r1, false, ()), ())
      else
        some ((r1, false, ()), ())
    else
      some ((r1, false, ()), ())
  else
    some ((r1, false, ()), ())
theorem e_impl_WriteSec (x : InD I_impl_WriteSec) : execF ⟨E_impl_WriteSec, 51, D_impl_WriteSec_0⟩ Tryz.f155.results.toList B_impl_WriteSec I_impl_WriteSec U_impl_WriteSec x = raw_impl_WriteSec x.1 x.2.1 x.2.2.1 := by kernel_rfl
theorem ok0_impl_WriteSec : ConOk Tryz.prog 155 ⟨I_impl_WriteSec, U_impl_WriteSec, fun x => raw_impl_WriteSec x.1 x.2.1 x.2.2.1⟩ := conOk_exec (fr_impl_WriteSec_0) Tryz.func155 (by kernel_rfl) (by kernel_rfl) Tryz.ntmps155.symm (by decide) (fun x r h => (e_impl_WriteSec x).trans h)
noncomputable def n_impl_WriteSec (a0 : dM) (a1 : Int) (a2 : List Int) : dM × Bool := writeSec a0 a1 a2
theorem nn_impl_WriteSec (a0 : dM) (a1 : Int) (a2 : List Int) (hk : InOk I_impl_WriteSec (a0, a1, a2, ())) : raw_impl_WriteSec a0 a1 a2 = (fun n => some ((n.1, n.2, ()), ())) (n_impl_WriteSec a0 a1 a2) := by
  have hb1 : a0.1.length * 24 ≤ 2 ^ 47 := hk.1.1.1
  unfold raw_impl_WriteSec n_impl_WriteSec writeSec canWrite
  simp only [n_impl_copyMem, n_impl_MemOk, n_impl_hasSec, impl_in_eq, in_len (show a0.1.length ≤ 1152921504606846976 by omega), impl_sec_eq, n_impl_copyInts, n_slices_DeleteFunc_int]
  cases hm : memOk a0
  · rfl
  have hc := (memOk_parts hm).2.2.2.2.2
  cases a0.2.2.1
  · cases inb a1 a0.1.length
    · rfl
    cases secOk a2
    · rfl
    by_cases h : (a0.2.1.length : Int) < 60
    · rw [ltb_t h, show ((a0.2.1.length : Int) == 60) = false from beq_eq_false_iff_ne.2 (by omega), apok_iff.2 (show (a0.2.1.length + [(a1, a2)].length) * 32 ≤ 140737488355328 by simp only [List.length_cons, List.length_nil]; omega)]; rfl
    · rw [ltb_f (by omega), show ((a0.2.1.length : Int) == 60) = true from beq_iff_eq.2 (by omega)]; rfl
  · rfl
noncomputable def con_impl_WriteSec : Con := ⟨I_impl_WriteSec, U_impl_WriteSec, fun x => (fun n => some ((n.1, n.2, ()), ())) (n_impl_WriteSec x.1 x.2.1 x.2.2.1)⟩
theorem ok_impl_WriteSec : ConOk Tryz.prog 155 con_impl_WriteSec := (ok0_impl_WriteSec).mono (fun x r hk h => (nn_impl_WriteSec x.1 x.2.1 x.2.2.1 hk).trans h)
end

/-! impl_Arr_write -/
section
noncomputable def B_impl_Arr_write : Code := (Tryz.f78.body).getD .skip
noncomputable def E_impl_Arr_write : Env := envOf TT [(154, con_impl_Arr_op), (155, con_impl_WriteSec)] []
theorem fr_impl_Arr_write_0 : FrOk Tryz.prog ⟨E_impl_Arr_write, 39, fun _ => none⟩ B_impl_Arr_write := frOk_base mixed tt_ok ⟨ok_impl_Arr_op, ok_impl_WriteSec, trivial⟩
noncomputable def D_impl_Arr_write_0 : Nat → Option Seg := fun _ => none
abbrev I_impl_Arr_write : List Par := [.pt tA (.pr .fz (.pr (.pr .fz .fz) (.pr (.ow (.pr (.ow (.ow .fz)) (.pr (.ow (.pr .fz (.ow .fz))) (.pr .fz (.ow .fz))))) (.pr .fz (.pr .fz (.pr .fz (.pr .fz (.pr .fz (.pr (.ow (.pr .fz (.ow .fz))) (.pr .fz (.pr .fz .fz))))))))))), .rd tI, .rd tI, .rd tL]
abbrev U_impl_Arr_write : List OT := [⟨false, tB, .fz⟩]
noncomputable def raw_impl_Arr_write (a0 : dA) (a1 : Int) (a2 : Int) (a3 : List Int) : Option (ResD U_impl_Arr_write × MutD I_impl_Arr_write) :=
  bif (inb a1 a0.2.2.1.length) then
    bif (((nth a0.2.2.1 a1 ([], [], false, [])).2).2).1 then
      some ((true, ()), (a0, ()))
    else
      let r1 := n_impl_Arr_op a0
      bif (!r1.1) then
        some ((false, ()), (r1.2, ()))
      else
        bif (inb a1 r1.2.2.2.1.length) then
          let r2 := n_impl_WriteSec ((nth r1.2.2.2.1 a1 ([], [], false, [])).1, ((nth r1.2.2.2.1 a1 ([], [], false, [])).2).1, (((nth r1.2.2.2.1 a1 ([], [], false, [])).2).2)) a2 a3
          bif (inb a1 r1.2.2.2.1.length) then
            some ((true, ()), ((r1.2.1, r1.2.2.1, (r1.2.2.2.1.set (a1).toNat r2.1), r1.2.2.2.2), ()))
          else none
        else none
  else none
theorem e_impl_Arr_write (x : InD I_impl_Arr_write) : execF ⟨E_impl_Arr_write, 39, D_impl_Arr_write_0⟩ Tryz.f78.results.toList B_impl_Arr_write I_impl_Arr_write U_impl_Arr_write x = raw_impl_Arr_write x.1 x.2.1 x.2.2.1 x.2.2.2.1 := by kernel_rfl
theorem ok0_impl_Arr_write : ConOk Tryz.prog 78 ⟨I_impl_Arr_write, U_impl_Arr_write, fun x => raw_impl_Arr_write x.1 x.2.1 x.2.2.1 x.2.2.2.1⟩ := conOk_exec (fr_impl_Arr_write_0) Tryz.func78 (by kernel_rfl) (by kernel_rfl) Tryz.ntmps78.symm (by decide) (fun x r h => (e_impl_Arr_write x).trans h)
noncomputable def n_impl_Arr_write (a0 : dA) (a1 a2 : Int) (a3 : List Int) : Bool × dA := (!(downA (putA a0 a1 a2 a3)), putA a0 a1 a2 a3)
noncomputable def q_impl_Arr_write (a0 : dA) (a1 a2 : Int) (a3 : List Int) : Bool := inb a1 a0.2.2.1.length && !(downA a0)
theorem nn_impl_Arr_write (a0 : dA) (a1 a2 : Int) (a3 : List Int) (hk : InOk I_impl_Arr_write (a0, a1, a2, a3, ())) (hq : q_impl_Arr_write a0 a1 a2 a3 = true) : raw_impl_Arr_write a0 a1 a2 a3 = (fun n => some ((n.1, ()), (n.2, ()))) (n_impl_Arr_write a0 a1 a2 a3) := by
  simp only [q_impl_Arr_write, Bool.and_eq_true, Bool.not_eq_true'] at hq
  unfold raw_impl_Arr_write n_impl_Arr_write
  simp only [put_down hq.2]
  unfold putA setMem
  simp only [impl_op_eq hq.2, op_mems, hq.1, pr_eta, n_impl_WriteSec]
  cases (nth a0.2.2.1 a1 noMem).2.2.1 <;> cases (opA a0).1 <;> rfl
noncomputable def o_impl_Arr_write (a0 : dA) (a1 : Int) (a2 : Int) (a3 : List Int) : Option (ResD U_impl_Arr_write × MutD I_impl_Arr_write) := bif q_impl_Arr_write a0 a1 a2 a3 then (fun n => some ((n.1, ()), (n.2, ()))) (n_impl_Arr_write a0 a1 a2 a3) else none
theorem ot_impl_Arr_write (a0 : dA) (a1 : Int) (a2 : Int) (a3 : List Int) (h : q_impl_Arr_write a0 a1 a2 a3 = true) : o_impl_Arr_write a0 a1 a2 a3 = (fun n => some ((n.1, ()), (n.2, ()))) (n_impl_Arr_write a0 a1 a2 a3) := by unfold o_impl_Arr_write; rw [h]; rfl
noncomputable def con_impl_Arr_write : Con := ⟨I_impl_Arr_write, U_impl_Arr_write, fun x => o_impl_Arr_write x.1 x.2.1 x.2.2.1 x.2.2.2.1⟩
theorem ok_impl_Arr_write : ConOk Tryz.prog 78 con_impl_Arr_write := (ok0_impl_Arr_write).mono (fun x r hk h => pre_ok h (fun hq => nn_impl_Arr_write x.1 x.2.1 x.2.2.1 x.2.2.2.1 hk hq))
end
end Go.Tf
