/- Functions of the program, and what they come to. -/
import Derived.Test.YtfpjmijaiekbgaaGreatExactBuildStepF12
namespace Go.Tf
open Go.Proofs
set_option synthInstance.maxHeartbeats 400000
set_option synthInstance.maxSize 10000
set_option linter.unusedVariables false
set_option linter.unusedSimpArgs false
set_option maxRecDepth 100000
/-! impl_copyMem -/
section
noncomputable def B_impl_copyMem : Code := (Tryz.f215.body).getD .skip
noncomputable def E_impl_copyMem : Env := envOf TT [(151, con_impl_copyInts)] []
theorem fr_impl_copyMem_0 : FrOk Tryz.prog ⟨E_impl_copyMem, 49, fun _ => none⟩ B_impl_copyMem := frOk_base mixed tt_ok ⟨ok_impl_copyInts, trivial⟩
noncomputable def D_impl_copyMem_0 : Nat → Option Seg := fun _ => none
def L_impl_copyMem_29 : Shape := ⟨[(1, false, [.ptr 0 0]), (2, false, [.ptr 64 0]), (3, false, [.ptr 4480 0]), (15, false, [.br tL]), (16, false, [.int .i64]), (17, false, [.int .i64])], [(0, [.br tL, .br tW, .bool, .br tI]), (64, [.nil, .nil, .bool, .nil]), (4480, [.at 800000001, .nil, .bool, .at 800000000])], [(800000001, tL, (.ow .fz)), (800000000, tI, .fz)]⟩
def S_impl_copyMem_29 : Shape := ⟨[(1, false, [.ptr 0 0]), (2, false, [.ptr 64 0]), (3, false, [.ptr 4480 0]), (15, false, [.br tL]), (16, false, [.int .i64]), (17, false, [.ci .i64 0])], [(0, [.br tL, .br tW, .bool, .br tI]), (64, [.nil, .nil, .bool, .nil]), (4480, [.at 800000001, .nil, .bool, .at 800000000])], [(800000001, tL, (.ow .fz)), (800000000, tI, .fz)]⟩
def O_impl_copyMem_29 : Shape := ⟨[(1, false, [.ptr 0 0]), (2, false, [.ptr 64 0]), (3, false, [.ptr 4480 0])], [(0, [.br tL, .br tW, .bool, .br tI]), (64, [.nil, .nil, .bool, .nil]), (4480, [.at 800000000, .nil, .bool, .at 800000001])], [(800000000, tL, (.ow .fz)), (800000001, tI, .fz)]⟩
def Z_impl_copyMem_29 : Shape := ⟨[], [], []⟩
abbrev mk_impl_copyMem_29 (v0 : List (List Int)) (v1 : Int) (v2 : Int) (v3 : dM) (v4 : dM) (v5 : dM) : (L_impl_copyMem_29).X := ((((), ()), ((), ()), ((), ()), (v0, ()), (v1, ()), (v2, ()), ()), ((v3.1, v3.2.1, v3.2.2.1, v3.2.2.2, ()), ((), (), v4.2.2.1, (), ()), ((), (), v5.2.2.1, (), ()), ()), (v5.1, v5.2.2.2, ()))
abbrev ms_impl_copyMem_29 (v0 : List (List Int)) (v1 : Int) (v2 : dM) (v3 : dM) (v4 : dM) : (S_impl_copyMem_29).X := ((((), ()), ((), ()), ((), ()), (v0, ()), (v1, ()), ((), ()), ()), ((v2.1, v2.2.1, v2.2.2.1, v2.2.2.2, ()), ((), (), v3.2.2.1, (), ()), ((), (), v4.2.2.1, (), ()), ()), (v4.1, v4.2.2.2, ()))
abbrev mo_impl_copyMem_29 (v0 : dM) (v1 : dM) (v2 : dM) : (O_impl_copyMem_29).X := ((((), ()), ((), ()), ((), ()), ()), ((v0.1, v0.2.1, v0.2.2.1, v0.2.2.2, ()), ((), (), v1.2.2.1, (), ()), ((), (), v2.2.2.1, (), ()), ()), (v2.1, v2.2.2.2, ()))
noncomputable def st_impl_copyMem_29 (v0 : List (List Int)) (v1 : Int) (v2 : Int) (v3 : List (List Int)) (v4 : List dW) (v5 : Bool) (v6 : List Int) (v7 : Bool) (v8 : Bool) (v9 : List (List Int)) (v10 : List Int) : Option ((L_impl_copyMem_29).X ⊕ ((O_impl_copyMem_29).X ⊕ (Z_impl_copyMem_29).X)) :=
  bif (ltb v2 v1) then
    bif (inb v2 v0.length) then
      let r4 := n_impl_copyInts (nth v0 v2 [])
      bif (apok v9.length ([r4] : List (List Int)).length 24) then
        some (.inl ((((), ()), ((), ()), ((), ()), (v0, ()), (v1, ()), ((IntKind.i64.wrap (v2 + 1)), ()), ()), ((v3, v4, v5, v6, ()), ((), (), v7, (), ()), ((), (), v8, (), ()), ()), ((v9 ++ ([r4] : List (List Int))), v10, ())))
      else none
    else none
  else
    some (.inr (.inl ((((), ()), ((), ()), ((), ()), ()), ((v3, v4, v5, v6, ()), ((), (), v7, (), ()), ((), (), v8, (), ()), ()), (v9, v10, ()))))
noncomputable def stx_impl_copyMem_29 (x : (L_impl_copyMem_29).X) := st_impl_copyMem_29 x.1.2.2.2.1.1 x.1.2.2.2.2.1.1 x.1.2.2.2.2.2.1.1 x.2.1.1.1 x.2.1.1.2.1 x.2.1.1.2.2.1 x.2.1.1.2.2.2.1 x.2.1.2.1.2.2.1 x.2.1.2.2.1.2.2.1 x.2.2.1 x.2.2.2.1
def em_impl_copyMem_29 (x : (S_impl_copyMem_29).X) : (L_impl_copyMem_29).X := ((((), ()), ((), ()), ((), ()), (x.1.2.2.2.1.1, ()), (x.1.2.2.2.2.1.1, ()), (0, ()), ()), ((x.2.1.1.1, x.2.1.1.2.1, x.2.1.1.2.2.1, x.2.1.1.2.2.2.1, ()), ((), (), x.2.1.2.1.2.2.1, (), ()), ((), (), x.2.1.2.2.1.2.2.1, (), ()), ()), (x.2.2.1, x.2.2.2.1, ()))
noncomputable def c_impl_copyMem_29 : Code := (subN B_impl_copyMem 64 116).getD .skip
theorem a_impl_copyMem_29 : subN B_impl_copyMem 64 29 = some (.block 0 (.loop c_impl_copyMem_29)) := by kernel_rfl
theorem r_impl_copyMem_29 (x : (L_impl_copyMem_29).X) : roundT ⟨E_impl_copyMem, 49, D_impl_copyMem_0⟩ 0 c_impl_copyMem_29 116 L_impl_copyMem_29 O_impl_copyMem_29 Z_impl_copyMem_29 x = stx_impl_copyMem_29 x := by kernel_rfl
noncomputable def fu_impl_copyMem_29 (x : (S_impl_copyMem_29).X) : Nat := (fun (u0 : List (List Int)) (u1 : Int) (u2 : List (List Int)) (u3 : List dW) (u4 : Bool) (u5 : List Int) (u6 : Bool) (u7 : Bool) (u8 : List (List Int)) (u9 : List Int) => 18446744073709551616) x.1.2.2.2.1.1 x.1.2.2.2.2.1.1 x.2.1.1.1 x.2.1.1.2.1 x.2.1.1.2.2.1 x.2.1.1.2.2.2.1 x.2.1.2.1.2.2.1 x.2.1.2.2.1.2.2.1 x.2.2.1 x.2.2.2.1
noncomputable def F_impl_copyMem_29 (x : (S_impl_copyMem_29).X) : Option ((O_impl_copyMem_29).X ⊕ (Z_impl_copyMem_29).X) := loopN stx_impl_copyMem_29 (fu_impl_copyMem_29 x) (em_impl_copyMem_29 x)
noncomputable def sg_impl_copyMem_29 : Seg := ⟨S_impl_copyMem_29, O_impl_copyMem_29, Z_impl_copyMem_29, F_impl_copyMem_29⟩
noncomputable def D_impl_copyMem_1 : Nat → Option Seg := fun q => bif Nat.beq q 29 then some sg_impl_copyMem_29 else D_impl_copyMem_0 q
theorem fr_impl_copyMem_1 : FrOk Tryz.prog ⟨E_impl_copyMem, 49, D_impl_copyMem_1⟩ B_impl_copyMem := (fr_impl_copyMem_0).loop (sg := sg_impl_copyMem_29) L_impl_copyMem_29 em_impl_copyMem_29 (by decide) a_impl_copyMem_29 stx_impl_copyMem_29 fu_impl_copyMem_29 (by decide) (fun _ => rfl) (fun x r _ h => h) r_impl_copyMem_29
def L_impl_copyMem_61 : Shape := ⟨[(2, false, [.ptr 64 0]), (3, false, [.ptr 4480 0]), (30, false, [.br tW]), (31, false, [.int .i64]), (32, false, [.int .i64])], [(64, [.nil, .nil, .bool, .nil]), (4480, [.at 800000000, .at 800000002, .bool, .at 800000001])], [(800000000, tL, (.ow .fz)), (800000002, tW, (.pr .fz (.ow .fz))), (800000001, tI, .fz)]⟩
def S_impl_copyMem_61 : Shape := ⟨[(2, false, [.ptr 64 0]), (3, false, [.ptr 4480 0]), (30, false, [.br tW]), (31, false, [.int .i64]), (32, false, [.ci .i64 0])], [(64, [.nil, .nil, .bool, .nil]), (4480, [.at 800000000, .at 800000002, .bool, .at 800000001])], [(800000000, tL, (.ow .fz)), (800000002, tW, (.pr .fz (.ow .fz))), (800000001, tI, .fz)]⟩
def O_impl_copyMem_61 : Shape := ⟨[(2, false, [.ptr 64 0]), (3, false, [.ptr 4480 0])], [(64, [.nil, .nil, .bool, .nil]), (4480, [.at 800000000, .at 800000001, .bool, .at 800000002])], [(800000000, tL, (.ow .fz)), (800000001, tW, (.pr .fz (.ow .fz))), (800000002, tI, .fz)]⟩
def Z_impl_copyMem_61 : Shape := ⟨[], [], []⟩
abbrev mk_impl_copyMem_61 (v0 : List dW) (v1 : Int) (v2 : Int) (v3 : dM) (v4 : dM) : (L_impl_copyMem_61).X := ((((), ()), ((), ()), (v0, ()), (v1, ()), (v2, ()), ()), (((), (), v3.2.2.1, (), ()), ((), (), v4.2.2.1, (), ()), ()), (v4.1, v4.2.1, v4.2.2.2, ()))
abbrev ms_impl_copyMem_61 (v0 : List dW) (v1 : Int) (v2 : dM) (v3 : dM) : (S_impl_copyMem_61).X := ((((), ()), ((), ()), (v0, ()), (v1, ()), ((), ()), ()), (((), (), v2.2.2.1, (), ()), ((), (), v3.2.2.1, (), ()), ()), (v3.1, v3.2.1, v3.2.2.2, ()))
abbrev mo_impl_copyMem_61 (v0 : dM) (v1 : dM) : (O_impl_copyMem_61).X := ((((), ()), ((), ()), ()), (((), (), v0.2.2.1, (), ()), ((), (), v1.2.2.1, (), ()), ()), (v1.1, v1.2.1, v1.2.2.2, ()))
noncomputable def st_impl_copyMem_61 (v0 : List dW) (v1 : Int) (v2 : Int) (v3 : Bool) (v4 : Bool) (v5 : List (List Int)) (v6 : List dW) (v7 : List Int) : Option ((L_impl_copyMem_61).X ⊕ ((O_impl_copyMem_61).X ⊕ (Z_impl_copyMem_61).X)) :=
  bif (ltb v2 v1) then
    bif (inb v2 v0.length) then
      let r8 := n_impl_copyInts ((nth v0 v2 (0, [])).2)
      bif (apok v6.length ([((nth v0 v2 (0, [])).1, r8)] : List dW).length 32) then
        some (.inl ((((), ()), ((), ()), (v0, ()), (v1, ()), ((IntKind.i64.wrap (v2 + 1)), ()), ()), (((), (), v3, (), ()), ((), (), v4, (), ()), ()), (v5, (v6 ++ ([((nth v0 v2 (0, [])).1, r8)] : List dW)), v7, ())))
      else none
    else none
  else
    some (.inr (.inl ((((), ()), ((), ()), ()), (((), (), v3, (), ()), ((), (), v4, (), ()), ()), (v5, v6, v7, ()))))
noncomputable def stx_impl_copyMem_61 (x : (L_impl_copyMem_61).X) := st_impl_copyMem_61 x.1.2.2.1.1 x.1.2.2.2.1.1 x.1.2.2.2.2.1.1 x.2.1.1.2.2.1 x.2.1.2.1.2.2.1 x.2.2.1 x.2.2.2.1 x.2.2.2.2.1
def em_impl_copyMem_61 (x : (S_impl_copyMem_61).X) : (L_impl_copyMem_61).X := ((((), ()), ((), ()), (x.1.2.2.1.1, ()), (x.1.2.2.2.1.1, ()), (0, ()), ()), (((), (), x.2.1.1.2.2.1, (), ()), ((), (), x.2.1.2.1.2.2.1, (), ()), ()), (x.2.2.1, x.2.2.2.1, x.2.2.2.2.1, ()))
noncomputable def c_impl_copyMem_61 : Code := (subN B_impl_copyMem 64 244).getD .skip
theorem a_impl_copyMem_61 : subN B_impl_copyMem 64 61 = some (.block 2 (.loop c_impl_copyMem_61)) := by kernel_rfl
theorem r_impl_copyMem_61 (x : (L_impl_copyMem_61).X) : roundT ⟨E_impl_copyMem, 49, D_impl_copyMem_1⟩ 2 c_impl_copyMem_61 244 L_impl_copyMem_61 O_impl_copyMem_61 Z_impl_copyMem_61 x = stx_impl_copyMem_61 x := by kernel_rfl
noncomputable def fu_impl_copyMem_61 (x : (S_impl_copyMem_61).X) : Nat := (fun (u0 : List dW) (u1 : Int) (u2 : Bool) (u3 : Bool) (u4 : List (List Int)) (u5 : List dW) (u6 : List Int) => 18446744073709551616) x.1.2.2.1.1 x.1.2.2.2.1.1 x.2.1.1.2.2.1 x.2.1.2.1.2.2.1 x.2.2.1 x.2.2.2.1 x.2.2.2.2.1
noncomputable def F_impl_copyMem_61 (x : (S_impl_copyMem_61).X) : Option ((O_impl_copyMem_61).X ⊕ (Z_impl_copyMem_61).X) := loopN stx_impl_copyMem_61 (fu_impl_copyMem_61 x) (em_impl_copyMem_61 x)
noncomputable def sg_impl_copyMem_61 : Seg := ⟨S_impl_copyMem_61, O_impl_copyMem_61, Z_impl_copyMem_61, F_impl_copyMem_61⟩
noncomputable def D_impl_copyMem_2 : Nat → Option Seg := fun q => bif Nat.beq q 61 then some sg_impl_copyMem_61 else D_impl_copyMem_1 q
theorem fr_impl_copyMem_2 : FrOk Tryz.prog ⟨E_impl_copyMem, 49, D_impl_copyMem_2⟩ B_impl_copyMem := (fr_impl_copyMem_1).loop (sg := sg_impl_copyMem_61) L_impl_copyMem_61 em_impl_copyMem_61 (by decide) a_impl_copyMem_61 stx_impl_copyMem_61 fu_impl_copyMem_61 (by decide) (fun _ => rfl) (fun x r _ h => h) r_impl_copyMem_61
abbrev I_impl_copyMem : List Par := [.rd tM]
abbrev U_impl_copyMem : List OT := [⟨false, tM, (.pr (.ow (.ow .fz)) (.pr (.ow (.pr .fz (.ow .fz))) (.pr .fz (.ow .fz))))⟩]
noncomputable def raw_impl_copyMem (a0 : dM) : Option (ResD U_impl_copyMem × MutD I_impl_copyMem) :=
  let r1 := n_impl_copyInts a0.2.2.2
  segM (F_impl_copyMem_29 ((((), ()), ((), ()), ((), ()), (a0.1, ()), ((a0.1.length : Int), ()), ((), ()), ()), ((a0.1, a0.2.1, a0.2.2.1, a0.2.2.2, ()), ((), (), false, (), ()), ((), (), a0.2.2.1, (), ()), ()), ([], r1, ()))) (fun y4 =>
    segM (F_impl_copyMem_61 ((((), ()), ((), ()), (y4.2.1.1.2.1, ()), ((y4.2.1.1.2.1.length : Int), ()), ((), ()), ()), (((), (), y4.2.1.2.1.2.2.1, (), ()), ((), (), y4.2.1.2.2.1.2.2.1, (), ()), ()), (y4.2.2.1, [], y4.2.2.2.1, ()))) (fun y8 =>
      some (((y8.2.2.1, y8.2.2.2.1, y8.2.1.2.1.2.2.1, y8.2.2.2.2.1), ()), ())) (fun y8 =>
      none)) (fun y4 =>
    none)
theorem e_impl_copyMem (x : InD I_impl_copyMem) : execF ⟨E_impl_copyMem, 49, D_impl_copyMem_2⟩ Tryz.f215.results.toList B_impl_copyMem I_impl_copyMem U_impl_copyMem x = raw_impl_copyMem x.1 := by kernel_rfl
theorem ok0_impl_copyMem : ConOk Tryz.prog 215 ⟨I_impl_copyMem, U_impl_copyMem, fun x => raw_impl_copyMem x.1⟩ := conOk_exec (fr_impl_copyMem_2) Tryz.func215 (by kernel_rfl) (by kernel_rfl) Tryz.ntmps215.symm (by decide) (fun x r h => (e_impl_copyMem x).trans h)
noncomputable def n_impl_copyMem (a0 : dM) : dM := a0
theorem nn_impl_copyMem (a0 : dM) (hk : InOk I_impl_copyMem (a0, ())) : raw_impl_copyMem a0 = (fun n => some ((n, ()), ())) (n_impl_copyMem a0) := by
  have hb1 : a0.1.length * 24 ≤ 2 ^ 47 := hk.1.1.1
  have hb2 : a0.2.1.length * 32 ≤ 2 ^ 47 := hk.1.2.1.1
  have h1 : F_impl_copyMem_29 (ms_impl_copyMem_29 a0.1 a0.1.length a0 noMem ([], [], a0.2.2.1, a0.2.2.2)) = some (.inl (mo_impl_copyMem_29 a0 noMem (a0.1, [], a0.2.2.1, a0.2.2.2))) := by
    have := loopN_fold (step := stx_impl_copyMem_29) a0.1 [] (fun i s => mk_impl_copyMem_29 a0.1 a0.1.length i a0 noMem (s, [], a0.2.2.1, a0.2.2.2)) (fun s x => s ++ [x]) (fun i s => s.length = i) (fun s => .inl (mo_impl_copyMem_29 a0 noMem (s, [], a0.2.2.1, a0.2.2.2))) (fun i s hi hs2 => ⟨by
      simp only [stx_impl_copyMem_29, mk_impl_copyMem_29, st_impl_copyMem_29, ltb_t (show (i : Int) < a0.1.length by omega), cond_true, wr (show -9223372036854775808 ≤ (i : Int) + 1 by omega) (by omega), Int.natCast_add, Int.natCast_one, Int.toNat_natCast, inb_nat hi, nth_nat, n_impl_copyInts]
      rw [apok_iff.2 (show (s.length + [a0.1.getD i []].length) * 24 ≤ 140737488355328 by simp only [List.length_cons, List.length_nil]; omega)]; rfl, by simp [hs2]⟩) (fun s _ => by simp only [stx_impl_copyMem_29, mk_impl_copyMem_29, st_impl_copyMem_29, ltb_f (Int.le_refl _), cond_false]) [] rfl 18446744073709551616 (by omega)
    rw [foldl_id] at this
    exact this
  have h2 : F_impl_copyMem_61 (ms_impl_copyMem_61 a0.2.1 a0.2.1.length noMem (a0.1, [], a0.2.2.1, a0.2.2.2)) = some (.inl (mo_impl_copyMem_61 noMem a0)) := by
    have := loopN_fold (step := stx_impl_copyMem_61) a0.2.1 (0, []) (fun i s => mk_impl_copyMem_61 a0.2.1 a0.2.1.length i noMem (a0.1, s, a0.2.2.1, a0.2.2.2)) (fun s x => s ++ [x]) (fun i s => s.length = i) (fun s => .inl (mo_impl_copyMem_61 noMem (a0.1, s, a0.2.2.1, a0.2.2.2))) (fun i s hi hs2 => ⟨by
      simp only [stx_impl_copyMem_61, mk_impl_copyMem_61, st_impl_copyMem_61, ltb_t (show (i : Int) < a0.2.1.length by omega), cond_true, wr (show -9223372036854775808 ≤ (i : Int) + 1 by omega) (by omega), Int.natCast_add, Int.natCast_one, Int.toNat_natCast, inb_nat hi, nth_nat, n_impl_copyInts, pr_eta]
      rw [apok_iff.2 (show (s.length + [a0.2.1.getD i (0, [])].length) * 32 ≤ 140737488355328 by simp only [List.length_cons, List.length_nil]; omega)]; rfl, by simp [hs2]⟩) (fun s _ => by simp only [stx_impl_copyMem_61, mk_impl_copyMem_61, st_impl_copyMem_61, ltb_f (Int.le_refl _), cond_false]) [] rfl 18446744073709551616 (by omega)
    rw [foldl_id] at this
    exact this
  unfold raw_impl_copyMem n_impl_copyMem
  simp only [n_impl_copyInts, h1, segM_inl, h2]
noncomputable def con_impl_copyMem : Con := ⟨I_impl_copyMem, U_impl_copyMem, fun x => (fun n => some ((n, ()), ())) (n_impl_copyMem x.1)⟩
theorem ok_impl_copyMem : ConOk Tryz.prog 215 con_impl_copyMem := (ok0_impl_copyMem).mono (fun x r hk h => (nn_impl_copyMem x.1 hk).trans h)
end

/-! impl_copyMems -/
section
noncomputable def B_impl_copyMems : Code := (Tryz.f152.body).getD .skip
noncomputable def E_impl_copyMems : Env := envOf TT [(215, con_impl_copyMem)] []
theorem fr_impl_copyMems_0 : FrOk Tryz.prog ⟨E_impl_copyMems, 20, fun _ => none⟩ B_impl_copyMems := frOk_base mixed tt_ok ⟨ok_impl_copyMem, trivial⟩
noncomputable def D_impl_copyMems_0 : Nat → Option Seg := fun _ => none
def L_impl_copyMems_29 : Shape := ⟨[(3, false, [.at 800000000]), (7, false, [.br tM]), (8, false, [.int .i64]), (9, false, [.int .i64])], [], [(800000000, tM, (.pr (.ow (.ow .fz)) (.pr (.ow (.pr .fz (.ow .fz))) (.pr .fz (.ow .fz)))))]⟩
def S_impl_copyMems_29 : Shape := ⟨[(3, false, [.at 800000000]), (7, false, [.br tM]), (8, false, [.int .i64]), (9, false, [.ci .i64 0])], [], [(800000000, tM, (.pr (.ow (.ow .fz)) (.pr (.ow (.pr .fz (.ow .fz))) (.pr .fz (.ow .fz)))))]⟩
def O_impl_copyMems_29 : Shape := ⟨[(3, false, [.at 800000000])], [], [(800000000, tM, (.pr (.ow (.ow .fz)) (.pr (.ow (.pr .fz (.ow .fz))) (.pr .fz (.ow .fz)))))]⟩
def Z_impl_copyMems_29 : Shape := ⟨[], [], []⟩
abbrev mk_impl_copyMems_29 (v0 : List dM) (v1 : Int) (v2 : Int) (v3 : List dM) : (L_impl_copyMems_29).X := ((((), ()), (v0, ()), (v1, ()), (v2, ()), ()), (), (v3, ()))
abbrev ms_impl_copyMems_29 (v0 : List dM) (v1 : Int) (v2 : List dM) : (S_impl_copyMems_29).X := ((((), ()), (v0, ()), (v1, ()), ((), ()), ()), (), (v2, ()))
abbrev mo_impl_copyMems_29 (v0 : List dM) : (O_impl_copyMems_29).X := ((((), ()), ()), (), (v0, ()))
noncomputable def st_impl_copyMems_29 (v0 : List dM) (v1 : Int) (v2 : Int) (v3 : List dM) : Option ((L_impl_copyMems_29).X ⊕ ((O_impl_copyMems_29).X ⊕ (Z_impl_copyMems_29).X)) :=
  bif (ltb v2 v1) then
    bif (inb v2 v0.length) then
      let r2 := n_impl_copyMem ((nth v0 v2 ([], [], false, [])).1, ((nth v0 v2 ([], [], false, [])).2).1, (((nth v0 v2 ([], [], false, [])).2).2))
      bif (apok v3.length ([r2] : List dM).length 80) then
        some (.inl ((((), ()), (v0, ()), (v1, ()), ((IntKind.i64.wrap (v2 + 1)), ()), ()), (), ((v3 ++ ([r2] : List dM)), ())))
      else none
    else none
  else
    some (.inr (.inl ((((), ()), ()), (), (v3, ()))))
noncomputable def stx_impl_copyMems_29 (x : (L_impl_copyMems_29).X) := st_impl_copyMems_29 x.1.2.1.1 x.1.2.2.1.1 x.1.2.2.2.1.1 x.2.2.1
def em_impl_copyMems_29 (x : (S_impl_copyMems_29).X) : (L_impl_copyMems_29).X := ((((), ()), (x.1.2.1.1, ()), (x.1.2.2.1.1, ()), (0, ()), ()), (), (x.2.2.1, ()))
noncomputable def c_impl_copyMems_29 : Code := (subN B_impl_copyMems 64 116).getD .skip
theorem a_impl_copyMems_29 : subN B_impl_copyMems 64 29 = some (.block 0 (.loop c_impl_copyMems_29)) := by kernel_rfl
theorem r_impl_copyMems_29 (x : (L_impl_copyMems_29).X) : roundT ⟨E_impl_copyMems, 20, D_impl_copyMems_0⟩ 0 c_impl_copyMems_29 116 L_impl_copyMems_29 O_impl_copyMems_29 Z_impl_copyMems_29 x = stx_impl_copyMems_29 x := by kernel_rfl
noncomputable def fu_impl_copyMems_29 (x : (S_impl_copyMems_29).X) : Nat := (fun (u0 : List dM) (u1 : Int) (u2 : List dM) => 18446744073709551616) x.1.2.1.1 x.1.2.2.1.1 x.2.2.1
noncomputable def F_impl_copyMems_29 (x : (S_impl_copyMems_29).X) : Option ((O_impl_copyMems_29).X ⊕ (Z_impl_copyMems_29).X) := loopN stx_impl_copyMems_29 (fu_impl_copyMems_29 x) (em_impl_copyMems_29 x)
noncomputable def sg_impl_copyMems_29 : Seg := ⟨S_impl_copyMems_29, O_impl_copyMems_29, Z_impl_copyMems_29, F_impl_copyMems_29⟩
noncomputable def D_impl_copyMems_1 : Nat → Option Seg := fun q => bif Nat.beq q 29 then some sg_impl_copyMems_29 else D_impl_copyMems_0 q
theorem fr_impl_copyMems_1 : FrOk Tryz.prog ⟨E_impl_copyMems, 20, D_impl_copyMems_1⟩ B_impl_copyMems := (fr_impl_copyMems_0).loop (sg := sg_impl_copyMems_29) L_impl_copyMems_29 em_impl_copyMems_29 (by decide) a_impl_copyMems_29 stx_impl_copyMems_29 fu_impl_copyMems_29 (by decide) (fun _ => rfl) (fun x r _ h => h) r_impl_copyMems_29
abbrev I_impl_copyMems : List Par := [.rd tMs]
abbrev U_impl_copyMems : List OT := [⟨false, tMs, (.ow (.pr (.ow (.ow .fz)) (.pr (.ow (.pr .fz (.ow .fz))) (.pr .fz (.ow .fz)))))⟩]
noncomputable def raw_impl_copyMems (a0 : List dM) : Option (ResD U_impl_copyMems × MutD I_impl_copyMems) :=
  segM (F_impl_copyMems_29 ((((), ()), (a0, ()), ((a0.length : Int), ()), ((), ()), ()), (), (([] : List dM), ()))) (fun y2 =>
    some ((y2.2.2.1, ()), ())) (fun y2 =>
    none)
theorem e_impl_copyMems (x : InD I_impl_copyMems) : execF ⟨E_impl_copyMems, 20, D_impl_copyMems_1⟩ Tryz.f152.results.toList B_impl_copyMems I_impl_copyMems U_impl_copyMems x = raw_impl_copyMems x.1 := by kernel_rfl
theorem ok0_impl_copyMems : ConOk Tryz.prog 152 ⟨I_impl_copyMems, U_impl_copyMems, fun x => raw_impl_copyMems x.1⟩ := conOk_exec (fr_impl_copyMems_1) Tryz.func152 (by kernel_rfl) (by kernel_rfl) Tryz.ntmps152.symm (by decide) (fun x r h => (e_impl_copyMems x).trans h)
noncomputable def n_impl_copyMems (a0 : List dM) : List dM := a0
theorem nn_impl_copyMems (a0 : List dM) (hk : InOk I_impl_copyMems (a0, ())) : raw_impl_copyMems a0 = (fun n => some ((n, ()), ())) (n_impl_copyMems a0) := by
  have hb : a0.length * 80 ≤ 2 ^ 47 := hk.1.1
  have h1 := loopN_fold (step := stx_impl_copyMems_29) a0 noMem (fun i s => mk_impl_copyMems_29 a0 a0.length i s) (fun s x => s ++ [x]) (fun i s => s.length = i) (fun s => .inl (mo_impl_copyMems_29 s)) (fun i s hi hs => ⟨by
      simp only [stx_impl_copyMems_29, mk_impl_copyMems_29, st_impl_copyMems_29, ltb_t (show (i : Int) < a0.length by omega), cond_true, wr (show -9223372036854775808 ≤ (i : Int) + 1 by omega) (by omega), Int.natCast_add, Int.natCast_one, Int.toNat_natCast, inb_nat hi, nth_nat, n_impl_copyMem, pr_eta]
      rw [apok_iff.2 (show (s.length + [a0.getD i ([], [], false, [])].length) * 80 ≤ 140737488355328 by simp only [List.length_cons, List.length_nil]; omega)]; rfl, by simp [hs]⟩) (fun s hs => by simp only [stx_impl_copyMems_29, mk_impl_copyMems_29, st_impl_copyMems_29, ltb_f (Int.le_refl _), cond_false]) [] rfl 18446744073709551616 (by omega)
  rw [foldl_id] at h1
  unfold raw_impl_copyMems n_impl_copyMems
  rw [show F_impl_copyMems_29 (ms_impl_copyMems_29 a0 a0.length []) = _ from h1]; rfl
noncomputable def con_impl_copyMems : Con := ⟨I_impl_copyMems, U_impl_copyMems, fun x => (fun n => some ((n, ()), ())) (n_impl_copyMems x.1)⟩
theorem ok_impl_copyMems : ConOk Tryz.prog 152 con_impl_copyMems := (ok0_impl_copyMems).mono (fun x r hk h => (nn_impl_copyMems x.1 hk).trans h)
end

/-! impl_copyArr -/
section
noncomputable def B_impl_copyArr : Code := (Tryz.f76.body).getD .skip
noncomputable def E_impl_copyArr : Env := envOf TT [(151, con_impl_copyInts), (152, con_impl_copyMems)] []
theorem fr_impl_copyArr_0 : FrOk Tryz.prog ⟨E_impl_copyArr, 31, fun _ => none⟩ B_impl_copyArr := frOk_base mixed tt_ok ⟨ok_impl_copyInts, ok_impl_copyMems, trivial⟩
noncomputable def D_impl_copyArr_0 : Nat → Option Seg := fun _ => none
def L_impl_copyArr_29 : Shape := ⟨[(1, false, [.ptr 0 0]), (2, false, [.ptr 64 0]), (3, false, [.at 800000000]), (8, false, [.br tW]), (9, false, [.int .i64]), (10, false, [.int .i64])], [(0, [.int .i64, .int .i64, .int .i64, .br tM, .int .i64, .int .i64, .int .i64, .int .i64, .int .i64, .br tW, .int .i64, .bool, .bool]), (64, [.int .i64, .int .i64, .int .i64, .nil, .int .i64, .int .i64, .int .i64, .int .i64, .int .i64, .nil, .int .i64, .bool, .bool])], [(800000000, tW, (.pr .fz (.ow .fz)))]⟩
def S_impl_copyArr_29 : Shape := ⟨[(1, false, [.ptr 0 0]), (2, false, [.ptr 64 0]), (3, false, [.at 800000000]), (8, false, [.br tW]), (9, false, [.int .i64]), (10, false, [.ci .i64 0])], [(0, [.int .i64, .int .i64, .int .i64, .br tM, .int .i64, .int .i64, .int .i64, .int .i64, .int .i64, .br tW, .int .i64, .bool, .bool]), (64, [.int .i64, .int .i64, .int .i64, .nil, .int .i64, .int .i64, .int .i64, .int .i64, .int .i64, .nil, .int .i64, .bool, .bool])], [(800000000, tW, (.pr .fz (.ow .fz)))]⟩
def O_impl_copyArr_29 : Shape := ⟨[(1, false, [.ptr 0 0]), (2, false, [.ptr 64 0]), (3, false, [.at 800000000])], [(0, [.int .i64, .int .i64, .int .i64, .br tM, .int .i64, .int .i64, .int .i64, .int .i64, .int .i64, .br tW, .int .i64, .bool, .bool]), (64, [.int .i64, .int .i64, .int .i64, .nil, .int .i64, .int .i64, .int .i64, .int .i64, .int .i64, .nil, .int .i64, .bool, .bool])], [(800000000, tW, (.pr .fz (.ow .fz)))]⟩
def Z_impl_copyArr_29 : Shape := ⟨[], [], []⟩
abbrev mk_impl_copyArr_29 (v0 : List dW) (v1 : Int) (v2 : Int) (v3 : dA) (v4 : dA) (v5 : List dW) : (L_impl_copyArr_29).X := ((((), ()), ((), ()), ((), ()), (v0, ()), (v1, ()), (v2, ()), ()), ((v3.1, v3.2.1.1, v3.2.1.2, v3.2.2.1, v3.2.2.2.1, v3.2.2.2.2.1, v3.2.2.2.2.2.1, v3.2.2.2.2.2.2.1, v3.2.2.2.2.2.2.2.1, v3.2.2.2.2.2.2.2.2.1, v3.2.2.2.2.2.2.2.2.2.1, v3.2.2.2.2.2.2.2.2.2.2.1, v3.2.2.2.2.2.2.2.2.2.2.2, ()), (v4.1, v4.2.1.1, v4.2.1.2, (), v4.2.2.2.1, v4.2.2.2.2.1, v4.2.2.2.2.2.1, v4.2.2.2.2.2.2.1, v4.2.2.2.2.2.2.2.1, (), v4.2.2.2.2.2.2.2.2.2.1, v4.2.2.2.2.2.2.2.2.2.2.1, v4.2.2.2.2.2.2.2.2.2.2.2, ()), ()), (v5, ()))
abbrev ms_impl_copyArr_29 (v0 : List dW) (v1 : Int) (v2 : dA) (v3 : dA) (v4 : List dW) : (S_impl_copyArr_29).X := ((((), ()), ((), ()), ((), ()), (v0, ()), (v1, ()), ((), ()), ()), ((v2.1, v2.2.1.1, v2.2.1.2, v2.2.2.1, v2.2.2.2.1, v2.2.2.2.2.1, v2.2.2.2.2.2.1, v2.2.2.2.2.2.2.1, v2.2.2.2.2.2.2.2.1, v2.2.2.2.2.2.2.2.2.1, v2.2.2.2.2.2.2.2.2.2.1, v2.2.2.2.2.2.2.2.2.2.2.1, v2.2.2.2.2.2.2.2.2.2.2.2, ()), (v3.1, v3.2.1.1, v3.2.1.2, (), v3.2.2.2.1, v3.2.2.2.2.1, v3.2.2.2.2.2.1, v3.2.2.2.2.2.2.1, v3.2.2.2.2.2.2.2.1, (), v3.2.2.2.2.2.2.2.2.2.1, v3.2.2.2.2.2.2.2.2.2.2.1, v3.2.2.2.2.2.2.2.2.2.2.2, ()), ()), (v4, ()))
abbrev mo_impl_copyArr_29 (v0 : dA) (v1 : dA) (v2 : List dW) : (O_impl_copyArr_29).X := ((((), ()), ((), ()), ((), ()), ()), ((v0.1, v0.2.1.1, v0.2.1.2, v0.2.2.1, v0.2.2.2.1, v0.2.2.2.2.1, v0.2.2.2.2.2.1, v0.2.2.2.2.2.2.1, v0.2.2.2.2.2.2.2.1, v0.2.2.2.2.2.2.2.2.1, v0.2.2.2.2.2.2.2.2.2.1, v0.2.2.2.2.2.2.2.2.2.2.1, v0.2.2.2.2.2.2.2.2.2.2.2, ()), (v1.1, v1.2.1.1, v1.2.1.2, (), v1.2.2.2.1, v1.2.2.2.2.1, v1.2.2.2.2.2.1, v1.2.2.2.2.2.2.1, v1.2.2.2.2.2.2.2.1, (), v1.2.2.2.2.2.2.2.2.2.1, v1.2.2.2.2.2.2.2.2.2.2.1, v1.2.2.2.2.2.2.2.2.2.2.2, ()), ()), (v2, ()))
noncomputable def st_impl_copyArr_29 (v0 : List dW) (v1 : Int) (v2 : Int) (v3 : Int) (v4 : Int) (v5 : Int) (v6 : List dM) (v7 : Int) (v8 : Int) (v9 : Int) (v10 : Int) (v11 : Int) (v12 : List dW) (v13 : Int) (v14 : Bool) (v15 : Bool) (v16 : Int) (v17 : Int) (v18 : Int) (v19 : Int) (v20 : Int) (v21 : Int) (v22 : Int) (v23 : Int) (v24 : Int) (v25 : Bool) (v26 : Bool) (v27 : List dW) : Option ((L_impl_copyArr_29).X ⊕ ((O_impl_copyArr_29).X ⊕ (Z_impl_copyArr_29).X)) :=
  bif (ltb v2 v1) then
    bif (inb v2 v0.length) then
      let r2 := n_impl_copyInts ((nth v0 v2 (0, [])).2)
      bif (apok v27.length ([((nth v0 v2 (0, [])).1, r2)] : List dW).length 32) then
        some (.inl ((((), ()), ((), ()), ((), ()), (v0, ()), (v1, ()), ((IntKind.i64.wrap (v2 + 1)), ()), ()), ((v3, v4, v5, v6, v7, v8, v9, v10, v11, v12, v13, v14, v15, ()), (v16, v17, v18, (), v19, v20, v21, v22, v23, (), v24, v25, v26, ()), ()), ((v27 ++ ([((nth v0 v2 (0, [])).1, r2)] : List dW)), ())))
      else none
    else none
  else
    some (.inr (.inl ((((), ()), ((), ()), ((), ()), ()), ((v3, v4, v5, v6, v7, v8, v9, v10, v11, v12, v13, v14, v15, ()), (v16, v17, v18, (), v19, v20, v21, v22, v23, (), v24, v25, v26, ()), ()), (v27, ()))))
noncomputable def stx_impl_copyArr_29 (x : (L_impl_copyArr_29).X) := st_impl_copyArr_29 x.1.2.2.2.1.1 x.1.2.2.2.2.1.1 x.1.2.2.2.2.2.1.1 x.2.1.1.1 x.2.1.1.2.1 x.2.1.1.2.2.1 x.2.1.1.2.2.2.1 x.2.1.1.2.2.2.2.1 x.2.1.1.2.2.2.2.2.1 x.2.1.1.2.2.2.2.2.2.1 x.2.1.1.2.2.2.2.2.2.2.1 x.2.1.1.2.2.2.2.2.2.2.2.1 x.2.1.1.2.2.2.2.2.2.2.2.2.1 x.2.1.1.2.2.2.2.2.2.2.2.2.2.1 x.2.1.1.2.2.2.2.2.2.2.2.2.2.2.1 x.2.1.1.2.2.2.2.2.2.2.2.2.2.2.2.1 x.2.1.2.1.1 x.2.1.2.1.2.1 x.2.1.2.1.2.2.1 x.2.1.2.1.2.2.2.2.1 x.2.1.2.1.2.2.2.2.2.1 x.2.1.2.1.2.2.2.2.2.2.1 x.2.1.2.1.2.2.2.2.2.2.2.1 x.2.1.2.1.2.2.2.2.2.2.2.2.1 x.2.1.2.1.2.2.2.2.2.2.2.2.2.2.1 x.2.1.2.1.2.2.2.2.2.2.2.2.2.2.2.1 x.2.1.2.1.2.2.2.2.2.2.2.2.2.2.2.2.1 x.2.2.1
def em_impl_copyArr_29 (x : (S_impl_copyArr_29).X) : (L_impl_copyArr_29).X := ((((), ()), ((), ()), ((), ()), (x.1.2.2.2.1.1, ()), (x.1.2.2.2.2.1.1, ()), (0, ()), ()), ((x.2.1.1.1, x.2.1.1.2.1, x.2.1.1.2.2.1, x.2.1.1.2.2.2.1, x.2.1.1.2.2.2.2.1, x.2.1.1.2.2.2.2.2.1, x.2.1.1.2.2.2.2.2.2.1, x.2.1.1.2.2.2.2.2.2.2.1, x.2.1.1.2.2.2.2.2.2.2.2.1, x.2.1.1.2.2.2.2.2.2.2.2.2.1, x.2.1.1.2.2.2.2.2.2.2.2.2.2.1, x.2.1.1.2.2.2.2.2.2.2.2.2.2.2.1, x.2.1.1.2.2.2.2.2.2.2.2.2.2.2.2.1, ()), (x.2.1.2.1.1, x.2.1.2.1.2.1, x.2.1.2.1.2.2.1, (), x.2.1.2.1.2.2.2.2.1, x.2.1.2.1.2.2.2.2.2.1, x.2.1.2.1.2.2.2.2.2.2.1, x.2.1.2.1.2.2.2.2.2.2.2.1, x.2.1.2.1.2.2.2.2.2.2.2.2.1, (), x.2.1.2.1.2.2.2.2.2.2.2.2.2.2.1, x.2.1.2.1.2.2.2.2.2.2.2.2.2.2.2.1, x.2.1.2.1.2.2.2.2.2.2.2.2.2.2.2.2.1, ()), ()), (x.2.2.1, ()))
noncomputable def c_impl_copyArr_29 : Code := (subN B_impl_copyArr 64 116).getD .skip
theorem a_impl_copyArr_29 : subN B_impl_copyArr 64 29 = some (.block 0 (.loop c_impl_copyArr_29)) := by kernel_rfl
theorem r_impl_copyArr_29 (x : (L_impl_copyArr_29).X) : roundT ⟨E_impl_copyArr, 31, D_impl_copyArr_0⟩ 0 c_impl_copyArr_29 116 L_impl_copyArr_29 O_impl_copyArr_29 Z_impl_copyArr_29 x = stx_impl_copyArr_29 x := by kernel_rfl
noncomputable def fu_impl_copyArr_29 (x : (S_impl_copyArr_29).X) : Nat := (fun (u0 : List dW) (u1 : Int) (u2 : Int) (u3 : Int) (u4 : Int) (u5 : List dM) (u6 : Int) (u7 : Int) (u8 : Int) (u9 : Int) (u10 : Int) (u11 : List dW) (u12 : Int) (u13 : Bool) (u14 : Bool) (u15 : Int) (u16 : Int) (u17 : Int) (u18 : Int) (u19 : Int) (u20 : Int) (u21 : Int) (u22 : Int) (u23 : Int) (u24 : Bool) (u25 : Bool) (u26 : List dW) => 18446744073709551616) x.1.2.2.2.1.1 x.1.2.2.2.2.1.1 x.2.1.1.1 x.2.1.1.2.1 x.2.1.1.2.2.1 x.2.1.1.2.2.2.1 x.2.1.1.2.2.2.2.1 x.2.1.1.2.2.2.2.2.1 x.2.1.1.2.2.2.2.2.2.1 x.2.1.1.2.2.2.2.2.2.2.1 x.2.1.1.2.2.2.2.2.2.2.2.1 x.2.1.1.2.2.2.2.2.2.2.2.2.1 x.2.1.1.2.2.2.2.2.2.2.2.2.2.1 x.2.1.1.2.2.2.2.2.2.2.2.2.2.2.1 x.2.1.1.2.2.2.2.2.2.2.2.2.2.2.2.1 x.2.1.2.1.1 x.2.1.2.1.2.1 x.2.1.2.1.2.2.1 x.2.1.2.1.2.2.2.2.1 x.2.1.2.1.2.2.2.2.2.1 x.2.1.2.1.2.2.2.2.2.2.1 x.2.1.2.1.2.2.2.2.2.2.2.1 x.2.1.2.1.2.2.2.2.2.2.2.2.1 x.2.1.2.1.2.2.2.2.2.2.2.2.2.2.1 x.2.1.2.1.2.2.2.2.2.2.2.2.2.2.2.1 x.2.1.2.1.2.2.2.2.2.2.2.2.2.2.2.2.1 x.2.2.1
noncomputable def F_impl_copyArr_29 (x : (S_impl_copyArr_29).X) : Option ((O_impl_copyArr_29).X ⊕ (Z_impl_copyArr_29).X) := loopN stx_impl_copyArr_29 (fu_impl_copyArr_29 x) (em_impl_copyArr_29 x)
noncomputable def sg_impl_copyArr_29 : Seg := ⟨S_impl_copyArr_29, O_impl_copyArr_29, Z_impl_copyArr_29, F_impl_copyArr_29⟩
noncomputable def D_impl_copyArr_1 : Nat → Option Seg := fun q => bif Nat.beq q 29 then some sg_impl_copyArr_29 else D_impl_copyArr_0 q
theorem fr_impl_copyArr_1 : FrOk Tryz.prog ⟨E_impl_copyArr, 31, D_impl_copyArr_1⟩ B_impl_copyArr := (fr_impl_copyArr_0).loop (sg := sg_impl_copyArr_29) L_impl_copyArr_29 em_impl_copyArr_29 (by decide) a_impl_copyArr_29 stx_impl_copyArr_29 fu_impl_copyArr_29 (by decide) (fun _ => rfl) (fun x r _ h => h) r_impl_copyArr_29
abbrev I_impl_copyArr : List Par := [.rd tA]
abbrev U_impl_copyArr : List OT := [⟨false, tA, (.pr .fz (.pr (.pr .fz .fz) (.pr (.ow (.pr (.ow (.ow .fz)) (.pr (.ow (.pr .fz (.ow .fz))) (.pr .fz (.ow .fz))))) (.pr .fz (.pr .fz (.pr .fz (.pr .fz (.pr .fz (.pr (.ow (.pr .fz (.ow .fz))) (.pr .fz (.pr .fz .fz)))))))))))⟩]
noncomputable def raw_impl_copyArr (a0 : dA) : Option (ResD U_impl_copyArr × MutD I_impl_copyArr) :=
  segM (F_impl_copyArr_29 ((((), ()), ((), ()), ((), ()), (a0.2.2.2.2.2.2.2.2.1, ()), ((a0.2.2.2.2.2.2.2.2.1.length : Int), ()), ((), ()), ()), ((a0.1, a0.2.1.1, a0.2.1.2, a0.2.2.1, a0.2.2.2.1, a0.2.2.2.2.1, a0.2.2.2.2.2.1, a0.2.2.2.2.2.2.1, a0.2.2.2.2.2.2.2.1, a0.2.2.2.2.2.2.2.2.1, a0.2.2.2.2.2.2.2.2.2.1, a0.2.2.2.2.2.2.2.2.2.2.1, a0.2.2.2.2.2.2.2.2.2.2.2, ()), (0, 0, 0, (), 0, 0, 0, 0, 0, (), 0, false, false, ()), ()), (([] : List dW), ()))) (fun y2 =>
    let r4 := n_impl_copyMems y2.2.1.1.2.2.2.1
    some (((y2.2.1.1.1, (y2.2.1.1.2.1, y2.2.1.1.2.2.1), r4, y2.2.1.1.2.2.2.2.1, y2.2.1.1.2.2.2.2.2.1, y2.2.1.1.2.2.2.2.2.2.1, y2.2.1.1.2.2.2.2.2.2.2.1, y2.2.1.1.2.2.2.2.2.2.2.2.1, y2.2.2.1, y2.2.1.1.2.2.2.2.2.2.2.2.2.2.1, y2.2.1.1.2.2.2.2.2.2.2.2.2.2.2.1, y2.2.1.1.2.2.2.2.2.2.2.2.2.2.2.2.1), ()), ())) (fun y2 =>
    none)
theorem e_impl_copyArr (x : InD I_impl_copyArr) : execF ⟨E_impl_copyArr, 31, D_impl_copyArr_1⟩ Tryz.f76.results.toList B_impl_copyArr I_impl_copyArr U_impl_copyArr x = raw_impl_copyArr x.1 := by kernel_rfl
theorem ok0_impl_copyArr : ConOk Tryz.prog 76 ⟨I_impl_copyArr, U_impl_copyArr, fun x => raw_impl_copyArr x.1⟩ := conOk_exec (fr_impl_copyArr_1) Tryz.func76 (by kernel_rfl) (by kernel_rfl) Tryz.ntmps76.symm (by decide) (fun x r h => (e_impl_copyArr x).trans h)
noncomputable def n_impl_copyArr (a0 : dA) : dA := a0
theorem nn_impl_copyArr (a0 : dA) (hk : InOk I_impl_copyArr (a0, ())) : raw_impl_copyArr a0 = (fun n => some ((n, ()), ())) (n_impl_copyArr a0) := by
  have hb : a0.2.2.2.2.2.2.2.2.1.length * 32 ≤ 2 ^ 47 := hk.1.2.2.2.2.2.2.2.2.1.1
  have h1 := loopN_fold (step := stx_impl_copyArr_29) a0.2.2.2.2.2.2.2.2.1 (0, []) (fun i s => mk_impl_copyArr_29 a0.2.2.2.2.2.2.2.2.1 a0.2.2.2.2.2.2.2.2.1.length i a0 noArr s) (fun s x => s ++ [x]) (fun i s => s.length = i) (fun s => .inl (mo_impl_copyArr_29 a0 noArr s)) (fun i s hi hs => ⟨by
      simp only [stx_impl_copyArr_29, mk_impl_copyArr_29, st_impl_copyArr_29, ltb_t (show (i : Int) < a0.2.2.2.2.2.2.2.2.1.length by omega), cond_true, wr (show -9223372036854775808 ≤ (i : Int) + 1 by omega) (by omega), Int.natCast_add, Int.natCast_one, Int.toNat_natCast, inb_nat hi, nth_nat, n_impl_copyInts, pr_eta]
      rw [apok_iff.2 (show (s.length + [a0.2.2.2.2.2.2.2.2.1.getD i (0, [])].length) * 32 ≤ 140737488355328 by simp only [List.length_cons, List.length_nil]; omega)]; rfl, by simp [hs]⟩) (fun s hs => by simp only [stx_impl_copyArr_29, mk_impl_copyArr_29, st_impl_copyArr_29, ltb_f (Int.le_refl _), cond_false]) [] rfl 18446744073709551616 (by omega)
  rw [foldl_id] at h1
  unfold raw_impl_copyArr n_impl_copyArr
  rw [show F_impl_copyArr_29 (ms_impl_copyArr_29 a0.2.2.2.2.2.2.2.2.1 a0.2.2.2.2.2.2.2.2.1.length a0 noArr []) = _ from h1]; rfl
noncomputable def con_impl_copyArr : Con := ⟨I_impl_copyArr, U_impl_copyArr, fun x => (fun n => some ((n, ()), ())) (n_impl_copyArr x.1)⟩
theorem ok_impl_copyArr : ConOk Tryz.prog 76 con_impl_copyArr := (ok0_impl_copyArr).mono (fun x r hk h => (nn_impl_copyArr x.1 hk).trans h)
end

/-! impl_DataAt -/
section
noncomputable def B_impl_DataAt : Code := (Tryz.f79.body).getD .skip
noncomputable def E_impl_DataAt : Env := envOf TT [(114, con_impl_within)] []
theorem fr_impl_DataAt_0 : FrOk Tryz.prog ⟨E_impl_DataAt, 9, fun _ => none⟩ B_impl_DataAt := frOk_base mixed tt_ok ⟨ok_impl_within, trivial⟩
noncomputable def D_impl_DataAt_0 : Nat → Option Seg := fun _ => none
abbrev I_impl_DataAt : List Par := [.rd tI]
abbrev U_impl_DataAt : List OT := [⟨false, tI, .fz⟩]
noncomputable def raw_impl_DataAt (a0 : Int) : Option (ResD U_impl_DataAt × MutD I_impl_DataAt) :=
  let r1 := n_impl_within a0 0 1099511627776
  bif (!r1) then
    some (((-1), ()), ())
  else
    some (((IntKind.i64.wrap ((IntKind.i64.wrap (a0 + 2)) + 4)), ()), ())
theorem e_impl_DataAt (x : InD I_impl_DataAt) : execF ⟨E_impl_DataAt, 9, D_impl_DataAt_0⟩ Tryz.f79.results.toList B_impl_DataAt I_impl_DataAt U_impl_DataAt x = raw_impl_DataAt x.1 := by kernel_rfl
theorem ok0_impl_DataAt : ConOk Tryz.prog 79 ⟨I_impl_DataAt, U_impl_DataAt, fun x => raw_impl_DataAt x.1⟩ := conOk_exec (fr_impl_DataAt_0) Tryz.func79 (by kernel_rfl) (by kernel_rfl) Tryz.ntmps79.symm (by decide) (fun x r h => (e_impl_DataAt x).trans h)
noncomputable def n_impl_DataAt (a0 : Int) : Int :=
  let r1 := n_impl_within a0 0 1099511627776
  bif (!r1) then
    (-1)
  else
    (IntKind.i64.wrap ((IntKind.i64.wrap (a0 + 2)) + 4))
noncomputable def con_impl_DataAt : Con := ⟨I_impl_DataAt, U_impl_DataAt, fun x => (fun n => some ((n, ()), ())) (n_impl_DataAt x.1)⟩
theorem nn_impl_DataAt (a0 : Int) : raw_impl_DataAt a0 = (fun n => some ((n, ()), ())) (n_impl_DataAt a0) := bif_ty (p := fun (n : Int) => ((n, ()), ())) (bif_some (p := fun (n : Int) => ((n, ()), ())) rfl rfl)
theorem ok_impl_DataAt : ConOk Tryz.prog 79 con_impl_DataAt := (ok0_impl_DataAt).mono (fun x r _ h => (nn_impl_DataAt x.1).trans h)
theorem impl_dataAt_eq (s : Int) : n_impl_DataAt s = dataAt s := spec_dataAt_eq s
end

/-! slices_Index_int -/
section
noncomputable def B_slices_Index_int : Code := (Tryz.f257.body).getD .skip
noncomputable def E_slices_Index_int : Env := envOf TT [] []
theorem fr_slices_Index_int_0 : FrOk Tryz.prog ⟨E_slices_Index_int, 19, fun _ => none⟩ B_slices_Index_int := frOk_base mixed tt_ok trivial
noncomputable def D_slices_Index_int_0 : Nat → Option Seg := fun _ => none
def L_slices_Index_int_13 : Shape := ⟨[(0, false, [.br tI]), (1, false, [.int .i64]), (7, false, [.int .i64]), (8, false, [.int .i64])], [], []⟩
def S_slices_Index_int_13 : Shape := ⟨[(0, false, [.br tI]), (1, false, [.int .i64]), (7, false, [.int .i64]), (8, false, [.ci .i64 0])], [], []⟩
def O_slices_Index_int_13 : Shape := ⟨[], [], []⟩
def Z_slices_Index_int_13 : Shape := ⟨[(4, false, [.int .i64])], [], []⟩
abbrev mk_slices_Index_int_13 (v0 : List Int) (v1 : Int) (v2 : Int) (v3 : Int) : (L_slices_Index_int_13).X := (((v0, ()), (v1, ()), (v2, ()), (v3, ()), ()), (), ())
abbrev ms_slices_Index_int_13 (v0 : List Int) (v1 : Int) (v2 : Int) : (S_slices_Index_int_13).X := (((v0, ()), (v1, ()), (v2, ()), ((), ()), ()), (), ())
abbrev mo_slices_Index_int_13  : (O_slices_Index_int_13).X := ((), (), ())
abbrev mz_slices_Index_int_13 (v0 : Int) : (Z_slices_Index_int_13).X := (((v0, ()), ()), (), ())
noncomputable def st_slices_Index_int_13 (v0 : List Int) (v1 : Int) (v2 : Int) (v3 : Int) : Option ((L_slices_Index_int_13).X ⊕ ((O_slices_Index_int_13).X ⊕ (Z_slices_Index_int_13).X)) :=
  bif (ltb v3 v2) then
    bif (inb v3 v0.length) then
      bif (v1 == (nth v0 v3 0)) then
        some (.inr (.inr (((v3, ()), ()), (), ())))
      else
        some (.inl (((v0, ()), (v1, ()), (v2, ()), ((IntKind.i64.wrap (v3 + 1)), ()), ()), (), ()))
    else none
  else
    some (.inr (.inl ((), (), ())))
noncomputable def stx_slices_Index_int_13 (x : (L_slices_Index_int_13).X) := st_slices_Index_int_13 x.1.1.1 x.1.2.1.1 x.1.2.2.1.1 x.1.2.2.2.1.1
def em_slices_Index_int_13 (x : (S_slices_Index_int_13).X) : (L_slices_Index_int_13).X := (((x.1.1.1, ()), (x.1.2.1.1, ()), (x.1.2.2.1.1, ()), (0, ()), ()), (), ())
noncomputable def c_slices_Index_int_13 : Code := (subN B_slices_Index_int 64 52).getD .skip
theorem a_slices_Index_int_13 : subN B_slices_Index_int 64 13 = some (.block 0 (.loop c_slices_Index_int_13)) := by kernel_rfl
theorem r_slices_Index_int_13 (x : (L_slices_Index_int_13).X) : roundT ⟨E_slices_Index_int, 19, D_slices_Index_int_0⟩ 0 c_slices_Index_int_13 52 L_slices_Index_int_13 O_slices_Index_int_13 Z_slices_Index_int_13 x = stx_slices_Index_int_13 x := by kernel_rfl
noncomputable def fu_slices_Index_int_13 (x : (S_slices_Index_int_13).X) : Nat := (fun (u0 : List Int) (u1 : Int) (u2 : Int) => 18446744073709551616) x.1.1.1 x.1.2.1.1 x.1.2.2.1.1
noncomputable def F_slices_Index_int_13 (x : (S_slices_Index_int_13).X) : Option ((O_slices_Index_int_13).X ⊕ (Z_slices_Index_int_13).X) := loopN stx_slices_Index_int_13 (fu_slices_Index_int_13 x) (em_slices_Index_int_13 x)
noncomputable def sg_slices_Index_int_13 : Seg := ⟨S_slices_Index_int_13, O_slices_Index_int_13, Z_slices_Index_int_13, F_slices_Index_int_13⟩
noncomputable def D_slices_Index_int_1 : Nat → Option Seg := fun q => bif Nat.beq q 13 then some sg_slices_Index_int_13 else D_slices_Index_int_0 q
theorem fr_slices_Index_int_1 : FrOk Tryz.prog ⟨E_slices_Index_int, 19, D_slices_Index_int_1⟩ B_slices_Index_int := (fr_slices_Index_int_0).loop (sg := sg_slices_Index_int_13) L_slices_Index_int_13 em_slices_Index_int_13 (by decide) a_slices_Index_int_13 stx_slices_Index_int_13 fu_slices_Index_int_13 (by decide) (fun _ => rfl) (fun x r _ h => h) r_slices_Index_int_13
abbrev I_slices_Index_int : List Par := [.rd tL, .rd tI]
abbrev U_slices_Index_int : List OT := [⟨false, tI, .fz⟩]
noncomputable def raw_slices_Index_int (a0 : List Int) (a1 : Int) : Option (ResD U_slices_Index_int × MutD I_slices_Index_int) :=
  segM (F_slices_Index_int_13 (((a0, ()), (a1, ()), ((a0.length : Int), ()), ((), ()), ()), (), ())) (fun y0 =>
    some (((-1), ()), ())) (fun y0 =>
    some ((y0.1.1.1, ()), ()))
theorem e_slices_Index_int (x : InD I_slices_Index_int) : execF ⟨E_slices_Index_int, 19, D_slices_Index_int_1⟩ Tryz.f257.results.toList B_slices_Index_int I_slices_Index_int U_slices_Index_int x = raw_slices_Index_int x.1 x.2.1 := by kernel_rfl
theorem ok0_slices_Index_int : ConOk Tryz.prog 257 ⟨I_slices_Index_int, U_slices_Index_int, fun x => raw_slices_Index_int x.1 x.2.1⟩ := conOk_exec (fr_slices_Index_int_1) Tryz.func257 (by kernel_rfl) (by kernel_rfl) Tryz.ntmps257.symm (by decide) (fun x r h => (e_slices_Index_int x).trans h)
/-- where a number is; -1: nowhere -/
def indexOf (l : List Int) (x : Int) : Int := bif l.any (· == x) then ((l.takeWhile (· != x)).length : Int) else -1
noncomputable def n_slices_Index_int (a0 : List Int) (a1 : Int) : Int := indexOf a0 a1
theorem loopN_find {A B α : Type} {step : A → Option (A ⊕ B)} (l : List α) (d : α) (f : Nat → A) (p : α → Bool) (b : Nat → B) (c : B)
    (h : ∀ i, i < l.length → step (f i) = some (bif p (l.getD i d) then .inr (b i) else .inl (f (i + 1)))) (e : step (f l.length) = some (.inr c)) (fuel : Nat) (hf : l.length < fuel) :
    loopN step fuel (f 0) = some (bif l.any p then b (l.takeWhile (fun x => !p x)).length else c) := by
  have : ∀ (t q : List α) (fuel : Nat), q ++ t = l → t.length < fuel → loopN step fuel (f q.length) = some (bif t.any p then b (q.length + (t.takeWhile (fun x => !p x)).length) else c) := by
    intro t
    induction t with
    | nil =>
      intro q fuel hq hf
      obtain ⟨fuel, rfl⟩ : ∃ m, fuel = m + 1 := ⟨fuel - 1, by omega⟩
      rw [List.append_nil] at hq
      subst hq
      simp only [loopN, e, List.any_nil, cond_false]
    | cons x t ih =>
      intro q fuel hq hf
      obtain ⟨fuel, rfl⟩ : ∃ m, fuel = m + 1 := ⟨fuel - 1, by omega⟩
      have hx : l.getD q.length d = x := by
        subst hq
        rw [getD_get (by simp)]; simp
      have hs := h q.length (by rw [← hq]; simp)
      rw [hx] at hs
      cases hp : p x
      · rw [hp] at hs
        have := ih (q ++ [x]) fuel (by rw [← hq]; simp) (by simp at hf; omega)
        simp only [List.length_append, List.length_cons, List.length_nil] at this
        simp only [loopN, hs, cond_false]
        simp only [List.any_cons, hp, Bool.false_or, List.takeWhile_cons, Bool.not_false, if_true, List.length_cons]
        rw [show q.length + ((t.takeWhile (fun x => !p x)).length + 1) = q.length + (0 + 1) + (t.takeWhile (fun x => !p x)).length by omega]
        exact this
      · rw [hp] at hs
        simp only [loopN, hs, cond_true, List.any_cons, hp, Bool.true_or, List.takeWhile_cons, Bool.not_true, Bool.false_eq_true, if_false, List.length_nil, Nat.add_zero]
  have := this l [] fuel rfl hf
  simpa using this
theorem nn_slices_Index_int (a0 : List Int) (a1 : Int) (hk : InOk I_slices_Index_int (a0, a1, ())) : raw_slices_Index_int a0 a1 = (fun n => some ((n, ()), ())) (n_slices_Index_int a0 a1) := by
  have hb : a0.length * 8 ≤ 2 ^ 47 := hk.1.1
  have h1 : F_slices_Index_int_13 (ms_slices_Index_int_13 a0 a1 a0.length) = some (bif a0.any (· == a1) then .inr (mz_slices_Index_int_13 ((a0.takeWhile (fun x => !(x == a1))).length : Int)) else .inl mo_slices_Index_int_13) :=
    loopN_find (step := stx_slices_Index_int_13) a0 0 (fun i => mk_slices_Index_int_13 a0 a1 a0.length i) (· == a1) (fun i => .inr (mz_slices_Index_int_13 (i : Int))) _ (fun i hi => by
      simp only [stx_slices_Index_int_13, mk_slices_Index_int_13, st_slices_Index_int_13, ltb_t (show (i : Int) < a0.length by omega), cond_true, wr (show -9223372036854775808 ≤ (i : Int) + 1 by omega) (by omega), Int.natCast_add, Int.natCast_one, Int.toNat_natCast, inb_nat hi, nth_nat]
      rw [show (a1 == a0.getD i 0) = (a0.getD i 0 == a1) by rw [Bool.eq_iff_iff, beq_iff_eq, beq_iff_eq]; exact eq_comm]
      cases (a0.getD i 0 == a1) <;> rfl) (by simp only [stx_slices_Index_int_13, mk_slices_Index_int_13, st_slices_Index_int_13, ltb_f (Int.le_refl _), cond_false]) _ (by show _ < 18446744073709551616; omega)
  unfold raw_slices_Index_int n_slices_Index_int indexOf
  rw [h1]
  cases a0.any (· == a1) <;> rfl
noncomputable def con_slices_Index_int : Con := ⟨I_slices_Index_int, U_slices_Index_int, fun x => (fun n => some ((n, ()), ())) (n_slices_Index_int x.1 x.2.1)⟩
theorem ok_slices_Index_int : ConOk Tryz.prog 257 con_slices_Index_int := (ok0_slices_Index_int).mono (fun x r hk h => (nn_slices_Index_int x.1 x.2.1 hk).trans h)
end

/-! slices_Contains_int -/
section
noncomputable def B_slices_Contains_int : Code := (Tryz.f229.body).getD .skip
noncomputable def E_slices_Contains_int : Env := envOf TT [(257, con_slices_Index_int)] []
theorem fr_slices_Contains_int_0 : FrOk Tryz.prog ⟨E_slices_Contains_int, 9, fun _ => none⟩ B_slices_Contains_int := frOk_base mixed tt_ok ⟨ok_slices_Index_int, trivial⟩
noncomputable def D_slices_Contains_int_0 : Nat → Option Seg := fun _ => none
abbrev I_slices_Contains_int : List Par := [.rd tL, .rd tI]
abbrev U_slices_Contains_int : List OT := [⟨false, tB, .fz⟩]
noncomputable def raw_slices_Contains_int (a0 : List Int) (a1 : Int) : Option (ResD U_slices_Contains_int × MutD I_slices_Contains_int) :=
  let r1 := n_slices_Index_int a0 a1
  some (((leb 0 r1), ()), ())
theorem e_slices_Contains_int (x : InD I_slices_Contains_int) : execF ⟨E_slices_Contains_int, 9, D_slices_Contains_int_0⟩ Tryz.f229.results.toList B_slices_Contains_int I_slices_Contains_int U_slices_Contains_int x = raw_slices_Contains_int x.1 x.2.1 := by kernel_rfl
theorem ok0_slices_Contains_int : ConOk Tryz.prog 229 ⟨I_slices_Contains_int, U_slices_Contains_int, fun x => raw_slices_Contains_int x.1 x.2.1⟩ := conOk_exec (fr_slices_Contains_int_0) Tryz.func229 (by kernel_rfl) (by kernel_rfl) Tryz.ntmps229.symm (by decide) (fun x r h => (e_slices_Contains_int x).trans h)
noncomputable def n_slices_Contains_int (a0 : List Int) (a1 : Int) : Bool := a0.any (· == a1)
theorem nn_slices_Contains_int (a0 : List Int) (a1 : Int) (hk : InOk I_slices_Contains_int (a0, a1, ())) : raw_slices_Contains_int a0 a1 = (fun n => some ((n, ()), ())) (n_slices_Contains_int a0 a1) := by
  unfold raw_slices_Contains_int n_slices_Contains_int n_slices_Index_int indexOf
  cases a0.any (· == a1)
  · rfl
  · simp only [cond_true]
    rw [leb_t (show (0 : Int) ≤ ((a0.takeWhile (· != a1)).length : Int) by omega)]
noncomputable def con_slices_Contains_int : Con := ⟨I_slices_Contains_int, U_slices_Contains_int, fun x => (fun n => some ((n, ()), ())) (n_slices_Contains_int x.1 x.2.1)⟩
theorem ok_slices_Contains_int : ConOk Tryz.prog 229 con_slices_Contains_int := (ok0_slices_Contains_int).mono (fun x r hk h => (nn_slices_Contains_int x.1 x.2.1 hk).trans h)
end
end Go.Tf
