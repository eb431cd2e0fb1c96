/- Functions of the program, and what they come to. -/
import Derived.Test.YtmamkjioahnecabExactSpareF10
namespace Go.Tf
open Go.Proofs
set_option synthInstance.maxHeartbeats 400000
set_option synthInstance.maxSize 10000
set_option linter.unusedVariables false
set_option linter.unusedSimpArgs false
set_option maxRecDepth 100000
/-! impl_copyInts -/
section
noncomputable def B_impl_copyInts : Code := (Try.f60.body).getD .skip
noncomputable def E_impl_copyInts : Env := envOf TT [] []
theorem fr_impl_copyInts_0 : FrOk Try.prog ⟨E_impl_copyInts, 6, fun _ => none⟩ B_impl_copyInts := frOk_base mixed tt_ok trivial
noncomputable def D_impl_copyInts_0 : Nat → Option Seg := fun _ => none
abbrev I_impl_copyInts : List Par := [.rd tL]
abbrev U_impl_copyInts : List OT := [⟨false, tL, (.ow .fz)⟩]
noncomputable def raw_impl_copyInts (a0 : List Int) : Option (ResD U_impl_copyInts × MutD I_impl_copyInts) :=
  bif (apok ([] : List Int).length a0.length 8) then
    some (((([] : List Int) ++ a0), ()), ())
  else none
theorem e_impl_copyInts (x : InD I_impl_copyInts) : execF ⟨E_impl_copyInts, 6, D_impl_copyInts_0⟩ Try.f60.results.toList B_impl_copyInts I_impl_copyInts U_impl_copyInts x = raw_impl_copyInts x.1 := by kernel_rfl
theorem ok0_impl_copyInts : ConOk Try.prog 60 ⟨I_impl_copyInts, U_impl_copyInts, fun x => raw_impl_copyInts x.1⟩ := conOk_exec (fr_impl_copyInts_0) Try.func60 (by kernel_rfl) (by kernel_rfl) Try.ntmps60.symm (by decide) (fun x r h => (e_impl_copyInts x).trans h)
noncomputable def n_impl_copyInts (a0 : List Int) : List Int := a0
theorem nn_impl_copyInts (a0 : List Int) (hk : InOk I_impl_copyInts (a0, ())) : raw_impl_copyInts a0 = (fun n => some ((n, ()), ())) (n_impl_copyInts a0) := by
  have hb : a0.length * 8 ≤ 2 ^ 47 := hk.1.1
  unfold raw_impl_copyInts n_impl_copyInts
  rw [show apok ([] : List Int).length a0.length 8 = true by rw [apok_iff, List.length_nil]; omega]
  rfl
noncomputable def con_impl_copyInts : Con := ⟨I_impl_copyInts, U_impl_copyInts, fun x => (fun n => some ((n, ()), ())) (n_impl_copyInts x.1)⟩
theorem ok_impl_copyInts : ConOk Try.prog 60 con_impl_copyInts := (ok0_impl_copyInts).mono (fun x r hk h => (nn_impl_copyInts x.1 hk).trans h)
end

/-! impl_copyMem -/
section
noncomputable def B_impl_copyMem : Code := (Try.f76.body).getD .skip
noncomputable def E_impl_copyMem : Env := envOf TT [(60, con_impl_copyInts)] []
theorem fr_impl_copyMem_0 : FrOk Try.prog ⟨E_impl_copyMem, 49, fun _ => none⟩ B_impl_copyMem := frOk_base mixed tt_ok ⟨ok_impl_copyInts, trivial⟩
noncomputable def D_impl_copyMem_0 : Nat → Option Seg := fun _ => none
def L_impl_copyMem_29 : Shape := ⟨[(1, false, [.ptr 0 0]), (2, false, [.ptr 64 0]), (3, false, [.ptr 4480 0]), (15, false, [.br tL]), (16, false, [.int .i64]), (17, false, [.int .i64])], [(0, [.br tL, .br tW, .bool, .br tI]), (64, [.nil, .nil, .bool, .nil]), (4480, [.at 800000001, .nil, .bool, .at 800000000])], [(800000001, tL, (.ow .fz)), (800000000, tI, .fz)]⟩
def S_impl_copyMem_29 : Shape := ⟨[(1, false, [.ptr 0 0]), (2, false, [.ptr 64 0]), (3, false, [.ptr 4480 0]), (15, false, [.br tL]), (16, false, [.int .i64]), (17, false, [.ci .i64 0])], [(0, [.br tL, .br tW, .bool, .br tI]), (64, [.nil, .nil, .bool, .nil]), (4480, [.at 800000001, .nil, .bool, .at 800000000])], [(800000001, tL, (.ow .fz)), (800000000, tI, .fz)]⟩
def O_impl_copyMem_29 : Shape := ⟨[(1, false, [.ptr 0 0]), (2, false, [.ptr 64 0]), (3, false, [.ptr 4480 0])], [(0, [.br tL, .br tW, .bool, .br tI]), (64, [.nil, .nil, .bool, .nil]), (4480, [.at 800000000, .nil, .bool, .at 800000001])], [(800000000, tL, (.ow .fz)), (800000001, tI, .fz)]⟩
def Z_impl_copyMem_29 : Shape := ⟨[], [], []⟩
abbrev mk_impl_copyMem_29 (v0 : List (List Int)) (v1 : Int) (v2 : Int) (v3 : dM) (v4 : dM) (v5 : dM) : (L_impl_copyMem_29).X := ((((), ()), ((), ()), ((), ()), (v0, ()), (v1, ()), (v2, ()), ()), ((v3.1, v3.2.1, v3.2.2.1, v3.2.2.2, ()), ((), (), v4.2.2.1, (), ()), ((), (), v5.2.2.1, (), ()), ()), (v5.1, v5.2.2.2, ()))
abbrev ms_impl_copyMem_29 (v0 : List (List Int)) (v1 : Int) (v2 : dM) (v3 : dM) (v4 : dM) : (S_impl_copyMem_29).X := ((((), ()), ((), ()), ((), ()), (v0, ()), (v1, ()), ((), ()), ()), ((v2.1, v2.2.1, v2.2.2.1, v2.2.2.2, ()), ((), (), v3.2.2.1, (), ()), ((), (), v4.2.2.1, (), ()), ()), (v4.1, v4.2.2.2, ()))
abbrev mo_impl_copyMem_29 (v0 : dM) (v1 : dM) (v2 : dM) : (O_impl_copyMem_29).X := ((((), ()), ((), ()), ((), ()), ()), ((v0.1, v0.2.1, v0.2.2.1, v0.2.2.2, ()), ((), (), v1.2.2.1, (), ()), ((), (), v2.2.2.1, (), ()), ()), (v2.1, v2.2.2.2, ()))
noncomputable def st_impl_copyMem_29 (v0 : List (List Int)) (v1 : Int) (v2 : Int) (v3 : List (List Int)) (v4 : List dW) (v5 : Bool) (v6 : List Int) (v7 : Bool) (v8 : Bool) (v9 : List (List Int)) (v10 : List Int) : Option ((L_impl_copyMem_29).X ⊕ ((O_impl_copyMem_29).X ⊕ (Z_impl_copyMem_29).X)) :=
  bif (ltb v2 v1) then
    bif (inb v2 v0.length) then
      let r4 := n_impl_copyInts (nth v0 v2 [])
      bif (apok v9.length ([r4] : List (List Int)).length 24) then
        some (.inl ((((), ()), ((), ()), ((), ()), (v0, ()), (v1, ()), ((IntKind.i64.wrap (v2 + 1)), ()), ()), ((v3, v4, v5, v6, ()), ((), (), v7, (), ()), ((), (), v8, (), ()), ()), ((v9 ++ ([r4] : List (List Int))), v10, ())))
      else none
    else none
  else
    some (.inr (.inl ((((), ()), ((), ()), ((), ()), ()), ((v3, v4, v5, v6, ()), ((), (), v7, (), ()), ((), (), v8, (), ()), ()), (v9, v10, ()))))
noncomputable def stx_impl_copyMem_29 (x : (L_impl_copyMem_29).X) := st_impl_copyMem_29 x.1.2.2.2.1.1 x.1.2.2.2.2.1.1 x.1.2.2.2.2.2.1.1 x.2.1.1.1 x.2.1.1.2.1 x.2.1.1.2.2.1 x.2.1.1.2.2.2.1 x.2.1.2.1.2.2.1 x.2.1.2.2.1.2.2.1 x.2.2.1 x.2.2.2.1
def em_impl_copyMem_29 (x : (S_impl_copyMem_29).X) : (L_impl_copyMem_29).X := ((((), ()), ((), ()), ((), ()), (x.1.2.2.2.1.1, ()), (x.1.2.2.2.2.1.1, ()), (0, ()), ()), ((x.2.1.1.1, x.2.1.1.2.1, x.2.1.1.2.2.1, x.2.1.1.2.2.2.1, ()), ((), (), x.2.1.2.1.2.2.1, (), ()), ((), (), x.2.1.2.2.1.2.2.1, (), ()), ()), (x.2.2.1, x.2.2.2.1, ()))
noncomputable def c_impl_copyMem_29 : Code := (subN B_impl_copyMem 64 116).getD .skip
theorem a_impl_copyMem_29 : subN B_impl_copyMem 64 29 = some (.block 0 (.loop c_impl_copyMem_29)) := by kernel_rfl
theorem r_impl_copyMem_29 (x : (L_impl_copyMem_29).X) : roundT ⟨E_impl_copyMem, 49, D_impl_copyMem_0⟩ 0 c_impl_copyMem_29 116 L_impl_copyMem_29 O_impl_copyMem_29 Z_impl_copyMem_29 x = stx_impl_copyMem_29 x := by kernel_rfl
noncomputable def fu_impl_copyMem_29 (x : (S_impl_copyMem_29).X) : Nat := (fun (u0 : List (List Int)) (u1 : Int) (u2 : List (List Int)) (u3 : List dW) (u4 : Bool) (u5 : List Int) (u6 : Bool) (u7 : Bool) (u8 : List (List Int)) (u9 : List Int) => 18446744073709551616) x.1.2.2.2.1.1 x.1.2.2.2.2.1.1 x.2.1.1.1 x.2.1.1.2.1 x.2.1.1.2.2.1 x.2.1.1.2.2.2.1 x.2.1.2.1.2.2.1 x.2.1.2.2.1.2.2.1 x.2.2.1 x.2.2.2.1
noncomputable def F_impl_copyMem_29 (x : (S_impl_copyMem_29).X) : Option ((O_impl_copyMem_29).X ⊕ (Z_impl_copyMem_29).X) := loopN stx_impl_copyMem_29 (fu_impl_copyMem_29 x) (em_impl_copyMem_29 x)
noncomputable def sg_impl_copyMem_29 : Seg := ⟨S_impl_copyMem_29, O_impl_copyMem_29, Z_impl_copyMem_29, F_impl_copyMem_29⟩
noncomputable def D_impl_copyMem_1 : Nat → Option Seg := fun q => bif Nat.beq q 29 then some sg_impl_copyMem_29 else D_impl_copyMem_0 q
theorem fr_impl_copyMem_1 : FrOk Try.prog ⟨E_impl_copyMem, 49, D_impl_copyMem_1⟩ B_impl_copyMem := (fr_impl_copyMem_0).loop (sg := sg_impl_copyMem_29) L_impl_copyMem_29 em_impl_copyMem_29 (by decide) a_impl_copyMem_29 stx_impl_copyMem_29 fu_impl_copyMem_29 (by decide) (fun _ => rfl) (fun x r _ h => h) r_impl_copyMem_29
def L_impl_copyMem_61 : Shape := ⟨[(2, false, [.ptr 64 0]), (3, false, [.ptr 4480 0]), (30, false, [.br tW]), (31, false, [.int .i64]), (32, false, [.int .i64])], [(64, [.nil, .nil, .bool, .nil]), (4480, [.at 800000000, .at 800000002, .bool, .at 800000001])], [(800000000, tL, (.ow .fz)), (800000002, tW, (.pr .fz (.ow .fz))), (800000001, tI, .fz)]⟩
def S_impl_copyMem_61 : Shape := ⟨[(2, false, [.ptr 64 0]), (3, false, [.ptr 4480 0]), (30, false, [.br tW]), (31, false, [.int .i64]), (32, false, [.ci .i64 0])], [(64, [.nil, .nil, .bool, .nil]), (4480, [.at 800000000, .at 800000002, .bool, .at 800000001])], [(800000000, tL, (.ow .fz)), (800000002, tW, (.pr .fz (.ow .fz))), (800000001, tI, .fz)]⟩
def O_impl_copyMem_61 : Shape := ⟨[(2, false, [.ptr 64 0]), (3, false, [.ptr 4480 0])], [(64, [.nil, .nil, .bool, .nil]), (4480, [.at 800000000, .at 800000001, .bool, .at 800000002])], [(800000000, tL, (.ow .fz)), (800000001, tW, (.pr .fz (.ow .fz))), (800000002, tI, .fz)]⟩
def Z_impl_copyMem_61 : Shape := ⟨[], [], []⟩
abbrev mk_impl_copyMem_61 (v0 : List dW) (v1 : Int) (v2 : Int) (v3 : dM) (v4 : dM) : (L_impl_copyMem_61).X := ((((), ()), ((), ()), (v0, ()), (v1, ()), (v2, ()), ()), (((), (), v3.2.2.1, (), ()), ((), (), v4.2.2.1, (), ()), ()), (v4.1, v4.2.1, v4.2.2.2, ()))
abbrev ms_impl_copyMem_61 (v0 : List dW) (v1 : Int) (v2 : dM) (v3 : dM) : (S_impl_copyMem_61).X := ((((), ()), ((), ()), (v0, ()), (v1, ()), ((), ()), ()), (((), (), v2.2.2.1, (), ()), ((), (), v3.2.2.1, (), ()), ()), (v3.1, v3.2.1, v3.2.2.2, ()))
abbrev mo_impl_copyMem_61 (v0 : dM) (v1 : dM) : (O_impl_copyMem_61).X := ((((), ()), ((), ()), ()), (((), (), v0.2.2.1, (), ()), ((), (), v1.2.2.1, (), ()), ()), (v1.1, v1.2.1, v1.2.2.2, ()))
noncomputable def st_impl_copyMem_61 (v0 : List dW) (v1 : Int) (v2 : Int) (v3 : Bool) (v4 : Bool) (v5 : List (List Int)) (v6 : List dW) (v7 : List Int) : Option ((L_impl_copyMem_61).X ⊕ ((O_impl_copyMem_61).X ⊕ (Z_impl_copyMem_61).X)) :=
  bif (ltb v2 v1) then
    bif (inb v2 v0.length) then
      let r8 := n_impl_copyInts ((nth v0 v2 (0, [])).2)
      bif (apok v6.length ([((nth v0 v2 (0, [])).1, r8)] : List dW).length 32) then
        some (.inl ((((), ()), ((), ()), (v0, ()), (v1, ()), ((IntKind.i64.wrap (v2 + 1)), ()), ()), (((), (), v3, (), ()), ((), (), v4, (), ()), ()), (v5, (v6 ++ ([((nth v0 v2 (0, [])).1, r8)] : List dW)), v7, ())))
      else none
    else none
  else
    some (.inr (.inl ((((), ()), ((), ()), ()), (((), (), v3, (), ()), ((), (), v4, (), ()), ()), (v5, v6, v7, ()))))
noncomputable def stx_impl_copyMem_61 (x : (L_impl_copyMem_61).X) := st_impl_copyMem_61 x.1.2.2.1.1 x.1.2.2.2.1.1 x.1.2.2.2.2.1.1 x.2.1.1.2.2.1 x.2.1.2.1.2.2.1 x.2.2.1 x.2.2.2.1 x.2.2.2.2.1
def em_impl_copyMem_61 (x : (S_impl_copyMem_61).X) : (L_impl_copyMem_61).X := ((((), ()), ((), ()), (x.1.2.2.1.1, ()), (x.1.2.2.2.1.1, ()), (0, ()), ()), (((), (), x.2.1.1.2.2.1, (), ()), ((), (), x.2.1.2.1.2.2.1, (), ()), ()), (x.2.2.1, x.2.2.2.1, x.2.2.2.2.1, ()))
noncomputable def c_impl_copyMem_61 : Code := (subN B_impl_copyMem 64 244).getD .skip
theorem a_impl_copyMem_61 : subN B_impl_copyMem 64 61 = some (.block 2 (.loop c_impl_copyMem_61)) := by kernel_rfl
theorem r_impl_copyMem_61 (x : (L_impl_copyMem_61).X) : roundT ⟨E_impl_copyMem, 49, D_impl_copyMem_1⟩ 2 c_impl_copyMem_61 244 L_impl_copyMem_61 O_impl_copyMem_61 Z_impl_copyMem_61 x = stx_impl_copyMem_61 x := by kernel_rfl
noncomputable def fu_impl_copyMem_61 (x : (S_impl_copyMem_61).X) : Nat := (fun (u0 : List dW) (u1 : Int) (u2 : Bool) (u3 : Bool) (u4 : List (List Int)) (u5 : List dW) (u6 : List Int) => 18446744073709551616) x.1.2.2.1.1 x.1.2.2.2.1.1 x.2.1.1.2.2.1 x.2.1.2.1.2.2.1 x.2.2.1 x.2.2.2.1 x.2.2.2.2.1
noncomputable def F_impl_copyMem_61 (x : (S_impl_copyMem_61).X) : Option ((O_impl_copyMem_61).X ⊕ (Z_impl_copyMem_61).X) := loopN stx_impl_copyMem_61 (fu_impl_copyMem_61 x) (em_impl_copyMem_61 x)
noncomputable def sg_impl_copyMem_61 : Seg := ⟨S_impl_copyMem_61, O_impl_copyMem_61, Z_impl_copyMem_61, F_impl_copyMem_61⟩
noncomputable def D_impl_copyMem_2 : Nat → Option Seg := fun q => bif Nat.beq q 61 then some sg_impl_copyMem_61 else D_impl_copyMem_1 q
theorem fr_impl_copyMem_2 : FrOk Try.prog ⟨E_impl_copyMem, 49, D_impl_copyMem_2⟩ B_impl_copyMem := (fr_impl_copyMem_1).loop (sg := sg_impl_copyMem_61) L_impl_copyMem_61 em_impl_copyMem_61 (by decide) a_impl_copyMem_61 stx_impl_copyMem_61 fu_impl_copyMem_61 (by decide) (fun _ => rfl) (fun x r _ h => h) r_impl_copyMem_61
abbrev I_impl_copyMem : List Par := [.rd tM]
abbrev U_impl_copyMem : List OT := [⟨false, tM, (.pr (.ow (.ow .fz)) (.pr (.ow (.pr .fz (.ow .fz))) (.pr .fz (.ow .fz))))⟩]
noncomputable def raw_impl_copyMem (a0 : dM) : Option (ResD U_impl_copyMem × MutD I_impl_copyMem) :=
  let r1 := n_impl_copyInts a0.2.2.2
  segM (F_impl_copyMem_29 ((((), ()), ((), ()), ((), ()), (a0.1, ()), ((a0.1.length : Int), ()), ((), ()), ()), ((a0.1, a0.2.1, a0.2.2.1, a0.2.2.2, ()), ((), (), false, (), ()), ((), (), a0.2.2.1, (), ()), ()), ([], r1, ()))) (fun y4 =>
    segM (F_impl_copyMem_61 ((((), ()), ((), ()), (y4.2.1.1.2.1, ()), ((y4.2.1.1.2.1.length : Int), ()), ((), ()), ()), (((), (), y4.2.1.2.1.2.2.1, (), ()), ((), (), y4.2.1.2.2.1.2.2.1, (), ()), ()), (y4.2.2.1, [], y4.2.2.2.1, ()))) (fun y8 =>
      some (((y8.2.2.1, y8.2.2.2.1, y8.2.1.2.1.2.2.1, y8.2.2.2.2.1), ()), ())) (fun y8 =>
      none)) (fun y4 =>
    none)
theorem e_impl_copyMem (x : InD I_impl_copyMem) : execF ⟨E_impl_copyMem, 49, D_impl_copyMem_2⟩ Try.f76.results.toList B_impl_copyMem I_impl_copyMem U_impl_copyMem x = raw_impl_copyMem x.1 := by kernel_rfl
theorem ok0_impl_copyMem : ConOk Try.prog 76 ⟨I_impl_copyMem, U_impl_copyMem, fun x => raw_impl_copyMem x.1⟩ := conOk_exec (fr_impl_copyMem_2) Try.func76 (by kernel_rfl) (by kernel_rfl) Try.ntmps76.symm (by decide) (fun x r h => (e_impl_copyMem x).trans h)
noncomputable def n_impl_copyMem (a0 : dM) : dM := a0
theorem nn_impl_copyMem (a0 : dM) (hk : InOk I_impl_copyMem (a0, ())) : raw_impl_copyMem a0 = (fun n => some ((n, ()), ())) (n_impl_copyMem a0) := by
  have hb1 : a0.1.length * 24 ≤ 2 ^ 47 := hk.1.1.1
  have hb2 : a0.2.1.length * 32 ≤ 2 ^ 47 := hk.1.2.1.1
  have h1 : F_impl_copyMem_29 (ms_impl_copyMem_29 a0.1 a0.1.length a0 noMem ([], [], a0.2.2.1, a0.2.2.2)) = some (.inl (mo_impl_copyMem_29 a0 noMem (a0.1, [], a0.2.2.1, a0.2.2.2))) := by
    have := loopN_fold (step := stx_impl_copyMem_29) a0.1 [] (fun i s => mk_impl_copyMem_29 a0.1 a0.1.length i a0 noMem (s, [], a0.2.2.1, a0.2.2.2)) (fun s x => s ++ [x]) (fun i s => s.length = i) (fun s => .inl (mo_impl_copyMem_29 a0 noMem (s, [], a0.2.2.1, a0.2.2.2))) (fun i s hi hs2 => ⟨by
      simp only [stx_impl_copyMem_29, mk_impl_copyMem_29, st_impl_copyMem_29, ltb_t (show (i : Int) < a0.1.length by omega), cond_true, wr (show -9223372036854775808 ≤ (i : Int) + 1 by omega) (by omega), Int.natCast_add, Int.natCast_one, Int.toNat_natCast, inb_nat hi, nth_nat, n_impl_copyInts]
      rw [apok_iff.2 (show (s.length + [a0.1.getD i []].length) * 24 ≤ 140737488355328 by simp only [List.length_cons, List.length_nil]; omega)]; rfl, by simp [hs2]⟩) (fun s _ => by simp only [stx_impl_copyMem_29, mk_impl_copyMem_29, st_impl_copyMem_29, ltb_f (Int.le_refl _), cond_false]) [] rfl 18446744073709551616 (by omega)
    rw [foldl_id] at this
    exact this
  have h2 : F_impl_copyMem_61 (ms_impl_copyMem_61 a0.2.1 a0.2.1.length noMem (a0.1, [], a0.2.2.1, a0.2.2.2)) = some (.inl (mo_impl_copyMem_61 noMem a0)) := by
    have := loopN_fold (step := stx_impl_copyMem_61) a0.2.1 (0, []) (fun i s => mk_impl_copyMem_61 a0.2.1 a0.2.1.length i noMem (a0.1, s, a0.2.2.1, a0.2.2.2)) (fun s x => s ++ [x]) (fun i s => s.length = i) (fun s => .inl (mo_impl_copyMem_61 noMem (a0.1, s, a0.2.2.1, a0.2.2.2))) (fun i s hi hs2 => ⟨by
      simp only [stx_impl_copyMem_61, mk_impl_copyMem_61, st_impl_copyMem_61, ltb_t (show (i : Int) < a0.2.1.length by omega), cond_true, wr (show -9223372036854775808 ≤ (i : Int) + 1 by omega) (by omega), Int.natCast_add, Int.natCast_one, Int.toNat_natCast, inb_nat hi, nth_nat, n_impl_copyInts, pr_eta]
      rw [apok_iff.2 (show (s.length + [a0.2.1.getD i (0, [])].length) * 32 ≤ 140737488355328 by simp only [List.length_cons, List.length_nil]; omega)]; rfl, by simp [hs2]⟩) (fun s _ => by simp only [stx_impl_copyMem_61, mk_impl_copyMem_61, st_impl_copyMem_61, ltb_f (Int.le_refl _), cond_false]) [] rfl 18446744073709551616 (by omega)
    rw [foldl_id] at this
    exact this
  unfold raw_impl_copyMem n_impl_copyMem
  simp only [n_impl_copyInts, h1, segM_inl, h2]
noncomputable def con_impl_copyMem : Con := ⟨I_impl_copyMem, U_impl_copyMem, fun x => (fun n => some ((n, ()), ())) (n_impl_copyMem x.1)⟩
theorem ok_impl_copyMem : ConOk Try.prog 76 con_impl_copyMem := (ok0_impl_copyMem).mono (fun x r hk h => (nn_impl_copyMem x.1 hk).trans h)
end

/-! impl_copyMems -/
section
noncomputable def B_impl_copyMems : Code := (Try.f70.body).getD .skip
noncomputable def E_impl_copyMems : Env := envOf TT [(76, con_impl_copyMem)] []
theorem fr_impl_copyMems_0 : FrOk Try.prog ⟨E_impl_copyMems, 20, fun _ => none⟩ B_impl_copyMems := frOk_base mixed tt_ok ⟨ok_impl_copyMem, trivial⟩
noncomputable def D_impl_copyMems_0 : Nat → Option Seg := fun _ => none
def L_impl_copyMems_29 : Shape := ⟨[(3, false, [.at 800000000]), (7, false, [.br tM]), (8, false, [.int .i64]), (9, false, [.int .i64])], [], [(800000000, tM, (.pr (.ow (.ow .fz)) (.pr (.ow (.pr .fz (.ow .fz))) (.pr .fz (.ow .fz)))))]⟩
def S_impl_copyMems_29 : Shape := ⟨[(3, false, [.at 800000000]), (7, false, [.br tM]), (8, false, [.int .i64]), (9, false, [.ci .i64 0])], [], [(800000000, tM, (.pr (.ow (.ow .fz)) (.pr (.ow (.pr .fz (.ow .fz))) (.pr .fz (.ow .fz)))))]⟩
def O_impl_copyMems_29 : Shape := ⟨[(3, false, [.at 800000000])], [], [(800000000, tM, (.pr (.ow (.ow .fz)) (.pr (.ow (.pr .fz (.ow .fz))) (.pr .fz (.ow .fz)))))]⟩
def Z_impl_copyMems_29 : Shape := ⟨[], [], []⟩
abbrev mk_impl_copyMems_29 (v0 : List dM) (v1 : Int) (v2 : Int) (v3 : List dM) : (L_impl_copyMems_29).X := ((((), ()), (v0, ()), (v1, ()), (v2, ()), ()), (), (v3, ()))
abbrev ms_impl_copyMems_29 (v0 : List dM) (v1 : Int) (v2 : List dM) : (S_impl_copyMems_29).X := ((((), ()), (v0, ()), (v1, ()), ((), ()), ()), (), (v2, ()))
abbrev mo_impl_copyMems_29 (v0 : List dM) : (O_impl_copyMems_29).X := ((((), ()), ()), (), (v0, ()))
noncomputable def st_impl_copyMems_29 (v0 : List dM) (v1 : Int) (v2 : Int) (v3 : List dM) : Option ((L_impl_copyMems_29).X ⊕ ((O_impl_copyMems_29).X ⊕ (Z_impl_copyMems_29).X)) :=
  bif (ltb v2 v1) then
    bif (inb v2 v0.length) then
      let r2 := n_impl_copyMem ((nth v0 v2 ([], [], false, [])).1, ((nth v0 v2 ([], [], false, [])).2).1, (((nth v0 v2 ([], [], false, [])).2).2))
      bif (apok v3.length ([r2] : List dM).length 80) then
        some (.inl ((((), ()), (v0, ()), (v1, ()), ((IntKind.i64.wrap (v2 + 1)), ()), ()), (), ((v3 ++ ([r2] : List dM)), ())))
      else none
    else none
  else
    some (.inr (.inl ((((), ()), ()), (), (v3, ()))))
noncomputable def stx_impl_copyMems_29 (x : (L_impl_copyMems_29).X) := st_impl_copyMems_29 x.1.2.1.1 x.1.2.2.1.1 x.1.2.2.2.1.1 x.2.2.1
def em_impl_copyMems_29 (x : (S_impl_copyMems_29).X) : (L_impl_copyMems_29).X := ((((), ()), (x.1.2.1.1, ()), (x.1.2.2.1.1, ()), (0, ()), ()), (), (x.2.2.1, ()))
noncomputable def c_impl_copyMems_29 : Code := (subN B_impl_copyMems 64 116).getD .skip
theorem a_impl_copyMems_29 : subN B_impl_copyMems 64 29 = some (.block 0 (.loop c_impl_copyMems_29)) := by kernel_rfl
theorem r_impl_copyMems_29 (x : (L_impl_copyMems_29).X) : roundT ⟨E_impl_copyMems, 20, D_impl_copyMems_0⟩ 0 c_impl_copyMems_29 116 L_impl_copyMems_29 O_impl_copyMems_29 Z_impl_copyMems_29 x = stx_impl_copyMems_29 x := by kernel_rfl
noncomputable def fu_impl_copyMems_29 (x : (S_impl_copyMems_29).X) : Nat := (fun (u0 : List dM) (u1 : Int) (u2 : List dM) => 18446744073709551616) x.1.2.1.1 x.1.2.2.1.1 x.2.2.1
noncomputable def F_impl_copyMems_29 (x : (S_impl_copyMems_29).X) : Option ((O_impl_copyMems_29).X ⊕ (Z_impl_copyMems_29).X) := loopN stx_impl_copyMems_29 (fu_impl_copyMems_29 x) (em_impl_copyMems_29 x)
noncomputable def sg_impl_copyMems_29 : Seg := ⟨S_impl_copyMems_29, O_impl_copyMems_29, Z_impl_copyMems_29, F_impl_copyMems_29⟩
noncomputable def D_impl_copyMems_1 : Nat → Option Seg := fun q => bif Nat.beq q 29 then some sg_impl_copyMems_29 else D_impl_copyMems_0 q
theorem fr_impl_copyMems_1 : FrOk Try.prog ⟨E_impl_copyMems, 20, D_impl_copyMems_1⟩ B_impl_copyMems := (fr_impl_copyMems_0).loop (sg := sg_impl_copyMems_29) L_impl_copyMems_29 em_impl_copyMems_29 (by decide) a_impl_copyMems_29 stx_impl_copyMems_29 fu_impl_copyMems_29 (by decide) (fun _ => rfl) (fun x r _ h => h) r_impl_copyMems_29
abbrev I_impl_copyMems : List Par := [.rd tMs]
abbrev U_impl_copyMems : List OT := [⟨false, tMs, (.ow (.pr (.ow (.ow .fz)) (.pr (.ow (.pr .fz (.ow .fz))) (.pr .fz (.ow .fz)))))⟩]
noncomputable def raw_impl_copyMems (a0 : List dM) : Option (ResD U_impl_copyMems × MutD I_impl_copyMems) :=
  segM (F_impl_copyMems_29 ((((), ()), (a0, ()), ((a0.length : Int), ()), ((), ()), ()), (), (([] : List dM), ()))) (fun y2 =>
    some ((y2.2.2.1, ()), ())) (fun y2 =>
    none)
theorem e_impl_copyMems (x : InD I_impl_copyMems) : execF ⟨E_impl_copyMems, 20, D_impl_copyMems_1⟩ Try.f70.results.toList B_impl_copyMems I_impl_copyMems U_impl_copyMems x = raw_impl_copyMems x.1 := by kernel_rfl
theorem ok0_impl_copyMems : ConOk Try.prog 70 ⟨I_impl_copyMems, U_impl_copyMems, fun x => raw_impl_copyMems x.1⟩ := conOk_exec (fr_impl_copyMems_1) Try.func70 (by kernel_rfl) (by kernel_rfl) Try.ntmps70.symm (by decide) (fun x r h => (e_impl_copyMems x).trans h)
noncomputable def n_impl_copyMems (a0 : List dM) : List dM := a0
theorem nn_impl_copyMems (a0 : List dM) (hk : InOk I_impl_copyMems (a0, ())) : raw_impl_copyMems a0 = (fun n => some ((n, ()), ())) (n_impl_copyMems a0) := by
  have hb : a0.length * 80 ≤ 2 ^ 47 := hk.1.1
  have h1 := loopN_fold (step := stx_impl_copyMems_29) a0 noMem (fun i s => mk_impl_copyMems_29 a0 a0.length i s) (fun s x => s ++ [x]) (fun i s => s.length = i) (fun s => .inl (mo_impl_copyMems_29 s)) (fun i s hi hs => ⟨by
      simp only [stx_impl_copyMems_29, mk_impl_copyMems_29, st_impl_copyMems_29, ltb_t (show (i : Int) < a0.length by omega), cond_true, wr (show -9223372036854775808 ≤ (i : Int) + 1 by omega) (by omega), Int.natCast_add, Int.natCast_one, Int.toNat_natCast, inb_nat hi, nth_nat, n_impl_copyMem, pr_eta]
      rw [apok_iff.2 (show (s.length + [a0.getD i ([], [], false, [])].length) * 80 ≤ 140737488355328 by simp only [List.length_cons, List.length_nil]; omega)]; rfl, by simp [hs]⟩) (fun s hs => by simp only [stx_impl_copyMems_29, mk_impl_copyMems_29, st_impl_copyMems_29, ltb_f (Int.le_refl _), cond_false]) [] rfl 18446744073709551616 (by omega)
  rw [foldl_id] at h1
  unfold raw_impl_copyMems n_impl_copyMems
  rw [show F_impl_copyMems_29 (ms_impl_copyMems_29 a0 a0.length []) = _ from h1]; rfl
noncomputable def con_impl_copyMems : Con := ⟨I_impl_copyMems, U_impl_copyMems, fun x => (fun n => some ((n, ()), ())) (n_impl_copyMems x.1)⟩
theorem ok_impl_copyMems : ConOk Try.prog 70 con_impl_copyMems := (ok0_impl_copyMems).mono (fun x r hk h => (nn_impl_copyMems x.1 hk).trans h)
end

/-! impl_copyArr -/
section
noncomputable def B_impl_copyArr : Code := (Try.f37.body).getD .skip
noncomputable def E_impl_copyArr : Env := envOf TT [(60, con_impl_copyInts), (70, con_impl_copyMems)] []
theorem fr_impl_copyArr_0 : FrOk Try.prog ⟨E_impl_copyArr, 31, fun _ => none⟩ B_impl_copyArr := frOk_base mixed tt_ok ⟨ok_impl_copyInts, ok_impl_copyMems, trivial⟩
noncomputable def D_impl_copyArr_0 : Nat → Option Seg := fun _ => none
def L_impl_copyArr_29 : Shape := ⟨[(1, false, [.ptr 0 0]), (2, false, [.ptr 64 0]), (3, false, [.at 800000000]), (8, false, [.br tW]), (9, false, [.int .i64]), (10, false, [.int .i64])], [(0, [.int .i64, .int .i64, .int .i64, .br tM, .int .i64, .int .i64, .int .i64, .int .i64, .int .i64, .br tW, .int .i64, .bool, .bool]), (64, [.int .i64, .int .i64, .int .i64, .nil, .int .i64, .int .i64, .int .i64, .int .i64, .int .i64, .nil, .int .i64, .bool, .bool])], [(800000000, tW, (.pr .fz (.ow .fz)))]⟩
def S_impl_copyArr_29 : Shape := ⟨[(1, false, [.ptr 0 0]), (2, false, [.ptr 64 0]), (3, false, [.at 800000000]), (8, false, [.br tW]), (9, false, [.int .i64]), (10, false, [.ci .i64 0])], [(0, [.int .i64, .int .i64, .int .i64, .br tM, .int .i64, .int .i64, .int .i64, .int .i64, .int .i64, .br tW, .int .i64, .bool, .bool]), (64, [.int .i64, .int .i64, .int .i64, .nil, .int .i64, .int .i64, .int .i64, .int .i64, .int .i64, .nil, .int .i64, .bool, .bool])], [(800000000, tW, (.pr .fz (.ow .fz)))]⟩
def O_impl_copyArr_29 : Shape := ⟨[(1, false, [.ptr 0 0]), (2, false, [.ptr 64 0]), (3, false, [.at 800000000])], [(0, [.int .i64, .int .i64, .int .i64, .br tM, .int .i64, .int .i64, .int .i64, .int .i64, .int .i64, .br tW, .int .i64, .bool, .bool]), (64, [.int .i64, .int .i64, .int .i64, .nil, .int .i64, .int .i64, .int .i64, .int .i64, .int .i64, .nil, .int .i64, .bool, .bool])], [(800000000, tW, (.pr .fz (.ow .fz)))]⟩
def Z_impl_copyArr_29 : Shape := ⟨[], [], []⟩
abbrev mk_impl_copyArr_29 (v0 : List dW) (v1 : Int) (v2 : Int) (v3 : dA) (v4 : dA) (v5 : List dW) : (L_impl_copyArr_29).X := ((((), ()), ((), ()), ((), ()), (v0, ()), (v1, ()), (v2, ()), ()), ((v3.1, v3.2.1.1, v3.2.1.2, v3.2.2.1, v3.2.2.2.1, v3.2.2.2.2.1, v3.2.2.2.2.2.1, v3.2.2.2.2.2.2.1, v3.2.2.2.2.2.2.2.1, v3.2.2.2.2.2.2.2.2.1, v3.2.2.2.2.2.2.2.2.2.1, v3.2.2.2.2.2.2.2.2.2.2.1, v3.2.2.2.2.2.2.2.2.2.2.2, ()), (v4.1, v4.2.1.1, v4.2.1.2, (), v4.2.2.2.1, v4.2.2.2.2.1, v4.2.2.2.2.2.1, v4.2.2.2.2.2.2.1, v4.2.2.2.2.2.2.2.1, (), v4.2.2.2.2.2.2.2.2.2.1, v4.2.2.2.2.2.2.2.2.2.2.1, v4.2.2.2.2.2.2.2.2.2.2.2, ()), ()), (v5, ()))
abbrev ms_impl_copyArr_29 (v0 : List dW) (v1 : Int) (v2 : dA) (v3 : dA) (v4 : List dW) : (S_impl_copyArr_29).X := ((((), ()), ((), ()), ((), ()), (v0, ()), (v1, ()), ((), ()), ()), ((v2.1, v2.2.1.1, v2.2.1.2, v2.2.2.1, v2.2.2.2.1, v2.2.2.2.2.1, v2.2.2.2.2.2.1, v2.2.2.2.2.2.2.1, v2.2.2.2.2.2.2.2.1, v2.2.2.2.2.2.2.2.2.1, v2.2.2.2.2.2.2.2.2.2.1, v2.2.2.2.2.2.2.2.2.2.2.1, v2.2.2.2.2.2.2.2.2.2.2.2, ()), (v3.1, v3.2.1.1, v3.2.1.2, (), v3.2.2.2.1, v3.2.2.2.2.1, v3.2.2.2.2.2.1, v3.2.2.2.2.2.2.1, v3.2.2.2.2.2.2.2.1, (), v3.2.2.2.2.2.2.2.2.2.1, v3.2.2.2.2.2.2.2.2.2.2.1, v3.2.2.2.2.2.2.2.2.2.2.2, ()), ()), (v4, ()))
abbrev mo_impl_copyArr_29 (v0 : dA) (v1 : dA) (v2 : List dW) : (O_impl_copyArr_29).X := ((((), ()), ((), ()), ((), ()), ()), ((v0.1, v0.2.1.1, v0.2.1.2, v0.2.2.1, v0.2.2.2.1, v0.2.2.2.2.1, v0.2.2.2.2.2.1, v0.2.2.2.2.2.2.1, v0.2.2.2.2.2.2.2.1, v0.2.2.2.2.2.2.2.2.1, v0.2.2.2.2.2.2.2.2.2.1, v0.2.2.2.2.2.2.2.2.2.2.1, v0.2.2.2.2.2.2.2.2.2.2.2, ()), (v1.1, v1.2.1.1, v1.2.1.2, (), v1.2.2.2.1, v1.2.2.2.2.1, v1.2.2.2.2.2.1, v1.2.2.2.2.2.2.1, v1.2.2.2.2.2.2.2.1, (), v1.2.2.2.2.2.2.2.2.2.1, v1.2.2.2.2.2.2.2.2.2.2.1, v1.2.2.2.2.2.2.2.2.2.2.2, ()), ()), (v2, ()))
noncomputable def st_impl_copyArr_29 (v0 : List dW) (v1 : Int) (v2 : Int) (v3 : Int) (v4 : Int) (v5 : Int) (v6 : List dM) (v7 : Int) (v8 : Int) (v9 : Int) (v10 : Int) (v11 : Int) (v12 : List dW) (v13 : Int) (v14 : Bool) (v15 : Bool) (v16 : Int) (v17 : Int) (v18 : Int) (v19 : Int) (v20 : Int) (v21 : Int) (v22 : Int) (v23 : Int) (v24 : Int) (v25 : Bool) (v26 : Bool) (v27 : List dW) : Option ((L_impl_copyArr_29).X ⊕ ((O_impl_copyArr_29).X ⊕ (Z_impl_copyArr_29).X)) :=
  bif (ltb v2 v1) then
    bif (inb v2 v0.length) then
      let r2 := n_impl_copyInts ((nth v0 v2 (0, [])).2)
      bif (apok v27.length ([((nth v0 v2 (0, [])).1, r2)] : List dW).length 32) then
        some (.inl ((((), ()), ((), ()), ((), ()), (v0, ()), (v1, ()), ((IntKind.i64.wrap (v2 + 1)), ()), ()), ((v3, v4, v5, v6, v7, v8, v9, v10, v11, v12, v13, v14, v15, ()), (v16, v17, v18, (), v19, v20, v21, v22, v23, (), v24, v25, v26, ()), ()), ((v27 ++ ([((nth v0 v2 (0, [])).1, r2)] : List dW)), ())))
      else none
    else none
  else
    some (.inr (.inl ((((), ()), ((), ()), ((), ()), ()), ((v3, v4, v5, v6, v7, v8, v9, v10, v11, v12, v13, v14, v15, ()), (v16, v17, v18, (), v19, v20, v21, v22, v23, (), v24, v25, v26, ()), ()), (v27, ()))))
noncomputable def stx_impl_copyArr_29 (x : (L_impl_copyArr_29).X) := st_impl_copyArr_29 x.1.2.2.2.1.1 x.1.2.2.2.2.1.1 x.1.2.2.2.2.2.1.1 x.2.1.1.1 x.2.1.1.2.1 x.2.1.1.2.2.1 x.2.1.1.2.2.2.1 x.2.1.1.2.2.2.2.1 x.2.1.1.2.2.2.2.2.1 x.2.1.1.2.2.2.2.2.2.1 x.2.1.1.2.2.2.2.2.2.2.1 x.2.1.1.2.2.2.2.2.2.2.2.1 x.2.1.1.2.2.2.2.2.2.2.2.2.1 x.2.1.1.2.2.2.2.2.2.2.2.2.2.1 x.2.1.1.2.2.2.2.2.2.2.2.2.2.2.1 x.2.1.1.2.2.2.2.2.2.2.2.2.2.2.2.1 x.2.1.2.1.1 x.2.1.2.1.2.1 x.2.1.2.1.2.2.1 x.2.1.2.1.2.2.2.2.1 x.2.1.2.1.2.2.2.2.2.1 x.2.1.2.1.2.2.2.2.2.2.1 x.2.1.2.1.2.2.2.2.2.2.2.1 x.2.1.2.1.2.2.2.2.2.2.2.2.1 x.2.1.2.1.2.2.2.2.2.2.2.2.2.2.1 x.2.1.2.1.2.2.2.2.2.2.2.2.2.2.2.1 x.2.1.2.1.2.2.2.2.2.2.2.2.2.2.2.2.1 x.2.2.1
def em_impl_copyArr_29 (x : (S_impl_copyArr_29).X) : (L_impl_copyArr_29).X := ((((), ()), ((), ()), ((), ()), (x.1.2.2.2.1.1, ()), (x.1.2.2.2.2.1.1, ()), (0, ()), ()), ((x.2.1.1.1, x.2.1.1.2.1, x.2.1.1.2.2.1, x.2.1.1.2.2.2.1, x.2.1.1.2.2.2.2.1, x.2.1.1.2.2.2.2.2.1, x.2.1.1.2.2.2.2.2.2.1, x.2.1.1.2.2.2.2.2.2.2.1, x.2.1.1.2.2.2.2.2.2.2.2.1, x.2.1.1.2.2.2.2.2.2.2.2.2.1, x.2.1.1.2.2.2.2.2.2.2.2.2.2.1, x.2.1.1.2.2.2.2.2.2.2.2.2.2.2.1, x.2.1.1.2.2.2.2.2.2.2.2.2.2.2.2.1, ()), (x.2.1.2.1.1, x.2.1.2.1.2.1, x.2.1.2.1.2.2.1, (), x.2.1.2.1.2.2.2.2.1, x.2.1.2.1.2.2.2.2.2.1, x.2.1.2.1.2.2.2.2.2.2.1, x.2.1.2.1.2.2.2.2.2.2.2.1, x.2.1.2.1.2.2.2.2.2.2.2.2.1, (), x.2.1.2.1.2.2.2.2.2.2.2.2.2.2.1, x.2.1.2.1.2.2.2.2.2.2.2.2.2.2.2.1, x.2.1.2.1.2.2.2.2.2.2.2.2.2.2.2.2.1, ()), ()), (x.2.2.1, ()))
noncomputable def c_impl_copyArr_29 : Code := (subN B_impl_copyArr 64 116).getD .skip
theorem a_impl_copyArr_29 : subN B_impl_copyArr 64 29 = some (.block 0 (.loop c_impl_copyArr_29)) := by kernel_rfl
theorem r_impl_copyArr_29 (x : (L_impl_copyArr_29).X) : roundT ⟨E_impl_copyArr, 31, D_impl_copyArr_0⟩ 0 c_impl_copyArr_29 116 L_impl_copyArr_29 O_impl_copyArr_29 Z_impl_copyArr_29 x = stx_impl_copyArr_29 x := by kernel_rfl
noncomputable def fu_impl_copyArr_29 (x : (S_impl_copyArr_29).X) : Nat := (fun (u0 : List dW) (u1 : Int) (u2 : Int) (u3 : Int) (u4 : Int) (u5 : List dM) (u6 : Int) (u7 : Int) (u8 : Int) (u9 : Int) (u10 : Int) (u11 : List dW) (u12 : Int) (u13 : Bool) (u14 : Bool) (u15 : Int) (u16 : Int) (u17 : Int) (u18 : Int) (u19 : Int) (u20 : Int) (u21 : Int) (u22 : Int) (u23 : Int) (u24 : Bool) (u25 : Bool) (u26 : List dW) => 18446744073709551616) x.1.2.2.2.1.1 x.1.2.2.2.2.1.1 x.2.1.1.1 x.2.1.1.2.1 x.2.1.1.2.2.1 x.2.1.1.2.2.2.1 x.2.1.1.2.2.2.2.1 x.2.1.1.2.2.2.2.2.1 x.2.1.1.2.2.2.2.2.2.1 x.2.1.1.2.2.2.2.2.2.2.1 x.2.1.1.2.2.2.2.2.2.2.2.1 x.2.1.1.2.2.2.2.2.2.2.2.2.1 x.2.1.1.2.2.2.2.2.2.2.2.2.2.1 x.2.1.1.2.2.2.2.2.2.2.2.2.2.2.1 x.2.1.1.2.2.2.2.2.2.2.2.2.2.2.2.1 x.2.1.2.1.1 x.2.1.2.1.2.1 x.2.1.2.1.2.2.1 x.2.1.2.1.2.2.2.2.1 x.2.1.2.1.2.2.2.2.2.1 x.2.1.2.1.2.2.2.2.2.2.1 x.2.1.2.1.2.2.2.2.2.2.2.1 x.2.1.2.1.2.2.2.2.2.2.2.2.1 x.2.1.2.1.2.2.2.2.2.2.2.2.2.2.1 x.2.1.2.1.2.2.2.2.2.2.2.2.2.2.2.1 x.2.1.2.1.2.2.2.2.2.2.2.2.2.2.2.2.1 x.2.2.1
noncomputable def F_impl_copyArr_29 (x : (S_impl_copyArr_29).X) : Option ((O_impl_copyArr_29).X ⊕ (Z_impl_copyArr_29).X) := loopN stx_impl_copyArr_29 (fu_impl_copyArr_29 x) (em_impl_copyArr_29 x)
noncomputable def sg_impl_copyArr_29 : Seg := ⟨S_impl_copyArr_29, O_impl_copyArr_29, Z_impl_copyArr_29, F_impl_copyArr_29⟩
noncomputable def D_impl_copyArr_1 : Nat → Option Seg := fun q => bif Nat.beq q 29 then some sg_impl_copyArr_29 else D_impl_copyArr_0 q
theorem fr_impl_copyArr_1 : FrOk Try.prog ⟨E_impl_copyArr, 31, D_impl_copyArr_1⟩ B_impl_copyArr := (fr_impl_copyArr_0).loop (sg := sg_impl_copyArr_29) L_impl_copyArr_29 em_impl_copyArr_29 (by decide) a_impl_copyArr_29 stx_impl_copyArr_29 fu_impl_copyArr_29 (by decide) (fun _ => rfl) (fun x r _ h => h) r_impl_copyArr_29
abbrev I_impl_copyArr : List Par := [.rd tA]
abbrev U_impl_copyArr : List OT := [⟨false, tA, (.pr .fz (.pr (.pr .fz .fz) (.pr (.ow (.pr (.ow (.ow .fz)) (.pr (.ow (.pr .fz (.ow .fz))) (.pr .fz (.ow .fz))))) (.pr .fz (.pr .fz (.pr .fz (.pr .fz (.pr .fz (.pr (.ow (.pr .fz (.ow .fz))) (.pr .fz (.pr .fz .fz)))))))))))⟩]
noncomputable def raw_impl_copyArr (a0 : dA) : Option (ResD U_impl_copyArr × MutD I_impl_copyArr) :=
  segM (F_impl_copyArr_29 ((((), ()), ((), ()), ((), ()), (a0.2.2.2.2.2.2.2.2.1, ()), ((a0.2.2.2.2.2.2.2.2.1.length : Int), ()), ((), ()), ()), ((a0.1, a0.2.1.1, a0.2.1.2, a0.2.2.1, a0.2.2.2.1, a0.2.2.2.2.1, a0.2.2.2.2.2.1, a0.2.2.2.2.2.2.1, a0.2.2.2.2.2.2.2.1, a0.2.2.2.2.2.2.2.2.1, a0.2.2.2.2.2.2.2.2.2.1, a0.2.2.2.2.2.2.2.2.2.2.1, a0.2.2.2.2.2.2.2.2.2.2.2, ()), (0, 0, 0, (), 0, 0, 0, 0, 0, (), 0, false, false, ()), ()), (([] : List dW), ()))) (fun y2 =>
    let r4 := n_impl_copyMems y2.2.1.1.2.2.2.1
    some (((y2.2.1.1.1, (y2.2.1.1.2.1, y2.2.1.1.2.2.1), r4, y2.2.1.1.2.2.2.2.1, y2.2.1.1.2.2.2.2.2.1, y2.2.1.1.2.2.2.2.2.2.1, y2.2.1.1.2.2.2.2.2.2.2.1, y2.2.1.1.2.2.2.2.2.2.2.2.1, y2.2.2.1, y2.2.1.1.2.2.2.2.2.2.2.2.2.2.1, y2.2.1.1.2.2.2.2.2.2.2.2.2.2.2.1, y2.2.1.1.2.2.2.2.2.2.2.2.2.2.2.2.1), ()), ())) (fun y2 =>
    none)
theorem e_impl_copyArr (x : InD I_impl_copyArr) : execF ⟨E_impl_copyArr, 31, D_impl_copyArr_1⟩ Try.f37.results.toList B_impl_copyArr I_impl_copyArr U_impl_copyArr x = raw_impl_copyArr x.1 := by kernel_rfl
theorem ok0_impl_copyArr : ConOk Try.prog 37 ⟨I_impl_copyArr, U_impl_copyArr, fun x => raw_impl_copyArr x.1⟩ := conOk_exec (fr_impl_copyArr_1) Try.func37 (by kernel_rfl) (by kernel_rfl) Try.ntmps37.symm (by decide) (fun x r h => (e_impl_copyArr x).trans h)
noncomputable def n_impl_copyArr (a0 : dA) : dA := a0
theorem nn_impl_copyArr (a0 : dA) (hk : InOk I_impl_copyArr (a0, ())) : raw_impl_copyArr a0 = (fun n => some ((n, ()), ())) (n_impl_copyArr a0) := by
  have hb : a0.2.2.2.2.2.2.2.2.1.length * 32 ≤ 2 ^ 47 := hk.1.2.2.2.2.2.2.2.2.1.1
  have h1 := loopN_fold (step := stx_impl_copyArr_29) a0.2.2.2.2.2.2.2.2.1 (0, []) (fun i s => mk_impl_copyArr_29 a0.2.2.2.2.2.2.2.2.1 a0.2.2.2.2.2.2.2.2.1.length i a0 noArr s) (fun s x => s ++ [x]) (fun i s => s.length = i) (fun s => .inl (mo_impl_copyArr_29 a0 noArr s)) (fun i s hi hs => ⟨by
      simp only [stx_impl_copyArr_29, mk_impl_copyArr_29, st_impl_copyArr_29, ltb_t (show (i : Int) < a0.2.2.2.2.2.2.2.2.1.length by omega), cond_true, wr (show -9223372036854775808 ≤ (i : Int) + 1 by omega) (by omega), Int.natCast_add, Int.natCast_one, Int.toNat_natCast, inb_nat hi, nth_nat, n_impl_copyInts, pr_eta]
      rw [apok_iff.2 (show (s.length + [a0.2.2.2.2.2.2.2.2.1.getD i (0, [])].length) * 32 ≤ 140737488355328 by simp only [List.length_cons, List.length_nil]; omega)]; rfl, by simp [hs]⟩) (fun s hs => by simp only [stx_impl_copyArr_29, mk_impl_copyArr_29, st_impl_copyArr_29, ltb_f (Int.le_refl _), cond_false]) [] rfl 18446744073709551616 (by omega)
  rw [foldl_id] at h1
  unfold raw_impl_copyArr n_impl_copyArr
  rw [show F_impl_copyArr_29 (ms_impl_copyArr_29 a0.2.2.2.2.2.2.2.2.1 a0.2.2.2.2.2.2.2.2.1.length a0 noArr []) = _ from h1]; rfl
noncomputable def con_impl_copyArr : Con := ⟨I_impl_copyArr, U_impl_copyArr, fun x => (fun n => some ((n, ()), ())) (n_impl_copyArr x.1)⟩
theorem ok_impl_copyArr : ConOk Try.prog 37 con_impl_copyArr := (ok0_impl_copyArr).mono (fun x r hk h => (nn_impl_copyArr x.1 hk).trans h)
end

/-! impl_sectors -/
section
noncomputable def B_impl_sectors : Code := (Try.f49.body).getD .skip
noncomputable def E_impl_sectors : Env := envOf TT [] []
theorem fr_impl_sectors_0 : FrOk Try.prog ⟨E_impl_sectors, 6, fun _ => none⟩ B_impl_sectors := frOk_base mixed tt_ok trivial
noncomputable def D_impl_sectors_0 : Nat → Option Seg := fun _ => none
abbrev I_impl_sectors : List Par := [.rd tG]
abbrev U_impl_sectors : List OT := [⟨false, tI, .fz⟩]
noncomputable def raw_impl_sectors (a0 : dG) : Option (ResD U_impl_sectors × MutD I_impl_sectors) :=
  some (((IntKind.i64.wrap (6 + a0.2)), ()), ())
theorem e_impl_sectors (x : InD I_impl_sectors) : execF ⟨E_impl_sectors, 6, D_impl_sectors_0⟩ Try.f49.results.toList B_impl_sectors I_impl_sectors U_impl_sectors x = raw_impl_sectors x.1 := by kernel_rfl
theorem ok0_impl_sectors : ConOk Try.prog 49 ⟨I_impl_sectors, U_impl_sectors, fun x => raw_impl_sectors x.1⟩ := conOk_exec (fr_impl_sectors_0) Try.func49 (by kernel_rfl) (by kernel_rfl) Try.ntmps49.symm (by decide) (fun x r h => (e_impl_sectors x).trans h)
noncomputable def n_impl_sectors (a0 : dG) : Int :=
  (IntKind.i64.wrap (6 + a0.2))
noncomputable def con_impl_sectors : Con := ⟨I_impl_sectors, U_impl_sectors, fun x => (fun n => some ((n, ()), ())) (n_impl_sectors x.1)⟩
theorem nn_impl_sectors (a0 : dG) : raw_impl_sectors a0 = (fun n => some ((n, ()), ())) (n_impl_sectors a0) := bif_ty (p := fun (n : Int) => ((n, ()), ())) rfl
theorem ok_impl_sectors : ConOk Try.prog 49 con_impl_sectors := (ok0_impl_sectors).mono (fun x r _ h => (nn_impl_sectors x.1).trans h)
end

/-! impl_within -/
section
noncomputable def B_impl_within : Code := (Try.f72.body).getD .skip
noncomputable def E_impl_within : Env := envOf TT [] []
theorem fr_impl_within_0 : FrOk Try.prog ⟨E_impl_within, 15, fun _ => none⟩ B_impl_within := frOk_base mixed tt_ok trivial
noncomputable def D_impl_within_0 : Nat → Option Seg := fun _ => none
abbrev I_impl_within : List Par := [.rd tI, .rd tI, .rd tI]
abbrev U_impl_within : List OT := [⟨false, tB, .fz⟩]
noncomputable def raw_impl_within (a0 : Int) (a1 : Int) (a2 : Int) : Option (ResD U_impl_within × MutD I_impl_within) :=
  bif (leb a1 a0) then
    some (((leb a0 a2), ()), ())
  else
    some ((false, ()), ())
theorem e_impl_within (x : InD I_impl_within) : execF ⟨E_impl_within, 15, D_impl_within_0⟩ Try.f72.results.toList B_impl_within I_impl_within U_impl_within x = raw_impl_within x.1 x.2.1 x.2.2.1 := by kernel_rfl
theorem ok0_impl_within : ConOk Try.prog 72 ⟨I_impl_within, U_impl_within, fun x => raw_impl_within x.1 x.2.1 x.2.2.1⟩ := conOk_exec (fr_impl_within_0) Try.func72 (by kernel_rfl) (by kernel_rfl) Try.ntmps72.symm (by decide) (fun x r h => (e_impl_within x).trans h)
noncomputable def n_impl_within (a0 : Int) (a1 : Int) (a2 : Int) : Bool :=
  bif (leb a1 a0) then
    (leb a0 a2)
  else
    false
noncomputable def con_impl_within : Con := ⟨I_impl_within, U_impl_within, fun x => (fun n => some ((n, ()), ())) (n_impl_within x.1 x.2.1 x.2.2.1)⟩
theorem nn_impl_within (a0 : Int) (a1 : Int) (a2 : Int) : raw_impl_within a0 a1 a2 = (fun n => some ((n, ()), ())) (n_impl_within a0 a1 a2) := bif_ty (p := fun (n : Bool) => ((n, ()), ())) (bif_some (p := fun (n : Bool) => ((n, ()), ())) rfl rfl)
theorem ok_impl_within : ConOk Try.prog 72 con_impl_within := (ok0_impl_within).mono (fun x r _ h => (nn_impl_within x.1 x.2.1 x.2.2.1).trans h)
theorem impl_in_eq (a b c : Int) : n_impl_within a b c = n_spec_l1In a b c := by kernel_rfl
end
end Go.Tf
