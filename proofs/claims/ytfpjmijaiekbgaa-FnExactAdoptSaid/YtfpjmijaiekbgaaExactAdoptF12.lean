/- Functions of the program, and what they come to. -/
import Derived.Test.YtfpjmijaiekbgaaExactAdoptF11
namespace Go.Tf
open Go.Proofs
set_option synthInstance.maxHeartbeats 400000
set_option synthInstance.maxSize 10000
set_option linter.unusedVariables false
set_option linter.unusedSimpArgs false
set_option maxRecDepth 100000
/-! impl_Arr_mark -/
section
noncomputable def B_impl_Arr_mark : Code := (Try.f25.body).getD .skip
noncomputable def E_impl_Arr_mark : Env := envOf TT [(57, con_impl_Arr_sync), (58, con_impl_Arr_write), (59, con_impl_PutSuper), (60, con_impl_superOf)] []
theorem fr_impl_Arr_mark_0 : FrOk Try.prog ⟨E_impl_Arr_mark, 37, fun _ => none⟩ B_impl_Arr_mark := frOk_base mixed tt_ok ⟨ok_impl_Arr_sync, ok_impl_Arr_write, ok_impl_PutSuper, ok_impl_superOf, trivial⟩
noncomputable def D_impl_Arr_mark_0 : Nat → Option Seg := fun _ => none
def L_impl_Arr_mark_29 : Shape := ⟨[(0, false, [.ptr 1000000000 0]), (15, false, [.int .i64]), (16, false, [.int .i64])], [(1000000000, [.int .i64, .int .i64, .int .i64, .at 800000000, .int .i64, .int .i64, .int .i64, .int .i64, .int .i64, .at 800000001, .int .i64, .bool, .bool])], [(800000000, tM, (.pr (.ow (.ow .fz)) (.pr (.ow (.pr .fz (.ow .fz))) (.pr .fz (.ow .fz))))), (800000001, tW, (.pr .fz (.ow .fz)))]⟩
def S_impl_Arr_mark_29 : Shape := ⟨[(0, false, [.ptr 1000000000 0]), (15, false, [.int .i64]), (16, false, [.ci .i64 0])], [(1000000000, [.int .i64, .int .i64, .int .i64, .at 800000000, .int .i64, .int .i64, .int .i64, .int .i64, .int .i64, .at 800000001, .int .i64, .bool, .bool])], [(800000000, tM, (.pr (.ow (.ow .fz)) (.pr (.ow (.pr .fz (.ow .fz))) (.pr .fz (.ow .fz))))), (800000001, tW, (.pr .fz (.ow .fz)))]⟩
def O_impl_Arr_mark_29 : Shape := ⟨[(0, false, [.ptr 1000000000 0])], [(1000000000, [.int .i64, .int .i64, .int .i64, .at 800000000, .int .i64, .int .i64, .int .i64, .int .i64, .int .i64, .at 800000001, .int .i64, .bool, .bool])], [(800000000, tM, (.pr (.ow (.ow .fz)) (.pr (.ow (.pr .fz (.ow .fz))) (.pr .fz (.ow .fz))))), (800000001, tW, (.pr .fz (.ow .fz)))]⟩
def Z_impl_Arr_mark_29 : Shape := ⟨[(2, false, [.bool])], [(1000000000, [.int .i64, .int .i64, .int .i64, .at 800000000, .int .i64, .int .i64, .int .i64, .int .i64, .int .i64, .at 800000001, .int .i64, .bool, .bool])], [(800000000, tM, (.pr (.ow (.ow .fz)) (.pr (.ow (.pr .fz (.ow .fz))) (.pr .fz (.ow .fz))))), (800000001, tW, (.pr .fz (.ow .fz)))]⟩
abbrev mk_impl_Arr_mark_29 (v0 : Int) (v1 : Int) (v2 : dA) : (L_impl_Arr_mark_29).X := ((((), ()), (v0, ()), (v1, ()), ()), ((v2.1, v2.2.1.1, v2.2.1.2, (), v2.2.2.2.1, v2.2.2.2.2.1, v2.2.2.2.2.2.1, v2.2.2.2.2.2.2.1, v2.2.2.2.2.2.2.2.1, (), v2.2.2.2.2.2.2.2.2.2.1, v2.2.2.2.2.2.2.2.2.2.2.1, v2.2.2.2.2.2.2.2.2.2.2.2, ()), ()), (v2.2.2.1, v2.2.2.2.2.2.2.2.2.1, ()))
abbrev ms_impl_Arr_mark_29 (v0 : Int) (v1 : dA) : (S_impl_Arr_mark_29).X := ((((), ()), (v0, ()), ((), ()), ()), ((v1.1, v1.2.1.1, v1.2.1.2, (), v1.2.2.2.1, v1.2.2.2.2.1, v1.2.2.2.2.2.1, v1.2.2.2.2.2.2.1, v1.2.2.2.2.2.2.2.1, (), v1.2.2.2.2.2.2.2.2.2.1, v1.2.2.2.2.2.2.2.2.2.2.1, v1.2.2.2.2.2.2.2.2.2.2.2, ()), ()), (v1.2.2.1, v1.2.2.2.2.2.2.2.2.1, ()))
abbrev mo_impl_Arr_mark_29 (v0 : dA) : (O_impl_Arr_mark_29).X := ((((), ()), ()), ((v0.1, v0.2.1.1, v0.2.1.2, (), v0.2.2.2.1, v0.2.2.2.2.1, v0.2.2.2.2.2.1, v0.2.2.2.2.2.2.1, v0.2.2.2.2.2.2.2.1, (), v0.2.2.2.2.2.2.2.2.2.1, v0.2.2.2.2.2.2.2.2.2.2.1, v0.2.2.2.2.2.2.2.2.2.2.2, ()), ()), (v0.2.2.1, v0.2.2.2.2.2.2.2.2.1, ()))
abbrev mz_impl_Arr_mark_29 (v0 : Bool) (v1 : dA) : (Z_impl_Arr_mark_29).X := (((v0, ()), ()), ((v1.1, v1.2.1.1, v1.2.1.2, (), v1.2.2.2.1, v1.2.2.2.2.1, v1.2.2.2.2.2.1, v1.2.2.2.2.2.2.1, v1.2.2.2.2.2.2.2.1, (), v1.2.2.2.2.2.2.2.2.2.1, v1.2.2.2.2.2.2.2.2.2.2.1, v1.2.2.2.2.2.2.2.2.2.2.2, ()), ()), (v1.2.2.1, v1.2.2.2.2.2.2.2.2.1, ()))
noncomputable def st_impl_Arr_mark_29 (v0 : Int) (v1 : Int) (v2 : Int) (v3 : Int) (v4 : Int) (v5 : Int) (v6 : Int) (v7 : Int) (v8 : Int) (v9 : Int) (v10 : Int) (v11 : Bool) (v12 : Bool) (v13 : List dM) (v14 : List dW) : Option ((L_impl_Arr_mark_29).X ⊕ ((O_impl_Arr_mark_29).X ⊕ (Z_impl_Arr_mark_29).X)) :=
  bif (ltb v1 v0) then
    let r4 := n_impl_superOf (v2, (v3, v4), v13, v5, v6, v7, v8, v9, v14, v10, v11, v12) v1
    let r5 := n_impl_PutSuper r4
    bnd (o_impl_Arr_write (v2, (v3, v4), v13, v5, v6, v7, v8, v9, v14, v10, v11, v12) v1 (v9.tmod 2) r5) fun r6 =>
    bif (!r6.1.1) then
      some (.inr (.inr (((false, ()), ()), ((r6.2.1.1, r6.2.1.2.1.1, r6.2.1.2.1.2, (), r6.2.1.2.2.2.1, r6.2.1.2.2.2.2.1, r6.2.1.2.2.2.2.2.1, r6.2.1.2.2.2.2.2.2.1, r6.2.1.2.2.2.2.2.2.2.1, (), r6.2.1.2.2.2.2.2.2.2.2.2.1, r6.2.1.2.2.2.2.2.2.2.2.2.2.1, r6.2.1.2.2.2.2.2.2.2.2.2.2.2, ()), ()), (r6.2.1.2.2.1, r6.2.1.2.2.2.2.2.2.2.2.1, ()))))
    else
      some (.inl ((((), ()), (v0, ()), ((IntKind.i64.wrap (v1 + 1)), ()), ()), ((r6.2.1.1, r6.2.1.2.1.1, r6.2.1.2.1.2, (), r6.2.1.2.2.2.1, r6.2.1.2.2.2.2.1, r6.2.1.2.2.2.2.2.1, r6.2.1.2.2.2.2.2.2.1, r6.2.1.2.2.2.2.2.2.2.1, (), r6.2.1.2.2.2.2.2.2.2.2.2.1, r6.2.1.2.2.2.2.2.2.2.2.2.2.1, r6.2.1.2.2.2.2.2.2.2.2.2.2.2, ()), ()), (r6.2.1.2.2.1, r6.2.1.2.2.2.2.2.2.2.2.1, ())))
  else
    some (.inr (.inl ((((), ()), ()), ((v2, v3, v4, (), v5, v6, v7, v8, v9, (), v10, v11, v12, ()), ()), (v13, v14, ()))))
noncomputable def stx_impl_Arr_mark_29 (x : (L_impl_Arr_mark_29).X) := st_impl_Arr_mark_29 x.1.2.1.1 x.1.2.2.1.1 x.2.1.1.1 x.2.1.1.2.1 x.2.1.1.2.2.1 x.2.1.1.2.2.2.2.1 x.2.1.1.2.2.2.2.2.1 x.2.1.1.2.2.2.2.2.2.1 x.2.1.1.2.2.2.2.2.2.2.1 x.2.1.1.2.2.2.2.2.2.2.2.1 x.2.1.1.2.2.2.2.2.2.2.2.2.2.1 x.2.1.1.2.2.2.2.2.2.2.2.2.2.2.1 x.2.1.1.2.2.2.2.2.2.2.2.2.2.2.2.1 x.2.2.1 x.2.2.2.1
def em_impl_Arr_mark_29 (x : (S_impl_Arr_mark_29).X) : (L_impl_Arr_mark_29).X := ((((), ()), (x.1.2.1.1, ()), (0, ()), ()), ((x.2.1.1.1, x.2.1.1.2.1, x.2.1.1.2.2.1, (), x.2.1.1.2.2.2.2.1, x.2.1.1.2.2.2.2.2.1, x.2.1.1.2.2.2.2.2.2.1, x.2.1.1.2.2.2.2.2.2.2.1, x.2.1.1.2.2.2.2.2.2.2.2.1, (), x.2.1.1.2.2.2.2.2.2.2.2.2.2.1, x.2.1.1.2.2.2.2.2.2.2.2.2.2.2.1, x.2.1.1.2.2.2.2.2.2.2.2.2.2.2.2.1, ()), ()), (x.2.2.1, x.2.2.2.1, ()))
noncomputable def c_impl_Arr_mark_29 : Code := (subN B_impl_Arr_mark 64 116).getD .skip
theorem a_impl_Arr_mark_29 : subN B_impl_Arr_mark 64 29 = some (.block 0 (.loop c_impl_Arr_mark_29)) := by kernel_rfl
theorem r_impl_Arr_mark_29 (x : (L_impl_Arr_mark_29).X) : roundT ⟨E_impl_Arr_mark, 37, D_impl_Arr_mark_0⟩ 0 c_impl_Arr_mark_29 116 L_impl_Arr_mark_29 O_impl_Arr_mark_29 Z_impl_Arr_mark_29 x = stx_impl_Arr_mark_29 x := by kernel_rfl
noncomputable def fu_impl_Arr_mark_29 (x : (S_impl_Arr_mark_29).X) : Nat := (fun (u0 : Int) (u1 : Int) (u2 : Int) (u3 : Int) (u4 : Int) (u5 : Int) (u6 : Int) (u7 : Int) (u8 : Int) (u9 : Int) (u10 : Bool) (u11 : Bool) (u12 : List dM) (u13 : List dW) => 18446744073709551616) x.1.2.1.1 x.2.1.1.1 x.2.1.1.2.1 x.2.1.1.2.2.1 x.2.1.1.2.2.2.2.1 x.2.1.1.2.2.2.2.2.1 x.2.1.1.2.2.2.2.2.2.1 x.2.1.1.2.2.2.2.2.2.2.1 x.2.1.1.2.2.2.2.2.2.2.2.1 x.2.1.1.2.2.2.2.2.2.2.2.2.2.1 x.2.1.1.2.2.2.2.2.2.2.2.2.2.2.1 x.2.1.1.2.2.2.2.2.2.2.2.2.2.2.2.1 x.2.2.1 x.2.2.2.1
noncomputable def F_impl_Arr_mark_29 (x : (S_impl_Arr_mark_29).X) : Option ((O_impl_Arr_mark_29).X ⊕ (Z_impl_Arr_mark_29).X) := loopN stx_impl_Arr_mark_29 (fu_impl_Arr_mark_29 x) (em_impl_Arr_mark_29 x)
noncomputable def sg_impl_Arr_mark_29 : Seg := ⟨S_impl_Arr_mark_29, O_impl_Arr_mark_29, Z_impl_Arr_mark_29, F_impl_Arr_mark_29⟩
noncomputable def D_impl_Arr_mark_1 : Nat → Option Seg := fun q => bif Nat.beq q 29 then some sg_impl_Arr_mark_29 else D_impl_Arr_mark_0 q
theorem fr_impl_Arr_mark_1 : FrOk Try.prog ⟨E_impl_Arr_mark, 37, D_impl_Arr_mark_1⟩ B_impl_Arr_mark := (fr_impl_Arr_mark_0).loop (sg := sg_impl_Arr_mark_29) L_impl_Arr_mark_29 em_impl_Arr_mark_29 (by decide) a_impl_Arr_mark_29 stx_impl_Arr_mark_29 fu_impl_Arr_mark_29 (by decide) (fun _ => rfl) (fun x r _ h => h) r_impl_Arr_mark_29
abbrev I_impl_Arr_mark : List Par := [.pt tA (.pr .fz (.pr (.pr .fz .fz) (.pr (.ow (.pr (.ow (.ow .fz)) (.pr (.ow (.pr .fz (.ow .fz))) (.pr .fz (.ow .fz))))) (.pr .fz (.pr .fz (.pr .fz (.pr .fz (.pr .fz (.pr (.ow (.pr .fz (.ow .fz))) (.pr .fz (.pr .fz .fz)))))))))))]
abbrev U_impl_Arr_mark : List OT := [⟨false, tB, .fz⟩]
noncomputable def raw_impl_Arr_mark (a0 : dA) : Option (ResD U_impl_Arr_mark × MutD I_impl_Arr_mark) :=
  segM (F_impl_Arr_mark_29 ((((), ()), ((a0.2.2.1.length : Int), ()), ((), ()), ()), ((a0.1, a0.2.1.1, a0.2.1.2, (), a0.2.2.2.1, a0.2.2.2.2.1, a0.2.2.2.2.2.1, a0.2.2.2.2.2.2.1, (IntKind.i64.wrap (a0.2.2.2.2.2.2.2.1 + 1)), (), a0.2.2.2.2.2.2.2.2.2.1, a0.2.2.2.2.2.2.2.2.2.2.1, a0.2.2.2.2.2.2.2.2.2.2.2, ()), ()), (a0.2.2.1, a0.2.2.2.2.2.2.2.2.1, ()))) (fun y6 =>
    bnd (o_impl_Arr_sync (y6.2.1.1.1, (y6.2.1.1.2.1, y6.2.1.1.2.2.1), y6.2.2.1, y6.2.1.1.2.2.2.2.1, y6.2.1.1.2.2.2.2.2.1, y6.2.1.1.2.2.2.2.2.2.1, y6.2.1.1.2.2.2.2.2.2.2.1, y6.2.1.1.2.2.2.2.2.2.2.2.1, y6.2.2.2.1, y6.2.1.1.2.2.2.2.2.2.2.2.2.2.1, y6.2.1.1.2.2.2.2.2.2.2.2.2.2.2.1, y6.2.1.1.2.2.2.2.2.2.2.2.2.2.2.2.1)) fun r8 =>
    some ((r8.1.1, ()), (r8.2.1, ()))) (fun y6 =>
    some ((y6.1.1.1, ()), ((y6.2.1.1.1, (y6.2.1.1.2.1, y6.2.1.1.2.2.1), y6.2.2.1, y6.2.1.1.2.2.2.2.1, y6.2.1.1.2.2.2.2.2.1, y6.2.1.1.2.2.2.2.2.2.1, y6.2.1.1.2.2.2.2.2.2.2.1, y6.2.1.1.2.2.2.2.2.2.2.2.1, y6.2.2.2.1, y6.2.1.1.2.2.2.2.2.2.2.2.2.2.1, y6.2.1.1.2.2.2.2.2.2.2.2.2.2.2.1, y6.2.1.1.2.2.2.2.2.2.2.2.2.2.2.2.1), ())))
theorem e_impl_Arr_mark (x : InD I_impl_Arr_mark) : execF ⟨E_impl_Arr_mark, 37, D_impl_Arr_mark_1⟩ Try.f25.results.toList B_impl_Arr_mark I_impl_Arr_mark U_impl_Arr_mark x = raw_impl_Arr_mark x.1 := by kernel_rfl
theorem ok0_impl_Arr_mark : ConOk Try.prog 25 ⟨I_impl_Arr_mark, U_impl_Arr_mark, fun x => raw_impl_Arr_mark x.1⟩ := conOk_exec (fr_impl_Arr_mark_1) Try.func25 (by kernel_rfl) (by kernel_rfl) Try.ntmps25.symm (by decide) (fun x r h => (e_impl_Arr_mark x).trans h)
noncomputable def n_impl_Arr_mark (a0 : dA) : Bool × dA := (!(downA (markA a0)), markA a0)
noncomputable def q_impl_Arr_mark (a0 : dA) : Bool := !(downA a0)
theorem markOne_stop {a : dA} (i : Nat) (h : downA a = true) : markOne a i = a := put_stop h _ _ _
theorem nn_impl_Arr_mark (a0 : dA) (hk : InOk I_impl_Arr_mark (a0, ())) (hq : q_impl_Arr_mark a0 = true) : raw_impl_Arr_mark a0 = (fun n => some ((n.1, ()), (n.2, ()))) (n_impl_Arr_mark a0) := by
  have hb : a0.2.2.1.length * 80 ≤ 2 ^ 47 := hk.1.2.2.1.1
  have hd0 : downA a0 = false := by simpa [q_impl_Arr_mark] using hq
  have h1 : F_impl_Arr_mark_29 (ms_impl_Arr_mark_29 a0.2.2.1.length (genUp a0)) = some (bif downA ((List.range a0.2.2.1.length).foldl markOne (genUp a0)) then .inr (mz_impl_Arr_mark_29 false ((List.range a0.2.2.1.length).foldl markOne (genUp a0))) else .inl (mo_impl_Arr_mark_29 ((List.range a0.2.2.1.length).foldl markOne (genUp a0)))) := by
    have := loopN_goE (step := stx_impl_Arr_mark_29) a0.2.2.1.length (fun i s => mk_impl_Arr_mark_29 a0.2.2.1.length i s) (fun i s => bif downA (markOne s i) then (.inr (markOne s i) : dA ⊕ dA) else .inl (markOne s i)) (fun _ s => s.2.2.1.length = a0.2.2.1.length ∧ downA s = false) id
      (fun b => bif downA b then .inr (mz_impl_Arr_mark_29 false b) else .inl (mo_impl_Arr_mark_29 b)) (fun i s hi hs => by
        constructor
        · simp only [stx_impl_Arr_mark_29, mk_impl_Arr_mark_29, st_impl_Arr_mark_29, ltb_t (show (i : Int) < a0.2.2.1.length by omega), cond_true, wr (show -9223372036854775808 ≤ (i : Int) + 1 by omega) (by omega), Int.natCast_add, Int.natCast_one, Int.toNat_natCast, pr_eta, impl_put_eq, n_impl_superOf]
          rw [ot_impl_Arr_write s i (s.2.2.2.2.2.2.2.1.tmod 2) (n_spec_PutSuper (s.1, s.2.2.2.2.2.2.2.1, (i : Int), s.2.1.1, s.2.1.2, s.2.2.2.2.2.2.1, s.2.2.2.1, s.2.2.2.2.1)) (by unfold q_impl_Arr_write; rw [inb_nat (by rw [hs.1]; exact hi), hs.2]; rfl)]
          simp only [bnd_some, n_impl_Arr_write]
          rw [show putA s i (s.2.2.2.2.2.2.2.1.tmod 2) (n_spec_PutSuper (s.1, s.2.2.2.2.2.2.2.1, (i : Int), s.2.1.1, s.2.1.2, s.2.2.2.2.2.2.1, s.2.2.2.1, s.2.2.2.2.1)) = markOne s i from rfl]
          cases hd : downA (markOne s i)
          · rfl
          · simp only [hd, Bool.not_true, Bool.not_false, cond_true, mz_impl_Arr_mark_29]
        · intro s' h
          cases hd : downA (markOne s i)
          · rw [hd] at h
            cases h
            exact ⟨(markOne_len s i).trans hs.1, hd⟩
          · rw [hd] at h; cases h) (fun s hs => by simp only [stx_impl_Arr_mark_29, mk_impl_Arr_mark_29, st_impl_Arr_mark_29, hs.2, ltb_f (Int.le_refl _), cond_false, id, mo_impl_Arr_mark_29]) (genUp a0) ⟨rfl, hd0⟩ 18446744073709551616 (by omega)
    rw [goE_fold (fun a i h => markOne_stop i h), ← List.range_eq_range'] at this
    exact this
  unfold raw_impl_Arr_mark n_impl_Arr_mark markA
  refine (congrArg (fun z => segM z _ _) h1).trans ?_
  cases hd : downA ((List.range a0.2.2.1.length).foldl markOne (genUp a0))
  · simp only [cond_false, segM_inl, pr_eta]
    rw [ot_impl_Arr_sync _ (by unfold q_impl_Arr_sync; rw [hd]; rfl)]; rfl
  · rw [sync_stop hd]
    simp only [cond_true, segM_inr, pr_eta]
    rw [hd]; rfl
noncomputable def o_impl_Arr_mark (a0 : dA) : Option (ResD U_impl_Arr_mark × MutD I_impl_Arr_mark) := bif q_impl_Arr_mark a0 then (fun n => some ((n.1, ()), (n.2, ()))) (n_impl_Arr_mark a0) else none
theorem ot_impl_Arr_mark (a0 : dA) (h : q_impl_Arr_mark a0 = true) : o_impl_Arr_mark a0 = (fun n => some ((n.1, ()), (n.2, ()))) (n_impl_Arr_mark a0) := by unfold o_impl_Arr_mark; rw [h]; rfl
noncomputable def con_impl_Arr_mark : Con := ⟨I_impl_Arr_mark, U_impl_Arr_mark, fun x => o_impl_Arr_mark x.1⟩
theorem ok_impl_Arr_mark : ConOk Try.prog 25 con_impl_Arr_mark := (ok0_impl_Arr_mark).mono (fun x r hk h => pre_ok h (fun hq => nn_impl_Arr_mark x.1 hk hq))
end

/-! impl_Arr_check -/
section
noncomputable def B_impl_Arr_check : Code := (Try.f24.body).getD .skip
noncomputable def E_impl_Arr_check : Env := envOf TT [(25, con_impl_Arr_mark), (57, con_impl_Arr_sync)] []
theorem fr_impl_Arr_check_0 : FrOk Try.prog ⟨E_impl_Arr_check, 15, fun _ => none⟩ B_impl_Arr_check := frOk_base mixed tt_ok ⟨ok_impl_Arr_mark, ok_impl_Arr_sync, trivial⟩
noncomputable def D_impl_Arr_check_0 : Nat → Option Seg := fun _ => none
abbrev I_impl_Arr_check : List Par := [.pt tA (.pr .fz (.pr (.pr .fz .fz) (.pr (.ow (.pr (.ow (.ow .fz)) (.pr (.ow (.pr .fz (.ow .fz))) (.pr .fz (.ow .fz))))) (.pr .fz (.pr .fz (.pr .fz (.pr .fz (.pr .fz (.pr (.ow (.pr .fz (.ow .fz))) (.pr .fz (.pr .fz .fz)))))))))))]
abbrev U_impl_Arr_check : List OT := [⟨false, tB, .fz⟩]
noncomputable def raw_impl_Arr_check (a0 : dA) : Option (ResD U_impl_Arr_check × MutD I_impl_Arr_check) :=
  bnd (o_impl_Arr_sync a0) fun r1 =>
  bif (!r1.1.1) then
    some ((false, ()), (r1.2.1, ()))
  else
    bnd (o_impl_Arr_mark (r1.2.1.1, r1.2.1.2.1, r1.2.1.2.2.1, r1.2.1.2.2.2.1, r1.2.1.2.2.2.2.1, r1.2.1.2.2.2.2.2.1, r1.2.1.2.2.2.2.2.1, r1.2.1.2.2.2.2.2.2.2)) fun r2 =>
    some ((r2.1.1, ()), (r2.2.1, ()))
theorem e_impl_Arr_check (x : InD I_impl_Arr_check) : execF ⟨E_impl_Arr_check, 15, D_impl_Arr_check_0⟩ Try.f24.results.toList B_impl_Arr_check I_impl_Arr_check U_impl_Arr_check x = raw_impl_Arr_check x.1 := by kernel_rfl
theorem ok0_impl_Arr_check : ConOk Try.prog 24 ⟨I_impl_Arr_check, U_impl_Arr_check, fun x => raw_impl_Arr_check x.1⟩ := conOk_exec (fr_impl_Arr_check_0) Try.func24 (by kernel_rfl) (by kernel_rfl) Try.ntmps24.symm (by decide) (fun x r h => (e_impl_Arr_check x).trans h)
noncomputable def n_impl_Arr_check (a0 : dA) : Bool × dA := (!(downA (checkA a0)), checkA a0)
noncomputable def q_impl_Arr_check (a0 : dA) : Bool := !(downA a0)
theorem nn_impl_Arr_check (a0 : dA) (hk : InOk I_impl_Arr_check (a0, ())) (hq : q_impl_Arr_check a0 = true) : raw_impl_Arr_check a0 = (fun n => some ((n.1, ()), (n.2, ()))) (n_impl_Arr_check a0) := by
  unfold raw_impl_Arr_check n_impl_Arr_check checkA
  rw [ot_impl_Arr_sync a0 hq]
  simp only [bnd_some, n_impl_Arr_sync]
  cases hd : downA (syncA a0)
  · have hm : o_impl_Arr_mark (tailUp (syncA a0)) = some ((!(downA (markA (tailUp (syncA a0)))), ()), (markA (tailUp (syncA a0)), ())) := ot_impl_Arr_mark (tailUp (syncA a0)) (by unfold q_impl_Arr_mark; rw [show downA (tailUp (syncA a0)) = downA (syncA a0) from rfl, hd]; rfl)
    exact (congrArg (fun z => bnd z _) hm).trans rfl
  · simp only [Bool.not_true, Bool.not_false, cond_true]
    rw [hd]; rfl
noncomputable def o_impl_Arr_check (a0 : dA) : Option (ResD U_impl_Arr_check × MutD I_impl_Arr_check) := bif q_impl_Arr_check a0 then (fun n => some ((n.1, ()), (n.2, ()))) (n_impl_Arr_check a0) else none
theorem ot_impl_Arr_check (a0 : dA) (h : q_impl_Arr_check a0 = true) : o_impl_Arr_check a0 = (fun n => some ((n.1, ()), (n.2, ()))) (n_impl_Arr_check a0) := by unfold o_impl_Arr_check; rw [h]; rfl
noncomputable def con_impl_Arr_check : Con := ⟨I_impl_Arr_check, U_impl_Arr_check, fun x => o_impl_Arr_check x.1⟩
theorem ok_impl_Arr_check : ConOk Try.prog 24 con_impl_Arr_check := (ok0_impl_Arr_check).mono (fun x r hk h => pre_ok h (fun hq => nn_impl_Arr_check x.1 hk hq))
end

/-! impl_goodOr -/
section
noncomputable def B_impl_goodOr : Code := (Try.f26.body).getD .skip
noncomputable def E_impl_goodOr : Env := envOf TT [] []
theorem fr_impl_goodOr_0 : FrOk Try.prog ⟨E_impl_goodOr, 4, fun _ => none⟩ B_impl_goodOr := frOk_base mixed tt_ok trivial
noncomputable def D_impl_goodOr_0 : Nat → Option Seg := fun _ => none
abbrev I_impl_goodOr : List Par := [.rd tB]
abbrev U_impl_goodOr : List OT := [⟨false, tI, .fz⟩]
noncomputable def raw_impl_goodOr (a0 : Bool) : Option (ResD U_impl_goodOr × MutD I_impl_goodOr) :=
  bif a0 then
    some ((0, ()), ())
  else
    some ((6, ()), ())
theorem e_impl_goodOr (x : InD I_impl_goodOr) : execF ⟨E_impl_goodOr, 4, D_impl_goodOr_0⟩ Try.f26.results.toList B_impl_goodOr I_impl_goodOr U_impl_goodOr x = raw_impl_goodOr x.1 := by kernel_rfl
theorem ok0_impl_goodOr : ConOk Try.prog 26 ⟨I_impl_goodOr, U_impl_goodOr, fun x => raw_impl_goodOr x.1⟩ := conOk_exec (fr_impl_goodOr_0) Try.func26 (by kernel_rfl) (by kernel_rfl) Try.ntmps26.symm (by decide) (fun x r h => (e_impl_goodOr x).trans h)
noncomputable def n_impl_goodOr (a0 : Bool) : Int :=
  bif a0 then
    0
  else
    6
noncomputable def con_impl_goodOr : Con := ⟨I_impl_goodOr, U_impl_goodOr, fun x => (fun n => some ((n, ()), ())) (n_impl_goodOr x.1)⟩
theorem nn_impl_goodOr (a0 : Bool) : raw_impl_goodOr a0 = (fun n => some ((n, ()), ())) (n_impl_goodOr a0) := bif_ty (p := fun (n : Int) => ((n, ()), ())) (bif_some (p := fun (n : Int) => ((n, ()), ())) rfl rfl)
theorem ok_impl_goodOr : ConOk Try.prog 26 con_impl_goodOr := (ok0_impl_goodOr).mono (fun x r _ h => (nn_impl_goodOr x.1).trans h)
end

/-! impl_Adopt -/
section
noncomputable def B_impl_Adopt : Code := (Try.f8.body).getD .skip
noncomputable def E_impl_Adopt : Env := envOf TT [(22, con_impl_copyArr), (23, con_impl_ArrOk), (24, con_impl_Arr_check), (25, con_impl_Arr_mark), (26, con_impl_goodOr)] []
theorem fr_impl_Adopt_0 : FrOk Try.prog ⟨E_impl_Adopt, 57, fun _ => none⟩ B_impl_Adopt := frOk_base mixed tt_ok ⟨ok_impl_copyArr, ok_impl_ArrOk, ok_impl_Arr_check, ok_impl_Arr_mark, ok_impl_goodOr, trivial⟩
noncomputable def D_impl_Adopt_0 : Nat → Option Seg := fun _ => none
abbrev I_impl_Adopt : List Par := [.rd tA]
abbrev U_impl_Adopt : List OT := [⟨false, tA, (.pr .fz (.pr (.pr .fz .fz) (.pr (.ow (.pr (.ow (.ow .fz)) (.pr (.ow (.pr .fz (.ow .fz))) (.pr .fz (.ow .fz))))) (.pr .fz (.pr .fz (.pr .fz (.pr .fz (.pr .fz (.pr (.ow (.pr .fz (.ow .fz))) (.pr .fz (.pr .fz .fz)))))))))))⟩, ⟨false, tI, .fz⟩]
noncomputable def raw_impl_Adopt (a0 : dA) : Option (ResD U_impl_Adopt × MutD I_impl_Adopt) :=
  let r1 := n_impl_copyArr a0
  let r2 := n_impl_ArrOk a0
  bif (!r2) then
    some ((r1, 1, ()), ())
  else
    bif a0.2.2.2.2.2.2.2.2.2.2.1 then
      some ((r1, 6, ()), ())
    else
      bif (!(a0.2.2.2.1 == (-1))) then
        bif (inb a0.2.2.2.1 a0.2.2.1.length) then
          bif (!((((nth a0.2.2.1 a0.2.2.2.1 ([], [], false, [])).2).2).1)) then
            bif (ltb a0.2.2.2.2.1 a0.2.1.2) then
              some ((r1, 2, ()), ())
            else
              bif a0.2.2.2.2.2.2.2.2.2.2.2 then
                some ((r1, 5, ()), ())
              else
                bif (leb 59990 a0.2.2.2.2.2.2.2.1) then
                  some ((r1, 7, ()), ())
                else
                  bnd (o_impl_Arr_check r1) fun r3 =>
                  bif (!r3.1.1) then
                    some ((r3.2.1, 6, ()), ())
                  else
                    bnd (o_impl_Arr_mark (r3.2.1.1, r3.2.1.2.1, r3.2.1.2.2.1, (-1), 0, r3.2.1.2.2.2.2.2)) fun r4 =>
                    let r5 := n_impl_goodOr r4.1.1
                    some ((r4.2.1, r5, ()), ())
          else
            some ((r1, 2, ()), ())
        else none
      else
        some ((r1, 2, ()), ())
theorem e_impl_Adopt (x : InD I_impl_Adopt) : execF ⟨E_impl_Adopt, 57, D_impl_Adopt_0⟩ Try.f8.results.toList B_impl_Adopt I_impl_Adopt U_impl_Adopt x = raw_impl_Adopt x.1 := by kernel_rfl
theorem ok0_impl_Adopt : ConOk Try.prog 8 ⟨I_impl_Adopt, U_impl_Adopt, fun x => raw_impl_Adopt x.1⟩ := conOk_exec (fr_impl_Adopt_0) Try.func8 (by kernel_rfl) (by kernel_rfl) Try.ntmps8.symm (by decide) (fun x r h => (e_impl_Adopt x).trans h)
noncomputable def n_impl_Adopt (a0 : dA) : dA × Int := adoptA a0
theorem nn_impl_Adopt (a0 : dA) (hk : InOk I_impl_Adopt (a0, ())) : raw_impl_Adopt a0 = (fun n => some ((n.1, n.2, ()), ())) (n_impl_Adopt a0) := by
  unfold raw_impl_Adopt n_impl_Adopt adoptA
  simp only [n_impl_copyArr, n_impl_ArrOk]
  cases ha : arrOk a0
  · rfl
  cases hd : downA a0
  · rw [ot_impl_Arr_check a0 (by unfold q_impl_Arr_check; rw [hd]; rfl), show a0.2.2.2.2.2.2.2.2.2.2.1 = false from hd]
    cases hl : (a0.2.2.2.1 == -1)
    · rw [lost_in ha (beq_eq_false_iff_ne.1 hl)]
      have key : (bnd (some ((!(downA (checkA a0)), ()), (checkA a0, ()))) fun r3 => bif !r3.1.1 then some ((r3.2.1, 6, ()), ()) else bnd (o_impl_Arr_mark (adoptEnd r3.2.1)) fun r4 => some ((r4.2.1, n_impl_goodOr r4.1.1, ()), ())) = some (((adoptOne a0).1, (adoptOne a0).2, ()), ()) := by
        simp only [bnd_some]
        unfold adoptOne n_impl_goodOr
        cases hc : downA (checkA a0)
        · have hm : o_impl_Arr_mark (adoptEnd (checkA a0)) = some ((!(downA (markA (adoptEnd (checkA a0)))), ()), (markA (adoptEnd (checkA a0)), ())) := ot_impl_Arr_mark _ (by unfold q_impl_Arr_mark; rw [show downA (adoptEnd (checkA a0)) = downA (checkA a0) from rfl, hc]; rfl)
          rw [hm]
          simp only [bnd_some]
          cases downA (markA (adoptEnd (checkA a0))) <;> rfl
        · rfl
      cases (nth a0.2.2.1 a0.2.2.2.1 noMem).2.2.1 <;> cases ltb a0.2.2.2.2.1 a0.2.1.2 <;> cases a0.2.2.2.2.2.2.2.2.2.2.2 <;> cases leb 59990 a0.2.2.2.2.2.2.2.1 <;> first | rfl | exact key
    · rfl
  · rw [show a0.2.2.2.2.2.2.2.2.2.2.1 = true from hd]; rfl
noncomputable def con_impl_Adopt : Con := ⟨I_impl_Adopt, U_impl_Adopt, fun x => (fun n => some ((n.1, n.2, ()), ())) (n_impl_Adopt x.1)⟩
theorem ok_impl_Adopt : ConOk Try.prog 8 con_impl_Adopt := (ok0_impl_Adopt).mono (fun x r hk h => (nn_impl_Adopt x.1 hk).trans h)
end

/-! laws_eqGeo -/
section
noncomputable def B_laws_eqGeo : Code := (Try.f27.body).getD .skip
noncomputable def E_laws_eqGeo : Env := envOf TT [] []
theorem fr_laws_eqGeo_0 : FrOk Try.prog ⟨E_laws_eqGeo, 15, fun _ => none⟩ B_laws_eqGeo := frOk_base mixed tt_ok trivial
noncomputable def D_laws_eqGeo_0 : Nat → Option Seg := fun _ => none
abbrev I_laws_eqGeo : List Par := [.rd tG, .rd tG]
abbrev U_laws_eqGeo : List OT := [⟨false, tB, .fz⟩]
noncomputable def raw_laws_eqGeo (a0 : dG) (a1 : dG) : Option (ResD U_laws_eqGeo × MutD I_laws_eqGeo) :=
  bif (a0.1 != a1.1) then
    some ((false, ()), ())
  else
    bif (a0.2 != a1.2) then
      some ((false, ()), ())
    else
      some ((true, ()), ())
theorem e_laws_eqGeo (x : InD I_laws_eqGeo) : execF ⟨E_laws_eqGeo, 15, D_laws_eqGeo_0⟩ Try.f27.results.toList B_laws_eqGeo I_laws_eqGeo U_laws_eqGeo x = raw_laws_eqGeo x.1 x.2.1 := by kernel_rfl
theorem ok0_laws_eqGeo : ConOk Try.prog 27 ⟨I_laws_eqGeo, U_laws_eqGeo, fun x => raw_laws_eqGeo x.1 x.2.1⟩ := conOk_exec (fr_laws_eqGeo_0) Try.func27 (by kernel_rfl) (by kernel_rfl) Try.ntmps27.symm (by decide) (fun x r h => (e_laws_eqGeo x).trans h)
noncomputable def n_laws_eqGeo (a0 : dG) (a1 : dG) : Bool :=
  bif (a0.1 != a1.1) then
    false
  else
    bif (a0.2 != a1.2) then
      false
    else
      true
noncomputable def con_laws_eqGeo : Con := ⟨I_laws_eqGeo, U_laws_eqGeo, fun x => (fun n => some ((n, ()), ())) (n_laws_eqGeo x.1 x.2.1)⟩
theorem nn_laws_eqGeo (a0 : dG) (a1 : dG) : raw_laws_eqGeo a0 a1 = (fun n => some ((n, ()), ())) (n_laws_eqGeo a0 a1) := bif_ty (p := fun (n : Bool) => ((n, ()), ())) (bif_some (p := fun (n : Bool) => ((n, ()), ())) rfl (bif_some (p := fun (n : Bool) => ((n, ()), ())) rfl rfl))
theorem ok_laws_eqGeo : ConOk Try.prog 27 con_laws_eqGeo := (ok0_laws_eqGeo).mono (fun x r _ h => (nn_laws_eqGeo x.1 x.2.1).trans h)
theorem eqd_laws_eqGeo (a b : dG) : n_laws_eqGeo a b = decide (a = b) := by
  unfold n_laws_eqGeo
  simp only [eq_step1, eq_step2, eq_step3, eq_step4, eq_step5, Prod.ext_iff, Bool.decide_and, Bool.and_true]
theorem eqr_laws_eqGeo (a : dG) : n_laws_eqGeo a a = true := by rw [eqd_laws_eqGeo]; exact decide_eq_true rfl
end

/-! laws_eqIntS -/
section
noncomputable def B_laws_eqIntS : Code := (Try.f95.body).getD .skip
noncomputable def E_laws_eqIntS : Env := envOf TT [] []
theorem fr_laws_eqIntS_0 : FrOk Try.prog ⟨E_laws_eqIntS, 26, fun _ => none⟩ B_laws_eqIntS := frOk_base mixed tt_ok trivial
noncomputable def D_laws_eqIntS_0 : Nat → Option Seg := fun _ => none
def L_laws_eqIntS_29 : Shape := ⟨[(0, false, [.br tI]), (1, false, [.br tI]), (5, false, [.int .i64])], [], []⟩
def S_laws_eqIntS_29 : Shape := ⟨[(0, false, [.br tI]), (1, false, [.br tI]), (5, false, [.ci .i64 0])], [], []⟩
def O_laws_eqIntS_29 : Shape := ⟨[], [], []⟩
def Z_laws_eqIntS_29 : Shape := ⟨[(4, false, [.bool])], [], []⟩
noncomputable def st_laws_eqIntS_29 (v0 : List Int) (v1 : List Int) (v2 : Int) : Option ((L_laws_eqIntS_29).X ⊕ ((O_laws_eqIntS_29).X ⊕ (Z_laws_eqIntS_29).X)) :=
  bif (ltb v2 (v0.length : Int)) then
    bif (inb v2 v0.length) then
      bif (inb v2 v1.length) then
        bif ((nth v0 v2 0) != (nth v1 v2 0)) then
          some (.inr (.inr (((false, ()), ()), (), ())))
        else
          some (.inl (((v0, ()), (v1, ()), ((IntKind.i64.wrap (v2 + 1)), ()), ()), (), ()))
      else none
    else none
  else
    some (.inr (.inl ((), (), ())))
noncomputable def stx_laws_eqIntS_29 (x : (L_laws_eqIntS_29).X) := st_laws_eqIntS_29 x.1.1.1 x.1.2.1.1 x.1.2.2.1.1
def em_laws_eqIntS_29 (x : (S_laws_eqIntS_29).X) : (L_laws_eqIntS_29).X := (((x.1.1.1, ()), (x.1.2.1.1, ()), (0, ()), ()), (), ())
noncomputable def c_laws_eqIntS_29 : Code := (subN B_laws_eqIntS 64 116).getD .skip
theorem a_laws_eqIntS_29 : subN B_laws_eqIntS 64 29 = some (.block 0 (.loop c_laws_eqIntS_29)) := by kernel_rfl
theorem r_laws_eqIntS_29 (x : (L_laws_eqIntS_29).X) : roundT ⟨E_laws_eqIntS, 26, D_laws_eqIntS_0⟩ 0 c_laws_eqIntS_29 116 L_laws_eqIntS_29 O_laws_eqIntS_29 Z_laws_eqIntS_29 x = stx_laws_eqIntS_29 x := by kernel_rfl
noncomputable def fu_laws_eqIntS_29 (x : (S_laws_eqIntS_29).X) : Nat := (fun (u0 : List Int) (u1 : List Int) => 18446744073709551616) x.1.1.1 x.1.2.1.1
noncomputable def F_laws_eqIntS_29 (x : (S_laws_eqIntS_29).X) : Option ((O_laws_eqIntS_29).X ⊕ (Z_laws_eqIntS_29).X) := loopN stx_laws_eqIntS_29 (fu_laws_eqIntS_29 x) (em_laws_eqIntS_29 x)
noncomputable def sg_laws_eqIntS_29 : Seg := ⟨S_laws_eqIntS_29, O_laws_eqIntS_29, Z_laws_eqIntS_29, F_laws_eqIntS_29⟩
noncomputable def D_laws_eqIntS_1 : Nat → Option Seg := fun q => bif Nat.beq q 29 then some sg_laws_eqIntS_29 else D_laws_eqIntS_0 q
theorem fr_laws_eqIntS_1 : FrOk Try.prog ⟨E_laws_eqIntS, 26, D_laws_eqIntS_1⟩ B_laws_eqIntS := (fr_laws_eqIntS_0).loop (sg := sg_laws_eqIntS_29) L_laws_eqIntS_29 em_laws_eqIntS_29 (by decide) a_laws_eqIntS_29 stx_laws_eqIntS_29 fu_laws_eqIntS_29 (by decide) (fun _ => rfl) (fun x r _ h => h) r_laws_eqIntS_29
abbrev I_laws_eqIntS : List Par := [.rd tL, .rd tL]
abbrev U_laws_eqIntS : List OT := [⟨false, tB, .fz⟩]
noncomputable def raw_laws_eqIntS (a0 : List Int) (a1 : List Int) : Option (ResD U_laws_eqIntS × MutD I_laws_eqIntS) :=
  bif ((a0.length : Int) != (a1.length : Int)) then
    some ((false, ()), ())
  else
    segM (F_laws_eqIntS_29 (((a0, ()), (a1, ()), ((), ()), ()), (), ())) (fun y0 =>
      some ((true, ()), ())) (fun y0 =>
      some ((y0.1.1.1, ()), ()))
theorem e_laws_eqIntS (x : InD I_laws_eqIntS) : execF ⟨E_laws_eqIntS, 26, D_laws_eqIntS_1⟩ Try.f95.results.toList B_laws_eqIntS I_laws_eqIntS U_laws_eqIntS x = raw_laws_eqIntS x.1 x.2.1 := by kernel_rfl
theorem ok0_laws_eqIntS : ConOk Try.prog 95 ⟨I_laws_eqIntS, U_laws_eqIntS, fun x => raw_laws_eqIntS x.1 x.2.1⟩ := conOk_exec (fr_laws_eqIntS_1) Try.func95 (by kernel_rfl) (by kernel_rfl) Try.ntmps95.symm (by decide) (fun x r h => (e_laws_eqIntS x).trans h)
noncomputable def n_laws_eqIntS (a0 a1 : List Int) : Bool := decide (a0 = a1)
theorem nn_laws_eqIntS (a0 a1 : List Int) (hk : InOk I_laws_eqIntS (a0, a1, ())) : raw_laws_eqIntS a0 a1 = (fun n => some ((n, ()), ())) (n_laws_eqIntS a0 a1) := by
  have hb : a0.length * 8 ≤ 2 ^ 47 := hk.1.1
  have hl : a0.length = a1.length → F_laws_eqIntS_29 (((a0, ()), (a1, ()), ((), ()), ()), (), ()) = some (bif (List.range a0.length).any (fun i => a0.getD i 0 != a1.getD i 0) then .inr (((false, ()), ()), (), ()) else .inl ((), (), ())) := fun hL =>
    loopN_all (step := stx_laws_eqIntS_29) (fun i => (((a0, ()), (a1, ()), ((i : Int), ()), ()), (), ())) a0.length (fun i => a0.getD i 0 != a1.getD i 0) _ _ (fun i hi => by
      simp only [stx_laws_eqIntS_29, st_laws_eqIntS_29, inb_nat hi, inb_nat (hL ▸ hi), nth_nat, ltb_t (show (i : Int) < a0.length by omega), cond_true, wr (show -9223372036854775808 ≤ (i : Int) + 1 by omega) (by omega), Int.natCast_add, Int.natCast_one]
      cases (a0.getD i 0 != a1.getD i 0) <;> rfl) (by simp only [stx_laws_eqIntS_29, st_laws_eqIntS_29, ltb_f (Int.le_refl _), cond_false]) _ (by show _ < 18446744073709551616; omega)
  unfold raw_laws_eqIntS n_laws_eqIntS
  by_cases h : a0.length = a1.length
  · rw [show ((a0.length : Int) != (a1.length : Int)) = false by simp [h], bif_f, hl h]
    by_cases e : a0 = a1
    · subst e
      have : (List.range a0.length).any (fun i => a0.getD i 0 != a0.getD i 0) = false := by simp
      rw [this, decide_eq_true rfl]
      rfl
    · have : (List.range a0.length).any (fun i => a0.getD i 0 != a1.getD i 0) = true := by
        rcases Bool.eq_false_or_eq_true ((List.range a0.length).any (fun i => a0.getD i 0 != a1.getD i 0)) with h2 | h2
        · exact h2
        · refine absurd (List.ext_getElem h fun i h3 h4 => ?_) e
          rw [List.any_eq_false] at h2
          have := h2 i (List.mem_range.2 h3)
          simpa [h3, h4] using this
      rw [this, decide_eq_false e]
      rfl
  · rw [show ((a0.length : Int) != (a1.length : Int)) = true from bne_iff_ne.2 (by omega), bif_t, decide_eq_false (fun e => h (congrArg _ e))]
theorem eqd_laws_eqIntS (a b : List Int) : n_laws_eqIntS a b = decide (a = b) := rfl
noncomputable def con_laws_eqIntS : Con := ⟨I_laws_eqIntS, U_laws_eqIntS, fun x => (fun n => some ((n, ()), ())) (n_laws_eqIntS x.1 x.2.1)⟩
theorem ok_laws_eqIntS : ConOk Try.prog 95 con_laws_eqIntS := (ok0_laws_eqIntS).mono (fun x r hk h => (nn_laws_eqIntS x.1 x.2.1 hk).trans h)
theorem eqr_laws_eqIntS (a : List Int) : n_laws_eqIntS a a = true := by rw [eqd_laws_eqIntS]; exact decide_eq_true rfl
end
end Go.Tf
