/- Functions of the program, and what they come to. -/
import Derived.Test.YtfpjmijaiekbgaaExactAdoptF4
namespace Go.Tf
open Go.Proofs
set_option synthInstance.maxHeartbeats 400000
set_option synthInstance.maxSize 10000
set_option linter.unusedVariables false
set_option linter.unusedSimpArgs false
set_option maxRecDepth 100000
/-! spec_l7Mark -/
section
noncomputable def B_spec_l7Mark : Code := (Try.f46.body).getD .skip
noncomputable def E_spec_l7Mark : Env := envOf TT [(81, con_spec_l7Sync), (82, con_spec_l7Put), (83, con_spec_PutSuper)] []
theorem fr_spec_l7Mark_0 : FrOk Try.prog ⟨E_spec_l7Mark, 63, fun _ => none⟩ B_spec_l7Mark := frOk_base mixed tt_ok ⟨ok_spec_l7Sync, ok_spec_l7Put, ok_spec_PutSuper, trivial⟩
noncomputable def D_spec_l7Mark_0 : Nat → Option Seg := fun _ => none
def L_spec_l7Mark_13 : Shape := ⟨[(0, false, [.ptr 1000000000 0]), (2, false, [.int .i64])], [(1000000000, [.int .i64, .int .i64, .int .i64, .at 800000000, .int .i64, .int .i64, .int .i64, .int .i64, .int .i64, .at 800000001, .int .i64, .bool, .bool])], [(800000000, tM, (.pr (.ow .fz) (.pr (.ow (.pr .fz .fz)) (.pr .fz (.ow .fz))))), (800000001, tW, (.pr .fz .fz))]⟩
def S_spec_l7Mark_13 : Shape := ⟨[(0, false, [.ptr 1000000000 0]), (2, false, [.ci .i64 0])], [(1000000000, [.int .i64, .int .i64, .int .i64, .at 800000000, .int .i64, .int .i64, .int .i64, .int .i64, .int .i64, .at 800000001, .int .i64, .bool, .bool])], [(800000000, tM, (.pr (.ow .fz) (.pr (.ow (.pr .fz .fz)) (.pr .fz (.ow .fz))))), (800000001, tW, (.pr .fz .fz))]⟩
def O_spec_l7Mark_13 : Shape := ⟨[(0, false, [.ptr 1000000000 0])], [(1000000000, [.int .i64, .int .i64, .int .i64, .at 800000000, .int .i64, .int .i64, .int .i64, .int .i64, .int .i64, .at 800000001, .int .i64, .bool, .bool])], [(800000000, tM, (.pr (.ow .fz) (.pr (.ow (.pr .fz .fz)) (.pr .fz (.ow .fz))))), (800000001, tW, (.pr .fz .fz))]⟩
def Z_spec_l7Mark_13 : Shape := ⟨[], [], []⟩
abbrev mk_spec_l7Mark_13 (v0 : Int) (v1 : dA) : (L_spec_l7Mark_13).X := ((((), ()), (v0, ()), ()), ((v1.1, v1.2.1.1, v1.2.1.2, (), v1.2.2.2.1, v1.2.2.2.2.1, v1.2.2.2.2.2.1, v1.2.2.2.2.2.2.1, v1.2.2.2.2.2.2.2.1, (), v1.2.2.2.2.2.2.2.2.2.1, v1.2.2.2.2.2.2.2.2.2.2.1, v1.2.2.2.2.2.2.2.2.2.2.2, ()), ()), (v1.2.2.1, v1.2.2.2.2.2.2.2.2.1, ()))
abbrev ms_spec_l7Mark_13 (v0 : dA) : (S_spec_l7Mark_13).X := ((((), ()), ((), ()), ()), ((v0.1, v0.2.1.1, v0.2.1.2, (), v0.2.2.2.1, v0.2.2.2.2.1, v0.2.2.2.2.2.1, v0.2.2.2.2.2.2.1, v0.2.2.2.2.2.2.2.1, (), v0.2.2.2.2.2.2.2.2.2.1, v0.2.2.2.2.2.2.2.2.2.2.1, v0.2.2.2.2.2.2.2.2.2.2.2, ()), ()), (v0.2.2.1, v0.2.2.2.2.2.2.2.2.1, ()))
abbrev mo_spec_l7Mark_13 (v0 : dA) : (O_spec_l7Mark_13).X := ((((), ()), ()), ((v0.1, v0.2.1.1, v0.2.1.2, (), v0.2.2.2.1, v0.2.2.2.2.1, v0.2.2.2.2.2.1, v0.2.2.2.2.2.2.1, v0.2.2.2.2.2.2.2.1, (), v0.2.2.2.2.2.2.2.2.2.1, v0.2.2.2.2.2.2.2.2.2.2.1, v0.2.2.2.2.2.2.2.2.2.2.2, ()), ()), (v0.2.2.1, v0.2.2.2.2.2.2.2.2.1, ()))
noncomputable def st_spec_l7Mark_13 (v0 : Int) (v1 : Int) (v2 : Int) (v3 : Int) (v4 : Int) (v5 : Int) (v6 : Int) (v7 : Int) (v8 : Int) (v9 : Int) (v10 : Bool) (v11 : Bool) (v12 : List dM) (v13 : List dW) : Option ((L_spec_l7Mark_13).X ⊕ ((O_spec_l7Mark_13).X ⊕ (Z_spec_l7Mark_13).X)) :=
  bif (ltb v0 (v12.length : Int)) then
    let r3 := n_spec_PutSuper (v1, v8, v0, v2, v3, v7, v4, v5)
    bnd (o_spec_l7Put (v1, (v2, v3), v12, v4, v5, v6, v7, v8, v13, v9, v10, v11) v0 (v8.tmod 2) r3) fun r4 =>
    some (.inl ((((), ()), ((IntKind.i64.wrap (v0 + 1)), ()), ()), ((r4.2.1.1, r4.2.1.2.1.1, r4.2.1.2.1.2, (), r4.2.1.2.2.2.1, r4.2.1.2.2.2.2.1, r4.2.1.2.2.2.2.2.1, r4.2.1.2.2.2.2.2.2.1, r4.2.1.2.2.2.2.2.2.2.1, (), r4.2.1.2.2.2.2.2.2.2.2.2.1, r4.2.1.2.2.2.2.2.2.2.2.2.2.1, r4.2.1.2.2.2.2.2.2.2.2.2.2.2, ()), ()), (r4.2.1.2.2.1, r4.2.1.2.2.2.2.2.2.2.2.1, ())))
  else
    some (.inr (.inl ((((), ()), ()), ((v1, v2, v3, (), v4, v5, v6, v7, v8, (), v9, v10, v11, ()), ()), (v12, v13, ()))))
noncomputable def stx_spec_l7Mark_13 (x : (L_spec_l7Mark_13).X) := st_spec_l7Mark_13 x.1.2.1.1 x.2.1.1.1 x.2.1.1.2.1 x.2.1.1.2.2.1 x.2.1.1.2.2.2.2.1 x.2.1.1.2.2.2.2.2.1 x.2.1.1.2.2.2.2.2.2.1 x.2.1.1.2.2.2.2.2.2.2.1 x.2.1.1.2.2.2.2.2.2.2.2.1 x.2.1.1.2.2.2.2.2.2.2.2.2.2.1 x.2.1.1.2.2.2.2.2.2.2.2.2.2.2.1 x.2.1.1.2.2.2.2.2.2.2.2.2.2.2.2.1 x.2.2.1 x.2.2.2.1
def em_spec_l7Mark_13 (x : (S_spec_l7Mark_13).X) : (L_spec_l7Mark_13).X := ((((), ()), (0, ()), ()), ((x.2.1.1.1, x.2.1.1.2.1, x.2.1.1.2.2.1, (), x.2.1.1.2.2.2.2.1, x.2.1.1.2.2.2.2.2.1, x.2.1.1.2.2.2.2.2.2.1, x.2.1.1.2.2.2.2.2.2.2.1, x.2.1.1.2.2.2.2.2.2.2.2.1, (), x.2.1.1.2.2.2.2.2.2.2.2.2.2.1, x.2.1.1.2.2.2.2.2.2.2.2.2.2.2.1, x.2.1.1.2.2.2.2.2.2.2.2.2.2.2.2.1, ()), ()), (x.2.2.1, x.2.2.2.1, ()))
noncomputable def c_spec_l7Mark_13 : Code := (subN B_spec_l7Mark 64 52).getD .skip
theorem a_spec_l7Mark_13 : subN B_spec_l7Mark 64 13 = some (.block 0 (.loop c_spec_l7Mark_13)) := by kernel_rfl
theorem r_spec_l7Mark_13 (x : (L_spec_l7Mark_13).X) : roundT ⟨E_spec_l7Mark, 63, D_spec_l7Mark_0⟩ 0 c_spec_l7Mark_13 52 L_spec_l7Mark_13 O_spec_l7Mark_13 Z_spec_l7Mark_13 x = stx_spec_l7Mark_13 x := by kernel_rfl
noncomputable def fu_spec_l7Mark_13 (x : (S_spec_l7Mark_13).X) : Nat := (fun (u0 : Int) (u1 : Int) (u2 : Int) (u3 : Int) (u4 : Int) (u5 : Int) (u6 : Int) (u7 : Int) (u8 : Int) (u9 : Bool) (u10 : Bool) (u11 : List dM) (u12 : List dW) => 18446744073709551616) x.2.1.1.1 x.2.1.1.2.1 x.2.1.1.2.2.1 x.2.1.1.2.2.2.2.1 x.2.1.1.2.2.2.2.2.1 x.2.1.1.2.2.2.2.2.2.1 x.2.1.1.2.2.2.2.2.2.2.1 x.2.1.1.2.2.2.2.2.2.2.2.1 x.2.1.1.2.2.2.2.2.2.2.2.2.2.1 x.2.1.1.2.2.2.2.2.2.2.2.2.2.2.1 x.2.1.1.2.2.2.2.2.2.2.2.2.2.2.2.1 x.2.2.1 x.2.2.2.1
noncomputable def F_spec_l7Mark_13 (x : (S_spec_l7Mark_13).X) : Option ((O_spec_l7Mark_13).X ⊕ (Z_spec_l7Mark_13).X) := loopN stx_spec_l7Mark_13 (fu_spec_l7Mark_13 x) (em_spec_l7Mark_13 x)
noncomputable def sg_spec_l7Mark_13 : Seg := ⟨S_spec_l7Mark_13, O_spec_l7Mark_13, Z_spec_l7Mark_13, F_spec_l7Mark_13⟩
noncomputable def D_spec_l7Mark_1 : Nat → Option Seg := fun q => bif Nat.beq q 13 then some sg_spec_l7Mark_13 else D_spec_l7Mark_0 q
theorem fr_spec_l7Mark_1 : FrOk Try.prog ⟨E_spec_l7Mark, 63, D_spec_l7Mark_1⟩ B_spec_l7Mark := (fr_spec_l7Mark_0).loop (sg := sg_spec_l7Mark_13) L_spec_l7Mark_13 em_spec_l7Mark_13 (by decide) a_spec_l7Mark_13 stx_spec_l7Mark_13 fu_spec_l7Mark_13 (by decide) (fun _ => rfl) (fun x r _ h => h) r_spec_l7Mark_13
abbrev I_spec_l7Mark : List Par := [.pt tA (.pr .fz (.pr (.pr .fz .fz) (.pr (.ow (.pr (.ow .fz) (.pr (.ow (.pr .fz .fz)) (.pr .fz (.ow .fz))))) (.pr .fz (.pr .fz (.pr .fz (.pr .fz (.pr .fz (.pr (.ow (.pr .fz .fz)) (.pr .fz (.pr .fz .fz)))))))))))]
abbrev U_spec_l7Mark : List OT := []
noncomputable def raw_spec_l7Mark (a0 : dA) : Option (ResD U_spec_l7Mark × MutD I_spec_l7Mark) :=
  segM (F_spec_l7Mark_13 ((((), ()), ((), ()), ()), ((a0.1, a0.2.1.1, a0.2.1.2, (), a0.2.2.2.1, a0.2.2.2.2.1, a0.2.2.2.2.2.1, a0.2.2.2.2.2.2.1, (IntKind.i64.wrap (a0.2.2.2.2.2.2.2.1 + 1)), (), a0.2.2.2.2.2.2.2.2.2.1, a0.2.2.2.2.2.2.2.2.2.2.1, a0.2.2.2.2.2.2.2.2.2.2.2, ()), ()), (a0.2.2.1, a0.2.2.2.2.2.2.2.2.1, ()))) (fun y4 =>
    let r6 := n_spec_l7Sync (y4.2.1.1.1, (y4.2.1.1.2.1, y4.2.1.1.2.2.1), y4.2.2.1, y4.2.1.1.2.2.2.2.1, y4.2.1.1.2.2.2.2.2.1, y4.2.1.1.2.2.2.2.2.2.1, y4.2.1.1.2.2.2.2.2.2.2.1, y4.2.1.1.2.2.2.2.2.2.2.2.1, y4.2.2.2.1, y4.2.1.1.2.2.2.2.2.2.2.2.2.2.1, y4.2.1.1.2.2.2.2.2.2.2.2.2.2.2.1, y4.2.1.1.2.2.2.2.2.2.2.2.2.2.2.2.1)
    some ((), (r6, ()))) (fun y4 =>
    none)
theorem e_spec_l7Mark (x : InD I_spec_l7Mark) : execF ⟨E_spec_l7Mark, 63, D_spec_l7Mark_1⟩ Try.f46.results.toList B_spec_l7Mark I_spec_l7Mark U_spec_l7Mark x = raw_spec_l7Mark x.1 := by kernel_rfl
theorem ok0_spec_l7Mark : ConOk Try.prog 46 ⟨I_spec_l7Mark, U_spec_l7Mark, fun x => raw_spec_l7Mark x.1⟩ := conOk_exec (fr_spec_l7Mark_1) Try.func46 (by kernel_rfl) (by kernel_rfl) Try.ntmps46.symm (by decide) (fun x r h => (e_spec_l7Mark x).trans h)
noncomputable def n_spec_l7Mark (a0 : dA) : dA := markA a0
theorem markOne_len (a : dA) (i : Nat) : (markOne a i).2.2.1.length = a.2.2.1.length := put_len _ _ _ _
theorem nn_spec_l7Mark (a0 : dA) (hk : InOk I_spec_l7Mark (a0, ())) : raw_spec_l7Mark a0 = (fun n => some ((), (n, ()))) (n_spec_l7Mark a0) := by
  have hb : a0.2.2.1.length * 80 ≤ 2 ^ 47 := hk.1.2.2.1.1
  have h1 : F_spec_l7Mark_13 (ms_spec_l7Mark_13 (genUp a0)) = some (.inl (mo_spec_l7Mark_13 ((List.range a0.2.2.1.length).foldl markOne (genUp a0)))) :=
    loopN_rng (step := stx_spec_l7Mark_13) a0.2.2.1.length (fun i s => mk_spec_l7Mark_13 i s) markOne (fun _ s => s.2.2.1.length = a0.2.2.1.length) (fun s => .inl (mo_spec_l7Mark_13 s)) (fun i s hi hs => ⟨by
      simp only [stx_spec_l7Mark_13, mk_spec_l7Mark_13, st_spec_l7Mark_13, hs, ltb_t (show (i : Int) < a0.2.2.1.length by omega), cond_true, wr (show -9223372036854775808 ≤ (i : Int) + 1 by omega) (by omega), Int.natCast_add, Int.natCast_one, Int.toNat_natCast, pr_eta]
      rw [ot_spec_l7Put s i (s.2.2.2.2.2.2.2.1.tmod 2) (n_spec_PutSuper (s.1, s.2.2.2.2.2.2.2.1, (i : Int), s.2.1.1, s.2.1.2, s.2.2.2.2.2.2.1, s.2.2.2.1, s.2.2.2.2.1)) (inb_nat (by rw [hs]; exact hi))]
      rfl, (markOne_len s i).trans hs⟩) (fun s hs => by simp only [stx_spec_l7Mark_13, mk_spec_l7Mark_13, st_spec_l7Mark_13, hs, ltb_f (Int.le_refl _), cond_false]) (genUp a0) rfl _ (by show _ < 18446744073709551616; omega)
  unfold raw_spec_l7Mark n_spec_l7Mark markA
  exact (congrArg (fun z => segM z _ _) h1).trans rfl
noncomputable def con_spec_l7Mark : Con := ⟨I_spec_l7Mark, U_spec_l7Mark, fun x => (fun n => some ((), (n, ()))) (n_spec_l7Mark x.1)⟩
theorem ok_spec_l7Mark : ConOk Try.prog 46 con_spec_l7Mark := (ok0_spec_l7Mark).mono (fun x r hk h => (nn_spec_l7Mark x.1 hk).trans h)
end

/-! spec_l7Check -/
section
noncomputable def B_spec_l7Check : Code := (Try.f45.body).getD .skip
noncomputable def E_spec_l7Check : Env := envOf TT [(46, con_spec_l7Mark), (81, con_spec_l7Sync)] []
theorem fr_spec_l7Check_0 : FrOk Try.prog ⟨E_spec_l7Check, 17, fun _ => none⟩ B_spec_l7Check := frOk_base mixed tt_ok ⟨ok_spec_l7Mark, ok_spec_l7Sync, trivial⟩
noncomputable def D_spec_l7Check_0 : Nat → Option Seg := fun _ => none
abbrev I_spec_l7Check : List Par := [.pt tA (.pr .fz (.pr (.pr .fz .fz) (.pr (.ow (.pr (.ow .fz) (.pr (.ow (.pr .fz .fz)) (.pr .fz (.ow .fz))))) (.pr .fz (.pr .fz (.pr .fz (.pr .fz (.pr .fz (.pr (.ow (.pr .fz .fz)) (.pr .fz (.pr .fz .fz)))))))))))]
abbrev U_spec_l7Check : List OT := []
noncomputable def raw_spec_l7Check (a0 : dA) : Option (ResD U_spec_l7Check × MutD I_spec_l7Check) :=
  let r1 := n_spec_l7Sync a0
  bif r1.2.2.2.2.2.2.2.2.2.2.1 then
    some ((), (r1, ()))
  else
    let r2 := n_spec_l7Mark (r1.1, r1.2.1, r1.2.2.1, r1.2.2.2.1, r1.2.2.2.2.1, r1.2.2.2.2.2.1, r1.2.2.2.2.2.1, r1.2.2.2.2.2.2.2)
    some ((), (r2, ()))
theorem e_spec_l7Check (x : InD I_spec_l7Check) : execF ⟨E_spec_l7Check, 17, D_spec_l7Check_0⟩ Try.f45.results.toList B_spec_l7Check I_spec_l7Check U_spec_l7Check x = raw_spec_l7Check x.1 := by kernel_rfl
theorem ok0_spec_l7Check : ConOk Try.prog 45 ⟨I_spec_l7Check, U_spec_l7Check, fun x => raw_spec_l7Check x.1⟩ := conOk_exec (fr_spec_l7Check_0) Try.func45 (by kernel_rfl) (by kernel_rfl) Try.ntmps45.symm (by decide) (fun x r h => (e_spec_l7Check x).trans h)
noncomputable def n_spec_l7Check (a0 : dA) : dA :=
  let r1 := n_spec_l7Sync a0
  bif r1.2.2.2.2.2.2.2.2.2.2.1 then
    r1
  else
    let r2 := n_spec_l7Mark (r1.1, r1.2.1, r1.2.2.1, r1.2.2.2.1, r1.2.2.2.2.1, r1.2.2.2.2.2.1, r1.2.2.2.2.2.1, r1.2.2.2.2.2.2.2)
    r2
noncomputable def con_spec_l7Check : Con := ⟨I_spec_l7Check, U_spec_l7Check, fun x => (fun n => some ((), (n, ()))) (n_spec_l7Check x.1)⟩
theorem nn_spec_l7Check (a0 : dA) : raw_spec_l7Check a0 = (fun n => some ((), (n, ()))) (n_spec_l7Check a0) := bif_ty (p := fun (n : dA) => ((), (n, ()))) (bif_some (p := fun (n : dA) => ((), (n, ()))) rfl rfl)
theorem ok_spec_l7Check : ConOk Try.prog 45 con_spec_l7Check := (ok0_spec_l7Check).mono (fun x r _ h => (nn_spec_l7Check x.1).trans h)
theorem spec_check_eq (a : dA) : n_spec_l7Check a = checkA a := by
  unfold n_spec_l7Check checkA n_spec_l7Sync n_spec_l7Mark
  show (bif downA (syncA a) then syncA a else markA (tailUp (syncA a))) = _
  rfl
end

/-! spec_l12Adopt -/
section
noncomputable def B_spec_l12Adopt : Code := (Try.f18.body).getD .skip
noncomputable def E_spec_l12Adopt : Env := envOf TT [(45, con_spec_l7Check), (46, con_spec_l7Mark)] []
theorem fr_spec_l12Adopt_0 : FrOk Try.prog ⟨E_spec_l12Adopt, 21, fun _ => none⟩ B_spec_l12Adopt := frOk_base mixed tt_ok ⟨ok_spec_l7Check, ok_spec_l7Mark, trivial⟩
noncomputable def D_spec_l12Adopt_0 : Nat → Option Seg := fun _ => none
abbrev I_spec_l12Adopt : List Par := [.pt tA (.pr .fz (.pr (.pr .fz .fz) (.pr (.ow (.pr (.ow .fz) (.pr (.ow (.pr .fz .fz)) (.pr .fz (.ow .fz))))) (.pr .fz (.pr .fz (.pr .fz (.pr .fz (.pr .fz (.pr (.ow (.pr .fz .fz)) (.pr .fz (.pr .fz .fz)))))))))))]
abbrev U_spec_l12Adopt : List OT := [⟨false, tI, .fz⟩]
noncomputable def raw_spec_l12Adopt (a0 : dA) : Option (ResD U_spec_l12Adopt × MutD I_spec_l12Adopt) :=
  let r1 := n_spec_l7Check a0
  bif r1.2.2.2.2.2.2.2.2.2.2.1 then
    some ((6, ()), (r1, ()))
  else
    let r2 := n_spec_l7Mark (r1.1, r1.2.1, r1.2.2.1, (-1), 0, r1.2.2.2.2.2)
    bif r2.2.2.2.2.2.2.2.2.2.2.1 then
      some ((6, ()), (r2, ()))
    else
      some ((0, ()), (r2, ()))
theorem e_spec_l12Adopt (x : InD I_spec_l12Adopt) : execF ⟨E_spec_l12Adopt, 21, D_spec_l12Adopt_0⟩ Try.f18.results.toList B_spec_l12Adopt I_spec_l12Adopt U_spec_l12Adopt x = raw_spec_l12Adopt x.1 := by kernel_rfl
theorem ok0_spec_l12Adopt : ConOk Try.prog 18 ⟨I_spec_l12Adopt, U_spec_l12Adopt, fun x => raw_spec_l12Adopt x.1⟩ := conOk_exec (fr_spec_l12Adopt_0) Try.func18 (by kernel_rfl) (by kernel_rfl) Try.ntmps18.symm (by decide) (fun x r h => (e_spec_l12Adopt x).trans h)
noncomputable def n_spec_l12Adopt (a0 : dA) : Int × dA :=
  let r1 := n_spec_l7Check a0
  bif r1.2.2.2.2.2.2.2.2.2.2.1 then
    (6, r1)
  else
    let r2 := n_spec_l7Mark (r1.1, r1.2.1, r1.2.2.1, (-1), 0, r1.2.2.2.2.2)
    bif r2.2.2.2.2.2.2.2.2.2.2.1 then
      (6, r2)
    else
      (0, r2)
noncomputable def con_spec_l12Adopt : Con := ⟨I_spec_l12Adopt, U_spec_l12Adopt, fun x => (fun n => some ((n.1, ()), (n.2, ()))) (n_spec_l12Adopt x.1)⟩
theorem nn_spec_l12Adopt (a0 : dA) : raw_spec_l12Adopt a0 = (fun n => some ((n.1, ()), (n.2, ()))) (n_spec_l12Adopt a0) := bif_ty (p := fun (n : Int × dA) => ((n.1, ()), (n.2, ()))) (bif_some (p := fun (n : Int × dA) => ((n.1, ()), (n.2, ()))) rfl (bif_some (p := fun (n : Int × dA) => ((n.1, ()), (n.2, ()))) rfl rfl))
theorem ok_spec_l12Adopt : ConOk Try.prog 18 con_spec_l12Adopt := (ok0_spec_l12Adopt).mono (fun x r _ h => (nn_spec_l12Adopt x.1).trans h)
end

/-! spec_Adopt -/
section
noncomputable def B_spec_Adopt : Code := (Try.f6.body).getD .skip
noncomputable def E_spec_Adopt : Env := envOf TT [(16, con_spec_l6Copy), (17, con_spec_l8May), (18, con_spec_l12Adopt)] []
theorem fr_spec_Adopt_0 : FrOk Try.prog ⟨E_spec_Adopt, 49, fun _ => none⟩ B_spec_Adopt := frOk_base mixed tt_ok ⟨ok_spec_l6Copy, ok_spec_l8May, ok_spec_l12Adopt, trivial⟩
noncomputable def D_spec_Adopt_0 : Nat → Option Seg := fun _ => none
abbrev I_spec_Adopt : List Par := [.rd tA]
abbrev U_spec_Adopt : List OT := [⟨false, tA, (.pr .fz (.pr (.pr .fz .fz) (.pr (.ow (.pr (.ow .fz) (.pr (.ow (.pr .fz .fz)) (.pr .fz (.ow .fz))))) (.pr .fz (.pr .fz (.pr .fz (.pr .fz (.pr .fz (.pr (.ow (.pr .fz .fz)) (.pr .fz (.pr .fz .fz)))))))))))⟩, ⟨false, tI, .fz⟩]
noncomputable def raw_spec_Adopt (a0 : dA) : Option (ResD U_spec_Adopt × MutD I_spec_Adopt) :=
  let r1 := n_spec_l6Copy a0
  let r2 := n_spec_l8May a0
  bif (r2 != 0) then
    some ((r1, r2, ()), ())
  else
    bif (!(a0.2.2.2.1 == (-1))) then
      bif (inb a0.2.2.2.1 a0.2.2.1.length) then
        bif (!((((nth a0.2.2.1 a0.2.2.2.1 ([], [], false, [])).2).2).1)) then
          bif (ltb a0.2.2.2.2.1 a0.2.1.2) then
            some ((r1, 2, ()), ())
          else
            bif a0.2.2.2.2.2.2.2.2.2.2.2 then
              some ((r1, 5, ()), ())
            else
              bif (leb 59990 a0.2.2.2.2.2.2.2.1) then
                some ((r1, 7, ()), ())
              else
                let r3 := n_spec_l12Adopt r1
                some ((r3.2, r3.1, ()), ())
        else
          some ((r1, 2, ()), ())
      else none
    else
      some ((r1, 2, ()), ())
theorem e_spec_Adopt (x : InD I_spec_Adopt) : execF ⟨E_spec_Adopt, 49, D_spec_Adopt_0⟩ Try.f6.results.toList B_spec_Adopt I_spec_Adopt U_spec_Adopt x = raw_spec_Adopt x.1 := by kernel_rfl
theorem ok0_spec_Adopt : ConOk Try.prog 6 ⟨I_spec_Adopt, U_spec_Adopt, fun x => raw_spec_Adopt x.1⟩ := conOk_exec (fr_spec_Adopt_0) Try.func6 (by kernel_rfl) (by kernel_rfl) Try.ntmps6.symm (by decide) (fun x r h => (e_spec_Adopt x).trans h)
noncomputable def n_spec_Adopt (a0 : dA) : dA × Int := adoptA a0
theorem nn_spec_Adopt (a0 : dA) (hk : InOk I_spec_Adopt (a0, ())) : raw_spec_Adopt a0 = (fun n => some ((n.1, n.2, ()), ())) (n_spec_Adopt a0) := by
  unfold raw_spec_Adopt n_spec_Adopt adoptA
  simp only [n_spec_l6Copy, n_spec_l8May, n_spec_ArrOk]
  have hone : n_spec_l12Adopt a0 = ((adoptOne a0).2, (adoptOne a0).1) := by
    unfold n_spec_l12Adopt adoptOne n_spec_l7Mark
    simp only [spec_check_eq]
    show (bif downA (checkA a0) then (6, checkA a0) else bif downA (markA (adoptEnd (checkA a0))) then (6, markA (adoptEnd (checkA a0))) else (0, markA (adoptEnd (checkA a0)))) = _
    cases downA (checkA a0)
    · cases downA (markA (adoptEnd (checkA a0))) <;> rfl
    · rfl
  rw [hone]
  cases ha : arrOk a0
  · rfl
  cases hd : downA a0
  · rw [show a0.2.2.2.2.2.2.2.2.2.2.1 = false from hd]
    cases hl : (a0.2.2.2.1 == -1)
    · rw [lost_in ha (beq_eq_false_iff_ne.1 hl)]
      cases (nth a0.2.2.1 a0.2.2.2.1 noMem).2.2.1 <;> cases ltb a0.2.2.2.2.1 a0.2.1.2 <;> cases a0.2.2.2.2.2.2.2.2.2.2.2 <;> cases leb 59990 a0.2.2.2.2.2.2.2.1 <;> rfl
    · rfl
  · rw [show a0.2.2.2.2.2.2.2.2.2.2.1 = true from hd]; rfl
noncomputable def con_spec_Adopt : Con := ⟨I_spec_Adopt, U_spec_Adopt, fun x => (fun n => some ((n.1, n.2, ()), ())) (n_spec_Adopt x.1)⟩
theorem ok_spec_Adopt : ConOk Try.prog 6 con_spec_Adopt := (ok0_spec_Adopt).mono (fun x r hk h => (nn_spec_Adopt x.1 hk).trans h)
end

/-! laws_toGeo -/
section
noncomputable def B_laws_toGeo : Code := (Try.f19.body).getD .skip
noncomputable def E_laws_toGeo : Env := envOf TT [] []
theorem fr_laws_toGeo_0 : FrOk Try.prog ⟨E_laws_toGeo, 11, fun _ => none⟩ B_laws_toGeo := frOk_base mixed tt_ok trivial
noncomputable def D_laws_toGeo_0 : Nat → Option Seg := fun _ => none
abbrev I_laws_toGeo : List Par := [.rd tG]
abbrev U_laws_toGeo : List OT := [⟨false, tG, (.pr .fz .fz)⟩]
noncomputable def raw_laws_toGeo (a0 : dG) : Option (ResD U_laws_toGeo × MutD I_laws_toGeo) :=
  some ((a0, ()), ())
theorem e_laws_toGeo (x : InD I_laws_toGeo) : execF ⟨E_laws_toGeo, 11, D_laws_toGeo_0⟩ Try.f19.results.toList B_laws_toGeo I_laws_toGeo U_laws_toGeo x = raw_laws_toGeo x.1 := by kernel_rfl
theorem ok0_laws_toGeo : ConOk Try.prog 19 ⟨I_laws_toGeo, U_laws_toGeo, fun x => raw_laws_toGeo x.1⟩ := conOk_exec (fr_laws_toGeo_0) Try.func19 (by kernel_rfl) (by kernel_rfl) Try.ntmps19.symm (by decide) (fun x r h => (e_laws_toGeo x).trans h)
noncomputable def n_laws_toGeo (a0 : dG) : dG :=
  a0
noncomputable def con_laws_toGeo : Con := ⟨I_laws_toGeo, U_laws_toGeo, fun x => (fun n => some ((n, ()), ())) (n_laws_toGeo x.1)⟩
theorem nn_laws_toGeo (a0 : dG) : raw_laws_toGeo a0 = (fun n => some ((n, ()), ())) (n_laws_toGeo a0) := bif_ty (p := fun (n : dG) => ((n, ()), ())) rfl
theorem ok_laws_toGeo : ConOk Try.prog 19 con_laws_toGeo := (ok0_laws_toGeo).mono (fun x r _ h => (nn_laws_toGeo x.1).trans h)
theorem id_laws_toGeo (a : dG) : n_laws_toGeo a = a := by kernel_rfl
end

/-! laws_toIntS -/
section
noncomputable def B_laws_toIntS : Code := (Try.f86.body).getD .skip
noncomputable def E_laws_toIntS : Env := envOf TT [] []
theorem fr_laws_toIntS_0 : FrOk Try.prog ⟨E_laws_toIntS, 22, fun _ => none⟩ B_laws_toIntS := frOk_base mixed tt_ok trivial
noncomputable def D_laws_toIntS_0 : Nat → Option Seg := fun _ => none
def L_laws_toIntS_29 : Shape := ⟨[(0, false, [.br tI]), (3, false, [.at 800000000]), (4, false, [.int .i64])], [], [(800000000, tI, .fz)]⟩
def S_laws_toIntS_29 : Shape := ⟨[(0, false, [.br tI]), (3, false, [.at 800000000]), (4, false, [.ci .i64 0])], [], [(800000000, tI, .fz)]⟩
def O_laws_toIntS_29 : Shape := ⟨[(3, false, [.at 800000000])], [], [(800000000, tI, .fz)]⟩
def Z_laws_toIntS_29 : Shape := ⟨[], [], []⟩
noncomputable def st_laws_toIntS_29 (v0 : List Int) (v1 : Int) (v2 : List Int) : Option ((L_laws_toIntS_29).X ⊕ ((O_laws_toIntS_29).X ⊕ (Z_laws_toIntS_29).X)) :=
  bif (ltb v1 (v0.length : Int)) then
    bif (inb v1 v0.length) then
      bif (inb v1 v2.length) then
        some (.inl (((v0, ()), ((), ()), ((IntKind.i64.wrap (v1 + 1)), ()), ()), (), ((v2.set (v1).toNat (nth v0 v1 0)), ())))
      else none
    else none
  else
    some (.inr (.inl ((((), ()), ()), (), (v2, ()))))
noncomputable def stx_laws_toIntS_29 (x : (L_laws_toIntS_29).X) := st_laws_toIntS_29 x.1.1.1 x.1.2.2.1.1 x.2.2.1
def em_laws_toIntS_29 (x : (S_laws_toIntS_29).X) : (L_laws_toIntS_29).X := (((x.1.1.1, ()), ((), ()), (0, ()), ()), (), (x.2.2.1, ()))
noncomputable def c_laws_toIntS_29 : Code := (subN B_laws_toIntS 64 116).getD .skip
theorem a_laws_toIntS_29 : subN B_laws_toIntS 64 29 = some (.block 0 (.loop c_laws_toIntS_29)) := by kernel_rfl
theorem r_laws_toIntS_29 (x : (L_laws_toIntS_29).X) : roundT ⟨E_laws_toIntS, 22, D_laws_toIntS_0⟩ 0 c_laws_toIntS_29 116 L_laws_toIntS_29 O_laws_toIntS_29 Z_laws_toIntS_29 x = stx_laws_toIntS_29 x := by kernel_rfl
noncomputable def fu_laws_toIntS_29 (x : (S_laws_toIntS_29).X) : Nat := (fun (u0 : List Int) (u1 : List Int) => 18446744073709551616) x.1.1.1 x.2.2.1
noncomputable def F_laws_toIntS_29 (x : (S_laws_toIntS_29).X) : Option ((O_laws_toIntS_29).X ⊕ (Z_laws_toIntS_29).X) := loopN stx_laws_toIntS_29 (fu_laws_toIntS_29 x) (em_laws_toIntS_29 x)
noncomputable def sg_laws_toIntS_29 : Seg := ⟨S_laws_toIntS_29, O_laws_toIntS_29, Z_laws_toIntS_29, F_laws_toIntS_29⟩
noncomputable def D_laws_toIntS_1 : Nat → Option Seg := fun q => bif Nat.beq q 29 then some sg_laws_toIntS_29 else D_laws_toIntS_0 q
theorem fr_laws_toIntS_1 : FrOk Try.prog ⟨E_laws_toIntS, 22, D_laws_toIntS_1⟩ B_laws_toIntS := (fr_laws_toIntS_0).loop (sg := sg_laws_toIntS_29) L_laws_toIntS_29 em_laws_toIntS_29 (by decide) a_laws_toIntS_29 stx_laws_toIntS_29 fu_laws_toIntS_29 (by decide) (fun _ => rfl) (fun x r _ h => h) r_laws_toIntS_29
abbrev I_laws_toIntS : List Par := [.rd tL]
abbrev U_laws_toIntS : List OT := [⟨false, tL, (.ow .fz)⟩]
noncomputable def raw_laws_toIntS (a0 : List Int) : Option (ResD U_laws_toIntS × MutD I_laws_toIntS) :=
  bif (mkok (a0.length : Int) 8) then
    segM (F_laws_toIntS_29 (((a0, ()), ((), ()), ((), ()), ()), (), ((List.replicate ((a0.length : Int)).toNat (0 : Int)), ()))) (fun y0 =>
      some ((y0.2.2.1, ()), ())) (fun y0 =>
      none)
  else none
theorem e_laws_toIntS (x : InD I_laws_toIntS) : execF ⟨E_laws_toIntS, 22, D_laws_toIntS_1⟩ Try.f86.results.toList B_laws_toIntS I_laws_toIntS U_laws_toIntS x = raw_laws_toIntS x.1 := by kernel_rfl
theorem ok0_laws_toIntS : ConOk Try.prog 86 ⟨I_laws_toIntS, U_laws_toIntS, fun x => raw_laws_toIntS x.1⟩ := conOk_exec (fr_laws_toIntS_1) Try.func86 (by kernel_rfl) (by kernel_rfl) Try.ntmps86.symm (by decide) (fun x r h => (e_laws_toIntS x).trans h)
noncomputable def n_laws_toIntS (a0 : List Int) : List Int := a0
theorem nn_laws_toIntS (a0 : List Int) (hk : InOk I_laws_toIntS (a0, ())) : raw_laws_toIntS a0 = (fun n => some ((n, ()), ())) (n_laws_toIntS a0) := by
  have hb : a0.length * 8 ≤ 2 ^ 47 := hk.1.1
  have hs : ∀ i, i < a0.length → (a0.take i ++ List.replicate (a0.length - i) (0 : Int)).set i (a0.getD i 0) = a0.take (i + 1) ++ List.replicate (a0.length - (i + 1)) 0 := fun i hi => by
    have hl : (a0.take i).length = i := by rw [List.length_take]; omega
    rw [List.set_append_right _ _ (by rw [hl]; exact Nat.le_refl _), hl, Nat.sub_self, List.take_add_one, List.append_assoc, show a0.length - i = (a0.length - (i + 1)) + 1 by omega, List.replicate_succ]
    simp [hi]
  have hl : F_laws_toIntS_29 (((a0, ()), ((), ()), ((), ()), ()), (), ((a0.take 0 ++ List.replicate (a0.length - 0) 0), ())) = some (.inl ((((), ()), ()), (), (a0.take a0.length ++ List.replicate (a0.length - a0.length) 0, ()))) :=
    loopN_up (step := stx_laws_toIntS_29) (fun i => (((a0, ()), ((), ()), ((i : Int), ()), ()), (), (a0.take i ++ List.replicate (a0.length - i) 0, ()))) a0.length _ (fun i hi => by
      have hL : (a0.take i ++ List.replicate (a0.length - i) (0 : Int)).length = a0.length := by rw [List.length_append, List.length_take, List.length_replicate]; omega
      simp only [stx_laws_toIntS_29, st_laws_toIntS_29, hL, inb_nat hi, nth_nat, Int.toNat_natCast, ltb_t (show (i : Int) < a0.length by omega), cond_true, wr (show -9223372036854775808 ≤ (i : Int) + 1 by omega) (by omega), Int.natCast_add, Int.natCast_one, hs i hi]) (by
      simp only [stx_laws_toIntS_29, st_laws_toIntS_29, ltb_f (Int.le_refl _), cond_false]) _ (by show _ < 18446744073709551616; omega)
  unfold raw_laws_toIntS n_laws_toIntS
  rw [List.take_zero, List.nil_append, Nat.sub_zero] at hl
  rw [show mkok (a0.length : Int) 8 = true by rw [mkok_iff]; omega, bif_t, Int.toNat_natCast, hl]
  simp [segM]
noncomputable def con_laws_toIntS : Con := ⟨I_laws_toIntS, U_laws_toIntS, fun x => (fun n => some ((n, ()), ())) (n_laws_toIntS x.1)⟩
theorem ok_laws_toIntS : ConOk Try.prog 86 con_laws_toIntS := (ok0_laws_toIntS).mono (fun x r hk h => (nn_laws_toIntS x.1 hk).trans h)
theorem id_laws_toIntS (a : List Int) : n_laws_toIntS a = a := by kernel_rfl
end
end Go.Tf
