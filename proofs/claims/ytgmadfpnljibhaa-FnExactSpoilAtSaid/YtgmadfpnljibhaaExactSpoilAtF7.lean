/- Functions of the program, and what they come to. -/
import Derived.Test.YtgmadfpnljibhaaExactSpoilAtF6
namespace Go.Tf
open Go.Proofs
set_option synthInstance.maxHeartbeats 400000
set_option synthInstance.maxSize 10000
set_option linter.unusedVariables false
set_option linter.unusedSimpArgs false
set_option maxRecDepth 100000
/-! impl_wordsOk -/
section
noncomputable def B_impl_wordsOk : Code := (Try.f129.body).getD .skip
noncomputable def E_impl_wordsOk : Env := envOf TT [(160, con_impl_isWord)] []
theorem fr_impl_wordsOk_0 : FrOk Try.prog ⟨E_impl_wordsOk, 15, fun _ => none⟩ B_impl_wordsOk := frOk_base mixed tt_ok ⟨ok_impl_isWord, trivial⟩
noncomputable def D_impl_wordsOk_0 : Nat → Option Seg := fun _ => none
def L_impl_wordsOk_13 : Shape := ⟨[(5, false, [.br tI]), (6, false, [.int .i64]), (7, false, [.int .i64])], [], []⟩
def S_impl_wordsOk_13 : Shape := ⟨[(5, false, [.br tI]), (6, false, [.int .i64]), (7, false, [.ci .i64 0])], [], []⟩
def O_impl_wordsOk_13 : Shape := ⟨[], [], []⟩
def Z_impl_wordsOk_13 : Shape := ⟨[(2, false, [.bool])], [], []⟩
noncomputable def st_impl_wordsOk_13 (v0 : List Int) (v1 v2 : Int) : Option ((L_impl_wordsOk_13).X ⊕ ((O_impl_wordsOk_13).X ⊕ (Z_impl_wordsOk_13).X)) :=
  bif (ltb v2 v1) then
    bif (inb v2 v0.length) then
      let r2 := n_impl_isWord (nth v0 v2 0)
      bif (!r2) then
        some (.inr (.inr (((false, ()), ()), (), ())))
      else
        some (.inl (((v0, ()), (v1, ()), ((IntKind.i64.wrap (v2 + 1)), ()), ()), (), ()))
    else none
  else
    some (.inr (.inl ((), (), ())))
noncomputable def stx_impl_wordsOk_13 (x : (L_impl_wordsOk_13).X) := st_impl_wordsOk_13 x.1.1.1 x.1.2.1.1 x.1.2.2.1.1
def em_impl_wordsOk_13 (x : (S_impl_wordsOk_13).X) : (L_impl_wordsOk_13).X := (((x.1.1.1, ()), (x.1.2.1.1, ()), (0, ()), ()), (), ())
noncomputable def c_impl_wordsOk_13 : Code := (subN B_impl_wordsOk 64 52).getD .skip
theorem a_impl_wordsOk_13 : subN B_impl_wordsOk 64 13 = some (.block 0 (.loop c_impl_wordsOk_13)) := by kernel_rfl
theorem r_impl_wordsOk_13 (x : (L_impl_wordsOk_13).X) : roundT ⟨E_impl_wordsOk, 15, D_impl_wordsOk_0⟩ 0 c_impl_wordsOk_13 52 L_impl_wordsOk_13 O_impl_wordsOk_13 Z_impl_wordsOk_13 x = stx_impl_wordsOk_13 x := by kernel_rfl
def fu_impl_wordsOk_13 (x : (S_impl_wordsOk_13).X) : Nat := 18446744073709551616
noncomputable def F_impl_wordsOk_13 (x : (S_impl_wordsOk_13).X) : Option ((O_impl_wordsOk_13).X ⊕ (Z_impl_wordsOk_13).X) := loopN stx_impl_wordsOk_13 (fu_impl_wordsOk_13 x) (em_impl_wordsOk_13 x)
noncomputable def sg_impl_wordsOk_13 : Seg := ⟨S_impl_wordsOk_13, O_impl_wordsOk_13, Z_impl_wordsOk_13, F_impl_wordsOk_13⟩
noncomputable def D_impl_wordsOk_1 : Nat → Option Seg := fun q => bif Nat.beq q 13 then some sg_impl_wordsOk_13 else D_impl_wordsOk_0 q
theorem fr_impl_wordsOk_1 : FrOk Try.prog ⟨E_impl_wordsOk, 15, D_impl_wordsOk_1⟩ B_impl_wordsOk := (fr_impl_wordsOk_0).loop (sg := sg_impl_wordsOk_13) L_impl_wordsOk_13 em_impl_wordsOk_13 (by decide) a_impl_wordsOk_13 stx_impl_wordsOk_13 fu_impl_wordsOk_13 (by decide) (fun _ => rfl) (fun x r _ h => h) r_impl_wordsOk_13
abbrev I_impl_wordsOk : List Par := [.rd tL]
abbrev U_impl_wordsOk : List OT := [⟨false, tB, .fz⟩]
noncomputable def raw_impl_wordsOk (a0 : List Int) : Option (ResD U_impl_wordsOk × MutD I_impl_wordsOk) :=
  segM (F_impl_wordsOk_13 (((a0, ()), ((a0.length : Int), ()), ((), ()), ()), (), ())) (fun y2 =>
    some ((true, ()), ())) (fun y2 =>
    some ((y2.1.1.1, ()), ()))
theorem e_impl_wordsOk (x : InD I_impl_wordsOk) : execF ⟨E_impl_wordsOk, 15, D_impl_wordsOk_1⟩ Try.f129.results.toList B_impl_wordsOk I_impl_wordsOk U_impl_wordsOk x = raw_impl_wordsOk x.1 := by kernel_rfl
theorem ok0_impl_wordsOk : ConOk Try.prog 129 ⟨I_impl_wordsOk, U_impl_wordsOk, fun x => raw_impl_wordsOk x.1⟩ := conOk_exec (fr_impl_wordsOk_1) Try.func129 (by kernel_rfl) (by kernel_rfl) Try.ntmps129.symm (by decide) (fun x r h => (e_impl_wordsOk x).trans h)
noncomputable def n_impl_wordsOk (a0 : List Int) : Bool := a0.all n_impl_isWord
theorem nn_impl_wordsOk (a0 : List Int) (hk : InOk I_impl_wordsOk (a0, ())) : raw_impl_wordsOk a0 = (fun n => some ((n, ()), ())) (n_impl_wordsOk a0) := by
  have hb : a0.length * 8 ≤ 2 ^ 47 := hk.1.1
  have hl : F_impl_wordsOk_13 (((a0, ()), ((a0.length : Int), ()), ((), ()), ()), (), ()) = some (bif a0.all n_impl_isWord then .inl ((), (), ()) else .inr (((false, ()), ()), (), ())) :=
    loopN_list_all (step := stx_impl_wordsOk_13) a0 0 (fun i => (((a0, ()), ((a0.length : Int), ()), ((i : Int), ()), ()), (), ())) n_impl_isWord _ _ (fun i hi => by
      simp only [stx_impl_wordsOk_13, st_impl_wordsOk_13, inb_nat hi, nth_nat, ltb_t (show (i : Int) < a0.length by omega), cond_true, wr (show -9223372036854775808 ≤ (i : Int) + 1 by omega) (by omega), Int.natCast_add, Int.natCast_one]
      cases n_impl_isWord (a0.getD i 0) <;> rfl) (by simp only [stx_impl_wordsOk_13, st_impl_wordsOk_13, ltb_f (Int.le_refl _), cond_false]) _ (by show _ < 18446744073709551616; omega)
  unfold raw_impl_wordsOk n_impl_wordsOk
  rw [hl]
  cases a0.all n_impl_isWord <;> rfl
noncomputable def con_impl_wordsOk : Con := ⟨I_impl_wordsOk, U_impl_wordsOk, fun x => (fun n => some ((n, ()), ())) (n_impl_wordsOk x.1)⟩
theorem ok_impl_wordsOk : ConOk Try.prog 129 con_impl_wordsOk := (ok0_impl_wordsOk).mono (fun x r hk h => (nn_impl_wordsOk x.1 hk).trans h)
end

/-! impl_dataOk -/
section
noncomputable def B_impl_dataOk : Code := (Try.f82.body).getD .skip
noncomputable def E_impl_dataOk : Env := envOf TT [(129, con_impl_wordsOk)] []
theorem fr_impl_dataOk_0 : FrOk Try.prog ⟨E_impl_dataOk, 15, fun _ => none⟩ B_impl_dataOk := frOk_base mixed tt_ok ⟨ok_impl_wordsOk, trivial⟩
noncomputable def D_impl_dataOk_0 : Nat → Option Seg := fun _ => none
abbrev I_impl_dataOk : List Par := [.rd tG, .rd tL]
abbrev U_impl_dataOk : List OT := [⟨false, tB, .fz⟩]
noncomputable def raw_impl_dataOk (a0 : dG) (a1 : List Int) : Option (ResD U_impl_dataOk × MutD I_impl_dataOk) :=
  bif ((a1.length : Int) == (IntKind.i64.wrap (a0.1 - 1))) then
    let r1 := n_impl_wordsOk a1
    some ((r1, ()), ())
  else
    some ((false, ()), ())
theorem e_impl_dataOk (x : InD I_impl_dataOk) : execF ⟨E_impl_dataOk, 15, D_impl_dataOk_0⟩ Try.f82.results.toList B_impl_dataOk I_impl_dataOk U_impl_dataOk x = raw_impl_dataOk x.1 x.2.1 := by kernel_rfl
theorem ok0_impl_dataOk : ConOk Try.prog 82 ⟨I_impl_dataOk, U_impl_dataOk, fun x => raw_impl_dataOk x.1 x.2.1⟩ := conOk_exec (fr_impl_dataOk_0) Try.func82 (by kernel_rfl) (by kernel_rfl) Try.ntmps82.symm (by decide) (fun x r h => (e_impl_dataOk x).trans h)
noncomputable def n_impl_dataOk (a0 : dG) (a1 : List Int) : Bool :=
  bif ((a1.length : Int) == (IntKind.i64.wrap (a0.1 - 1))) then
    let r1 := n_impl_wordsOk a1
    r1
  else
    false
noncomputable def con_impl_dataOk : Con := ⟨I_impl_dataOk, U_impl_dataOk, fun x => (fun n => some ((n, ()), ())) (n_impl_dataOk x.1 x.2.1)⟩
theorem nn_impl_dataOk (a0 : dG) (a1 : List Int) : raw_impl_dataOk a0 a1 = (fun n => some ((n, ()), ())) (n_impl_dataOk a0 a1) := bif_ty (p := fun (n : Bool) => ((n, ()), ())) (bif_some (p := fun (n : Bool) => ((n, ()), ())) rfl rfl)
theorem ok_impl_dataOk : ConOk Try.prog 82 con_impl_dataOk := (ok0_impl_dataOk).mono (fun x r _ h => (nn_impl_dataOk x.1 x.2.1).trans h)
end

/-! impl_dirtyOk -/
section
noncomputable def B_impl_dirtyOk : Code := (Try.f42.body).getD .skip
noncomputable def E_impl_dirtyOk : Env := envOf TT [(36, con_impl_hasStripe), (82, con_impl_dataOk)] []
theorem fr_impl_dirtyOk_0 : FrOk Try.prog ⟨E_impl_dirtyOk, 44, fun _ => none⟩ B_impl_dirtyOk := frOk_base mixed tt_ok ⟨ok_impl_hasStripe, ok_impl_dataOk, trivial⟩
noncomputable def D_impl_dirtyOk_0 : Nat → Option Seg := fun _ => none
def L_impl_dirtyOk_13 : Shape := ⟨[(1, false, [.ptr 0 0]), (6, false, [.br tW]), (7, false, [.int .i64]), (8, false, [.int .i64])], [(0, [.int .i64, .int .i64, .int .i64, .br tM, .int .i64, .int .i64, .int .i64, .int .i64, .int .i64, .br tW, .int .i64, .bool, .bool])], []⟩
def S_impl_dirtyOk_13 : Shape := ⟨[(1, false, [.ptr 0 0]), (6, false, [.br tW]), (7, false, [.int .i64]), (8, false, [.ci .i64 0])], [(0, [.int .i64, .int .i64, .int .i64, .br tM, .int .i64, .int .i64, .int .i64, .int .i64, .int .i64, .br tW, .int .i64, .bool, .bool])], []⟩
def O_impl_dirtyOk_13 : Shape := ⟨[], [], []⟩
def Z_impl_dirtyOk_13 : Shape := ⟨[(2, false, [.bool])], [], []⟩
abbrev mk_impl_dirtyOk_13 (v0 : List dW) (v1 v2 : Int) (v3 : dA) : (L_impl_dirtyOk_13).X := ((((), ()), (v0, ()), (v1, ()), (v2, ()), ()), ((v3.1, v3.2.1.1, v3.2.1.2, v3.2.2.1, v3.2.2.2.1, v3.2.2.2.2.1, v3.2.2.2.2.2.1, v3.2.2.2.2.2.2.1, v3.2.2.2.2.2.2.2.1, v3.2.2.2.2.2.2.2.2.1, v3.2.2.2.2.2.2.2.2.2.1, v3.2.2.2.2.2.2.2.2.2.2.1, v3.2.2.2.2.2.2.2.2.2.2.2, ()), ()), ())
abbrev ms_impl_dirtyOk_13 (v0 : List dW) (v1 : Int) (v2 : dA) : (S_impl_dirtyOk_13).X := ((((), ()), (v0, ()), (v1, ()), ((), ()), ()), ((v2.1, v2.2.1.1, v2.2.1.2, v2.2.2.1, v2.2.2.2.1, v2.2.2.2.2.1, v2.2.2.2.2.2.1, v2.2.2.2.2.2.2.1, v2.2.2.2.2.2.2.2.1, v2.2.2.2.2.2.2.2.2.1, v2.2.2.2.2.2.2.2.2.2.1, v2.2.2.2.2.2.2.2.2.2.2.1, v2.2.2.2.2.2.2.2.2.2.2.2, ()), ()), ())
abbrev mo_impl_dirtyOk_13  : (O_impl_dirtyOk_13).X := ((), (), ())
abbrev mz_impl_dirtyOk_13 (v0 : Bool) : (Z_impl_dirtyOk_13).X := (((v0, ()), ()), (), ())
noncomputable def st_impl_dirtyOk_13 (v0 : List dW) (v1 v2 v3 v4 v5 : Int) (v6 : List dM) (v7 v8 v9 v10 v11 : Int) (v12 : List dW) (v13 : Int) (v14 v15 : Bool) : Option ((L_impl_dirtyOk_13).X ⊕ ((O_impl_dirtyOk_13).X ⊕ (Z_impl_dirtyOk_13).X)) :=
  bif (ltb v2 v1) then
    bif (inb v2 v0.length) then
      let r4 := n_impl_hasStripe (v4, v5) ((nth v0 v2 (0, [])).1)
      bif (!(!r4)) then
        bif (ltb 0 v2) then
          bif (inb (IntKind.i64.wrap (v2 - 1)) v12.length) then
            bif (!(leb ((nth v0 v2 (0, [])).1) ((nth v12 (IntKind.i64.wrap (v2 - 1)) (0, [])).1))) then
              let r5 := n_impl_dataOk (v4, v5) ((nth v0 v2 (0, [])).2)
              bif (!r5) then
                some (.inr (.inr (((false, ()), ()), (), ())))
              else
                some (.inl ((((), ()), (v0, ()), (v1, ()), ((IntKind.i64.wrap (v2 + 1)), ()), ()), ((v3, v4, v5, v6, v7, v8, v9, v10, v11, v12, v13, v14, v15, ()), ()), ()))
            else
              some (.inr (.inr (((false, ()), ()), (), ())))
          else none
        else
          let r6 := n_impl_dataOk (v4, v5) ((nth v0 v2 (0, [])).2)
          bif (!r6) then
            some (.inr (.inr (((false, ()), ()), (), ())))
          else
            some (.inl ((((), ()), (v0, ()), (v1, ()), ((IntKind.i64.wrap (v2 + 1)), ()), ()), ((v3, v4, v5, v6, v7, v8, v9, v10, v11, v12, v13, v14, v15, ()), ()), ()))
      else
        some (.inr (.inr (((false, ()), ()), (), ())))
    else none
  else
    some (.inr (.inl ((), (), ())))
noncomputable def stx_impl_dirtyOk_13 (x : (L_impl_dirtyOk_13).X) := st_impl_dirtyOk_13 x.1.2.1.1 x.1.2.2.1.1 x.1.2.2.2.1.1 x.2.1.1.1 x.2.1.1.2.1 x.2.1.1.2.2.1 x.2.1.1.2.2.2.1 x.2.1.1.2.2.2.2.1 x.2.1.1.2.2.2.2.2.1 x.2.1.1.2.2.2.2.2.2.1 x.2.1.1.2.2.2.2.2.2.2.1 x.2.1.1.2.2.2.2.2.2.2.2.1 x.2.1.1.2.2.2.2.2.2.2.2.2.1 x.2.1.1.2.2.2.2.2.2.2.2.2.2.1 x.2.1.1.2.2.2.2.2.2.2.2.2.2.2.1 x.2.1.1.2.2.2.2.2.2.2.2.2.2.2.2.1
def em_impl_dirtyOk_13 (x : (S_impl_dirtyOk_13).X) : (L_impl_dirtyOk_13).X := ((((), ()), (x.1.2.1.1, ()), (x.1.2.2.1.1, ()), (0, ()), ()), ((x.2.1.1.1, x.2.1.1.2.1, x.2.1.1.2.2.1, x.2.1.1.2.2.2.1, x.2.1.1.2.2.2.2.1, x.2.1.1.2.2.2.2.2.1, x.2.1.1.2.2.2.2.2.2.1, x.2.1.1.2.2.2.2.2.2.2.1, x.2.1.1.2.2.2.2.2.2.2.2.1, x.2.1.1.2.2.2.2.2.2.2.2.2.1, x.2.1.1.2.2.2.2.2.2.2.2.2.2.1, x.2.1.1.2.2.2.2.2.2.2.2.2.2.2.1, x.2.1.1.2.2.2.2.2.2.2.2.2.2.2.2.1, ()), ()), ())
noncomputable def c_impl_dirtyOk_13 : Code := (subN B_impl_dirtyOk 64 52).getD .skip
theorem a_impl_dirtyOk_13 : subN B_impl_dirtyOk 64 13 = some (.block 0 (.loop c_impl_dirtyOk_13)) := by kernel_rfl
theorem r_impl_dirtyOk_13 (x : (L_impl_dirtyOk_13).X) : roundT ⟨E_impl_dirtyOk, 44, D_impl_dirtyOk_0⟩ 0 c_impl_dirtyOk_13 52 L_impl_dirtyOk_13 O_impl_dirtyOk_13 Z_impl_dirtyOk_13 x = stx_impl_dirtyOk_13 x := by kernel_rfl
def fu_impl_dirtyOk_13 (x : (S_impl_dirtyOk_13).X) : Nat := 18446744073709551616
noncomputable def F_impl_dirtyOk_13 (x : (S_impl_dirtyOk_13).X) : Option ((O_impl_dirtyOk_13).X ⊕ (Z_impl_dirtyOk_13).X) := loopN stx_impl_dirtyOk_13 (fu_impl_dirtyOk_13 x) (em_impl_dirtyOk_13 x)
noncomputable def sg_impl_dirtyOk_13 : Seg := ⟨S_impl_dirtyOk_13, O_impl_dirtyOk_13, Z_impl_dirtyOk_13, F_impl_dirtyOk_13⟩
noncomputable def D_impl_dirtyOk_1 : Nat → Option Seg := fun q => bif Nat.beq q 13 then some sg_impl_dirtyOk_13 else D_impl_dirtyOk_0 q
theorem fr_impl_dirtyOk_1 : FrOk Try.prog ⟨E_impl_dirtyOk, 44, D_impl_dirtyOk_1⟩ B_impl_dirtyOk := (fr_impl_dirtyOk_0).loop (sg := sg_impl_dirtyOk_13) L_impl_dirtyOk_13 em_impl_dirtyOk_13 (by decide) a_impl_dirtyOk_13 stx_impl_dirtyOk_13 fu_impl_dirtyOk_13 (by decide) (fun _ => rfl) (fun x r _ h => h) r_impl_dirtyOk_13
abbrev I_impl_dirtyOk : List Par := [.rd tA]
abbrev U_impl_dirtyOk : List OT := [⟨false, tB, .fz⟩]
noncomputable def raw_impl_dirtyOk (a0 : dA) : Option (ResD U_impl_dirtyOk × MutD I_impl_dirtyOk) :=
  segM (F_impl_dirtyOk_13 ((((), ()), (a0.2.2.2.2.2.2.2.2.1, ()), ((a0.2.2.2.2.2.2.2.2.1.length : Int), ()), ((), ()), ()), ((a0.1, a0.2.1.1, a0.2.1.2, a0.2.2.1, a0.2.2.2.1, a0.2.2.2.2.1, a0.2.2.2.2.2.1, a0.2.2.2.2.2.2.1, a0.2.2.2.2.2.2.2.1, a0.2.2.2.2.2.2.2.2.1, a0.2.2.2.2.2.2.2.2.2.1, a0.2.2.2.2.2.2.2.2.2.2.1, a0.2.2.2.2.2.2.2.2.2.2.2, ()), ()), ())) (fun y6 =>
    some ((true, ()), ())) (fun y6 =>
    some ((y6.1.1.1, ()), ()))
theorem e_impl_dirtyOk (x : InD I_impl_dirtyOk) : execF ⟨E_impl_dirtyOk, 44, D_impl_dirtyOk_1⟩ Try.f42.results.toList B_impl_dirtyOk I_impl_dirtyOk U_impl_dirtyOk x = raw_impl_dirtyOk x.1 := by kernel_rfl
theorem ok0_impl_dirtyOk : ConOk Try.prog 42 ⟨I_impl_dirtyOk, U_impl_dirtyOk, fun x => raw_impl_dirtyOk x.1⟩ := conOk_exec (fr_impl_dirtyOk_1) Try.func42 (by kernel_rfl) (by kernel_rfl) Try.ntmps42.symm (by decide) (fun x r h => (e_impl_dirtyOk x).trans h)
noncomputable def n_impl_dirtyOk (a0 : dA) : Bool := dirtyOk a0.2.1 a0.2.2.2.2.2.2.2.2.1
noncomputable def q_impl_dirtyOk (a0 : dA) : Bool := n_spec_GeoOk a0.2.1
theorem impl_wordsOk_eq (l : List Int) : n_impl_wordsOk l = l.all isW := by
  unfold n_impl_wordsOk
  rw [show n_impl_isWord = isW from funext fun x => by unfold n_impl_isWord; rw [impl_in_eq, in_eq]; rfl]
theorem nn_impl_dirtyOk (a0 : dA) (hk : InOk I_impl_dirtyOk (a0, ())) (hq : q_impl_dirtyOk a0 = true) : raw_impl_dirtyOk a0 = (fun n => some ((n, ()), ())) (n_impl_dirtyOk a0) := by
  have hb : a0.2.2.2.2.2.2.2.2.1.length * 32 ≤ 2 ^ 47 := hk.1.2.2.2.2.2.2.2.2.1.1
  have hg := geo_iff.1 hq
  have hq' : n_spec_GeoOk a0.2.1 = true := hq
  have h1 : F_impl_dirtyOk_13 (ms_impl_dirtyOk_13 a0.2.2.2.2.2.2.2.2.1 a0.2.2.2.2.2.2.2.2.1.length a0) = some (bif (List.range a0.2.2.2.2.2.2.2.2.1.length).any (dirtBad a0.2.1 a0.2.2.2.2.2.2.2.2.1) then .inr (mz_impl_dirtyOk_13 false) else .inl mo_impl_dirtyOk_13) :=
    loopN_all (step := stx_impl_dirtyOk_13) (fun i => mk_impl_dirtyOk_13 a0.2.2.2.2.2.2.2.2.1 a0.2.2.2.2.2.2.2.2.1.length i a0) a0.2.2.2.2.2.2.2.2.1.length (dirtBad a0.2.1 a0.2.2.2.2.2.2.2.2.1) _ _ (fun i hi => by
      simp only [stx_impl_dirtyOk_13, mk_impl_dirtyOk_13, st_impl_dirtyOk_13, ltb_t (show (i : Int) < a0.2.2.2.2.2.2.2.2.1.length by omega), cond_true, wr (show -9223372036854775808 ≤ (i : Int) + 1 by omega) (by omega), Int.natCast_add, Int.natCast_one, Int.toNat_natCast, inb_nat hi, pr_eta, n_impl_hasStripe, n_impl_dataOk, geo_eq, hq', impl_in_eq, in_eq, impl_wordsOk_eq, wr (show -9223372036854775808 ≤ a0.2.1.2 - 1 by omega) (by omega), wr (show -9223372036854775808 ≤ a0.2.1.1 - 1 by omega) (by omega), dirtBad, bne]
      rcases Nat.eq_zero_or_pos i with rfl | h0
      · cases (leb 0 (nth a0.2.2.2.2.2.2.2.2.1 ((0 : Nat) : Int) (0, [])).1 && leb (nth a0.2.2.2.2.2.2.2.2.1 ((0 : Nat) : Int) (0, [])).1 (a0.2.1.2 - 1)) <;> cases (((nth a0.2.2.2.2.2.2.2.2.1 ((0 : Nat) : Int) (0, [])).2.length : Int) == a0.2.1.1 - 1) <;> cases ((nth a0.2.2.2.2.2.2.2.2.1 ((0 : Nat) : Int) (0, [])).2.all isW) <;> rfl
      · rw [show IntKind.i64.wrap ((i : Int) - 1) = ((i - 1 : Nat) : Int) by rw [wr (by omega) (by omega)]; omega, inb_nat (show i - 1 < a0.2.2.2.2.2.2.2.2.1.length by omega), ltb_t (show (0 : Int) < i by omega), decide_eq_true h0]
        cases (leb 0 (nth a0.2.2.2.2.2.2.2.2.1 (i : Int) (0, [])).1 && leb (nth a0.2.2.2.2.2.2.2.2.1 (i : Int) (0, [])).1 (a0.2.1.2 - 1)) <;> cases (((nth a0.2.2.2.2.2.2.2.2.1 (i : Int) (0, [])).2.length : Int) == a0.2.1.1 - 1) <;> cases ((nth a0.2.2.2.2.2.2.2.2.1 (i : Int) (0, [])).2.all isW) <;> cases leb (nth a0.2.2.2.2.2.2.2.2.1 (i : Int) (0, [])).1 (nth a0.2.2.2.2.2.2.2.2.1 ((i - 1 : Nat) : Int) (0, [])).1 <;> rfl) (by simp only [stx_impl_dirtyOk_13, mk_impl_dirtyOk_13, st_impl_dirtyOk_13, ltb_f (Int.le_refl _), cond_false]) _ (by show _ < 18446744073709551616; omega)
  unfold raw_impl_dirtyOk n_impl_dirtyOk dirtyOk
  rw [h1]
  cases (List.range a0.2.2.2.2.2.2.2.2.1.length).any (dirtBad a0.2.1 a0.2.2.2.2.2.2.2.2.1) <;> rfl
noncomputable def o_impl_dirtyOk (a0 : dA) : Option (ResD U_impl_dirtyOk × MutD I_impl_dirtyOk) := bif q_impl_dirtyOk a0 then (fun n => some ((n, ()), ())) (n_impl_dirtyOk a0) else none
theorem ot_impl_dirtyOk (a0 : dA) (h : q_impl_dirtyOk a0 = true) : o_impl_dirtyOk a0 = (fun n => some ((n, ()), ())) (n_impl_dirtyOk a0) := by unfold o_impl_dirtyOk; rw [h]; rfl
noncomputable def con_impl_dirtyOk : Con := ⟨I_impl_dirtyOk, U_impl_dirtyOk, fun x => o_impl_dirtyOk x.1⟩
theorem ok_impl_dirtyOk : ConOk Try.prog 42 con_impl_dirtyOk := (ok0_impl_dirtyOk).mono (fun x r hk h => pre_ok h (fun hq => nn_impl_dirtyOk x.1 hk hq))
end

/-! impl_SecOk -/
section
noncomputable def B_impl_SecOk : Code := (Try.f83.body).getD .skip
noncomputable def E_impl_SecOk : Env := envOf TT [(129, con_impl_wordsOk)] []
theorem fr_impl_SecOk_0 : FrOk Try.prog ⟨E_impl_SecOk, 10, fun _ => none⟩ B_impl_SecOk := frOk_base mixed tt_ok ⟨ok_impl_wordsOk, trivial⟩
noncomputable def D_impl_SecOk_0 : Nat → Option Seg := fun _ => none
abbrev I_impl_SecOk : List Par := [.rd tL]
abbrev U_impl_SecOk : List OT := [⟨false, tB, .fz⟩]
noncomputable def raw_impl_SecOk (a0 : List Int) : Option (ResD U_impl_SecOk × MutD I_impl_SecOk) :=
  bif (leb (a0.length : Int) 12) then
    let r1 := n_impl_wordsOk a0
    some ((r1, ()), ())
  else
    some ((false, ()), ())
theorem e_impl_SecOk (x : InD I_impl_SecOk) : execF ⟨E_impl_SecOk, 10, D_impl_SecOk_0⟩ Try.f83.results.toList B_impl_SecOk I_impl_SecOk U_impl_SecOk x = raw_impl_SecOk x.1 := by kernel_rfl
theorem ok0_impl_SecOk : ConOk Try.prog 83 ⟨I_impl_SecOk, U_impl_SecOk, fun x => raw_impl_SecOk x.1⟩ := conOk_exec (fr_impl_SecOk_0) Try.func83 (by kernel_rfl) (by kernel_rfl) Try.ntmps83.symm (by decide) (fun x r h => (e_impl_SecOk x).trans h)
noncomputable def n_impl_SecOk (a0 : List Int) : Bool :=
  bif (leb (a0.length : Int) 12) then
    let r1 := n_impl_wordsOk a0
    r1
  else
    false
noncomputable def con_impl_SecOk : Con := ⟨I_impl_SecOk, U_impl_SecOk, fun x => (fun n => some ((n, ()), ())) (n_impl_SecOk x.1)⟩
theorem nn_impl_SecOk (a0 : List Int) : raw_impl_SecOk a0 = (fun n => some ((n, ()), ())) (n_impl_SecOk a0) := bif_ty (p := fun (n : Bool) => ((n, ()), ())) (bif_some (p := fun (n : Bool) => ((n, ()), ())) rfl rfl)
theorem ok_impl_SecOk : ConOk Try.prog 83 con_impl_SecOk := (ok0_impl_SecOk).mono (fun x r _ h => (nn_impl_SecOk x.1).trans h)
theorem impl_sec_eq : n_impl_SecOk = secOk := funext fun s => by
  unfold n_impl_SecOk secOk n_impl_wordsOk
  rw [show n_impl_isWord = isW from funext fun x => by unfold n_impl_isWord; rw [impl_in_eq, in_eq]; rfl]
  cases leb (s.length : Int) 12 <;> rfl
end

/-! impl_hasSec -/
section
noncomputable def B_impl_hasSec : Code := (Try.f84.body).getD .skip
noncomputable def E_impl_hasSec : Env := envOf TT [(39, con_impl_within)] []
theorem fr_impl_hasSec_0 : FrOk Try.prog ⟨E_impl_hasSec, 11, fun _ => none⟩ B_impl_hasSec := frOk_base mixed tt_ok ⟨ok_impl_within, trivial⟩
noncomputable def D_impl_hasSec_0 : Nat → Option Seg := fun _ => none
abbrev I_impl_hasSec : List Par := [.rd tM, .rd tI]
abbrev U_impl_hasSec : List OT := [⟨false, tB, .fz⟩]
noncomputable def raw_impl_hasSec (a0 : dM) (a1 : Int) : Option (ResD U_impl_hasSec × MutD I_impl_hasSec) :=
  let r1 := n_impl_within a1 0 (IntKind.i64.wrap ((a0.1.length : Int) - 1))
  some ((r1, ()), ())
theorem e_impl_hasSec (x : InD I_impl_hasSec) : execF ⟨E_impl_hasSec, 11, D_impl_hasSec_0⟩ Try.f84.results.toList B_impl_hasSec I_impl_hasSec U_impl_hasSec x = raw_impl_hasSec x.1 x.2.1 := by kernel_rfl
theorem ok0_impl_hasSec : ConOk Try.prog 84 ⟨I_impl_hasSec, U_impl_hasSec, fun x => raw_impl_hasSec x.1 x.2.1⟩ := conOk_exec (fr_impl_hasSec_0) Try.func84 (by kernel_rfl) (by kernel_rfl) Try.ntmps84.symm (by decide) (fun x r h => (e_impl_hasSec x).trans h)
noncomputable def n_impl_hasSec (a0 : dM) (a1 : Int) : Bool :=
  let r1 := n_impl_within a1 0 (IntKind.i64.wrap ((a0.1.length : Int) - 1))
  r1
noncomputable def con_impl_hasSec : Con := ⟨I_impl_hasSec, U_impl_hasSec, fun x => (fun n => some ((n, ()), ())) (n_impl_hasSec x.1 x.2.1)⟩
theorem nn_impl_hasSec (a0 : dM) (a1 : Int) : raw_impl_hasSec a0 a1 = (fun n => some ((n, ()), ())) (n_impl_hasSec a0 a1) := bif_ty (p := fun (n : Bool) => ((n, ()), ())) rfl
theorem ok_impl_hasSec : ConOk Try.prog 84 con_impl_hasSec := (ok0_impl_hasSec).mono (fun x r _ h => (nn_impl_hasSec x.1 x.2.1).trans h)
end

/-! impl_MemOk -/
section
noncomputable def B_impl_MemOk : Code := (Try.f43.body).getD .skip
noncomputable def E_impl_MemOk : Env := envOf TT [(39, con_impl_within), (83, con_impl_SecOk), (84, con_impl_hasSec)] []
theorem fr_impl_MemOk_0 : FrOk Try.prog ⟨E_impl_MemOk, 76, fun _ => none⟩ B_impl_MemOk := frOk_base mixed tt_ok ⟨ok_impl_within, ok_impl_SecOk, ok_impl_hasSec, trivial⟩
noncomputable def D_impl_MemOk_0 : Nat → Option Seg := fun _ => none
def L_impl_MemOk_13 : Shape := ⟨[(1, false, [.ptr 0 0]), (10, false, [.br tL]), (11, false, [.int .i64]), (12, false, [.int .i64])], [(0, [.br tL, .br tW, .bool, .br tI])], []⟩
def S_impl_MemOk_13 : Shape := ⟨[(1, false, [.ptr 0 0]), (10, false, [.br tL]), (11, false, [.int .i64]), (12, false, [.ci .i64 0])], [(0, [.br tL, .br tW, .bool, .br tI])], []⟩
def O_impl_MemOk_13 : Shape := ⟨[(1, false, [.ptr 0 0])], [(0, [.br tL, .br tW, .bool, .br tI])], []⟩
def Z_impl_MemOk_13 : Shape := ⟨[(2, false, [.bool])], [], []⟩
abbrev mk_impl_MemOk_13 (v0 : List (List Int)) (v1 v2 : Int) (v3 : dM) : (L_impl_MemOk_13).X := ((((), ()), (v0, ()), (v1, ()), (v2, ()), ()), ((v3.1, v3.2.1, v3.2.2.1, v3.2.2.2, ()), ()), ())
abbrev ms_impl_MemOk_13 (v0 : List (List Int)) (v1 : Int) (v2 : dM) : (S_impl_MemOk_13).X := ((((), ()), (v0, ()), (v1, ()), ((), ()), ()), ((v2.1, v2.2.1, v2.2.2.1, v2.2.2.2, ()), ()), ())
abbrev mo_impl_MemOk_13 (v0 : dM) : (O_impl_MemOk_13).X := ((((), ()), ()), ((v0.1, v0.2.1, v0.2.2.1, v0.2.2.2, ()), ()), ())
abbrev mz_impl_MemOk_13 (v0 : Bool) : (Z_impl_MemOk_13).X := (((v0, ()), ()), (), ())
noncomputable def st_impl_MemOk_13 (v0 : List (List Int)) (v1 v2 : Int) (v3 : List (List Int)) (v4 : List dW) (v5 : Bool) (v6 : List Int) : Option ((L_impl_MemOk_13).X ⊕ ((O_impl_MemOk_13).X ⊕ (Z_impl_MemOk_13).X)) :=
  bif (ltb v2 v1) then
    bif (inb v2 v0.length) then
      let r2 := n_impl_SecOk (nth v0 v2 [])
      bif (!r2) then
        some (.inr (.inr (((false, ()), ()), (), ())))
      else
        some (.inl ((((), ()), (v0, ()), (v1, ()), ((IntKind.i64.wrap (v2 + 1)), ()), ()), ((v3, v4, v5, v6, ()), ()), ()))
    else none
  else
    some (.inr (.inl ((((), ()), ()), ((v3, v4, v5, v6, ()), ()), ())))
noncomputable def stx_impl_MemOk_13 (x : (L_impl_MemOk_13).X) := st_impl_MemOk_13 x.1.2.1.1 x.1.2.2.1.1 x.1.2.2.2.1.1 x.2.1.1.1 x.2.1.1.2.1 x.2.1.1.2.2.1 x.2.1.1.2.2.2.1
def em_impl_MemOk_13 (x : (S_impl_MemOk_13).X) : (L_impl_MemOk_13).X := ((((), ()), (x.1.2.1.1, ()), (x.1.2.2.1.1, ()), (0, ()), ()), ((x.2.1.1.1, x.2.1.1.2.1, x.2.1.1.2.2.1, x.2.1.1.2.2.2.1, ()), ()), ())
noncomputable def c_impl_MemOk_13 : Code := (subN B_impl_MemOk 64 52).getD .skip
theorem a_impl_MemOk_13 : subN B_impl_MemOk 64 13 = some (.block 0 (.loop c_impl_MemOk_13)) := by kernel_rfl
theorem r_impl_MemOk_13 (x : (L_impl_MemOk_13).X) : roundT ⟨E_impl_MemOk, 76, D_impl_MemOk_0⟩ 0 c_impl_MemOk_13 52 L_impl_MemOk_13 O_impl_MemOk_13 Z_impl_MemOk_13 x = stx_impl_MemOk_13 x := by kernel_rfl
def fu_impl_MemOk_13 (x : (S_impl_MemOk_13).X) : Nat := 18446744073709551616
noncomputable def F_impl_MemOk_13 (x : (S_impl_MemOk_13).X) : Option ((O_impl_MemOk_13).X ⊕ (Z_impl_MemOk_13).X) := loopN stx_impl_MemOk_13 (fu_impl_MemOk_13 x) (em_impl_MemOk_13 x)
noncomputable def sg_impl_MemOk_13 : Seg := ⟨S_impl_MemOk_13, O_impl_MemOk_13, Z_impl_MemOk_13, F_impl_MemOk_13⟩
noncomputable def D_impl_MemOk_1 : Nat → Option Seg := fun q => bif Nat.beq q 13 then some sg_impl_MemOk_13 else D_impl_MemOk_0 q
theorem fr_impl_MemOk_1 : FrOk Try.prog ⟨E_impl_MemOk, 76, D_impl_MemOk_1⟩ B_impl_MemOk := (fr_impl_MemOk_0).loop (sg := sg_impl_MemOk_13) L_impl_MemOk_13 em_impl_MemOk_13 (by decide) a_impl_MemOk_13 stx_impl_MemOk_13 fu_impl_MemOk_13 (by decide) (fun _ => rfl) (fun x r _ h => h) r_impl_MemOk_13
def L_impl_MemOk_29 : Shape := ⟨[(1, false, [.ptr 0 0]), (21, false, [.br tW]), (22, false, [.int .i64]), (23, false, [.int .i64])], [(0, [.br tL, .br tW, .bool, .br tI])], []⟩
def S_impl_MemOk_29 : Shape := ⟨[(1, false, [.ptr 0 0]), (21, false, [.br tW]), (22, false, [.int .i64]), (23, false, [.ci .i64 0])], [(0, [.br tL, .br tW, .bool, .br tI])], []⟩
def O_impl_MemOk_29 : Shape := ⟨[(1, false, [.ptr 0 0])], [(0, [.br tL, .br tW, .bool, .br tI])], []⟩
def Z_impl_MemOk_29 : Shape := ⟨[(2, false, [.bool])], [], []⟩
abbrev mk_impl_MemOk_29 (v0 : List dW) (v1 v2 : Int) (v3 : dM) : (L_impl_MemOk_29).X := ((((), ()), (v0, ()), (v1, ()), (v2, ()), ()), ((v3.1, v3.2.1, v3.2.2.1, v3.2.2.2, ()), ()), ())
abbrev ms_impl_MemOk_29 (v0 : List dW) (v1 : Int) (v2 : dM) : (S_impl_MemOk_29).X := ((((), ()), (v0, ()), (v1, ()), ((), ()), ()), ((v2.1, v2.2.1, v2.2.2.1, v2.2.2.2, ()), ()), ())
abbrev mo_impl_MemOk_29 (v0 : dM) : (O_impl_MemOk_29).X := ((((), ()), ()), ((v0.1, v0.2.1, v0.2.2.1, v0.2.2.2, ()), ()), ())
abbrev mz_impl_MemOk_29 (v0 : Bool) : (Z_impl_MemOk_29).X := (((v0, ()), ()), (), ())
noncomputable def st_impl_MemOk_29 (v0 : List dW) (v1 v2 : Int) (v3 : List (List Int)) (v4 : List dW) (v5 : Bool) (v6 : List Int) : Option ((L_impl_MemOk_29).X ⊕ ((O_impl_MemOk_29).X ⊕ (Z_impl_MemOk_29).X)) :=
  bif (ltb v2 v1) then
    bif (inb v2 v0.length) then
      let r6 := n_impl_hasSec (v3, v4, v5, v6) ((nth v0 v2 (0, [])).1)
      bif (!(!r6)) then
        let r7 := n_impl_SecOk ((nth v0 v2 (0, [])).2)
        bif (!r7) then
          some (.inr (.inr (((false, ()), ()), (), ())))
        else
          some (.inl ((((), ()), (v0, ()), (v1, ()), ((IntKind.i64.wrap (v2 + 1)), ()), ()), ((v3, v4, v5, v6, ()), ()), ()))
      else
        some (.inr (.inr (((false, ()), ()), (), ())))
    else none
  else
    some (.inr (.inl ((((), ()), ()), ((v3, v4, v5, v6, ()), ()), ())))
noncomputable def stx_impl_MemOk_29 (x : (L_impl_MemOk_29).X) := st_impl_MemOk_29 x.1.2.1.1 x.1.2.2.1.1 x.1.2.2.2.1.1 x.2.1.1.1 x.2.1.1.2.1 x.2.1.1.2.2.1 x.2.1.1.2.2.2.1
def em_impl_MemOk_29 (x : (S_impl_MemOk_29).X) : (L_impl_MemOk_29).X := ((((), ()), (x.1.2.1.1, ()), (x.1.2.2.1.1, ()), (0, ()), ()), ((x.2.1.1.1, x.2.1.1.2.1, x.2.1.1.2.2.1, x.2.1.1.2.2.2.1, ()), ()), ())
noncomputable def c_impl_MemOk_29 : Code := (subN B_impl_MemOk 64 116).getD .skip
theorem a_impl_MemOk_29 : subN B_impl_MemOk 64 29 = some (.block 2 (.loop c_impl_MemOk_29)) := by kernel_rfl
theorem r_impl_MemOk_29 (x : (L_impl_MemOk_29).X) : roundT ⟨E_impl_MemOk, 76, D_impl_MemOk_1⟩ 2 c_impl_MemOk_29 116 L_impl_MemOk_29 O_impl_MemOk_29 Z_impl_MemOk_29 x = stx_impl_MemOk_29 x := by kernel_rfl
def fu_impl_MemOk_29 (x : (S_impl_MemOk_29).X) : Nat := 18446744073709551616
noncomputable def F_impl_MemOk_29 (x : (S_impl_MemOk_29).X) : Option ((O_impl_MemOk_29).X ⊕ (Z_impl_MemOk_29).X) := loopN stx_impl_MemOk_29 (fu_impl_MemOk_29 x) (em_impl_MemOk_29 x)
noncomputable def sg_impl_MemOk_29 : Seg := ⟨S_impl_MemOk_29, O_impl_MemOk_29, Z_impl_MemOk_29, F_impl_MemOk_29⟩
noncomputable def D_impl_MemOk_2 : Nat → Option Seg := fun q => bif Nat.beq q 29 then some sg_impl_MemOk_29 else D_impl_MemOk_1 q
theorem fr_impl_MemOk_2 : FrOk Try.prog ⟨E_impl_MemOk, 76, D_impl_MemOk_2⟩ B_impl_MemOk := (fr_impl_MemOk_1).loop (sg := sg_impl_MemOk_29) L_impl_MemOk_29 em_impl_MemOk_29 (by decide) a_impl_MemOk_29 stx_impl_MemOk_29 fu_impl_MemOk_29 (by decide) (fun _ => rfl) (fun x r _ h => h) r_impl_MemOk_29
def L_impl_MemOk_61 : Shape := ⟨[(1, false, [.ptr 0 0]), (40, false, [.br tI]), (41, false, [.int .i64]), (42, false, [.int .i64])], [(0, [.br tL, .br tW, .bool, .br tI])], []⟩
def S_impl_MemOk_61 : Shape := ⟨[(1, false, [.ptr 0 0]), (40, false, [.br tI]), (41, false, [.int .i64]), (42, false, [.ci .i64 0])], [(0, [.br tL, .br tW, .bool, .br tI])], []⟩
def O_impl_MemOk_61 : Shape := ⟨[(1, false, [.ptr 0 0])], [(0, [.br tL, .br tW, .bool, .br tI])], []⟩
def Z_impl_MemOk_61 : Shape := ⟨[(2, false, [.bool])], [], []⟩
abbrev mk_impl_MemOk_61 (v0 : List Int) (v1 v2 : Int) (v3 : dM) : (L_impl_MemOk_61).X := ((((), ()), (v0, ()), (v1, ()), (v2, ()), ()), ((v3.1, v3.2.1, v3.2.2.1, v3.2.2.2, ()), ()), ())
abbrev ms_impl_MemOk_61 (v0 : List Int) (v1 : Int) (v2 : dM) : (S_impl_MemOk_61).X := ((((), ()), (v0, ()), (v1, ()), ((), ()), ()), ((v2.1, v2.2.1, v2.2.2.1, v2.2.2.2, ()), ()), ())
abbrev mo_impl_MemOk_61 (v0 : dM) : (O_impl_MemOk_61).X := ((((), ()), ()), ((v0.1, v0.2.1, v0.2.2.1, v0.2.2.2, ()), ()), ())
abbrev mz_impl_MemOk_61 (v0 : Bool) : (Z_impl_MemOk_61).X := (((v0, ()), ()), (), ())
noncomputable def st_impl_MemOk_61 (v0 : List Int) (v1 v2 : Int) (v3 : List (List Int)) (v4 : List dW) (v5 : Bool) (v6 : List Int) : Option ((L_impl_MemOk_61).X ⊕ ((O_impl_MemOk_61).X ⊕ (Z_impl_MemOk_61).X)) :=
  bif (ltb v2 v1) then
    bif (inb v2 v0.length) then
      let r10 := n_impl_hasSec (v3, v4, v5, v6) (nth v0 v2 0)
      bif (!(!r10)) then
        bif (ltb 0 v2) then
          bif (inb (IntKind.i64.wrap (v2 - 1)) v6.length) then
            bif (leb (nth v0 v2 0) (nth v6 (IntKind.i64.wrap (v2 - 1)) 0)) then
              some (.inr (.inr (((false, ()), ()), (), ())))
            else
              some (.inl ((((), ()), (v0, ()), (v1, ()), ((IntKind.i64.wrap (v2 + 1)), ()), ()), ((v3, v4, v5, v6, ()), ()), ()))
          else none
        else
          some (.inl ((((), ()), (v0, ()), (v1, ()), ((IntKind.i64.wrap (v2 + 1)), ()), ()), ((v3, v4, v5, v6, ()), ()), ()))
      else
        some (.inr (.inr (((false, ()), ()), (), ())))
    else none
  else
    some (.inr (.inl ((((), ()), ()), ((v3, v4, v5, v6, ()), ()), ())))
noncomputable def stx_impl_MemOk_61 (x : (L_impl_MemOk_61).X) := st_impl_MemOk_61 x.1.2.1.1 x.1.2.2.1.1 x.1.2.2.2.1.1 x.2.1.1.1 x.2.1.1.2.1 x.2.1.1.2.2.1 x.2.1.1.2.2.2.1
def em_impl_MemOk_61 (x : (S_impl_MemOk_61).X) : (L_impl_MemOk_61).X := ((((), ()), (x.1.2.1.1, ()), (x.1.2.2.1.1, ()), (0, ()), ()), ((x.2.1.1.1, x.2.1.1.2.1, x.2.1.1.2.2.1, x.2.1.1.2.2.2.1, ()), ()), ())
noncomputable def c_impl_MemOk_61 : Code := (subN B_impl_MemOk 64 244).getD .skip
theorem a_impl_MemOk_61 : subN B_impl_MemOk 64 61 = some (.block 4 (.loop c_impl_MemOk_61)) := by kernel_rfl
theorem r_impl_MemOk_61 (x : (L_impl_MemOk_61).X) : roundT ⟨E_impl_MemOk, 76, D_impl_MemOk_2⟩ 4 c_impl_MemOk_61 244 L_impl_MemOk_61 O_impl_MemOk_61 Z_impl_MemOk_61 x = stx_impl_MemOk_61 x := by kernel_rfl
def fu_impl_MemOk_61 (x : (S_impl_MemOk_61).X) : Nat := 18446744073709551616
noncomputable def F_impl_MemOk_61 (x : (S_impl_MemOk_61).X) : Option ((O_impl_MemOk_61).X ⊕ (Z_impl_MemOk_61).X) := loopN stx_impl_MemOk_61 (fu_impl_MemOk_61 x) (em_impl_MemOk_61 x)
noncomputable def sg_impl_MemOk_61 : Seg := ⟨S_impl_MemOk_61, O_impl_MemOk_61, Z_impl_MemOk_61, F_impl_MemOk_61⟩
noncomputable def D_impl_MemOk_3 : Nat → Option Seg := fun q => bif Nat.beq q 61 then some sg_impl_MemOk_61 else D_impl_MemOk_2 q
theorem fr_impl_MemOk_3 : FrOk Try.prog ⟨E_impl_MemOk, 76, D_impl_MemOk_3⟩ B_impl_MemOk := (fr_impl_MemOk_2).loop (sg := sg_impl_MemOk_61) L_impl_MemOk_61 em_impl_MemOk_61 (by decide) a_impl_MemOk_61 stx_impl_MemOk_61 fu_impl_MemOk_61 (by decide) (fun _ => rfl) (fun x r _ h => h) r_impl_MemOk_61
abbrev I_impl_MemOk : List Par := [.rd tM]
abbrev U_impl_MemOk : List OT := [⟨false, tB, .fz⟩]
noncomputable def raw_impl_MemOk (a0 : dM) : Option (ResD U_impl_MemOk × MutD I_impl_MemOk) :=
  segM (F_impl_MemOk_13 ((((), ()), (a0.1, ()), ((a0.1.length : Int), ()), ((), ()), ()), ((a0.1, a0.2.1, a0.2.2.1, a0.2.2.2, ()), ()), ())) (fun y2 =>
    segM (F_impl_MemOk_29 ((((), ()), (y2.2.1.1.2.1, ()), ((y2.2.1.1.2.1.length : Int), ()), ((), ()), ()), ((y2.2.1.1.1, y2.2.1.1.2.1, y2.2.1.1.2.2.1, y2.2.1.1.2.2.2.1, ()), ()), ())) (fun y7 =>
      segM (F_impl_MemOk_61 ((((), ()), (y7.2.1.1.2.2.2.1, ()), ((y7.2.1.1.2.2.2.1.length : Int), ()), ((), ()), ()), ((y7.2.1.1.1, y7.2.1.1.2.1, y7.2.1.1.2.2.1, y7.2.1.1.2.2.2.1, ()), ()), ())) (fun y10 =>
        let r12 := n_impl_within (y10.2.1.1.1.length : Int) 1 20
        bif r12 then
          some (((leb (y10.2.1.1.2.1.length : Int) 60), ()), ())
        else
          some ((false, ()), ())) (fun y10 =>
        some ((y10.1.1.1, ()), ()))) (fun y7 =>
      some ((y7.1.1.1, ()), ()))) (fun y2 =>
    some ((y2.1.1.1, ()), ()))
theorem e_impl_MemOk (x : InD I_impl_MemOk) : execF ⟨E_impl_MemOk, 76, D_impl_MemOk_3⟩ Try.f43.results.toList B_impl_MemOk I_impl_MemOk U_impl_MemOk x = raw_impl_MemOk x.1 := by kernel_rfl
theorem ok0_impl_MemOk : ConOk Try.prog 43 ⟨I_impl_MemOk, U_impl_MemOk, fun x => raw_impl_MemOk x.1⟩ := conOk_exec (fr_impl_MemOk_3) Try.func43 (by kernel_rfl) (by kernel_rfl) Try.ntmps43.symm (by decide) (fun x r h => (e_impl_MemOk x).trans h)
noncomputable def n_impl_MemOk (a0 : dM) : Bool := memOk a0
theorem nn_impl_MemOk (a0 : dM) (hk : InOk I_impl_MemOk (a0, ())) : raw_impl_MemOk a0 = (fun n => some ((n, ()), ())) (n_impl_MemOk a0) := by
  have hb1 : a0.1.length * 24 ≤ 2 ^ 47 := hk.1.1.1
  have hb2 : a0.2.1.length * 32 ≤ 2 ^ 47 := hk.1.2.1.1
  have hb3 : a0.2.2.2.length * 8 ≤ 2 ^ 47 := hk.1.2.2.2.1
  have h1 : F_impl_MemOk_13 (ms_impl_MemOk_13 a0.1 a0.1.length a0) = some (bif a0.1.all secOk then .inl (mo_impl_MemOk_13 a0) else .inr (mz_impl_MemOk_13 false)) :=
    loopN_list_all (step := stx_impl_MemOk_13) a0.1 [] (fun i => mk_impl_MemOk_13 a0.1 a0.1.length i a0) secOk _ _ (fun i hi => by
      simp only [stx_impl_MemOk_13, mk_impl_MemOk_13, st_impl_MemOk_13, ltb_t (show (i : Int) < a0.1.length by omega), cond_true, wr (show -9223372036854775808 ≤ (i : Int) + 1 by omega) (by omega), Int.natCast_add, Int.natCast_one, Int.toNat_natCast, inb_nat hi, nth_nat, impl_sec_eq]
      cases secOk (a0.1.getD i []) <;> rfl) (by simp only [stx_impl_MemOk_13, mk_impl_MemOk_13, st_impl_MemOk_13, ltb_f (Int.le_refl _), cond_false]) _ (by show _ < 18446744073709551616; omega)
  have h2 : F_impl_MemOk_29 (ms_impl_MemOk_29 a0.2.1 a0.2.1.length a0) = some (bif a0.2.1.all (wrOk a0.1.length) then .inl (mo_impl_MemOk_29 a0) else .inr (mz_impl_MemOk_29 false)) :=
    loopN_list_all (step := stx_impl_MemOk_29) a0.2.1 (0, []) (fun i => mk_impl_MemOk_29 a0.2.1 a0.2.1.length i a0) (wrOk a0.1.length) _ _ (fun i hi => by
      simp only [stx_impl_MemOk_29, mk_impl_MemOk_29, st_impl_MemOk_29, ltb_t (show (i : Int) < a0.2.1.length by omega), cond_true, wr (show -9223372036854775808 ≤ (i : Int) + 1 by omega) (by omega), Int.natCast_add, Int.natCast_one, Int.toNat_natCast, inb_nat hi, nth_nat, impl_sec_eq, n_impl_hasSec, impl_in_eq, in_len (show a0.1.length ≤ 1152921504606846976 by omega), wrOk]
      cases inb (a0.2.1.getD i (0, [])).1 a0.1.length <;> cases secOk (a0.2.1.getD i (0, [])).2 <;> rfl) (by simp only [stx_impl_MemOk_29, mk_impl_MemOk_29, st_impl_MemOk_29, ltb_f (Int.le_refl _), cond_false]) _ (by show _ < 18446744073709551616; omega)
  have h3 : F_impl_MemOk_61 (ms_impl_MemOk_61 a0.2.2.2 a0.2.2.2.length a0) = some (bif (List.range a0.2.2.2.length).any (badAt a0.1.length a0.2.2.2) then .inr (mz_impl_MemOk_61 false) else .inl (mo_impl_MemOk_61 a0)) :=
    loopN_all (step := stx_impl_MemOk_61) (fun i => mk_impl_MemOk_61 a0.2.2.2 a0.2.2.2.length i a0) a0.2.2.2.length (badAt a0.1.length a0.2.2.2) _ _ (fun i hi => by
      simp only [stx_impl_MemOk_61, mk_impl_MemOk_61, st_impl_MemOk_61, ltb_t (show (i : Int) < a0.2.2.2.length by omega), cond_true, wr (show -9223372036854775808 ≤ (i : Int) + 1 by omega) (by omega), Int.natCast_add, Int.natCast_one, Int.toNat_natCast, inb_nat hi, nth_nat, n_impl_hasSec, impl_in_eq, in_len (show a0.1.length ≤ 1152921504606846976 by omega), badAt]
      rcases Nat.eq_zero_or_pos i with rfl | h0
      · cases inb (a0.2.2.2.getD 0 0) a0.1.length <;> rfl
      · rw [show IntKind.i64.wrap ((i : Int) - 1) = ((i - 1 : Nat) : Int) by rw [wr (by omega) (by omega)]; omega, inb_nat (show i - 1 < a0.2.2.2.length by omega), nth_nat, ltb_t (show (0 : Int) < i by omega), decide_eq_true h0]
        cases inb (a0.2.2.2.getD i 0) a0.1.length <;> cases leb (a0.2.2.2.getD i 0) (a0.2.2.2.getD (i - 1) 0) <;> rfl) (by simp only [stx_impl_MemOk_61, mk_impl_MemOk_61, st_impl_MemOk_61, ltb_f (Int.le_refl _), cond_false]) _ (by show _ < 18446744073709551616; omega)
  unfold raw_impl_MemOk n_impl_MemOk memOk
  rw [h1]
  cases a0.1.all secOk
  · rfl
  simp only [cond_true, segM_inl, h2]
  cases a0.2.1.all (wrOk a0.1.length)
  · rfl
  simp only [cond_true, segM_inl, h3, badAt_any, impl_in_eq, in_eq]
  cases badOk a0.1.length a0.2.2.2
  · rfl
  simp only [Bool.not_true, cond_false, segM_inl]
  cases leb 1 (a0.1.length : Int) <;> cases leb (a0.1.length : Int) 20 <;> rfl
noncomputable def con_impl_MemOk : Con := ⟨I_impl_MemOk, U_impl_MemOk, fun x => (fun n => some ((n, ()), ())) (n_impl_MemOk x.1)⟩
theorem ok_impl_MemOk : ConOk Try.prog 43 con_impl_MemOk := (ok0_impl_MemOk).mono (fun x r hk h => (nn_impl_MemOk x.1 hk).trans h)
end
end Go.Tf
