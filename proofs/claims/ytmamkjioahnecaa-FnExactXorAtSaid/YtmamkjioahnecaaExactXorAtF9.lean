/- Functions of the program, and what they come to. -/
import Derived.Test.YtmamkjioahnecaaExactXorAtF8
namespace Go.Tf
open Go.Proofs
set_option synthInstance.maxHeartbeats 400000
set_option synthInstance.maxSize 10000
set_option linter.unusedVariables false
set_option linter.unusedSimpArgs false
set_option maxRecDepth 100000
/-! impl_XorAt -/
section
noncomputable def B_impl_XorAt : Code := (Try.f31.body).getD .skip
noncomputable def E_impl_XorAt : Env := envOf TT [(66, con_impl_XorOf), (91, con_impl_wordAt)] []
theorem fr_impl_XorAt_0 : FrOk Try.prog ⟨E_impl_XorAt, 33, fun _ => none⟩ B_impl_XorAt := frOk_base mixed tt_ok ⟨ok_impl_XorOf, ok_impl_wordAt, trivial⟩
noncomputable def D_impl_XorAt_0 : Nat → Option Seg := fun _ => none
def L_impl_XorAt_29 : Shape := ⟨[(1, false, [.int .i64]), (2, false, [.ptr 0 0]), (6, false, [.at 800000000]), (13, false, [.int .i64]), (14, false, [.int .i64])], [(0, [.int .i64, .int .i64, .int .i64, .br tM, .int .i64, .int .i64, .int .i64, .int .i64, .int .i64, .br tW, .int .i64, .bool, .bool])], [(800000000, tI, .fz)]⟩
def S_impl_XorAt_29 : Shape := ⟨[(1, false, [.int .i64]), (2, false, [.ptr 0 0]), (6, false, [.at 800000000]), (13, false, [.int .i64]), (14, false, [.ci .i64 0])], [(0, [.int .i64, .int .i64, .int .i64, .br tM, .int .i64, .int .i64, .int .i64, .int .i64, .int .i64, .br tW, .int .i64, .bool, .bool])], [(800000000, tI, .fz)]⟩
def O_impl_XorAt_29 : Shape := ⟨[(6, false, [.at 800000000])], [], [(800000000, tI, .fz)]⟩
def Z_impl_XorAt_29 : Shape := ⟨[(4, false, [.int .i64]), (5, false, [.bool])], [], []⟩
abbrev mk_impl_XorAt_29 (v0 : Int) (v1 : Int) (v2 : Int) (v3 : dA) (v4 : List Int) : (L_impl_XorAt_29).X := (((v0, ()), ((), ()), ((), ()), (v1, ()), (v2, ()), ()), ((v3.1, v3.2.1.1, v3.2.1.2, v3.2.2.1, v3.2.2.2.1, v3.2.2.2.2.1, v3.2.2.2.2.2.1, v3.2.2.2.2.2.2.1, v3.2.2.2.2.2.2.2.1, v3.2.2.2.2.2.2.2.2.1, v3.2.2.2.2.2.2.2.2.2.1, v3.2.2.2.2.2.2.2.2.2.2.1, v3.2.2.2.2.2.2.2.2.2.2.2, ()), ()), (v4, ()))
abbrev ms_impl_XorAt_29 (v0 : Int) (v1 : Int) (v2 : dA) (v3 : List Int) : (S_impl_XorAt_29).X := (((v0, ()), ((), ()), ((), ()), (v1, ()), ((), ()), ()), ((v2.1, v2.2.1.1, v2.2.1.2, v2.2.2.1, v2.2.2.2.1, v2.2.2.2.2.1, v2.2.2.2.2.2.1, v2.2.2.2.2.2.2.1, v2.2.2.2.2.2.2.2.1, v2.2.2.2.2.2.2.2.2.1, v2.2.2.2.2.2.2.2.2.2.1, v2.2.2.2.2.2.2.2.2.2.2.1, v2.2.2.2.2.2.2.2.2.2.2.2, ()), ()), (v3, ()))
abbrev mo_impl_XorAt_29 (v0 : List Int) : (O_impl_XorAt_29).X := ((((), ()), ()), (), (v0, ()))
abbrev mz_impl_XorAt_29 (v0 : Int) (v1 : Bool) : (Z_impl_XorAt_29).X := (((v0, ()), (v1, ()), ()), (), ())
noncomputable def st_impl_XorAt_29 (v0 : Int) (v1 : Int) (v2 : Int) (v3 : Int) (v4 : Int) (v5 : Int) (v6 : List dM) (v7 : Int) (v8 : Int) (v9 : Int) (v10 : Int) (v11 : Int) (v12 : List dW) (v13 : Int) (v14 : Bool) (v15 : Bool) (v16 : List Int) : Option ((L_impl_XorAt_29).X ⊕ ((O_impl_XorAt_29).X ⊕ (Z_impl_XorAt_29).X)) :=
  bif (ltb v2 v1) then
    bnd (o_impl_wordAt (v3, (v4, v5), v6, v7, v8, v9, v10, v11, v12, v13, v14, v15) v2 v0) fun r2 =>
    bif (!r2.1.2.1) then
      some (.inr (.inr (((0, ()), (false, ()), ()), (), ())))
    else
      bif (apok v16.length ([r2.1.1] : List Int).length 8) then
        some (.inl (((v0, ()), ((), ()), ((), ()), (v1, ()), ((IntKind.i64.wrap (v2 + 1)), ()), ()), ((v3, v4, v5, v6, v7, v8, v9, v10, v11, v12, v13, v14, v15, ()), ()), ((v16 ++ ([r2.1.1] : List Int)), ())))
      else none
  else
    some (.inr (.inl ((((), ()), ()), (), (v16, ()))))
noncomputable def stx_impl_XorAt_29 (x : (L_impl_XorAt_29).X) := st_impl_XorAt_29 x.1.1.1 x.1.2.2.2.1.1 x.1.2.2.2.2.1.1 x.2.1.1.1 x.2.1.1.2.1 x.2.1.1.2.2.1 x.2.1.1.2.2.2.1 x.2.1.1.2.2.2.2.1 x.2.1.1.2.2.2.2.2.1 x.2.1.1.2.2.2.2.2.2.1 x.2.1.1.2.2.2.2.2.2.2.1 x.2.1.1.2.2.2.2.2.2.2.2.1 x.2.1.1.2.2.2.2.2.2.2.2.2.1 x.2.1.1.2.2.2.2.2.2.2.2.2.2.1 x.2.1.1.2.2.2.2.2.2.2.2.2.2.2.1 x.2.1.1.2.2.2.2.2.2.2.2.2.2.2.2.1 x.2.2.1
def em_impl_XorAt_29 (x : (S_impl_XorAt_29).X) : (L_impl_XorAt_29).X := (((x.1.1.1, ()), ((), ()), ((), ()), (x.1.2.2.2.1.1, ()), (0, ()), ()), ((x.2.1.1.1, x.2.1.1.2.1, x.2.1.1.2.2.1, x.2.1.1.2.2.2.1, x.2.1.1.2.2.2.2.1, x.2.1.1.2.2.2.2.2.1, x.2.1.1.2.2.2.2.2.2.1, x.2.1.1.2.2.2.2.2.2.2.1, x.2.1.1.2.2.2.2.2.2.2.2.1, x.2.1.1.2.2.2.2.2.2.2.2.2.1, x.2.1.1.2.2.2.2.2.2.2.2.2.2.1, x.2.1.1.2.2.2.2.2.2.2.2.2.2.2.1, x.2.1.1.2.2.2.2.2.2.2.2.2.2.2.2.1, ()), ()), (x.2.2.1, ()))
noncomputable def c_impl_XorAt_29 : Code := (subN B_impl_XorAt 64 116).getD .skip
theorem a_impl_XorAt_29 : subN B_impl_XorAt 64 29 = some (.block 0 (.loop c_impl_XorAt_29)) := by kernel_rfl
theorem r_impl_XorAt_29 (x : (L_impl_XorAt_29).X) : roundT ⟨E_impl_XorAt, 33, D_impl_XorAt_0⟩ 0 c_impl_XorAt_29 116 L_impl_XorAt_29 O_impl_XorAt_29 Z_impl_XorAt_29 x = stx_impl_XorAt_29 x := by kernel_rfl
noncomputable def fu_impl_XorAt_29 (x : (S_impl_XorAt_29).X) : Nat := (fun (u0 : Int) (u1 : Int) (u2 : Int) (u3 : Int) (u4 : Int) (u5 : List dM) (u6 : Int) (u7 : Int) (u8 : Int) (u9 : Int) (u10 : Int) (u11 : List dW) (u12 : Int) (u13 : Bool) (u14 : Bool) (u15 : List Int) => 18446744073709551616) x.1.1.1 x.1.2.2.2.1.1 x.2.1.1.1 x.2.1.1.2.1 x.2.1.1.2.2.1 x.2.1.1.2.2.2.1 x.2.1.1.2.2.2.2.1 x.2.1.1.2.2.2.2.2.1 x.2.1.1.2.2.2.2.2.2.1 x.2.1.1.2.2.2.2.2.2.2.1 x.2.1.1.2.2.2.2.2.2.2.2.1 x.2.1.1.2.2.2.2.2.2.2.2.2.1 x.2.1.1.2.2.2.2.2.2.2.2.2.2.1 x.2.1.1.2.2.2.2.2.2.2.2.2.2.2.1 x.2.1.1.2.2.2.2.2.2.2.2.2.2.2.2.1 x.2.2.1
noncomputable def F_impl_XorAt_29 (x : (S_impl_XorAt_29).X) : Option ((O_impl_XorAt_29).X ⊕ (Z_impl_XorAt_29).X) := loopN stx_impl_XorAt_29 (fu_impl_XorAt_29 x) (em_impl_XorAt_29 x)
noncomputable def sg_impl_XorAt_29 : Seg := ⟨S_impl_XorAt_29, O_impl_XorAt_29, Z_impl_XorAt_29, F_impl_XorAt_29⟩
noncomputable def D_impl_XorAt_1 : Nat → Option Seg := fun q => bif Nat.beq q 29 then some sg_impl_XorAt_29 else D_impl_XorAt_0 q
theorem fr_impl_XorAt_1 : FrOk Try.prog ⟨E_impl_XorAt, 33, D_impl_XorAt_1⟩ B_impl_XorAt := (fr_impl_XorAt_0).loop (sg := sg_impl_XorAt_29) L_impl_XorAt_29 em_impl_XorAt_29 (by decide) a_impl_XorAt_29 stx_impl_XorAt_29 fu_impl_XorAt_29 (by decide) (fun _ => rfl) (fun x r _ h => h) r_impl_XorAt_29
abbrev I_impl_XorAt : List Par := [.rd tA, .rd tI]
abbrev U_impl_XorAt : List OT := [⟨false, tI, .fz⟩, ⟨false, tB, .fz⟩]
noncomputable def raw_impl_XorAt (a0 : dA) (a1 : Int) : Option (ResD U_impl_XorAt × MutD I_impl_XorAt) :=
  segM (F_impl_XorAt_29 (((a1, ()), ((), ()), ((), ()), ((a0.2.2.1.length : Int), ()), ((), ()), ()), ((a0.1, a0.2.1.1, a0.2.1.2, a0.2.2.1, a0.2.2.2.1, a0.2.2.2.2.1, a0.2.2.2.2.2.1, a0.2.2.2.2.2.2.1, a0.2.2.2.2.2.2.2.1, a0.2.2.2.2.2.2.2.2.1, a0.2.2.2.2.2.2.2.2.2.1, a0.2.2.2.2.2.2.2.2.2.2.1, a0.2.2.2.2.2.2.2.2.2.2.2, ()), ()), (([] : List Int), ()))) (fun y2 =>
    let r4 := n_impl_XorOf y2.2.2.1
    some ((r4, true, ()), ())) (fun y2 =>
    some ((y2.1.1.1, y2.1.2.1.1, ()), ()))
theorem e_impl_XorAt (x : InD I_impl_XorAt) : execF ⟨E_impl_XorAt, 33, D_impl_XorAt_1⟩ Try.f31.results.toList B_impl_XorAt I_impl_XorAt U_impl_XorAt x = raw_impl_XorAt x.1 x.2.1 := by kernel_rfl
theorem ok0_impl_XorAt : ConOk Try.prog 31 ⟨I_impl_XorAt, U_impl_XorAt, fun x => raw_impl_XorAt x.1 x.2.1⟩ := conOk_exec (fr_impl_XorAt_1) Try.func31 (by kernel_rfl) (by kernel_rfl) Try.ntmps31.symm (by decide) (fun x r h => (e_impl_XorAt x).trans h)
noncomputable def n_impl_XorAt (a0 : dA) (a1 : Int) : Int × Bool := xorAt a0 a1
theorem foldl_snoc {α β : Type} (f : α → β) : ∀ (l : List α) (s : List β), l.foldl (fun s i => s ++ [f i]) s = s ++ l.map f
  | [], s => by simp
  | x :: l, s => by rw [List.foldl_cons, foldl_snoc f l]; simp
theorem nn_impl_XorAt (a0 : dA) (a1 : Int) (hk : InOk I_impl_XorAt (a0, a1, ())) : raw_impl_XorAt a0 a1 = (fun n => some ((n.1, n.2, ()), ())) (n_impl_XorAt a0 a1) := by
  have hb : a0.2.2.1.length * 80 ≤ 2 ^ 47 := hk.1.2.2.1.1
  have h1 : F_impl_XorAt_29 (ms_impl_XorAt_29 a1 a0.2.2.1.length a0 []) = some (bif allWords a0 a1 then .inl (mo_impl_XorAt_29 ((List.range a0.2.2.1.length).foldl (fun n (i : Nat) => n ++ [word a0 i a1]) [])) else .inr (mz_impl_XorAt_29 0 false)) :=
    loopN_foldE (step := stx_impl_XorAt_29) a0.2.2.1.length (fun i s => mk_impl_XorAt_29 a1 a0.2.2.1.length i a0 s) (fun (i : Nat) => wordOk a0 i a1) (fun n (i : Nat) => n ++ [word a0 i a1]) (fun i s => s.length = i) (fun s => .inl (mo_impl_XorAt_29 s)) _ (fun i s hi hs => ⟨by
      simp only [stx_impl_XorAt_29, mk_impl_XorAt_29, st_impl_XorAt_29, ltb_t (show (i : Int) < a0.2.2.1.length by omega), cond_true, wr (show -9223372036854775808 ≤ (i : Int) + 1 by omega) (by omega), Int.natCast_add, Int.natCast_one, Int.toNat_natCast, pr_eta, ot_impl_wordAt a0 i a1 (inb_nat hi), n_impl_wordAt, bnd_some]
      rw [show apok s.length ([word a0 i a1] : List Int).length 8 = true from apok_iff.2 (by simp only [List.length_cons, List.length_nil]; omega)]
      cases wordOk a0 i a1 <;> rfl, fun _ => by simp [hs]⟩) (fun s _ => by simp only [stx_impl_XorAt_29, mk_impl_XorAt_29, st_impl_XorAt_29, ltb_f (Int.le_refl _), cond_false]) [] rfl _ (by show _ < 18446744073709551616; omega)
  unfold raw_impl_XorAt n_impl_XorAt xorAt n_impl_XorOf
  rw [h1, foldl_snoc, List.nil_append]
  cases allWords a0 a1 <;> rfl
noncomputable def con_impl_XorAt : Con := ⟨I_impl_XorAt, U_impl_XorAt, fun x => (fun n => some ((n.1, n.2, ()), ())) (n_impl_XorAt x.1 x.2.1)⟩
theorem ok_impl_XorAt : ConOk Try.prog 31 con_impl_XorAt := (ok0_impl_XorAt).mono (fun x r hk h => (nn_impl_XorAt x.1 x.2.1 hk).trans h)
end

/-! laws_FnExactXorAt -/
section
noncomputable def B_laws_FnExactXorAt : Code := (Try.f5.body).getD .skip
noncomputable def E_laws_FnExactXorAt : Env := envOf TT [(25, con_laws_szArr), (27, con_laws_toArr), (29, con_laws_eqArr), (30, con_spec_XorAt), (31, con_impl_XorAt)] []
theorem fr_laws_FnExactXorAt_0 : FrOk Try.prog ⟨E_laws_FnExactXorAt, 44, fun _ => none⟩ B_laws_FnExactXorAt := frOk_base mixed tt_ok ⟨ok_laws_szArr, ok_laws_toArr, ok_laws_eqArr, ok_spec_XorAt, ok_impl_XorAt, trivial⟩
noncomputable def D_laws_FnExactXorAt_0 : Nat → Option Seg := fun _ => none
abbrev I_laws_FnExactXorAt : List Par := [.rd tA, .rd tI]
abbrev U_laws_FnExactXorAt : List OT := [⟨false, tB, .fz⟩]
noncomputable def raw_laws_FnExactXorAt (a0 : dA) (a1 : Int) : Option (ResD U_laws_FnExactXorAt × MutD I_laws_FnExactXorAt) :=
  let r1 := n_laws_szArr a0 1048576
  bif (ltb r1 0) then
    some ((true, ()), ())
  else
    let r2 := n_laws_toArr a0
    let r3 := n_spec_XorAt r2 a1
    let r4 := n_laws_toArr a0
    let r5 := n_impl_XorAt r4 a1
    bif (!(r5.1 != r3.1)) then
      bif (!(r5.2 == r3.2)) then
        some ((false, ()), ())
      else
        let r6 := n_laws_toArr a0
        let r7 := n_laws_eqArr r4 r6
        bif (!r7) then
          some ((false, ()), ())
        else
          some ((true, ()), ())
    else
      some ((false, ()), ())
theorem e_laws_FnExactXorAt (x : InD I_laws_FnExactXorAt) : execF ⟨E_laws_FnExactXorAt, 44, D_laws_FnExactXorAt_0⟩ Try.f5.results.toList B_laws_FnExactXorAt I_laws_FnExactXorAt U_laws_FnExactXorAt x = raw_laws_FnExactXorAt x.1 x.2.1 := by kernel_rfl
theorem ok0_laws_FnExactXorAt : ConOk Try.prog 5 ⟨I_laws_FnExactXorAt, U_laws_FnExactXorAt, fun x => raw_laws_FnExactXorAt x.1 x.2.1⟩ := conOk_exec (fr_laws_FnExactXorAt_0) Try.func5 (by kernel_rfl) (by kernel_rfl) Try.ntmps5.symm (by decide) (fun x r h => (e_laws_FnExactXorAt x).trans h)
noncomputable def n_laws_FnExactXorAt (a0 : dA) (a1 : Int) : Bool := true
theorem nn_laws_FnExactXorAt (a0 : dA) (a1 : Int) (hk : InOk I_laws_FnExactXorAt (a0, a1, ())) : raw_laws_FnExactXorAt a0 a1 = (fun n => some ((n, ()), ())) (n_laws_FnExactXorAt a0 a1) := by
  unfold raw_laws_FnExactXorAt n_laws_FnExactXorAt n_impl_XorAt n_spec_XorAt
  simp only [id_laws_toArr, bne_self_eq_false, beq_self_eq_true, Bool.not_true, Bool.not_false, cond_true, cond_false, eqr_laws_eqArr]
  cases ltb (n_laws_szArr a0 1048576) 0 <;> rfl
noncomputable def con_laws_FnExactXorAt : Con := ⟨I_laws_FnExactXorAt, U_laws_FnExactXorAt, fun x => (fun n => some ((n, ()), ())) (n_laws_FnExactXorAt x.1 x.2.1)⟩
theorem ok_laws_FnExactXorAt : ConOk Try.prog 5 con_laws_FnExactXorAt := (ok0_laws_FnExactXorAt).mono (fun x r hk h => (nn_laws_FnExactXorAt x.1 x.2.1 hk).trans h)
end
end Go.Tf
