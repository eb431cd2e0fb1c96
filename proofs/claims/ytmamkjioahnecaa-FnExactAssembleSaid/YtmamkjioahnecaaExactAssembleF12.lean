/- Functions of the program, and what they come to. -/
import Derived.Test.YtmamkjioahnecaaExactAssembleF11
namespace Go.Tf
open Go.Proofs
set_option synthInstance.maxHeartbeats 400000
set_option synthInstance.maxSize 10000
set_option linter.unusedVariables false
set_option linter.unusedSimpArgs false
set_option maxRecDepth 100000
/-! impl_BestSuper -/
section
noncomputable def B_impl_BestSuper : Code := (Try.f164.body).getD .skip
noncomputable def E_impl_BestSuper : Env := envOf TT [(108, con_impl_ReadSec), (184, con_impl_GetSuper)] []
theorem fr_impl_BestSuper_0 : FrOk Try.prog ⟨E_impl_BestSuper, 60, fun _ => none⟩ B_impl_BestSuper := frOk_base mixed tt_ok ⟨ok_impl_ReadSec, ok_impl_GetSuper, trivial⟩
noncomputable def D_impl_BestSuper_0 : Nat → Option Seg := fun _ => none
def L_impl_BestSuper_29 : Shape := ⟨[(1, false, [.int .i64]), (2, false, [.ptr 0 0]), (4, false, [.ptr 64 0]), (6, false, [.ptr 4160 0]), (7, false, [.bool]), (14, false, [.int .i64])], [(0, [.br tL, .br tW, .bool, .br tI]), (64, [.int .i64, .int .i64, .int .i64, .int .i64, .int .i64, .int .i64, .int .i64, .int .i64]), (4160, [.int .i64, .int .i64, .int .i64, .int .i64, .int .i64, .int .i64, .int .i64, .int .i64])], []⟩
def S_impl_BestSuper_29 : Shape := ⟨[(1, false, [.int .i64]), (2, false, [.ptr 0 0]), (4, false, [.ptr 64 0]), (6, false, [.ptr 4160 0]), (7, false, [.cb false]), (14, false, [.ci .i64 0])], [(0, [.br tL, .br tW, .bool, .br tI]), (64, [.int .i64, .int .i64, .int .i64, .int .i64, .int .i64, .int .i64, .int .i64, .int .i64]), (4160, [.int .i64, .int .i64, .int .i64, .int .i64, .int .i64, .int .i64, .int .i64, .int .i64])], []⟩
def O_impl_BestSuper_29 : Shape := ⟨[(4, false, [.ptr 64 0]), (6, false, [.ptr 4160 0]), (7, false, [.bool])], [(64, [.int .i64, .int .i64, .int .i64, .int .i64, .int .i64, .int .i64, .int .i64, .int .i64]), (4160, [.int .i64, .int .i64, .int .i64, .int .i64, .int .i64, .int .i64, .int .i64, .int .i64])], []⟩
def Z_impl_BestSuper_29 : Shape := ⟨[], [], []⟩
abbrev mk_impl_BestSuper_29 (v0 : Int) (v1 : Bool) (v2 : Int) (v3 : dM) (v4 : dS) (v5 : dS) : (L_impl_BestSuper_29).X := (((v0, ()), ((), ()), ((), ()), ((), ()), (v1, ()), (v2, ()), ()), ((v3.1, v3.2.1, v3.2.2.1, v3.2.2.2, ()), (v4.1, v4.2.1, v4.2.2.1, v4.2.2.2.1, v4.2.2.2.2.1, v4.2.2.2.2.2.1, v4.2.2.2.2.2.2.1, v4.2.2.2.2.2.2.2, ()), (v5.1, v5.2.1, v5.2.2.1, v5.2.2.2.1, v5.2.2.2.2.1, v5.2.2.2.2.2.1, v5.2.2.2.2.2.2.1, v5.2.2.2.2.2.2.2, ()), ()), ())
abbrev ms_impl_BestSuper_29 (v0 : Int) (v1 : dM) (v2 : dS) (v3 : dS) : (S_impl_BestSuper_29).X := (((v0, ()), ((), ()), ((), ()), ((), ()), ((), ()), ((), ()), ()), ((v1.1, v1.2.1, v1.2.2.1, v1.2.2.2, ()), (v2.1, v2.2.1, v2.2.2.1, v2.2.2.2.1, v2.2.2.2.2.1, v2.2.2.2.2.2.1, v2.2.2.2.2.2.2.1, v2.2.2.2.2.2.2.2, ()), (v3.1, v3.2.1, v3.2.2.1, v3.2.2.2.1, v3.2.2.2.2.1, v3.2.2.2.2.2.1, v3.2.2.2.2.2.2.1, v3.2.2.2.2.2.2.2, ()), ()), ())
abbrev mo_impl_BestSuper_29 (v0 : Bool) (v1 : dS) (v2 : dS) : (O_impl_BestSuper_29).X := ((((), ()), ((), ()), (v0, ()), ()), ((v1.1, v1.2.1, v1.2.2.1, v1.2.2.2.1, v1.2.2.2.2.1, v1.2.2.2.2.2.1, v1.2.2.2.2.2.2.1, v1.2.2.2.2.2.2.2, ()), (v2.1, v2.2.1, v2.2.2.1, v2.2.2.2.1, v2.2.2.2.2.1, v2.2.2.2.2.2.1, v2.2.2.2.2.2.2.1, v2.2.2.2.2.2.2.2, ()), ()), ())
noncomputable def st_impl_BestSuper_29 (v0 : Int) (v1 : Bool) (v2 : Int) (v3 : List (List Int)) (v4 : List dW) (v5 : Bool) (v6 : List Int) (v7 : Int) (v8 : Int) (v9 : Int) (v10 : Int) (v11 : Int) (v12 : Int) (v13 : Int) (v14 : Int) (v15 : Int) (v16 : Int) (v17 : Int) (v18 : Int) (v19 : Int) (v20 : Int) (v21 : Int) (v22 : Int) : Option ((L_impl_BestSuper_29).X ⊕ ((O_impl_BestSuper_29).X ⊕ (Z_impl_BestSuper_29).X)) :=
  bif (ltb v2 2) then
    let r3 := n_impl_ReadSec (v3, v4, v5, v6) v2
    let r4 := n_impl_GetSuper r3.1
    bif r3.2 then
      bif r4.2 then
        bif (r4.1.1 == v0) then
          bif ((r4.1.2.1.tmod 2) == v2) then
            bif (!(!v1)) then
              bif (ltb v16 r4.1.2.1) then
                some (.inl (((v0, ()), ((), ()), ((), ()), ((), ()), (true, ()), ((IntKind.i64.wrap (v2 + 1)), ()), ()), ((v3, v4, v5, v6, ()), (v7, v8, v9, v10, v11, v12, v13, v14, ()), (r4.1.1, r4.1.2.1, r4.1.2.2.1, r4.1.2.2.2.1, r4.1.2.2.2.2.1, r4.1.2.2.2.2.2.1, r4.1.2.2.2.2.2.2.1, r4.1.2.2.2.2.2.2.2, ()), ()), ()))
              else
                some (.inl (((v0, ()), ((), ()), ((), ()), ((), ()), (v1, ()), ((IntKind.i64.wrap (v2 + 1)), ()), ()), ((v3, v4, v5, v6, ()), (v7, v8, v9, v10, v11, v12, v13, v14, ()), (v15, v16, v17, v18, v19, v20, v21, v22, ()), ()), ()))
            else
              some (.inl (((v0, ()), ((), ()), ((), ()), ((), ()), (true, ()), ((IntKind.i64.wrap (v2 + 1)), ()), ()), ((v3, v4, v5, v6, ()), (v7, v8, v9, v10, v11, v12, v13, v14, ()), (r4.1.1, r4.1.2.1, r4.1.2.2.1, r4.1.2.2.2.1, r4.1.2.2.2.2.1, r4.1.2.2.2.2.2.1, r4.1.2.2.2.2.2.2.1, r4.1.2.2.2.2.2.2.2, ()), ()), ()))
          else
            some (.inl (((v0, ()), ((), ()), ((), ()), ((), ()), (v1, ()), ((IntKind.i64.wrap (v2 + 1)), ()), ()), ((v3, v4, v5, v6, ()), (v7, v8, v9, v10, v11, v12, v13, v14, ()), (v15, v16, v17, v18, v19, v20, v21, v22, ()), ()), ()))
        else
          some (.inl (((v0, ()), ((), ()), ((), ()), ((), ()), (v1, ()), ((IntKind.i64.wrap (v2 + 1)), ()), ()), ((v3, v4, v5, v6, ()), (v7, v8, v9, v10, v11, v12, v13, v14, ()), (v15, v16, v17, v18, v19, v20, v21, v22, ()), ()), ()))
      else
        some (.inl (((v0, ()), ((), ()), ((), ()), ((), ()), (v1, ()), ((IntKind.i64.wrap (v2 + 1)), ()), ()), ((v3, v4, v5, v6, ()), (v7, v8, v9, v10, v11, v12, v13, v14, ()), (v15, v16, v17, v18, v19, v20, v21, v22, ()), ()), ()))
    else
      some (.inl (((v0, ()), ((), ()), ((), ()), ((), ()), (v1, ()), ((IntKind.i64.wrap (v2 + 1)), ()), ()), ((v3, v4, v5, v6, ()), (v7, v8, v9, v10, v11, v12, v13, v14, ()), (v15, v16, v17, v18, v19, v20, v21, v22, ()), ()), ()))
  else
    some (.inr (.inl ((((), ()), ((), ()), (v1, ()), ()), ((v7, v8, v9, v10, v11, v12, v13, v14, ()), (v15, v16, v17, v18, v19, v20, v21, v22, ()), ()), ())))
noncomputable def stx_impl_BestSuper_29 (x : (L_impl_BestSuper_29).X) := st_impl_BestSuper_29 x.1.1.1 x.1.2.2.2.2.1.1 x.1.2.2.2.2.2.1.1 x.2.1.1.1 x.2.1.1.2.1 x.2.1.1.2.2.1 x.2.1.1.2.2.2.1 x.2.1.2.1.1 x.2.1.2.1.2.1 x.2.1.2.1.2.2.1 x.2.1.2.1.2.2.2.1 x.2.1.2.1.2.2.2.2.1 x.2.1.2.1.2.2.2.2.2.1 x.2.1.2.1.2.2.2.2.2.2.1 x.2.1.2.1.2.2.2.2.2.2.2.1 x.2.1.2.2.1.1 x.2.1.2.2.1.2.1 x.2.1.2.2.1.2.2.1 x.2.1.2.2.1.2.2.2.1 x.2.1.2.2.1.2.2.2.2.1 x.2.1.2.2.1.2.2.2.2.2.1 x.2.1.2.2.1.2.2.2.2.2.2.1 x.2.1.2.2.1.2.2.2.2.2.2.2.1
def em_impl_BestSuper_29 (x : (S_impl_BestSuper_29).X) : (L_impl_BestSuper_29).X := (((x.1.1.1, ()), ((), ()), ((), ()), ((), ()), (false, ()), (0, ()), ()), ((x.2.1.1.1, x.2.1.1.2.1, x.2.1.1.2.2.1, x.2.1.1.2.2.2.1, ()), (x.2.1.2.1.1, x.2.1.2.1.2.1, x.2.1.2.1.2.2.1, x.2.1.2.1.2.2.2.1, x.2.1.2.1.2.2.2.2.1, x.2.1.2.1.2.2.2.2.2.1, x.2.1.2.1.2.2.2.2.2.2.1, x.2.1.2.1.2.2.2.2.2.2.2.1, ()), (x.2.1.2.2.1.1, x.2.1.2.2.1.2.1, x.2.1.2.2.1.2.2.1, x.2.1.2.2.1.2.2.2.1, x.2.1.2.2.1.2.2.2.2.1, x.2.1.2.2.1.2.2.2.2.2.1, x.2.1.2.2.1.2.2.2.2.2.2.1, x.2.1.2.2.1.2.2.2.2.2.2.2.1, ()), ()), ())
noncomputable def c_impl_BestSuper_29 : Code := (subN B_impl_BestSuper 64 116).getD .skip
theorem a_impl_BestSuper_29 : subN B_impl_BestSuper 64 29 = some (.block 0 (.loop c_impl_BestSuper_29)) := by kernel_rfl
theorem r_impl_BestSuper_29 (x : (L_impl_BestSuper_29).X) : roundT ⟨E_impl_BestSuper, 60, D_impl_BestSuper_0⟩ 0 c_impl_BestSuper_29 116 L_impl_BestSuper_29 O_impl_BestSuper_29 Z_impl_BestSuper_29 x = stx_impl_BestSuper_29 x := by kernel_rfl
noncomputable def fu_impl_BestSuper_29 (x : (S_impl_BestSuper_29).X) : Nat := (fun (u0 : Int) (u1 : List (List Int)) (u2 : List dW) (u3 : Bool) (u4 : List Int) (u5 : Int) (u6 : Int) (u7 : Int) (u8 : Int) (u9 : Int) (u10 : Int) (u11 : Int) (u12 : Int) (u13 : Int) (u14 : Int) (u15 : Int) (u16 : Int) (u17 : Int) (u18 : Int) (u19 : Int) (u20 : Int) => 18446744073709551616) x.1.1.1 x.2.1.1.1 x.2.1.1.2.1 x.2.1.1.2.2.1 x.2.1.1.2.2.2.1 x.2.1.2.1.1 x.2.1.2.1.2.1 x.2.1.2.1.2.2.1 x.2.1.2.1.2.2.2.1 x.2.1.2.1.2.2.2.2.1 x.2.1.2.1.2.2.2.2.2.1 x.2.1.2.1.2.2.2.2.2.2.1 x.2.1.2.1.2.2.2.2.2.2.2.1 x.2.1.2.2.1.1 x.2.1.2.2.1.2.1 x.2.1.2.2.1.2.2.1 x.2.1.2.2.1.2.2.2.1 x.2.1.2.2.1.2.2.2.2.1 x.2.1.2.2.1.2.2.2.2.2.1 x.2.1.2.2.1.2.2.2.2.2.2.1 x.2.1.2.2.1.2.2.2.2.2.2.2.1
noncomputable def F_impl_BestSuper_29 (x : (S_impl_BestSuper_29).X) : Option ((O_impl_BestSuper_29).X ⊕ (Z_impl_BestSuper_29).X) := loopN stx_impl_BestSuper_29 (fu_impl_BestSuper_29 x) (em_impl_BestSuper_29 x)
noncomputable def sg_impl_BestSuper_29 : Seg := ⟨S_impl_BestSuper_29, O_impl_BestSuper_29, Z_impl_BestSuper_29, F_impl_BestSuper_29⟩
noncomputable def D_impl_BestSuper_1 : Nat → Option Seg := fun q => bif Nat.beq q 29 then some sg_impl_BestSuper_29 else D_impl_BestSuper_0 q
theorem fr_impl_BestSuper_1 : FrOk Try.prog ⟨E_impl_BestSuper, 60, D_impl_BestSuper_1⟩ B_impl_BestSuper := (fr_impl_BestSuper_0).loop (sg := sg_impl_BestSuper_29) L_impl_BestSuper_29 em_impl_BestSuper_29 (by decide) a_impl_BestSuper_29 stx_impl_BestSuper_29 fu_impl_BestSuper_29 (by decide) (fun _ => rfl) (fun x r _ h => h) r_impl_BestSuper_29
abbrev I_impl_BestSuper : List Par := [.rd tM, .rd tI]
abbrev U_impl_BestSuper : List OT := [⟨false, tS, (.pr .fz (.pr .fz (.pr .fz (.pr .fz (.pr .fz (.pr .fz (.pr .fz .fz)))))))⟩, ⟨false, tB, .fz⟩]
noncomputable def raw_impl_BestSuper (a0 : dM) (a1 : Int) : Option (ResD U_impl_BestSuper × MutD I_impl_BestSuper) :=
  segM (F_impl_BestSuper_29 (((a1, ()), ((), ()), ((), ()), ((), ()), ((), ()), ((), ()), ()), ((a0.1, a0.2.1, a0.2.2.1, a0.2.2.2, ()), (0, 0, 0, 0, 0, 0, 0, 0, ()), (0, 0, 0, 0, 0, 0, 0, 0, ()), ()), ())) (fun y4 =>
    some (((y4.2.1.2.1.1, y4.2.1.2.1.2.1, y4.2.1.2.1.2.2.1, y4.2.1.2.1.2.2.2.1, y4.2.1.2.1.2.2.2.2.1, y4.2.1.2.1.2.2.2.2.2.1, y4.2.1.2.1.2.2.2.2.2.2.1, y4.2.1.2.1.2.2.2.2.2.2.2.1), y4.1.2.2.1.1, ()), ())) (fun y4 =>
    none)
theorem e_impl_BestSuper (x : InD I_impl_BestSuper) : execF ⟨E_impl_BestSuper, 60, D_impl_BestSuper_1⟩ Try.f164.results.toList B_impl_BestSuper I_impl_BestSuper U_impl_BestSuper x = raw_impl_BestSuper x.1 x.2.1 := by kernel_rfl
theorem ok0_impl_BestSuper : ConOk Try.prog 164 ⟨I_impl_BestSuper, U_impl_BestSuper, fun x => raw_impl_BestSuper x.1 x.2.1⟩ := conOk_exec (fr_impl_BestSuper_1) Try.func164 (by kernel_rfl) (by kernel_rfl) Try.ntmps164.symm (by decide) (fun x r h => (e_impl_BestSuper x).trans h)
noncomputable def n_impl_BestSuper (a0 : dM) (a1 : Int) : dS × Bool := bestSuper a0 a1
theorem nn_impl_BestSuper (a0 : dM) (a1 : Int) (hk : InOk I_impl_BestSuper (a0, a1, ())) : raw_impl_BestSuper a0 a1 = (fun n => some ((n.1, n.2, ()), ())) (n_impl_BestSuper a0 a1) := by
  have h1 := loopN_rng (step := stx_impl_BestSuper_29) 2 (fun i s => mk_impl_BestSuper_29 a1 s.2 i a0 noSuper s.1) (fun (s : dS × Bool) (i : Nat) => better s (candOk a0 a1 i) (cand a0 i)) (fun _ _ => True) (fun s => .inl (mo_impl_BestSuper_29 s.2 noSuper s.1)) (fun i s hi _ => ⟨by
    simp only [stx_impl_BestSuper_29, mk_impl_BestSuper_29, st_impl_BestSuper_29, ltb_t (show (i : Int) < 2 by omega), cond_true, wr (show -9223372036854775808 ≤ (i : Int) + 1 by omega) (by omega), Int.natCast_add, Int.natCast_one, Int.toNat_natCast, pr_eta, n_impl_ReadSec, n_impl_GetSuper]
    unfold candOk better cand
    cases (readSec a0 i).2 <;> cases (getSuper (readSec a0 i).1).2 <;> cases ((getSuper (readSec a0 i).1).1.1 == a1) <;> cases ((getSuper (readSec a0 i).1).1.2.1.tmod 2 == (i : Int)) <;> cases hf : s.2 <;> cases ltb s.1.2.1 (getSuper (readSec a0 i).1).1.2.1 <;> simp only [Bool.not_true, Bool.not_false, cond_true, cond_false, Bool.and_true, Bool.true_and, Bool.false_and, Bool.and_false, Bool.or_true, Bool.true_or, Bool.false_or, Bool.or_false, hf], trivial⟩) (fun s _ => by simp only [stx_impl_BestSuper_29, mk_impl_BestSuper_29, st_impl_BestSuper_29]; rfl) (noSuper, false) trivial 18446744073709551616 (by omega)
  unfold raw_impl_BestSuper n_impl_BestSuper
  rw [show F_impl_BestSuper_29 (ms_impl_BestSuper_29 a1 a0 noSuper noSuper) = _ from h1]; rfl
noncomputable def con_impl_BestSuper : Con := ⟨I_impl_BestSuper, U_impl_BestSuper, fun x => (fun n => some ((n.1, n.2, ()), ())) (n_impl_BestSuper x.1 x.2.1)⟩
theorem ok_impl_BestSuper : ConOk Try.prog 164 con_impl_BestSuper := (ok0_impl_BestSuper).mono (fun x r hk h => (nn_impl_BestSuper x.1 x.2.1 hk).trans h)
end

/-! impl_ownSuper -/
section
noncomputable def B_impl_ownSuper : Code := (Try.f118.body).getD .skip
noncomputable def E_impl_ownSuper : Env := envOf TT [(128, con_impl_MemOk), (164, con_impl_BestSuper)] []
theorem fr_impl_ownSuper_0 : FrOk Try.prog ⟨E_impl_ownSuper, 35, fun _ => none⟩ B_impl_ownSuper := frOk_base mixed tt_ok ⟨ok_impl_MemOk, ok_impl_BestSuper, trivial⟩
noncomputable def D_impl_ownSuper_0 : Nat → Option Seg := fun _ => none
abbrev I_impl_ownSuper : List Par := [.rd tM, .rd tI, .rd tI]
abbrev U_impl_ownSuper : List OT := [⟨false, tS, (.pr .fz (.pr .fz (.pr .fz (.pr .fz (.pr .fz (.pr .fz (.pr .fz .fz)))))))⟩, ⟨false, tB, .fz⟩]
noncomputable def raw_impl_ownSuper (a0 : dM) (a1 : Int) (a2 : Int) : Option (ResD U_impl_ownSuper × MutD I_impl_ownSuper) :=
  let r1 := n_impl_BestSuper a0 a2
  let r2 := n_impl_MemOk a0
  bif (!(!r2)) then
    bif (!a0.2.2.1) then
      bif (!(!r1.2)) then
        bif (r1.1.2.2.1 != a1) then
          some (((0, 0, 0, 0, 0, 0, 0, 0), false, ()), ())
        else
          some ((r1.1, true, ()), ())
      else
        some (((0, 0, 0, 0, 0, 0, 0, 0), false, ()), ())
    else
      some (((0, 0, 0, 0, 0, 0, 0, 0), false, ()), ())
  else
    some (((0, 0, 0, 0, 0, 0, 0, 0), false, ()), ())
theorem e_impl_ownSuper (x : InD I_impl_ownSuper) : execF ⟨E_impl_ownSuper, 35, D_impl_ownSuper_0⟩ Try.f118.results.toList B_impl_ownSuper I_impl_ownSuper U_impl_ownSuper x = raw_impl_ownSuper x.1 x.2.1 x.2.2.1 := by kernel_rfl
theorem ok0_impl_ownSuper : ConOk Try.prog 118 ⟨I_impl_ownSuper, U_impl_ownSuper, fun x => raw_impl_ownSuper x.1 x.2.1 x.2.2.1⟩ := conOk_exec (fr_impl_ownSuper_0) Try.func118 (by kernel_rfl) (by kernel_rfl) Try.ntmps118.symm (by decide) (fun x r h => (e_impl_ownSuper x).trans h)
noncomputable def n_impl_ownSuper (a0 : dM) (a1 a2 : Int) : dS × Bool := bif ownOk a0 a1 a2 then ((bestSuper a0 a2).1, true) else (noSuper, false)
theorem nn_impl_ownSuper (a0 : dM) (a1 a2 : Int) (hk : InOk I_impl_ownSuper (a0, a1, a2, ())) : raw_impl_ownSuper a0 a1 a2 = (fun n => some ((n.1, n.2, ()), ())) (n_impl_ownSuper a0 a1 a2) := by
  unfold raw_impl_ownSuper n_impl_ownSuper ownOk
  simp only [n_impl_BestSuper, n_impl_MemOk, bne]
  cases hb : (bestSuper a0 a2).2
  · cases memOk a0 <;> cases a0.2.2.1 <;> rfl
  · rw [best_mem hb]
    cases a0.2.2.1 <;> cases ((bestSuper a0 a2).1.2.2.1 == a1) <;> rfl
noncomputable def con_impl_ownSuper : Con := ⟨I_impl_ownSuper, U_impl_ownSuper, fun x => (fun n => some ((n.1, n.2, ()), ())) (n_impl_ownSuper x.1 x.2.1 x.2.2.1)⟩
theorem ok_impl_ownSuper : ConOk Try.prog 118 con_impl_ownSuper := (ok0_impl_ownSuper).mono (fun x r hk h => (nn_impl_ownSuper x.1 x.2.1 x.2.2.1 hk).trans h)
end

/-! impl_copyMem -/
section
noncomputable def B_impl_copyMem : Code := (Try.f136.body).getD .skip
noncomputable def E_impl_copyMem : Env := envOf TT [(97, con_impl_copyInts)] []
theorem fr_impl_copyMem_0 : FrOk Try.prog ⟨E_impl_copyMem, 49, fun _ => none⟩ B_impl_copyMem := frOk_base mixed tt_ok ⟨ok_impl_copyInts, trivial⟩
noncomputable def D_impl_copyMem_0 : Nat → Option Seg := fun _ => none
def L_impl_copyMem_29 : Shape := ⟨[(1, false, [.ptr 0 0]), (2, false, [.ptr 64 0]), (3, false, [.ptr 4480 0]), (15, false, [.br tL]), (16, false, [.int .i64]), (17, false, [.int .i64])], [(0, [.br tL, .br tW, .bool, .br tI]), (64, [.nil, .nil, .bool, .nil]), (4480, [.at 800000001, .nil, .bool, .at 800000000])], [(800000001, tL, (.ow .fz)), (800000000, tI, .fz)]⟩
def S_impl_copyMem_29 : Shape := ⟨[(1, false, [.ptr 0 0]), (2, false, [.ptr 64 0]), (3, false, [.ptr 4480 0]), (15, false, [.br tL]), (16, false, [.int .i64]), (17, false, [.ci .i64 0])], [(0, [.br tL, .br tW, .bool, .br tI]), (64, [.nil, .nil, .bool, .nil]), (4480, [.at 800000001, .nil, .bool, .at 800000000])], [(800000001, tL, (.ow .fz)), (800000000, tI, .fz)]⟩
def O_impl_copyMem_29 : Shape := ⟨[(1, false, [.ptr 0 0]), (2, false, [.ptr 64 0]), (3, false, [.ptr 4480 0])], [(0, [.br tL, .br tW, .bool, .br tI]), (64, [.nil, .nil, .bool, .nil]), (4480, [.at 800000000, .nil, .bool, .at 800000001])], [(800000000, tL, (.ow .fz)), (800000001, tI, .fz)]⟩
def Z_impl_copyMem_29 : Shape := ⟨[], [], []⟩
abbrev mk_impl_copyMem_29 (v0 : List (List Int)) (v1 : Int) (v2 : Int) (v3 : dM) (v4 : dM) (v5 : dM) : (L_impl_copyMem_29).X := ((((), ()), ((), ()), ((), ()), (v0, ()), (v1, ()), (v2, ()), ()), ((v3.1, v3.2.1, v3.2.2.1, v3.2.2.2, ()), ((), (), v4.2.2.1, (), ()), ((), (), v5.2.2.1, (), ()), ()), (v5.1, v5.2.2.2, ()))
abbrev ms_impl_copyMem_29 (v0 : List (List Int)) (v1 : Int) (v2 : dM) (v3 : dM) (v4 : dM) : (S_impl_copyMem_29).X := ((((), ()), ((), ()), ((), ()), (v0, ()), (v1, ()), ((), ()), ()), ((v2.1, v2.2.1, v2.2.2.1, v2.2.2.2, ()), ((), (), v3.2.2.1, (), ()), ((), (), v4.2.2.1, (), ()), ()), (v4.1, v4.2.2.2, ()))
abbrev mo_impl_copyMem_29 (v0 : dM) (v1 : dM) (v2 : dM) : (O_impl_copyMem_29).X := ((((), ()), ((), ()), ((), ()), ()), ((v0.1, v0.2.1, v0.2.2.1, v0.2.2.2, ()), ((), (), v1.2.2.1, (), ()), ((), (), v2.2.2.1, (), ()), ()), (v2.1, v2.2.2.2, ()))
noncomputable def st_impl_copyMem_29 (v0 : List (List Int)) (v1 : Int) (v2 : Int) (v3 : List (List Int)) (v4 : List dW) (v5 : Bool) (v6 : List Int) (v7 : Bool) (v8 : Bool) (v9 : List (List Int)) (v10 : List Int) : Option ((L_impl_copyMem_29).X ⊕ ((O_impl_copyMem_29).X ⊕ (Z_impl_copyMem_29).X)) :=
  bif (ltb v2 v1) then
    bif (inb v2 v0.length) then
      let r4 := n_impl_copyInts (nth v0 v2 [])
      bif (apok v9.length ([r4] : List (List Int)).length 24) then
        some (.inl ((((), ()), ((), ()), ((), ()), (v0, ()), (v1, ()), ((IntKind.i64.wrap (v2 + 1)), ()), ()), ((v3, v4, v5, v6, ()), ((), (), v7, (), ()), ((), (), v8, (), ()), ()), ((v9 ++ ([r4] : List (List Int))), v10, ())))
      else none
    else none
  else
    some (.inr (.inl ((((), ()), ((), ()), ((), ()), ()), ((v3, v4, v5, v6, ()), ((), (), v7, (), ()), ((), (), v8, (), ()), ()), (v9, v10, ()))))
noncomputable def stx_impl_copyMem_29 (x : (L_impl_copyMem_29).X) := st_impl_copyMem_29 x.1.2.2.2.1.1 x.1.2.2.2.2.1.1 x.1.2.2.2.2.2.1.1 x.2.1.1.1 x.2.1.1.2.1 x.2.1.1.2.2.1 x.2.1.1.2.2.2.1 x.2.1.2.1.2.2.1 x.2.1.2.2.1.2.2.1 x.2.2.1 x.2.2.2.1
def em_impl_copyMem_29 (x : (S_impl_copyMem_29).X) : (L_impl_copyMem_29).X := ((((), ()), ((), ()), ((), ()), (x.1.2.2.2.1.1, ()), (x.1.2.2.2.2.1.1, ()), (0, ()), ()), ((x.2.1.1.1, x.2.1.1.2.1, x.2.1.1.2.2.1, x.2.1.1.2.2.2.1, ()), ((), (), x.2.1.2.1.2.2.1, (), ()), ((), (), x.2.1.2.2.1.2.2.1, (), ()), ()), (x.2.2.1, x.2.2.2.1, ()))
noncomputable def c_impl_copyMem_29 : Code := (subN B_impl_copyMem 64 116).getD .skip
theorem a_impl_copyMem_29 : subN B_impl_copyMem 64 29 = some (.block 0 (.loop c_impl_copyMem_29)) := by kernel_rfl
theorem r_impl_copyMem_29 (x : (L_impl_copyMem_29).X) : roundT ⟨E_impl_copyMem, 49, D_impl_copyMem_0⟩ 0 c_impl_copyMem_29 116 L_impl_copyMem_29 O_impl_copyMem_29 Z_impl_copyMem_29 x = stx_impl_copyMem_29 x := by kernel_rfl
noncomputable def fu_impl_copyMem_29 (x : (S_impl_copyMem_29).X) : Nat := (fun (u0 : List (List Int)) (u1 : Int) (u2 : List (List Int)) (u3 : List dW) (u4 : Bool) (u5 : List Int) (u6 : Bool) (u7 : Bool) (u8 : List (List Int)) (u9 : List Int) => 18446744073709551616) x.1.2.2.2.1.1 x.1.2.2.2.2.1.1 x.2.1.1.1 x.2.1.1.2.1 x.2.1.1.2.2.1 x.2.1.1.2.2.2.1 x.2.1.2.1.2.2.1 x.2.1.2.2.1.2.2.1 x.2.2.1 x.2.2.2.1
noncomputable def F_impl_copyMem_29 (x : (S_impl_copyMem_29).X) : Option ((O_impl_copyMem_29).X ⊕ (Z_impl_copyMem_29).X) := loopN stx_impl_copyMem_29 (fu_impl_copyMem_29 x) (em_impl_copyMem_29 x)
noncomputable def sg_impl_copyMem_29 : Seg := ⟨S_impl_copyMem_29, O_impl_copyMem_29, Z_impl_copyMem_29, F_impl_copyMem_29⟩
noncomputable def D_impl_copyMem_1 : Nat → Option Seg := fun q => bif Nat.beq q 29 then some sg_impl_copyMem_29 else D_impl_copyMem_0 q
theorem fr_impl_copyMem_1 : FrOk Try.prog ⟨E_impl_copyMem, 49, D_impl_copyMem_1⟩ B_impl_copyMem := (fr_impl_copyMem_0).loop (sg := sg_impl_copyMem_29) L_impl_copyMem_29 em_impl_copyMem_29 (by decide) a_impl_copyMem_29 stx_impl_copyMem_29 fu_impl_copyMem_29 (by decide) (fun _ => rfl) (fun x r _ h => h) r_impl_copyMem_29
def L_impl_copyMem_61 : Shape := ⟨[(2, false, [.ptr 64 0]), (3, false, [.ptr 4480 0]), (30, false, [.br tW]), (31, false, [.int .i64]), (32, false, [.int .i64])], [(64, [.nil, .nil, .bool, .nil]), (4480, [.at 800000000, .at 800000002, .bool, .at 800000001])], [(800000000, tL, (.ow .fz)), (800000002, tW, (.pr .fz (.ow .fz))), (800000001, tI, .fz)]⟩
def S_impl_copyMem_61 : Shape := ⟨[(2, false, [.ptr 64 0]), (3, false, [.ptr 4480 0]), (30, false, [.br tW]), (31, false, [.int .i64]), (32, false, [.ci .i64 0])], [(64, [.nil, .nil, .bool, .nil]), (4480, [.at 800000000, .at 800000002, .bool, .at 800000001])], [(800000000, tL, (.ow .fz)), (800000002, tW, (.pr .fz (.ow .fz))), (800000001, tI, .fz)]⟩
def O_impl_copyMem_61 : Shape := ⟨[(2, false, [.ptr 64 0]), (3, false, [.ptr 4480 0])], [(64, [.nil, .nil, .bool, .nil]), (4480, [.at 800000000, .at 800000001, .bool, .at 800000002])], [(800000000, tL, (.ow .fz)), (800000001, tW, (.pr .fz (.ow .fz))), (800000002, tI, .fz)]⟩
def Z_impl_copyMem_61 : Shape := ⟨[], [], []⟩
abbrev mk_impl_copyMem_61 (v0 : List dW) (v1 : Int) (v2 : Int) (v3 : dM) (v4 : dM) : (L_impl_copyMem_61).X := ((((), ()), ((), ()), (v0, ()), (v1, ()), (v2, ()), ()), (((), (), v3.2.2.1, (), ()), ((), (), v4.2.2.1, (), ()), ()), (v4.1, v4.2.1, v4.2.2.2, ()))
abbrev ms_impl_copyMem_61 (v0 : List dW) (v1 : Int) (v2 : dM) (v3 : dM) : (S_impl_copyMem_61).X := ((((), ()), ((), ()), (v0, ()), (v1, ()), ((), ()), ()), (((), (), v2.2.2.1, (), ()), ((), (), v3.2.2.1, (), ()), ()), (v3.1, v3.2.1, v3.2.2.2, ()))
abbrev mo_impl_copyMem_61 (v0 : dM) (v1 : dM) : (O_impl_copyMem_61).X := ((((), ()), ((), ()), ()), (((), (), v0.2.2.1, (), ()), ((), (), v1.2.2.1, (), ()), ()), (v1.1, v1.2.1, v1.2.2.2, ()))
noncomputable def st_impl_copyMem_61 (v0 : List dW) (v1 : Int) (v2 : Int) (v3 : Bool) (v4 : Bool) (v5 : List (List Int)) (v6 : List dW) (v7 : List Int) : Option ((L_impl_copyMem_61).X ⊕ ((O_impl_copyMem_61).X ⊕ (Z_impl_copyMem_61).X)) :=
  bif (ltb v2 v1) then
    bif (inb v2 v0.length) then
      let r8 := n_impl_copyInts ((nth v0 v2 (0, [])).2)
      bif (apok v6.length ([((nth v0 v2 (0, [])).1, r8)] : List dW).length 32) then
        some (.inl ((((), ()), ((), ()), (v0, ()), (v1, ()), ((IntKind.i64.wrap (v2 + 1)), ()), ()), (((), (), v3, (), ()), ((), (), v4, (), ()), ()), (v5, (v6 ++ ([((nth v0 v2 (0, [])).1, r8)] : List dW)), v7, ())))
      else none
    else none
  else
    some (.inr (.inl ((((), ()), ((), ()), ()), (((), (), v3, (), ()), ((), (), v4, (), ()), ()), (v5, v6, v7, ()))))
noncomputable def stx_impl_copyMem_61 (x : (L_impl_copyMem_61).X) := st_impl_copyMem_61 x.1.2.2.1.1 x.1.2.2.2.1.1 x.1.2.2.2.2.1.1 x.2.1.1.2.2.1 x.2.1.2.1.2.2.1 x.2.2.1 x.2.2.2.1 x.2.2.2.2.1
def em_impl_copyMem_61 (x : (S_impl_copyMem_61).X) : (L_impl_copyMem_61).X := ((((), ()), ((), ()), (x.1.2.2.1.1, ()), (x.1.2.2.2.1.1, ()), (0, ()), ()), (((), (), x.2.1.1.2.2.1, (), ()), ((), (), x.2.1.2.1.2.2.1, (), ()), ()), (x.2.2.1, x.2.2.2.1, x.2.2.2.2.1, ()))
noncomputable def c_impl_copyMem_61 : Code := (subN B_impl_copyMem 64 244).getD .skip
theorem a_impl_copyMem_61 : subN B_impl_copyMem 64 61 = some (.block 2 (.loop c_impl_copyMem_61)) := by kernel_rfl
theorem r_impl_copyMem_61 (x : (L_impl_copyMem_61).X) : roundT ⟨E_impl_copyMem, 49, D_impl_copyMem_1⟩ 2 c_impl_copyMem_61 244 L_impl_copyMem_61 O_impl_copyMem_61 Z_impl_copyMem_61 x = stx_impl_copyMem_61 x := by kernel_rfl
noncomputable def fu_impl_copyMem_61 (x : (S_impl_copyMem_61).X) : Nat := (fun (u0 : List dW) (u1 : Int) (u2 : Bool) (u3 : Bool) (u4 : List (List Int)) (u5 : List dW) (u6 : List Int) => 18446744073709551616) x.1.2.2.1.1 x.1.2.2.2.1.1 x.2.1.1.2.2.1 x.2.1.2.1.2.2.1 x.2.2.1 x.2.2.2.1 x.2.2.2.2.1
noncomputable def F_impl_copyMem_61 (x : (S_impl_copyMem_61).X) : Option ((O_impl_copyMem_61).X ⊕ (Z_impl_copyMem_61).X) := loopN stx_impl_copyMem_61 (fu_impl_copyMem_61 x) (em_impl_copyMem_61 x)
noncomputable def sg_impl_copyMem_61 : Seg := ⟨S_impl_copyMem_61, O_impl_copyMem_61, Z_impl_copyMem_61, F_impl_copyMem_61⟩
noncomputable def D_impl_copyMem_2 : Nat → Option Seg := fun q => bif Nat.beq q 61 then some sg_impl_copyMem_61 else D_impl_copyMem_1 q
theorem fr_impl_copyMem_2 : FrOk Try.prog ⟨E_impl_copyMem, 49, D_impl_copyMem_2⟩ B_impl_copyMem := (fr_impl_copyMem_1).loop (sg := sg_impl_copyMem_61) L_impl_copyMem_61 em_impl_copyMem_61 (by decide) a_impl_copyMem_61 stx_impl_copyMem_61 fu_impl_copyMem_61 (by decide) (fun _ => rfl) (fun x r _ h => h) r_impl_copyMem_61
abbrev I_impl_copyMem : List Par := [.rd tM]
abbrev U_impl_copyMem : List OT := [⟨false, tM, (.pr (.ow (.ow .fz)) (.pr (.ow (.pr .fz (.ow .fz))) (.pr .fz (.ow .fz))))⟩]
noncomputable def raw_impl_copyMem (a0 : dM) : Option (ResD U_impl_copyMem × MutD I_impl_copyMem) :=
  let r1 := n_impl_copyInts a0.2.2.2
  segM (F_impl_copyMem_29 ((((), ()), ((), ()), ((), ()), (a0.1, ()), ((a0.1.length : Int), ()), ((), ()), ()), ((a0.1, a0.2.1, a0.2.2.1, a0.2.2.2, ()), ((), (), false, (), ()), ((), (), a0.2.2.1, (), ()), ()), ([], r1, ()))) (fun y4 =>
    segM (F_impl_copyMem_61 ((((), ()), ((), ()), (y4.2.1.1.2.1, ()), ((y4.2.1.1.2.1.length : Int), ()), ((), ()), ()), (((), (), y4.2.1.2.1.2.2.1, (), ()), ((), (), y4.2.1.2.2.1.2.2.1, (), ()), ()), (y4.2.2.1, [], y4.2.2.2.1, ()))) (fun y8 =>
      some (((y8.2.2.1, y8.2.2.2.1, y8.2.1.2.1.2.2.1, y8.2.2.2.2.1), ()), ())) (fun y8 =>
      none)) (fun y4 =>
    none)
theorem e_impl_copyMem (x : InD I_impl_copyMem) : execF ⟨E_impl_copyMem, 49, D_impl_copyMem_2⟩ Try.f136.results.toList B_impl_copyMem I_impl_copyMem U_impl_copyMem x = raw_impl_copyMem x.1 := by kernel_rfl
theorem ok0_impl_copyMem : ConOk Try.prog 136 ⟨I_impl_copyMem, U_impl_copyMem, fun x => raw_impl_copyMem x.1⟩ := conOk_exec (fr_impl_copyMem_2) Try.func136 (by kernel_rfl) (by kernel_rfl) Try.ntmps136.symm (by decide) (fun x r h => (e_impl_copyMem x).trans h)
noncomputable def n_impl_copyMem (a0 : dM) : dM := a0
theorem nn_impl_copyMem (a0 : dM) (hk : InOk I_impl_copyMem (a0, ())) : raw_impl_copyMem a0 = (fun n => some ((n, ()), ())) (n_impl_copyMem a0) := by
  have hb1 : a0.1.length * 24 ≤ 2 ^ 47 := hk.1.1.1
  have hb2 : a0.2.1.length * 32 ≤ 2 ^ 47 := hk.1.2.1.1
  have h1 : F_impl_copyMem_29 (ms_impl_copyMem_29 a0.1 a0.1.length a0 noMem ([], [], a0.2.2.1, a0.2.2.2)) = some (.inl (mo_impl_copyMem_29 a0 noMem (a0.1, [], a0.2.2.1, a0.2.2.2))) := by
    have := loopN_fold (step := stx_impl_copyMem_29) a0.1 [] (fun i s => mk_impl_copyMem_29 a0.1 a0.1.length i a0 noMem (s, [], a0.2.2.1, a0.2.2.2)) (fun s x => s ++ [x]) (fun i s => s.length = i) (fun s => .inl (mo_impl_copyMem_29 a0 noMem (s, [], a0.2.2.1, a0.2.2.2))) (fun i s hi hs2 => ⟨by
      simp only [stx_impl_copyMem_29, mk_impl_copyMem_29, st_impl_copyMem_29, ltb_t (show (i : Int) < a0.1.length by omega), cond_true, wr (show -9223372036854775808 ≤ (i : Int) + 1 by omega) (by omega), Int.natCast_add, Int.natCast_one, Int.toNat_natCast, inb_nat hi, nth_nat, n_impl_copyInts]
      rw [apok_iff.2 (show (s.length + [a0.1.getD i []].length) * 24 ≤ 140737488355328 by simp only [List.length_cons, List.length_nil]; omega)]; rfl, by simp [hs2]⟩) (fun s _ => by simp only [stx_impl_copyMem_29, mk_impl_copyMem_29, st_impl_copyMem_29, ltb_f (Int.le_refl _), cond_false]) [] rfl 18446744073709551616 (by omega)
    rw [foldl_id] at this
    exact this
  have h2 : F_impl_copyMem_61 (ms_impl_copyMem_61 a0.2.1 a0.2.1.length noMem (a0.1, [], a0.2.2.1, a0.2.2.2)) = some (.inl (mo_impl_copyMem_61 noMem a0)) := by
    have := loopN_fold (step := stx_impl_copyMem_61) a0.2.1 (0, []) (fun i s => mk_impl_copyMem_61 a0.2.1 a0.2.1.length i noMem (a0.1, s, a0.2.2.1, a0.2.2.2)) (fun s x => s ++ [x]) (fun i s => s.length = i) (fun s => .inl (mo_impl_copyMem_61 noMem (a0.1, s, a0.2.2.1, a0.2.2.2))) (fun i s hi hs2 => ⟨by
      simp only [stx_impl_copyMem_61, mk_impl_copyMem_61, st_impl_copyMem_61, ltb_t (show (i : Int) < a0.2.1.length by omega), cond_true, wr (show -9223372036854775808 ≤ (i : Int) + 1 by omega) (by omega), Int.natCast_add, Int.natCast_one, Int.toNat_natCast, inb_nat hi, nth_nat, n_impl_copyInts, pr_eta]
      rw [apok_iff.2 (show (s.length + [a0.2.1.getD i (0, [])].length) * 32 ≤ 140737488355328 by simp only [List.length_cons, List.length_nil]; omega)]; rfl, by simp [hs2]⟩) (fun s _ => by simp only [stx_impl_copyMem_61, mk_impl_copyMem_61, st_impl_copyMem_61, ltb_f (Int.le_refl _), cond_false]) [] rfl 18446744073709551616 (by omega)
    rw [foldl_id] at this
    exact this
  unfold raw_impl_copyMem n_impl_copyMem
  simp only [n_impl_copyInts, h1, segM_inl, h2]
noncomputable def con_impl_copyMem : Con := ⟨I_impl_copyMem, U_impl_copyMem, fun x => (fun n => some ((n, ()), ())) (n_impl_copyMem x.1)⟩
theorem ok_impl_copyMem : ConOk Try.prog 136 con_impl_copyMem := (ok0_impl_copyMem).mono (fun x r hk h => (nn_impl_copyMem x.1 hk).trans h)
end

/-! impl_copyMems -/
section
noncomputable def B_impl_copyMems : Code := (Try.f119.body).getD .skip
noncomputable def E_impl_copyMems : Env := envOf TT [(136, con_impl_copyMem)] []
theorem fr_impl_copyMems_0 : FrOk Try.prog ⟨E_impl_copyMems, 20, fun _ => none⟩ B_impl_copyMems := frOk_base mixed tt_ok ⟨ok_impl_copyMem, trivial⟩
noncomputable def D_impl_copyMems_0 : Nat → Option Seg := fun _ => none
def L_impl_copyMems_29 : Shape := ⟨[(3, false, [.at 800000000]), (7, false, [.br tM]), (8, false, [.int .i64]), (9, false, [.int .i64])], [], [(800000000, tM, (.pr (.ow (.ow .fz)) (.pr (.ow (.pr .fz (.ow .fz))) (.pr .fz (.ow .fz)))))]⟩
def S_impl_copyMems_29 : Shape := ⟨[(3, false, [.at 800000000]), (7, false, [.br tM]), (8, false, [.int .i64]), (9, false, [.ci .i64 0])], [], [(800000000, tM, (.pr (.ow (.ow .fz)) (.pr (.ow (.pr .fz (.ow .fz))) (.pr .fz (.ow .fz)))))]⟩
def O_impl_copyMems_29 : Shape := ⟨[(3, false, [.at 800000000])], [], [(800000000, tM, (.pr (.ow (.ow .fz)) (.pr (.ow (.pr .fz (.ow .fz))) (.pr .fz (.ow .fz)))))]⟩
def Z_impl_copyMems_29 : Shape := ⟨[], [], []⟩
abbrev mk_impl_copyMems_29 (v0 : List dM) (v1 : Int) (v2 : Int) (v3 : List dM) : (L_impl_copyMems_29).X := ((((), ()), (v0, ()), (v1, ()), (v2, ()), ()), (), (v3, ()))
abbrev ms_impl_copyMems_29 (v0 : List dM) (v1 : Int) (v2 : List dM) : (S_impl_copyMems_29).X := ((((), ()), (v0, ()), (v1, ()), ((), ()), ()), (), (v2, ()))
abbrev mo_impl_copyMems_29 (v0 : List dM) : (O_impl_copyMems_29).X := ((((), ()), ()), (), (v0, ()))
noncomputable def st_impl_copyMems_29 (v0 : List dM) (v1 : Int) (v2 : Int) (v3 : List dM) : Option ((L_impl_copyMems_29).X ⊕ ((O_impl_copyMems_29).X ⊕ (Z_impl_copyMems_29).X)) :=
  bif (ltb v2 v1) then
    bif (inb v2 v0.length) then
      let r2 := n_impl_copyMem ((nth v0 v2 ([], [], false, [])).1, ((nth v0 v2 ([], [], false, [])).2).1, (((nth v0 v2 ([], [], false, [])).2).2))
      bif (apok v3.length ([r2] : List dM).length 80) then
        some (.inl ((((), ()), (v0, ()), (v1, ()), ((IntKind.i64.wrap (v2 + 1)), ()), ()), (), ((v3 ++ ([r2] : List dM)), ())))
      else none
    else none
  else
    some (.inr (.inl ((((), ()), ()), (), (v3, ()))))
noncomputable def stx_impl_copyMems_29 (x : (L_impl_copyMems_29).X) := st_impl_copyMems_29 x.1.2.1.1 x.1.2.2.1.1 x.1.2.2.2.1.1 x.2.2.1
def em_impl_copyMems_29 (x : (S_impl_copyMems_29).X) : (L_impl_copyMems_29).X := ((((), ()), (x.1.2.1.1, ()), (x.1.2.2.1.1, ()), (0, ()), ()), (), (x.2.2.1, ()))
noncomputable def c_impl_copyMems_29 : Code := (subN B_impl_copyMems 64 116).getD .skip
theorem a_impl_copyMems_29 : subN B_impl_copyMems 64 29 = some (.block 0 (.loop c_impl_copyMems_29)) := by kernel_rfl
theorem r_impl_copyMems_29 (x : (L_impl_copyMems_29).X) : roundT ⟨E_impl_copyMems, 20, D_impl_copyMems_0⟩ 0 c_impl_copyMems_29 116 L_impl_copyMems_29 O_impl_copyMems_29 Z_impl_copyMems_29 x = stx_impl_copyMems_29 x := by kernel_rfl
noncomputable def fu_impl_copyMems_29 (x : (S_impl_copyMems_29).X) : Nat := (fun (u0 : List dM) (u1 : Int) (u2 : List dM) => 18446744073709551616) x.1.2.1.1 x.1.2.2.1.1 x.2.2.1
noncomputable def F_impl_copyMems_29 (x : (S_impl_copyMems_29).X) : Option ((O_impl_copyMems_29).X ⊕ (Z_impl_copyMems_29).X) := loopN stx_impl_copyMems_29 (fu_impl_copyMems_29 x) (em_impl_copyMems_29 x)
noncomputable def sg_impl_copyMems_29 : Seg := ⟨S_impl_copyMems_29, O_impl_copyMems_29, Z_impl_copyMems_29, F_impl_copyMems_29⟩
noncomputable def D_impl_copyMems_1 : Nat → Option Seg := fun q => bif Nat.beq q 29 then some sg_impl_copyMems_29 else D_impl_copyMems_0 q
theorem fr_impl_copyMems_1 : FrOk Try.prog ⟨E_impl_copyMems, 20, D_impl_copyMems_1⟩ B_impl_copyMems := (fr_impl_copyMems_0).loop (sg := sg_impl_copyMems_29) L_impl_copyMems_29 em_impl_copyMems_29 (by decide) a_impl_copyMems_29 stx_impl_copyMems_29 fu_impl_copyMems_29 (by decide) (fun _ => rfl) (fun x r _ h => h) r_impl_copyMems_29
abbrev I_impl_copyMems : List Par := [.rd tMs]
abbrev U_impl_copyMems : List OT := [⟨false, tMs, (.ow (.pr (.ow (.ow .fz)) (.pr (.ow (.pr .fz (.ow .fz))) (.pr .fz (.ow .fz)))))⟩]
noncomputable def raw_impl_copyMems (a0 : List dM) : Option (ResD U_impl_copyMems × MutD I_impl_copyMems) :=
  segM (F_impl_copyMems_29 ((((), ()), (a0, ()), ((a0.length : Int), ()), ((), ()), ()), (), (([] : List dM), ()))) (fun y2 =>
    some ((y2.2.2.1, ()), ())) (fun y2 =>
    none)
theorem e_impl_copyMems (x : InD I_impl_copyMems) : execF ⟨E_impl_copyMems, 20, D_impl_copyMems_1⟩ Try.f119.results.toList B_impl_copyMems I_impl_copyMems U_impl_copyMems x = raw_impl_copyMems x.1 := by kernel_rfl
theorem ok0_impl_copyMems : ConOk Try.prog 119 ⟨I_impl_copyMems, U_impl_copyMems, fun x => raw_impl_copyMems x.1⟩ := conOk_exec (fr_impl_copyMems_1) Try.func119 (by kernel_rfl) (by kernel_rfl) Try.ntmps119.symm (by decide) (fun x r h => (e_impl_copyMems x).trans h)
noncomputable def n_impl_copyMems (a0 : List dM) : List dM := a0
theorem nn_impl_copyMems (a0 : List dM) (hk : InOk I_impl_copyMems (a0, ())) : raw_impl_copyMems a0 = (fun n => some ((n, ()), ())) (n_impl_copyMems a0) := by
  have hb : a0.length * 80 ≤ 2 ^ 47 := hk.1.1
  have h1 := loopN_fold (step := stx_impl_copyMems_29) a0 noMem (fun i s => mk_impl_copyMems_29 a0 a0.length i s) (fun s x => s ++ [x]) (fun i s => s.length = i) (fun s => .inl (mo_impl_copyMems_29 s)) (fun i s hi hs => ⟨by
      simp only [stx_impl_copyMems_29, mk_impl_copyMems_29, st_impl_copyMems_29, ltb_t (show (i : Int) < a0.length by omega), cond_true, wr (show -9223372036854775808 ≤ (i : Int) + 1 by omega) (by omega), Int.natCast_add, Int.natCast_one, Int.toNat_natCast, inb_nat hi, nth_nat, n_impl_copyMem, pr_eta]
      rw [apok_iff.2 (show (s.length + [a0.getD i ([], [], false, [])].length) * 80 ≤ 140737488355328 by simp only [List.length_cons, List.length_nil]; omega)]; rfl, by simp [hs]⟩) (fun s hs => by simp only [stx_impl_copyMems_29, mk_impl_copyMems_29, st_impl_copyMems_29, ltb_f (Int.le_refl _), cond_false]) [] rfl 18446744073709551616 (by omega)
  rw [foldl_id] at h1
  unfold raw_impl_copyMems n_impl_copyMems
  rw [show F_impl_copyMems_29 (ms_impl_copyMems_29 a0 a0.length []) = _ from h1]; rfl
noncomputable def con_impl_copyMems : Con := ⟨I_impl_copyMems, U_impl_copyMems, fun x => (fun n => some ((n, ()), ())) (n_impl_copyMems x.1)⟩
theorem ok_impl_copyMems : ConOk Try.prog 119 con_impl_copyMems := (ok0_impl_copyMems).mono (fun x r hk h => (nn_impl_copyMems x.1 hk).trans h)
end

/-! impl_Assemble -/
section
noncomputable def B_impl_Assemble : Code := (Try.f59.body).getD .skip
noncomputable def E_impl_Assemble : Env := envOf TT [(70, con_impl_ArrOk), (118, con_impl_ownSuper), (119, con_impl_copyMems)] []
theorem fr_impl_Assemble_0 : FrOk Try.prog ⟨E_impl_Assemble, 109, fun _ => none⟩ B_impl_Assemble := frOk_base mixed tt_ok ⟨ok_impl_ArrOk, ok_impl_ownSuper, ok_impl_copyMems, trivial⟩
noncomputable def D_impl_Assemble_0 : Nat → Option Seg := fun _ => none
def L_impl_Assemble_29 : Shape := ⟨[(0, false, [.br tM]), (1, false, [.int .i64]), (4, false, [.ptr 0 0]), (6, false, [.ptr 4160 0]), (7, false, [.bool]), (18, false, [.br tM]), (19, false, [.int .i64]), (20, false, [.int .i64])], [(0, [.int .i64, .int .i64, .int .i64, .nil, .int .i64, .int .i64, .int .i64, .int .i64, .int .i64, .nil, .int .i64, .bool, .bool]), (4160, [.int .i64, .int .i64, .int .i64, .int .i64, .int .i64, .int .i64, .int .i64, .int .i64])], []⟩
def S_impl_Assemble_29 : Shape := ⟨[(0, false, [.br tM]), (1, false, [.int .i64]), (4, false, [.ptr 0 0]), (6, false, [.ptr 4160 0]), (7, false, [.cb false]), (18, false, [.br tM]), (19, false, [.int .i64]), (20, false, [.ci .i64 0])], [(0, [.int .i64, .int .i64, .int .i64, .nil, .int .i64, .int .i64, .int .i64, .int .i64, .int .i64, .nil, .int .i64, .bool, .bool]), (4160, [.int .i64, .int .i64, .int .i64, .int .i64, .int .i64, .int .i64, .int .i64, .int .i64])], []⟩
def O_impl_Assemble_29 : Shape := ⟨[(0, false, [.br tM]), (1, false, [.int .i64]), (4, false, [.ptr 0 0]), (6, false, [.ptr 4160 0]), (7, false, [.bool])], [(0, [.int .i64, .int .i64, .int .i64, .nil, .int .i64, .int .i64, .int .i64, .int .i64, .int .i64, .nil, .int .i64, .bool, .bool]), (4160, [.int .i64, .int .i64, .int .i64, .int .i64, .int .i64, .int .i64, .int .i64, .int .i64])], []⟩
def Z_impl_Assemble_29 : Shape := ⟨[], [], []⟩
abbrev mk_impl_Assemble_29 (v0 : List dM) (v1 : Int) (v2 : Bool) (v3 : List dM) (v4 : Int) (v5 : Int) (v6 : dA) (v7 : dS) : (L_impl_Assemble_29).X := (((v0, ()), (v1, ()), ((), ()), ((), ()), (v2, ()), (v3, ()), (v4, ()), (v5, ()), ()), ((v6.1, v6.2.1.1, v6.2.1.2, (), v6.2.2.2.1, v6.2.2.2.2.1, v6.2.2.2.2.2.1, v6.2.2.2.2.2.2.1, v6.2.2.2.2.2.2.2.1, (), v6.2.2.2.2.2.2.2.2.2.1, v6.2.2.2.2.2.2.2.2.2.2.1, v6.2.2.2.2.2.2.2.2.2.2.2, ()), (v7.1, v7.2.1, v7.2.2.1, v7.2.2.2.1, v7.2.2.2.2.1, v7.2.2.2.2.2.1, v7.2.2.2.2.2.2.1, v7.2.2.2.2.2.2.2, ()), ()), ())
abbrev ms_impl_Assemble_29 (v0 : List dM) (v1 : Int) (v2 : List dM) (v3 : Int) (v4 : dA) (v5 : dS) : (S_impl_Assemble_29).X := (((v0, ()), (v1, ()), ((), ()), ((), ()), ((), ()), (v2, ()), (v3, ()), ((), ()), ()), ((v4.1, v4.2.1.1, v4.2.1.2, (), v4.2.2.2.1, v4.2.2.2.2.1, v4.2.2.2.2.2.1, v4.2.2.2.2.2.2.1, v4.2.2.2.2.2.2.2.1, (), v4.2.2.2.2.2.2.2.2.2.1, v4.2.2.2.2.2.2.2.2.2.2.1, v4.2.2.2.2.2.2.2.2.2.2.2, ()), (v5.1, v5.2.1, v5.2.2.1, v5.2.2.2.1, v5.2.2.2.2.1, v5.2.2.2.2.2.1, v5.2.2.2.2.2.2.1, v5.2.2.2.2.2.2.2, ()), ()), ())
abbrev mo_impl_Assemble_29 (v0 : List dM) (v1 : Int) (v2 : Bool) (v3 : dA) (v4 : dS) : (O_impl_Assemble_29).X := (((v0, ()), (v1, ()), ((), ()), ((), ()), (v2, ()), ()), ((v3.1, v3.2.1.1, v3.2.1.2, (), v3.2.2.2.1, v3.2.2.2.2.1, v3.2.2.2.2.2.1, v3.2.2.2.2.2.2.1, v3.2.2.2.2.2.2.2.1, (), v3.2.2.2.2.2.2.2.2.2.1, v3.2.2.2.2.2.2.2.2.2.2.1, v3.2.2.2.2.2.2.2.2.2.2.2, ()), (v4.1, v4.2.1, v4.2.2.1, v4.2.2.2.1, v4.2.2.2.2.1, v4.2.2.2.2.2.1, v4.2.2.2.2.2.2.1, v4.2.2.2.2.2.2.2, ()), ()), ())
noncomputable def st_impl_Assemble_29 (v0 : List dM) (v1 : Int) (v2 : Bool) (v3 : List dM) (v4 : Int) (v5 : Int) (v6 : Int) (v7 : Int) (v8 : Int) (v9 : Int) (v10 : Int) (v11 : Int) (v12 : Int) (v13 : Int) (v14 : Int) (v15 : Bool) (v16 : Bool) (v17 : Int) (v18 : Int) (v19 : Int) (v20 : Int) (v21 : Int) (v22 : Int) (v23 : Int) (v24 : Int) : Option ((L_impl_Assemble_29).X ⊕ ((O_impl_Assemble_29).X ⊕ (Z_impl_Assemble_29).X)) :=
  bif (ltb v5 v4) then
    bif (inb v5 v3.length) then
      let r2 := n_impl_ownSuper ((nth v3 v5 ([], [], false, [])).1, ((nth v3 v5 ([], [], false, [])).2).1, (((nth v3 v5 ([], [], false, [])).2).2)) v5 v1
      bif r2.2 then
        bif (!(!v2)) then
          bif (ltb v18 r2.1.2.1) then
            some (.inl (((v0, ()), (v1, ()), ((), ()), ((), ()), (true, ()), (v3, ()), (v4, ()), ((IntKind.i64.wrap (v5 + 1)), ()), ()), ((v6, v7, v8, (), v9, v10, v11, v12, v13, (), v14, v15, v16, ()), (r2.1.1, r2.1.2.1, r2.1.2.2.1, r2.1.2.2.2.1, r2.1.2.2.2.2.1, r2.1.2.2.2.2.2.1, r2.1.2.2.2.2.2.2.1, r2.1.2.2.2.2.2.2.2, ()), ()), ()))
          else
            some (.inl (((v0, ()), (v1, ()), ((), ()), ((), ()), (v2, ()), (v3, ()), (v4, ()), ((IntKind.i64.wrap (v5 + 1)), ()), ()), ((v6, v7, v8, (), v9, v10, v11, v12, v13, (), v14, v15, v16, ()), (v17, v18, v19, v20, v21, v22, v23, v24, ()), ()), ()))
        else
          some (.inl (((v0, ()), (v1, ()), ((), ()), ((), ()), (true, ()), (v3, ()), (v4, ()), ((IntKind.i64.wrap (v5 + 1)), ()), ()), ((v6, v7, v8, (), v9, v10, v11, v12, v13, (), v14, v15, v16, ()), (r2.1.1, r2.1.2.1, r2.1.2.2.1, r2.1.2.2.2.1, r2.1.2.2.2.2.1, r2.1.2.2.2.2.2.1, r2.1.2.2.2.2.2.2.1, r2.1.2.2.2.2.2.2.2, ()), ()), ()))
      else
        some (.inl (((v0, ()), (v1, ()), ((), ()), ((), ()), (v2, ()), (v3, ()), (v4, ()), ((IntKind.i64.wrap (v5 + 1)), ()), ()), ((v6, v7, v8, (), v9, v10, v11, v12, v13, (), v14, v15, v16, ()), (v17, v18, v19, v20, v21, v22, v23, v24, ()), ()), ()))
    else none
  else
    some (.inr (.inl (((v0, ()), (v1, ()), ((), ()), ((), ()), (v2, ()), ()), ((v6, v7, v8, (), v9, v10, v11, v12, v13, (), v14, v15, v16, ()), (v17, v18, v19, v20, v21, v22, v23, v24, ()), ()), ())))
noncomputable def stx_impl_Assemble_29 (x : (L_impl_Assemble_29).X) := st_impl_Assemble_29 x.1.1.1 x.1.2.1.1 x.1.2.2.2.2.1.1 x.1.2.2.2.2.2.1.1 x.1.2.2.2.2.2.2.1.1 x.1.2.2.2.2.2.2.2.1.1 x.2.1.1.1 x.2.1.1.2.1 x.2.1.1.2.2.1 x.2.1.1.2.2.2.2.1 x.2.1.1.2.2.2.2.2.1 x.2.1.1.2.2.2.2.2.2.1 x.2.1.1.2.2.2.2.2.2.2.1 x.2.1.1.2.2.2.2.2.2.2.2.1 x.2.1.1.2.2.2.2.2.2.2.2.2.2.1 x.2.1.1.2.2.2.2.2.2.2.2.2.2.2.1 x.2.1.1.2.2.2.2.2.2.2.2.2.2.2.2.1 x.2.1.2.1.1 x.2.1.2.1.2.1 x.2.1.2.1.2.2.1 x.2.1.2.1.2.2.2.1 x.2.1.2.1.2.2.2.2.1 x.2.1.2.1.2.2.2.2.2.1 x.2.1.2.1.2.2.2.2.2.2.1 x.2.1.2.1.2.2.2.2.2.2.2.1
def em_impl_Assemble_29 (x : (S_impl_Assemble_29).X) : (L_impl_Assemble_29).X := (((x.1.1.1, ()), (x.1.2.1.1, ()), ((), ()), ((), ()), (false, ()), (x.1.2.2.2.2.2.1.1, ()), (x.1.2.2.2.2.2.2.1.1, ()), (0, ()), ()), ((x.2.1.1.1, x.2.1.1.2.1, x.2.1.1.2.2.1, (), x.2.1.1.2.2.2.2.1, x.2.1.1.2.2.2.2.2.1, x.2.1.1.2.2.2.2.2.2.1, x.2.1.1.2.2.2.2.2.2.2.1, x.2.1.1.2.2.2.2.2.2.2.2.1, (), x.2.1.1.2.2.2.2.2.2.2.2.2.2.1, x.2.1.1.2.2.2.2.2.2.2.2.2.2.2.1, x.2.1.1.2.2.2.2.2.2.2.2.2.2.2.2.1, ()), (x.2.1.2.1.1, x.2.1.2.1.2.1, x.2.1.2.1.2.2.1, x.2.1.2.1.2.2.2.1, x.2.1.2.1.2.2.2.2.1, x.2.1.2.1.2.2.2.2.2.1, x.2.1.2.1.2.2.2.2.2.2.1, x.2.1.2.1.2.2.2.2.2.2.2.1, ()), ()), ())
noncomputable def c_impl_Assemble_29 : Code := (subN B_impl_Assemble 64 116).getD .skip
theorem a_impl_Assemble_29 : subN B_impl_Assemble 64 29 = some (.block 0 (.loop c_impl_Assemble_29)) := by kernel_rfl
theorem r_impl_Assemble_29 (x : (L_impl_Assemble_29).X) : roundT ⟨E_impl_Assemble, 109, D_impl_Assemble_0⟩ 0 c_impl_Assemble_29 116 L_impl_Assemble_29 O_impl_Assemble_29 Z_impl_Assemble_29 x = stx_impl_Assemble_29 x := by kernel_rfl
noncomputable def fu_impl_Assemble_29 (x : (S_impl_Assemble_29).X) : Nat := (fun (u0 : List dM) (u1 : Int) (u2 : List dM) (u3 : Int) (u4 : Int) (u5 : Int) (u6 : Int) (u7 : Int) (u8 : Int) (u9 : Int) (u10 : Int) (u11 : Int) (u12 : Int) (u13 : Bool) (u14 : Bool) (u15 : Int) (u16 : Int) (u17 : Int) (u18 : Int) (u19 : Int) (u20 : Int) (u21 : Int) (u22 : Int) => 18446744073709551616) x.1.1.1 x.1.2.1.1 x.1.2.2.2.2.2.1.1 x.1.2.2.2.2.2.2.1.1 x.2.1.1.1 x.2.1.1.2.1 x.2.1.1.2.2.1 x.2.1.1.2.2.2.2.1 x.2.1.1.2.2.2.2.2.1 x.2.1.1.2.2.2.2.2.2.1 x.2.1.1.2.2.2.2.2.2.2.1 x.2.1.1.2.2.2.2.2.2.2.2.1 x.2.1.1.2.2.2.2.2.2.2.2.2.2.1 x.2.1.1.2.2.2.2.2.2.2.2.2.2.2.1 x.2.1.1.2.2.2.2.2.2.2.2.2.2.2.2.1 x.2.1.2.1.1 x.2.1.2.1.2.1 x.2.1.2.1.2.2.1 x.2.1.2.1.2.2.2.1 x.2.1.2.1.2.2.2.2.1 x.2.1.2.1.2.2.2.2.2.1 x.2.1.2.1.2.2.2.2.2.2.1 x.2.1.2.1.2.2.2.2.2.2.2.1
noncomputable def F_impl_Assemble_29 (x : (S_impl_Assemble_29).X) : Option ((O_impl_Assemble_29).X ⊕ (Z_impl_Assemble_29).X) := loopN stx_impl_Assemble_29 (fu_impl_Assemble_29 x) (em_impl_Assemble_29 x)
noncomputable def sg_impl_Assemble_29 : Seg := ⟨S_impl_Assemble_29, O_impl_Assemble_29, Z_impl_Assemble_29, F_impl_Assemble_29⟩
noncomputable def D_impl_Assemble_1 : Nat → Option Seg := fun q => bif Nat.beq q 29 then some sg_impl_Assemble_29 else D_impl_Assemble_0 q
theorem fr_impl_Assemble_1 : FrOk Try.prog ⟨E_impl_Assemble, 109, D_impl_Assemble_1⟩ B_impl_Assemble := (fr_impl_Assemble_0).loop (sg := sg_impl_Assemble_29) L_impl_Assemble_29 em_impl_Assemble_29 (by decide) a_impl_Assemble_29 stx_impl_Assemble_29 fu_impl_Assemble_29 (by decide) (fun _ => rfl) (fun x r _ h => h) r_impl_Assemble_29
def L_impl_Assemble_253 : Shape := ⟨[(1, false, [.int .i64]), (4, false, [.ptr 0 0]), (12, false, [.ptr 46272 0]), (75, false, [.br tM]), (76, false, [.int .i64]), (77, false, [.int .i64])], [(0, [.int .i64, .int .i64, .int .i64, .nil, .int .i64, .int .i64, .int .i64, .int .i64, .int .i64, .nil, .int .i64, .bool, .bool]), (46272, [.int .i64, .int .i64, .int .i64, .at 800000000, .int .i64, .int .i64, .int .i64, .int .i64, .int .i64, .nil, .int .i64, .bool, .bool])], [(800000000, tM, (.pr (.ow (.ow .fz)) (.pr (.ow (.pr .fz (.ow .fz))) (.pr .fz (.ow .fz)))))]⟩
def S_impl_Assemble_253 : Shape := ⟨[(1, false, [.int .i64]), (4, false, [.ptr 0 0]), (12, false, [.ptr 46272 0]), (75, false, [.br tM]), (76, false, [.int .i64]), (77, false, [.ci .i64 0])], [(0, [.int .i64, .int .i64, .int .i64, .nil, .int .i64, .int .i64, .int .i64, .int .i64, .int .i64, .nil, .int .i64, .bool, .bool]), (46272, [.int .i64, .int .i64, .int .i64, .at 800000000, .int .i64, .int .i64, .int .i64, .int .i64, .int .i64, .nil, .int .i64, .bool, .bool])], [(800000000, tM, (.pr (.ow (.ow .fz)) (.pr (.ow (.pr .fz (.ow .fz))) (.pr .fz (.ow .fz)))))]⟩
def O_impl_Assemble_253 : Shape := ⟨[(4, false, [.ptr 0 0]), (12, false, [.ptr 46272 0])], [(0, [.int .i64, .int .i64, .int .i64, .nil, .int .i64, .int .i64, .int .i64, .int .i64, .int .i64, .nil, .int .i64, .bool, .bool]), (46272, [.int .i64, .int .i64, .int .i64, .at 800000000, .int .i64, .int .i64, .int .i64, .int .i64, .int .i64, .nil, .int .i64, .bool, .bool])], [(800000000, tM, (.pr (.ow (.ow .fz)) (.pr (.ow (.pr .fz (.ow .fz))) (.pr .fz (.ow .fz)))))]⟩
def Z_impl_Assemble_253 : Shape := ⟨[], [], []⟩
abbrev mk_impl_Assemble_253 (v0 : Int) (v1 : List dM) (v2 : Int) (v3 : Int) (v4 : dA) (v5 : dA) : (L_impl_Assemble_253).X := (((v0, ()), ((), ()), ((), ()), (v1, ()), (v2, ()), (v3, ()), ()), ((v4.1, v4.2.1.1, v4.2.1.2, (), v4.2.2.2.1, v4.2.2.2.2.1, v4.2.2.2.2.2.1, v4.2.2.2.2.2.2.1, v4.2.2.2.2.2.2.2.1, (), v4.2.2.2.2.2.2.2.2.2.1, v4.2.2.2.2.2.2.2.2.2.2.1, v4.2.2.2.2.2.2.2.2.2.2.2, ()), (v5.1, v5.2.1.1, v5.2.1.2, (), v5.2.2.2.1, v5.2.2.2.2.1, v5.2.2.2.2.2.1, v5.2.2.2.2.2.2.1, v5.2.2.2.2.2.2.2.1, (), v5.2.2.2.2.2.2.2.2.2.1, v5.2.2.2.2.2.2.2.2.2.2.1, v5.2.2.2.2.2.2.2.2.2.2.2, ()), ()), (v5.2.2.1, ()))
abbrev ms_impl_Assemble_253 (v0 : Int) (v1 : List dM) (v2 : Int) (v3 : dA) (v4 : dA) : (S_impl_Assemble_253).X := (((v0, ()), ((), ()), ((), ()), (v1, ()), (v2, ()), ((), ()), ()), ((v3.1, v3.2.1.1, v3.2.1.2, (), v3.2.2.2.1, v3.2.2.2.2.1, v3.2.2.2.2.2.1, v3.2.2.2.2.2.2.1, v3.2.2.2.2.2.2.2.1, (), v3.2.2.2.2.2.2.2.2.2.1, v3.2.2.2.2.2.2.2.2.2.2.1, v3.2.2.2.2.2.2.2.2.2.2.2, ()), (v4.1, v4.2.1.1, v4.2.1.2, (), v4.2.2.2.1, v4.2.2.2.2.1, v4.2.2.2.2.2.1, v4.2.2.2.2.2.2.1, v4.2.2.2.2.2.2.2.1, (), v4.2.2.2.2.2.2.2.2.2.1, v4.2.2.2.2.2.2.2.2.2.2.1, v4.2.2.2.2.2.2.2.2.2.2.2, ()), ()), (v4.2.2.1, ()))
abbrev mo_impl_Assemble_253 (v0 : dA) (v1 : dA) : (O_impl_Assemble_253).X := ((((), ()), ((), ()), ()), ((v0.1, v0.2.1.1, v0.2.1.2, (), v0.2.2.2.1, v0.2.2.2.2.1, v0.2.2.2.2.2.1, v0.2.2.2.2.2.2.1, v0.2.2.2.2.2.2.2.1, (), v0.2.2.2.2.2.2.2.2.2.1, v0.2.2.2.2.2.2.2.2.2.2.1, v0.2.2.2.2.2.2.2.2.2.2.2, ()), (v1.1, v1.2.1.1, v1.2.1.2, (), v1.2.2.2.1, v1.2.2.2.2.1, v1.2.2.2.2.2.1, v1.2.2.2.2.2.2.1, v1.2.2.2.2.2.2.2.1, (), v1.2.2.2.2.2.2.2.2.2.1, v1.2.2.2.2.2.2.2.2.2.2.1, v1.2.2.2.2.2.2.2.2.2.2.2, ()), ()), (v1.2.2.1, ()))
noncomputable def st_impl_Assemble_253 (v0 : Int) (v1 : List dM) (v2 : Int) (v3 : Int) (v4 : Int) (v5 : Int) (v6 : Int) (v7 : Int) (v8 : Int) (v9 : Int) (v10 : Int) (v11 : Int) (v12 : Int) (v13 : Bool) (v14 : Bool) (v15 : Int) (v16 : Int) (v17 : Int) (v18 : Int) (v19 : Int) (v20 : Int) (v21 : Int) (v22 : Int) (v23 : Int) (v24 : Bool) (v25 : Bool) (v26 : List dM) : Option ((L_impl_Assemble_253).X ⊕ ((O_impl_Assemble_253).X ⊕ (Z_impl_Assemble_253).X)) :=
  bif (ltb v3 v2) then
    bif (inb v3 v1.length) then
      let r6 := n_impl_ownSuper ((nth v1 v3 ([], [], false, [])).1, ((nth v1 v3 ([], [], false, [])).2).1, (((nth v1 v3 ([], [], false, [])).2).2)) v3 v0
      bif r6.2 then
        some (.inl (((v0, ()), ((), ()), ((), ()), (v1, ()), (v2, ()), ((IntKind.i64.wrap (v3 + 1)), ()), ()), ((v4, v5, v6, (), v7, v8, v9, v10, v11, (), v12, v13, v14, ()), (v15, v16, v17, (), v18, v19, v20, v21, v22, (), v23, v24, v25, ()), ()), (v26, ())))
      else
        bif (!(v18 == (-1))) then
          bif (v18 == v3) then
            some (.inl (((v0, ()), ((), ()), ((), ()), (v1, ()), (v2, ()), ((IntKind.i64.wrap (v3 + 1)), ()), ()), ((v4, v5, v6, (), v7, v8, v9, v10, v11, (), v12, v13, v14, ()), (v15, v16, v17, (), v3, 0, v20, v21, v22, (), v23, v24, v25, ()), ()), (v26, ())))
          else
            some (.inl (((v0, ()), ((), ()), ((), ()), (v1, ()), (v2, ()), ((IntKind.i64.wrap (v3 + 1)), ()), ()), ((v4, v5, v6, (), v7, v8, v9, v10, v11, (), v12, v13, v14, ()), (v15, v16, v17, (), v18, v19, v20, v21, v22, (), v23, v24, true, ()), ()), (v26, ())))
        else
          some (.inl (((v0, ()), ((), ()), ((), ()), (v1, ()), (v2, ()), ((IntKind.i64.wrap (v3 + 1)), ()), ()), ((v4, v5, v6, (), v7, v8, v9, v10, v11, (), v12, v13, v14, ()), (v15, v16, v17, (), v3, 0, v20, v21, v22, (), v23, v24, v25, ()), ()), (v26, ())))
    else none
  else
    some (.inr (.inl ((((), ()), ((), ()), ()), ((v4, v5, v6, (), v7, v8, v9, v10, v11, (), v12, v13, v14, ()), (v15, v16, v17, (), v18, v19, v20, v21, v22, (), v23, v24, v25, ()), ()), (v26, ()))))
noncomputable def stx_impl_Assemble_253 (x : (L_impl_Assemble_253).X) := st_impl_Assemble_253 x.1.1.1 x.1.2.2.2.1.1 x.1.2.2.2.2.1.1 x.1.2.2.2.2.2.1.1 x.2.1.1.1 x.2.1.1.2.1 x.2.1.1.2.2.1 x.2.1.1.2.2.2.2.1 x.2.1.1.2.2.2.2.2.1 x.2.1.1.2.2.2.2.2.2.1 x.2.1.1.2.2.2.2.2.2.2.1 x.2.1.1.2.2.2.2.2.2.2.2.1 x.2.1.1.2.2.2.2.2.2.2.2.2.2.1 x.2.1.1.2.2.2.2.2.2.2.2.2.2.2.1 x.2.1.1.2.2.2.2.2.2.2.2.2.2.2.2.1 x.2.1.2.1.1 x.2.1.2.1.2.1 x.2.1.2.1.2.2.1 x.2.1.2.1.2.2.2.2.1 x.2.1.2.1.2.2.2.2.2.1 x.2.1.2.1.2.2.2.2.2.2.1 x.2.1.2.1.2.2.2.2.2.2.2.1 x.2.1.2.1.2.2.2.2.2.2.2.2.1 x.2.1.2.1.2.2.2.2.2.2.2.2.2.2.1 x.2.1.2.1.2.2.2.2.2.2.2.2.2.2.2.1 x.2.1.2.1.2.2.2.2.2.2.2.2.2.2.2.2.1 x.2.2.1
def em_impl_Assemble_253 (x : (S_impl_Assemble_253).X) : (L_impl_Assemble_253).X := (((x.1.1.1, ()), ((), ()), ((), ()), (x.1.2.2.2.1.1, ()), (x.1.2.2.2.2.1.1, ()), (0, ()), ()), ((x.2.1.1.1, x.2.1.1.2.1, x.2.1.1.2.2.1, (), x.2.1.1.2.2.2.2.1, x.2.1.1.2.2.2.2.2.1, x.2.1.1.2.2.2.2.2.2.1, x.2.1.1.2.2.2.2.2.2.2.1, x.2.1.1.2.2.2.2.2.2.2.2.1, (), x.2.1.1.2.2.2.2.2.2.2.2.2.2.1, x.2.1.1.2.2.2.2.2.2.2.2.2.2.2.1, x.2.1.1.2.2.2.2.2.2.2.2.2.2.2.2.1, ()), (x.2.1.2.1.1, x.2.1.2.1.2.1, x.2.1.2.1.2.2.1, (), x.2.1.2.1.2.2.2.2.1, x.2.1.2.1.2.2.2.2.2.1, x.2.1.2.1.2.2.2.2.2.2.1, x.2.1.2.1.2.2.2.2.2.2.2.1, x.2.1.2.1.2.2.2.2.2.2.2.2.1, (), x.2.1.2.1.2.2.2.2.2.2.2.2.2.2.1, x.2.1.2.1.2.2.2.2.2.2.2.2.2.2.2.1, x.2.1.2.1.2.2.2.2.2.2.2.2.2.2.2.2.1, ()), ()), (x.2.2.1, ()))
noncomputable def c_impl_Assemble_253 : Code := (subN B_impl_Assemble 64 1012).getD .skip
theorem a_impl_Assemble_253 : subN B_impl_Assemble 64 253 = some (.block 2 (.loop c_impl_Assemble_253)) := by kernel_rfl
theorem r_impl_Assemble_253 (x : (L_impl_Assemble_253).X) : roundT ⟨E_impl_Assemble, 109, D_impl_Assemble_1⟩ 2 c_impl_Assemble_253 1012 L_impl_Assemble_253 O_impl_Assemble_253 Z_impl_Assemble_253 x = stx_impl_Assemble_253 x := by kernel_rfl
noncomputable def fu_impl_Assemble_253 (x : (S_impl_Assemble_253).X) : Nat := (fun (u0 : Int) (u1 : List dM) (u2 : Int) (u3 : Int) (u4 : Int) (u5 : Int) (u6 : Int) (u7 : Int) (u8 : Int) (u9 : Int) (u10 : Int) (u11 : Int) (u12 : Bool) (u13 : Bool) (u14 : Int) (u15 : Int) (u16 : Int) (u17 : Int) (u18 : Int) (u19 : Int) (u20 : Int) (u21 : Int) (u22 : Int) (u23 : Bool) (u24 : Bool) (u25 : List dM) => 18446744073709551616) x.1.1.1 x.1.2.2.2.1.1 x.1.2.2.2.2.1.1 x.2.1.1.1 x.2.1.1.2.1 x.2.1.1.2.2.1 x.2.1.1.2.2.2.2.1 x.2.1.1.2.2.2.2.2.1 x.2.1.1.2.2.2.2.2.2.1 x.2.1.1.2.2.2.2.2.2.2.1 x.2.1.1.2.2.2.2.2.2.2.2.1 x.2.1.1.2.2.2.2.2.2.2.2.2.2.1 x.2.1.1.2.2.2.2.2.2.2.2.2.2.2.1 x.2.1.1.2.2.2.2.2.2.2.2.2.2.2.2.1 x.2.1.2.1.1 x.2.1.2.1.2.1 x.2.1.2.1.2.2.1 x.2.1.2.1.2.2.2.2.1 x.2.1.2.1.2.2.2.2.2.1 x.2.1.2.1.2.2.2.2.2.2.1 x.2.1.2.1.2.2.2.2.2.2.2.1 x.2.1.2.1.2.2.2.2.2.2.2.2.1 x.2.1.2.1.2.2.2.2.2.2.2.2.2.2.1 x.2.1.2.1.2.2.2.2.2.2.2.2.2.2.2.1 x.2.1.2.1.2.2.2.2.2.2.2.2.2.2.2.2.1 x.2.2.1
noncomputable def F_impl_Assemble_253 (x : (S_impl_Assemble_253).X) : Option ((O_impl_Assemble_253).X ⊕ (Z_impl_Assemble_253).X) := loopN stx_impl_Assemble_253 (fu_impl_Assemble_253 x) (em_impl_Assemble_253 x)
noncomputable def sg_impl_Assemble_253 : Seg := ⟨S_impl_Assemble_253, O_impl_Assemble_253, Z_impl_Assemble_253, F_impl_Assemble_253⟩
noncomputable def D_impl_Assemble_2 : Nat → Option Seg := fun q => bif Nat.beq q 253 then some sg_impl_Assemble_253 else D_impl_Assemble_1 q
theorem fr_impl_Assemble_2 : FrOk Try.prog ⟨E_impl_Assemble, 109, D_impl_Assemble_2⟩ B_impl_Assemble := (fr_impl_Assemble_1).loop (sg := sg_impl_Assemble_253) L_impl_Assemble_253 em_impl_Assemble_253 (by decide) a_impl_Assemble_253 stx_impl_Assemble_253 fu_impl_Assemble_253 (by decide) (fun _ => rfl) (fun x r _ h => h) r_impl_Assemble_253
abbrev I_impl_Assemble : List Par := [.rd tMs, .rd tI]
abbrev U_impl_Assemble : List OT := [⟨false, tA, (.pr .fz (.pr (.pr .fz .fz) (.pr (.ow (.pr (.ow (.ow .fz)) (.pr (.ow (.pr .fz (.ow .fz))) (.pr .fz (.ow .fz))))) (.pr .fz (.pr .fz (.pr .fz (.pr .fz (.pr .fz (.pr (.ow (.pr .fz (.ow .fz))) (.pr .fz (.pr .fz .fz)))))))))))⟩, ⟨false, tB, .fz⟩]
noncomputable def raw_impl_Assemble (a0 : List dM) (a1 : Int) : Option (ResD U_impl_Assemble × MutD I_impl_Assemble) :=
  segM (F_impl_Assemble_29 (((a0, ()), (a1, ()), ((), ()), ((), ()), ((), ()), (a0, ()), ((a0.length : Int), ()), ((), ()), ()), ((0, 0, 0, (), 0, 0, 0, 0, 0, (), 0, false, false, ()), (0, 0, 0, 0, 0, 0, 0, 0, ()), ()), ())) (fun y2 =>
    bif (!(!y2.1.2.2.2.2.1.1)) then
      bif ((y2.1.1.1.length : Int) != y2.2.1.2.1.2.2.2.1) then
        some (((0, (0, 0), [], 0, 0, 0, 0, 0, [], 0, false, false), false, ()), ())
      else
        let r4 := n_impl_copyMems y2.1.1.1
        segM (F_impl_Assemble_253 (((y2.1.2.1.1, ()), ((), ()), ((), ()), (y2.1.1.1, ()), ((y2.1.1.1.length : Int), ()), ((), ()), ()), ((y2.2.1.1.1, y2.2.1.1.2.1, y2.2.1.1.2.2.1, (), y2.2.1.1.2.2.2.2.1, y2.2.1.1.2.2.2.2.2.1, y2.2.1.1.2.2.2.2.2.2.1, y2.2.1.1.2.2.2.2.2.2.2.1, y2.2.1.1.2.2.2.2.2.2.2.2.1, (), y2.2.1.1.2.2.2.2.2.2.2.2.2.2.1, y2.2.1.1.2.2.2.2.2.2.2.2.2.2.2.1, y2.2.1.1.2.2.2.2.2.2.2.2.2.2.2.2.1, ()), (y2.1.2.1.1, y2.2.1.2.1.2.2.2.1, y2.2.1.2.1.2.2.2.2.1, (), y2.2.1.2.1.2.2.2.2.2.2.1, y2.2.1.2.1.2.2.2.2.2.2.2.1, y2.2.1.2.1.2.2.2.2.2.1, y2.2.1.2.1.2.2.2.2.2.1, y2.2.1.2.1.2.1, (), (-1), false, false, ()), ()), (r4, ()))) (fun y6 =>
          let r8 := n_impl_ArrOk (y6.2.1.2.1.1, (y6.2.1.2.1.2.1, y6.2.1.2.1.2.2.1), y6.2.2.1, y6.2.1.2.1.2.2.2.2.1, y6.2.1.2.1.2.2.2.2.2.1, y6.2.1.2.1.2.2.2.2.2.2.1, y6.2.1.2.1.2.2.2.2.2.2.2.1, y6.2.1.2.1.2.2.2.2.2.2.2.2.1, [], y6.2.1.2.1.2.2.2.2.2.2.2.2.2.2.1, y6.2.1.2.1.2.2.2.2.2.2.2.2.2.2.2.1, y6.2.1.2.1.2.2.2.2.2.2.2.2.2.2.2.2.1)
          bif (!r8) then
            some (((0, (0, 0), [], 0, 0, 0, 0, 0, [], 0, false, false), false, ()), ())
          else
            some (((y6.2.1.2.1.1, (y6.2.1.2.1.2.1, y6.2.1.2.1.2.2.1), y6.2.2.1, y6.2.1.2.1.2.2.2.2.1, y6.2.1.2.1.2.2.2.2.2.1, y6.2.1.2.1.2.2.2.2.2.2.1, y6.2.1.2.1.2.2.2.2.2.2.2.1, y6.2.1.2.1.2.2.2.2.2.2.2.2.1, [], y6.2.1.2.1.2.2.2.2.2.2.2.2.2.2.1, y6.2.1.2.1.2.2.2.2.2.2.2.2.2.2.2.1, y6.2.1.2.1.2.2.2.2.2.2.2.2.2.2.2.2.1), true, ()), ())) (fun y6 =>
          none)
    else
      some (((0, (0, 0), [], 0, 0, 0, 0, 0, [], 0, false, false), false, ()), ())) (fun y2 =>
    none)
theorem e_impl_Assemble (x : InD I_impl_Assemble) : execF ⟨E_impl_Assemble, 109, D_impl_Assemble_2⟩ Try.f59.results.toList B_impl_Assemble I_impl_Assemble U_impl_Assemble x = raw_impl_Assemble x.1 x.2.1 := by kernel_rfl
theorem ok0_impl_Assemble : ConOk Try.prog 59 ⟨I_impl_Assemble, U_impl_Assemble, fun x => raw_impl_Assemble x.1 x.2.1⟩ := conOk_exec (fr_impl_Assemble_2) Try.func59 (by kernel_rfl) (by kernel_rfl) Try.ntmps59.symm (by decide) (fun x r h => (e_impl_Assemble x).trans h)
noncomputable def n_impl_Assemble (a0 : List dM) (a1 : Int) : dA × Bool := assemble a0 a1
theorem nn_impl_Assemble (a0 : List dM) (a1 : Int) (hk : InOk I_impl_Assemble (a0, a1, ())) : raw_impl_Assemble a0 a1 = (fun n => some ((n.1, n.2, ()), ())) (n_impl_Assemble a0 a1) := by
  have hb : a0.length * 80 ≤ 2 ^ 47 := hk.1.1
  have h0 : F_impl_Assemble_29 (ms_impl_Assemble_29 a0 a1 a0 a0.length noArr noSuper) = some (.inl (mo_impl_Assemble_29 a0 a1 (best9 a0 a1).2 noArr (best9 a0 a1).1)) :=
    loopN_rng (step := stx_impl_Assemble_29) a0.length (fun i (s : dS × Bool) => mk_impl_Assemble_29 a0 a1 s.2 a0 a0.length i noArr s.1) (fun (s : dS × Bool) (i : Nat) => better s (ownOk (nth a0 i noMem) i a1) (bestSuper (nth a0 i noMem) a1).1) (fun _ _ => True) (fun (s : dS × Bool) => .inl (mo_impl_Assemble_29 a0 a1 s.2 noArr s.1)) (fun i s hi _ => ⟨by
    simp only [stx_impl_Assemble_29, mk_impl_Assemble_29, st_impl_Assemble_29, ltb_t (show (i : Int) < a0.length by omega), cond_true, wr (show -9223372036854775808 ≤ (i : Int) + 1 by omega) (by omega), Int.natCast_add, Int.natCast_one, Int.toNat_natCast, inb_nat hi, pr_eta, n_impl_ownSuper]
    cases ownOk (nth a0 i noMem) i a1
    · rfl
    simp only [cond_true]
    unfold better
    cases hf : s.2 <;> cases ltb s.1.2.1 (bestSuper (nth a0 i noMem) a1).1.2.1 <;> simp only [Bool.not_true, Bool.not_false, cond_true, cond_false, Bool.and_true, Bool.true_and, Bool.false_and, Bool.and_false, Bool.or_true, Bool.true_or, Bool.false_or, Bool.or_false, hf], trivial⟩) (fun s _ => by simp only [stx_impl_Assemble_29, mk_impl_Assemble_29, st_impl_Assemble_29, ltb_f (Int.le_refl _), cond_false]) (noSuper, false) trivial _ (by show _ < 18446744073709551616; omega)
  have h1 : ∀ (b : dS) (s : Int × Int × Bool), F_impl_Assemble_253 (ms_impl_Assemble_253 a1 a0 a0.length noArr (asmArr b a0 a1 s)) = some (.inl (mo_impl_Assemble_253 noArr (asmArr b a0 a1 ((List.range a0.length).foldl (asmStep a0 a1) s)))) := fun b s =>
    loopN_rng (step := stx_impl_Assemble_253) a0.length (fun i s => mk_impl_Assemble_253 a1 a0 a0.length i noArr (asmArr b a0 a1 s)) (asmStep a0 a1) (fun _ _ => True) (fun s => .inl (mo_impl_Assemble_253 noArr (asmArr b a0 a1 s))) (fun i s hi _ => ⟨by
      simp only [stx_impl_Assemble_253, mk_impl_Assemble_253, st_impl_Assemble_253, ltb_t (show (i : Int) < a0.length by omega), cond_true, wr (show -9223372036854775808 ≤ (i : Int) + 1 by omega) (by omega), Int.natCast_add, Int.natCast_one, Int.toNat_natCast, inb_nat hi, pr_eta, n_impl_ownSuper, asmArr]
      unfold asmStep
      cases ownOk (nth a0 i noMem) i a1 <;> cases (s.1 == -1) <;> cases (s.1 == (i : Int)) <;> rfl, trivial⟩) (fun s _ => by simp only [stx_impl_Assemble_253, mk_impl_Assemble_253, st_impl_Assemble_253, ltb_f (Int.le_refl _), cond_false]) s trivial _ (by show _ < 18446744073709551616; omega)
  unfold raw_impl_Assemble n_impl_Assemble assemble asmAll
  refine (congrArg (fun z => segM z _ _) h0).trans ?_
  simp only [segM_inl, n_impl_copyMems, bne]
  cases (best9 a0 a1).2
  · rfl
  cases ((a0.length : Int) == (best9 a0 a1).1.2.2.2.1)
  · rfl
  have h2 := h1 (best9 a0 a1).1 ((best9 a0 a1).1.2.2.2.2.2.2.1, (best9 a0 a1).1.2.2.2.2.2.2.2, false)
  simp only [Bool.not_true, Bool.not_false, cond_true, cond_false, Bool.true_and]
  refine (congrArg (fun z => segM z _ _) h2).trans ?_
  simp only [segM_inl, n_impl_ArrOk]
  show (bif !(arrOk (asmArr (best9 a0 a1).1 a0 a1 ((List.range a0.length).foldl (asmStep a0 a1) ((best9 a0 a1).1.2.2.2.2.2.2.1, (best9 a0 a1).1.2.2.2.2.2.2.2, false)))) then _ else _) = _
  cases arrOk (asmArr (best9 a0 a1).1 a0 a1 ((List.range a0.length).foldl (asmStep a0 a1) ((best9 a0 a1).1.2.2.2.2.2.2.1, (best9 a0 a1).1.2.2.2.2.2.2.2, false))) <;> rfl
noncomputable def con_impl_Assemble : Con := ⟨I_impl_Assemble, U_impl_Assemble, fun x => (fun n => some ((n.1, n.2, ()), ())) (n_impl_Assemble x.1 x.2.1)⟩
theorem ok_impl_Assemble : ConOk Try.prog 59 con_impl_Assemble := (ok0_impl_Assemble).mono (fun x r hk h => (nn_impl_Assemble x.1 x.2.1 hk).trans h)
end

/-! laws_FnExactAssemble -/
section
noncomputable def B_laws_FnExactAssemble : Code := (Try.f12.body).getD .skip
noncomputable def E_laws_FnExactAssemble : Env := envOf TT [(15, con_laws_szMemS), (17, con_laws_toMemS), (20, con_laws_eqMemS), (22, con_laws_markMemS), (29, con_laws_eqArr), (50, con_laws_markArr), (57, con_laws_heldArr), (58, con_spec_Assemble), (59, con_impl_Assemble)] []
theorem fr_laws_FnExactAssemble_0 : FrOk Try.prog ⟨E_laws_FnExactAssemble, 101, fun _ => none⟩ B_laws_FnExactAssemble := frOk_base mixed tt_ok ⟨ok_laws_szMemS, ok_laws_toMemS, ok_laws_eqMemS, ok_laws_markMemS, ok_laws_eqArr, ok_laws_markArr, ok_laws_heldArr, ok_spec_Assemble, ok_impl_Assemble, trivial⟩
noncomputable def D_laws_FnExactAssemble_0 : Nat → Option Seg := fun _ => none
abbrev I_laws_FnExactAssemble : List Par := [.rd tMs, .rd tI]
abbrev U_laws_FnExactAssemble : List OT := [⟨false, tB, .fz⟩]
noncomputable def raw_laws_FnExactAssemble (a0 : List dM) (a1 : Int) : Option (ResD U_laws_FnExactAssemble × MutD I_laws_FnExactAssemble) :=
  let r1 := n_laws_szMemS a0 1048576
  bif (ltb r1 0) then
    some ((true, ()), ())
  else
    let r2 := n_laws_toMemS a0
    let r3 := n_spec_Assemble r2 a1
    let r4 := n_laws_toMemS a0
    let r5 := n_impl_Assemble r4 a1
    let r6 := n_laws_eqArr r5.1 r3.1
    bif (!(!r6)) then
      bif (!(r5.2 == r3.2)) then
        some ((false, ()), ())
      else
        let r7 := n_laws_toMemS a0
        let r8 := n_laws_eqMemS r4 r7
        bif (!r8) then
          some ((false, ()), ())
        else
          let r9 := n_laws_markMemS r4 1
          bif (!(ltb r9.1 0)) then
            let r10 := n_laws_eqArr r5.1 r3.1
            bif (!(!r10)) then
              bif (!(r5.2 == r3.2)) then
                some ((false, ()), ())
              else
                let r11 := n_laws_markArr r5.1 1
                let r12 := n_laws_heldArr (r5.1.1, r5.1.2.1, r11.2.2.2.1, r5.1.2.2.2.1, r5.1.2.2.2.2.1, r5.1.2.2.2.2.2.1, r5.1.2.2.2.2.2.2.1, r5.1.2.2.2.2.2.2.2.1, r11.2.2.2.2.2.2.2.2.2.1, r5.1.2.2.2.2.2.2.2.2.2) 1
                bif (ltb r12 0) then
                  some ((false, ()), ())
                else
                  bif (r12 != r11.1) then
                    some ((false, ()), ())
                  else
                    let r13 := n_laws_toMemS a0
                    let r14 := n_impl_Assemble r13 a1
                    let r15 := n_laws_eqArr r14.1 r3.1
                    bif (!(!r15)) then
                      bif (!(r14.2 == r3.2)) then
                        some ((false, ()), ())
                      else
                        let r16 := n_laws_heldArr (r5.1.1, r5.1.2.1, r11.2.2.2.1, r5.1.2.2.2.1, r5.1.2.2.2.2.1, r5.1.2.2.2.2.2.1, r5.1.2.2.2.2.2.2.1, r5.1.2.2.2.2.2.2.2.1, r11.2.2.2.2.2.2.2.2.2.1, r5.1.2.2.2.2.2.2.2.2.2) 1
                        bif (ltb r16 0) then
                          some ((false, ()), ())
                        else
                          bif (r16 != r11.1) then
                            some ((false, ()), ())
                          else
                            some ((true, ()), ())
                    else
                      some ((false, ()), ())
            else
              some ((false, ()), ())
          else
            some ((false, ()), ())
    else
      some ((false, ()), ())
theorem e_laws_FnExactAssemble (x : InD I_laws_FnExactAssemble) : execF ⟨E_laws_FnExactAssemble, 101, D_laws_FnExactAssemble_0⟩ Try.f12.results.toList B_laws_FnExactAssemble I_laws_FnExactAssemble U_laws_FnExactAssemble x = raw_laws_FnExactAssemble x.1 x.2.1 := by kernel_rfl
theorem ok0_laws_FnExactAssemble : ConOk Try.prog 12 ⟨I_laws_FnExactAssemble, U_laws_FnExactAssemble, fun x => raw_laws_FnExactAssemble x.1 x.2.1⟩ := conOk_exec (fr_laws_FnExactAssemble_0) Try.func12 (by kernel_rfl) (by kernel_rfl) Try.ntmps12.symm (by decide) (fun x r h => (e_laws_FnExactAssemble x).trans h)
noncomputable def n_laws_FnExactAssemble (a0 : List dM) (a1 : Int) : Bool := true
theorem asm_small (l : List dM) (id : Int) : mArr (assemble l id).1 ≤ mMems l := by
  unfold assemble
  cases ((best9 l id).2 && ((l.length : Int) == (best9 l id).1.2.2.2.1 && arrOk (asmAll l id)))
  · exact Nat.zero_le _
  · show mMems l + mEnts [] ≤ _
    exact Nat.le_refl _
theorem nn_laws_FnExactAssemble (a0 : List dM) (a1 : Int) (hk : InOk I_laws_FnExactAssemble (a0, a1, ())) : raw_laws_FnExactAssemble a0 a1 = (fun n => some ((n, ()), ())) (n_laws_FnExactAssemble a0 a1) := by
  unfold raw_laws_FnExactAssemble n_laws_FnExactAssemble n_impl_Assemble n_spec_Assemble
  cases h : ltb (n_laws_szMemS a0 1048576) 0
  · have e2 := szMemS_le (l := a0) (k := 1048576) (by omega) (by omega) hk.1 (ltb_ff h)
    have e3 := mMems_le (l := a0)
    have e5 := ltb_ff h
    have e6 := asm_small a0 a1
    obtain ⟨f1, f2⟩ := mk_mems a0 (by omega)
    obtain ⟨g1, g2, g3⟩ := mk_arr3 (x := (assemble a0 a1).1) (by omega)
    simp only [h, id_laws_toMemS, eqr_laws_eqMemS, eqr_laws_eqArr, beq_self_eq_true, bne_self_eq_false, Bool.not_true, Bool.not_false, cond_true, cond_false, f1, g2, g3, ltb_f (show (0 : Int) ≤ 1 + (mMems a0 : Nat) by omega)]
  · simp only [h, cond_true]
noncomputable def con_laws_FnExactAssemble : Con := ⟨I_laws_FnExactAssemble, U_laws_FnExactAssemble, fun x => (fun n => some ((n, ()), ())) (n_laws_FnExactAssemble x.1 x.2.1)⟩
theorem ok_laws_FnExactAssemble : ConOk Try.prog 12 con_laws_FnExactAssemble := (ok0_laws_FnExactAssemble).mono (fun x r hk h => (nn_laws_FnExactAssemble x.1 x.2.1 hk).trans h)
end
end Go.Tf
