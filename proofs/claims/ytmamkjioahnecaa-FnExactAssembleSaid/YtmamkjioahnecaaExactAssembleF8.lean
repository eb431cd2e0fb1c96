/- Functions of the program, and what they come to. -/
import Derived.Test.YtmamkjioahnecaaExactAssembleF7
namespace Go.Tf
open Go.Proofs
set_option synthInstance.maxHeartbeats 400000
set_option synthInstance.maxSize 10000
set_option linter.unusedVariables false
set_option linter.unusedSimpArgs false
set_option maxRecDepth 100000
/-! spec_BestSuper -/
section
noncomputable def B_spec_BestSuper : Code := (Try.f163.body).getD .skip
noncomputable def E_spec_BestSuper : Env := envOf TT [(105, con_spec_ReadSec), (183, con_spec_GetSuper)] []
theorem fr_spec_BestSuper_0 : FrOk Try.prog ⟨E_spec_BestSuper, 60, fun _ => none⟩ B_spec_BestSuper := frOk_base mixed tt_ok ⟨ok_spec_ReadSec, ok_spec_GetSuper, trivial⟩
noncomputable def D_spec_BestSuper_0 : Nat → Option Seg := fun _ => none
def L_spec_BestSuper_61 : Shape := ⟨[(1, false, [.int .i64]), (2, false, [.ptr 0 0]), (4, false, [.ptr 64 0]), (6, false, [.ptr 4160 0]), (7, false, [.bool]), (8, false, [.int .i64])], [(0, [.br tL, .br tW, .bool, .br tI]), (64, [.int .i64, .int .i64, .int .i64, .int .i64, .int .i64, .int .i64, .int .i64, .int .i64]), (4160, [.int .i64, .int .i64, .int .i64, .int .i64, .int .i64, .int .i64, .int .i64, .int .i64])], []⟩
def S_spec_BestSuper_61 : Shape := ⟨[(1, false, [.int .i64]), (2, false, [.ptr 0 0]), (4, false, [.ptr 64 0]), (6, false, [.ptr 4160 0]), (7, false, [.cb false]), (8, false, [.ci .i64 0])], [(0, [.br tL, .br tW, .bool, .br tI]), (64, [.int .i64, .int .i64, .int .i64, .int .i64, .int .i64, .int .i64, .int .i64, .int .i64]), (4160, [.int .i64, .int .i64, .int .i64, .int .i64, .int .i64, .int .i64, .int .i64, .int .i64])], []⟩
def O_spec_BestSuper_61 : Shape := ⟨[(4, false, [.ptr 64 0]), (6, false, [.ptr 4160 0]), (7, false, [.bool])], [(64, [.int .i64, .int .i64, .int .i64, .int .i64, .int .i64, .int .i64, .int .i64, .int .i64]), (4160, [.int .i64, .int .i64, .int .i64, .int .i64, .int .i64, .int .i64, .int .i64, .int .i64])], []⟩
def Z_spec_BestSuper_61 : Shape := ⟨[], [], []⟩
abbrev mk_spec_BestSuper_61 (v0 : Int) (v1 : Bool) (v2 : Int) (v3 : dM) (v4 : dS) (v5 : dS) : (L_spec_BestSuper_61).X := (((v0, ()), ((), ()), ((), ()), ((), ()), (v1, ()), (v2, ()), ()), ((v3.1, v3.2.1, v3.2.2.1, v3.2.2.2, ()), (v4.1, v4.2.1, v4.2.2.1, v4.2.2.2.1, v4.2.2.2.2.1, v4.2.2.2.2.2.1, v4.2.2.2.2.2.2.1, v4.2.2.2.2.2.2.2, ()), (v5.1, v5.2.1, v5.2.2.1, v5.2.2.2.1, v5.2.2.2.2.1, v5.2.2.2.2.2.1, v5.2.2.2.2.2.2.1, v5.2.2.2.2.2.2.2, ()), ()), ())
abbrev ms_spec_BestSuper_61 (v0 : Int) (v1 : dM) (v2 : dS) (v3 : dS) : (S_spec_BestSuper_61).X := (((v0, ()), ((), ()), ((), ()), ((), ()), ((), ()), ((), ()), ()), ((v1.1, v1.2.1, v1.2.2.1, v1.2.2.2, ()), (v2.1, v2.2.1, v2.2.2.1, v2.2.2.2.1, v2.2.2.2.2.1, v2.2.2.2.2.2.1, v2.2.2.2.2.2.2.1, v2.2.2.2.2.2.2.2, ()), (v3.1, v3.2.1, v3.2.2.1, v3.2.2.2.1, v3.2.2.2.2.1, v3.2.2.2.2.2.1, v3.2.2.2.2.2.2.1, v3.2.2.2.2.2.2.2, ()), ()), ())
abbrev mo_spec_BestSuper_61 (v0 : Bool) (v1 : dS) (v2 : dS) : (O_spec_BestSuper_61).X := ((((), ()), ((), ()), (v0, ()), ()), ((v1.1, v1.2.1, v1.2.2.1, v1.2.2.2.1, v1.2.2.2.2.1, v1.2.2.2.2.2.1, v1.2.2.2.2.2.2.1, v1.2.2.2.2.2.2.2, ()), (v2.1, v2.2.1, v2.2.2.1, v2.2.2.2.1, v2.2.2.2.2.1, v2.2.2.2.2.2.1, v2.2.2.2.2.2.2.1, v2.2.2.2.2.2.2.2, ()), ()), ())
noncomputable def st_spec_BestSuper_61 (v0 : Int) (v1 : Bool) (v2 : Int) (v3 : List (List Int)) (v4 : List dW) (v5 : Bool) (v6 : List Int) (v7 : Int) (v8 : Int) (v9 : Int) (v10 : Int) (v11 : Int) (v12 : Int) (v13 : Int) (v14 : Int) (v15 : Int) (v16 : Int) (v17 : Int) (v18 : Int) (v19 : Int) (v20 : Int) (v21 : Int) (v22 : Int) : Option ((L_spec_BestSuper_61).X ⊕ ((O_spec_BestSuper_61).X ⊕ (Z_spec_BestSuper_61).X)) :=
  bif (ltb v2 2) then
    let r3 := n_spec_ReadSec (v3, v4, v5, v6) v2
    let r4 := n_spec_GetSuper r3.1
    bif r3.2 then
      bif r4.2 then
        bif (r4.1.1 == v0) then
          bif ((r4.1.2.1.tmod 2) == v2) then
            bif (!(!v1)) then
              bif (ltb v16 r4.1.2.1) then
                some (.inl (((v0, ()), ((), ()), ((), ()), ((), ()), (true, ()), ((IntKind.i64.wrap (v2 + 1)), ()), ()), ((v3, v4, v5, v6, ()), (v7, v8, v9, v10, v11, v12, v13, v14, ()), (r4.1.1, r4.1.2.1, r4.1.2.2.1, r4.1.2.2.2.1, r4.1.2.2.2.2.1, r4.1.2.2.2.2.2.1, r4.1.2.2.2.2.2.2.1, r4.1.2.2.2.2.2.2.2, ()), ()), ()))
              else
                some (.inl (((v0, ()), ((), ()), ((), ()), ((), ()), (v1, ()), ((IntKind.i64.wrap (v2 + 1)), ()), ()), ((v3, v4, v5, v6, ()), (v7, v8, v9, v10, v11, v12, v13, v14, ()), (v15, v16, v17, v18, v19, v20, v21, v22, ()), ()), ()))
            else
              some (.inl (((v0, ()), ((), ()), ((), ()), ((), ()), (true, ()), ((IntKind.i64.wrap (v2 + 1)), ()), ()), ((v3, v4, v5, v6, ()), (v7, v8, v9, v10, v11, v12, v13, v14, ()), (r4.1.1, r4.1.2.1, r4.1.2.2.1, r4.1.2.2.2.1, r4.1.2.2.2.2.1, r4.1.2.2.2.2.2.1, r4.1.2.2.2.2.2.2.1, r4.1.2.2.2.2.2.2.2, ()), ()), ()))
          else
            some (.inl (((v0, ()), ((), ()), ((), ()), ((), ()), (v1, ()), ((IntKind.i64.wrap (v2 + 1)), ()), ()), ((v3, v4, v5, v6, ()), (v7, v8, v9, v10, v11, v12, v13, v14, ()), (v15, v16, v17, v18, v19, v20, v21, v22, ()), ()), ()))
        else
          some (.inl (((v0, ()), ((), ()), ((), ()), ((), ()), (v1, ()), ((IntKind.i64.wrap (v2 + 1)), ()), ()), ((v3, v4, v5, v6, ()), (v7, v8, v9, v10, v11, v12, v13, v14, ()), (v15, v16, v17, v18, v19, v20, v21, v22, ()), ()), ()))
      else
        some (.inl (((v0, ()), ((), ()), ((), ()), ((), ()), (v1, ()), ((IntKind.i64.wrap (v2 + 1)), ()), ()), ((v3, v4, v5, v6, ()), (v7, v8, v9, v10, v11, v12, v13, v14, ()), (v15, v16, v17, v18, v19, v20, v21, v22, ()), ()), ()))
    else
      some (.inl (((v0, ()), ((), ()), ((), ()), ((), ()), (v1, ()), ((IntKind.i64.wrap (v2 + 1)), ()), ()), ((v3, v4, v5, v6, ()), (v7, v8, v9, v10, v11, v12, v13, v14, ()), (v15, v16, v17, v18, v19, v20, v21, v22, ()), ()), ()))
  else
    some (.inr (.inl ((((), ()), ((), ()), (v1, ()), ()), ((v7, v8, v9, v10, v11, v12, v13, v14, ()), (v15, v16, v17, v18, v19, v20, v21, v22, ()), ()), ())))
noncomputable def stx_spec_BestSuper_61 (x : (L_spec_BestSuper_61).X) := st_spec_BestSuper_61 x.1.1.1 x.1.2.2.2.2.1.1 x.1.2.2.2.2.2.1.1 x.2.1.1.1 x.2.1.1.2.1 x.2.1.1.2.2.1 x.2.1.1.2.2.2.1 x.2.1.2.1.1 x.2.1.2.1.2.1 x.2.1.2.1.2.2.1 x.2.1.2.1.2.2.2.1 x.2.1.2.1.2.2.2.2.1 x.2.1.2.1.2.2.2.2.2.1 x.2.1.2.1.2.2.2.2.2.2.1 x.2.1.2.1.2.2.2.2.2.2.2.1 x.2.1.2.2.1.1 x.2.1.2.2.1.2.1 x.2.1.2.2.1.2.2.1 x.2.1.2.2.1.2.2.2.1 x.2.1.2.2.1.2.2.2.2.1 x.2.1.2.2.1.2.2.2.2.2.1 x.2.1.2.2.1.2.2.2.2.2.2.1 x.2.1.2.2.1.2.2.2.2.2.2.2.1
def em_spec_BestSuper_61 (x : (S_spec_BestSuper_61).X) : (L_spec_BestSuper_61).X := (((x.1.1.1, ()), ((), ()), ((), ()), ((), ()), (false, ()), (0, ()), ()), ((x.2.1.1.1, x.2.1.1.2.1, x.2.1.1.2.2.1, x.2.1.1.2.2.2.1, ()), (x.2.1.2.1.1, x.2.1.2.1.2.1, x.2.1.2.1.2.2.1, x.2.1.2.1.2.2.2.1, x.2.1.2.1.2.2.2.2.1, x.2.1.2.1.2.2.2.2.2.1, x.2.1.2.1.2.2.2.2.2.2.1, x.2.1.2.1.2.2.2.2.2.2.2.1, ()), (x.2.1.2.2.1.1, x.2.1.2.2.1.2.1, x.2.1.2.2.1.2.2.1, x.2.1.2.2.1.2.2.2.1, x.2.1.2.2.1.2.2.2.2.1, x.2.1.2.2.1.2.2.2.2.2.1, x.2.1.2.2.1.2.2.2.2.2.2.1, x.2.1.2.2.1.2.2.2.2.2.2.2.1, ()), ()), ())
noncomputable def c_spec_BestSuper_61 : Code := (subN B_spec_BestSuper 64 244).getD .skip
theorem a_spec_BestSuper_61 : subN B_spec_BestSuper 64 61 = some (.block 0 (.loop c_spec_BestSuper_61)) := by kernel_rfl
theorem r_spec_BestSuper_61 (x : (L_spec_BestSuper_61).X) : roundT ⟨E_spec_BestSuper, 60, D_spec_BestSuper_0⟩ 0 c_spec_BestSuper_61 244 L_spec_BestSuper_61 O_spec_BestSuper_61 Z_spec_BestSuper_61 x = stx_spec_BestSuper_61 x := by kernel_rfl
noncomputable def fu_spec_BestSuper_61 (x : (S_spec_BestSuper_61).X) : Nat := (fun (u0 : Int) (u1 : List (List Int)) (u2 : List dW) (u3 : Bool) (u4 : List Int) (u5 : Int) (u6 : Int) (u7 : Int) (u8 : Int) (u9 : Int) (u10 : Int) (u11 : Int) (u12 : Int) (u13 : Int) (u14 : Int) (u15 : Int) (u16 : Int) (u17 : Int) (u18 : Int) (u19 : Int) (u20 : Int) => 18446744073709551616) x.1.1.1 x.2.1.1.1 x.2.1.1.2.1 x.2.1.1.2.2.1 x.2.1.1.2.2.2.1 x.2.1.2.1.1 x.2.1.2.1.2.1 x.2.1.2.1.2.2.1 x.2.1.2.1.2.2.2.1 x.2.1.2.1.2.2.2.2.1 x.2.1.2.1.2.2.2.2.2.1 x.2.1.2.1.2.2.2.2.2.2.1 x.2.1.2.1.2.2.2.2.2.2.2.1 x.2.1.2.2.1.1 x.2.1.2.2.1.2.1 x.2.1.2.2.1.2.2.1 x.2.1.2.2.1.2.2.2.1 x.2.1.2.2.1.2.2.2.2.1 x.2.1.2.2.1.2.2.2.2.2.1 x.2.1.2.2.1.2.2.2.2.2.2.1 x.2.1.2.2.1.2.2.2.2.2.2.2.1
noncomputable def F_spec_BestSuper_61 (x : (S_spec_BestSuper_61).X) : Option ((O_spec_BestSuper_61).X ⊕ (Z_spec_BestSuper_61).X) := loopN stx_spec_BestSuper_61 (fu_spec_BestSuper_61 x) (em_spec_BestSuper_61 x)
noncomputable def sg_spec_BestSuper_61 : Seg := ⟨S_spec_BestSuper_61, O_spec_BestSuper_61, Z_spec_BestSuper_61, F_spec_BestSuper_61⟩
noncomputable def D_spec_BestSuper_1 : Nat → Option Seg := fun q => bif Nat.beq q 61 then some sg_spec_BestSuper_61 else D_spec_BestSuper_0 q
theorem fr_spec_BestSuper_1 : FrOk Try.prog ⟨E_spec_BestSuper, 60, D_spec_BestSuper_1⟩ B_spec_BestSuper := (fr_spec_BestSuper_0).loop (sg := sg_spec_BestSuper_61) L_spec_BestSuper_61 em_spec_BestSuper_61 (by decide) a_spec_BestSuper_61 stx_spec_BestSuper_61 fu_spec_BestSuper_61 (by decide) (fun _ => rfl) (fun x r _ h => h) r_spec_BestSuper_61
abbrev I_spec_BestSuper : List Par := [.rd tM, .rd tI]
abbrev U_spec_BestSuper : List OT := [⟨false, tS, (.pr .fz (.pr .fz (.pr .fz (.pr .fz (.pr .fz (.pr .fz (.pr .fz .fz)))))))⟩, ⟨false, tB, .fz⟩]
noncomputable def raw_spec_BestSuper (a0 : dM) (a1 : Int) : Option (ResD U_spec_BestSuper × MutD I_spec_BestSuper) :=
  segM (F_spec_BestSuper_61 (((a1, ()), ((), ()), ((), ()), ((), ()), ((), ()), ((), ()), ()), ((a0.1, a0.2.1, a0.2.2.1, a0.2.2.2, ()), (0, 0, 0, 0, 0, 0, 0, 0, ()), (0, 0, 0, 0, 0, 0, 0, 0, ()), ()), ())) (fun y4 =>
    some (((y4.2.1.2.1.1, y4.2.1.2.1.2.1, y4.2.1.2.1.2.2.1, y4.2.1.2.1.2.2.2.1, y4.2.1.2.1.2.2.2.2.1, y4.2.1.2.1.2.2.2.2.2.1, y4.2.1.2.1.2.2.2.2.2.2.1, y4.2.1.2.1.2.2.2.2.2.2.2.1), y4.1.2.2.1.1, ()), ())) (fun y4 =>
    none)
theorem e_spec_BestSuper (x : InD I_spec_BestSuper) : execF ⟨E_spec_BestSuper, 60, D_spec_BestSuper_1⟩ Try.f163.results.toList B_spec_BestSuper I_spec_BestSuper U_spec_BestSuper x = raw_spec_BestSuper x.1 x.2.1 := by kernel_rfl
theorem ok0_spec_BestSuper : ConOk Try.prog 163 ⟨I_spec_BestSuper, U_spec_BestSuper, fun x => raw_spec_BestSuper x.1 x.2.1⟩ := conOk_exec (fr_spec_BestSuper_1) Try.func163 (by kernel_rfl) (by kernel_rfl) Try.ntmps163.symm (by decide) (fun x r h => (e_spec_BestSuper x).trans h)
noncomputable def n_spec_BestSuper (a0 : dM) (a1 : Int) : dS × Bool := bestSuper a0 a1
theorem nn_spec_BestSuper (a0 : dM) (a1 : Int) (hk : InOk I_spec_BestSuper (a0, a1, ())) : raw_spec_BestSuper a0 a1 = (fun n => some ((n.1, n.2, ()), ())) (n_spec_BestSuper a0 a1) := by
  have h1 := loopN_rng (step := stx_spec_BestSuper_61) 2 (fun i s => mk_spec_BestSuper_61 a1 s.2 i a0 noSuper s.1) (fun (s : dS × Bool) (i : Nat) => better s (candOk a0 a1 i) (cand a0 i)) (fun _ _ => True) (fun s => .inl (mo_spec_BestSuper_61 s.2 noSuper s.1)) (fun i s hi _ => ⟨by
    simp only [stx_spec_BestSuper_61, mk_spec_BestSuper_61, st_spec_BestSuper_61, ltb_t (show (i : Int) < 2 by omega), cond_true, wr (show -9223372036854775808 ≤ (i : Int) + 1 by omega) (by omega), Int.natCast_add, Int.natCast_one, Int.toNat_natCast, pr_eta, n_spec_ReadSec, n_spec_GetSuper]
    unfold candOk better cand
    cases (readSec a0 i).2 <;> cases (getSuper (readSec a0 i).1).2 <;> cases ((getSuper (readSec a0 i).1).1.1 == a1) <;> cases ((getSuper (readSec a0 i).1).1.2.1.tmod 2 == (i : Int)) <;> cases hf : s.2 <;> cases ltb s.1.2.1 (getSuper (readSec a0 i).1).1.2.1 <;> simp only [Bool.not_true, Bool.not_false, cond_true, cond_false, Bool.and_true, Bool.true_and, Bool.false_and, Bool.and_false, Bool.or_true, Bool.true_or, Bool.false_or, Bool.or_false, hf], trivial⟩) (fun s _ => by simp only [stx_spec_BestSuper_61, mk_spec_BestSuper_61, st_spec_BestSuper_61]; rfl) (noSuper, false) trivial 18446744073709551616 (by omega)
  unfold raw_spec_BestSuper n_spec_BestSuper
  rw [show F_spec_BestSuper_61 (ms_spec_BestSuper_61 a1 a0 noSuper noSuper) = _ from h1]; rfl
noncomputable def con_spec_BestSuper : Con := ⟨I_spec_BestSuper, U_spec_BestSuper, fun x => (fun n => some ((n.1, n.2, ()), ())) (n_spec_BestSuper x.1 x.2.1)⟩
theorem ok_spec_BestSuper : ConOk Try.prog 163 con_spec_BestSuper := (ok0_spec_BestSuper).mono (fun x r hk h => (nn_spec_BestSuper x.1 x.2.1 hk).trans h)
end

/-! spec_l9Super -/
section
noncomputable def B_spec_l9Super : Code := (Try.f117.body).getD .skip
noncomputable def E_spec_l9Super : Env := envOf TT [(163, con_spec_BestSuper)] []
theorem fr_spec_l9Super_0 : FrOk Try.prog ⟨E_spec_l9Super, 33, fun _ => none⟩ B_spec_l9Super := frOk_base mixed tt_ok ⟨ok_spec_BestSuper, trivial⟩
noncomputable def D_spec_l9Super_0 : Nat → Option Seg := fun _ => none
abbrev I_spec_l9Super : List Par := [.rd tMs, .rd tI, .rd tI]
abbrev U_spec_l9Super : List OT := [⟨false, tS, (.pr .fz (.pr .fz (.pr .fz (.pr .fz (.pr .fz (.pr .fz (.pr .fz .fz)))))))⟩, ⟨false, tB, .fz⟩]
noncomputable def raw_spec_l9Super (a0 : List dM) (a1 : Int) (a2 : Int) : Option (ResD U_spec_l9Super × MutD I_spec_l9Super) :=
  bif (inb a1 a0.length) then
    bif (((nth a0 a1 ([], [], false, [])).2).2).1 then
      some (((0, 0, 0, 0, 0, 0, 0, 0), false, ()), ())
    else
      bif (inb a1 a0.length) then
        let r1 := n_spec_BestSuper ((nth a0 a1 ([], [], false, [])).1, ((nth a0 a1 ([], [], false, [])).2).1, (((nth a0 a1 ([], [], false, [])).2).2)) a2
        bif r1.2 then
          some ((r1.1, (r1.1.2.2.1 == a1), ()), ())
        else
          some ((r1.1, false, ()), ())
      else none
  else none
theorem e_spec_l9Super (x : InD I_spec_l9Super) : execF ⟨E_spec_l9Super, 33, D_spec_l9Super_0⟩ Try.f117.results.toList B_spec_l9Super I_spec_l9Super U_spec_l9Super x = raw_spec_l9Super x.1 x.2.1 x.2.2.1 := by kernel_rfl
theorem ok0_spec_l9Super : ConOk Try.prog 117 ⟨I_spec_l9Super, U_spec_l9Super, fun x => raw_spec_l9Super x.1 x.2.1 x.2.2.1⟩ := conOk_exec (fr_spec_l9Super_0) Try.func117 (by kernel_rfl) (by kernel_rfl) Try.ntmps117.symm (by decide) (fun x r h => (e_spec_l9Super x).trans h)
noncomputable def n_spec_l9Super (a0 : List dM) (a1 a2 : Int) : dS × Bool := bif (nth a0 a1 noMem).2.2.1 then (noSuper, false) else ((bestSuper (nth a0 a1 noMem) a2).1, ownOk (nth a0 a1 noMem) a1 a2)
noncomputable def q_spec_l9Super (a0 : List dM) (a1 a2 : Int) : Bool := inb a1 a0.length
theorem nn_spec_l9Super (a0 : List dM) (a1 a2 : Int) (hk : InOk I_spec_l9Super (a0, a1, a2, ())) (hq : q_spec_l9Super a0 a1 a2 = true) : raw_spec_l9Super a0 a1 a2 = (fun n => some ((n.1, n.2, ()), ())) (n_spec_l9Super a0 a1 a2) := by
  unfold raw_spec_l9Super n_spec_l9Super ownOk
  rw [show inb a1 a0.length = true from hq]
  simp only [pr_eta, n_spec_BestSuper]
  cases (nth a0 a1 noMem).2.2.1
  · cases (bestSuper (nth a0 a1 noMem) a2).2 <;> rfl
  · rfl
noncomputable def o_spec_l9Super (a0 : List dM) (a1 : Int) (a2 : Int) : Option (ResD U_spec_l9Super × MutD I_spec_l9Super) := bif q_spec_l9Super a0 a1 a2 then (fun n => some ((n.1, n.2, ()), ())) (n_spec_l9Super a0 a1 a2) else none
theorem ot_spec_l9Super (a0 : List dM) (a1 : Int) (a2 : Int) (h : q_spec_l9Super a0 a1 a2 = true) : o_spec_l9Super a0 a1 a2 = (fun n => some ((n.1, n.2, ()), ())) (n_spec_l9Super a0 a1 a2) := by unfold o_spec_l9Super; rw [h]; rfl
noncomputable def con_spec_l9Super : Con := ⟨I_spec_l9Super, U_spec_l9Super, fun x => o_spec_l9Super x.1 x.2.1 x.2.2.1⟩
theorem ok_spec_l9Super : ConOk Try.prog 117 con_spec_l9Super := (ok0_spec_l9Super).mono (fun x r hk h => pre_ok h (fun hq => nn_spec_l9Super x.1 x.2.1 x.2.2.1 hk hq))
end

/-! spec_l9Best -/
section
noncomputable def B_spec_l9Best : Code := (Try.f115.body).getD .skip
noncomputable def E_spec_l9Best : Env := envOf TT [(117, con_spec_l9Super)] []
theorem fr_spec_l9Best_0 : FrOk Try.prog ⟨E_spec_l9Best, 40, fun _ => none⟩ B_spec_l9Best := frOk_base mixed tt_ok ⟨ok_spec_l9Super, trivial⟩
noncomputable def D_spec_l9Best_0 : Nat → Option Seg := fun _ => none
def L_spec_l9Best_61 : Shape := ⟨[(0, false, [.br tM]), (1, false, [.int .i64]), (4, false, [.ptr 0 0]), (6, false, [.ptr 4160 0]), (7, false, [.bool]), (8, false, [.int .i64])], [(0, [.int .i64, .int .i64, .int .i64, .int .i64, .int .i64, .int .i64, .int .i64, .int .i64]), (4160, [.int .i64, .int .i64, .int .i64, .int .i64, .int .i64, .int .i64, .int .i64, .int .i64])], []⟩
def S_spec_l9Best_61 : Shape := ⟨[(0, false, [.br tM]), (1, false, [.int .i64]), (4, false, [.ptr 0 0]), (6, false, [.ptr 4160 0]), (7, false, [.cb false]), (8, false, [.ci .i64 0])], [(0, [.int .i64, .int .i64, .int .i64, .int .i64, .int .i64, .int .i64, .int .i64, .int .i64]), (4160, [.int .i64, .int .i64, .int .i64, .int .i64, .int .i64, .int .i64, .int .i64, .int .i64])], []⟩
def O_spec_l9Best_61 : Shape := ⟨[(4, false, [.ptr 0 0]), (6, false, [.ptr 4160 0]), (7, false, [.bool])], [(0, [.int .i64, .int .i64, .int .i64, .int .i64, .int .i64, .int .i64, .int .i64, .int .i64]), (4160, [.int .i64, .int .i64, .int .i64, .int .i64, .int .i64, .int .i64, .int .i64, .int .i64])], []⟩
def Z_spec_l9Best_61 : Shape := ⟨[], [], []⟩
abbrev mk_spec_l9Best_61 (v0 : List dM) (v1 : Int) (v2 : Bool) (v3 : Int) (v4 : dS) (v5 : dS) : (L_spec_l9Best_61).X := (((v0, ()), (v1, ()), ((), ()), ((), ()), (v2, ()), (v3, ()), ()), ((v4.1, v4.2.1, v4.2.2.1, v4.2.2.2.1, v4.2.2.2.2.1, v4.2.2.2.2.2.1, v4.2.2.2.2.2.2.1, v4.2.2.2.2.2.2.2, ()), (v5.1, v5.2.1, v5.2.2.1, v5.2.2.2.1, v5.2.2.2.2.1, v5.2.2.2.2.2.1, v5.2.2.2.2.2.2.1, v5.2.2.2.2.2.2.2, ()), ()), ())
abbrev ms_spec_l9Best_61 (v0 : List dM) (v1 : Int) (v2 : dS) (v3 : dS) : (S_spec_l9Best_61).X := (((v0, ()), (v1, ()), ((), ()), ((), ()), ((), ()), ((), ()), ()), ((v2.1, v2.2.1, v2.2.2.1, v2.2.2.2.1, v2.2.2.2.2.1, v2.2.2.2.2.2.1, v2.2.2.2.2.2.2.1, v2.2.2.2.2.2.2.2, ()), (v3.1, v3.2.1, v3.2.2.1, v3.2.2.2.1, v3.2.2.2.2.1, v3.2.2.2.2.2.1, v3.2.2.2.2.2.2.1, v3.2.2.2.2.2.2.2, ()), ()), ())
abbrev mo_spec_l9Best_61 (v0 : Bool) (v1 : dS) (v2 : dS) : (O_spec_l9Best_61).X := ((((), ()), ((), ()), (v0, ()), ()), ((v1.1, v1.2.1, v1.2.2.1, v1.2.2.2.1, v1.2.2.2.2.1, v1.2.2.2.2.2.1, v1.2.2.2.2.2.2.1, v1.2.2.2.2.2.2.2, ()), (v2.1, v2.2.1, v2.2.2.1, v2.2.2.2.1, v2.2.2.2.2.1, v2.2.2.2.2.2.1, v2.2.2.2.2.2.2.1, v2.2.2.2.2.2.2.2, ()), ()), ())
noncomputable def st_spec_l9Best_61 (v0 : List dM) (v1 : Int) (v2 : Bool) (v3 : Int) (v4 : Int) (v5 : Int) (v6 : Int) (v7 : Int) (v8 : Int) (v9 : Int) (v10 : Int) (v11 : Int) (v12 : Int) (v13 : Int) (v14 : Int) (v15 : Int) (v16 : Int) (v17 : Int) (v18 : Int) (v19 : Int) : Option ((L_spec_l9Best_61).X ⊕ ((O_spec_l9Best_61).X ⊕ (Z_spec_l9Best_61).X)) :=
  bif (ltb v3 (v0.length : Int)) then
    bnd (o_spec_l9Super v0 v3 v1) fun r2 =>
    bif r2.1.2.1 then
      bif (!(!v2)) then
        bif (ltb v13 r2.1.1.2.1) then
          some (.inl (((v0, ()), (v1, ()), ((), ()), ((), ()), (true, ()), ((IntKind.i64.wrap (v3 + 1)), ()), ()), ((v4, v5, v6, v7, v8, v9, v10, v11, ()), (r2.1.1.1, r2.1.1.2.1, r2.1.1.2.2.1, r2.1.1.2.2.2.1, r2.1.1.2.2.2.2.1, r2.1.1.2.2.2.2.2.1, r2.1.1.2.2.2.2.2.2.1, r2.1.1.2.2.2.2.2.2.2, ()), ()), ()))
        else
          some (.inl (((v0, ()), (v1, ()), ((), ()), ((), ()), (v2, ()), ((IntKind.i64.wrap (v3 + 1)), ()), ()), ((v4, v5, v6, v7, v8, v9, v10, v11, ()), (v12, v13, v14, v15, v16, v17, v18, v19, ()), ()), ()))
      else
        some (.inl (((v0, ()), (v1, ()), ((), ()), ((), ()), (true, ()), ((IntKind.i64.wrap (v3 + 1)), ()), ()), ((v4, v5, v6, v7, v8, v9, v10, v11, ()), (r2.1.1.1, r2.1.1.2.1, r2.1.1.2.2.1, r2.1.1.2.2.2.1, r2.1.1.2.2.2.2.1, r2.1.1.2.2.2.2.2.1, r2.1.1.2.2.2.2.2.2.1, r2.1.1.2.2.2.2.2.2.2, ()), ()), ()))
    else
      some (.inl (((v0, ()), (v1, ()), ((), ()), ((), ()), (v2, ()), ((IntKind.i64.wrap (v3 + 1)), ()), ()), ((v4, v5, v6, v7, v8, v9, v10, v11, ()), (v12, v13, v14, v15, v16, v17, v18, v19, ()), ()), ()))
  else
    some (.inr (.inl ((((), ()), ((), ()), (v2, ()), ()), ((v4, v5, v6, v7, v8, v9, v10, v11, ()), (v12, v13, v14, v15, v16, v17, v18, v19, ()), ()), ())))
noncomputable def stx_spec_l9Best_61 (x : (L_spec_l9Best_61).X) := st_spec_l9Best_61 x.1.1.1 x.1.2.1.1 x.1.2.2.2.2.1.1 x.1.2.2.2.2.2.1.1 x.2.1.1.1 x.2.1.1.2.1 x.2.1.1.2.2.1 x.2.1.1.2.2.2.1 x.2.1.1.2.2.2.2.1 x.2.1.1.2.2.2.2.2.1 x.2.1.1.2.2.2.2.2.2.1 x.2.1.1.2.2.2.2.2.2.2.1 x.2.1.2.1.1 x.2.1.2.1.2.1 x.2.1.2.1.2.2.1 x.2.1.2.1.2.2.2.1 x.2.1.2.1.2.2.2.2.1 x.2.1.2.1.2.2.2.2.2.1 x.2.1.2.1.2.2.2.2.2.2.1 x.2.1.2.1.2.2.2.2.2.2.2.1
def em_spec_l9Best_61 (x : (S_spec_l9Best_61).X) : (L_spec_l9Best_61).X := (((x.1.1.1, ()), (x.1.2.1.1, ()), ((), ()), ((), ()), (false, ()), (0, ()), ()), ((x.2.1.1.1, x.2.1.1.2.1, x.2.1.1.2.2.1, x.2.1.1.2.2.2.1, x.2.1.1.2.2.2.2.1, x.2.1.1.2.2.2.2.2.1, x.2.1.1.2.2.2.2.2.2.1, x.2.1.1.2.2.2.2.2.2.2.1, ()), (x.2.1.2.1.1, x.2.1.2.1.2.1, x.2.1.2.1.2.2.1, x.2.1.2.1.2.2.2.1, x.2.1.2.1.2.2.2.2.1, x.2.1.2.1.2.2.2.2.2.1, x.2.1.2.1.2.2.2.2.2.2.1, x.2.1.2.1.2.2.2.2.2.2.2.1, ()), ()), ())
noncomputable def c_spec_l9Best_61 : Code := (subN B_spec_l9Best 64 244).getD .skip
theorem a_spec_l9Best_61 : subN B_spec_l9Best 64 61 = some (.block 0 (.loop c_spec_l9Best_61)) := by kernel_rfl
theorem r_spec_l9Best_61 (x : (L_spec_l9Best_61).X) : roundT ⟨E_spec_l9Best, 40, D_spec_l9Best_0⟩ 0 c_spec_l9Best_61 244 L_spec_l9Best_61 O_spec_l9Best_61 Z_spec_l9Best_61 x = stx_spec_l9Best_61 x := by kernel_rfl
noncomputable def fu_spec_l9Best_61 (x : (S_spec_l9Best_61).X) : Nat := (fun (u0 : List dM) (u1 : Int) (u2 : Int) (u3 : Int) (u4 : Int) (u5 : Int) (u6 : Int) (u7 : Int) (u8 : Int) (u9 : Int) (u10 : Int) (u11 : Int) (u12 : Int) (u13 : Int) (u14 : Int) (u15 : Int) (u16 : Int) (u17 : Int) => 18446744073709551616) x.1.1.1 x.1.2.1.1 x.2.1.1.1 x.2.1.1.2.1 x.2.1.1.2.2.1 x.2.1.1.2.2.2.1 x.2.1.1.2.2.2.2.1 x.2.1.1.2.2.2.2.2.1 x.2.1.1.2.2.2.2.2.2.1 x.2.1.1.2.2.2.2.2.2.2.1 x.2.1.2.1.1 x.2.1.2.1.2.1 x.2.1.2.1.2.2.1 x.2.1.2.1.2.2.2.1 x.2.1.2.1.2.2.2.2.1 x.2.1.2.1.2.2.2.2.2.1 x.2.1.2.1.2.2.2.2.2.2.1 x.2.1.2.1.2.2.2.2.2.2.2.1
noncomputable def F_spec_l9Best_61 (x : (S_spec_l9Best_61).X) : Option ((O_spec_l9Best_61).X ⊕ (Z_spec_l9Best_61).X) := loopN stx_spec_l9Best_61 (fu_spec_l9Best_61 x) (em_spec_l9Best_61 x)
noncomputable def sg_spec_l9Best_61 : Seg := ⟨S_spec_l9Best_61, O_spec_l9Best_61, Z_spec_l9Best_61, F_spec_l9Best_61⟩
noncomputable def D_spec_l9Best_1 : Nat → Option Seg := fun q => bif Nat.beq q 61 then some sg_spec_l9Best_61 else D_spec_l9Best_0 q
theorem fr_spec_l9Best_1 : FrOk Try.prog ⟨E_spec_l9Best, 40, D_spec_l9Best_1⟩ B_spec_l9Best := (fr_spec_l9Best_0).loop (sg := sg_spec_l9Best_61) L_spec_l9Best_61 em_spec_l9Best_61 (by decide) a_spec_l9Best_61 stx_spec_l9Best_61 fu_spec_l9Best_61 (by decide) (fun _ => rfl) (fun x r _ h => h) r_spec_l9Best_61
abbrev I_spec_l9Best : List Par := [.rd tMs, .rd tI]
abbrev U_spec_l9Best : List OT := [⟨false, tS, (.pr .fz (.pr .fz (.pr .fz (.pr .fz (.pr .fz (.pr .fz (.pr .fz .fz)))))))⟩, ⟨false, tB, .fz⟩]
noncomputable def raw_spec_l9Best (a0 : List dM) (a1 : Int) : Option (ResD U_spec_l9Best × MutD I_spec_l9Best) :=
  segM (F_spec_l9Best_61 (((a0, ()), (a1, ()), ((), ()), ((), ()), ((), ()), ((), ()), ()), ((0, 0, 0, 0, 0, 0, 0, 0, ()), (0, 0, 0, 0, 0, 0, 0, 0, ()), ()), ())) (fun y2 =>
    some (((y2.2.1.2.1.1, y2.2.1.2.1.2.1, y2.2.1.2.1.2.2.1, y2.2.1.2.1.2.2.2.1, y2.2.1.2.1.2.2.2.2.1, y2.2.1.2.1.2.2.2.2.2.1, y2.2.1.2.1.2.2.2.2.2.2.1, y2.2.1.2.1.2.2.2.2.2.2.2.1), y2.1.2.2.1.1, ()), ())) (fun y2 =>
    none)
theorem e_spec_l9Best (x : InD I_spec_l9Best) : execF ⟨E_spec_l9Best, 40, D_spec_l9Best_1⟩ Try.f115.results.toList B_spec_l9Best I_spec_l9Best U_spec_l9Best x = raw_spec_l9Best x.1 x.2.1 := by kernel_rfl
theorem ok0_spec_l9Best : ConOk Try.prog 115 ⟨I_spec_l9Best, U_spec_l9Best, fun x => raw_spec_l9Best x.1 x.2.1⟩ := conOk_exec (fr_spec_l9Best_1) Try.func115 (by kernel_rfl) (by kernel_rfl) Try.ntmps115.symm (by decide) (fun x r h => (e_spec_l9Best x).trans h)
noncomputable def n_spec_l9Best (a0 : List dM) (a1 : Int) : dS × Bool := best9 a0 a1
theorem nn_spec_l9Best (a0 : List dM) (a1 : Int) (hk : InOk I_spec_l9Best (a0, a1, ())) : raw_spec_l9Best a0 a1 = (fun n => some ((n.1, n.2, ()), ())) (n_spec_l9Best a0 a1) := by
  have hb : a0.length * 80 ≤ 2 ^ 47 := hk.1.1
  have h1 := loopN_rng (step := stx_spec_l9Best_61) a0.length (fun i s => mk_spec_l9Best_61 a0 a1 s.2 i noSuper s.1) (fun (s : dS × Bool) (i : Nat) => better s (ownOk (nth a0 i noMem) i a1) (bestSuper (nth a0 i noMem) a1).1) (fun _ _ => True) (fun s => .inl (mo_spec_l9Best_61 s.2 noSuper s.1)) (fun i s hi _ => ⟨by
    simp only [stx_spec_l9Best_61, mk_spec_l9Best_61, st_spec_l9Best_61, ltb_t (show (i : Int) < a0.length by omega), cond_true, wr (show -9223372036854775808 ≤ (i : Int) + 1 by omega) (by omega), Int.natCast_add, Int.natCast_one, Int.toNat_natCast, pr_eta, ot_spec_l9Super a0 i a1 (inb_nat hi), bnd_some, n_spec_l9Super]
    cases hx : (nth a0 i noMem).2.2.1
    · simp only [cond_false]
      unfold better
      cases ownOk (nth a0 i noMem) i a1 <;> cases hf : s.2 <;> cases ltb s.1.2.1 (bestSuper (nth a0 i noMem) a1).1.2.1 <;> simp only [Bool.not_true, Bool.not_false, cond_true, cond_false, Bool.and_true, Bool.true_and, Bool.false_and, Bool.and_false, Bool.or_true, Bool.true_or, Bool.false_or, Bool.or_false, hf]
    · unfold better ownOk
      rw [hx]; rfl, trivial⟩) (fun s _ => by simp only [stx_spec_l9Best_61, mk_spec_l9Best_61, st_spec_l9Best_61, ltb_f (Int.le_refl _), cond_false]) (noSuper, false) trivial 18446744073709551616 (by omega)
  unfold raw_spec_l9Best n_spec_l9Best
  rw [show F_spec_l9Best_61 (ms_spec_l9Best_61 a0 a1 noSuper noSuper) = _ from h1]; rfl
noncomputable def con_spec_l9Best : Con := ⟨I_spec_l9Best, U_spec_l9Best, fun x => (fun n => some ((n.1, n.2, ()), ())) (n_spec_l9Best x.1 x.2.1)⟩
theorem ok_spec_l9Best : ConOk Try.prog 115 con_spec_l9Best := (ok0_spec_l9Best).mono (fun x r hk h => (nn_spec_l9Best x.1 x.2.1 hk).trans h)
end

/-! spec_l2Copy -/
section
noncomputable def B_spec_l2Copy : Code := (Try.f116.body).getD .skip
noncomputable def E_spec_l2Copy : Env := envOf TT [] [(21056, .fz), (21120, .fz), (37952, (.pr .fz .fz)), (38016, (.pr .fz .fz))]
theorem fr_spec_l2Copy_0 : FrOk Try.prog ⟨E_spec_l2Copy, 60, fun _ => none⟩ B_spec_l2Copy := frOk_base mixed tt_ok trivial
noncomputable def D_spec_l2Copy_0 : Nat → Option Seg := fun _ => none
def L_spec_l2Copy_29 : Shape := ⟨[(1, false, [.ptr 0 0]), (2, false, [.ptr 64 0]), (3, false, [.ptr 4544 0]), (4, false, [.int .i64])], [(0, [.br tL, .br tW, .bool, .br tI]), (64, [.nil, .nil, .bool, .nil]), (4544, [.at 800000001, .nil, .bool, .at 800000000])], [(800000001, tL, .fz), (800000000, tI, .fz)]⟩
def S_spec_l2Copy_29 : Shape := ⟨[(1, false, [.ptr 0 0]), (2, false, [.ptr 64 0]), (3, false, [.ptr 4544 0]), (4, false, [.ci .i64 0])], [(0, [.br tL, .br tW, .bool, .br tI]), (64, [.nil, .nil, .bool, .nil]), (4544, [.at 800000001, .nil, .bool, .at 800000000])], [(800000001, tL, .fz), (800000000, tI, .fz)]⟩
def O_spec_l2Copy_29 : Shape := ⟨[(1, false, [.ptr 0 0]), (2, false, [.ptr 64 0]), (3, false, [.ptr 4544 0])], [(0, [.br tL, .br tW, .bool, .br tI]), (64, [.nil, .nil, .bool, .nil]), (4544, [.at 800000000, .nil, .bool, .at 800000001])], [(800000000, tL, .fz), (800000001, tI, .fz)]⟩
def Z_spec_l2Copy_29 : Shape := ⟨[], [], []⟩
abbrev mk_spec_l2Copy_29 (v0 : Int) (v1 : dM) (v2 : dM) (v3 : dM) : (L_spec_l2Copy_29).X := ((((), ()), ((), ()), ((), ()), (v0, ()), ()), ((v1.1, v1.2.1, v1.2.2.1, v1.2.2.2, ()), ((), (), v2.2.2.1, (), ()), ((), (), v3.2.2.1, (), ()), ()), (v3.1, v3.2.2.2, ()))
abbrev ms_spec_l2Copy_29 (v0 : dM) (v1 : dM) (v2 : dM) : (S_spec_l2Copy_29).X := ((((), ()), ((), ()), ((), ()), ((), ()), ()), ((v0.1, v0.2.1, v0.2.2.1, v0.2.2.2, ()), ((), (), v1.2.2.1, (), ()), ((), (), v2.2.2.1, (), ()), ()), (v2.1, v2.2.2.2, ()))
abbrev mo_spec_l2Copy_29 (v0 : dM) (v1 : dM) (v2 : dM) : (O_spec_l2Copy_29).X := ((((), ()), ((), ()), ((), ()), ()), ((v0.1, v0.2.1, v0.2.2.1, v0.2.2.2, ()), ((), (), v1.2.2.1, (), ()), ((), (), v2.2.2.1, (), ()), ()), (v2.1, v2.2.2.2, ()))
noncomputable def st_spec_l2Copy_29 (v0 : Int) (v1 : List (List Int)) (v2 : List dW) (v3 : Bool) (v4 : List Int) (v5 : Bool) (v6 : Bool) (v7 : List (List Int)) (v8 : List Int) : Option ((L_spec_l2Copy_29).X ⊕ ((O_spec_l2Copy_29).X ⊕ (Z_spec_l2Copy_29).X)) :=
  bif (ltb v0 (v1.length : Int)) then
    bif (inb v0 v1.length) then
      bif (apok ([] : List Int).length (nth v1 v0 []).length 8) then
        bif (apok v7.length ([(([] : List Int) ++ (nth v1 v0 []))] : List (List Int)).length 24) then
          some (.inl ((((), ()), ((), ()), ((), ()), ((IntKind.i64.wrap (v0 + 1)), ()), ()), ((v1, v2, v3, v4, ()), ((), (), v5, (), ()), ((), (), v6, (), ()), ()), ((v7 ++ ([(([] : List Int) ++ (nth v1 v0 []))] : List (List Int))), v8, ())))
        else none
      else none
    else none
  else
    some (.inr (.inl ((((), ()), ((), ()), ((), ()), ()), ((v1, v2, v3, v4, ()), ((), (), v5, (), ()), ((), (), v6, (), ()), ()), (v7, v8, ()))))
noncomputable def stx_spec_l2Copy_29 (x : (L_spec_l2Copy_29).X) := st_spec_l2Copy_29 x.1.2.2.2.1.1 x.2.1.1.1 x.2.1.1.2.1 x.2.1.1.2.2.1 x.2.1.1.2.2.2.1 x.2.1.2.1.2.2.1 x.2.1.2.2.1.2.2.1 x.2.2.1 x.2.2.2.1
def em_spec_l2Copy_29 (x : (S_spec_l2Copy_29).X) : (L_spec_l2Copy_29).X := ((((), ()), ((), ()), ((), ()), (0, ()), ()), ((x.2.1.1.1, x.2.1.1.2.1, x.2.1.1.2.2.1, x.2.1.1.2.2.2.1, ()), ((), (), x.2.1.2.1.2.2.1, (), ()), ((), (), x.2.1.2.2.1.2.2.1, (), ()), ()), (x.2.2.1, x.2.2.2.1, ()))
noncomputable def c_spec_l2Copy_29 : Code := (subN B_spec_l2Copy 64 116).getD .skip
theorem a_spec_l2Copy_29 : subN B_spec_l2Copy 64 29 = some (.block 0 (.loop c_spec_l2Copy_29)) := by kernel_rfl
theorem r_spec_l2Copy_29 (x : (L_spec_l2Copy_29).X) : roundT ⟨E_spec_l2Copy, 60, D_spec_l2Copy_0⟩ 0 c_spec_l2Copy_29 116 L_spec_l2Copy_29 O_spec_l2Copy_29 Z_spec_l2Copy_29 x = stx_spec_l2Copy_29 x := by kernel_rfl
noncomputable def fu_spec_l2Copy_29 (x : (S_spec_l2Copy_29).X) : Nat := (fun (u0 : List (List Int)) (u1 : List dW) (u2 : Bool) (u3 : List Int) (u4 : Bool) (u5 : Bool) (u6 : List (List Int)) (u7 : List Int) => 18446744073709551616) x.2.1.1.1 x.2.1.1.2.1 x.2.1.1.2.2.1 x.2.1.1.2.2.2.1 x.2.1.2.1.2.2.1 x.2.1.2.2.1.2.2.1 x.2.2.1 x.2.2.2.1
noncomputable def F_spec_l2Copy_29 (x : (S_spec_l2Copy_29).X) : Option ((O_spec_l2Copy_29).X ⊕ (Z_spec_l2Copy_29).X) := loopN stx_spec_l2Copy_29 (fu_spec_l2Copy_29 x) (em_spec_l2Copy_29 x)
noncomputable def sg_spec_l2Copy_29 : Seg := ⟨S_spec_l2Copy_29, O_spec_l2Copy_29, Z_spec_l2Copy_29, F_spec_l2Copy_29⟩
noncomputable def D_spec_l2Copy_1 : Nat → Option Seg := fun q => bif Nat.beq q 29 then some sg_spec_l2Copy_29 else D_spec_l2Copy_0 q
theorem fr_spec_l2Copy_1 : FrOk Try.prog ⟨E_spec_l2Copy, 60, D_spec_l2Copy_1⟩ B_spec_l2Copy := (fr_spec_l2Copy_0).loop (sg := sg_spec_l2Copy_29) L_spec_l2Copy_29 em_spec_l2Copy_29 (by decide) a_spec_l2Copy_29 stx_spec_l2Copy_29 fu_spec_l2Copy_29 (by decide) (fun _ => rfl) (fun x r _ h => h) r_spec_l2Copy_29
def L_spec_l2Copy_61 : Shape := ⟨[(1, false, [.ptr 0 0]), (2, false, [.ptr 64 0]), (3, false, [.ptr 4544 0]), (5, false, [.int .i64])], [(0, [.br tL, .br tW, .bool, .br tI]), (64, [.nil, .nil, .bool, .nil]), (4544, [.at 800000000, .at 800000002, .bool, .at 800000001])], [(800000000, tL, .fz), (800000002, tW, (.pr .fz .fz)), (800000001, tI, .fz)]⟩
def S_spec_l2Copy_61 : Shape := ⟨[(1, false, [.ptr 0 0]), (2, false, [.ptr 64 0]), (3, false, [.ptr 4544 0]), (5, false, [.ci .i64 0])], [(0, [.br tL, .br tW, .bool, .br tI]), (64, [.nil, .nil, .bool, .nil]), (4544, [.at 800000000, .at 800000002, .bool, .at 800000001])], [(800000000, tL, .fz), (800000002, tW, (.pr .fz .fz)), (800000001, tI, .fz)]⟩
def O_spec_l2Copy_61 : Shape := ⟨[(2, false, [.ptr 64 0]), (3, false, [.ptr 4544 0])], [(64, [.nil, .nil, .bool, .nil]), (4544, [.at 800000000, .at 800000001, .bool, .at 800000002])], [(800000000, tL, .fz), (800000001, tW, (.pr .fz .fz)), (800000002, tI, .fz)]⟩
def Z_spec_l2Copy_61 : Shape := ⟨[], [], []⟩
abbrev mk_spec_l2Copy_61 (v0 : Int) (v1 : dM) (v2 : dM) (v3 : dM) : (L_spec_l2Copy_61).X := ((((), ()), ((), ()), ((), ()), (v0, ()), ()), ((v1.1, v1.2.1, v1.2.2.1, v1.2.2.2, ()), ((), (), v2.2.2.1, (), ()), ((), (), v3.2.2.1, (), ()), ()), (v3.1, v3.2.1, v3.2.2.2, ()))
abbrev ms_spec_l2Copy_61 (v0 : dM) (v1 : dM) (v2 : dM) : (S_spec_l2Copy_61).X := ((((), ()), ((), ()), ((), ()), ((), ()), ()), ((v0.1, v0.2.1, v0.2.2.1, v0.2.2.2, ()), ((), (), v1.2.2.1, (), ()), ((), (), v2.2.2.1, (), ()), ()), (v2.1, v2.2.1, v2.2.2.2, ()))
abbrev mo_spec_l2Copy_61 (v0 : dM) (v1 : dM) : (O_spec_l2Copy_61).X := ((((), ()), ((), ()), ()), (((), (), v0.2.2.1, (), ()), ((), (), v1.2.2.1, (), ()), ()), (v1.1, v1.2.1, v1.2.2.2, ()))
noncomputable def st_spec_l2Copy_61 (v0 : Int) (v1 : List (List Int)) (v2 : List dW) (v3 : Bool) (v4 : List Int) (v5 : Bool) (v6 : Bool) (v7 : List (List Int)) (v8 : List dW) (v9 : List Int) : Option ((L_spec_l2Copy_61).X ⊕ ((O_spec_l2Copy_61).X ⊕ (Z_spec_l2Copy_61).X)) :=
  bif (ltb v0 (v2.length : Int)) then
    bif (inb v0 v2.length) then
      bif (inb v0 v2.length) then
        bif (apok ([] : List Int).length ((nth v2 v0 (0, [])).2).length 8) then
          bif (apok v8.length ([((nth v2 v0 (0, [])).1, (([] : List Int) ++ ((nth v2 v0 (0, [])).2)))] : List dW).length 32) then
            some (.inl ((((), ()), ((), ()), ((), ()), ((IntKind.i64.wrap (v0 + 1)), ()), ()), ((v1, v2, v3, v4, ()), ((), (), v5, (), ()), ((), (), v6, (), ()), ()), (v7, (v8 ++ ([((nth v2 v0 (0, [])).1, (([] : List Int) ++ ((nth v2 v0 (0, [])).2)))] : List dW)), v9, ())))
          else none
        else none
      else none
    else none
  else
    some (.inr (.inl ((((), ()), ((), ()), ()), (((), (), v5, (), ()), ((), (), v6, (), ()), ()), (v7, v8, v9, ()))))
noncomputable def stx_spec_l2Copy_61 (x : (L_spec_l2Copy_61).X) := st_spec_l2Copy_61 x.1.2.2.2.1.1 x.2.1.1.1 x.2.1.1.2.1 x.2.1.1.2.2.1 x.2.1.1.2.2.2.1 x.2.1.2.1.2.2.1 x.2.1.2.2.1.2.2.1 x.2.2.1 x.2.2.2.1 x.2.2.2.2.1
def em_spec_l2Copy_61 (x : (S_spec_l2Copy_61).X) : (L_spec_l2Copy_61).X := ((((), ()), ((), ()), ((), ()), (0, ()), ()), ((x.2.1.1.1, x.2.1.1.2.1, x.2.1.1.2.2.1, x.2.1.1.2.2.2.1, ()), ((), (), x.2.1.2.1.2.2.1, (), ()), ((), (), x.2.1.2.2.1.2.2.1, (), ()), ()), (x.2.2.1, x.2.2.2.1, x.2.2.2.2.1, ()))
noncomputable def c_spec_l2Copy_61 : Code := (subN B_spec_l2Copy 64 244).getD .skip
theorem a_spec_l2Copy_61 : subN B_spec_l2Copy 64 61 = some (.block 2 (.loop c_spec_l2Copy_61)) := by kernel_rfl
theorem r_spec_l2Copy_61 (x : (L_spec_l2Copy_61).X) : roundT ⟨E_spec_l2Copy, 60, D_spec_l2Copy_1⟩ 2 c_spec_l2Copy_61 244 L_spec_l2Copy_61 O_spec_l2Copy_61 Z_spec_l2Copy_61 x = stx_spec_l2Copy_61 x := by kernel_rfl
noncomputable def fu_spec_l2Copy_61 (x : (S_spec_l2Copy_61).X) : Nat := (fun (u0 : List (List Int)) (u1 : List dW) (u2 : Bool) (u3 : List Int) (u4 : Bool) (u5 : Bool) (u6 : List (List Int)) (u7 : List dW) (u8 : List Int) => 18446744073709551616) x.2.1.1.1 x.2.1.1.2.1 x.2.1.1.2.2.1 x.2.1.1.2.2.2.1 x.2.1.2.1.2.2.1 x.2.1.2.2.1.2.2.1 x.2.2.1 x.2.2.2.1 x.2.2.2.2.1
noncomputable def F_spec_l2Copy_61 (x : (S_spec_l2Copy_61).X) : Option ((O_spec_l2Copy_61).X ⊕ (Z_spec_l2Copy_61).X) := loopN stx_spec_l2Copy_61 (fu_spec_l2Copy_61 x) (em_spec_l2Copy_61 x)
noncomputable def sg_spec_l2Copy_61 : Seg := ⟨S_spec_l2Copy_61, O_spec_l2Copy_61, Z_spec_l2Copy_61, F_spec_l2Copy_61⟩
noncomputable def D_spec_l2Copy_2 : Nat → Option Seg := fun q => bif Nat.beq q 61 then some sg_spec_l2Copy_61 else D_spec_l2Copy_1 q
theorem fr_spec_l2Copy_2 : FrOk Try.prog ⟨E_spec_l2Copy, 60, D_spec_l2Copy_2⟩ B_spec_l2Copy := (fr_spec_l2Copy_1).loop (sg := sg_spec_l2Copy_61) L_spec_l2Copy_61 em_spec_l2Copy_61 (by decide) a_spec_l2Copy_61 stx_spec_l2Copy_61 fu_spec_l2Copy_61 (by decide) (fun _ => rfl) (fun x r _ h => h) r_spec_l2Copy_61
abbrev I_spec_l2Copy : List Par := [.rd tM]
abbrev U_spec_l2Copy : List OT := [⟨false, tM, (.pr (.ow .fz) (.pr (.ow (.pr .fz .fz)) (.pr .fz (.ow .fz))))⟩]
noncomputable def raw_spec_l2Copy (a0 : dM) : Option (ResD U_spec_l2Copy × MutD I_spec_l2Copy) :=
  bif (apok ([] : List Int).length a0.2.2.2.length 8) then
    segM (F_spec_l2Copy_29 ((((), ()), ((), ()), ((), ()), ((), ()), ()), ((a0.1, a0.2.1, a0.2.2.1, a0.2.2.2, ()), ((), (), false, (), ()), ((), (), a0.2.2.1, (), ()), ()), ([], (([] : List Int) ++ a0.2.2.2), ()))) (fun y0 =>
      segM (F_spec_l2Copy_61 ((((), ()), ((), ()), ((), ()), ((), ()), ()), ((y0.2.1.1.1, y0.2.1.1.2.1, y0.2.1.1.2.2.1, y0.2.1.1.2.2.2.1, ()), ((), (), y0.2.1.2.1.2.2.1, (), ()), ((), (), y0.2.1.2.2.1.2.2.1, (), ()), ()), (y0.2.2.1, [], y0.2.2.2.1, ()))) (fun y1 =>
        some (((y1.2.2.1, y1.2.2.2.1, y1.2.1.2.1.2.2.1, y1.2.2.2.2.1), ()), ())) (fun y1 =>
        none)) (fun y0 =>
      none)
  else none
theorem e_spec_l2Copy (x : InD I_spec_l2Copy) : execF ⟨E_spec_l2Copy, 60, D_spec_l2Copy_2⟩ Try.f116.results.toList B_spec_l2Copy I_spec_l2Copy U_spec_l2Copy x = raw_spec_l2Copy x.1 := by kernel_rfl
theorem ok0_spec_l2Copy : ConOk Try.prog 116 ⟨I_spec_l2Copy, U_spec_l2Copy, fun x => raw_spec_l2Copy x.1⟩ := conOk_exec (fr_spec_l2Copy_2) Try.func116 (by kernel_rfl) (by kernel_rfl) Try.ntmps116.symm (by decide) (fun x r h => (e_spec_l2Copy x).trans h)
noncomputable def n_spec_l2Copy (a0 : dM) : dM := a0
theorem nn_spec_l2Copy (a0 : dM) (hk : InOk I_spec_l2Copy (a0, ())) : raw_spec_l2Copy a0 = (fun n => some ((n, ()), ())) (n_spec_l2Copy a0) := by
  have hb1 : a0.1.length * 24 ≤ 2 ^ 47 := hk.1.1.1
  have hb2 : a0.2.1.length * 32 ≤ 2 ^ 47 := hk.1.2.1.1
  have hb3 : a0.2.2.2.length * 8 ≤ 2 ^ 47 := hk.1.2.2.2.1
  have hs : ∀ i, i < a0.1.length → (a0.1.getD i []).length * 8 ≤ 2 ^ 47 := fun i hi => by rw [getD_get hi]; exact (hk.1.1.2 _ (List.getElem_mem hi)).1
  have hc : ∀ i, i < a0.2.1.length → (a0.2.1.getD i (0, [])).2.length * 8 ≤ 2 ^ 47 := fun i hi => by rw [getD_get hi]; exact (hk.1.2.1.2 _ (List.getElem_mem hi)).2.1
  have h1 : F_spec_l2Copy_29 (ms_spec_l2Copy_29 a0 noMem ([], [], a0.2.2.1, a0.2.2.2)) = some (.inl (mo_spec_l2Copy_29 a0 noMem (a0.1, [], a0.2.2.1, a0.2.2.2))) := by
    have := loopN_fold (step := stx_spec_l2Copy_29) a0.1 [] (fun i s => mk_spec_l2Copy_29 i a0 noMem (s, [], a0.2.2.1, a0.2.2.2)) (fun s x => s ++ [x]) (fun i s => s.length = i) (fun s => .inl (mo_spec_l2Copy_29 a0 noMem (s, [], a0.2.2.1, a0.2.2.2))) (fun i s hi hs2 => ⟨by
      have := hs i hi
      simp only [stx_spec_l2Copy_29, mk_spec_l2Copy_29, st_spec_l2Copy_29, ltb_t (show (i : Int) < a0.1.length by omega), cond_true, wr (show -9223372036854775808 ≤ (i : Int) + 1 by omega) (by omega), Int.natCast_add, Int.natCast_one, Int.toNat_natCast, inb_nat hi, nth_nat, List.nil_append]
      rw [apok_iff.2 (show (([] : List Int).length + (a0.1.getD i []).length) * 8 ≤ 140737488355328 by rw [List.length_nil]; omega), apok_iff.2 (show (s.length + [a0.1.getD i []].length) * 24 ≤ 140737488355328 by simp only [List.length_cons, List.length_nil]; omega)]; rfl, by simp [hs2]⟩) (fun s _ => by simp only [stx_spec_l2Copy_29, mk_spec_l2Copy_29, st_spec_l2Copy_29, ltb_f (Int.le_refl _), cond_false]) [] rfl 18446744073709551616 (by omega)
    rw [foldl_id] at this
    exact this
  have h2 : F_spec_l2Copy_61 (ms_spec_l2Copy_61 a0 noMem (a0.1, [], a0.2.2.1, a0.2.2.2)) = some (.inl (mo_spec_l2Copy_61 noMem a0)) := by
    have := loopN_fold (step := stx_spec_l2Copy_61) a0.2.1 (0, []) (fun i s => mk_spec_l2Copy_61 i a0 noMem (a0.1, s, a0.2.2.1, a0.2.2.2)) (fun s x => s ++ [x]) (fun i s => s.length = i) (fun s => .inl (mo_spec_l2Copy_61 noMem (a0.1, s, a0.2.2.1, a0.2.2.2))) (fun i s hi hs2 => ⟨by
      have := hc i hi
      simp only [stx_spec_l2Copy_61, mk_spec_l2Copy_61, st_spec_l2Copy_61, ltb_t (show (i : Int) < a0.2.1.length by omega), cond_true, wr (show -9223372036854775808 ≤ (i : Int) + 1 by omega) (by omega), Int.natCast_add, Int.natCast_one, Int.toNat_natCast, inb_nat hi, nth_nat, List.nil_append, pr_eta]
      rw [apok_iff.2 (show (([] : List Int).length + (a0.2.1.getD i (0, [])).2.length) * 8 ≤ 140737488355328 by rw [List.length_nil]; omega), apok_iff.2 (show (s.length + [a0.2.1.getD i (0, [])].length) * 32 ≤ 140737488355328 by simp only [List.length_cons, List.length_nil]; omega)]; rfl, by simp [hs2]⟩) (fun s _ => by simp only [stx_spec_l2Copy_61, mk_spec_l2Copy_61, st_spec_l2Copy_61, ltb_f (Int.le_refl _), cond_false]) [] rfl 18446744073709551616 (by omega)
    rw [foldl_id] at this
    exact this
  unfold raw_spec_l2Copy n_spec_l2Copy
  rw [apok_iff.2 (show (([] : List Int).length + a0.2.2.2.length) * 8 ≤ 140737488355328 by rw [List.length_nil]; omega)]
  simp only [cond_true, List.nil_append, h1, segM_inl, h2]
noncomputable def con_spec_l2Copy : Con := ⟨I_spec_l2Copy, U_spec_l2Copy, fun x => (fun n => some ((n, ()), ())) (n_spec_l2Copy x.1)⟩
theorem ok_spec_l2Copy : ConOk Try.prog 116 con_spec_l2Copy := (ok0_spec_l2Copy).mono (fun x r hk h => (nn_spec_l2Copy x.1 hk).trans h)
end

/-! spec_Assemble -/
section
noncomputable def B_spec_Assemble : Code := (Try.f58.body).getD .skip
noncomputable def E_spec_Assemble : Env := envOf TT [(81, con_spec_ArrOk), (115, con_spec_l9Best), (116, con_spec_l2Copy), (117, con_spec_l9Super)] [(33216, (.pr (.ow .fz) (.pr (.ow (.pr .fz .fz)) (.pr .fz (.ow .fz))))), (33280, (.pr (.ow .fz) (.pr (.ow (.pr .fz .fz)) (.pr .fz (.ow .fz)))))]
theorem fr_spec_Assemble_0 : FrOk Try.prog ⟨E_spec_Assemble, 89, fun _ => none⟩ B_spec_Assemble := frOk_base mixed tt_ok ⟨ok_spec_ArrOk, ok_spec_l9Best, ok_spec_l2Copy, ok_spec_l9Super, trivial⟩
noncomputable def D_spec_Assemble_0 : Nat → Option Seg := fun _ => none
def L_spec_Assemble_125 : Shape := ⟨[(0, false, [.br tM]), (1, false, [.int .i64]), (4, false, [.ptr 0 0]), (8, false, [.ptr 17472 0]), (9, false, [.int .i64])], [(0, [.int .i64, .int .i64, .int .i64, .nil, .int .i64, .int .i64, .int .i64, .int .i64, .int .i64, .nil, .int .i64, .bool, .bool]), (17472, [.int .i64, .int .i64, .int .i64, .at 800000000, .int .i64, .int .i64, .int .i64, .int .i64, .int .i64, .nil, .int .i64, .bool, .bool])], [(800000000, tM, (.pr (.ow .fz) (.pr (.ow (.pr .fz .fz)) (.pr .fz (.ow .fz)))))]⟩
def S_spec_Assemble_125 : Shape := ⟨[(0, false, [.br tM]), (1, false, [.int .i64]), (4, false, [.ptr 0 0]), (8, false, [.ptr 17472 0]), (9, false, [.ci .i64 0])], [(0, [.int .i64, .int .i64, .int .i64, .nil, .int .i64, .int .i64, .int .i64, .int .i64, .int .i64, .nil, .int .i64, .bool, .bool]), (17472, [.int .i64, .int .i64, .int .i64, .at 800000000, .int .i64, .int .i64, .int .i64, .int .i64, .int .i64, .nil, .int .i64, .bool, .bool])], [(800000000, tM, (.pr (.ow .fz) (.pr (.ow (.pr .fz .fz)) (.pr .fz (.ow .fz)))))]⟩
def O_spec_Assemble_125 : Shape := ⟨[(4, false, [.ptr 0 0]), (8, false, [.ptr 17472 0])], [(0, [.int .i64, .int .i64, .int .i64, .nil, .int .i64, .int .i64, .int .i64, .int .i64, .int .i64, .nil, .int .i64, .bool, .bool]), (17472, [.int .i64, .int .i64, .int .i64, .at 800000000, .int .i64, .int .i64, .int .i64, .int .i64, .int .i64, .nil, .int .i64, .bool, .bool])], [(800000000, tM, (.pr (.ow .fz) (.pr (.ow (.pr .fz .fz)) (.pr .fz (.ow .fz)))))]⟩
def Z_spec_Assemble_125 : Shape := ⟨[], [], []⟩
abbrev mk_spec_Assemble_125 (v0 : List dM) (v1 : Int) (v2 : Int) (v3 : dA) (v4 : dA) : (L_spec_Assemble_125).X := (((v0, ()), (v1, ()), ((), ()), ((), ()), (v2, ()), ()), ((v3.1, v3.2.1.1, v3.2.1.2, (), v3.2.2.2.1, v3.2.2.2.2.1, v3.2.2.2.2.2.1, v3.2.2.2.2.2.2.1, v3.2.2.2.2.2.2.2.1, (), v3.2.2.2.2.2.2.2.2.2.1, v3.2.2.2.2.2.2.2.2.2.2.1, v3.2.2.2.2.2.2.2.2.2.2.2, ()), (v4.1, v4.2.1.1, v4.2.1.2, (), v4.2.2.2.1, v4.2.2.2.2.1, v4.2.2.2.2.2.1, v4.2.2.2.2.2.2.1, v4.2.2.2.2.2.2.2.1, (), v4.2.2.2.2.2.2.2.2.2.1, v4.2.2.2.2.2.2.2.2.2.2.1, v4.2.2.2.2.2.2.2.2.2.2.2, ()), ()), (v4.2.2.1, ()))
abbrev ms_spec_Assemble_125 (v0 : List dM) (v1 : Int) (v2 : dA) (v3 : dA) : (S_spec_Assemble_125).X := (((v0, ()), (v1, ()), ((), ()), ((), ()), ((), ()), ()), ((v2.1, v2.2.1.1, v2.2.1.2, (), v2.2.2.2.1, v2.2.2.2.2.1, v2.2.2.2.2.2.1, v2.2.2.2.2.2.2.1, v2.2.2.2.2.2.2.2.1, (), v2.2.2.2.2.2.2.2.2.2.1, v2.2.2.2.2.2.2.2.2.2.2.1, v2.2.2.2.2.2.2.2.2.2.2.2, ()), (v3.1, v3.2.1.1, v3.2.1.2, (), v3.2.2.2.1, v3.2.2.2.2.1, v3.2.2.2.2.2.1, v3.2.2.2.2.2.2.1, v3.2.2.2.2.2.2.2.1, (), v3.2.2.2.2.2.2.2.2.2.1, v3.2.2.2.2.2.2.2.2.2.2.1, v3.2.2.2.2.2.2.2.2.2.2.2, ()), ()), (v3.2.2.1, ()))
abbrev mo_spec_Assemble_125 (v0 : dA) (v1 : dA) : (O_spec_Assemble_125).X := ((((), ()), ((), ()), ()), ((v0.1, v0.2.1.1, v0.2.1.2, (), v0.2.2.2.1, v0.2.2.2.2.1, v0.2.2.2.2.2.1, v0.2.2.2.2.2.2.1, v0.2.2.2.2.2.2.2.1, (), v0.2.2.2.2.2.2.2.2.2.1, v0.2.2.2.2.2.2.2.2.2.2.1, v0.2.2.2.2.2.2.2.2.2.2.2, ()), (v1.1, v1.2.1.1, v1.2.1.2, (), v1.2.2.2.1, v1.2.2.2.2.1, v1.2.2.2.2.2.1, v1.2.2.2.2.2.2.1, v1.2.2.2.2.2.2.2.1, (), v1.2.2.2.2.2.2.2.2.2.1, v1.2.2.2.2.2.2.2.2.2.2.1, v1.2.2.2.2.2.2.2.2.2.2.2, ()), ()), (v1.2.2.1, ()))
noncomputable def st_spec_Assemble_125 (v0 : List dM) (v1 : Int) (v2 : Int) (v3 : Int) (v4 : Int) (v5 : Int) (v6 : Int) (v7 : Int) (v8 : Int) (v9 : Int) (v10 : Int) (v11 : Int) (v12 : Bool) (v13 : Bool) (v14 : Int) (v15 : Int) (v16 : Int) (v17 : Int) (v18 : Int) (v19 : Int) (v20 : Int) (v21 : Int) (v22 : Int) (v23 : Bool) (v24 : Bool) (v25 : List dM) : Option ((L_spec_Assemble_125).X ⊕ ((O_spec_Assemble_125).X ⊕ (Z_spec_Assemble_125).X)) :=
  bif (ltb v2 (v0.length : Int)) then
    bif (inb v2 v0.length) then
      let r6 := n_spec_l2Copy ((nth v0 v2 ([], [], false, [])).1, ((nth v0 v2 ([], [], false, [])).2).1, (((nth v0 v2 ([], [], false, [])).2).2))
      bif (apok v25.length ([r6] : List dM).length 80) then
        bnd (o_spec_l9Super v0 v2 v1) fun r7 =>
        bif r7.1.2.1 then
          some (.inl (((v0, ()), (v1, ()), ((), ()), ((), ()), ((IntKind.i64.wrap (v2 + 1)), ()), ()), ((v3, v4, v5, (), v6, v7, v8, v9, v10, (), v11, v12, v13, ()), (v14, v15, v16, (), v17, v18, v19, v20, v21, (), v22, v23, v24, ()), ()), ((v25 ++ ([r6] : List dM)), ())))
        else
          bif (!(v17 == (-1))) then
            bif (v17 == v2) then
              some (.inl (((v0, ()), (v1, ()), ((), ()), ((), ()), ((IntKind.i64.wrap (v2 + 1)), ()), ()), ((v3, v4, v5, (), v6, v7, v8, v9, v10, (), v11, v12, v13, ()), (v14, v15, v16, (), v2, 0, v19, v20, v21, (), v22, v23, v24, ()), ()), ((v25 ++ ([r6] : List dM)), ())))
            else
              some (.inl (((v0, ()), (v1, ()), ((), ()), ((), ()), ((IntKind.i64.wrap (v2 + 1)), ()), ()), ((v3, v4, v5, (), v6, v7, v8, v9, v10, (), v11, v12, v13, ()), (v14, v15, v16, (), v17, v18, v19, v20, v21, (), v22, v23, true, ()), ()), ((v25 ++ ([r6] : List dM)), ())))
          else
            some (.inl (((v0, ()), (v1, ()), ((), ()), ((), ()), ((IntKind.i64.wrap (v2 + 1)), ()), ()), ((v3, v4, v5, (), v6, v7, v8, v9, v10, (), v11, v12, v13, ()), (v14, v15, v16, (), v2, 0, v19, v20, v21, (), v22, v23, v24, ()), ()), ((v25 ++ ([r6] : List dM)), ())))
      else none
    else none
  else
    some (.inr (.inl ((((), ()), ((), ()), ()), ((v3, v4, v5, (), v6, v7, v8, v9, v10, (), v11, v12, v13, ()), (v14, v15, v16, (), v17, v18, v19, v20, v21, (), v22, v23, v24, ()), ()), (v25, ()))))
noncomputable def stx_spec_Assemble_125 (x : (L_spec_Assemble_125).X) := st_spec_Assemble_125 x.1.1.1 x.1.2.1.1 x.1.2.2.2.2.1.1 x.2.1.1.1 x.2.1.1.2.1 x.2.1.1.2.2.1 x.2.1.1.2.2.2.2.1 x.2.1.1.2.2.2.2.2.1 x.2.1.1.2.2.2.2.2.2.1 x.2.1.1.2.2.2.2.2.2.2.1 x.2.1.1.2.2.2.2.2.2.2.2.1 x.2.1.1.2.2.2.2.2.2.2.2.2.2.1 x.2.1.1.2.2.2.2.2.2.2.2.2.2.2.1 x.2.1.1.2.2.2.2.2.2.2.2.2.2.2.2.1 x.2.1.2.1.1 x.2.1.2.1.2.1 x.2.1.2.1.2.2.1 x.2.1.2.1.2.2.2.2.1 x.2.1.2.1.2.2.2.2.2.1 x.2.1.2.1.2.2.2.2.2.2.1 x.2.1.2.1.2.2.2.2.2.2.2.1 x.2.1.2.1.2.2.2.2.2.2.2.2.1 x.2.1.2.1.2.2.2.2.2.2.2.2.2.2.1 x.2.1.2.1.2.2.2.2.2.2.2.2.2.2.2.1 x.2.1.2.1.2.2.2.2.2.2.2.2.2.2.2.2.1 x.2.2.1
def em_spec_Assemble_125 (x : (S_spec_Assemble_125).X) : (L_spec_Assemble_125).X := (((x.1.1.1, ()), (x.1.2.1.1, ()), ((), ()), ((), ()), (0, ()), ()), ((x.2.1.1.1, x.2.1.1.2.1, x.2.1.1.2.2.1, (), x.2.1.1.2.2.2.2.1, x.2.1.1.2.2.2.2.2.1, x.2.1.1.2.2.2.2.2.2.1, x.2.1.1.2.2.2.2.2.2.2.1, x.2.1.1.2.2.2.2.2.2.2.2.1, (), x.2.1.1.2.2.2.2.2.2.2.2.2.2.1, x.2.1.1.2.2.2.2.2.2.2.2.2.2.2.1, x.2.1.1.2.2.2.2.2.2.2.2.2.2.2.2.1, ()), (x.2.1.2.1.1, x.2.1.2.1.2.1, x.2.1.2.1.2.2.1, (), x.2.1.2.1.2.2.2.2.1, x.2.1.2.1.2.2.2.2.2.1, x.2.1.2.1.2.2.2.2.2.2.1, x.2.1.2.1.2.2.2.2.2.2.2.1, x.2.1.2.1.2.2.2.2.2.2.2.2.1, (), x.2.1.2.1.2.2.2.2.2.2.2.2.2.2.1, x.2.1.2.1.2.2.2.2.2.2.2.2.2.2.2.1, x.2.1.2.1.2.2.2.2.2.2.2.2.2.2.2.2.1, ()), ()), (x.2.2.1, ()))
noncomputable def c_spec_Assemble_125 : Code := (subN B_spec_Assemble 64 500).getD .skip
theorem a_spec_Assemble_125 : subN B_spec_Assemble 64 125 = some (.block 0 (.loop c_spec_Assemble_125)) := by kernel_rfl
theorem r_spec_Assemble_125 (x : (L_spec_Assemble_125).X) : roundT ⟨E_spec_Assemble, 89, D_spec_Assemble_0⟩ 0 c_spec_Assemble_125 500 L_spec_Assemble_125 O_spec_Assemble_125 Z_spec_Assemble_125 x = stx_spec_Assemble_125 x := by kernel_rfl
noncomputable def fu_spec_Assemble_125 (x : (S_spec_Assemble_125).X) : Nat := (fun (u0 : List dM) (u1 : Int) (u2 : Int) (u3 : Int) (u4 : Int) (u5 : Int) (u6 : Int) (u7 : Int) (u8 : Int) (u9 : Int) (u10 : Int) (u11 : Bool) (u12 : Bool) (u13 : Int) (u14 : Int) (u15 : Int) (u16 : Int) (u17 : Int) (u18 : Int) (u19 : Int) (u20 : Int) (u21 : Int) (u22 : Bool) (u23 : Bool) (u24 : List dM) => 18446744073709551616) x.1.1.1 x.1.2.1.1 x.2.1.1.1 x.2.1.1.2.1 x.2.1.1.2.2.1 x.2.1.1.2.2.2.2.1 x.2.1.1.2.2.2.2.2.1 x.2.1.1.2.2.2.2.2.2.1 x.2.1.1.2.2.2.2.2.2.2.1 x.2.1.1.2.2.2.2.2.2.2.2.1 x.2.1.1.2.2.2.2.2.2.2.2.2.2.1 x.2.1.1.2.2.2.2.2.2.2.2.2.2.2.1 x.2.1.1.2.2.2.2.2.2.2.2.2.2.2.2.1 x.2.1.2.1.1 x.2.1.2.1.2.1 x.2.1.2.1.2.2.1 x.2.1.2.1.2.2.2.2.1 x.2.1.2.1.2.2.2.2.2.1 x.2.1.2.1.2.2.2.2.2.2.1 x.2.1.2.1.2.2.2.2.2.2.2.1 x.2.1.2.1.2.2.2.2.2.2.2.2.1 x.2.1.2.1.2.2.2.2.2.2.2.2.2.2.1 x.2.1.2.1.2.2.2.2.2.2.2.2.2.2.2.1 x.2.1.2.1.2.2.2.2.2.2.2.2.2.2.2.2.1 x.2.2.1
noncomputable def F_spec_Assemble_125 (x : (S_spec_Assemble_125).X) : Option ((O_spec_Assemble_125).X ⊕ (Z_spec_Assemble_125).X) := loopN stx_spec_Assemble_125 (fu_spec_Assemble_125 x) (em_spec_Assemble_125 x)
noncomputable def sg_spec_Assemble_125 : Seg := ⟨S_spec_Assemble_125, O_spec_Assemble_125, Z_spec_Assemble_125, F_spec_Assemble_125⟩
noncomputable def D_spec_Assemble_1 : Nat → Option Seg := fun q => bif Nat.beq q 125 then some sg_spec_Assemble_125 else D_spec_Assemble_0 q
theorem fr_spec_Assemble_1 : FrOk Try.prog ⟨E_spec_Assemble, 89, D_spec_Assemble_1⟩ B_spec_Assemble := (fr_spec_Assemble_0).loop (sg := sg_spec_Assemble_125) L_spec_Assemble_125 em_spec_Assemble_125 (by decide) a_spec_Assemble_125 stx_spec_Assemble_125 fu_spec_Assemble_125 (by decide) (fun _ => rfl) (fun x r _ h => h) r_spec_Assemble_125
abbrev I_spec_Assemble : List Par := [.rd tMs, .rd tI]
abbrev U_spec_Assemble : List OT := [⟨false, tA, (.pr .fz (.pr (.pr .fz .fz) (.pr (.ow (.pr (.ow .fz) (.pr (.ow (.pr .fz .fz)) (.pr .fz (.ow .fz))))) (.pr .fz (.pr .fz (.pr .fz (.pr .fz (.pr .fz (.pr (.ow (.pr .fz .fz)) (.pr .fz (.pr .fz .fz)))))))))))⟩, ⟨false, tB, .fz⟩]
noncomputable def raw_spec_Assemble (a0 : List dM) (a1 : Int) : Option (ResD U_spec_Assemble × MutD I_spec_Assemble) :=
  let r1 := n_spec_l9Best a0 a1
  bif (!(!r1.2)) then
    bif ((a0.length : Int) != r1.1.2.2.2.1) then
      some (((0, (0, 0), [], 0, 0, 0, 0, 0, [], 0, false, false), false, ()), ())
    else
      segM (F_spec_Assemble_125 (((a0, ()), (a1, ()), ((), ()), ((), ()), ((), ()), ()), ((0, 0, 0, (), 0, 0, 0, 0, 0, (), 0, false, false, ()), (a1, r1.1.2.2.2.1, r1.1.2.2.2.2.1, (), r1.1.2.2.2.2.2.2.1, r1.1.2.2.2.2.2.2.2, r1.1.2.2.2.2.2.1, r1.1.2.2.2.2.2.1, r1.1.2.1, (), (-1), false, false, ()), ()), ([], ()))) (fun y7 =>
        let r9 := n_spec_ArrOk (y7.2.1.2.1.1, (y7.2.1.2.1.2.1, y7.2.1.2.1.2.2.1), y7.2.2.1, y7.2.1.2.1.2.2.2.2.1, y7.2.1.2.1.2.2.2.2.2.1, y7.2.1.2.1.2.2.2.2.2.2.1, y7.2.1.2.1.2.2.2.2.2.2.2.1, y7.2.1.2.1.2.2.2.2.2.2.2.2.1, [], y7.2.1.2.1.2.2.2.2.2.2.2.2.2.2.1, y7.2.1.2.1.2.2.2.2.2.2.2.2.2.2.2.1, y7.2.1.2.1.2.2.2.2.2.2.2.2.2.2.2.2.1)
        bif (!r9) then
          some (((0, (0, 0), [], 0, 0, 0, 0, 0, [], 0, false, false), false, ()), ())
        else
          some (((y7.2.1.2.1.1, (y7.2.1.2.1.2.1, y7.2.1.2.1.2.2.1), y7.2.2.1, y7.2.1.2.1.2.2.2.2.1, y7.2.1.2.1.2.2.2.2.2.1, y7.2.1.2.1.2.2.2.2.2.2.1, y7.2.1.2.1.2.2.2.2.2.2.2.1, y7.2.1.2.1.2.2.2.2.2.2.2.2.1, [], y7.2.1.2.1.2.2.2.2.2.2.2.2.2.2.1, y7.2.1.2.1.2.2.2.2.2.2.2.2.2.2.2.1, y7.2.1.2.1.2.2.2.2.2.2.2.2.2.2.2.2.1), true, ()), ())) (fun y7 =>
        none)
  else
    some (((0, (0, 0), [], 0, 0, 0, 0, 0, [], 0, false, false), false, ()), ())
theorem e_spec_Assemble (x : InD I_spec_Assemble) : execF ⟨E_spec_Assemble, 89, D_spec_Assemble_1⟩ Try.f58.results.toList B_spec_Assemble I_spec_Assemble U_spec_Assemble x = raw_spec_Assemble x.1 x.2.1 := by kernel_rfl
theorem ok0_spec_Assemble : ConOk Try.prog 58 ⟨I_spec_Assemble, U_spec_Assemble, fun x => raw_spec_Assemble x.1 x.2.1⟩ := conOk_exec (fr_spec_Assemble_1) Try.func58 (by kernel_rfl) (by kernel_rfl) Try.ntmps58.symm (by decide) (fun x r h => (e_spec_Assemble x).trans h)
noncomputable def n_spec_Assemble (a0 : List dM) (a1 : Int) : dA × Bool := assemble a0 a1
theorem nn_spec_Assemble (a0 : List dM) (a1 : Int) (hk : InOk I_spec_Assemble (a0, a1, ())) : raw_spec_Assemble a0 a1 = (fun n => some ((n.1, n.2, ()), ())) (n_spec_Assemble a0 a1) := by
  have hb : a0.length * 80 ≤ 2 ^ 47 := hk.1.1
  have h1 : ∀ (b : dS) (s : Int × Int × Bool), F_spec_Assemble_125 (ms_spec_Assemble_125 a0 a1 noArr (asmArr b [] a1 s)) = some (.inl (mo_spec_Assemble_125 noArr (asmArr b a0 a1 ((List.range a0.length).foldl (asmStep a0 a1) s)))) := fun b s => by
    have := loopN_rng (step := stx_spec_Assemble_125) a0.length (fun i s => mk_spec_Assemble_125 a0 a1 i noArr (asmArr b (a0.take i) a1 s)) (asmStep a0 a1) (fun _ _ => True) (fun s => .inl (mo_spec_Assemble_125 noArr (asmArr b (a0.take a0.length) a1 s))) (fun i s hi _ => ⟨by
      simp only [stx_spec_Assemble_125, mk_spec_Assemble_125, st_spec_Assemble_125, ltb_t (show (i : Int) < a0.length by omega), cond_true, wr (show -9223372036854775808 ≤ (i : Int) + 1 by omega) (by omega), Int.natCast_add, Int.natCast_one, Int.toNat_natCast, inb_nat hi, pr_eta, ot_spec_l9Super a0 i a1 (inb_nat hi), bnd_some, n_spec_l9Super, n_spec_l2Copy, asmArr]
      rw [apok_iff.2 (show ((a0.take i).length + [nth a0 i noMem].length) * 80 ≤ 140737488355328 by simp only [List.length_cons, List.length_nil, List.length_take]; omega), take_snoc a0 noMem hi]
      unfold asmStep
      cases hx : (nth a0 i noMem).2.2.1
      · cases ownOk (nth a0 i noMem) i a1 <;> cases (s.1 == -1) <;> cases (s.1 == (i : Int)) <;> rfl
      · rw [show ownOk (nth a0 i noMem) i a1 = false by unfold ownOk; rw [hx]; rfl]
        cases (s.1 == -1) <;> cases (s.1 == (i : Int)) <;> rfl, trivial⟩) (fun s _ => by simp only [stx_spec_Assemble_125, mk_spec_Assemble_125, st_spec_Assemble_125, ltb_f (Int.le_refl _), cond_false]) s trivial 18446744073709551616 (by omega)
    rw [List.take_length] at this
    exact this
  unfold raw_spec_Assemble n_spec_Assemble assemble asmAll
  simp only [n_spec_l9Best, bne]
  cases (best9 a0 a1).2
  · rfl
  cases ((a0.length : Int) == (best9 a0 a1).1.2.2.2.1)
  · rfl
  have h2 := h1 (best9 a0 a1).1 ((best9 a0 a1).1.2.2.2.2.2.2.1, (best9 a0 a1).1.2.2.2.2.2.2.2, false)
  simp only [Bool.not_true, Bool.not_false, cond_true, cond_false, Bool.true_and]
  refine (congrArg (fun z => segM z _ _) h2).trans ?_
  simp only [segM_inl, n_spec_ArrOk]
  show (bif !(arrOk (asmArr (best9 a0 a1).1 a0 a1 ((List.range a0.length).foldl (asmStep a0 a1) ((best9 a0 a1).1.2.2.2.2.2.2.1, (best9 a0 a1).1.2.2.2.2.2.2.2, false)))) then _ else _) = _
  cases arrOk (asmArr (best9 a0 a1).1 a0 a1 ((List.range a0.length).foldl (asmStep a0 a1) ((best9 a0 a1).1.2.2.2.2.2.2.1, (best9 a0 a1).1.2.2.2.2.2.2.2, false))) <;> rfl
noncomputable def con_spec_Assemble : Con := ⟨I_spec_Assemble, U_spec_Assemble, fun x => (fun n => some ((n.1, n.2, ()), ())) (n_spec_Assemble x.1 x.2.1)⟩
theorem ok_spec_Assemble : ConOk Try.prog 58 con_spec_Assemble := (ok0_spec_Assemble).mono (fun x r hk h => (nn_spec_Assemble x.1 x.2.1 hk).trans h)
end

/-! impl_within -/
section
noncomputable def B_impl_within : Code := (Try.f125.body).getD .skip
noncomputable def E_impl_within : Env := envOf TT [] []
theorem fr_impl_within_0 : FrOk Try.prog ⟨E_impl_within, 15, fun _ => none⟩ B_impl_within := frOk_base mixed tt_ok trivial
noncomputable def D_impl_within_0 : Nat → Option Seg := fun _ => none
abbrev I_impl_within : List Par := [.rd tI, .rd tI, .rd tI]
abbrev U_impl_within : List OT := [⟨false, tB, .fz⟩]
noncomputable def raw_impl_within (a0 : Int) (a1 : Int) (a2 : Int) : Option (ResD U_impl_within × MutD I_impl_within) :=
  bif (leb a1 a0) then
    some (((leb a0 a2), ()), ())
  else
    some ((false, ()), ())
theorem e_impl_within (x : InD I_impl_within) : execF ⟨E_impl_within, 15, D_impl_within_0⟩ Try.f125.results.toList B_impl_within I_impl_within U_impl_within x = raw_impl_within x.1 x.2.1 x.2.2.1 := by kernel_rfl
theorem ok0_impl_within : ConOk Try.prog 125 ⟨I_impl_within, U_impl_within, fun x => raw_impl_within x.1 x.2.1 x.2.2.1⟩ := conOk_exec (fr_impl_within_0) Try.func125 (by kernel_rfl) (by kernel_rfl) Try.ntmps125.symm (by decide) (fun x r h => (e_impl_within x).trans h)
noncomputable def n_impl_within (a0 : Int) (a1 : Int) (a2 : Int) : Bool :=
  bif (leb a1 a0) then
    (leb a0 a2)
  else
    false
noncomputable def con_impl_within : Con := ⟨I_impl_within, U_impl_within, fun x => (fun n => some ((n, ()), ())) (n_impl_within x.1 x.2.1 x.2.2.1)⟩
theorem nn_impl_within (a0 : Int) (a1 : Int) (a2 : Int) : raw_impl_within a0 a1 a2 = (fun n => some ((n, ()), ())) (n_impl_within a0 a1 a2) := bif_ty (p := fun (n : Bool) => ((n, ()), ())) (bif_some (p := fun (n : Bool) => ((n, ()), ())) rfl rfl)
theorem ok_impl_within : ConOk Try.prog 125 con_impl_within := (ok0_impl_within).mono (fun x r _ h => (nn_impl_within x.1 x.2.1 x.2.2.1).trans h)
theorem impl_in_eq (a b c : Int) : n_impl_within a b c = n_spec_l1In a b c := by kernel_rfl
end
end Go.Tf
