/- Functions of the program, and what they come to. -/
import Derived.Test.YtfpjmijaiekbgaaGreatExactBuildStepF8
namespace Go.Tf
open Go.Proofs
set_option synthInstance.maxHeartbeats 400000
set_option synthInstance.maxSize 10000
set_option linter.unusedVariables false
set_option linter.unusedSimpArgs false
set_option maxRecDepth 100000
/-! spec_MissingWord -/
section
noncomputable def B_spec_MissingWord : Code := (Tryz.f212.body).getD .skip
noncomputable def E_spec_MissingWord : Env := envOf TT [] []
theorem fr_spec_MissingWord_0 : FrOk Tryz.prog ⟨E_spec_MissingWord, 23, fun _ => none⟩ B_spec_MissingWord := frOk_base mixed tt_ok trivial
noncomputable def D_spec_MissingWord_0 : Nat → Option Seg := fun _ => none
def L_spec_MissingWord_29 : Shape := ⟨[(0, false, [.br tI]), (1, false, [.int .i64]), (5, false, [.int .i64]), (6, false, [.int .i64])], [], []⟩
def S_spec_MissingWord_29 : Shape := ⟨[(0, false, [.br tI]), (1, false, [.int .i64]), (5, false, [.ci .i64 0]), (6, false, [.ci .i64 0])], [], []⟩
def O_spec_MissingWord_29 : Shape := ⟨[(5, false, [.int .i64])], [], []⟩
def Z_spec_MissingWord_29 : Shape := ⟨[], [], []⟩
abbrev mk_spec_MissingWord_29 (v0 : List Int) (v1 : Int) (v2 : Int) (v3 : Int) : (L_spec_MissingWord_29).X := (((v0, ()), (v1, ()), (v2, ()), (v3, ()), ()), (), ())
abbrev ms_spec_MissingWord_29 (v0 : List Int) (v1 : Int) : (S_spec_MissingWord_29).X := (((v0, ()), (v1, ()), ((), ()), ((), ()), ()), (), ())
abbrev mo_spec_MissingWord_29 (v0 : Int) : (O_spec_MissingWord_29).X := (((v0, ()), ()), (), ())
noncomputable def st_spec_MissingWord_29 (v0 : List Int) (v1 : Int) (v2 : Int) (v3 : Int) : Option ((L_spec_MissingWord_29).X ⊕ ((O_spec_MissingWord_29).X ⊕ (Z_spec_MissingWord_29).X)) :=
  bif (ltb v3 (v0.length : Int)) then
    bif (v3 != v1) then
      bif (inb v3 v0.length) then
        some (.inl (((v0, ()), (v1, ()), ((IntKind.i64.wrap ((BitVec.ofInt IntKind.i64.bits v2 ^^^ BitVec.ofInt IntKind.i64.bits (nth v0 v3 0)).toNat : Int)), ()), ((IntKind.i64.wrap (v3 + 1)), ()), ()), (), ()))
      else none
    else
      some (.inl (((v0, ()), (v1, ()), (v2, ()), ((IntKind.i64.wrap (v3 + 1)), ()), ()), (), ()))
  else
    some (.inr (.inl (((v2, ()), ()), (), ())))
noncomputable def stx_spec_MissingWord_29 (x : (L_spec_MissingWord_29).X) := st_spec_MissingWord_29 x.1.1.1 x.1.2.1.1 x.1.2.2.1.1 x.1.2.2.2.1.1
def em_spec_MissingWord_29 (x : (S_spec_MissingWord_29).X) : (L_spec_MissingWord_29).X := (((x.1.1.1, ()), (x.1.2.1.1, ()), (0, ()), (0, ()), ()), (), ())
noncomputable def c_spec_MissingWord_29 : Code := (subN B_spec_MissingWord 64 116).getD .skip
theorem a_spec_MissingWord_29 : subN B_spec_MissingWord 64 29 = some (.block 0 (.loop c_spec_MissingWord_29)) := by kernel_rfl
theorem r_spec_MissingWord_29 (x : (L_spec_MissingWord_29).X) : roundT ⟨E_spec_MissingWord, 23, D_spec_MissingWord_0⟩ 0 c_spec_MissingWord_29 116 L_spec_MissingWord_29 O_spec_MissingWord_29 Z_spec_MissingWord_29 x = stx_spec_MissingWord_29 x := by kernel_rfl
noncomputable def fu_spec_MissingWord_29 (x : (S_spec_MissingWord_29).X) : Nat := (fun (u0 : List Int) (u1 : Int) => 18446744073709551616) x.1.1.1 x.1.2.1.1
noncomputable def F_spec_MissingWord_29 (x : (S_spec_MissingWord_29).X) : Option ((O_spec_MissingWord_29).X ⊕ (Z_spec_MissingWord_29).X) := loopN stx_spec_MissingWord_29 (fu_spec_MissingWord_29 x) (em_spec_MissingWord_29 x)
noncomputable def sg_spec_MissingWord_29 : Seg := ⟨S_spec_MissingWord_29, O_spec_MissingWord_29, Z_spec_MissingWord_29, F_spec_MissingWord_29⟩
noncomputable def D_spec_MissingWord_1 : Nat → Option Seg := fun q => bif Nat.beq q 29 then some sg_spec_MissingWord_29 else D_spec_MissingWord_0 q
theorem fr_spec_MissingWord_1 : FrOk Tryz.prog ⟨E_spec_MissingWord, 23, D_spec_MissingWord_1⟩ B_spec_MissingWord := (fr_spec_MissingWord_0).loop (sg := sg_spec_MissingWord_29) L_spec_MissingWord_29 em_spec_MissingWord_29 (by decide) a_spec_MissingWord_29 stx_spec_MissingWord_29 fu_spec_MissingWord_29 (by decide) (fun _ => rfl) (fun x r _ h => h) r_spec_MissingWord_29
abbrev I_spec_MissingWord : List Par := [.rd tL, .rd tI]
abbrev U_spec_MissingWord : List OT := [⟨false, tI, .fz⟩]
noncomputable def raw_spec_MissingWord (a0 : List Int) (a1 : Int) : Option (ResD U_spec_MissingWord × MutD I_spec_MissingWord) :=
  segM (F_spec_MissingWord_29 (((a0, ()), (a1, ()), ((), ()), ((), ()), ()), (), ())) (fun y0 =>
    some ((y0.1.1.1, ()), ())) (fun y0 =>
    none)
theorem e_spec_MissingWord (x : InD I_spec_MissingWord) : execF ⟨E_spec_MissingWord, 23, D_spec_MissingWord_1⟩ Tryz.f212.results.toList B_spec_MissingWord I_spec_MissingWord U_spec_MissingWord x = raw_spec_MissingWord x.1 x.2.1 := by kernel_rfl
theorem ok0_spec_MissingWord : ConOk Tryz.prog 212 ⟨I_spec_MissingWord, U_spec_MissingWord, fun x => raw_spec_MissingWord x.1 x.2.1⟩ := conOk_exec (fr_spec_MissingWord_1) Tryz.func212 (by kernel_rfl) (by kernel_rfl) Tryz.ntmps212.symm (by decide) (fun x r h => (e_spec_MissingWord x).trans h)
noncomputable def n_spec_MissingWord (a0 : List Int) (a1 : Int) : Int := missWord a0 a1
theorem nn_spec_MissingWord (a0 : List Int) (a1 : Int) (hk : InOk I_spec_MissingWord (a0, a1, ())) : raw_spec_MissingWord a0 a1 = (fun n => some ((n, ()), ())) (n_spec_MissingWord a0 a1) := by
  have hb : a0.length * 8 ≤ 2 ^ 47 := hk.1.1
  have h1 := loopN_rng (step := stx_spec_MissingWord_29) a0.length (fun i s => mk_spec_MissingWord_29 a0 a1 s i) (fun n (i : Nat) => bif (i : Int) != a1 then xw n (nth a0 i 0) else n) (fun _ _ => True) (fun s => .inl (mo_spec_MissingWord_29 s)) (fun i s hi _ => ⟨by
    simp only [stx_spec_MissingWord_29, mk_spec_MissingWord_29, st_spec_MissingWord_29, ltb_t (show (i : Int) < a0.length by omega), cond_true, wr (show -9223372036854775808 ≤ (i : Int) + 1 by omega) (by omega), Int.natCast_add, Int.natCast_one, Int.toNat_natCast, inb_nat hi]
    cases ((i : Int) != a1) <;> rfl, trivial⟩) (fun s _ => by simp only [stx_spec_MissingWord_29, mk_spec_MissingWord_29, st_spec_MissingWord_29, ltb_f (Int.le_refl _), cond_false]) 0 trivial 18446744073709551616 (by omega)
  rw [miss_fold] at h1
  unfold raw_spec_MissingWord n_spec_MissingWord
  rw [show F_spec_MissingWord_29 (ms_spec_MissingWord_29 a0 a1) = _ from h1]; rfl
noncomputable def con_spec_MissingWord : Con := ⟨I_spec_MissingWord, U_spec_MissingWord, fun x => (fun n => some ((n, ()), ())) (n_spec_MissingWord x.1 x.2.1)⟩
theorem ok_spec_MissingWord : ConOk Tryz.prog 212 con_spec_MissingWord := (ok0_spec_MissingWord).mono (fun x r hk h => (nn_spec_MissingWord x.1 x.2.1 hk).trans h)
end

/-! spec_l6Words -/
section
noncomputable def B_spec_l6Words : Code := (Tryz.f148.body).getD .skip
noncomputable def E_spec_l6Words : Env := envOf TT [(210, con_spec_l6Word), (212, con_spec_MissingWord)] []
theorem fr_spec_l6Words_0 : FrOk Tryz.prog ⟨E_spec_l6Words, 45, fun _ => none⟩ B_spec_l6Words := frOk_base mixed tt_ok ⟨ok_spec_l6Word, ok_spec_MissingWord, trivial⟩
noncomputable def D_spec_l6Words_0 : Nat → Option Seg := fun _ => none
def L_spec_l6Words_61 : Shape := ⟨[(1, false, [.int .i64]), (2, false, [.ptr 0 0]), (6, false, [.at 800000000]), (7, false, [.int .i64]), (8, false, [.int .i64])], [(0, [.int .i64, .int .i64, .int .i64, .br tM, .int .i64, .int .i64, .int .i64, .int .i64, .int .i64, .br tW, .int .i64, .bool, .bool])], [(800000000, tI, .fz)]⟩
def S_spec_l6Words_61 : Shape := ⟨[(1, false, [.int .i64]), (2, false, [.ptr 0 0]), (6, false, [.at 800000000]), (7, false, [.ci .i64 (-1)]), (8, false, [.ci .i64 0])], [(0, [.int .i64, .int .i64, .int .i64, .br tM, .int .i64, .int .i64, .int .i64, .int .i64, .int .i64, .br tW, .int .i64, .bool, .bool])], [(800000000, tI, .fz)]⟩
def O_spec_l6Words_61 : Shape := ⟨[(6, false, [.at 800000000]), (7, false, [.int .i64])], [], [(800000000, tI, .fz)]⟩
def Z_spec_l6Words_61 : Shape := ⟨[(4, false, [.at 800000000]), (5, false, [.bool])], [], [(800000000, tI, .fz)]⟩
abbrev mk_spec_l6Words_61 (v0 : Int) (v1 : Int) (v2 : Int) (v3 : dA) (v4 : List Int) : (L_spec_l6Words_61).X := (((v0, ()), ((), ()), ((), ()), (v1, ()), (v2, ()), ()), ((v3.1, v3.2.1.1, v3.2.1.2, v3.2.2.1, v3.2.2.2.1, v3.2.2.2.2.1, v3.2.2.2.2.2.1, v3.2.2.2.2.2.2.1, v3.2.2.2.2.2.2.2.1, v3.2.2.2.2.2.2.2.2.1, v3.2.2.2.2.2.2.2.2.2.1, v3.2.2.2.2.2.2.2.2.2.2.1, v3.2.2.2.2.2.2.2.2.2.2.2, ()), ()), (v4, ()))
abbrev ms_spec_l6Words_61 (v0 : Int) (v1 : dA) (v2 : List Int) : (S_spec_l6Words_61).X := (((v0, ()), ((), ()), ((), ()), ((), ()), ((), ()), ()), ((v1.1, v1.2.1.1, v1.2.1.2, v1.2.2.1, v1.2.2.2.1, v1.2.2.2.2.1, v1.2.2.2.2.2.1, v1.2.2.2.2.2.2.1, v1.2.2.2.2.2.2.2.1, v1.2.2.2.2.2.2.2.2.1, v1.2.2.2.2.2.2.2.2.2.1, v1.2.2.2.2.2.2.2.2.2.2.1, v1.2.2.2.2.2.2.2.2.2.2.2, ()), ()), (v2, ()))
abbrev mo_spec_l6Words_61 (v0 : Int) (v1 : List Int) : (O_spec_l6Words_61).X := ((((), ()), (v0, ()), ()), (), (v1, ()))
abbrev mz_spec_l6Words_61 (v0 : Bool) (v1 : List Int) : (Z_spec_l6Words_61).X := ((((), ()), (v0, ()), ()), (), (v1, ()))
noncomputable def st_spec_l6Words_61 (v0 : Int) (v1 : Int) (v2 : Int) (v3 : Int) (v4 : Int) (v5 : Int) (v6 : List dM) (v7 : Int) (v8 : Int) (v9 : Int) (v10 : Int) (v11 : Int) (v12 : List dW) (v13 : Int) (v14 : Bool) (v15 : Bool) (v16 : List Int) : Option ((L_spec_l6Words_61).X ⊕ ((O_spec_l6Words_61).X ⊕ (Z_spec_l6Words_61).X)) :=
  bif (ltb v2 v4) then
    let r2 := n_spec_l6Word (v3, (v4, v5), v6, v7, v8, v9, v10, v11, v12, v13, v14, v15) v2 v0
    bif (!r2.2) then
      bif (leb 0 v1) then
        some (.inr (.inr ((((), ()), (false, ()), ()), (), (([] : List Int), ()))))
      else
        bif (apok v16.length ([r2.1] : List Int).length 8) then
          some (.inl (((v0, ()), ((), ()), ((), ()), (v2, ()), ((IntKind.i64.wrap (v2 + 1)), ()), ()), ((v3, v4, v5, v6, v7, v8, v9, v10, v11, v12, v13, v14, v15, ()), ()), ((v16 ++ ([r2.1] : List Int)), ())))
        else none
    else
      bif (apok v16.length ([r2.1] : List Int).length 8) then
        some (.inl (((v0, ()), ((), ()), ((), ()), (v1, ()), ((IntKind.i64.wrap (v2 + 1)), ()), ()), ((v3, v4, v5, v6, v7, v8, v9, v10, v11, v12, v13, v14, v15, ()), ()), ((v16 ++ ([r2.1] : List Int)), ())))
      else none
  else
    some (.inr (.inl ((((), ()), (v1, ()), ()), (), (v16, ()))))
noncomputable def stx_spec_l6Words_61 (x : (L_spec_l6Words_61).X) := st_spec_l6Words_61 x.1.1.1 x.1.2.2.2.1.1 x.1.2.2.2.2.1.1 x.2.1.1.1 x.2.1.1.2.1 x.2.1.1.2.2.1 x.2.1.1.2.2.2.1 x.2.1.1.2.2.2.2.1 x.2.1.1.2.2.2.2.2.1 x.2.1.1.2.2.2.2.2.2.1 x.2.1.1.2.2.2.2.2.2.2.1 x.2.1.1.2.2.2.2.2.2.2.2.1 x.2.1.1.2.2.2.2.2.2.2.2.2.1 x.2.1.1.2.2.2.2.2.2.2.2.2.2.1 x.2.1.1.2.2.2.2.2.2.2.2.2.2.2.1 x.2.1.1.2.2.2.2.2.2.2.2.2.2.2.2.1 x.2.2.1
def em_spec_l6Words_61 (x : (S_spec_l6Words_61).X) : (L_spec_l6Words_61).X := (((x.1.1.1, ()), ((), ()), ((), ()), ((-1), ()), (0, ()), ()), ((x.2.1.1.1, x.2.1.1.2.1, x.2.1.1.2.2.1, x.2.1.1.2.2.2.1, x.2.1.1.2.2.2.2.1, x.2.1.1.2.2.2.2.2.1, x.2.1.1.2.2.2.2.2.2.1, x.2.1.1.2.2.2.2.2.2.2.1, x.2.1.1.2.2.2.2.2.2.2.2.1, x.2.1.1.2.2.2.2.2.2.2.2.2.1, x.2.1.1.2.2.2.2.2.2.2.2.2.2.1, x.2.1.1.2.2.2.2.2.2.2.2.2.2.2.1, x.2.1.1.2.2.2.2.2.2.2.2.2.2.2.2.1, ()), ()), (x.2.2.1, ()))
noncomputable def c_spec_l6Words_61 : Code := (subN B_spec_l6Words 64 244).getD .skip
theorem a_spec_l6Words_61 : subN B_spec_l6Words 64 61 = some (.block 0 (.loop c_spec_l6Words_61)) := by kernel_rfl
theorem r_spec_l6Words_61 (x : (L_spec_l6Words_61).X) : roundT ⟨E_spec_l6Words, 45, D_spec_l6Words_0⟩ 0 c_spec_l6Words_61 244 L_spec_l6Words_61 O_spec_l6Words_61 Z_spec_l6Words_61 x = stx_spec_l6Words_61 x := by kernel_rfl
noncomputable def fu_spec_l6Words_61 (x : (S_spec_l6Words_61).X) : Nat := (fun (u0 : Int) (u1 : Int) (u2 : Int) (u3 : Int) (u4 : List dM) (u5 : Int) (u6 : Int) (u7 : Int) (u8 : Int) (u9 : Int) (u10 : List dW) (u11 : Int) (u12 : Bool) (u13 : Bool) (u14 : List Int) => 18446744073709551616) x.1.1.1 x.2.1.1.1 x.2.1.1.2.1 x.2.1.1.2.2.1 x.2.1.1.2.2.2.1 x.2.1.1.2.2.2.2.1 x.2.1.1.2.2.2.2.2.1 x.2.1.1.2.2.2.2.2.2.1 x.2.1.1.2.2.2.2.2.2.2.1 x.2.1.1.2.2.2.2.2.2.2.2.1 x.2.1.1.2.2.2.2.2.2.2.2.2.1 x.2.1.1.2.2.2.2.2.2.2.2.2.2.1 x.2.1.1.2.2.2.2.2.2.2.2.2.2.2.1 x.2.1.1.2.2.2.2.2.2.2.2.2.2.2.2.1 x.2.2.1
noncomputable def F_spec_l6Words_61 (x : (S_spec_l6Words_61).X) : Option ((O_spec_l6Words_61).X ⊕ (Z_spec_l6Words_61).X) := loopN stx_spec_l6Words_61 (fu_spec_l6Words_61 x) (em_spec_l6Words_61 x)
noncomputable def sg_spec_l6Words_61 : Seg := ⟨S_spec_l6Words_61, O_spec_l6Words_61, Z_spec_l6Words_61, F_spec_l6Words_61⟩
noncomputable def D_spec_l6Words_1 : Nat → Option Seg := fun q => bif Nat.beq q 61 then some sg_spec_l6Words_61 else D_spec_l6Words_0 q
theorem fr_spec_l6Words_1 : FrOk Tryz.prog ⟨E_spec_l6Words, 45, D_spec_l6Words_1⟩ B_spec_l6Words := (fr_spec_l6Words_0).loop (sg := sg_spec_l6Words_61) L_spec_l6Words_61 em_spec_l6Words_61 (by decide) a_spec_l6Words_61 stx_spec_l6Words_61 fu_spec_l6Words_61 (by decide) (fun _ => rfl) (fun x r _ h => h) r_spec_l6Words_61
abbrev I_spec_l6Words : List Par := [.rd tA, .rd tI]
abbrev U_spec_l6Words : List OT := [⟨false, tL, (.ow .fz)⟩, ⟨false, tB, .fz⟩]
noncomputable def raw_spec_l6Words (a0 : dA) (a1 : Int) : Option (ResD U_spec_l6Words × MutD I_spec_l6Words) :=
  segM (F_spec_l6Words_61 (((a1, ()), ((), ()), ((), ()), ((), ()), ((), ()), ()), ((a0.1, a0.2.1.1, a0.2.1.2, a0.2.2.1, a0.2.2.2.1, a0.2.2.2.2.1, a0.2.2.2.2.2.1, a0.2.2.2.2.2.2.1, a0.2.2.2.2.2.2.2.1, a0.2.2.2.2.2.2.2.2.1, a0.2.2.2.2.2.2.2.2.2.1, a0.2.2.2.2.2.2.2.2.2.2.1, a0.2.2.2.2.2.2.2.2.2.2.2, ()), ()), (([] : List Int), ()))) (fun y2 =>
    bif (leb 0 y2.1.2.1.1) then
      let r4 := n_spec_MissingWord y2.2.2.1 y2.1.2.1.1
      bif (inb y2.1.2.1.1 y2.2.2.1.length) then
        some (((y2.2.2.1.set (y2.1.2.1.1).toNat r4), true, ()), ())
      else none
    else
      some ((y2.2.2.1, true, ()), ())) (fun y2 =>
    some ((y2.2.2.1, y2.1.2.1.1, ()), ()))
theorem e_spec_l6Words (x : InD I_spec_l6Words) : execF ⟨E_spec_l6Words, 45, D_spec_l6Words_1⟩ Tryz.f148.results.toList B_spec_l6Words I_spec_l6Words U_spec_l6Words x = raw_spec_l6Words x.1 x.2.1 := by kernel_rfl
theorem ok0_spec_l6Words : ConOk Tryz.prog 148 ⟨I_spec_l6Words, U_spec_l6Words, fun x => raw_spec_l6Words x.1 x.2.1⟩ := conOk_exec (fr_spec_l6Words_1) Tryz.func148 (by kernel_rfl) (by kernel_rfl) Tryz.ntmps148.symm (by decide) (fun x r h => (e_spec_l6Words x).trans h)
noncomputable def n_spec_l6Words (a0 : dA) (a1 : Int) : List Int × Bool := words a0 a1
noncomputable def q_spec_l6Words (a0 : dA) (a1 : Int) : Bool := n_spec_GeoOk a0.2.1
theorem nn_spec_l6Words (a0 : dA) (a1 : Int) (hk : InOk I_spec_l6Words (a0, a1, ())) (hq : q_spec_l6Words a0 a1 = true) : raw_spec_l6Words a0 a1 = (fun n => some ((n.1, n.2, ()), ())) (n_spec_l6Words a0 a1) := by
  have hg := geo_iff.1 hq
  have h1 : F_spec_l6Words_61 (ms_spec_l6Words_61 a1 a0 []) = some (bif miss2 (fun (i : Nat) => wordOk a0 i a1) a0.2.1.1.toNat then .inr (mz_spec_l6Words_61 false []) else .inl (mo_spec_l6Words_61 (missAt (fun (i : Nat) => wordOk a0 i a1) a0.2.1.1.toNat) (wordList a0 a1 a0.2.1.1.toNat))) :=
    loopN_all (step := stx_spec_l6Words_61) (fun i => mk_spec_l6Words_61 a1 (missAt (fun (i : Nat) => wordOk a0 i a1) i) i a0 (wordList a0 a1 i)) a0.2.1.1.toNat (fun i => !wordOk a0 i a1 && leb 0 (missAt (fun (i : Nat) => wordOk a0 i a1) i)) _ _ (fun i hi => by
      simp only [stx_spec_l6Words_61, mk_spec_l6Words_61, st_spec_l6Words_61, ltb_t (show (i : Int) < a0.2.1.1 by omega), cond_true, wr (show -9223372036854775808 ≤ (i : Int) + 1 by omega) (by omega), Int.natCast_add, Int.natCast_one, Int.toNat_natCast, pr_eta, n_spec_l6Word, missAt]
      rw [apok_iff.2 (show ((wordList a0 a1 i).length + [word a0 i a1].length) * 8 ≤ 140737488355328 by simp only [List.length_cons, List.length_nil, wordList_len]; omega), wordList_succ]
      cases wordOk a0 i a1 <;> cases leb 0 (missAt (fun (i : Nat) => wordOk a0 i a1) i) <;> rfl) (by simp only [stx_spec_l6Words_61, mk_spec_l6Words_61, st_spec_l6Words_61, ltb_f (show a0.2.1.1 ≤ (a0.2.1.1.toNat : Int) by omega), cond_false]) _ (by show _ < 18446744073709551616; omega)
  unfold raw_spec_l6Words n_spec_l6Words words
  rw [h1]
  cases miss2 (fun (i : Nat) => wordOk a0 i a1) a0.2.1.1.toNat
  · simp only [cond_false, segM_inl, n_spec_MissingWord]
    cases hm : leb 0 (missAt (fun (i : Nat) => wordOk a0 i a1) a0.2.1.1.toNat)
    · rfl
    · obtain ⟨h2, h3⟩ := miss_word a0 a1 a0.2.1.1.toNat hm
      rw [h2, h3]; rfl
  · rfl
noncomputable def o_spec_l6Words (a0 : dA) (a1 : Int) : Option (ResD U_spec_l6Words × MutD I_spec_l6Words) := bif q_spec_l6Words a0 a1 then (fun n => some ((n.1, n.2, ()), ())) (n_spec_l6Words a0 a1) else none
theorem ot_spec_l6Words (a0 : dA) (a1 : Int) (h : q_spec_l6Words a0 a1 = true) : o_spec_l6Words a0 a1 = (fun n => some ((n.1, n.2, ()), ())) (n_spec_l6Words a0 a1) := by unfold o_spec_l6Words; rw [h]; rfl
noncomputable def con_spec_l6Words : Con := ⟨I_spec_l6Words, U_spec_l6Words, fun x => o_spec_l6Words x.1 x.2.1⟩
theorem ok_spec_l6Words : ConOk Tryz.prog 148 con_spec_l6Words := (ok0_spec_l6Words).mono (fun x r hk h => pre_ok h (fun hq => nn_spec_l6Words x.1 x.2.1 hk hq))
end

/-! spec_l7Op -/
section
noncomputable def B_spec_l7Op : Code := (Tryz.f213.body).getD .skip
noncomputable def E_spec_l7Op : Env := envOf TT [] []
theorem fr_spec_l7Op_0 : FrOk Tryz.prog ⟨E_spec_l7Op, 31, fun _ => none⟩ B_spec_l7Op := frOk_base mixed tt_ok trivial
noncomputable def D_spec_l7Op_0 : Nat → Option Seg := fun _ => none
abbrev I_spec_l7Op : List Par := [.pt tA (.pr .fz (.pr (.pr .fz .fz) (.pr (.ow (.pr (.ow .fz) (.pr (.ow (.pr .fz .fz)) (.pr .fz (.ow .fz))))) (.pr .fz (.pr .fz (.pr .fz (.pr .fz (.pr .fz (.pr (.ow (.pr .fz .fz)) (.pr .fz (.pr .fz .fz)))))))))))]
abbrev U_spec_l7Op : List OT := [⟨false, tB, .fz⟩]
noncomputable def raw_spec_l7Op (a0 : dA) : Option (ResD U_spec_l7Op × MutD I_spec_l7Op) :=
  bif a0.2.2.2.2.2.2.2.2.2.2.1 then
    some ((false, ()), (a0, ()))
  else
    bif (a0.2.2.2.2.2.2.2.2.2.1 == 0) then
      some ((false, ()), ((a0.1, a0.2.1, a0.2.2.1, a0.2.2.2.1, a0.2.2.2.2.1, a0.2.2.2.2.2.1, a0.2.2.2.2.2.2.1, a0.2.2.2.2.2.2.2.1, a0.2.2.2.2.2.2.2.2.1, (-1), true, a0.2.2.2.2.2.2.2.2.2.2.2), ()))
    else
      bif (ltb 0 a0.2.2.2.2.2.2.2.2.2.1) then
        some ((true, ()), ((a0.1, a0.2.1, a0.2.2.1, a0.2.2.2.1, a0.2.2.2.2.1, a0.2.2.2.2.2.1, a0.2.2.2.2.2.2.1, a0.2.2.2.2.2.2.2.1, a0.2.2.2.2.2.2.2.2.1, (IntKind.i64.wrap (a0.2.2.2.2.2.2.2.2.2.1 - 1)), a0.2.2.2.2.2.2.2.2.2.2), ()))
      else
        some ((true, ()), (a0, ()))
theorem e_spec_l7Op (x : InD I_spec_l7Op) : execF ⟨E_spec_l7Op, 31, D_spec_l7Op_0⟩ Tryz.f213.results.toList B_spec_l7Op I_spec_l7Op U_spec_l7Op x = raw_spec_l7Op x.1 := by kernel_rfl
theorem ok0_spec_l7Op : ConOk Tryz.prog 213 ⟨I_spec_l7Op, U_spec_l7Op, fun x => raw_spec_l7Op x.1⟩ := conOk_exec (fr_spec_l7Op_0) Tryz.func213 (by kernel_rfl) (by kernel_rfl) Tryz.ntmps213.symm (by decide) (fun x r h => (e_spec_l7Op x).trans h)
noncomputable def n_spec_l7Op (a0 : dA) : Bool × dA :=
  bif a0.2.2.2.2.2.2.2.2.2.2.1 then
    (false, a0)
  else
    bif (a0.2.2.2.2.2.2.2.2.2.1 == 0) then
      (false, (a0.1, a0.2.1, a0.2.2.1, a0.2.2.2.1, a0.2.2.2.2.1, a0.2.2.2.2.2.1, a0.2.2.2.2.2.2.1, a0.2.2.2.2.2.2.2.1, a0.2.2.2.2.2.2.2.2.1, (-1), true, a0.2.2.2.2.2.2.2.2.2.2.2))
    else
      bif (ltb 0 a0.2.2.2.2.2.2.2.2.2.1) then
        (true, (a0.1, a0.2.1, a0.2.2.1, a0.2.2.2.1, a0.2.2.2.2.1, a0.2.2.2.2.2.1, a0.2.2.2.2.2.2.1, a0.2.2.2.2.2.2.2.1, a0.2.2.2.2.2.2.2.2.1, (IntKind.i64.wrap (a0.2.2.2.2.2.2.2.2.2.1 - 1)), a0.2.2.2.2.2.2.2.2.2.2))
      else
        (true, a0)
noncomputable def con_spec_l7Op : Con := ⟨I_spec_l7Op, U_spec_l7Op, fun x => (fun n => some ((n.1, ()), (n.2, ()))) (n_spec_l7Op x.1)⟩
theorem nn_spec_l7Op (a0 : dA) : raw_spec_l7Op a0 = (fun n => some ((n.1, ()), (n.2, ()))) (n_spec_l7Op a0) := bif_ty (p := fun (n : Bool × dA) => ((n.1, ()), (n.2, ()))) (bif_some (p := fun (n : Bool × dA) => ((n.1, ()), (n.2, ()))) rfl (bif_some (p := fun (n : Bool × dA) => ((n.1, ()), (n.2, ()))) rfl (bif_some (p := fun (n : Bool × dA) => ((n.1, ()), (n.2, ()))) rfl rfl)))
theorem ok_spec_l7Op : ConOk Tryz.prog 213 con_spec_l7Op := (ok0_spec_l7Op).mono (fun x r _ h => (nn_spec_l7Op x.1).trans h)
end

/-! spec_l2Without -/
section
noncomputable def B_spec_l2Without : Code := (Tryz.f250.body).getD .skip
noncomputable def E_spec_l2Without : Env := envOf TT [] []
theorem fr_spec_l2Without_0 : FrOk Tryz.prog ⟨E_spec_l2Without, 28, fun _ => none⟩ B_spec_l2Without := frOk_base mixed tt_ok trivial
noncomputable def D_spec_l2Without_0 : Nat → Option Seg := fun _ => none
def L_spec_l2Without_29 : Shape := ⟨[(0, false, [.br tI]), (1, false, [.int .i64]), (5, false, [.at 800000000]), (6, false, [.int .i64])], [], [(800000000, tI, .fz)]⟩
def S_spec_l2Without_29 : Shape := ⟨[(0, false, [.br tI]), (1, false, [.int .i64]), (5, false, [.at 800000000]), (6, false, [.ci .i64 0])], [], [(800000000, tI, .fz)]⟩
def O_spec_l2Without_29 : Shape := ⟨[(5, false, [.at 800000000])], [], [(800000000, tI, .fz)]⟩
def Z_spec_l2Without_29 : Shape := ⟨[], [], []⟩
abbrev mk_spec_l2Without_29 (v0 : List Int) (v1 : Int) (v2 : Int) (v3 : List Int) : (L_spec_l2Without_29).X := (((v0, ()), (v1, ()), ((), ()), (v2, ()), ()), (), (v3, ()))
abbrev ms_spec_l2Without_29 (v0 : List Int) (v1 : Int) (v2 : List Int) : (S_spec_l2Without_29).X := (((v0, ()), (v1, ()), ((), ()), ((), ()), ()), (), (v2, ()))
abbrev mo_spec_l2Without_29 (v0 : List Int) : (O_spec_l2Without_29).X := ((((), ()), ()), (), (v0, ()))
noncomputable def st_spec_l2Without_29 (v0 : List Int) (v1 : Int) (v2 : Int) (v3 : List Int) : Option ((L_spec_l2Without_29).X ⊕ ((O_spec_l2Without_29).X ⊕ (Z_spec_l2Without_29).X)) :=
  bif (ltb v2 (v0.length : Int)) then
    bif (inb v2 v0.length) then
      bif ((nth v0 v2 0) != v1) then
        bif (inb v2 v0.length) then
          bif (apok v3.length ([(nth v0 v2 0)] : List Int).length 8) then
            some (.inl (((v0, ()), (v1, ()), ((), ()), ((IntKind.i64.wrap (v2 + 1)), ()), ()), (), ((v3 ++ ([(nth v0 v2 0)] : List Int)), ())))
          else none
        else none
      else
        some (.inl (((v0, ()), (v1, ()), ((), ()), ((IntKind.i64.wrap (v2 + 1)), ()), ()), (), (v3, ())))
    else none
  else
    some (.inr (.inl ((((), ()), ()), (), (v3, ()))))
noncomputable def stx_spec_l2Without_29 (x : (L_spec_l2Without_29).X) := st_spec_l2Without_29 x.1.1.1 x.1.2.1.1 x.1.2.2.2.1.1 x.2.2.1
def em_spec_l2Without_29 (x : (S_spec_l2Without_29).X) : (L_spec_l2Without_29).X := (((x.1.1.1, ()), (x.1.2.1.1, ()), ((), ()), (0, ()), ()), (), (x.2.2.1, ()))
noncomputable def c_spec_l2Without_29 : Code := (subN B_spec_l2Without 64 116).getD .skip
theorem a_spec_l2Without_29 : subN B_spec_l2Without 64 29 = some (.block 0 (.loop c_spec_l2Without_29)) := by kernel_rfl
theorem r_spec_l2Without_29 (x : (L_spec_l2Without_29).X) : roundT ⟨E_spec_l2Without, 28, D_spec_l2Without_0⟩ 0 c_spec_l2Without_29 116 L_spec_l2Without_29 O_spec_l2Without_29 Z_spec_l2Without_29 x = stx_spec_l2Without_29 x := by kernel_rfl
noncomputable def fu_spec_l2Without_29 (x : (S_spec_l2Without_29).X) : Nat := (fun (u0 : List Int) (u1 : Int) (u2 : List Int) => 18446744073709551616) x.1.1.1 x.1.2.1.1 x.2.2.1
noncomputable def F_spec_l2Without_29 (x : (S_spec_l2Without_29).X) : Option ((O_spec_l2Without_29).X ⊕ (Z_spec_l2Without_29).X) := loopN stx_spec_l2Without_29 (fu_spec_l2Without_29 x) (em_spec_l2Without_29 x)
noncomputable def sg_spec_l2Without_29 : Seg := ⟨S_spec_l2Without_29, O_spec_l2Without_29, Z_spec_l2Without_29, F_spec_l2Without_29⟩
noncomputable def D_spec_l2Without_1 : Nat → Option Seg := fun q => bif Nat.beq q 29 then some sg_spec_l2Without_29 else D_spec_l2Without_0 q
theorem fr_spec_l2Without_1 : FrOk Tryz.prog ⟨E_spec_l2Without, 28, D_spec_l2Without_1⟩ B_spec_l2Without := (fr_spec_l2Without_0).loop (sg := sg_spec_l2Without_29) L_spec_l2Without_29 em_spec_l2Without_29 (by decide) a_spec_l2Without_29 stx_spec_l2Without_29 fu_spec_l2Without_29 (by decide) (fun _ => rfl) (fun x r _ h => h) r_spec_l2Without_29
abbrev I_spec_l2Without : List Par := [.rd tL, .rd tI]
abbrev U_spec_l2Without : List OT := [⟨false, tL, (.ow .fz)⟩]
noncomputable def raw_spec_l2Without (a0 : List Int) (a1 : Int) : Option (ResD U_spec_l2Without × MutD I_spec_l2Without) :=
  segM (F_spec_l2Without_29 (((a0, ()), (a1, ()), ((), ()), ((), ()), ()), (), (([] : List Int), ()))) (fun y0 =>
    some ((y0.2.2.1, ()), ())) (fun y0 =>
    none)
theorem e_spec_l2Without (x : InD I_spec_l2Without) : execF ⟨E_spec_l2Without, 28, D_spec_l2Without_1⟩ Tryz.f250.results.toList B_spec_l2Without I_spec_l2Without U_spec_l2Without x = raw_spec_l2Without x.1 x.2.1 := by kernel_rfl
theorem ok0_spec_l2Without : ConOk Tryz.prog 250 ⟨I_spec_l2Without, U_spec_l2Without, fun x => raw_spec_l2Without x.1 x.2.1⟩ := conOk_exec (fr_spec_l2Without_1) Tryz.func250 (by kernel_rfl) (by kernel_rfl) Tryz.ntmps250.symm (by decide) (fun x r h => (e_spec_l2Without x).trans h)
noncomputable def n_spec_l2Without (a0 : List Int) (a1 : Int) : List Int := sans a0 a1
theorem foldl_filter {α : Type} (p : α → Bool) : ∀ (l : List α) (s : List α), l.foldl (fun s x => bif p x then s ++ [x] else s) s = s ++ l.filter p
  | [], s => by simp
  | x :: l, s => by
    rw [List.foldl_cons, foldl_filter p l, List.filter_cons]
    cases p x <;> simp
theorem nn_spec_l2Without (a0 : List Int) (a1 : Int) (hk : InOk I_spec_l2Without (a0, a1, ())) : raw_spec_l2Without a0 a1 = (fun n => some ((n, ()), ())) (n_spec_l2Without a0 a1) := by
  have hb : a0.length * 8 ≤ 2 ^ 47 := hk.1.1
  have h1 := loopN_fold (step := stx_spec_l2Without_29) a0 0 (fun i s => mk_spec_l2Without_29 a0 a1 i s) (fun s x => bif x != a1 then s ++ [x] else s) (fun i s => s.length ≤ i) (fun s => .inl (mo_spec_l2Without_29 s)) (fun i s hi hs => by
      constructor
      · simp only [stx_spec_l2Without_29, mk_spec_l2Without_29, st_spec_l2Without_29, ltb_t (show (i : Int) < a0.length by omega), cond_true, wr (show -9223372036854775808 ≤ (i : Int) + 1 by omega) (by omega), Int.natCast_add, Int.natCast_one, Int.toNat_natCast, inb_nat hi, nth_nat]
        rw [apok_iff.2 (show (s.length + [a0.getD i 0].length) * 8 ≤ 140737488355328 by simp only [List.length_cons, List.length_nil]; omega)]
        cases (a0.getD i 0 != a1) <;> rfl
      · cases (a0.getD i 0 != a1)
        · show s.length ≤ _; omega
        · simp only [cond_true, List.length_append, List.length_cons, List.length_nil]; omega) (fun s _ => by simp only [stx_spec_l2Without_29, mk_spec_l2Without_29, st_spec_l2Without_29, ltb_f (Int.le_refl _), cond_false]) [] (Nat.le_refl _) 18446744073709551616 (by omega)
  unfold raw_spec_l2Without n_spec_l2Without sans
  rw [show F_spec_l2Without_29 (ms_spec_l2Without_29 a0 a1 []) = _ from h1, foldl_filter]; rfl
noncomputable def con_spec_l2Without : Con := ⟨I_spec_l2Without, U_spec_l2Without, fun x => (fun n => some ((n, ()), ())) (n_spec_l2Without x.1 x.2.1)⟩
theorem ok_spec_l2Without : ConOk Tryz.prog 250 con_spec_l2Without := (ok0_spec_l2Without).mono (fun x r hk h => (nn_spec_l2Without x.1 x.2.1 hk).trans h)
end

/-! spec_WriteSec -/
section
noncomputable def B_spec_WriteSec : Code := (Tryz.f214.body).getD .skip
noncomputable def E_spec_WriteSec : Env := envOf TT [(98, con_spec_l1In), (147, con_spec_l2Copy), (218, con_spec_MemOk), (249, con_spec_SecOk), (250, con_spec_l2Without)] [(16832, (.pr .fz .fz))]
theorem fr_spec_WriteSec_0 : FrOk Tryz.prog ⟨E_spec_WriteSec, 55, fun _ => none⟩ B_spec_WriteSec := frOk_base mixed tt_ok ⟨ok_spec_l1In, ok_spec_l2Copy, ok_spec_MemOk, ok_spec_SecOk, ok_spec_l2Without, trivial⟩
noncomputable def D_spec_WriteSec_0 : Nat → Option Seg := fun _ => none
abbrev I_spec_WriteSec : List Par := [.rd tM, .rd tI, .rd tL]
abbrev U_spec_WriteSec : List OT := [⟨false, tM, (.pr (.ow .fz) (.pr (.ow (.pr .fz .fz)) (.pr .fz (.ow .fz))))⟩, ⟨false, tB, .fz⟩]
noncomputable def raw_spec_WriteSec (a0 : dM) (a1 : Int) (a2 : List Int) : Option (ResD U_spec_WriteSec × MutD I_spec_WriteSec) :=
  let r1 := n_spec_l2Copy a0
  let r2 := n_spec_MemOk a0
  bif (!(!r2)) then
    bif (!a0.2.2.1) then
      let r3 := n_spec_l1In a1 0 (IntKind.i64.wrap ((a0.1.length : Int) - 1))
      bif (!(!r3)) then
        let r4 := n_spec_SecOk a2
        bif (!(!r4)) then
          bif (leb 60 (a0.2.1.length : Int)) then
            some ((r1, false, ()), ())
          else
            bif (apok ([] : List Int).length a2.length 8) then
              bif (apok r1.2.1.length ([(a1, (([] : List Int) ++ a2))] : List dW).length 32) then
                let r5 := n_spec_l2Without a0.2.2.2 a1
                some (((r1.1, (r1.2.1 ++ ([(a1, (([] : List Int) ++ a2))] : List dW)), r1.2.2.1, r5), true, ()), ())
              else none
            else none
        else
          some ((r1, false, ()), ())
      else
        some ((r1, false, ()), ())
    else
      some ((r1, false, ()), ())
  else
    some ((r1, false, ()), ())
theorem e_spec_WriteSec (x : InD I_spec_WriteSec) : execF ⟨E_spec_WriteSec, 55, D_spec_WriteSec_0⟩ Tryz.f214.results.toList B_spec_WriteSec I_spec_WriteSec U_spec_WriteSec x = raw_spec_WriteSec x.1 x.2.1 x.2.2.1 := by kernel_rfl
theorem ok0_spec_WriteSec : ConOk Tryz.prog 214 ⟨I_spec_WriteSec, U_spec_WriteSec, fun x => raw_spec_WriteSec x.1 x.2.1 x.2.2.1⟩ := conOk_exec (fr_spec_WriteSec_0) Tryz.func214 (by kernel_rfl) (by kernel_rfl) Tryz.ntmps214.symm (by decide) (fun x r h => (e_spec_WriteSec x).trans h)
noncomputable def n_spec_WriteSec (a0 : dM) (a1 : Int) (a2 : List Int) : dM × Bool := writeSec a0 a1 a2
theorem nn_spec_WriteSec (a0 : dM) (a1 : Int) (a2 : List Int) (hk : InOk I_spec_WriteSec (a0, a1, a2, ())) : raw_spec_WriteSec a0 a1 a2 = (fun n => some ((n.1, n.2, ()), ())) (n_spec_WriteSec a0 a1 a2) := by
  have hb1 : a0.1.length * 24 ≤ 2 ^ 47 := hk.1.1.1
  have hb2 : a2.length * 8 ≤ 2 ^ 47 := hk.2.2.1.1
  unfold raw_spec_WriteSec n_spec_WriteSec writeSec canWrite
  simp only [n_spec_l2Copy, n_spec_MemOk, in_len (show a0.1.length ≤ 1152921504606846976 by omega), spec_sec_eq, n_spec_l2Without, List.nil_append]
  cases memOk a0
  · rfl
  cases a0.2.2.1
  · cases inb a1 a0.1.length
    · rfl
    cases secOk a2
    · rfl
    by_cases h : (a0.2.1.length : Int) < 60
    · rw [ltb_t h, leb_f h, apok_iff.2 (show (([] : List Int).length + a2.length) * 8 ≤ 140737488355328 by rw [List.length_nil]; omega), apok_iff.2 (show (a0.2.1.length + [(a1, a2)].length) * 32 ≤ 140737488355328 by simp only [List.length_cons, List.length_nil]; omega)]; rfl
    · rw [ltb_f (by omega), leb_t (by omega)]; rfl
  · rfl
noncomputable def con_spec_WriteSec : Con := ⟨I_spec_WriteSec, U_spec_WriteSec, fun x => (fun n => some ((n.1, n.2, ()), ())) (n_spec_WriteSec x.1 x.2.1 x.2.2.1)⟩
theorem ok_spec_WriteSec : ConOk Tryz.prog 214 con_spec_WriteSec := (ok0_spec_WriteSec).mono (fun x r hk h => (nn_spec_WriteSec x.1 x.2.1 x.2.2.1 hk).trans h)
end

/-! spec_SuperOk -/
section
noncomputable def B_spec_SuperOk : Code := (Tryz.f262.body).getD .skip
noncomputable def E_spec_SuperOk : Env := envOf TT [(98, con_spec_l1In), (141, con_spec_GeoOk)] []
theorem fr_spec_SuperOk_0 : FrOk Tryz.prog ⟨E_spec_SuperOk, 60, fun _ => none⟩ B_spec_SuperOk := frOk_base mixed tt_ok ⟨ok_spec_l1In, ok_spec_GeoOk, trivial⟩
noncomputable def D_spec_SuperOk_0 : Nat → Option Seg := fun _ => none
abbrev I_spec_SuperOk : List Par := [.rd tS]
abbrev U_spec_SuperOk : List OT := [⟨false, tB, .fz⟩]
noncomputable def raw_spec_SuperOk (a0 : dS) : Option (ResD U_spec_SuperOk × MutD I_spec_SuperOk) :=
  let r1 := n_spec_GeoOk (a0.2.2.2.1, a0.2.2.2.2.1)
  bif (!(!r1)) then
    let r2 := n_spec_l1In a0.1 1 60000
    bif (!(!r2)) then
      let r3 := n_spec_l1In a0.2.1 0 60000
      bif (!(!r3)) then
        let r4 := n_spec_l1In a0.2.2.1 0 (IntKind.i64.wrap (a0.2.2.2.1 - 1))
        bif (!(!r4)) then
          let r5 := n_spec_l1In a0.2.2.2.2.2.1 0 60000
          bif (!r5) then
            some ((false, ()), ())
          else
            let r6 := n_spec_l1In a0.2.2.2.2.2.2.1 (-1) (IntKind.i64.wrap (a0.2.2.2.1 - 1))
            bif r6 then
              let r7 := n_spec_l1In a0.2.2.2.2.2.2.2 0 a0.2.2.2.2.1
              bif r7 then
                bif (!(leb 0 a0.2.2.2.2.2.2.1)) then
                  some (((a0.2.2.2.2.2.2.2 == 0), ()), ())
                else
                  some ((true, ()), ())
              else
                some ((false, ()), ())
            else
              some ((false, ()), ())
        else
          some ((false, ()), ())
      else
        some ((false, ()), ())
    else
      some ((false, ()), ())
  else
    some ((false, ()), ())
theorem e_spec_SuperOk (x : InD I_spec_SuperOk) : execF ⟨E_spec_SuperOk, 60, D_spec_SuperOk_0⟩ Tryz.f262.results.toList B_spec_SuperOk I_spec_SuperOk U_spec_SuperOk x = raw_spec_SuperOk x.1 := by kernel_rfl
theorem ok0_spec_SuperOk : ConOk Tryz.prog 262 ⟨I_spec_SuperOk, U_spec_SuperOk, fun x => raw_spec_SuperOk x.1⟩ := conOk_exec (fr_spec_SuperOk_0) Tryz.func262 (by kernel_rfl) (by kernel_rfl) Tryz.ntmps262.symm (by decide) (fun x r h => (e_spec_SuperOk x).trans h)
noncomputable def n_spec_SuperOk (a0 : dS) : Bool :=
  let r1 := n_spec_GeoOk (a0.2.2.2.1, a0.2.2.2.2.1)
  bif (!(!r1)) then
    let r2 := n_spec_l1In a0.1 1 60000
    bif (!(!r2)) then
      let r3 := n_spec_l1In a0.2.1 0 60000
      bif (!(!r3)) then
        let r4 := n_spec_l1In a0.2.2.1 0 (IntKind.i64.wrap (a0.2.2.2.1 - 1))
        bif (!(!r4)) then
          let r5 := n_spec_l1In a0.2.2.2.2.2.1 0 60000
          bif (!r5) then
            false
          else
            let r6 := n_spec_l1In a0.2.2.2.2.2.2.1 (-1) (IntKind.i64.wrap (a0.2.2.2.1 - 1))
            bif r6 then
              let r7 := n_spec_l1In a0.2.2.2.2.2.2.2 0 a0.2.2.2.2.1
              bif r7 then
                bif (!(leb 0 a0.2.2.2.2.2.2.1)) then
                  (a0.2.2.2.2.2.2.2 == 0)
                else
                  true
              else
                false
            else
              false
        else
          false
      else
        false
    else
      false
  else
    false
noncomputable def con_spec_SuperOk : Con := ⟨I_spec_SuperOk, U_spec_SuperOk, fun x => (fun n => some ((n, ()), ())) (n_spec_SuperOk x.1)⟩
theorem nn_spec_SuperOk (a0 : dS) : raw_spec_SuperOk a0 = (fun n => some ((n, ()), ())) (n_spec_SuperOk a0) := bif_ty (p := fun (n : Bool) => ((n, ()), ())) (bif_some (p := fun (n : Bool) => ((n, ()), ())) (bif_some (p := fun (n : Bool) => ((n, ()), ())) (bif_some (p := fun (n : Bool) => ((n, ()), ())) (bif_some (p := fun (n : Bool) => ((n, ()), ())) (bif_some (p := fun (n : Bool) => ((n, ()), ())) rfl (bif_some (p := fun (n : Bool) => ((n, ()), ())) (bif_some (p := fun (n : Bool) => ((n, ()), ())) (bif_some (p := fun (n : Bool) => ((n, ()), ())) rfl rfl) rfl) rfl)) rfl) rfl) rfl) rfl)
theorem ok_spec_SuperOk : ConOk Tryz.prog 262 con_spec_SuperOk := (ok0_spec_SuperOk).mono (fun x r _ h => (nn_spec_SuperOk x.1).trans h)
end
end Go.Tf
