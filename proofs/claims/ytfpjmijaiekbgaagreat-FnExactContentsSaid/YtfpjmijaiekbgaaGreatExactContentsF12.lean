/- Functions of the program, and what they come to. -/
import Derived.Test.YtfpjmijaiekbgaaGreatExactContentsF11
namespace Go.Tf
open Go.Proofs
set_option synthInstance.maxHeartbeats 400000
set_option synthInstance.maxSize 10000
set_option linter.unusedVariables false
set_option linter.unusedSimpArgs false
set_option maxRecDepth 100000
/-! impl_XorOf -/
section
noncomputable def B_impl_XorOf : Code := (Tryz.f202.body).getD .skip
noncomputable def E_impl_XorOf : Env := envOf TT [] []
theorem fr_impl_XorOf_0 : FrOk Tryz.prog ⟨E_impl_XorOf, 17, fun _ => none⟩ B_impl_XorOf := frOk_base mixed tt_ok trivial
noncomputable def D_impl_XorOf_0 : Nat → Option Seg := fun _ => none
def L_impl_XorOf_29 : Shape := ⟨[(3, false, [.int .i64]), (6, false, [.br tI]), (7, false, [.int .i64]), (8, false, [.int .i64])], [], []⟩
def S_impl_XorOf_29 : Shape := ⟨[(3, false, [.ci .i64 0]), (6, false, [.br tI]), (7, false, [.int .i64]), (8, false, [.ci .i64 0])], [], []⟩
def O_impl_XorOf_29 : Shape := ⟨[(3, false, [.int .i64])], [], []⟩
def Z_impl_XorOf_29 : Shape := ⟨[], [], []⟩
abbrev mk_impl_XorOf_29 (v0 : Int) (v1 : List Int) (v2 : Int) (v3 : Int) : (L_impl_XorOf_29).X := (((v0, ()), (v1, ()), (v2, ()), (v3, ()), ()), (), ())
abbrev ms_impl_XorOf_29 (v0 : List Int) (v1 : Int) : (S_impl_XorOf_29).X := ((((), ()), (v0, ()), (v1, ()), ((), ()), ()), (), ())
abbrev mo_impl_XorOf_29 (v0 : Int) : (O_impl_XorOf_29).X := (((v0, ()), ()), (), ())
noncomputable def st_impl_XorOf_29 (v0 : Int) (v1 : List Int) (v2 : Int) (v3 : Int) : Option ((L_impl_XorOf_29).X ⊕ ((O_impl_XorOf_29).X ⊕ (Z_impl_XorOf_29).X)) :=
  bif (ltb v3 v2) then
    bif (inb v3 v1.length) then
      some (.inl ((((IntKind.i64.wrap ((BitVec.ofInt IntKind.i64.bits v0 ^^^ BitVec.ofInt IntKind.i64.bits (nth v1 v3 0)).toNat : Int)), ()), (v1, ()), (v2, ()), ((IntKind.i64.wrap (v3 + 1)), ()), ()), (), ()))
    else none
  else
    some (.inr (.inl (((v0, ()), ()), (), ())))
noncomputable def stx_impl_XorOf_29 (x : (L_impl_XorOf_29).X) := st_impl_XorOf_29 x.1.1.1 x.1.2.1.1 x.1.2.2.1.1 x.1.2.2.2.1.1
def em_impl_XorOf_29 (x : (S_impl_XorOf_29).X) : (L_impl_XorOf_29).X := (((0, ()), (x.1.2.1.1, ()), (x.1.2.2.1.1, ()), (0, ()), ()), (), ())
noncomputable def c_impl_XorOf_29 : Code := (subN B_impl_XorOf 64 116).getD .skip
theorem a_impl_XorOf_29 : subN B_impl_XorOf 64 29 = some (.block 0 (.loop c_impl_XorOf_29)) := by kernel_rfl
theorem r_impl_XorOf_29 (x : (L_impl_XorOf_29).X) : roundT ⟨E_impl_XorOf, 17, D_impl_XorOf_0⟩ 0 c_impl_XorOf_29 116 L_impl_XorOf_29 O_impl_XorOf_29 Z_impl_XorOf_29 x = stx_impl_XorOf_29 x := by kernel_rfl
noncomputable def fu_impl_XorOf_29 (x : (S_impl_XorOf_29).X) : Nat := (fun (u0 : List Int) (u1 : Int) => 18446744073709551616) x.1.2.1.1 x.1.2.2.1.1
noncomputable def F_impl_XorOf_29 (x : (S_impl_XorOf_29).X) : Option ((O_impl_XorOf_29).X ⊕ (Z_impl_XorOf_29).X) := loopN stx_impl_XorOf_29 (fu_impl_XorOf_29 x) (em_impl_XorOf_29 x)
noncomputable def sg_impl_XorOf_29 : Seg := ⟨S_impl_XorOf_29, O_impl_XorOf_29, Z_impl_XorOf_29, F_impl_XorOf_29⟩
noncomputable def D_impl_XorOf_1 : Nat → Option Seg := fun q => bif Nat.beq q 29 then some sg_impl_XorOf_29 else D_impl_XorOf_0 q
theorem fr_impl_XorOf_1 : FrOk Tryz.prog ⟨E_impl_XorOf, 17, D_impl_XorOf_1⟩ B_impl_XorOf := (fr_impl_XorOf_0).loop (sg := sg_impl_XorOf_29) L_impl_XorOf_29 em_impl_XorOf_29 (by decide) a_impl_XorOf_29 stx_impl_XorOf_29 fu_impl_XorOf_29 (by decide) (fun _ => rfl) (fun x r _ h => h) r_impl_XorOf_29
abbrev I_impl_XorOf : List Par := [.rd tL]
abbrev U_impl_XorOf : List OT := [⟨false, tI, .fz⟩]
noncomputable def raw_impl_XorOf (a0 : List Int) : Option (ResD U_impl_XorOf × MutD I_impl_XorOf) :=
  segM (F_impl_XorOf_29 ((((), ()), (a0, ()), ((a0.length : Int), ()), ((), ()), ()), (), ())) (fun y0 =>
    some ((y0.1.1.1, ()), ())) (fun y0 =>
    none)
theorem e_impl_XorOf (x : InD I_impl_XorOf) : execF ⟨E_impl_XorOf, 17, D_impl_XorOf_1⟩ Tryz.f202.results.toList B_impl_XorOf I_impl_XorOf U_impl_XorOf x = raw_impl_XorOf x.1 := by kernel_rfl
theorem ok0_impl_XorOf : ConOk Tryz.prog 202 ⟨I_impl_XorOf, U_impl_XorOf, fun x => raw_impl_XorOf x.1⟩ := conOk_exec (fr_impl_XorOf_1) Tryz.func202 (by kernel_rfl) (by kernel_rfl) Tryz.ntmps202.symm (by decide) (fun x r h => (e_impl_XorOf x).trans h)
noncomputable def n_impl_XorOf (a0 : List Int) : Int := xorOf a0
theorem nn_impl_XorOf (a0 : List Int) (hk : InOk I_impl_XorOf (a0, ())) : raw_impl_XorOf a0 = (fun n => some ((n, ()), ())) (n_impl_XorOf a0) := by
  have hb : a0.length * 8 ≤ 2 ^ 47 := hk.1.1
  have h1 : F_impl_XorOf_29 (ms_impl_XorOf_29 a0 a0.length) = some (.inl (mo_impl_XorOf_29 (xorOf a0))) :=
    loopN_fold (step := stx_impl_XorOf_29) a0 0 (fun i s => mk_impl_XorOf_29 s a0 a0.length i) xw (fun _ _ => True) (fun s => .inl (mo_impl_XorOf_29 s)) (fun i s hi _ => ⟨by
      simp only [stx_impl_XorOf_29, mk_impl_XorOf_29, st_impl_XorOf_29, ltb_t (show (i : Int) < a0.length by omega), cond_true, wr (show -9223372036854775808 ≤ (i : Int) + 1 by omega) (by omega), Int.natCast_add, Int.natCast_one, Int.toNat_natCast, inb_nat hi, nth_nat]; rfl, trivial⟩) (fun s _ => by simp only [stx_impl_XorOf_29, mk_impl_XorOf_29, st_impl_XorOf_29, ltb_f (Int.le_refl _), cond_false]) 0 trivial _ (by show _ < 18446744073709551616; omega)
  unfold raw_impl_XorOf n_impl_XorOf
  rw [h1]; rfl
noncomputable def con_impl_XorOf : Con := ⟨I_impl_XorOf, U_impl_XorOf, fun x => (fun n => some ((n, ()), ())) (n_impl_XorOf x.1)⟩
theorem ok_impl_XorOf : ConOk Tryz.prog 202 con_impl_XorOf := (ok0_impl_XorOf).mono (fun x r hk h => (nn_impl_XorOf x.1 hk).trans h)
end

/-! impl_MissingWord -/
section
noncomputable def B_impl_MissingWord : Code := (Tryz.f153.body).getD .skip
noncomputable def E_impl_MissingWord : Env := envOf TT [(114, con_impl_within), (202, con_impl_XorOf)] []
theorem fr_impl_MissingWord_0 : FrOk Tryz.prog ⟨E_impl_MissingWord, 20, fun _ => none⟩ B_impl_MissingWord := frOk_base mixed tt_ok ⟨ok_impl_within, ok_impl_XorOf, trivial⟩
noncomputable def D_impl_MissingWord_0 : Nat → Option Seg := fun _ => none
abbrev I_impl_MissingWord : List Par := [.rd tL, .rd tI]
abbrev U_impl_MissingWord : List OT := [⟨false, tI, .fz⟩]
noncomputable def raw_impl_MissingWord (a0 : List Int) (a1 : Int) : Option (ResD U_impl_MissingWord × MutD I_impl_MissingWord) :=
  let r1 := n_impl_XorOf a0
  let r2 := n_impl_within a1 0 (IntKind.i64.wrap ((a0.length : Int) - 1))
  bif r2 then
    bif (inb a1 a0.length) then
      some (((IntKind.i64.wrap ((BitVec.ofInt IntKind.i64.bits r1 ^^^ BitVec.ofInt IntKind.i64.bits (nth a0 a1 0)).toNat : Int)), ()), ())
    else none
  else
    some ((r1, ()), ())
theorem e_impl_MissingWord (x : InD I_impl_MissingWord) : execF ⟨E_impl_MissingWord, 20, D_impl_MissingWord_0⟩ Tryz.f153.results.toList B_impl_MissingWord I_impl_MissingWord U_impl_MissingWord x = raw_impl_MissingWord x.1 x.2.1 := by kernel_rfl
theorem ok0_impl_MissingWord : ConOk Tryz.prog 153 ⟨I_impl_MissingWord, U_impl_MissingWord, fun x => raw_impl_MissingWord x.1 x.2.1⟩ := conOk_exec (fr_impl_MissingWord_0) Tryz.func153 (by kernel_rfl) (by kernel_rfl) Tryz.ntmps153.symm (by decide) (fun x r h => (e_impl_MissingWord x).trans h)
noncomputable def n_impl_MissingWord (a0 : List Int) (a1 : Int) : Int := missWord a0 a1
theorem nn_impl_MissingWord (a0 : List Int) (a1 : Int) (hk : InOk I_impl_MissingWord (a0, a1, ())) : raw_impl_MissingWord a0 a1 = (fun n => some ((n, ()), ())) (n_impl_MissingWord a0 a1) := by
  have hb : a0.length * 8 ≤ 2 ^ 47 := hk.1.1
  unfold raw_impl_MissingWord n_impl_MissingWord missWord n_impl_XorOf
  rw [impl_in_eq, in_len (show a0.length ≤ 1152921504606846976 by omega)]
  cases inb a1 a0.length <;> rfl
noncomputable def con_impl_MissingWord : Con := ⟨I_impl_MissingWord, U_impl_MissingWord, fun x => (fun n => some ((n, ()), ())) (n_impl_MissingWord x.1 x.2.1)⟩
theorem ok_impl_MissingWord : ConOk Tryz.prog 153 con_impl_MissingWord := (ok0_impl_MissingWord).mono (fun x r hk h => (nn_impl_MissingWord x.1 x.2.1 hk).trans h)
end

/-! impl_Words -/
section
noncomputable def B_impl_Words : Code := (Tryz.f77.body).getD .skip
noncomputable def E_impl_Words : Env := envOf TT [(51, con_impl_ArrOk), (100, con_impl_hasStripe), (137, con_impl_wordAt), (153, con_impl_MissingWord)] []
theorem fr_impl_Words_0 : FrOk Tryz.prog ⟨E_impl_Words, 62, fun _ => none⟩ B_impl_Words := frOk_base mixed tt_ok ⟨ok_impl_ArrOk, ok_impl_hasStripe, ok_impl_wordAt, ok_impl_MissingWord, trivial⟩
noncomputable def D_impl_Words_0 : Nat → Option Seg := fun _ => none
def L_impl_Words_125 : Shape := ⟨[(1, false, [.int .i64]), (2, false, [.ptr 0 0]), (6, false, [.at 800000000]), (7, false, [.int .i64]), (28, false, [.int .i64]), (29, false, [.int .i64])], [(0, [.int .i64, .int .i64, .int .i64, .br tM, .int .i64, .int .i64, .int .i64, .int .i64, .int .i64, .br tW, .int .i64, .bool, .bool])], [(800000000, tI, .fz)]⟩
def S_impl_Words_125 : Shape := ⟨[(1, false, [.int .i64]), (2, false, [.ptr 0 0]), (6, false, [.at 800000000]), (7, false, [.ci .i64 (-1)]), (28, false, [.int .i64]), (29, false, [.ci .i64 0])], [(0, [.int .i64, .int .i64, .int .i64, .br tM, .int .i64, .int .i64, .int .i64, .int .i64, .int .i64, .br tW, .int .i64, .bool, .bool])], [(800000000, tI, .fz)]⟩
def O_impl_Words_125 : Shape := ⟨[(6, false, [.at 800000000]), (7, false, [.int .i64])], [], [(800000000, tI, .fz)]⟩
def Z_impl_Words_125 : Shape := ⟨[(4, false, [.nil]), (5, false, [.bool])], [], []⟩
abbrev mk_impl_Words_125 (v0 : Int) (v1 : Int) (v2 : Int) (v3 : Int) (v4 : dA) (v5 : List Int) : (L_impl_Words_125).X := (((v0, ()), ((), ()), ((), ()), (v1, ()), (v2, ()), (v3, ()), ()), ((v4.1, v4.2.1.1, v4.2.1.2, v4.2.2.1, v4.2.2.2.1, v4.2.2.2.2.1, v4.2.2.2.2.2.1, v4.2.2.2.2.2.2.1, v4.2.2.2.2.2.2.2.1, v4.2.2.2.2.2.2.2.2.1, v4.2.2.2.2.2.2.2.2.2.1, v4.2.2.2.2.2.2.2.2.2.2.1, v4.2.2.2.2.2.2.2.2.2.2.2, ()), ()), (v5, ()))
abbrev ms_impl_Words_125 (v0 : Int) (v1 : Int) (v2 : dA) (v3 : List Int) : (S_impl_Words_125).X := (((v0, ()), ((), ()), ((), ()), ((), ()), (v1, ()), ((), ()), ()), ((v2.1, v2.2.1.1, v2.2.1.2, v2.2.2.1, v2.2.2.2.1, v2.2.2.2.2.1, v2.2.2.2.2.2.1, v2.2.2.2.2.2.2.1, v2.2.2.2.2.2.2.2.1, v2.2.2.2.2.2.2.2.2.1, v2.2.2.2.2.2.2.2.2.2.1, v2.2.2.2.2.2.2.2.2.2.2.1, v2.2.2.2.2.2.2.2.2.2.2.2, ()), ()), (v3, ()))
abbrev mo_impl_Words_125 (v0 : Int) (v1 : List Int) : (O_impl_Words_125).X := ((((), ()), (v0, ()), ()), (), (v1, ()))
abbrev mz_impl_Words_125 (v0 : Bool) : (Z_impl_Words_125).X := ((((), ()), (v0, ()), ()), (), ())
noncomputable def st_impl_Words_125 (v0 : Int) (v1 : Int) (v2 : Int) (v3 : Int) (v4 : Int) (v5 : Int) (v6 : Int) (v7 : List dM) (v8 : Int) (v9 : Int) (v10 : Int) (v11 : Int) (v12 : Int) (v13 : List dW) (v14 : Int) (v15 : Bool) (v16 : Bool) (v17 : List Int) : Option ((L_impl_Words_125).X ⊕ ((O_impl_Words_125).X ⊕ (Z_impl_Words_125).X)) :=
  bif (ltb v3 v2) then
    bnd (o_impl_wordAt (v4, (v5, v6), v7, v8, v9, v10, v11, v12, v13, v14, v15, v16) v3 v0) fun r4 =>
    bif (!r4.1.2.1) then
      bif (leb 0 v1) then
        some (.inr (.inr ((((), ()), (false, ()), ()), (), ())))
      else
        bif (!r4.1.2.1) then
          bif (apok v17.length ([r4.1.1] : List Int).length 8) then
            some (.inl (((v0, ()), ((), ()), ((), ()), (v3, ()), (v2, ()), ((IntKind.i64.wrap (v3 + 1)), ()), ()), ((v4, v5, v6, v7, v8, v9, v10, v11, v12, v13, v14, v15, v16, ()), ()), ((v17 ++ ([r4.1.1] : List Int)), ())))
          else none
        else
          bif (apok v17.length ([r4.1.1] : List Int).length 8) then
            some (.inl (((v0, ()), ((), ()), ((), ()), (v1, ()), (v2, ()), ((IntKind.i64.wrap (v3 + 1)), ()), ()), ((v4, v5, v6, v7, v8, v9, v10, v11, v12, v13, v14, v15, v16, ()), ()), ((v17 ++ ([r4.1.1] : List Int)), ())))
          else none
    else
      bif (!r4.1.2.1) then
        bif (apok v17.length ([r4.1.1] : List Int).length 8) then
          some (.inl (((v0, ()), ((), ()), ((), ()), (v3, ()), (v2, ()), ((IntKind.i64.wrap (v3 + 1)), ()), ()), ((v4, v5, v6, v7, v8, v9, v10, v11, v12, v13, v14, v15, v16, ()), ()), ((v17 ++ ([r4.1.1] : List Int)), ())))
        else none
      else
        bif (apok v17.length ([r4.1.1] : List Int).length 8) then
          some (.inl (((v0, ()), ((), ()), ((), ()), (v1, ()), (v2, ()), ((IntKind.i64.wrap (v3 + 1)), ()), ()), ((v4, v5, v6, v7, v8, v9, v10, v11, v12, v13, v14, v15, v16, ()), ()), ((v17 ++ ([r4.1.1] : List Int)), ())))
        else none
  else
    some (.inr (.inl ((((), ()), (v1, ()), ()), (), (v17, ()))))
noncomputable def stx_impl_Words_125 (x : (L_impl_Words_125).X) := st_impl_Words_125 x.1.1.1 x.1.2.2.2.1.1 x.1.2.2.2.2.1.1 x.1.2.2.2.2.2.1.1 x.2.1.1.1 x.2.1.1.2.1 x.2.1.1.2.2.1 x.2.1.1.2.2.2.1 x.2.1.1.2.2.2.2.1 x.2.1.1.2.2.2.2.2.1 x.2.1.1.2.2.2.2.2.2.1 x.2.1.1.2.2.2.2.2.2.2.1 x.2.1.1.2.2.2.2.2.2.2.2.1 x.2.1.1.2.2.2.2.2.2.2.2.2.1 x.2.1.1.2.2.2.2.2.2.2.2.2.2.1 x.2.1.1.2.2.2.2.2.2.2.2.2.2.2.1 x.2.1.1.2.2.2.2.2.2.2.2.2.2.2.2.1 x.2.2.1
def em_impl_Words_125 (x : (S_impl_Words_125).X) : (L_impl_Words_125).X := (((x.1.1.1, ()), ((), ()), ((), ()), ((-1), ()), (x.1.2.2.2.2.1.1, ()), (0, ()), ()), ((x.2.1.1.1, x.2.1.1.2.1, x.2.1.1.2.2.1, x.2.1.1.2.2.2.1, x.2.1.1.2.2.2.2.1, x.2.1.1.2.2.2.2.2.1, x.2.1.1.2.2.2.2.2.2.1, x.2.1.1.2.2.2.2.2.2.2.1, x.2.1.1.2.2.2.2.2.2.2.2.1, x.2.1.1.2.2.2.2.2.2.2.2.2.1, x.2.1.1.2.2.2.2.2.2.2.2.2.2.1, x.2.1.1.2.2.2.2.2.2.2.2.2.2.2.1, x.2.1.1.2.2.2.2.2.2.2.2.2.2.2.2.1, ()), ()), (x.2.2.1, ()))
noncomputable def c_impl_Words_125 : Code := (subN B_impl_Words 64 500).getD .skip
theorem a_impl_Words_125 : subN B_impl_Words 64 125 = some (.block 0 (.loop c_impl_Words_125)) := by kernel_rfl
theorem r_impl_Words_125 (x : (L_impl_Words_125).X) : roundT ⟨E_impl_Words, 62, D_impl_Words_0⟩ 0 c_impl_Words_125 500 L_impl_Words_125 O_impl_Words_125 Z_impl_Words_125 x = stx_impl_Words_125 x := by kernel_rfl
noncomputable def fu_impl_Words_125 (x : (S_impl_Words_125).X) : Nat := (fun (u0 : Int) (u1 : Int) (u2 : Int) (u3 : Int) (u4 : Int) (u5 : List dM) (u6 : Int) (u7 : Int) (u8 : Int) (u9 : Int) (u10 : Int) (u11 : List dW) (u12 : Int) (u13 : Bool) (u14 : Bool) (u15 : List Int) => 18446744073709551616) x.1.1.1 x.1.2.2.2.2.1.1 x.2.1.1.1 x.2.1.1.2.1 x.2.1.1.2.2.1 x.2.1.1.2.2.2.1 x.2.1.1.2.2.2.2.1 x.2.1.1.2.2.2.2.2.1 x.2.1.1.2.2.2.2.2.2.1 x.2.1.1.2.2.2.2.2.2.2.1 x.2.1.1.2.2.2.2.2.2.2.2.1 x.2.1.1.2.2.2.2.2.2.2.2.2.1 x.2.1.1.2.2.2.2.2.2.2.2.2.2.1 x.2.1.1.2.2.2.2.2.2.2.2.2.2.2.1 x.2.1.1.2.2.2.2.2.2.2.2.2.2.2.2.1 x.2.2.1
noncomputable def F_impl_Words_125 (x : (S_impl_Words_125).X) : Option ((O_impl_Words_125).X ⊕ (Z_impl_Words_125).X) := loopN stx_impl_Words_125 (fu_impl_Words_125 x) (em_impl_Words_125 x)
noncomputable def sg_impl_Words_125 : Seg := ⟨S_impl_Words_125, O_impl_Words_125, Z_impl_Words_125, F_impl_Words_125⟩
noncomputable def D_impl_Words_1 : Nat → Option Seg := fun q => bif Nat.beq q 125 then some sg_impl_Words_125 else D_impl_Words_0 q
theorem fr_impl_Words_1 : FrOk Tryz.prog ⟨E_impl_Words, 62, D_impl_Words_1⟩ B_impl_Words := (fr_impl_Words_0).loop (sg := sg_impl_Words_125) L_impl_Words_125 em_impl_Words_125 (by decide) a_impl_Words_125 stx_impl_Words_125 fu_impl_Words_125 (by decide) (fun _ => rfl) (fun x r _ h => h) r_impl_Words_125
abbrev I_impl_Words : List Par := [.rd tA, .rd tI]
abbrev U_impl_Words : List OT := [⟨false, tL, (.ow .fz)⟩, ⟨false, tB, .fz⟩]
noncomputable def raw_impl_Words (a0 : dA) (a1 : Int) : Option (ResD U_impl_Words × MutD I_impl_Words) :=
  let r1 := n_impl_ArrOk a0
  bif (!(!r1)) then
    bif (!a0.2.2.2.2.2.2.2.2.2.2.2) then
      let r2 := n_impl_hasStripe a0.2.1 a1
      bif (!r2) then
        some (([], false, ()), ())
      else
        segM (F_impl_Words_125 (((a1, ()), ((), ()), ((), ()), ((), ()), ((a0.2.2.1.length : Int), ()), ((), ()), ()), ((a0.1, a0.2.1.1, a0.2.1.2, a0.2.2.1, a0.2.2.2.1, a0.2.2.2.2.1, a0.2.2.2.2.2.1, a0.2.2.2.2.2.2.1, a0.2.2.2.2.2.2.2.1, a0.2.2.2.2.2.2.2.2.1, a0.2.2.2.2.2.2.2.2.2.1, a0.2.2.2.2.2.2.2.2.2.2.1, a0.2.2.2.2.2.2.2.2.2.2.2, ()), ()), (([] : List Int), ()))) (fun y4 =>
          bif (leb 0 y4.1.2.1.1) then
            let r6 := n_impl_MissingWord y4.2.2.1 y4.1.2.1.1
            bif (inb y4.1.2.1.1 y4.2.2.1.length) then
              some (((y4.2.2.1.set (y4.1.2.1.1).toNat r6), true, ()), ())
            else none
          else
            some ((y4.2.2.1, true, ()), ())) (fun y4 =>
          some (([], y4.1.2.1.1, ()), ()))
    else
      some (([], false, ()), ())
  else
    some (([], false, ()), ())
theorem e_impl_Words (x : InD I_impl_Words) : execF ⟨E_impl_Words, 62, D_impl_Words_1⟩ Tryz.f77.results.toList B_impl_Words I_impl_Words U_impl_Words x = raw_impl_Words x.1 x.2.1 := by kernel_rfl
theorem ok0_impl_Words : ConOk Tryz.prog 77 ⟨I_impl_Words, U_impl_Words, fun x => raw_impl_Words x.1 x.2.1⟩ := conOk_exec (fr_impl_Words_1) Tryz.func77 (by kernel_rfl) (by kernel_rfl) Tryz.ntmps77.symm (by decide) (fun x r h => (e_impl_Words x).trans h)
noncomputable def n_impl_Words (a0 : dA) (a1 : Int) : List Int × Bool := bif arrOk a0 && (!a0.2.2.2.2.2.2.2.2.2.2.2 && strOk a0.2.1 a1) then words a0 a1 else ([], false)
theorem nn_impl_Words (a0 : dA) (a1 : Int) (hk : InOk I_impl_Words (a0, a1, ())) : raw_impl_Words a0 a1 = (fun n => some ((n.1, n.2, ()), ())) (n_impl_Words a0 a1) := by
  unfold raw_impl_Words n_impl_Words n_impl_ArrOk
  rw [impl_str_eq]
  cases ha : arrOk a0
  · rfl
  have hg := geo_iff.1 (arrOk_geo ha)
  have hl := arrOk_len ha
  have h1 : F_impl_Words_125 (ms_impl_Words_125 a1 a0.2.2.1.length a0 []) = some (bif miss2 (fun (i : Nat) => wordOk a0 i a1) a0.2.1.1.toNat then .inr (mz_impl_Words_125 false) else .inl (mo_impl_Words_125 (missAt (fun (i : Nat) => wordOk a0 i a1) a0.2.1.1.toNat) (wordList a0 a1 a0.2.1.1.toNat))) :=
    loopN_all (step := stx_impl_Words_125) (fun i => mk_impl_Words_125 a1 (missAt (fun (i : Nat) => wordOk a0 i a1) i) a0.2.2.1.length i a0 (wordList a0 a1 i)) a0.2.1.1.toNat (fun i => !wordOk a0 i a1 && leb 0 (missAt (fun (i : Nat) => wordOk a0 i a1) i)) _ _ (fun i hi => by
      simp only [stx_impl_Words_125, mk_impl_Words_125, st_impl_Words_125, ltb_t (show (i : Int) < a0.2.2.1.length by omega), cond_true, wr (show -9223372036854775808 ≤ (i : Int) + 1 by omega) (by omega), Int.natCast_add, Int.natCast_one, Int.toNat_natCast, pr_eta, ot_impl_wordAt a0 i a1 (inb_nat (show i < a0.2.2.1.length by omega)), n_impl_wordAt, bnd_some, missAt]
      rw [apok_iff.2 (show ((wordList a0 a1 i).length + [word a0 i a1].length) * 8 ≤ 140737488355328 by simp only [List.length_cons, List.length_nil, wordList_len]; omega), wordList_succ]
      cases wordOk a0 i a1 <;> cases leb 0 (missAt (fun (i : Nat) => wordOk a0 i a1) i) <;> rfl) (by simp only [stx_impl_Words_125, mk_impl_Words_125, st_impl_Words_125, ltb_f (show (a0.2.2.1.length : Int) ≤ (a0.2.1.1.toNat : Int) by omega), cond_false]) _ (by show _ < 18446744073709551616; omega)
  rw [h1]
  cases a0.2.2.2.2.2.2.2.2.2.2.2
  · cases strOk a0.2.1 a1
    · rfl
    · unfold words
      cases miss2 (fun (i : Nat) => wordOk a0 i a1) a0.2.1.1.toNat
      · simp only [cond_false, segM_inl, n_impl_MissingWord]
        cases hm : leb 0 (missAt (fun (i : Nat) => wordOk a0 i a1) a0.2.1.1.toNat)
        · rfl
        · obtain ⟨h2, h3⟩ := miss_word a0 a1 a0.2.1.1.toNat hm
          rw [h2, h3]; rfl
      · rfl
  · rfl
noncomputable def con_impl_Words : Con := ⟨I_impl_Words, U_impl_Words, fun x => (fun n => some ((n.1, n.2, ()), ())) (n_impl_Words x.1 x.2.1)⟩
theorem ok_impl_Words : ConOk Tryz.prog 77 con_impl_Words := (ok0_impl_Words).mono (fun x r hk h => (nn_impl_Words x.1 x.2.1 hk).trans h)
end

/-! impl_ParityOf -/
section
noncomputable def B_impl_ParityOf : Code := (Tryz.f170.body).getD .skip
noncomputable def E_impl_ParityOf : Env := envOf TT [(100, con_impl_hasStripe)] []
theorem fr_impl_ParityOf_0 : FrOk Tryz.prog ⟨E_impl_ParityOf, 17, fun _ => none⟩ B_impl_ParityOf := frOk_base mixed tt_ok ⟨ok_impl_hasStripe, trivial⟩
noncomputable def D_impl_ParityOf_0 : Nat → Option Seg := fun _ => none
abbrev I_impl_ParityOf : List Par := [.rd tG, .rd tI]
abbrev U_impl_ParityOf : List OT := [⟨false, tI, .fz⟩]
noncomputable def raw_impl_ParityOf (a0 : dG) (a1 : Int) : Option (ResD U_impl_ParityOf × MutD I_impl_ParityOf) :=
  let r1 := n_impl_hasStripe a0 a1
  bif (!r1) then
    some (((-1), ()), ())
  else
    bif (a0.1 != 0) then
      some (((IntKind.i64.wrap ((IntKind.i64.wrap (a0.1 - 1)) - (a1.tmod a0.1))), ()), ())
    else none
theorem e_impl_ParityOf (x : InD I_impl_ParityOf) : execF ⟨E_impl_ParityOf, 17, D_impl_ParityOf_0⟩ Tryz.f170.results.toList B_impl_ParityOf I_impl_ParityOf U_impl_ParityOf x = raw_impl_ParityOf x.1 x.2.1 := by kernel_rfl
theorem ok0_impl_ParityOf : ConOk Tryz.prog 170 ⟨I_impl_ParityOf, U_impl_ParityOf, fun x => raw_impl_ParityOf x.1 x.2.1⟩ := conOk_exec (fr_impl_ParityOf_0) Tryz.func170 (by kernel_rfl) (by kernel_rfl) Tryz.ntmps170.symm (by decide) (fun x r h => (e_impl_ParityOf x).trans h)
noncomputable def n_impl_ParityOf (a0 : dG) (a1 : Int) : Int := parityOf a0 a1
theorem nn_impl_ParityOf (a0 : dG) (a1 : Int) (hk : InOk I_impl_ParityOf (a0, a1, ())) : raw_impl_ParityOf a0 a1 = (fun n => some ((n, ()), ())) (n_impl_ParityOf a0 a1) := by
  unfold raw_impl_ParityOf n_impl_ParityOf
  rw [impl_str_eq]
  cases hs : strOk a0 a1
  · unfold parityOf; rw [hs]; rfl
  · have h1 := strOk_iff.1 hs
    have h2 := geo_iff.1 h1.1
    have h3 := parity_in hs
    have h4 : parityOf a0 a1 = a0.1 - 1 - a1.tmod a0.1 := by unfold parityOf; rw [hs]; rfl
    rw [show (a0.1 != 0) = true from bne_iff_ne.2 (by omega), wr (show -9223372036854775808 ≤ a0.1 - 1 by omega) (by omega), wr (show -9223372036854775808 ≤ a0.1 - 1 - a1.tmod a0.1 by omega) (by omega), h4]; rfl
noncomputable def con_impl_ParityOf : Con := ⟨I_impl_ParityOf, U_impl_ParityOf, fun x => (fun n => some ((n, ()), ())) (n_impl_ParityOf x.1 x.2.1)⟩
theorem ok_impl_ParityOf : ConOk Tryz.prog 170 con_impl_ParityOf := (ok0_impl_ParityOf).mono (fun x r hk h => (nn_impl_ParityOf x.1 x.2.1 hk).trans h)
end

/-! impl_DiskOf -/
section
noncomputable def B_impl_DiskOf : Code := (Tryz.f127.body).getD .skip
noncomputable def E_impl_DiskOf : Env := envOf TT [(100, con_impl_hasStripe), (114, con_impl_within), (170, con_impl_ParityOf)] []
theorem fr_impl_DiskOf_0 : FrOk Tryz.prog ⟨E_impl_DiskOf, 28, fun _ => none⟩ B_impl_DiskOf := frOk_base mixed tt_ok ⟨ok_impl_hasStripe, ok_impl_within, ok_impl_ParityOf, trivial⟩
noncomputable def D_impl_DiskOf_0 : Nat → Option Seg := fun _ => none
abbrev I_impl_DiskOf : List Par := [.rd tG, .rd tI, .rd tI]
abbrev U_impl_DiskOf : List OT := [⟨false, tI, .fz⟩]
noncomputable def raw_impl_DiskOf (a0 : dG) (a1 : Int) (a2 : Int) : Option (ResD U_impl_DiskOf × MutD I_impl_DiskOf) :=
  let r1 := n_impl_hasStripe a0 a1
  bif (!(!r1)) then
    let r2 := n_impl_within a2 0 (IntKind.i64.wrap (a0.1 - 2))
    bif (!r2) then
      some (((-1), ()), ())
    else
      let r3 := n_impl_ParityOf a0 a1
      bif (a0.1 != 0) then
        some ((((IntKind.i64.wrap ((IntKind.i64.wrap (r3 + 1)) + a2)).tmod a0.1), ()), ())
      else none
  else
    some (((-1), ()), ())
theorem e_impl_DiskOf (x : InD I_impl_DiskOf) : execF ⟨E_impl_DiskOf, 28, D_impl_DiskOf_0⟩ Tryz.f127.results.toList B_impl_DiskOf I_impl_DiskOf U_impl_DiskOf x = raw_impl_DiskOf x.1 x.2.1 x.2.2.1 := by kernel_rfl
theorem ok0_impl_DiskOf : ConOk Tryz.prog 127 ⟨I_impl_DiskOf, U_impl_DiskOf, fun x => raw_impl_DiskOf x.1 x.2.1 x.2.2.1⟩ := conOk_exec (fr_impl_DiskOf_0) Tryz.func127 (by kernel_rfl) (by kernel_rfl) Tryz.ntmps127.symm (by decide) (fun x r h => (e_impl_DiskOf x).trans h)
noncomputable def n_impl_DiskOf (a0 : dG) (a1 a2 : Int) : Int := diskOf a0 a1 a2
theorem nn_impl_DiskOf (a0 : dG) (a1 a2 : Int) (hk : InOk I_impl_DiskOf (a0, a1, a2, ())) : raw_impl_DiskOf a0 a1 a2 = (fun n => some ((n, ()), ())) (n_impl_DiskOf a0 a1 a2) := by
  unfold raw_impl_DiskOf n_impl_DiskOf diskOf n_impl_ParityOf
  rw [impl_str_eq]
  cases hs : strOk a0 a1
  · rfl
  · have h1 := strOk_iff.1 hs
    have h2 := geo_iff.1 h1.1
    have h3 := parity_in hs
    rw [impl_in_eq, in_eq, wr (show -9223372036854775808 ≤ a0.1 - 2 by omega) (by omega)]
    cases hi : (leb 0 a2 && leb a2 (a0.1 - 2))
    · rfl
    · rw [Bool.and_eq_true, leb_iff, leb_iff] at hi
      rw [show (a0.1 != 0) = true from bne_iff_ne.2 (by omega)]
      show some (((IntKind.i64.wrap (IntKind.i64.wrap (parityOf a0 a1 + 1) + a2)).tmod a0.1, ()), ()) = some (((parityOf a0 a1 + 1 + a2).tmod a0.1, ()), ())
      rw [wr (show -9223372036854775808 ≤ parityOf a0 a1 + 1 by omega) (by omega), wr (show -9223372036854775808 ≤ parityOf a0 a1 + 1 + a2 by omega) (by omega)]
noncomputable def con_impl_DiskOf : Con := ⟨I_impl_DiskOf, U_impl_DiskOf, fun x => (fun n => some ((n, ()), ())) (n_impl_DiskOf x.1 x.2.1 x.2.2.1)⟩
theorem ok_impl_DiskOf : ConOk Tryz.prog 127 con_impl_DiskOf := (ok0_impl_DiskOf).mono (fun x r hk h => (nn_impl_DiskOf x.1 x.2.1 x.2.2.1 hk).trans h)
end

/-! impl_DataOf -/
section
noncomputable def B_impl_DataOf : Code := (Tryz.f48.body).getD .skip
noncomputable def E_impl_DataOf : Env := envOf TT [(77, con_impl_Words), (127, con_impl_DiskOf)] []
theorem fr_impl_DataOf_0 : FrOk Tryz.prog ⟨E_impl_DataOf, 39, fun _ => none⟩ B_impl_DataOf := frOk_base mixed tt_ok ⟨ok_impl_Words, ok_impl_DiskOf, trivial⟩
noncomputable def D_impl_DataOf_0 : Nat → Option Seg := fun _ => none
def L_impl_DataOf_125 : Shape := ⟨[(1, false, [.int .i64]), (2, false, [.ptr 0 0]), (6, false, [.at 800000000]), (8, false, [.at 800000001]), (22, false, [.int .i64]), (23, false, [.int .i64])], [(0, [.int .i64, .int .i64, .int .i64, .br tM, .int .i64, .int .i64, .int .i64, .int .i64, .int .i64, .br tW, .int .i64, .bool, .bool])], [(800000000, tI, .fz), (800000001, tI, .fz)]⟩
def S_impl_DataOf_125 : Shape := ⟨[(1, false, [.int .i64]), (2, false, [.ptr 0 0]), (6, false, [.at 800000000]), (8, false, [.at 800000001]), (22, false, [.int .i64]), (23, false, [.ci .i64 0])], [(0, [.int .i64, .int .i64, .int .i64, .br tM, .int .i64, .int .i64, .int .i64, .int .i64, .int .i64, .br tW, .int .i64, .bool, .bool])], [(800000000, tI, .fz), (800000001, tI, .fz)]⟩
def O_impl_DataOf_125 : Shape := ⟨[(8, false, [.at 800000000])], [], [(800000000, tI, .fz)]⟩
def Z_impl_DataOf_125 : Shape := ⟨[], [], []⟩
abbrev mk_impl_DataOf_125 (v0 : Int) (v1 : Int) (v2 : Int) (v3 : dA) (v4 : List Int) (v5 : List Int) : (L_impl_DataOf_125).X := (((v0, ()), ((), ()), ((), ()), ((), ()), (v1, ()), (v2, ()), ()), ((v3.1, v3.2.1.1, v3.2.1.2, v3.2.2.1, v3.2.2.2.1, v3.2.2.2.2.1, v3.2.2.2.2.2.1, v3.2.2.2.2.2.2.1, v3.2.2.2.2.2.2.2.1, v3.2.2.2.2.2.2.2.2.1, v3.2.2.2.2.2.2.2.2.2.1, v3.2.2.2.2.2.2.2.2.2.2.1, v3.2.2.2.2.2.2.2.2.2.2.2, ()), ()), (v4, v5, ()))
abbrev ms_impl_DataOf_125 (v0 : Int) (v1 : Int) (v2 : dA) (v3 : List Int) (v4 : List Int) : (S_impl_DataOf_125).X := (((v0, ()), ((), ()), ((), ()), ((), ()), (v1, ()), ((), ()), ()), ((v2.1, v2.2.1.1, v2.2.1.2, v2.2.2.1, v2.2.2.2.1, v2.2.2.2.2.1, v2.2.2.2.2.2.1, v2.2.2.2.2.2.2.1, v2.2.2.2.2.2.2.2.1, v2.2.2.2.2.2.2.2.2.1, v2.2.2.2.2.2.2.2.2.2.1, v2.2.2.2.2.2.2.2.2.2.2.1, v2.2.2.2.2.2.2.2.2.2.2.2, ()), ()), (v3, v4, ()))
abbrev mo_impl_DataOf_125 (v0 : List Int) : (O_impl_DataOf_125).X := ((((), ()), ()), (), (v0, ()))
noncomputable def st_impl_DataOf_125 (v0 : Int) (v1 : Int) (v2 : Int) (v3 : Int) (v4 : Int) (v5 : Int) (v6 : List dM) (v7 : Int) (v8 : Int) (v9 : Int) (v10 : Int) (v11 : Int) (v12 : List dW) (v13 : Int) (v14 : Bool) (v15 : Bool) (v16 : List Int) (v17 : List Int) : Option ((L_impl_DataOf_125).X ⊕ ((O_impl_DataOf_125).X ⊕ (Z_impl_DataOf_125).X)) :=
  bif (ltb v2 v1) then
    let r3 := n_impl_DiskOf (v4, v5) v0 v2
    bif (inb r3 v16.length) then
      bif (apok v17.length ([(nth v16 r3 0)] : List Int).length 8) then
        some (.inl (((v0, ()), ((), ()), ((), ()), ((), ()), (v1, ()), ((IntKind.i64.wrap (v2 + 1)), ()), ()), ((v3, v4, v5, v6, v7, v8, v9, v10, v11, v12, v13, v14, v15, ()), ()), (v16, (v17 ++ ([(nth v16 r3 0)] : List Int)), ())))
      else none
    else none
  else
    some (.inr (.inl ((((), ()), ()), (), (v17, ()))))
noncomputable def stx_impl_DataOf_125 (x : (L_impl_DataOf_125).X) := st_impl_DataOf_125 x.1.1.1 x.1.2.2.2.2.1.1 x.1.2.2.2.2.2.1.1 x.2.1.1.1 x.2.1.1.2.1 x.2.1.1.2.2.1 x.2.1.1.2.2.2.1 x.2.1.1.2.2.2.2.1 x.2.1.1.2.2.2.2.2.1 x.2.1.1.2.2.2.2.2.2.1 x.2.1.1.2.2.2.2.2.2.2.1 x.2.1.1.2.2.2.2.2.2.2.2.1 x.2.1.1.2.2.2.2.2.2.2.2.2.1 x.2.1.1.2.2.2.2.2.2.2.2.2.2.1 x.2.1.1.2.2.2.2.2.2.2.2.2.2.2.1 x.2.1.1.2.2.2.2.2.2.2.2.2.2.2.2.1 x.2.2.1 x.2.2.2.1
def em_impl_DataOf_125 (x : (S_impl_DataOf_125).X) : (L_impl_DataOf_125).X := (((x.1.1.1, ()), ((), ()), ((), ()), ((), ()), (x.1.2.2.2.2.1.1, ()), (0, ()), ()), ((x.2.1.1.1, x.2.1.1.2.1, x.2.1.1.2.2.1, x.2.1.1.2.2.2.1, x.2.1.1.2.2.2.2.1, x.2.1.1.2.2.2.2.2.1, x.2.1.1.2.2.2.2.2.2.1, x.2.1.1.2.2.2.2.2.2.2.1, x.2.1.1.2.2.2.2.2.2.2.2.1, x.2.1.1.2.2.2.2.2.2.2.2.2.1, x.2.1.1.2.2.2.2.2.2.2.2.2.2.1, x.2.1.1.2.2.2.2.2.2.2.2.2.2.2.1, x.2.1.1.2.2.2.2.2.2.2.2.2.2.2.2.1, ()), ()), (x.2.2.1, x.2.2.2.1, ()))
noncomputable def c_impl_DataOf_125 : Code := (subN B_impl_DataOf 64 500).getD .skip
theorem a_impl_DataOf_125 : subN B_impl_DataOf 64 125 = some (.block 0 (.loop c_impl_DataOf_125)) := by kernel_rfl
theorem r_impl_DataOf_125 (x : (L_impl_DataOf_125).X) : roundT ⟨E_impl_DataOf, 39, D_impl_DataOf_0⟩ 0 c_impl_DataOf_125 500 L_impl_DataOf_125 O_impl_DataOf_125 Z_impl_DataOf_125 x = stx_impl_DataOf_125 x := by kernel_rfl
noncomputable def fu_impl_DataOf_125 (x : (S_impl_DataOf_125).X) : Nat := (fun (u0 : Int) (u1 : Int) (u2 : Int) (u3 : Int) (u4 : Int) (u5 : List dM) (u6 : Int) (u7 : Int) (u8 : Int) (u9 : Int) (u10 : Int) (u11 : List dW) (u12 : Int) (u13 : Bool) (u14 : Bool) (u15 : List Int) (u16 : List Int) => 18446744073709551616) x.1.1.1 x.1.2.2.2.2.1.1 x.2.1.1.1 x.2.1.1.2.1 x.2.1.1.2.2.1 x.2.1.1.2.2.2.1 x.2.1.1.2.2.2.2.1 x.2.1.1.2.2.2.2.2.1 x.2.1.1.2.2.2.2.2.2.1 x.2.1.1.2.2.2.2.2.2.2.1 x.2.1.1.2.2.2.2.2.2.2.2.1 x.2.1.1.2.2.2.2.2.2.2.2.2.1 x.2.1.1.2.2.2.2.2.2.2.2.2.2.1 x.2.1.1.2.2.2.2.2.2.2.2.2.2.2.1 x.2.1.1.2.2.2.2.2.2.2.2.2.2.2.2.1 x.2.2.1 x.2.2.2.1
noncomputable def F_impl_DataOf_125 (x : (S_impl_DataOf_125).X) : Option ((O_impl_DataOf_125).X ⊕ (Z_impl_DataOf_125).X) := loopN stx_impl_DataOf_125 (fu_impl_DataOf_125 x) (em_impl_DataOf_125 x)
noncomputable def sg_impl_DataOf_125 : Seg := ⟨S_impl_DataOf_125, O_impl_DataOf_125, Z_impl_DataOf_125, F_impl_DataOf_125⟩
noncomputable def D_impl_DataOf_1 : Nat → Option Seg := fun q => bif Nat.beq q 125 then some sg_impl_DataOf_125 else D_impl_DataOf_0 q
theorem fr_impl_DataOf_1 : FrOk Tryz.prog ⟨E_impl_DataOf, 39, D_impl_DataOf_1⟩ B_impl_DataOf := (fr_impl_DataOf_0).loop (sg := sg_impl_DataOf_125) L_impl_DataOf_125 em_impl_DataOf_125 (by decide) a_impl_DataOf_125 stx_impl_DataOf_125 fu_impl_DataOf_125 (by decide) (fun _ => rfl) (fun x r _ h => h) r_impl_DataOf_125
abbrev I_impl_DataOf : List Par := [.rd tA, .rd tI]
abbrev U_impl_DataOf : List OT := [⟨false, tL, (.ow .fz)⟩, ⟨false, tB, .fz⟩]
noncomputable def raw_impl_DataOf (a0 : dA) (a1 : Int) : Option (ResD U_impl_DataOf × MutD I_impl_DataOf) :=
  let r1 := n_impl_Words a0 a1
  bif (!r1.2) then
    some (([], false, ()), ())
  else
    segM (F_impl_DataOf_125 (((a1, ()), ((), ()), ((), ()), ((), ()), ((IntKind.i64.wrap (a0.2.1.1 - 1)), ()), ((), ()), ()), ((a0.1, a0.2.1.1, a0.2.1.2, a0.2.2.1, a0.2.2.2.1, a0.2.2.2.2.1, a0.2.2.2.2.2.1, a0.2.2.2.2.2.2.1, a0.2.2.2.2.2.2.2.1, a0.2.2.2.2.2.2.2.2.1, a0.2.2.2.2.2.2.2.2.2.1, a0.2.2.2.2.2.2.2.2.2.2.1, a0.2.2.2.2.2.2.2.2.2.2.2, ()), ()), (r1.1, ([] : List Int), ()))) (fun y3 =>
      some ((y3.2.2.1, true, ()), ())) (fun y3 =>
      none)
theorem e_impl_DataOf (x : InD I_impl_DataOf) : execF ⟨E_impl_DataOf, 39, D_impl_DataOf_1⟩ Tryz.f48.results.toList B_impl_DataOf I_impl_DataOf U_impl_DataOf x = raw_impl_DataOf x.1 x.2.1 := by kernel_rfl
theorem ok0_impl_DataOf : ConOk Tryz.prog 48 ⟨I_impl_DataOf, U_impl_DataOf, fun x => raw_impl_DataOf x.1 x.2.1⟩ := conOk_exec (fr_impl_DataOf_1) Tryz.func48 (by kernel_rfl) (by kernel_rfl) Tryz.ntmps48.symm (by decide) (fun x r h => (e_impl_DataOf x).trans h)
noncomputable def n_impl_DataOf (a0 : dA) (a1 : Int) : List Int × Bool := dataOf a0 a1
theorem nn_impl_DataOf (a0 : dA) (a1 : Int) (hk : InOk I_impl_DataOf (a0, a1, ())) : raw_impl_DataOf a0 a1 = (fun n => some ((n.1, n.2, ()), ())) (n_impl_DataOf a0 a1) := by
  unfold raw_impl_DataOf n_impl_DataOf dataOf n_impl_Words
  cases hc : (arrOk a0 && (!a0.2.2.2.2.2.2.2.2.2.2.2 && strOk a0.2.1 a1))
  · rfl
  simp only [Bool.and_eq_true] at hc
  have hg := geo_iff.1 (arrOk_geo hc.1)
  have hs := hc.2.2
  unfold dataA
  simp only [cond_true]
  cases hw : (words a0 a1).2
  · rfl
  · have hL := words_len hw
    have h1 : F_impl_DataOf_125 (ms_impl_DataOf_125 a1 (a0.2.1.1 - 1) a0 (words a0 a1).1 []) = some (.inl (mo_impl_DataOf_125 ((List.range (a0.2.1.1 - 1).toNat).foldl (fun l (i : Nat) => l ++ [nth (words a0 a1).1 (diskOf a0.2.1 a1 i) 0]) []))) :=
      loopN_rng (step := stx_impl_DataOf_125) (a0.2.1.1 - 1).toNat (fun i s => mk_impl_DataOf_125 a1 (a0.2.1.1 - 1) i a0 (words a0 a1).1 s) (fun l (i : Nat) => l ++ [nth (words a0 a1).1 (diskOf a0.2.1 a1 i) 0]) (fun i s => s.length = i) (fun s => .inl (mo_impl_DataOf_125 s)) (fun i s hi hs2 => ⟨by
        have hd := disk_in hs (show (0 : Int) ≤ i by omega) (show (i : Int) ≤ a0.2.1.1 - 2 by omega)
        simp only [stx_impl_DataOf_125, mk_impl_DataOf_125, st_impl_DataOf_125, ltb_t (show (i : Int) < a0.2.1.1 - 1 by omega), cond_true, wr (show -9223372036854775808 ≤ (i : Int) + 1 by omega) (by omega), Int.natCast_add, Int.natCast_one, Int.toNat_natCast, pr_eta, n_impl_DiskOf, inb_iff.2 (show 0 ≤ diskOf a0.2.1 a1 i ∧ diskOf a0.2.1 a1 i < (words a0 a1).1.length by omega)]
        rw [apok_iff.2 (show (s.length + [nth (words a0 a1).1 (diskOf a0.2.1 a1 i) 0].length) * 8 ≤ 140737488355328 by simp only [List.length_cons, List.length_nil]; omega)]; rfl, by simp [hs2]⟩) (fun s hs2 => by simp only [stx_impl_DataOf_125, mk_impl_DataOf_125, st_impl_DataOf_125, ltb_f (show a0.2.1.1 - 1 ≤ ((a0.2.1.1 - 1).toNat : Int) by omega), cond_false]) [] rfl _ (by show _ < 18446744073709551616; omega)
    simp only [wr (show -9223372036854775808 ≤ a0.2.1.1 - 1 by omega) (by omega)]
    rw [h1, foldl_snoc]; rfl
noncomputable def con_impl_DataOf : Con := ⟨I_impl_DataOf, U_impl_DataOf, fun x => (fun n => some ((n.1, n.2, ()), ())) (n_impl_DataOf x.1 x.2.1)⟩
theorem ok_impl_DataOf : ConOk Tryz.prog 48 con_impl_DataOf := (ok0_impl_DataOf).mono (fun x r hk h => (nn_impl_DataOf x.1 x.2.1 hk).trans h)
end
end Go.Tf
