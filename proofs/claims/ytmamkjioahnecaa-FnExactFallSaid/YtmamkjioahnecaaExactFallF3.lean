/- Functions of the program, and what they come to. -/
import Derived.Test.YtmamkjioahnecaaExactFallF2
namespace Go.Tf
open Go.Proofs
set_option synthInstance.maxHeartbeats 400000
set_option synthInstance.maxSize 10000
set_option linter.unusedVariables false
set_option linter.unusedSimpArgs false
set_option maxRecDepth 100000
/-! laws_toMem -/
section
noncomputable def B_laws_toMem : Code := (Try.f73.body).getD .skip
noncomputable def E_laws_toMem : Env := envOf TT [(18, con_laws_toIntS), (134, con_laws_toIntSS), (135, con_laws_toWrS)] []
theorem fr_laws_toMem_0 : FrOk Try.prog ⟨E_laws_toMem, 20, fun _ => none⟩ B_laws_toMem := frOk_base mixed tt_ok ⟨ok_laws_toIntS, ok_laws_toIntSS, ok_laws_toWrS, trivial⟩
noncomputable def D_laws_toMem_0 : Nat → Option Seg := fun _ => none
abbrev I_laws_toMem : List Par := [.rd tM]
abbrev U_laws_toMem : List OT := [⟨false, tM, (.pr (.ow (.ow .fz)) (.pr (.ow (.pr .fz (.ow .fz))) (.pr .fz (.ow .fz))))⟩]
noncomputable def raw_laws_toMem (a0 : dM) : Option (ResD U_laws_toMem × MutD I_laws_toMem) :=
  let r1 := n_laws_toIntSS a0.1
  let r2 := n_laws_toWrS a0.2.1
  let r3 := n_laws_toIntS a0.2.2.2
  some (((r1, r2, a0.2.2.1, r3), ()), ())
theorem e_laws_toMem (x : InD I_laws_toMem) : execF ⟨E_laws_toMem, 20, D_laws_toMem_0⟩ Try.f73.results.toList B_laws_toMem I_laws_toMem U_laws_toMem x = raw_laws_toMem x.1 := by kernel_rfl
theorem ok0_laws_toMem : ConOk Try.prog 73 ⟨I_laws_toMem, U_laws_toMem, fun x => raw_laws_toMem x.1⟩ := conOk_exec (fr_laws_toMem_0) Try.func73 (by kernel_rfl) (by kernel_rfl) Try.ntmps73.symm (by decide) (fun x r h => (e_laws_toMem x).trans h)
noncomputable def n_laws_toMem (a0 : dM) : dM :=
  let r1 := n_laws_toIntSS a0.1
  let r2 := n_laws_toWrS a0.2.1
  let r3 := n_laws_toIntS a0.2.2.2
  (r1, r2, a0.2.2.1, r3)
noncomputable def con_laws_toMem : Con := ⟨I_laws_toMem, U_laws_toMem, fun x => (fun n => some ((n, ()), ())) (n_laws_toMem x.1)⟩
theorem nn_laws_toMem (a0 : dM) : raw_laws_toMem a0 = (fun n => some ((n, ()), ())) (n_laws_toMem a0) := bif_ty (p := fun (n : dM) => ((n, ()), ())) rfl
theorem ok_laws_toMem : ConOk Try.prog 73 con_laws_toMem := (ok0_laws_toMem).mono (fun x r _ h => (nn_laws_toMem x.1).trans h)
theorem id_laws_toMem (a : dM) : n_laws_toMem a = a := by kernel_rfl
end

/-! laws_toMemS -/
section
noncomputable def B_laws_toMemS : Code := (Try.f17.body).getD .skip
noncomputable def E_laws_toMemS : Env := envOf TT [(73, con_laws_toMem)] []
theorem fr_laws_toMemS_0 : FrOk Try.prog ⟨E_laws_toMemS, 23, fun _ => none⟩ B_laws_toMemS := frOk_base mixed tt_ok ⟨ok_laws_toMem, trivial⟩
noncomputable def D_laws_toMemS_0 : Nat → Option Seg := fun _ => none
def L_laws_toMemS_29 : Shape := ⟨[(0, false, [.br tM]), (3, false, [.at 800000000]), (4, false, [.int .i64])], [], [(800000000, tM, (.pr (.ow (.ow .fz)) (.pr (.ow (.pr .fz (.ow .fz))) (.pr .fz (.ow .fz)))))]⟩
def S_laws_toMemS_29 : Shape := ⟨[(0, false, [.br tM]), (3, false, [.at 800000000]), (4, false, [.ci .i64 0])], [], [(800000000, tM, (.pr (.ow (.ow .fz)) (.pr (.ow (.pr .fz (.ow .fz))) (.pr .fz (.ow .fz)))))]⟩
def O_laws_toMemS_29 : Shape := ⟨[(3, false, [.at 800000000])], [], [(800000000, tM, (.pr (.ow (.ow .fz)) (.pr (.ow (.pr .fz (.ow .fz))) (.pr .fz (.ow .fz)))))]⟩
def Z_laws_toMemS_29 : Shape := ⟨[], [], []⟩
noncomputable def st_laws_toMemS_29 (v0 : List dM) (v1 : Int) (v2 : List dM) : Option ((L_laws_toMemS_29).X ⊕ ((O_laws_toMemS_29).X ⊕ (Z_laws_toMemS_29).X)) :=
  bif (ltb v1 (v0.length : Int)) then
    bif (inb v1 v0.length) then
      let r2 := n_laws_toMem ((nth v0 v1 ([], [], false, [])).1, ((nth v0 v1 ([], [], false, [])).2).1, (((nth v0 v1 ([], [], false, [])).2).2))
      bif (inb v1 v2.length) then
        some (.inl (((v0, ()), ((), ()), ((IntKind.i64.wrap (v1 + 1)), ()), ()), (), ((v2.set (v1).toNat r2), ())))
      else none
    else none
  else
    some (.inr (.inl ((((), ()), ()), (), (v2, ()))))
noncomputable def stx_laws_toMemS_29 (x : (L_laws_toMemS_29).X) := st_laws_toMemS_29 x.1.1.1 x.1.2.2.1.1 x.2.2.1
def em_laws_toMemS_29 (x : (S_laws_toMemS_29).X) : (L_laws_toMemS_29).X := (((x.1.1.1, ()), ((), ()), (0, ()), ()), (), (x.2.2.1, ()))
noncomputable def c_laws_toMemS_29 : Code := (subN B_laws_toMemS 64 116).getD .skip
theorem a_laws_toMemS_29 : subN B_laws_toMemS 64 29 = some (.block 0 (.loop c_laws_toMemS_29)) := by kernel_rfl
theorem r_laws_toMemS_29 (x : (L_laws_toMemS_29).X) : roundT ⟨E_laws_toMemS, 23, D_laws_toMemS_0⟩ 0 c_laws_toMemS_29 116 L_laws_toMemS_29 O_laws_toMemS_29 Z_laws_toMemS_29 x = stx_laws_toMemS_29 x := by kernel_rfl
noncomputable def fu_laws_toMemS_29 (x : (S_laws_toMemS_29).X) : Nat := (fun (u0 : List dM) (u1 : List dM) => 18446744073709551616) x.1.1.1 x.2.2.1
noncomputable def F_laws_toMemS_29 (x : (S_laws_toMemS_29).X) : Option ((O_laws_toMemS_29).X ⊕ (Z_laws_toMemS_29).X) := loopN stx_laws_toMemS_29 (fu_laws_toMemS_29 x) (em_laws_toMemS_29 x)
noncomputable def sg_laws_toMemS_29 : Seg := ⟨S_laws_toMemS_29, O_laws_toMemS_29, Z_laws_toMemS_29, F_laws_toMemS_29⟩
noncomputable def D_laws_toMemS_1 : Nat → Option Seg := fun q => bif Nat.beq q 29 then some sg_laws_toMemS_29 else D_laws_toMemS_0 q
theorem fr_laws_toMemS_1 : FrOk Try.prog ⟨E_laws_toMemS, 23, D_laws_toMemS_1⟩ B_laws_toMemS := (fr_laws_toMemS_0).loop (sg := sg_laws_toMemS_29) L_laws_toMemS_29 em_laws_toMemS_29 (by decide) a_laws_toMemS_29 stx_laws_toMemS_29 fu_laws_toMemS_29 (by decide) (fun _ => rfl) (fun x r _ h => h) r_laws_toMemS_29
abbrev I_laws_toMemS : List Par := [.rd tMs]
abbrev U_laws_toMemS : List OT := [⟨false, tMs, (.ow (.pr (.ow (.ow .fz)) (.pr (.ow (.pr .fz (.ow .fz))) (.pr .fz (.ow .fz)))))⟩]
noncomputable def raw_laws_toMemS (a0 : List dM) : Option (ResD U_laws_toMemS × MutD I_laws_toMemS) :=
  bif (mkok (a0.length : Int) 80) then
    segM (F_laws_toMemS_29 (((a0, ()), ((), ()), ((), ()), ()), (), ((List.replicate ((a0.length : Int)).toNat (([], [], false, []) : dM)), ()))) (fun y2 =>
      some ((y2.2.2.1, ()), ())) (fun y2 =>
      none)
  else none
theorem e_laws_toMemS (x : InD I_laws_toMemS) : execF ⟨E_laws_toMemS, 23, D_laws_toMemS_1⟩ Try.f17.results.toList B_laws_toMemS I_laws_toMemS U_laws_toMemS x = raw_laws_toMemS x.1 := by kernel_rfl
theorem ok0_laws_toMemS : ConOk Try.prog 17 ⟨I_laws_toMemS, U_laws_toMemS, fun x => raw_laws_toMemS x.1⟩ := conOk_exec (fr_laws_toMemS_1) Try.func17 (by kernel_rfl) (by kernel_rfl) Try.ntmps17.symm (by decide) (fun x r h => (e_laws_toMemS x).trans h)
noncomputable def n_laws_toMemS (a0 : List (dM)) : List (dM) := a0
theorem nn_laws_toMemS (a0 : List (dM)) (hk : InOk I_laws_toMemS (a0, ())) : raw_laws_toMemS a0 = (fun n => some ((n, ()), ())) (n_laws_toMemS a0) := by
  have hb : a0.length * 80 ≤ 2 ^ 47 := hk.1.1
  have hl : F_laws_toMemS_29 (((a0, ()), ((), ()), ((), ()), ()), (), ((List.replicate a0.length (([], [], false, []) : dM)), ())) = some (.inl ((((), ()), ()), (), (a0, ()))) :=
    loopN_fill (step := stx_laws_toMemS_29) a0 (([], [], false, []) : dM) (fun i m => (((a0, ()), ((), ()), ((i : Int), ()), ()), (), (m, ()))) (fun m => .inl ((((), ()), ()), (), (m, ()))) (fun i m hi hm => by
      simp only [stx_laws_toMemS_29, st_laws_toMemS_29, inb_nat (show i < m.length by omega), inb_nat hi, nth_nat, Int.toNat_natCast, ltb_t (show (i : Int) < a0.length by omega), cond_true, wr (show -9223372036854775808 ≤ (i : Int) + 1 by omega) (by omega), Int.natCast_add, Int.natCast_one, pr_eta, id_laws_toMem]) (fun m hm => by
      simp only [stx_laws_toMemS_29, st_laws_toMemS_29, ltb_f (Int.le_refl _), cond_false]) _ (by show _ < 18446744073709551616; omega)
  unfold raw_laws_toMemS n_laws_toMemS
  rw [show mkok (a0.length : Int) 80 = true by rw [mkok_iff]; omega, bif_t, Int.toNat_natCast, hl]
  rfl
noncomputable def con_laws_toMemS : Con := ⟨I_laws_toMemS, U_laws_toMemS, fun x => (fun n => some ((n, ()), ())) (n_laws_toMemS x.1)⟩
theorem ok_laws_toMemS : ConOk Try.prog 17 con_laws_toMemS := (ok0_laws_toMemS).mono (fun x r hk h => (nn_laws_toMemS x.1 hk).trans h)
theorem id_laws_toMemS (a : List dM) : n_laws_toMemS a = a := by kernel_rfl
end

/-! impl_copyInts -/
section
noncomputable def B_impl_copyInts : Code := (Try.f97.body).getD .skip
noncomputable def E_impl_copyInts : Env := envOf TT [] []
theorem fr_impl_copyInts_0 : FrOk Try.prog ⟨E_impl_copyInts, 6, fun _ => none⟩ B_impl_copyInts := frOk_base mixed tt_ok trivial
noncomputable def D_impl_copyInts_0 : Nat → Option Seg := fun _ => none
abbrev I_impl_copyInts : List Par := [.rd tL]
abbrev U_impl_copyInts : List OT := [⟨false, tL, (.ow .fz)⟩]
noncomputable def raw_impl_copyInts (a0 : List Int) : Option (ResD U_impl_copyInts × MutD I_impl_copyInts) :=
  bif (apok ([] : List Int).length a0.length 8) then
    some (((([] : List Int) ++ a0), ()), ())
  else none
theorem e_impl_copyInts (x : InD I_impl_copyInts) : execF ⟨E_impl_copyInts, 6, D_impl_copyInts_0⟩ Try.f97.results.toList B_impl_copyInts I_impl_copyInts U_impl_copyInts x = raw_impl_copyInts x.1 := by kernel_rfl
theorem ok0_impl_copyInts : ConOk Try.prog 97 ⟨I_impl_copyInts, U_impl_copyInts, fun x => raw_impl_copyInts x.1⟩ := conOk_exec (fr_impl_copyInts_0) Try.func97 (by kernel_rfl) (by kernel_rfl) Try.ntmps97.symm (by decide) (fun x r h => (e_impl_copyInts x).trans h)
noncomputable def n_impl_copyInts (a0 : List Int) : List Int := a0
theorem nn_impl_copyInts (a0 : List Int) (hk : InOk I_impl_copyInts (a0, ())) : raw_impl_copyInts a0 = (fun n => some ((n, ()), ())) (n_impl_copyInts a0) := by
  have hb : a0.length * 8 ≤ 2 ^ 47 := hk.1.1
  unfold raw_impl_copyInts n_impl_copyInts
  rw [show apok ([] : List Int).length a0.length 8 = true by rw [apok_iff, List.length_nil]; omega]
  rfl
noncomputable def con_impl_copyInts : Con := ⟨I_impl_copyInts, U_impl_copyInts, fun x => (fun n => some ((n, ()), ())) (n_impl_copyInts x.1)⟩
theorem ok_impl_copyInts : ConOk Try.prog 97 con_impl_copyInts := (ok0_impl_copyInts).mono (fun x r hk h => (nn_impl_copyInts x.1 hk).trans h)
end

/-! impl_within -/
section
noncomputable def B_impl_within : Code := (Try.f125.body).getD .skip
noncomputable def E_impl_within : Env := envOf TT [] []
theorem fr_impl_within_0 : FrOk Try.prog ⟨E_impl_within, 15, fun _ => none⟩ B_impl_within := frOk_base mixed tt_ok trivial
noncomputable def D_impl_within_0 : Nat → Option Seg := fun _ => none
abbrev I_impl_within : List Par := [.rd tI, .rd tI, .rd tI]
abbrev U_impl_within : List OT := [⟨false, tB, .fz⟩]
noncomputable def raw_impl_within (a0 : Int) (a1 : Int) (a2 : Int) : Option (ResD U_impl_within × MutD I_impl_within) :=
  bif (leb a1 a0) then
    some (((leb a0 a2), ()), ())
  else
    some ((false, ()), ())
theorem e_impl_within (x : InD I_impl_within) : execF ⟨E_impl_within, 15, D_impl_within_0⟩ Try.f125.results.toList B_impl_within I_impl_within U_impl_within x = raw_impl_within x.1 x.2.1 x.2.2.1 := by kernel_rfl
theorem ok0_impl_within : ConOk Try.prog 125 ⟨I_impl_within, U_impl_within, fun x => raw_impl_within x.1 x.2.1 x.2.2.1⟩ := conOk_exec (fr_impl_within_0) Try.func125 (by kernel_rfl) (by kernel_rfl) Try.ntmps125.symm (by decide) (fun x r h => (e_impl_within x).trans h)
noncomputable def n_impl_within (a0 : Int) (a1 : Int) (a2 : Int) : Bool :=
  bif (leb a1 a0) then
    (leb a0 a2)
  else
    false
noncomputable def con_impl_within : Con := ⟨I_impl_within, U_impl_within, fun x => (fun n => some ((n, ()), ())) (n_impl_within x.1 x.2.1 x.2.2.1)⟩
theorem nn_impl_within (a0 : Int) (a1 : Int) (a2 : Int) : raw_impl_within a0 a1 a2 = (fun n => some ((n, ()), ())) (n_impl_within a0 a1 a2) := bif_ty (p := fun (n : Bool) => ((n, ()), ())) (bif_some (p := fun (n : Bool) => ((n, ()), ())) rfl rfl)
theorem ok_impl_within : ConOk Try.prog 125 con_impl_within := (ok0_impl_within).mono (fun x r _ h => (nn_impl_within x.1 x.2.1 x.2.2.1).trans h)
theorem impl_in_eq (a b c : Int) : n_impl_within a b c = n_spec_l1In a b c := by kernel_rfl
end

/-! impl_hasSec -/
section
noncomputable def B_impl_hasSec : Code := (Try.f160.body).getD .skip
noncomputable def E_impl_hasSec : Env := envOf TT [(125, con_impl_within)] []
theorem fr_impl_hasSec_0 : FrOk Try.prog ⟨E_impl_hasSec, 11, fun _ => none⟩ B_impl_hasSec := frOk_base mixed tt_ok ⟨ok_impl_within, trivial⟩
noncomputable def D_impl_hasSec_0 : Nat → Option Seg := fun _ => none
abbrev I_impl_hasSec : List Par := [.rd tM, .rd tI]
abbrev U_impl_hasSec : List OT := [⟨false, tB, .fz⟩]
noncomputable def raw_impl_hasSec (a0 : dM) (a1 : Int) : Option (ResD U_impl_hasSec × MutD I_impl_hasSec) :=
  let r1 := n_impl_within a1 0 (IntKind.i64.wrap ((a0.1.length : Int) - 1))
  some ((r1, ()), ())
theorem e_impl_hasSec (x : InD I_impl_hasSec) : execF ⟨E_impl_hasSec, 11, D_impl_hasSec_0⟩ Try.f160.results.toList B_impl_hasSec I_impl_hasSec U_impl_hasSec x = raw_impl_hasSec x.1 x.2.1 := by kernel_rfl
theorem ok0_impl_hasSec : ConOk Try.prog 160 ⟨I_impl_hasSec, U_impl_hasSec, fun x => raw_impl_hasSec x.1 x.2.1⟩ := conOk_exec (fr_impl_hasSec_0) Try.func160 (by kernel_rfl) (by kernel_rfl) Try.ntmps160.symm (by decide) (fun x r h => (e_impl_hasSec x).trans h)
noncomputable def n_impl_hasSec (a0 : dM) (a1 : Int) : Bool :=
  let r1 := n_impl_within a1 0 (IntKind.i64.wrap ((a0.1.length : Int) - 1))
  r1
noncomputable def con_impl_hasSec : Con := ⟨I_impl_hasSec, U_impl_hasSec, fun x => (fun n => some ((n, ()), ())) (n_impl_hasSec x.1 x.2.1)⟩
theorem nn_impl_hasSec (a0 : dM) (a1 : Int) : raw_impl_hasSec a0 a1 = (fun n => some ((n, ()), ())) (n_impl_hasSec a0 a1) := bif_ty (p := fun (n : Bool) => ((n, ()), ())) rfl
theorem ok_impl_hasSec : ConOk Try.prog 160 con_impl_hasSec := (ok0_impl_hasSec).mono (fun x r _ h => (nn_impl_hasSec x.1 x.2.1).trans h)
end

/-! impl_isWord -/
section
noncomputable def B_impl_isWord : Code := (Try.f198.body).getD .skip
noncomputable def E_impl_isWord : Env := envOf TT [(125, con_impl_within)] []
theorem fr_impl_isWord_0 : FrOk Try.prog ⟨E_impl_isWord, 5, fun _ => none⟩ B_impl_isWord := frOk_base mixed tt_ok ⟨ok_impl_within, trivial⟩
noncomputable def D_impl_isWord_0 : Nat → Option Seg := fun _ => none
abbrev I_impl_isWord : List Par := [.rd tI]
abbrev U_impl_isWord : List OT := [⟨false, tB, .fz⟩]
noncomputable def raw_impl_isWord (a0 : Int) : Option (ResD U_impl_isWord × MutD I_impl_isWord) :=
  let r1 := n_impl_within a0 0 65535
  some ((r1, ()), ())
theorem e_impl_isWord (x : InD I_impl_isWord) : execF ⟨E_impl_isWord, 5, D_impl_isWord_0⟩ Try.f198.results.toList B_impl_isWord I_impl_isWord U_impl_isWord x = raw_impl_isWord x.1 := by kernel_rfl
theorem ok0_impl_isWord : ConOk Try.prog 198 ⟨I_impl_isWord, U_impl_isWord, fun x => raw_impl_isWord x.1⟩ := conOk_exec (fr_impl_isWord_0) Try.func198 (by kernel_rfl) (by kernel_rfl) Try.ntmps198.symm (by decide) (fun x r h => (e_impl_isWord x).trans h)
noncomputable def n_impl_isWord (a0 : Int) : Bool :=
  let r1 := n_impl_within a0 0 65535
  r1
noncomputable def con_impl_isWord : Con := ⟨I_impl_isWord, U_impl_isWord, fun x => (fun n => some ((n, ()), ())) (n_impl_isWord x.1)⟩
theorem nn_impl_isWord (a0 : Int) : raw_impl_isWord a0 = (fun n => some ((n, ()), ())) (n_impl_isWord a0) := bif_ty (p := fun (n : Bool) => ((n, ()), ())) rfl
theorem ok_impl_isWord : ConOk Try.prog 198 con_impl_isWord := (ok0_impl_isWord).mono (fun x r _ h => (nn_impl_isWord x.1).trans h)
end
end Go.Tf
