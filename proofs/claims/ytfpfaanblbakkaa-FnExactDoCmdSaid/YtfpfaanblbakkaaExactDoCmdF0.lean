/- Functions of the program, and what they come to. -/
import Derived.Test.YtfpfaanblbakkaaExactDoCmdTt
namespace Go.Tf
open Go.Proofs
set_option synthInstance.maxHeartbeats 400000
set_option synthInstance.maxSize 10000
set_option linter.unusedVariables false
set_option linter.unusedSimpArgs false
set_option maxRecDepth 100000
/-! laws_szIntS -/
section
noncomputable def B_laws_szIntS : Code := (Try.f66.body).getD .skip
noncomputable def E_laws_szIntS : Env := envOf TT [] []
theorem fr_laws_szIntS_0 : FrOk Try.prog ⟨E_laws_szIntS, 12, fun _ => none⟩ B_laws_szIntS := frOk_base mixed tt_ok trivial
noncomputable def D_laws_szIntS_0 : Nat → Option Seg := fun _ => none
abbrev I_laws_szIntS : List Par := [.rd tL, .rd tI]
abbrev U_laws_szIntS : List OT := [⟨false, tI, .fz⟩]
noncomputable def raw_laws_szIntS (a0 : List Int) (a1 : Int) : Option (ResD U_laws_szIntS × MutD I_laws_szIntS) :=
  bif (ltb (IntKind.i64.wrap (a1 - (a0.length : Int))) 0) then
    some (((-1), ()), ())
  else
    some (((IntKind.i64.wrap (a1 - (a0.length : Int))), ()), ())
theorem e_laws_szIntS (x : InD I_laws_szIntS) : execF ⟨E_laws_szIntS, 12, D_laws_szIntS_0⟩ Try.f66.results.toList B_laws_szIntS I_laws_szIntS U_laws_szIntS x = raw_laws_szIntS x.1 x.2.1 := by kernel_rfl
theorem ok0_laws_szIntS : ConOk Try.prog 66 ⟨I_laws_szIntS, U_laws_szIntS, fun x => raw_laws_szIntS x.1 x.2.1⟩ := conOk_exec (fr_laws_szIntS_0) Try.func66 (by kernel_rfl) (by kernel_rfl) Try.ntmps66.symm (by decide) (fun x r h => (e_laws_szIntS x).trans h)
noncomputable def n_laws_szIntS (a0 : List Int) (a1 : Int) : Int :=
  bif (ltb (IntKind.i64.wrap (a1 - (a0.length : Int))) 0) then
    (-1)
  else
    (IntKind.i64.wrap (a1 - (a0.length : Int)))
noncomputable def con_laws_szIntS : Con := ⟨I_laws_szIntS, U_laws_szIntS, fun x => (fun n => some ((n, ()), ())) (n_laws_szIntS x.1 x.2.1)⟩
theorem nn_laws_szIntS (a0 : List Int) (a1 : Int) : raw_laws_szIntS a0 a1 = (fun n => some ((n, ()), ())) (n_laws_szIntS a0 a1) := bif_ty (p := fun (n : Int) => ((n, ()), ())) (bif_some (p := fun (n : Int) => ((n, ()), ())) rfl rfl)
theorem ok_laws_szIntS : ConOk Try.prog 66 con_laws_szIntS := (ok0_laws_szIntS).mono (fun x r _ h => (nn_laws_szIntS x.1 x.2.1).trans h)
theorem szIntS_nn {a : List Int} {k : Int} (hk : 0 ≤ k) (hk2 : k ≤ 1048576) (ha : a.length ≤ 17592186044416) (h : ¬ n_laws_szIntS a k < 0) : (a.length : Int) ≤ k ∧ n_laws_szIntS a k = k - a.length := by
  unfold n_laws_szIntS at h ⊢
  rw [wr (by omega) (by omega)] at h ⊢
  by_cases h1 : k - (a.length : Int) < 0
  · rw [ltb_t h1] at h; exact absurd (show (-1 : Int) < 0 by omega) h
  · rw [ltb_f (Int.not_lt.1 h1)]; exact ⟨by omega, rfl⟩
end

/-! laws_szCmd -/
section
noncomputable def B_laws_szCmd : Code := (Try.f13.body).getD .skip
noncomputable def E_laws_szCmd : Env := envOf TT [(66, con_laws_szIntS)] []
theorem fr_laws_szCmd_0 : FrOk Try.prog ⟨E_laws_szCmd, 12, fun _ => none⟩ B_laws_szCmd := frOk_base mixed tt_ok ⟨ok_laws_szIntS, trivial⟩
noncomputable def D_laws_szCmd_0 : Nat → Option Seg := fun _ => none
abbrev I_laws_szCmd : List Par := [.rd tC, .rd tI]
abbrev U_laws_szCmd : List OT := [⟨false, tI, .fz⟩]
noncomputable def raw_laws_szCmd (a0 : Int × Int × Int × Int × (List Int)) (a1 : Int) : Option (ResD U_laws_szCmd × MutD I_laws_szCmd) :=
  let r1 := n_laws_szIntS a0.2.2.2.2 a1
  bif (ltb r1 0) then
    some (((-1), ()), ())
  else
    some ((r1, ()), ())
theorem e_laws_szCmd (x : InD I_laws_szCmd) : execF ⟨E_laws_szCmd, 12, D_laws_szCmd_0⟩ Try.f13.results.toList B_laws_szCmd I_laws_szCmd U_laws_szCmd x = raw_laws_szCmd x.1 x.2.1 := by kernel_rfl
theorem ok0_laws_szCmd : ConOk Try.prog 13 ⟨I_laws_szCmd, U_laws_szCmd, fun x => raw_laws_szCmd x.1 x.2.1⟩ := conOk_exec (fr_laws_szCmd_0) Try.func13 (by kernel_rfl) (by kernel_rfl) Try.ntmps13.symm (by decide) (fun x r h => (e_laws_szCmd x).trans h)
noncomputable def n_laws_szCmd (a0 : Int × Int × Int × Int × (List Int)) (a1 : Int) : Int :=
  let r1 := n_laws_szIntS a0.2.2.2.2 a1
  bif (ltb r1 0) then
    (-1)
  else
    r1
noncomputable def con_laws_szCmd : Con := ⟨I_laws_szCmd, U_laws_szCmd, fun x => (fun n => some ((n, ()), ())) (n_laws_szCmd x.1 x.2.1)⟩
theorem nn_laws_szCmd (a0 : Int × Int × Int × Int × (List Int)) (a1 : Int) : raw_laws_szCmd a0 a1 = (fun n => some ((n, ()), ())) (n_laws_szCmd a0 a1) := bif_ty (p := fun (n : Int) => ((n, ()), ())) (bif_some (p := fun (n : Int) => ((n, ()), ())) rfl rfl)
theorem ok_laws_szCmd : ConOk Try.prog 13 con_laws_szCmd := (ok0_laws_szCmd).mono (fun x r _ h => (nn_laws_szCmd x.1 x.2.1).trans h)
end

/-! laws_toGeo -/
section
noncomputable def B_laws_toGeo : Code := (Try.f15.body).getD .skip
noncomputable def E_laws_toGeo : Env := envOf TT [] []
theorem fr_laws_toGeo_0 : FrOk Try.prog ⟨E_laws_toGeo, 11, fun _ => none⟩ B_laws_toGeo := frOk_base mixed tt_ok trivial
noncomputable def D_laws_toGeo_0 : Nat → Option Seg := fun _ => none
abbrev I_laws_toGeo : List Par := [.rd tG]
abbrev U_laws_toGeo : List OT := [⟨false, tG, (.pr .fz .fz)⟩]
noncomputable def raw_laws_toGeo (a0 : Int × Int) : Option (ResD U_laws_toGeo × MutD I_laws_toGeo) :=
  some ((a0, ()), ())
theorem e_laws_toGeo (x : InD I_laws_toGeo) : execF ⟨E_laws_toGeo, 11, D_laws_toGeo_0⟩ Try.f15.results.toList B_laws_toGeo I_laws_toGeo U_laws_toGeo x = raw_laws_toGeo x.1 := by kernel_rfl
theorem ok0_laws_toGeo : ConOk Try.prog 15 ⟨I_laws_toGeo, U_laws_toGeo, fun x => raw_laws_toGeo x.1⟩ := conOk_exec (fr_laws_toGeo_0) Try.func15 (by kernel_rfl) (by kernel_rfl) Try.ntmps15.symm (by decide) (fun x r h => (e_laws_toGeo x).trans h)
noncomputable def n_laws_toGeo (a0 : Int × Int) : (Int × Int) :=
  a0
noncomputable def con_laws_toGeo : Con := ⟨I_laws_toGeo, U_laws_toGeo, fun x => (fun n => some ((n, ()), ())) (n_laws_toGeo x.1)⟩
theorem nn_laws_toGeo (a0 : Int × Int) : raw_laws_toGeo a0 = (fun n => some ((n, ()), ())) (n_laws_toGeo a0) := bif_ty (p := fun (n : (Int × Int)) => ((n, ()), ())) rfl
theorem ok_laws_toGeo : ConOk Try.prog 15 con_laws_toGeo := (ok0_laws_toGeo).mono (fun x r _ h => (nn_laws_toGeo x.1).trans h)
theorem id_laws_toGeo (a : Int × Int) : n_laws_toGeo a = a := by kernel_rfl
end

/-! laws_toIntS -/
section
noncomputable def B_laws_toIntS : Code := (Try.f22.body).getD .skip
noncomputable def E_laws_toIntS : Env := envOf TT [] []
theorem fr_laws_toIntS_0 : FrOk Try.prog ⟨E_laws_toIntS, 22, fun _ => none⟩ B_laws_toIntS := frOk_base mixed tt_ok trivial
noncomputable def D_laws_toIntS_0 : Nat → Option Seg := fun _ => none
def L_laws_toIntS_29 : Shape := ⟨[(0, false, [.br tI]), (3, false, [.at 800000000]), (4, false, [.int .i64])], [], [(800000000, tI, .fz)]⟩
def S_laws_toIntS_29 : Shape := ⟨[(0, false, [.br tI]), (3, false, [.at 800000000]), (4, false, [.ci .i64 0])], [], [(800000000, tI, .fz)]⟩
def O_laws_toIntS_29 : Shape := ⟨[(3, false, [.at 800000000])], [], [(800000000, tI, .fz)]⟩
def Z_laws_toIntS_29 : Shape := ⟨[], [], []⟩
noncomputable def st_laws_toIntS_29 (v0 : List Int) (v1 : Int) (v2 : List Int) : Option ((L_laws_toIntS_29).X ⊕ ((O_laws_toIntS_29).X ⊕ (Z_laws_toIntS_29).X)) :=
  bif (ltb v1 (v0.length : Int)) then
    bif (inb v1 v0.length) then
      bif (inb v1 v2.length) then
        some (.inl (((v0, ()), ((), ()), ((IntKind.i64.wrap (v1 + 1)), ()), ()), (), ((v2.set (v1).toNat (nth v0 v1 0)), ())))
      else none
    else none
  else
    some (.inr (.inl ((((), ()), ()), (), (v2, ()))))
noncomputable def stx_laws_toIntS_29 (x : (L_laws_toIntS_29).X) := st_laws_toIntS_29 x.1.1.1 x.1.2.2.1.1 x.2.2.1
def em_laws_toIntS_29 (x : (S_laws_toIntS_29).X) : (L_laws_toIntS_29).X := (((x.1.1.1, ()), ((), ()), (0, ()), ()), (), (x.2.2.1, ()))
noncomputable def c_laws_toIntS_29 : Code := (subN B_laws_toIntS 64 116).getD .skip
theorem a_laws_toIntS_29 : subN B_laws_toIntS 64 29 = some (.block 0 (.loop c_laws_toIntS_29)) := by kernel_rfl
theorem r_laws_toIntS_29 (x : (L_laws_toIntS_29).X) : roundT ⟨E_laws_toIntS, 22, D_laws_toIntS_0⟩ 0 c_laws_toIntS_29 116 L_laws_toIntS_29 O_laws_toIntS_29 Z_laws_toIntS_29 x = stx_laws_toIntS_29 x := by kernel_rfl
noncomputable def fu_laws_toIntS_29 (x : (S_laws_toIntS_29).X) : Nat := (fun (u0 : List Int) (u1 : List Int) => 18446744073709551616) x.1.1.1 x.2.2.1
noncomputable def F_laws_toIntS_29 (x : (S_laws_toIntS_29).X) : Option ((O_laws_toIntS_29).X ⊕ (Z_laws_toIntS_29).X) := loopN stx_laws_toIntS_29 (fu_laws_toIntS_29 x) (em_laws_toIntS_29 x)
noncomputable def sg_laws_toIntS_29 : Seg := ⟨S_laws_toIntS_29, O_laws_toIntS_29, Z_laws_toIntS_29, F_laws_toIntS_29⟩
noncomputable def D_laws_toIntS_1 : Nat → Option Seg := fun q => bif Nat.beq q 29 then some sg_laws_toIntS_29 else D_laws_toIntS_0 q
theorem fr_laws_toIntS_1 : FrOk Try.prog ⟨E_laws_toIntS, 22, D_laws_toIntS_1⟩ B_laws_toIntS := (fr_laws_toIntS_0).loop (sg := sg_laws_toIntS_29) L_laws_toIntS_29 em_laws_toIntS_29 (by decide) a_laws_toIntS_29 stx_laws_toIntS_29 fu_laws_toIntS_29 (by decide) (fun _ => rfl) (fun x r _ h => h) r_laws_toIntS_29
abbrev I_laws_toIntS : List Par := [.rd tL]
abbrev U_laws_toIntS : List OT := [⟨false, tL, (.ow .fz)⟩]
noncomputable def raw_laws_toIntS (a0 : List Int) : Option (ResD U_laws_toIntS × MutD I_laws_toIntS) :=
  bif (mkok (a0.length : Int) 8) then
    segM (F_laws_toIntS_29 (((a0, ()), ((), ()), ((), ()), ()), (), ((List.replicate ((a0.length : Int)).toNat (0 : Int)), ()))) (fun y0 =>
      some ((y0.2.2.1, ()), ())) (fun y0 =>
      none)
  else none
theorem e_laws_toIntS (x : InD I_laws_toIntS) : execF ⟨E_laws_toIntS, 22, D_laws_toIntS_1⟩ Try.f22.results.toList B_laws_toIntS I_laws_toIntS U_laws_toIntS x = raw_laws_toIntS x.1 := by kernel_rfl
theorem ok0_laws_toIntS : ConOk Try.prog 22 ⟨I_laws_toIntS, U_laws_toIntS, fun x => raw_laws_toIntS x.1⟩ := conOk_exec (fr_laws_toIntS_1) Try.func22 (by kernel_rfl) (by kernel_rfl) Try.ntmps22.symm (by decide) (fun x r h => (e_laws_toIntS x).trans h)
noncomputable def n_laws_toIntS (a0 : List Int) : List Int := a0
theorem nn_laws_toIntS (a0 : List Int) (hk : InOk I_laws_toIntS (a0, ())) : raw_laws_toIntS a0 = (fun n => some ((n, ()), ())) (n_laws_toIntS a0) := by
  have hb : a0.length * 8 ≤ 2 ^ 47 := hk.1.1
  have hs : ∀ i, i < a0.length → (a0.take i ++ List.replicate (a0.length - i) (0 : Int)).set i (a0.getD i 0) = a0.take (i + 1) ++ List.replicate (a0.length - (i + 1)) 0 := fun i hi => by
    have hl : (a0.take i).length = i := by rw [List.length_take]; omega
    rw [List.set_append_right _ _ (by rw [hl]; exact Nat.le_refl _), hl, Nat.sub_self, List.take_add_one, List.append_assoc, show a0.length - i = (a0.length - (i + 1)) + 1 by omega, List.replicate_succ]
    simp [hi]
  have hl : F_laws_toIntS_29 (((a0, ()), ((), ()), ((), ()), ()), (), ((a0.take 0 ++ List.replicate (a0.length - 0) 0), ())) = some (.inl ((((), ()), ()), (), (a0.take a0.length ++ List.replicate (a0.length - a0.length) 0, ()))) :=
    loopN_up (step := stx_laws_toIntS_29) (fun i => (((a0, ()), ((), ()), ((i : Int), ()), ()), (), (a0.take i ++ List.replicate (a0.length - i) 0, ()))) a0.length _ (fun i hi => by
      have hL : (a0.take i ++ List.replicate (a0.length - i) (0 : Int)).length = a0.length := by rw [List.length_append, List.length_take, List.length_replicate]; omega
      simp only [stx_laws_toIntS_29, st_laws_toIntS_29, hL, inb_nat hi, nth_nat, Int.toNat_natCast, ltb_t (show (i : Int) < a0.length by omega), cond_true, wr (show -9223372036854775808 ≤ (i : Int) + 1 by omega) (by omega), Int.natCast_add, Int.natCast_one, hs i hi]) (by
      simp only [stx_laws_toIntS_29, st_laws_toIntS_29, ltb_f (Int.le_refl _), cond_false]) _ (by show _ < 18446744073709551616; omega)
  unfold raw_laws_toIntS n_laws_toIntS
  rw [List.take_zero, List.nil_append, Nat.sub_zero] at hl
  rw [show mkok (a0.length : Int) 8 = true by rw [mkok_iff]; omega, bif_t, Int.toNat_natCast, hl]
  simp [segM]
noncomputable def con_laws_toIntS : Con := ⟨I_laws_toIntS, U_laws_toIntS, fun x => (fun n => some ((n, ()), ())) (n_laws_toIntS x.1)⟩
theorem ok_laws_toIntS : ConOk Try.prog 22 con_laws_toIntS := (ok0_laws_toIntS).mono (fun x r hk h => (nn_laws_toIntS x.1 hk).trans h)
theorem id_laws_toIntS (a : List Int) : n_laws_toIntS a = a := by kernel_rfl
end

/-! laws_toCmd -/
section
noncomputable def B_laws_toCmd : Code := (Try.f16.body).getD .skip
noncomputable def E_laws_toCmd : Env := envOf TT [(22, con_laws_toIntS)] []
theorem fr_laws_toCmd_0 : FrOk Try.prog ⟨E_laws_toCmd, 21, fun _ => none⟩ B_laws_toCmd := frOk_base mixed tt_ok ⟨ok_laws_toIntS, trivial⟩
noncomputable def D_laws_toCmd_0 : Nat → Option Seg := fun _ => none
abbrev I_laws_toCmd : List Par := [.rd tC]
abbrev U_laws_toCmd : List OT := [⟨false, tC, (.pr .fz (.pr .fz (.pr .fz (.pr .fz (.ow .fz)))))⟩]
noncomputable def raw_laws_toCmd (a0 : Int × Int × Int × Int × (List Int)) : Option (ResD U_laws_toCmd × MutD I_laws_toCmd) :=
  let r1 := n_laws_toIntS a0.2.2.2.2
  some (((a0.1, a0.2.1, a0.2.2.1, a0.2.2.2.1, r1), ()), ())
theorem e_laws_toCmd (x : InD I_laws_toCmd) : execF ⟨E_laws_toCmd, 21, D_laws_toCmd_0⟩ Try.f16.results.toList B_laws_toCmd I_laws_toCmd U_laws_toCmd x = raw_laws_toCmd x.1 := by kernel_rfl
theorem ok0_laws_toCmd : ConOk Try.prog 16 ⟨I_laws_toCmd, U_laws_toCmd, fun x => raw_laws_toCmd x.1⟩ := conOk_exec (fr_laws_toCmd_0) Try.func16 (by kernel_rfl) (by kernel_rfl) Try.ntmps16.symm (by decide) (fun x r h => (e_laws_toCmd x).trans h)
noncomputable def n_laws_toCmd (a0 : Int × Int × Int × Int × List Int) : Int × Int × Int × Int × List Int := a0
theorem nn_laws_toCmd (a0 : Int × Int × Int × Int × List Int) (hk : InOk I_laws_toCmd (a0, ())) : raw_laws_toCmd a0 = (fun n => some ((n, ()), ())) (n_laws_toCmd a0) := rfl
noncomputable def con_laws_toCmd : Con := ⟨I_laws_toCmd, U_laws_toCmd, fun x => (fun n => some ((n, ()), ())) (n_laws_toCmd x.1)⟩
theorem ok_laws_toCmd : ConOk Try.prog 16 con_laws_toCmd := (ok0_laws_toCmd).mono (fun x r hk h => (nn_laws_toCmd x.1 hk).trans h)
theorem id_laws_toCmd (a : Int × Int × Int × Int × (List Int)) : n_laws_toCmd a = a := by kernel_rfl
end

/-! laws_eqIntS -/
section
noncomputable def B_laws_eqIntS : Code := (Try.f24.body).getD .skip
noncomputable def E_laws_eqIntS : Env := envOf TT [] []
theorem fr_laws_eqIntS_0 : FrOk Try.prog ⟨E_laws_eqIntS, 26, fun _ => none⟩ B_laws_eqIntS := frOk_base mixed tt_ok trivial
noncomputable def D_laws_eqIntS_0 : Nat → Option Seg := fun _ => none
def L_laws_eqIntS_29 : Shape := ⟨[(0, false, [.br tI]), (1, false, [.br tI]), (5, false, [.int .i64])], [], []⟩
def S_laws_eqIntS_29 : Shape := ⟨[(0, false, [.br tI]), (1, false, [.br tI]), (5, false, [.ci .i64 0])], [], []⟩
def O_laws_eqIntS_29 : Shape := ⟨[], [], []⟩
def Z_laws_eqIntS_29 : Shape := ⟨[(4, false, [.bool])], [], []⟩
noncomputable def st_laws_eqIntS_29 (v0 : List Int) (v1 : List Int) (v2 : Int) : Option ((L_laws_eqIntS_29).X ⊕ ((O_laws_eqIntS_29).X ⊕ (Z_laws_eqIntS_29).X)) :=
  bif (ltb v2 (v0.length : Int)) then
    bif (inb v2 v0.length) then
      bif (inb v2 v1.length) then
        bif ((nth v0 v2 0) != (nth v1 v2 0)) then
          some (.inr (.inr (((false, ()), ()), (), ())))
        else
          some (.inl (((v0, ()), (v1, ()), ((IntKind.i64.wrap (v2 + 1)), ()), ()), (), ()))
      else none
    else none
  else
    some (.inr (.inl ((), (), ())))
noncomputable def stx_laws_eqIntS_29 (x : (L_laws_eqIntS_29).X) := st_laws_eqIntS_29 x.1.1.1 x.1.2.1.1 x.1.2.2.1.1
def em_laws_eqIntS_29 (x : (S_laws_eqIntS_29).X) : (L_laws_eqIntS_29).X := (((x.1.1.1, ()), (x.1.2.1.1, ()), (0, ()), ()), (), ())
noncomputable def c_laws_eqIntS_29 : Code := (subN B_laws_eqIntS 64 116).getD .skip
theorem a_laws_eqIntS_29 : subN B_laws_eqIntS 64 29 = some (.block 0 (.loop c_laws_eqIntS_29)) := by kernel_rfl
theorem r_laws_eqIntS_29 (x : (L_laws_eqIntS_29).X) : roundT ⟨E_laws_eqIntS, 26, D_laws_eqIntS_0⟩ 0 c_laws_eqIntS_29 116 L_laws_eqIntS_29 O_laws_eqIntS_29 Z_laws_eqIntS_29 x = stx_laws_eqIntS_29 x := by kernel_rfl
noncomputable def fu_laws_eqIntS_29 (x : (S_laws_eqIntS_29).X) : Nat := (fun (u0 : List Int) (u1 : List Int) => 18446744073709551616) x.1.1.1 x.1.2.1.1
noncomputable def F_laws_eqIntS_29 (x : (S_laws_eqIntS_29).X) : Option ((O_laws_eqIntS_29).X ⊕ (Z_laws_eqIntS_29).X) := loopN stx_laws_eqIntS_29 (fu_laws_eqIntS_29 x) (em_laws_eqIntS_29 x)
noncomputable def sg_laws_eqIntS_29 : Seg := ⟨S_laws_eqIntS_29, O_laws_eqIntS_29, Z_laws_eqIntS_29, F_laws_eqIntS_29⟩
noncomputable def D_laws_eqIntS_1 : Nat → Option Seg := fun q => bif Nat.beq q 29 then some sg_laws_eqIntS_29 else D_laws_eqIntS_0 q
theorem fr_laws_eqIntS_1 : FrOk Try.prog ⟨E_laws_eqIntS, 26, D_laws_eqIntS_1⟩ B_laws_eqIntS := (fr_laws_eqIntS_0).loop (sg := sg_laws_eqIntS_29) L_laws_eqIntS_29 em_laws_eqIntS_29 (by decide) a_laws_eqIntS_29 stx_laws_eqIntS_29 fu_laws_eqIntS_29 (by decide) (fun _ => rfl) (fun x r _ h => h) r_laws_eqIntS_29
abbrev I_laws_eqIntS : List Par := [.rd tL, .rd tL]
abbrev U_laws_eqIntS : List OT := [⟨false, tB, .fz⟩]
noncomputable def raw_laws_eqIntS (a0 : List Int) (a1 : List Int) : Option (ResD U_laws_eqIntS × MutD I_laws_eqIntS) :=
  bif ((a0.length : Int) != (a1.length : Int)) then
    some ((false, ()), ())
  else
    segM (F_laws_eqIntS_29 (((a0, ()), (a1, ()), ((), ()), ()), (), ())) (fun y0 =>
      some ((true, ()), ())) (fun y0 =>
      some ((y0.1.1.1, ()), ()))
theorem e_laws_eqIntS (x : InD I_laws_eqIntS) : execF ⟨E_laws_eqIntS, 26, D_laws_eqIntS_1⟩ Try.f24.results.toList B_laws_eqIntS I_laws_eqIntS U_laws_eqIntS x = raw_laws_eqIntS x.1 x.2.1 := by kernel_rfl
theorem ok0_laws_eqIntS : ConOk Try.prog 24 ⟨I_laws_eqIntS, U_laws_eqIntS, fun x => raw_laws_eqIntS x.1 x.2.1⟩ := conOk_exec (fr_laws_eqIntS_1) Try.func24 (by kernel_rfl) (by kernel_rfl) Try.ntmps24.symm (by decide) (fun x r h => (e_laws_eqIntS x).trans h)
noncomputable def n_laws_eqIntS (a0 a1 : List Int) : Bool := decide (a0 = a1)
theorem nn_laws_eqIntS (a0 a1 : List Int) (hk : InOk I_laws_eqIntS (a0, a1, ())) : raw_laws_eqIntS a0 a1 = (fun n => some ((n, ()), ())) (n_laws_eqIntS a0 a1) := by
  have hb : a0.length * 8 ≤ 2 ^ 47 := hk.1.1
  have hl : a0.length = a1.length → F_laws_eqIntS_29 (((a0, ()), (a1, ()), ((), ()), ()), (), ()) = some (bif (List.range a0.length).any (fun i => a0.getD i 0 != a1.getD i 0) then .inr (((false, ()), ()), (), ()) else .inl ((), (), ())) := fun hL =>
    loopN_all (step := stx_laws_eqIntS_29) (fun i => (((a0, ()), (a1, ()), ((i : Int), ()), ()), (), ())) a0.length (fun i => a0.getD i 0 != a1.getD i 0) _ _ (fun i hi => by
      simp only [stx_laws_eqIntS_29, st_laws_eqIntS_29, inb_nat hi, inb_nat (hL ▸ hi), nth_nat, ltb_t (show (i : Int) < a0.length by omega), cond_true, wr (show -9223372036854775808 ≤ (i : Int) + 1 by omega) (by omega), Int.natCast_add, Int.natCast_one]
      cases (a0.getD i 0 != a1.getD i 0) <;> rfl) (by simp only [stx_laws_eqIntS_29, st_laws_eqIntS_29, ltb_f (Int.le_refl _), cond_false]) _ (by show _ < 18446744073709551616; omega)
  unfold raw_laws_eqIntS n_laws_eqIntS
  by_cases h : a0.length = a1.length
  · rw [show ((a0.length : Int) != (a1.length : Int)) = false by simp [h], bif_f, hl h]
    by_cases e : a0 = a1
    · subst e
      have : (List.range a0.length).any (fun i => a0.getD i 0 != a0.getD i 0) = false := by simp
      rw [this, decide_eq_true rfl]
      rfl
    · have : (List.range a0.length).any (fun i => a0.getD i 0 != a1.getD i 0) = true := by
        rcases Bool.eq_false_or_eq_true ((List.range a0.length).any (fun i => a0.getD i 0 != a1.getD i 0)) with h2 | h2
        · exact h2
        · refine absurd (List.ext_getElem h fun i h3 h4 => ?_) e
          rw [List.any_eq_false] at h2
          have := h2 i (List.mem_range.2 h3)
          simpa [h3, h4] using this
      rw [this, decide_eq_false e]
      rfl
  · rw [show ((a0.length : Int) != (a1.length : Int)) = true from bne_iff_ne.2 (by omega), bif_t, decide_eq_false (fun e => h (congrArg _ e))]
theorem eqd_laws_eqIntS (a b : List Int) : n_laws_eqIntS a b = decide (a = b) := rfl
noncomputable def con_laws_eqIntS : Con := ⟨I_laws_eqIntS, U_laws_eqIntS, fun x => (fun n => some ((n, ()), ())) (n_laws_eqIntS x.1 x.2.1)⟩
theorem ok_laws_eqIntS : ConOk Try.prog 24 con_laws_eqIntS := (ok0_laws_eqIntS).mono (fun x r hk h => (nn_laws_eqIntS x.1 x.2.1 hk).trans h)
theorem eqr_laws_eqIntS (a : List Int) : n_laws_eqIntS a a = true := by rw [eqd_laws_eqIntS]; exact decide_eq_true rfl
end
end Go.Tf
