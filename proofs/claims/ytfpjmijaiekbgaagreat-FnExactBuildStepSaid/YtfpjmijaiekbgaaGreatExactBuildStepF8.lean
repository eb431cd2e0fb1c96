/- Functions of the program, and what they come to. -/
import Derived.Test.YtfpjmijaiekbgaaGreatExactBuildStepF7
namespace Go.Tf
open Go.Proofs
set_option synthInstance.maxHeartbeats 400000
set_option synthInstance.maxSize 10000
set_option linter.unusedVariables false
set_option linter.unusedSimpArgs false
set_option maxRecDepth 100000
/-! spec_l8May -/
section
noncomputable def B_spec_l8May : Code := (Tryz.f74.body).getD .skip
noncomputable def E_spec_l8May : Env := envOf TT [(82, con_spec_ArrOk)] []
theorem fr_spec_l8May_0 : FrOk Tryz.prog ⟨E_spec_l8May, 8, fun _ => none⟩ B_spec_l8May := frOk_base mixed tt_ok ⟨ok_spec_ArrOk, trivial⟩
noncomputable def D_spec_l8May_0 : Nat → Option Seg := fun _ => none
abbrev I_spec_l8May : List Par := [.rd tA]
abbrev U_spec_l8May : List OT := [⟨false, tI, .fz⟩]
noncomputable def raw_spec_l8May (a0 : dA) : Option (ResD U_spec_l8May × MutD I_spec_l8May) :=
  let r1 := n_spec_ArrOk a0
  bif (!r1) then
    some ((1, ()), ())
  else
    bif a0.2.2.2.2.2.2.2.2.2.2.1 then
      some ((6, ()), ())
    else
      some ((0, ()), ())
theorem e_spec_l8May (x : InD I_spec_l8May) : execF ⟨E_spec_l8May, 8, D_spec_l8May_0⟩ Tryz.f74.results.toList B_spec_l8May I_spec_l8May U_spec_l8May x = raw_spec_l8May x.1 := by kernel_rfl
theorem ok0_spec_l8May : ConOk Tryz.prog 74 ⟨I_spec_l8May, U_spec_l8May, fun x => raw_spec_l8May x.1⟩ := conOk_exec (fr_spec_l8May_0) Tryz.func74 (by kernel_rfl) (by kernel_rfl) Tryz.ntmps74.symm (by decide) (fun x r h => (e_spec_l8May x).trans h)
noncomputable def n_spec_l8May (a0 : dA) : Int :=
  let r1 := n_spec_ArrOk a0
  bif (!r1) then
    1
  else
    bif a0.2.2.2.2.2.2.2.2.2.2.1 then
      6
    else
      0
noncomputable def con_spec_l8May : Con := ⟨I_spec_l8May, U_spec_l8May, fun x => (fun n => some ((n, ()), ())) (n_spec_l8May x.1)⟩
theorem nn_spec_l8May (a0 : dA) : raw_spec_l8May a0 = (fun n => some ((n, ()), ())) (n_spec_l8May a0) := bif_ty (p := fun (n : Int) => ((n, ()), ())) (bif_some (p := fun (n : Int) => ((n, ()), ())) rfl (bif_some (p := fun (n : Int) => ((n, ()), ())) rfl rfl))
theorem ok_spec_l8May : ConOk Tryz.prog 74 con_spec_l8May := (ok0_spec_l8May).mono (fun x r _ h => (nn_spec_l8May x.1).trans h)
end

/-! spec_DataAt -/
section
noncomputable def B_spec_DataAt : Code := (Tryz.f150.body).getD .skip
noncomputable def E_spec_DataAt : Env := envOf TT [(98, con_spec_l1In)] []
theorem fr_spec_DataAt_0 : FrOk Tryz.prog ⟨E_spec_DataAt, 9, fun _ => none⟩ B_spec_DataAt := frOk_base mixed tt_ok ⟨ok_spec_l1In, trivial⟩
noncomputable def D_spec_DataAt_0 : Nat → Option Seg := fun _ => none
abbrev I_spec_DataAt : List Par := [.rd tI]
abbrev U_spec_DataAt : List OT := [⟨false, tI, .fz⟩]
noncomputable def raw_spec_DataAt (a0 : Int) : Option (ResD U_spec_DataAt × MutD I_spec_DataAt) :=
  let r1 := n_spec_l1In a0 0 1099511627776
  bif (!r1) then
    some (((-1), ()), ())
  else
    some (((IntKind.i64.wrap ((IntKind.i64.wrap (a0 + 2)) + 4)), ()), ())
theorem e_spec_DataAt (x : InD I_spec_DataAt) : execF ⟨E_spec_DataAt, 9, D_spec_DataAt_0⟩ Tryz.f150.results.toList B_spec_DataAt I_spec_DataAt U_spec_DataAt x = raw_spec_DataAt x.1 := by kernel_rfl
theorem ok0_spec_DataAt : ConOk Tryz.prog 150 ⟨I_spec_DataAt, U_spec_DataAt, fun x => raw_spec_DataAt x.1⟩ := conOk_exec (fr_spec_DataAt_0) Tryz.func150 (by kernel_rfl) (by kernel_rfl) Tryz.ntmps150.symm (by decide) (fun x r h => (e_spec_DataAt x).trans h)
noncomputable def n_spec_DataAt (a0 : Int) : Int :=
  let r1 := n_spec_l1In a0 0 1099511627776
  bif (!r1) then
    (-1)
  else
    (IntKind.i64.wrap ((IntKind.i64.wrap (a0 + 2)) + 4))
noncomputable def con_spec_DataAt : Con := ⟨I_spec_DataAt, U_spec_DataAt, fun x => (fun n => some ((n, ()), ())) (n_spec_DataAt x.1)⟩
theorem nn_spec_DataAt (a0 : Int) : raw_spec_DataAt a0 = (fun n => some ((n, ()), ())) (n_spec_DataAt a0) := bif_ty (p := fun (n : Int) => ((n, ()), ())) (bif_some (p := fun (n : Int) => ((n, ()), ())) rfl rfl)
theorem ok_spec_DataAt : ConOk Tryz.prog 150 con_spec_DataAt := (ok0_spec_DataAt).mono (fun x r _ h => (nn_spec_DataAt x.1).trans h)
theorem spec_dataAt_eq (s : Int) : n_spec_DataAt s = dataAt s := by
  unfold n_spec_DataAt dataAt
  rw [in_eq]
  by_cases h : 0 ≤ s ∧ s ≤ 1099511627776
  · rw [leb_t h.1, leb_t h.2, wr (show -9223372036854775808 ≤ s + 2 by omega) (by omega), wr (by omega) (by omega)]
    show s + 2 + 4 = s + 6
    omega
  · cases h1 : (leb 0 s && leb s 1099511627776)
    · rfl
    · rw [Bool.and_eq_true, leb_iff, leb_iff] at h1; exact absurd h1 h
end

/-! spec_l2Has -/
section
noncomputable def B_spec_l2Has : Code := (Tryz.f252.body).getD .skip
noncomputable def E_spec_l2Has : Env := envOf TT [] []
theorem fr_spec_l2Has_0 : FrOk Tryz.prog ⟨E_spec_l2Has, 18, fun _ => none⟩ B_spec_l2Has := frOk_base mixed tt_ok trivial
noncomputable def D_spec_l2Has_0 : Nat → Option Seg := fun _ => none
def L_spec_l2Has_13 : Shape := ⟨[(0, false, [.br tI]), (1, false, [.int .i64]), (5, false, [.int .i64])], [], []⟩
def S_spec_l2Has_13 : Shape := ⟨[(0, false, [.br tI]), (1, false, [.int .i64]), (5, false, [.ci .i64 0])], [], []⟩
def O_spec_l2Has_13 : Shape := ⟨[], [], []⟩
def Z_spec_l2Has_13 : Shape := ⟨[(4, false, [.bool])], [], []⟩
abbrev mk_spec_l2Has_13 (v0 : List Int) (v1 : Int) (v2 : Int) : (L_spec_l2Has_13).X := (((v0, ()), (v1, ()), (v2, ()), ()), (), ())
abbrev ms_spec_l2Has_13 (v0 : List Int) (v1 : Int) : (S_spec_l2Has_13).X := (((v0, ()), (v1, ()), ((), ()), ()), (), ())
abbrev mo_spec_l2Has_13  : (O_spec_l2Has_13).X := ((), (), ())
abbrev mz_spec_l2Has_13 (v0 : Bool) : (Z_spec_l2Has_13).X := (((v0, ()), ()), (), ())
noncomputable def st_spec_l2Has_13 (v0 : List Int) (v1 : Int) (v2 : Int) : Option ((L_spec_l2Has_13).X ⊕ ((O_spec_l2Has_13).X ⊕ (Z_spec_l2Has_13).X)) :=
  bif (ltb v2 (v0.length : Int)) then
    bif (inb v2 v0.length) then
      bif ((nth v0 v2 0) == v1) then
        some (.inr (.inr (((true, ()), ()), (), ())))
      else
        some (.inl (((v0, ()), (v1, ()), ((IntKind.i64.wrap (v2 + 1)), ()), ()), (), ()))
    else none
  else
    some (.inr (.inl ((), (), ())))
noncomputable def stx_spec_l2Has_13 (x : (L_spec_l2Has_13).X) := st_spec_l2Has_13 x.1.1.1 x.1.2.1.1 x.1.2.2.1.1
def em_spec_l2Has_13 (x : (S_spec_l2Has_13).X) : (L_spec_l2Has_13).X := (((x.1.1.1, ()), (x.1.2.1.1, ()), (0, ()), ()), (), ())
noncomputable def c_spec_l2Has_13 : Code := (subN B_spec_l2Has 64 52).getD .skip
theorem a_spec_l2Has_13 : subN B_spec_l2Has 64 13 = some (.block 0 (.loop c_spec_l2Has_13)) := by kernel_rfl
theorem r_spec_l2Has_13 (x : (L_spec_l2Has_13).X) : roundT ⟨E_spec_l2Has, 18, D_spec_l2Has_0⟩ 0 c_spec_l2Has_13 52 L_spec_l2Has_13 O_spec_l2Has_13 Z_spec_l2Has_13 x = stx_spec_l2Has_13 x := by kernel_rfl
noncomputable def fu_spec_l2Has_13 (x : (S_spec_l2Has_13).X) : Nat := (fun (u0 : List Int) (u1 : Int) => 18446744073709551616) x.1.1.1 x.1.2.1.1
noncomputable def F_spec_l2Has_13 (x : (S_spec_l2Has_13).X) : Option ((O_spec_l2Has_13).X ⊕ (Z_spec_l2Has_13).X) := loopN stx_spec_l2Has_13 (fu_spec_l2Has_13 x) (em_spec_l2Has_13 x)
noncomputable def sg_spec_l2Has_13 : Seg := ⟨S_spec_l2Has_13, O_spec_l2Has_13, Z_spec_l2Has_13, F_spec_l2Has_13⟩
noncomputable def D_spec_l2Has_1 : Nat → Option Seg := fun q => bif Nat.beq q 13 then some sg_spec_l2Has_13 else D_spec_l2Has_0 q
theorem fr_spec_l2Has_1 : FrOk Tryz.prog ⟨E_spec_l2Has, 18, D_spec_l2Has_1⟩ B_spec_l2Has := (fr_spec_l2Has_0).loop (sg := sg_spec_l2Has_13) L_spec_l2Has_13 em_spec_l2Has_13 (by decide) a_spec_l2Has_13 stx_spec_l2Has_13 fu_spec_l2Has_13 (by decide) (fun _ => rfl) (fun x r _ h => h) r_spec_l2Has_13
abbrev I_spec_l2Has : List Par := [.rd tL, .rd tI]
abbrev U_spec_l2Has : List OT := [⟨false, tB, .fz⟩]
noncomputable def raw_spec_l2Has (a0 : List Int) (a1 : Int) : Option (ResD U_spec_l2Has × MutD I_spec_l2Has) :=
  segM (F_spec_l2Has_13 (((a0, ()), (a1, ()), ((), ()), ()), (), ())) (fun y0 =>
    some ((false, ()), ())) (fun y0 =>
    some ((y0.1.1.1, ()), ()))
theorem e_spec_l2Has (x : InD I_spec_l2Has) : execF ⟨E_spec_l2Has, 18, D_spec_l2Has_1⟩ Tryz.f252.results.toList B_spec_l2Has I_spec_l2Has U_spec_l2Has x = raw_spec_l2Has x.1 x.2.1 := by kernel_rfl
theorem ok0_spec_l2Has : ConOk Tryz.prog 252 ⟨I_spec_l2Has, U_spec_l2Has, fun x => raw_spec_l2Has x.1 x.2.1⟩ := conOk_exec (fr_spec_l2Has_1) Tryz.func252 (by kernel_rfl) (by kernel_rfl) Tryz.ntmps252.symm (by decide) (fun x r h => (e_spec_l2Has x).trans h)
noncomputable def n_spec_l2Has (a0 : List Int) (a1 : Int) : Bool := a0.any (· == a1)
theorem nn_spec_l2Has (a0 : List Int) (a1 : Int) (hk : InOk I_spec_l2Has (a0, a1, ())) : raw_spec_l2Has a0 a1 = (fun n => some ((n, ()), ())) (n_spec_l2Has a0 a1) := by
  have hb : a0.length * 8 ≤ 2 ^ 47 := hk.1.1
  have h1 : F_spec_l2Has_13 (ms_spec_l2Has_13 a0 a1) = some (bif a0.all (· != a1) then .inl mo_spec_l2Has_13 else .inr (mz_spec_l2Has_13 true)) :=
    loopN_list_all (step := stx_spec_l2Has_13) a0 0 (fun i => mk_spec_l2Has_13 a0 a1 i) (· != a1) _ _ (fun i hi => by
      simp only [stx_spec_l2Has_13, mk_spec_l2Has_13, st_spec_l2Has_13, ltb_t (show (i : Int) < a0.length by omega), cond_true, wr (show -9223372036854775808 ≤ (i : Int) + 1 by omega) (by omega), Int.natCast_add, Int.natCast_one, Int.toNat_natCast, inb_nat hi, nth_nat, bne]
      cases (a0.getD i 0 == a1) <;> rfl) (by simp only [stx_spec_l2Has_13, mk_spec_l2Has_13, st_spec_l2Has_13, ltb_f (Int.le_refl _), cond_false]) _ (by show _ < 18446744073709551616; omega)
  unfold raw_spec_l2Has n_spec_l2Has
  rw [h1, show a0.any (· == a1) = !(a0.all (· != a1)) by simp [List.all_eq_not_any_not, bne]]
  cases a0.all (· != a1) <;> rfl
noncomputable def con_spec_l2Has : Con := ⟨I_spec_l2Has, U_spec_l2Has, fun x => (fun n => some ((n, ()), ())) (n_spec_l2Has x.1 x.2.1)⟩
theorem ok_spec_l2Has : ConOk Tryz.prog 252 con_spec_l2Has := (ok0_spec_l2Has).mono (fun x r hk h => (nn_spec_l2Has x.1 x.2.1 hk).trans h)
end

/-! spec_ReadSec -/
section
noncomputable def B_spec_ReadSec : Code := (Tryz.f220.body).getD .skip
noncomputable def E_spec_ReadSec : Env := envOf TT [(98, con_spec_l1In), (218, con_spec_MemOk), (252, con_spec_l2Has)] []
theorem fr_spec_ReadSec_0 : FrOk Tryz.prog ⟨E_spec_ReadSec, 60, fun _ => none⟩ B_spec_ReadSec := frOk_base mixed tt_ok ⟨ok_spec_l1In, ok_spec_MemOk, ok_spec_l2Has, trivial⟩
noncomputable def D_spec_ReadSec_0 : Nat → Option Seg := fun _ => none
def L_spec_ReadSec_61 : Shape := ⟨[(1, false, [.int .i64]), (2, false, [.ptr 0 0]), (6, false, [.br tI]), (7, false, [.int .i64])], [(0, [.br tL, .br tW, .bool, .br tI])], []⟩
def S_spec_ReadSec_61 : Shape := ⟨[(1, false, [.int .i64]), (2, false, [.ptr 0 0]), (6, false, [.br tI]), (7, false, [.ci .i64 0])], [(0, [.br tL, .br tW, .bool, .br tI])], []⟩
def O_spec_ReadSec_61 : Shape := ⟨[(6, false, [.br tI])], [], []⟩
def Z_spec_ReadSec_61 : Shape := ⟨[], [], []⟩
abbrev mk_spec_ReadSec_61 (v0 : Int) (v1 : List Int) (v2 : Int) (v3 : dM) : (L_spec_ReadSec_61).X := (((v0, ()), ((), ()), (v1, ()), (v2, ()), ()), ((v3.1, v3.2.1, v3.2.2.1, v3.2.2.2, ()), ()), ())
abbrev ms_spec_ReadSec_61 (v0 : Int) (v1 : List Int) (v2 : dM) : (S_spec_ReadSec_61).X := (((v0, ()), ((), ()), (v1, ()), ((), ()), ()), ((v2.1, v2.2.1, v2.2.2.1, v2.2.2.2, ()), ()), ())
abbrev mo_spec_ReadSec_61 (v0 : List Int) : (O_spec_ReadSec_61).X := (((v0, ()), ()), (), ())
noncomputable def st_spec_ReadSec_61 (v0 : Int) (v1 : List Int) (v2 : Int) (v3 : List (List Int)) (v4 : List dW) (v5 : Bool) (v6 : List Int) : Option ((L_spec_ReadSec_61).X ⊕ ((O_spec_ReadSec_61).X ⊕ (Z_spec_ReadSec_61).X)) :=
  bif (ltb v2 (v4.length : Int)) then
    bif (inb v2 v4.length) then
      bif ((nth v4 v2 (0, [])).1 == v0) then
        bif (inb v2 v4.length) then
          some (.inl (((v0, ()), ((), ()), ((nth v4 v2 (0, [])).2, ()), ((IntKind.i64.wrap (v2 + 1)), ()), ()), ((v3, v4, v5, v6, ()), ()), ()))
        else none
      else
        some (.inl (((v0, ()), ((), ()), (v1, ()), ((IntKind.i64.wrap (v2 + 1)), ()), ()), ((v3, v4, v5, v6, ()), ()), ()))
    else none
  else
    some (.inr (.inl (((v1, ()), ()), (), ())))
noncomputable def stx_spec_ReadSec_61 (x : (L_spec_ReadSec_61).X) := st_spec_ReadSec_61 x.1.1.1 x.1.2.2.1.1 x.1.2.2.2.1.1 x.2.1.1.1 x.2.1.1.2.1 x.2.1.1.2.2.1 x.2.1.1.2.2.2.1
def em_spec_ReadSec_61 (x : (S_spec_ReadSec_61).X) : (L_spec_ReadSec_61).X := (((x.1.1.1, ()), ((), ()), (x.1.2.2.1.1, ()), (0, ()), ()), ((x.2.1.1.1, x.2.1.1.2.1, x.2.1.1.2.2.1, x.2.1.1.2.2.2.1, ()), ()), ())
noncomputable def c_spec_ReadSec_61 : Code := (subN B_spec_ReadSec 64 244).getD .skip
theorem a_spec_ReadSec_61 : subN B_spec_ReadSec 64 61 = some (.block 0 (.loop c_spec_ReadSec_61)) := by kernel_rfl
theorem r_spec_ReadSec_61 (x : (L_spec_ReadSec_61).X) : roundT ⟨E_spec_ReadSec, 60, D_spec_ReadSec_0⟩ 0 c_spec_ReadSec_61 244 L_spec_ReadSec_61 O_spec_ReadSec_61 Z_spec_ReadSec_61 x = stx_spec_ReadSec_61 x := by kernel_rfl
noncomputable def fu_spec_ReadSec_61 (x : (S_spec_ReadSec_61).X) : Nat := (fun (u0 : Int) (u1 : List Int) (u2 : List (List Int)) (u3 : List dW) (u4 : Bool) (u5 : List Int) => 18446744073709551616) x.1.1.1 x.1.2.2.1.1 x.2.1.1.1 x.2.1.1.2.1 x.2.1.1.2.2.1 x.2.1.1.2.2.2.1
noncomputable def F_spec_ReadSec_61 (x : (S_spec_ReadSec_61).X) : Option ((O_spec_ReadSec_61).X ⊕ (Z_spec_ReadSec_61).X) := loopN stx_spec_ReadSec_61 (fu_spec_ReadSec_61 x) (em_spec_ReadSec_61 x)
noncomputable def sg_spec_ReadSec_61 : Seg := ⟨S_spec_ReadSec_61, O_spec_ReadSec_61, Z_spec_ReadSec_61, F_spec_ReadSec_61⟩
noncomputable def D_spec_ReadSec_1 : Nat → Option Seg := fun q => bif Nat.beq q 61 then some sg_spec_ReadSec_61 else D_spec_ReadSec_0 q
theorem fr_spec_ReadSec_1 : FrOk Tryz.prog ⟨E_spec_ReadSec, 60, D_spec_ReadSec_1⟩ B_spec_ReadSec := (fr_spec_ReadSec_0).loop (sg := sg_spec_ReadSec_61) L_spec_ReadSec_61 em_spec_ReadSec_61 (by decide) a_spec_ReadSec_61 stx_spec_ReadSec_61 fu_spec_ReadSec_61 (by decide) (fun _ => rfl) (fun x r _ h => h) r_spec_ReadSec_61
abbrev I_spec_ReadSec : List Par := [.rd tM, .rd tI]
abbrev U_spec_ReadSec : List OT := [⟨false, tL, (.ow .fz)⟩, ⟨false, tB, .fz⟩]
noncomputable def raw_spec_ReadSec (a0 : dM) (a1 : Int) : Option (ResD U_spec_ReadSec × MutD I_spec_ReadSec) :=
  let r1 := n_spec_MemOk a0
  bif (!(!r1)) then
    bif (!a0.2.2.1) then
      let r2 := n_spec_l1In a1 0 (IntKind.i64.wrap ((a0.1.length : Int) - 1))
      bif (!(!r2)) then
        let r3 := n_spec_l2Has a0.2.2.2 a1
        bif r3 then
          some ((([] : List Int), false, ()), ())
        else
          bif (inb a1 a0.1.length) then
            segM (F_spec_ReadSec_61 (((a1, ()), ((), ()), ((nth a0.1 a1 []), ()), ((), ()), ()), ((a0.1, a0.2.1, a0.2.2.1, a0.2.2.2, ()), ()), ())) (fun y3 =>
              bif (apok ([] : List Int).length y3.1.1.1.length 8) then
                some (((([] : List Int) ++ y3.1.1.1), true, ()), ())
              else none) (fun y3 =>
              none)
          else none
      else
        some ((([] : List Int), false, ()), ())
    else
      some ((([] : List Int), false, ()), ())
  else
    some ((([] : List Int), false, ()), ())
theorem e_spec_ReadSec (x : InD I_spec_ReadSec) : execF ⟨E_spec_ReadSec, 60, D_spec_ReadSec_1⟩ Tryz.f220.results.toList B_spec_ReadSec I_spec_ReadSec U_spec_ReadSec x = raw_spec_ReadSec x.1 x.2.1 := by kernel_rfl
theorem ok0_spec_ReadSec : ConOk Tryz.prog 220 ⟨I_spec_ReadSec, U_spec_ReadSec, fun x => raw_spec_ReadSec x.1 x.2.1⟩ := conOk_exec (fr_spec_ReadSec_1) Tryz.func220 (by kernel_rfl) (by kernel_rfl) Tryz.ntmps220.symm (by decide) (fun x r h => (e_spec_ReadSec x).trans h)
noncomputable def n_spec_ReadSec (a0 : dM) (a1 : Int) : List Int × Bool := readSec a0 a1
theorem nn_spec_ReadSec (a0 : dM) (a1 : Int) (hk : InOk I_spec_ReadSec (a0, a1, ())) : raw_spec_ReadSec a0 a1 = (fun n => some ((n.1, n.2, ()), ())) (n_spec_ReadSec a0 a1) := by
  have hb1 : a0.1.length * 24 ≤ 2 ^ 47 := hk.1.1.1
  have hb2 : a0.2.1.length * 32 ≤ 2 ^ 47 := hk.1.2.1.1
  have h1 : ∀ s, F_spec_ReadSec_61 (ms_spec_ReadSec_61 a1 s a0) = some (.inl (mo_spec_ReadSec_61 (newest a1 a0.2.1 s))) := fun s =>
    loopN_fold (step := stx_spec_ReadSec_61) a0.2.1 (0, []) (fun i s => mk_spec_ReadSec_61 a1 s i a0) (fun s w => bif w.1 == a1 then w.2 else s) (fun _ _ => True) (fun s => .inl (mo_spec_ReadSec_61 s)) (fun i s hi _ => ⟨by
      simp only [stx_spec_ReadSec_61, mk_spec_ReadSec_61, st_spec_ReadSec_61, ltb_t (show (i : Int) < a0.2.1.length by omega), cond_true, wr (show -9223372036854775808 ≤ (i : Int) + 1 by omega) (by omega), Int.natCast_add, Int.natCast_one, Int.toNat_natCast, inb_nat hi, nth_nat]
      cases ((a0.2.1.getD i (0, [])).1 == a1) <;> rfl, trivial⟩) (fun s _ => by simp only [stx_spec_ReadSec_61, mk_spec_ReadSec_61, st_spec_ReadSec_61, ltb_f (Int.le_refl _), cond_false]) s trivial _ (by show _ < 18446744073709551616; omega)
  unfold raw_spec_ReadSec n_spec_ReadSec readSec canRead
  rw [in_len (show a0.1.length ≤ 1152921504606846976 by omega)]
  unfold n_spec_MemOk n_spec_l2Has
  simp only [h1, segM_inl, List.nil_append]
  cases memOk a0
  · rfl
  cases a0.2.2.1
  · cases hi : inb a1 a0.1.length
    · rfl
    · cases a0.2.2.2.any (· == a1)
      · have hs : (newest a1 a0.2.1 (nth a0.1 a1 [])).length * 8 ≤ 2 ^ 47 :=
          newest_ind (P := fun s => s.length * 8 ≤ 2 ^ 47) (nth_mem (P := fun s : List Int => s.length * 8 ≤ 2 ^ 47) hi fun x hx => (hk.1.1.2 x hx).1) fun w hw => (hk.1.2.1.2 w hw).2.1
        simp only [Bool.not_true, Bool.not_false, cond_true, cond_false, Bool.true_and, show apok ([] : List Int).length (newest a1 a0.2.1 (nth a0.1 a1 [])).length 8 = true from apok_iff.2 (by rw [List.length_nil]; omega)]
      · rfl
  · rfl
noncomputable def con_spec_ReadSec : Con := ⟨I_spec_ReadSec, U_spec_ReadSec, fun x => (fun n => some ((n.1, n.2, ()), ())) (n_spec_ReadSec x.1 x.2.1)⟩
theorem ok_spec_ReadSec : ConOk Tryz.prog 220 con_spec_ReadSec := (ok0_spec_ReadSec).mono (fun x r hk h => (nn_spec_ReadSec x.1 x.2.1 hk).trans h)
end

/-! spec_LiveAt -/
section
noncomputable def B_spec_LiveAt : Code := (Tryz.f227.body).getD .skip
noncomputable def E_spec_LiveAt : Env := envOf TT [(98, con_spec_l1In)] []
theorem fr_spec_LiveAt_0 : FrOk Tryz.prog ⟨E_spec_LiveAt, 34, fun _ => none⟩ B_spec_LiveAt := frOk_base mixed tt_ok ⟨ok_spec_l1In, trivial⟩
noncomputable def D_spec_LiveAt_0 : Nat → Option Seg := fun _ => none
abbrev I_spec_LiveAt : List Par := [.rd tA, .rd tI, .rd tI]
abbrev U_spec_LiveAt : List OT := [⟨false, tB, .fz⟩]
noncomputable def raw_spec_LiveAt (a0 : dA) (a1 : Int) (a2 : Int) : Option (ResD U_spec_LiveAt × MutD I_spec_LiveAt) :=
  let r1 := n_spec_l1In a1 0 (IntKind.i64.wrap ((a0.2.2.1.length : Int) - 1))
  bif r1 then
    bif (inb a1 a0.2.2.1.length) then
      bif (!((((nth a0.2.2.1 a1 ([], [], false, [])).2).2).1)) then
        bif (!(a1 != a0.2.2.2.1)) then
          some (((ltb a2 a0.2.2.2.2.1), ()), ())
        else
          some ((true, ()), ())
      else
        some ((false, ()), ())
    else none
  else
    some ((false, ()), ())
theorem e_spec_LiveAt (x : InD I_spec_LiveAt) : execF ⟨E_spec_LiveAt, 34, D_spec_LiveAt_0⟩ Tryz.f227.results.toList B_spec_LiveAt I_spec_LiveAt U_spec_LiveAt x = raw_spec_LiveAt x.1 x.2.1 x.2.2.1 := by kernel_rfl
theorem ok0_spec_LiveAt : ConOk Tryz.prog 227 ⟨I_spec_LiveAt, U_spec_LiveAt, fun x => raw_spec_LiveAt x.1 x.2.1 x.2.2.1⟩ := conOk_exec (fr_spec_LiveAt_0) Tryz.func227 (by kernel_rfl) (by kernel_rfl) Tryz.ntmps227.symm (by decide) (fun x r h => (e_spec_LiveAt x).trans h)
noncomputable def n_spec_LiveAt (a0 : dA) (a1 a2 : Int) : Bool := liveAt a0 a1 a2
theorem nn_spec_LiveAt (a0 : dA) (a1 a2 : Int) (hk : InOk I_spec_LiveAt (a0, a1, a2, ())) : raw_spec_LiveAt a0 a1 a2 = (fun n => some ((n, ()), ())) (n_spec_LiveAt a0 a1 a2) := by
  have hb : a0.2.2.1.length * 80 ≤ 2 ^ 47 := hk.1.2.2.1.1
  unfold raw_spec_LiveAt n_spec_LiveAt liveAt noMem
  rw [in_len (show a0.2.2.1.length ≤ 1152921504606846976 by omega)]
  cases inb a1 a0.2.2.1.length
  · rfl
  · cases (nth a0.2.2.1 a1 ([], [], false, [])).2.2.1 <;> cases (a1 != a0.2.2.2.1) <;> rfl
noncomputable def con_spec_LiveAt : Con := ⟨I_spec_LiveAt, U_spec_LiveAt, fun x => (fun n => some ((n, ()), ())) (n_spec_LiveAt x.1 x.2.1 x.2.2.1)⟩
theorem ok_spec_LiveAt : ConOk Tryz.prog 227 con_spec_LiveAt := (ok0_spec_LiveAt).mono (fun x r hk h => (nn_spec_LiveAt x.1 x.2.1 x.2.2.1 hk).trans h)
end

/-! spec_l6Word -/
section
noncomputable def B_spec_l6Word : Code := (Tryz.f210.body).getD .skip
noncomputable def E_spec_l6Word : Env := envOf TT [(150, con_spec_DataAt), (220, con_spec_ReadSec), (227, con_spec_LiveAt)] []
theorem fr_spec_l6Word_0 : FrOk Tryz.prog ⟨E_spec_l6Word, 36, fun _ => none⟩ B_spec_l6Word := frOk_base mixed tt_ok ⟨ok_spec_DataAt, ok_spec_ReadSec, ok_spec_LiveAt, trivial⟩
noncomputable def D_spec_l6Word_0 : Nat → Option Seg := fun _ => none
abbrev I_spec_l6Word : List Par := [.rd tA, .rd tI, .rd tI]
abbrev U_spec_l6Word : List OT := [⟨false, tI, .fz⟩, ⟨false, tB, .fz⟩]
noncomputable def raw_spec_l6Word (a0 : dA) (a1 : Int) (a2 : Int) : Option (ResD U_spec_l6Word × MutD I_spec_l6Word) :=
  let r1 := n_spec_LiveAt a0 a1 a2
  bif (!r1) then
    some ((0, false, ()), ())
  else
    bif (inb a1 a0.2.2.1.length) then
      let r2 := n_spec_DataAt a2
      let r3 := n_spec_ReadSec ((nth a0.2.2.1 a1 ([], [], false, [])).1, ((nth a0.2.2.1 a1 ([], [], false, [])).2).1, (((nth a0.2.2.1 a1 ([], [], false, [])).2).2)) r2
      bif (!(!r3.2)) then
        bif ((r3.1.length : Int) != 1) then
          some ((0, false, ()), ())
        else
          bif (inb 0 r3.1.length) then
            some (((nth r3.1 0 0), true, ()), ())
          else none
      else
        some ((0, false, ()), ())
    else none
theorem e_spec_l6Word (x : InD I_spec_l6Word) : execF ⟨E_spec_l6Word, 36, D_spec_l6Word_0⟩ Tryz.f210.results.toList B_spec_l6Word I_spec_l6Word U_spec_l6Word x = raw_spec_l6Word x.1 x.2.1 x.2.2.1 := by kernel_rfl
theorem ok0_spec_l6Word : ConOk Tryz.prog 210 ⟨I_spec_l6Word, U_spec_l6Word, fun x => raw_spec_l6Word x.1 x.2.1 x.2.2.1⟩ := conOk_exec (fr_spec_l6Word_0) Tryz.func210 (by kernel_rfl) (by kernel_rfl) Tryz.ntmps210.symm (by decide) (fun x r h => (e_spec_l6Word x).trans h)
noncomputable def n_spec_l6Word (a0 : dA) (a1 a2 : Int) : Int × Bool := (word a0 a1 a2, wordOk a0 a1 a2)
theorem nn_spec_l6Word (a0 : dA) (a1 a2 : Int) (hk : InOk I_spec_l6Word (a0, a1, a2, ())) : raw_spec_l6Word a0 a1 a2 = (fun n => some ((n.1, n.2, ()), ())) (n_spec_l6Word a0 a1 a2) := by
  unfold raw_spec_l6Word n_spec_l6Word word n_spec_LiveAt
  simp only [pr_eta, spec_dataAt_eq, n_spec_ReadSec]
  rw [show wordOk a0 a1 a2 = (liveAt a0 a1 a2 && ((wordSec a0 a1 a2).2 && ((wordSec a0 a1 a2).1.length : Int) == 1)) from rfl]
  rw [show readSec (nth a0.2.2.1 a1 ([], [], false, [])) (dataAt a2) = wordSec a0 a1 a2 from rfl]
  cases hl : liveAt a0 a1 a2
  · rfl
  · rw [show inb a1 a0.2.2.1.length = true by unfold liveAt at hl; exact (Bool.and_eq_true_iff.1 hl).1]
    cases (wordSec a0 a1 a2).2
    · rfl
    · rw [bne]
      cases h1 : (((wordSec a0 a1 a2).1.length : Int) == 1)
      · rfl
      · rw [show inb 0 (wordSec a0 a1 a2).1.length = true from inb_iff.2 (by have := beq_iff_eq.1 h1; omega)]; rfl
noncomputable def con_spec_l6Word : Con := ⟨I_spec_l6Word, U_spec_l6Word, fun x => (fun n => some ((n.1, n.2, ()), ())) (n_spec_l6Word x.1 x.2.1 x.2.2.1)⟩
theorem ok_spec_l6Word : ConOk Tryz.prog 210 con_spec_l6Word := (ok0_spec_l6Word).mono (fun x r hk h => (nn_spec_l6Word x.1 x.2.1 x.2.2.1 hk).trans h)
end
end Go.Tf
