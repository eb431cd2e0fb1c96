/- Functions of the program, and what they come to. -/
import Derived.Test.YtfpjmijaiekbgaaGreatExactBuildStepF15
namespace Go.Tf
open Go.Proofs
set_option synthInstance.maxHeartbeats 400000
set_option synthInstance.maxSize 10000
set_option linter.unusedVariables false
set_option linter.unusedSimpArgs false
set_option maxRecDepth 100000
/-! impl_BuildStep -/
section
noncomputable def B_impl_BuildStep : Code := (Tryz.f23.body).getD .skip
noncomputable def E_impl_BuildStep : Env := envOf TT [(51, con_impl_ArrOk), (76, con_impl_copyArr), (77, con_impl_Words), (78, con_impl_Arr_write), (79, con_impl_DataAt)] []
theorem fr_impl_BuildStep_0 : FrOk Tryz.prog ⟨E_impl_BuildStep, 73, fun _ => none⟩ B_impl_BuildStep := frOk_base mixed tt_ok ⟨ok_impl_ArrOk, ok_impl_copyArr, ok_impl_Words, ok_impl_Arr_write, ok_impl_DataAt, trivial⟩
noncomputable def D_impl_BuildStep_0 : Nat → Option Seg := fun _ => none
abbrev I_impl_BuildStep : List Par := [.rd tA]
abbrev U_impl_BuildStep : List OT := [⟨false, tA, (.pr .fz (.pr (.pr .fz .fz) (.pr (.ow (.pr (.ow (.ow .fz)) (.pr (.ow (.pr .fz (.ow .fz))) (.pr .fz (.ow .fz))))) (.pr .fz (.pr .fz (.pr .fz (.pr .fz (.pr .fz (.pr (.ow (.pr .fz (.ow .fz))) (.pr .fz (.pr .fz .fz)))))))))))⟩, ⟨false, tI, .fz⟩]
noncomputable def raw_impl_BuildStep (a0 : dA) : Option (ResD U_impl_BuildStep × MutD I_impl_BuildStep) :=
  let r1 := n_impl_copyArr a0
  let r2 := n_impl_ArrOk a0
  bif (!r2) then
    some ((r1, 1, ()), ())
  else
    bif a0.2.2.2.2.2.2.2.2.2.2.1 then
      some ((r1, 6, ()), ())
    else
      bif (!(a0.2.2.2.1 == (-1))) then
        bif (inb a0.2.2.2.1 a0.2.2.1.length) then
          bif (!((((nth a0.2.2.1 a0.2.2.2.1 ([], [], false, [])).2).2).1)) then
            bif (a0.2.2.2.2.1 == a0.2.1.2) then
              some ((r1, 2, ()), ())
            else
              let r3 := n_impl_Words a0 a0.2.2.2.2.1
              bif (!(!r3.2)) then
                bif a0.2.2.2.2.2.2.2.2.2.2.2 then
                  some ((r1, 5, ()), ())
                else
                  let r4 := n_impl_DataAt a0.2.2.2.2.1
                  bif (inb a0.2.2.2.1 r3.1.length) then
                    bnd (o_impl_Arr_write r1 a0.2.2.2.1 r4 ([(nth r3.1 a0.2.2.2.1 0)] : List Int)) fun r5 =>
                    bif (!r5.1.1) then
                      some ((r5.2.1, 6, ()), ())
                    else
                      some (((r5.2.1.1, r5.2.1.2.1, r5.2.1.2.2.1, r5.2.1.2.2.2.1, (IntKind.i64.wrap (r5.2.1.2.2.2.2.1 + 1)), r5.2.1.2.2.2.2.2), 0, ()), ())
                  else none
              else
                some ((r1, 5, ()), ())
          else
            some ((r1, 2, ()), ())
        else none
      else
        some ((r1, 2, ()), ())
theorem e_impl_BuildStep (x : InD I_impl_BuildStep) : execF ⟨E_impl_BuildStep, 73, D_impl_BuildStep_0⟩ Tryz.f23.results.toList B_impl_BuildStep I_impl_BuildStep U_impl_BuildStep x = raw_impl_BuildStep x.1 := by kernel_rfl
theorem ok0_impl_BuildStep : ConOk Tryz.prog 23 ⟨I_impl_BuildStep, U_impl_BuildStep, fun x => raw_impl_BuildStep x.1⟩ := conOk_exec (fr_impl_BuildStep_0) Tryz.func23 (by kernel_rfl) (by kernel_rfl) Tryz.ntmps23.symm (by decide) (fun x r h => (e_impl_BuildStep x).trans h)
noncomputable def n_impl_BuildStep (a0 : dA) : dA × Int := buildStep a0
theorem nn_impl_BuildStep (a0 : dA) (hk : InOk I_impl_BuildStep (a0, ())) : raw_impl_BuildStep a0 = (fun n => some ((n.1, n.2, ()), ())) (n_impl_BuildStep a0) := by
  unfold raw_impl_BuildStep n_impl_BuildStep buildStep
  simp only [n_impl_copyArr, n_impl_ArrOk, n_impl_Words, impl_dataAt_eq]
  cases ha : arrOk a0
  · rfl
  have hg := geo_iff.1 (arrOk_geo ha)
  have hb := arr_built ha
  cases hd : downA a0
  · rw [show a0.2.2.2.2.2.2.2.2.2.2.1 = false from hd]
    cases hl : (a0.2.2.2.1 == -1)
    · have hi := lost_in ha (beq_eq_false_iff_ne.1 hl)
      have hS : leb a0.2.1.2 a0.2.2.2.2.1 = (a0.2.2.2.2.1 == a0.2.1.2) := by rw [Bool.eq_iff_iff, leb_iff, beq_iff_eq]; omega
      rw [hi, hS]
      cases (nth a0.2.2.1 a0.2.2.2.1 noMem).2.2.1
      · cases hbs : (a0.2.2.2.2.1 == a0.2.1.2)
        · have hne := beq_eq_false_iff_ne.1 hbs
          cases hbr : a0.2.2.2.2.2.2.2.2.2.2.2
          · rw [strOk_iff.2 (show n_spec_GeoOk a0.2.1 = true ∧ 0 ≤ a0.2.2.2.2.1 ∧ a0.2.2.2.2.1 ≤ a0.2.1.2 - 1 from ⟨arrOk_geo ha, by omega, by omega⟩)]
            simp only [Bool.not_false, Bool.not_true, Bool.and_self, cond_true, cond_false, Bool.false_or, Bool.or_false]
            unfold stepOne
            cases hw : (words a0 a0.2.2.2.2.1).2
            · rfl
            · rw [words_len hw, lost_in2 ha (beq_eq_false_iff_ne.1 hl), ot_impl_Arr_write a0 a0.2.2.2.1 (dataAt a0.2.2.2.2.1) [nth (words a0 a0.2.2.2.2.1).1 a0.2.2.2.1 0] (by unfold q_impl_Arr_write; rw [hi, hd]; rfl)]
              simp only [bnd_some, n_impl_Arr_write]
              show (bif !(!(downA (stepPut a0))) then some ((stepPut a0, 6, ()), ()) else some ((stepUp (stepPut a0), 0, ()), ())) = _
              cases downA (stepPut a0) <;> rfl
          · rfl
        · rfl
      · rfl
    · rfl
  · rw [show a0.2.2.2.2.2.2.2.2.2.2.1 = true from hd]; rfl
noncomputable def con_impl_BuildStep : Con := ⟨I_impl_BuildStep, U_impl_BuildStep, fun x => (fun n => some ((n.1, n.2, ()), ())) (n_impl_BuildStep x.1)⟩
theorem ok_impl_BuildStep : ConOk Tryz.prog 23 con_impl_BuildStep := (ok0_impl_BuildStep).mono (fun x r hk h => (nn_impl_BuildStep x.1 hk).trans h)
end

/-! laws_heldIntSS -/
section
noncomputable def B_laws_heldIntSS : Code := (Tryz.f156.body).getD .skip
noncomputable def E_laws_heldIntSS : Env := envOf TT [(21, con_laws_heldIntS)] []
theorem fr_laws_heldIntSS_0 : FrOk Tryz.prog ⟨E_laws_heldIntSS, 21, fun _ => none⟩ B_laws_heldIntSS := frOk_base mixed tt_ok ⟨ok_laws_heldIntS, trivial⟩
noncomputable def D_laws_heldIntSS_0 : Nat → Option Seg := fun _ => none
def L_laws_heldIntSS_13 : Shape := ⟨[(0, false, [.br tL]), (1, false, [.int .i64]), (5, false, [.int .i64])], [], []⟩
def S_laws_heldIntSS_13 : Shape := ⟨[(0, false, [.br tL]), (1, false, [.int .i64]), (5, false, [.ci .i64 0])], [], []⟩
def O_laws_heldIntSS_13 : Shape := ⟨[(1, false, [.int .i64])], [], []⟩
def Z_laws_heldIntSS_13 : Shape := ⟨[(4, false, [.int .i64])], [], []⟩
noncomputable def st_laws_heldIntSS_13 (v0 : List (List Int)) (v1 : Int) (v2 : Int) : Option ((L_laws_heldIntSS_13).X ⊕ ((O_laws_heldIntSS_13).X ⊕ (Z_laws_heldIntSS_13).X)) :=
  bif (ltb v2 (v0.length : Int)) then
    bif (inb v2 v0.length) then
      let r2 := n_laws_heldIntS (nth v0 v2 []) v1
      bif (ltb r2 0) then
        some (.inr (.inr ((((-1), ()), ()), (), ())))
      else
        some (.inl (((v0, ()), (r2, ()), ((IntKind.i64.wrap (v2 + 1)), ()), ()), (), ()))
    else none
  else
    some (.inr (.inl (((v1, ()), ()), (), ())))
noncomputable def stx_laws_heldIntSS_13 (x : (L_laws_heldIntSS_13).X) := st_laws_heldIntSS_13 x.1.1.1 x.1.2.1.1 x.1.2.2.1.1
def em_laws_heldIntSS_13 (x : (S_laws_heldIntSS_13).X) : (L_laws_heldIntSS_13).X := (((x.1.1.1, ()), (x.1.2.1.1, ()), (0, ()), ()), (), ())
noncomputable def c_laws_heldIntSS_13 : Code := (subN B_laws_heldIntSS 64 52).getD .skip
theorem a_laws_heldIntSS_13 : subN B_laws_heldIntSS 64 13 = some (.block 0 (.loop c_laws_heldIntSS_13)) := by kernel_rfl
theorem r_laws_heldIntSS_13 (x : (L_laws_heldIntSS_13).X) : roundT ⟨E_laws_heldIntSS, 21, D_laws_heldIntSS_0⟩ 0 c_laws_heldIntSS_13 52 L_laws_heldIntSS_13 O_laws_heldIntSS_13 Z_laws_heldIntSS_13 x = stx_laws_heldIntSS_13 x := by kernel_rfl
noncomputable def fu_laws_heldIntSS_13 (x : (S_laws_heldIntSS_13).X) : Nat := (fun (u0 : List (List Int)) (u1 : Int) => 18446744073709551616) x.1.1.1 x.1.2.1.1
noncomputable def F_laws_heldIntSS_13 (x : (S_laws_heldIntSS_13).X) : Option ((O_laws_heldIntSS_13).X ⊕ (Z_laws_heldIntSS_13).X) := loopN stx_laws_heldIntSS_13 (fu_laws_heldIntSS_13 x) (em_laws_heldIntSS_13 x)
noncomputable def sg_laws_heldIntSS_13 : Seg := ⟨S_laws_heldIntSS_13, O_laws_heldIntSS_13, Z_laws_heldIntSS_13, F_laws_heldIntSS_13⟩
noncomputable def D_laws_heldIntSS_1 : Nat → Option Seg := fun q => bif Nat.beq q 13 then some sg_laws_heldIntSS_13 else D_laws_heldIntSS_0 q
theorem fr_laws_heldIntSS_1 : FrOk Tryz.prog ⟨E_laws_heldIntSS, 21, D_laws_heldIntSS_1⟩ B_laws_heldIntSS := (fr_laws_heldIntSS_0).loop (sg := sg_laws_heldIntSS_13) L_laws_heldIntSS_13 em_laws_heldIntSS_13 (by decide) a_laws_heldIntSS_13 stx_laws_heldIntSS_13 fu_laws_heldIntSS_13 (by decide) (fun _ => rfl) (fun x r _ h => h) r_laws_heldIntSS_13
abbrev I_laws_heldIntSS : List Par := [.rd tLL, .rd tI]
abbrev U_laws_heldIntSS : List OT := [⟨false, tI, .fz⟩]
noncomputable def raw_laws_heldIntSS (a0 : List (List Int)) (a1 : Int) : Option (ResD U_laws_heldIntSS × MutD I_laws_heldIntSS) :=
  segM (F_laws_heldIntSS_13 (((a0, ()), (a1, ()), ((), ()), ()), (), ())) (fun y2 =>
    some ((y2.1.1.1, ()), ())) (fun y2 =>
    some ((y2.1.1.1, ()), ()))
theorem e_laws_heldIntSS (x : InD I_laws_heldIntSS) : execF ⟨E_laws_heldIntSS, 21, D_laws_heldIntSS_1⟩ Tryz.f156.results.toList B_laws_heldIntSS I_laws_heldIntSS U_laws_heldIntSS x = raw_laws_heldIntSS x.1 x.2.1 := by kernel_rfl
theorem ok0_laws_heldIntSS : ConOk Tryz.prog 156 ⟨I_laws_heldIntSS, U_laws_heldIntSS, fun x => raw_laws_heldIntSS x.1 x.2.1⟩ := conOk_exec (fr_laws_heldIntSS_1) Tryz.func156 (by kernel_rfl) (by kernel_rfl) Tryz.ntmps156.symm (by decide) (fun x r h => (e_laws_heldIntSS x).trans h)
noncomputable def hd_IntS (x : List Int) (k : Int) : Int := n_laws_heldIntS x k
noncomputable def n_laws_heldIntSS (a0 : List (List Int)) (a1 : Int) : Int := (szG hd_IntS a0 a1).getD (-1)
theorem nn_laws_heldIntSS (a0 : List (List Int)) (a1 : Int) (hk : InOk I_laws_heldIntSS (a0, a1, ())) : raw_laws_heldIntSS a0 a1 = (fun n => some ((n, ()), ())) (n_laws_heldIntSS a0 a1) := by
  have hb : a0.length * 24 ≤ 2 ^ 47 := hk.1.1
  have hl : F_laws_heldIntSS_13 (((a0, ()), (a1, ()), ((), ()), ()), (), ()) = some (match szG hd_IntS a0 a1 with | some r => .inl (((r, ()), ()), (), ()) | none => .inr ((((-1), ()), ()), (), ())) :=
    loopN_sz (step := stx_laws_heldIntSS_13) a0 ([] : List Int) (fun i k => (((a0, ()), (k, ()), ((i : Int), ()), ()), (), ())) hd_IntS (fun r => .inl (((r, ()), ()), (), ())) (.inr ((((-1), ()), ()), (), ())) (fun i s hi => by
      simp only [stx_laws_heldIntSS_13, st_laws_heldIntSS_13, ltb_t (show (i : Int) < a0.length by omega), inb_nat hi, nth_nat, cond_true, wr (show -9223372036854775808 ≤ (i : Int) + 1 by omega) (by omega), Int.natCast_add, Int.natCast_one, hd_IntS]
      cases ltb (n_laws_heldIntS (a0.getD i ([] : List Int)) s) 0 <;> rfl) (fun s => by simp only [stx_laws_heldIntSS_13, st_laws_heldIntSS_13, ltb_f (Int.le_refl _), cond_false]) a1 _ (by show _ < 18446744073709551616; omega)
  unfold raw_laws_heldIntSS n_laws_heldIntSS
  rw [hl]
  cases szG hd_IntS a0 a1 <;> rfl
noncomputable def con_laws_heldIntSS : Con := ⟨I_laws_heldIntSS, U_laws_heldIntSS, fun x => (fun n => some ((n, ()), ())) (n_laws_heldIntSS x.1 x.2.1)⟩
theorem ok_laws_heldIntSS : ConOk Tryz.prog 156 con_laws_heldIntSS := (ok0_laws_heldIntSS).mono (fun x r hk h => (nn_laws_heldIntSS x.1 x.2.1 hk).trans h)
end

/-! laws_heldWrS -/
section
noncomputable def B_laws_heldWrS : Code := (Tryz.f157.body).getD .skip
noncomputable def E_laws_heldWrS : Env := envOf TT [(21, con_laws_heldIntS)] []
theorem fr_laws_heldWrS_0 : FrOk Tryz.prog ⟨E_laws_heldWrS, 31, fun _ => none⟩ B_laws_heldWrS := frOk_base mixed tt_ok ⟨ok_laws_heldIntS, trivial⟩
noncomputable def D_laws_heldWrS_0 : Nat → Option Seg := fun _ => none
def L_laws_heldWrS_13 : Shape := ⟨[(0, false, [.br tW]), (1, false, [.int .i64]), (5, false, [.int .i64])], [], []⟩
def S_laws_heldWrS_13 : Shape := ⟨[(0, false, [.br tW]), (1, false, [.int .i64]), (5, false, [.ci .i64 0])], [], []⟩
def O_laws_heldWrS_13 : Shape := ⟨[(1, false, [.int .i64])], [], []⟩
def Z_laws_heldWrS_13 : Shape := ⟨[(4, false, [.int .i64])], [], []⟩
noncomputable def st_laws_heldWrS_13 (v0 : List dW) (v1 : Int) (v2 : Int) : Option ((L_laws_heldWrS_13).X ⊕ ((O_laws_heldWrS_13).X ⊕ (Z_laws_heldWrS_13).X)) :=
  bif (ltb v2 (v0.length : Int)) then
    bif (inb v2 v0.length) then
      bif ((nth v0 v2 (0, [])).1 != v1) then
        some (.inr (.inr ((((-1), ()), ()), (), ())))
      else
        bif (inb v2 v0.length) then
          let r2 := n_laws_heldIntS ((nth v0 v2 (0, [])).2) (IntKind.i64.wrap (v1 + 1))
          bif (ltb r2 0) then
            some (.inr (.inr ((((-1), ()), ()), (), ())))
          else
            some (.inl (((v0, ()), (r2, ()), ((IntKind.i64.wrap (v2 + 1)), ()), ()), (), ()))
        else none
    else none
  else
    some (.inr (.inl (((v1, ()), ()), (), ())))
noncomputable def stx_laws_heldWrS_13 (x : (L_laws_heldWrS_13).X) := st_laws_heldWrS_13 x.1.1.1 x.1.2.1.1 x.1.2.2.1.1
def em_laws_heldWrS_13 (x : (S_laws_heldWrS_13).X) : (L_laws_heldWrS_13).X := (((x.1.1.1, ()), (x.1.2.1.1, ()), (0, ()), ()), (), ())
noncomputable def c_laws_heldWrS_13 : Code := (subN B_laws_heldWrS 64 52).getD .skip
theorem a_laws_heldWrS_13 : subN B_laws_heldWrS 64 13 = some (.block 0 (.loop c_laws_heldWrS_13)) := by kernel_rfl
theorem r_laws_heldWrS_13 (x : (L_laws_heldWrS_13).X) : roundT ⟨E_laws_heldWrS, 31, D_laws_heldWrS_0⟩ 0 c_laws_heldWrS_13 52 L_laws_heldWrS_13 O_laws_heldWrS_13 Z_laws_heldWrS_13 x = stx_laws_heldWrS_13 x := by kernel_rfl
noncomputable def fu_laws_heldWrS_13 (x : (S_laws_heldWrS_13).X) : Nat := (fun (u0 : List dW) (u1 : Int) => 18446744073709551616) x.1.1.1 x.1.2.1.1
noncomputable def F_laws_heldWrS_13 (x : (S_laws_heldWrS_13).X) : Option ((O_laws_heldWrS_13).X ⊕ (Z_laws_heldWrS_13).X) := loopN stx_laws_heldWrS_13 (fu_laws_heldWrS_13 x) (em_laws_heldWrS_13 x)
noncomputable def sg_laws_heldWrS_13 : Seg := ⟨S_laws_heldWrS_13, O_laws_heldWrS_13, Z_laws_heldWrS_13, F_laws_heldWrS_13⟩
noncomputable def D_laws_heldWrS_1 : Nat → Option Seg := fun q => bif Nat.beq q 13 then some sg_laws_heldWrS_13 else D_laws_heldWrS_0 q
theorem fr_laws_heldWrS_1 : FrOk Tryz.prog ⟨E_laws_heldWrS, 31, D_laws_heldWrS_1⟩ B_laws_heldWrS := (fr_laws_heldWrS_0).loop (sg := sg_laws_heldWrS_13) L_laws_heldWrS_13 em_laws_heldWrS_13 (by decide) a_laws_heldWrS_13 stx_laws_heldWrS_13 fu_laws_heldWrS_13 (by decide) (fun _ => rfl) (fun x r _ h => h) r_laws_heldWrS_13
abbrev I_laws_heldWrS : List Par := [.rd tWs, .rd tI]
abbrev U_laws_heldWrS : List OT := [⟨false, tI, .fz⟩]
noncomputable def raw_laws_heldWrS (a0 : List dW) (a1 : Int) : Option (ResD U_laws_heldWrS × MutD I_laws_heldWrS) :=
  segM (F_laws_heldWrS_13 (((a0, ()), (a1, ()), ((), ()), ()), (), ())) (fun y2 =>
    some ((y2.1.1.1, ()), ())) (fun y2 =>
    some ((y2.1.1.1, ()), ()))
theorem e_laws_heldWrS (x : InD I_laws_heldWrS) : execF ⟨E_laws_heldWrS, 31, D_laws_heldWrS_1⟩ Tryz.f157.results.toList B_laws_heldWrS I_laws_heldWrS U_laws_heldWrS x = raw_laws_heldWrS x.1 x.2.1 := by kernel_rfl
theorem ok0_laws_heldWrS : ConOk Tryz.prog 157 ⟨I_laws_heldWrS, U_laws_heldWrS, fun x => raw_laws_heldWrS x.1 x.2.1⟩ := conOk_exec (fr_laws_heldWrS_1) Tryz.func157 (by kernel_rfl) (by kernel_rfl) Tryz.ntmps157.symm (by decide) (fun x r h => (e_laws_heldWrS x).trans h)
noncomputable def hd_Wr (x : dW) (k : Int) : Int := bif x.1 != k then -1 else n_laws_heldIntS x.2 (IntKind.i64.wrap (k + 1))
noncomputable def n_laws_heldWrS (a0 : List (dW)) (a1 : Int) : Int := (szG hd_Wr a0 a1).getD (-1)
theorem nn_laws_heldWrS (a0 : List (dW)) (a1 : Int) (hk : InOk I_laws_heldWrS (a0, a1, ())) : raw_laws_heldWrS a0 a1 = (fun n => some ((n, ()), ())) (n_laws_heldWrS a0 a1) := by
  have hb : a0.length * 32 ≤ 2 ^ 47 := hk.1.1
  have hl : F_laws_heldWrS_13 (((a0, ()), (a1, ()), ((), ()), ()), (), ()) = some (match szG hd_Wr a0 a1 with | some r => .inl (((r, ()), ()), (), ()) | none => .inr ((((-1), ()), ()), (), ())) :=
    loopN_sz (step := stx_laws_heldWrS_13) a0 ((0, []) : dW) (fun i k => (((a0, ()), (k, ()), ((i : Int), ()), ()), (), ())) hd_Wr (fun r => .inl (((r, ()), ()), (), ())) (.inr ((((-1), ()), ()), (), ())) (fun i s hi => by
      simp only [stx_laws_heldWrS_13, st_laws_heldWrS_13, ltb_t (show (i : Int) < a0.length by omega), inb_nat hi, nth_nat, cond_true, wr (show -9223372036854775808 ≤ (i : Int) + 1 by omega) (by omega), Int.natCast_add, Int.natCast_one, hd_Wr]
      cases ((a0.getD i ((0, []) : dW)).1 != s)
      · simp only [cond_false]
        cases ltb (n_laws_heldIntS (a0.getD i ((0, []) : dW)).2 (IntKind.i64.wrap (s + 1))) 0 <;> rfl
      · rfl) (fun s => by simp only [stx_laws_heldWrS_13, st_laws_heldWrS_13, ltb_f (Int.le_refl _), cond_false]) a1 _ (by show _ < 18446744073709551616; omega)
  unfold raw_laws_heldWrS n_laws_heldWrS
  rw [hl]
  cases szG hd_Wr a0 a1 <;> rfl
noncomputable def con_laws_heldWrS : Con := ⟨I_laws_heldWrS, U_laws_heldWrS, fun x => (fun n => some ((n, ()), ())) (n_laws_heldWrS x.1 x.2.1)⟩
theorem ok_laws_heldWrS : ConOk Tryz.prog 157 con_laws_heldWrS := (ok0_laws_heldWrS).mono (fun x r hk h => (nn_laws_heldWrS x.1 x.2.1 hk).trans h)
end

/-! laws_heldMemS -/
section
noncomputable def B_laws_heldMemS : Code := (Tryz.f80.body).getD .skip
noncomputable def E_laws_heldMemS : Env := envOf TT [(21, con_laws_heldIntS), (156, con_laws_heldIntSS), (157, con_laws_heldWrS)] []
theorem fr_laws_heldMemS_0 : FrOk Tryz.prog ⟨E_laws_heldMemS, 51, fun _ => none⟩ B_laws_heldMemS := frOk_base mixed tt_ok ⟨ok_laws_heldIntS, ok_laws_heldIntSS, ok_laws_heldWrS, trivial⟩
noncomputable def D_laws_heldMemS_0 : Nat → Option Seg := fun _ => none
def L_laws_heldMemS_13 : Shape := ⟨[(0, false, [.br tM]), (1, false, [.int .i64]), (5, false, [.int .i64])], [], []⟩
def S_laws_heldMemS_13 : Shape := ⟨[(0, false, [.br tM]), (1, false, [.int .i64]), (5, false, [.ci .i64 0])], [], []⟩
def O_laws_heldMemS_13 : Shape := ⟨[(1, false, [.int .i64])], [], []⟩
def Z_laws_heldMemS_13 : Shape := ⟨[(4, false, [.int .i64])], [], []⟩
noncomputable def st_laws_heldMemS_13 (v0 : List dM) (v1 : Int) (v2 : Int) : Option ((L_laws_heldMemS_13).X ⊕ ((O_laws_heldMemS_13).X ⊕ (Z_laws_heldMemS_13).X)) :=
  bif (ltb v2 (v0.length : Int)) then
    bif (inb v2 v0.length) then
      let r4 := n_laws_heldIntSS ((nth v0 v2 ([], [], false, [])).1) v1
      bif (ltb r4 0) then
        some (.inr (.inr ((((-1), ()), ()), (), ())))
      else
        bif (inb v2 v0.length) then
          let r5 := n_laws_heldWrS (((nth v0 v2 ([], [], false, [])).2).1) r4
          bif (ltb r5 0) then
            some (.inr (.inr ((((-1), ()), ()), (), ())))
          else
            bif (inb v2 v0.length) then
              bif (!((((nth v0 v2 ([], [], false, [])).2).2).1 == ((r5.tmod 3) == 0))) then
                some (.inr (.inr ((((-1), ()), ()), (), ())))
              else
                bif (inb v2 v0.length) then
                  let r6 := n_laws_heldIntS ((((nth v0 v2 ([], [], false, [])).2).2).2) (IntKind.i64.wrap (r5 + 1))
                  bif (ltb r6 0) then
                    some (.inr (.inr ((((-1), ()), ()), (), ())))
                  else
                    some (.inl (((v0, ()), (r6, ()), ((IntKind.i64.wrap (v2 + 1)), ()), ()), (), ()))
                else none
            else none
        else none
    else none
  else
    some (.inr (.inl (((v1, ()), ()), (), ())))
noncomputable def stx_laws_heldMemS_13 (x : (L_laws_heldMemS_13).X) := st_laws_heldMemS_13 x.1.1.1 x.1.2.1.1 x.1.2.2.1.1
def em_laws_heldMemS_13 (x : (S_laws_heldMemS_13).X) : (L_laws_heldMemS_13).X := (((x.1.1.1, ()), (x.1.2.1.1, ()), (0, ()), ()), (), ())
noncomputable def c_laws_heldMemS_13 : Code := (subN B_laws_heldMemS 64 52).getD .skip
theorem a_laws_heldMemS_13 : subN B_laws_heldMemS 64 13 = some (.block 0 (.loop c_laws_heldMemS_13)) := by kernel_rfl
theorem r_laws_heldMemS_13 (x : (L_laws_heldMemS_13).X) : roundT ⟨E_laws_heldMemS, 51, D_laws_heldMemS_0⟩ 0 c_laws_heldMemS_13 52 L_laws_heldMemS_13 O_laws_heldMemS_13 Z_laws_heldMemS_13 x = stx_laws_heldMemS_13 x := by kernel_rfl
noncomputable def fu_laws_heldMemS_13 (x : (S_laws_heldMemS_13).X) : Nat := (fun (u0 : List dM) (u1 : Int) => 18446744073709551616) x.1.1.1 x.1.2.1.1
noncomputable def F_laws_heldMemS_13 (x : (S_laws_heldMemS_13).X) : Option ((O_laws_heldMemS_13).X ⊕ (Z_laws_heldMemS_13).X) := loopN stx_laws_heldMemS_13 (fu_laws_heldMemS_13 x) (em_laws_heldMemS_13 x)
noncomputable def sg_laws_heldMemS_13 : Seg := ⟨S_laws_heldMemS_13, O_laws_heldMemS_13, Z_laws_heldMemS_13, F_laws_heldMemS_13⟩
noncomputable def D_laws_heldMemS_1 : Nat → Option Seg := fun q => bif Nat.beq q 13 then some sg_laws_heldMemS_13 else D_laws_heldMemS_0 q
theorem fr_laws_heldMemS_1 : FrOk Tryz.prog ⟨E_laws_heldMemS, 51, D_laws_heldMemS_1⟩ B_laws_heldMemS := (fr_laws_heldMemS_0).loop (sg := sg_laws_heldMemS_13) L_laws_heldMemS_13 em_laws_heldMemS_13 (by decide) a_laws_heldMemS_13 stx_laws_heldMemS_13 fu_laws_heldMemS_13 (by decide) (fun _ => rfl) (fun x r _ h => h) r_laws_heldMemS_13
abbrev I_laws_heldMemS : List Par := [.rd tMs, .rd tI]
abbrev U_laws_heldMemS : List OT := [⟨false, tI, .fz⟩]
noncomputable def raw_laws_heldMemS (a0 : List dM) (a1 : Int) : Option (ResD U_laws_heldMemS × MutD I_laws_heldMemS) :=
  segM (F_laws_heldMemS_13 (((a0, ()), (a1, ()), ((), ()), ()), (), ())) (fun y6 =>
    some ((y6.1.1.1, ()), ())) (fun y6 =>
    some ((y6.1.1.1, ()), ()))
theorem e_laws_heldMemS (x : InD I_laws_heldMemS) : execF ⟨E_laws_heldMemS, 51, D_laws_heldMemS_1⟩ Tryz.f80.results.toList B_laws_heldMemS I_laws_heldMemS U_laws_heldMemS x = raw_laws_heldMemS x.1 x.2.1 := by kernel_rfl
theorem ok0_laws_heldMemS : ConOk Tryz.prog 80 ⟨I_laws_heldMemS, U_laws_heldMemS, fun x => raw_laws_heldMemS x.1 x.2.1⟩ := conOk_exec (fr_laws_heldMemS_1) Tryz.func80 (by kernel_rfl) (by kernel_rfl) Tryz.ntmps80.symm (by decide) (fun x r h => (e_laws_heldMemS x).trans h)
noncomputable def hd_Mem (x : dM) (k : Int) : Int := bif ltb (n_laws_heldIntSS x.1 k) 0 then -1 else bif ltb (n_laws_heldWrS x.2.1 (n_laws_heldIntSS x.1 k)) 0 then -1 else bif !(x.2.2.1 == ((n_laws_heldWrS x.2.1 (n_laws_heldIntSS x.1 k)).tmod 3 == 0)) then -1 else n_laws_heldIntS x.2.2.2 (IntKind.i64.wrap (n_laws_heldWrS x.2.1 (n_laws_heldIntSS x.1 k) + 1))
noncomputable def n_laws_heldMemS (a0 : List (dM)) (a1 : Int) : Int := (szG hd_Mem a0 a1).getD (-1)
theorem nn_laws_heldMemS (a0 : List (dM)) (a1 : Int) (hk : InOk I_laws_heldMemS (a0, a1, ())) : raw_laws_heldMemS a0 a1 = (fun n => some ((n, ()), ())) (n_laws_heldMemS a0 a1) := by
  have hb : a0.length * 80 ≤ 2 ^ 47 := hk.1.1
  have hl : F_laws_heldMemS_13 (((a0, ()), (a1, ()), ((), ()), ()), (), ()) = some (match szG hd_Mem a0 a1 with | some r => .inl (((r, ()), ()), (), ()) | none => .inr ((((-1), ()), ()), (), ())) :=
    loopN_sz (step := stx_laws_heldMemS_13) a0 (([], [], false, []) : dM) (fun i k => (((a0, ()), (k, ()), ((i : Int), ()), ()), (), ())) hd_Mem (fun r => .inl (((r, ()), ()), (), ())) (.inr ((((-1), ()), ()), (), ())) (fun i s hi => by
      simp only [stx_laws_heldMemS_13, st_laws_heldMemS_13, ltb_t (show (i : Int) < a0.length by omega), inb_nat hi, nth_nat, cond_true, wr (show -9223372036854775808 ≤ (i : Int) + 1 by omega) (by omega), Int.natCast_add, Int.natCast_one, hd_Mem]
      cases ltb (n_laws_heldIntSS (a0.getD i (([], [], false, []) : dM)).1 s) 0
      · simp only [cond_false]
        cases ltb (n_laws_heldWrS (a0.getD i (([], [], false, []) : dM)).2.1 (n_laws_heldIntSS (a0.getD i (([], [], false, []) : dM)).1 s)) 0
        · simp only [cond_false]
          cases ((a0.getD i (([], [], false, []) : dM)).2.2.1 == ((n_laws_heldWrS (a0.getD i (([], [], false, []) : dM)).2.1 (n_laws_heldIntSS (a0.getD i (([], [], false, []) : dM)).1 s)).tmod 3 == 0))
          · rfl
          · simp only [Bool.not_true, cond_false]
            cases ltb (n_laws_heldIntS (a0.getD i (([], [], false, []) : dM)).2.2.2 (IntKind.i64.wrap (n_laws_heldWrS (a0.getD i (([], [], false, []) : dM)).2.1 (n_laws_heldIntSS (a0.getD i (([], [], false, []) : dM)).1 s) + 1))) 0 <;> rfl
        · rfl
      · rfl) (fun s => by simp only [stx_laws_heldMemS_13, st_laws_heldMemS_13, ltb_f (Int.le_refl _), cond_false]) a1 _ (by show _ < 18446744073709551616; omega)
  unfold raw_laws_heldMemS n_laws_heldMemS
  rw [hl]
  cases szG hd_Mem a0 a1 <;> rfl
noncomputable def con_laws_heldMemS : Con := ⟨I_laws_heldMemS, U_laws_heldMemS, fun x => (fun n => some ((n, ()), ())) (n_laws_heldMemS x.1 x.2.1)⟩
theorem ok_laws_heldMemS : ConOk Tryz.prog 80 con_laws_heldMemS := (ok0_laws_heldMemS).mono (fun x r hk h => (nn_laws_heldMemS x.1 x.2.1 hk).trans h)
theorem held_wrS (l : List dW) (k : Int) (h0 : 0 ≤ k) (h : k + ((l.map (fun x : dW => 1 + x.2.length)).sum : Nat) ≤ 9223372036854775807) : (markL u_Wr l k).1 = k + ((l.map (fun x : dW => 1 + x.2.length)).sum : Nat) ∧ szG hd_Wr (markL u_Wr l k).2 k = some (k + ((l.map (fun x : dW => 1 + x.2.length)).sum : Nat)) :=
  held_list (m := fun x : dW => 1 + x.2.length) (fun x k h0 h => by
    have hw : IntKind.i64.wrap (k + 1) = k + 1 := wr (by omega) (by omega)
    unfold u_Wr hd_Wr
    simp only [hw, bne_self_eq_false, cond_false, held_marks, markEnd_eq x.2.length (k + 1) (by omega) (by omega)]
    omega) l k h0 h
theorem held_intSS (l : List (List Int)) (k : Int) (h0 : 0 ≤ k) (h : k + ((l.map (fun x : List Int => x.length)).sum : Nat) ≤ 9223372036854775807) : (markL u_IntS l k).1 = k + ((l.map (fun x : List Int => x.length)).sum : Nat) ∧ szG hd_IntS (markL u_IntS l k).2 k = some (k + ((l.map (fun x : List Int => x.length)).sum : Nat)) :=
  held_list (m := fun x : List Int => x.length) (fun x k h0 h => by
    unfold u_IntS hd_IntS n_laws_markIntS
    simp only [held_marks, markEnd_eq x.length k (by omega) (by omega), and_self]) l k h0 h
theorem held_mem (x : dM) (k : Int) (h0 : 0 ≤ k) (h : k + (mMem x : Nat) ≤ 9223372036854775807) : (u_Mem x k).1 = k + (mMem x : Nat) ∧ hd_Mem (u_Mem x k).2 k = k + (mMem x : Nat) := by
  unfold mMem at h ⊢
  obtain ⟨a1, a2⟩ := held_intSS x.1 k h0 (by omega)
  obtain ⟨b1, b2⟩ := held_wrS x.2.1 (k + ((x.1.map (fun x : List Int => x.length)).sum : Nat)) (by omega) (by omega)
  have hw : ∀ n : Int, 0 ≤ n → n + 1 ≤ 9223372036854775807 → IntKind.i64.wrap (n + 1) = n + 1 := fun n h1 h2 => wr (by omega) (by omega)
  unfold u_Mem hd_Mem
  simp only [n_laws_markIntSS, n_laws_markWrS, n_laws_markIntS, n_laws_heldIntSS, n_laws_heldWrS, a1, a2, b1, b2, Option.getD_some]
  rw [hw _ (by omega) (by omega), ltb_f (show 0 ≤ k + ((x.1.map (fun x : List Int => x.length)).sum : Nat) by omega), cond_false, ltb_f (by omega), cond_false, beq_self_eq_true, Bool.not_true, cond_false, held_marks, markEnd_eq _ _ (by omega) (by omega)]
  omega
theorem held_memS (l : List dM) (k : Int) (h0 : 0 ≤ k) (h : k + (mMems l : Nat) ≤ 9223372036854775807) : (markL u_Mem l k).1 = k + (mMems l : Nat) ∧ szG hd_Mem (markL u_Mem l k).2 k = some (k + (mMems l : Nat)) :=
  held_list (m := mMem) (fun x k h0 h => held_mem x k h0 h) l k h0 h
theorem mk_mems (l : List dM) (h : mMems l ≤ 4611686018427387904) : (n_laws_markMemS l 1).1 = 1 + (mMems l : Nat) ∧ n_laws_heldMemS (n_laws_markMemS l 1).2 1 = 1 + (mMems l : Nat) := by
  obtain ⟨h1, h2⟩ := held_memS l 1 (by omega) (by omega)
  unfold n_laws_heldMemS n_laws_markMemS
  exact ⟨h1, by rw [h2]; rfl⟩
end

/-! laws_heldEntS -/
section
noncomputable def B_laws_heldEntS : Code := (Tryz.f81.body).getD .skip
noncomputable def E_laws_heldEntS : Env := envOf TT [(21, con_laws_heldIntS)] []
theorem fr_laws_heldEntS_0 : FrOk Tryz.prog ⟨E_laws_heldEntS, 31, fun _ => none⟩ B_laws_heldEntS := frOk_base mixed tt_ok ⟨ok_laws_heldIntS, trivial⟩
noncomputable def D_laws_heldEntS_0 : Nat → Option Seg := fun _ => none
def L_laws_heldEntS_13 : Shape := ⟨[(0, false, [.br tW]), (1, false, [.int .i64]), (5, false, [.int .i64])], [], []⟩
def S_laws_heldEntS_13 : Shape := ⟨[(0, false, [.br tW]), (1, false, [.int .i64]), (5, false, [.ci .i64 0])], [], []⟩
def O_laws_heldEntS_13 : Shape := ⟨[(1, false, [.int .i64])], [], []⟩
def Z_laws_heldEntS_13 : Shape := ⟨[(4, false, [.int .i64])], [], []⟩
noncomputable def st_laws_heldEntS_13 (v0 : List dW) (v1 : Int) (v2 : Int) : Option ((L_laws_heldEntS_13).X ⊕ ((O_laws_heldEntS_13).X ⊕ (Z_laws_heldEntS_13).X)) :=
  bif (ltb v2 (v0.length : Int)) then
    bif (inb v2 v0.length) then
      bif ((nth v0 v2 (0, [])).1 != v1) then
        some (.inr (.inr ((((-1), ()), ()), (), ())))
      else
        bif (inb v2 v0.length) then
          let r2 := n_laws_heldIntS ((nth v0 v2 (0, [])).2) (IntKind.i64.wrap (v1 + 1))
          bif (ltb r2 0) then
            some (.inr (.inr ((((-1), ()), ()), (), ())))
          else
            some (.inl (((v0, ()), (r2, ()), ((IntKind.i64.wrap (v2 + 1)), ()), ()), (), ()))
        else none
    else none
  else
    some (.inr (.inl (((v1, ()), ()), (), ())))
noncomputable def stx_laws_heldEntS_13 (x : (L_laws_heldEntS_13).X) := st_laws_heldEntS_13 x.1.1.1 x.1.2.1.1 x.1.2.2.1.1
def em_laws_heldEntS_13 (x : (S_laws_heldEntS_13).X) : (L_laws_heldEntS_13).X := (((x.1.1.1, ()), (x.1.2.1.1, ()), (0, ()), ()), (), ())
noncomputable def c_laws_heldEntS_13 : Code := (subN B_laws_heldEntS 64 52).getD .skip
theorem a_laws_heldEntS_13 : subN B_laws_heldEntS 64 13 = some (.block 0 (.loop c_laws_heldEntS_13)) := by kernel_rfl
theorem r_laws_heldEntS_13 (x : (L_laws_heldEntS_13).X) : roundT ⟨E_laws_heldEntS, 31, D_laws_heldEntS_0⟩ 0 c_laws_heldEntS_13 52 L_laws_heldEntS_13 O_laws_heldEntS_13 Z_laws_heldEntS_13 x = stx_laws_heldEntS_13 x := by kernel_rfl
noncomputable def fu_laws_heldEntS_13 (x : (S_laws_heldEntS_13).X) : Nat := (fun (u0 : List dW) (u1 : Int) => 18446744073709551616) x.1.1.1 x.1.2.1.1
noncomputable def F_laws_heldEntS_13 (x : (S_laws_heldEntS_13).X) : Option ((O_laws_heldEntS_13).X ⊕ (Z_laws_heldEntS_13).X) := loopN stx_laws_heldEntS_13 (fu_laws_heldEntS_13 x) (em_laws_heldEntS_13 x)
noncomputable def sg_laws_heldEntS_13 : Seg := ⟨S_laws_heldEntS_13, O_laws_heldEntS_13, Z_laws_heldEntS_13, F_laws_heldEntS_13⟩
noncomputable def D_laws_heldEntS_1 : Nat → Option Seg := fun q => bif Nat.beq q 13 then some sg_laws_heldEntS_13 else D_laws_heldEntS_0 q
theorem fr_laws_heldEntS_1 : FrOk Tryz.prog ⟨E_laws_heldEntS, 31, D_laws_heldEntS_1⟩ B_laws_heldEntS := (fr_laws_heldEntS_0).loop (sg := sg_laws_heldEntS_13) L_laws_heldEntS_13 em_laws_heldEntS_13 (by decide) a_laws_heldEntS_13 stx_laws_heldEntS_13 fu_laws_heldEntS_13 (by decide) (fun _ => rfl) (fun x r _ h => h) r_laws_heldEntS_13
abbrev I_laws_heldEntS : List Par := [.rd tWs, .rd tI]
abbrev U_laws_heldEntS : List OT := [⟨false, tI, .fz⟩]
noncomputable def raw_laws_heldEntS (a0 : List dW) (a1 : Int) : Option (ResD U_laws_heldEntS × MutD I_laws_heldEntS) :=
  segM (F_laws_heldEntS_13 (((a0, ()), (a1, ()), ((), ()), ()), (), ())) (fun y2 =>
    some ((y2.1.1.1, ()), ())) (fun y2 =>
    some ((y2.1.1.1, ()), ()))
theorem e_laws_heldEntS (x : InD I_laws_heldEntS) : execF ⟨E_laws_heldEntS, 31, D_laws_heldEntS_1⟩ Tryz.f81.results.toList B_laws_heldEntS I_laws_heldEntS U_laws_heldEntS x = raw_laws_heldEntS x.1 x.2.1 := by kernel_rfl
theorem ok0_laws_heldEntS : ConOk Tryz.prog 81 ⟨I_laws_heldEntS, U_laws_heldEntS, fun x => raw_laws_heldEntS x.1 x.2.1⟩ := conOk_exec (fr_laws_heldEntS_1) Tryz.func81 (by kernel_rfl) (by kernel_rfl) Tryz.ntmps81.symm (by decide) (fun x r h => (e_laws_heldEntS x).trans h)
noncomputable def hd_Ent (x : dW) (k : Int) : Int := bif x.1 != k then -1 else n_laws_heldIntS x.2 (IntKind.i64.wrap (k + 1))
noncomputable def n_laws_heldEntS (a0 : List (dW)) (a1 : Int) : Int := (szG hd_Ent a0 a1).getD (-1)
theorem nn_laws_heldEntS (a0 : List (dW)) (a1 : Int) (hk : InOk I_laws_heldEntS (a0, a1, ())) : raw_laws_heldEntS a0 a1 = (fun n => some ((n, ()), ())) (n_laws_heldEntS a0 a1) := by
  have hb : a0.length * 32 ≤ 2 ^ 47 := hk.1.1
  have hl : F_laws_heldEntS_13 (((a0, ()), (a1, ()), ((), ()), ()), (), ()) = some (match szG hd_Ent a0 a1 with | some r => .inl (((r, ()), ()), (), ()) | none => .inr ((((-1), ()), ()), (), ())) :=
    loopN_sz (step := stx_laws_heldEntS_13) a0 ((0, []) : dW) (fun i k => (((a0, ()), (k, ()), ((i : Int), ()), ()), (), ())) hd_Ent (fun r => .inl (((r, ()), ()), (), ())) (.inr ((((-1), ()), ()), (), ())) (fun i s hi => by
      simp only [stx_laws_heldEntS_13, st_laws_heldEntS_13, ltb_t (show (i : Int) < a0.length by omega), inb_nat hi, nth_nat, cond_true, wr (show -9223372036854775808 ≤ (i : Int) + 1 by omega) (by omega), Int.natCast_add, Int.natCast_one, hd_Ent]
      cases ((a0.getD i ((0, []) : dW)).1 != s)
      · simp only [cond_false]
        cases ltb (n_laws_heldIntS (a0.getD i ((0, []) : dW)).2 (IntKind.i64.wrap (s + 1))) 0 <;> rfl
      · rfl) (fun s => by simp only [stx_laws_heldEntS_13, st_laws_heldEntS_13, ltb_f (Int.le_refl _), cond_false]) a1 _ (by show _ < 18446744073709551616; omega)
  unfold raw_laws_heldEntS n_laws_heldEntS
  rw [hl]
  cases szG hd_Ent a0 a1 <;> rfl
noncomputable def con_laws_heldEntS : Con := ⟨I_laws_heldEntS, U_laws_heldEntS, fun x => (fun n => some ((n, ()), ())) (n_laws_heldEntS x.1 x.2.1)⟩
theorem ok_laws_heldEntS : ConOk Tryz.prog 81 con_laws_heldEntS := (ok0_laws_heldEntS).mono (fun x r hk h => (nn_laws_heldEntS x.1 x.2.1 hk).trans h)
theorem held_entS (l : List dW) (k : Int) (h0 : 0 ≤ k) (h : k + (mEnts l : Nat) ≤ 9223372036854775807) : (markL u_Ent l k).1 = k + (mEnts l : Nat) ∧ szG hd_Ent (markL u_Ent l k).2 k = some (k + (mEnts l : Nat)) :=
  held_list (m := fun x : dW => 1 + x.2.length) (fun x k h0 h => by
    have hw : IntKind.i64.wrap (k + 1) = k + 1 := wr (by omega) (by omega)
    unfold u_Ent hd_Ent
    simp only [hw, bne_self_eq_false, cond_false, held_marks, markEnd_eq x.2.length (k + 1) (by omega) (by omega)]
    omega) l k h0 h
end

/-! laws_heldArr -/
section
noncomputable def B_laws_heldArr : Code := (Tryz.f24.body).getD .skip
noncomputable def E_laws_heldArr : Env := envOf TT [(80, con_laws_heldMemS), (81, con_laws_heldEntS)] []
theorem fr_laws_heldArr_0 : FrOk Tryz.prog ⟨E_laws_heldArr, 18, fun _ => none⟩ B_laws_heldArr := frOk_base mixed tt_ok ⟨ok_laws_heldMemS, ok_laws_heldEntS, trivial⟩
noncomputable def D_laws_heldArr_0 : Nat → Option Seg := fun _ => none
abbrev I_laws_heldArr : List Par := [.rd tA, .rd tI]
abbrev U_laws_heldArr : List OT := [⟨false, tI, .fz⟩]
noncomputable def raw_laws_heldArr (a0 : dA) (a1 : Int) : Option (ResD U_laws_heldArr × MutD I_laws_heldArr) :=
  let r1 := n_laws_heldMemS a0.2.2.1 a1
  bif (ltb r1 0) then
    some (((-1), ()), ())
  else
    let r2 := n_laws_heldEntS a0.2.2.2.2.2.2.2.2.1 r1
    bif (ltb r2 0) then
      some (((-1), ()), ())
    else
      some ((r2, ()), ())
theorem e_laws_heldArr (x : InD I_laws_heldArr) : execF ⟨E_laws_heldArr, 18, D_laws_heldArr_0⟩ Tryz.f24.results.toList B_laws_heldArr I_laws_heldArr U_laws_heldArr x = raw_laws_heldArr x.1 x.2.1 := by kernel_rfl
theorem ok0_laws_heldArr : ConOk Tryz.prog 24 ⟨I_laws_heldArr, U_laws_heldArr, fun x => raw_laws_heldArr x.1 x.2.1⟩ := conOk_exec (fr_laws_heldArr_0) Tryz.func24 (by kernel_rfl) (by kernel_rfl) Tryz.ntmps24.symm (by decide) (fun x r h => (e_laws_heldArr x).trans h)
noncomputable def n_laws_heldArr (a0 : dA) (a1 : Int) : Int :=
  let r1 := n_laws_heldMemS a0.2.2.1 a1
  bif (ltb r1 0) then
    (-1)
  else
    let r2 := n_laws_heldEntS a0.2.2.2.2.2.2.2.2.1 r1
    bif (ltb r2 0) then
      (-1)
    else
      r2
noncomputable def con_laws_heldArr : Con := ⟨I_laws_heldArr, U_laws_heldArr, fun x => (fun n => some ((n, ()), ())) (n_laws_heldArr x.1 x.2.1)⟩
theorem nn_laws_heldArr (a0 : dA) (a1 : Int) : raw_laws_heldArr a0 a1 = (fun n => some ((n, ()), ())) (n_laws_heldArr a0 a1) := bif_ty (p := fun (n : Int) => ((n, ()), ())) (bif_some (p := fun (n : Int) => ((n, ()), ())) rfl (bif_some (p := fun (n : Int) => ((n, ()), ())) rfl rfl))
theorem ok_laws_heldArr : ConOk Tryz.prog 24 con_laws_heldArr := (ok0_laws_heldArr).mono (fun x r _ h => (nn_laws_heldArr x.1 x.2.1).trans h)
theorem mk_arr {x : dA} (h : mArr x ≤ 4611686018427387904) : (n_laws_markArr x 1).1 = 1 + (mArr x : Nat) ∧ n_laws_heldArr (n_laws_markArr x 1).2 1 = 1 + (mArr x : Nat) := by
  unfold mArr at h ⊢
  obtain ⟨a1, a2⟩ := held_memS x.2.2.1 1 (by omega) (by omega)
  obtain ⟨b1, b2⟩ := held_entS x.2.2.2.2.2.2.2.2.1 (1 + (mMems x.2.2.1 : Nat)) (by omega) (by omega)
  unfold n_laws_markArr n_laws_heldArr
  simp only [n_laws_markMemS, n_laws_markEntS, n_laws_heldMemS, n_laws_heldEntS, a1, a2, b1, b2, Option.getD_some]
  rw [ltb_f (show (0 : Int) ≤ 1 + (mMems x.2.2.1 : Nat) by omega), cond_false, ltb_f (by omega), cond_false]
  omega
/-- a result with its marks -/
noncomputable abbrev markedA (x : dA) : dA := (x.1, x.2.1, (n_laws_markArr x 1).2.2.2.1, x.2.2.2.1, x.2.2.2.2.1, x.2.2.2.2.2.1, x.2.2.2.2.2.2.1, x.2.2.2.2.2.2.2.1, (n_laws_markArr x 1).2.2.2.2.2.2.2.2.2.1, x.2.2.2.2.2.2.2.2.2)
theorem mk_arr3 {x : dA} (h : mArr x ≤ 4611686018427387904) : ltb (n_laws_markArr x 1).1 0 = false ∧ ltb (n_laws_heldArr (markedA x) 1) 0 = false ∧ (n_laws_heldArr (markedA x) 1 != (n_laws_markArr x 1).1) = false := by
  obtain ⟨h1, h2⟩ := mk_arr h
  rw [show markedA x = (n_laws_markArr x 1).2 from rfl, h1, h2]
  exact ⟨ltb_f (by omega), ltb_f (by omega), by simp⟩
end
end Go.Tf
