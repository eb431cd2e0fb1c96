/- Functions of the program, and what they come to. -/
import Derived.Test.YtgmadfpnljibhaaExactSpoilAtF11
namespace Go.Tf
open Go.Proofs
set_option synthInstance.maxHeartbeats 400000
set_option synthInstance.maxSize 10000
set_option linter.unusedVariables false
set_option linter.unusedSimpArgs false
set_option maxRecDepth 100000
/-! laws_markWrS -/
section
noncomputable def B_laws_markWrS : Code := (Try.f112.body).getD .skip
noncomputable def E_laws_markWrS : Env := envOf TT [(113, con_laws_markIntS)] []
theorem fr_laws_markWrS_0 : FrOk Try.prog ⟨E_laws_markWrS, 27, fun _ => none⟩ B_laws_markWrS := frOk_base mixed tt_ok ⟨ok_laws_markIntS, trivial⟩
noncomputable def D_laws_markWrS_0 : Nat → Option Seg := fun _ => none
def L_laws_markWrS_13 : Shape := ⟨[(0, false, [.at 1000001000]), (1, false, [.int .i64]), (5, false, [.int .i64])], [], [(1000001000, tW, (.pr .fz (.ow .fz)))]⟩
def S_laws_markWrS_13 : Shape := ⟨[(0, false, [.at 1000001000]), (1, false, [.int .i64]), (5, false, [.ci .i64 0])], [], [(1000001000, tW, (.pr .fz (.ow .fz)))]⟩
def O_laws_markWrS_13 : Shape := ⟨[(1, false, [.int .i64])], [], [(1000001000, tW, (.pr .fz (.ow .fz)))]⟩
def Z_laws_markWrS_13 : Shape := ⟨[], [], []⟩
noncomputable def st_laws_markWrS_13 (v0 v1 : Int) (v2 : List dW) : Option ((L_laws_markWrS_13).X ⊕ ((O_laws_markWrS_13).X ⊕ (Z_laws_markWrS_13).X)) :=
  bif (ltb v1 (v2.length : Int)) then
    bif (inb v1 v2.length) then
      bif (inb v1 (v2.set (v1).toNat (v0, (nth v2 v1 (0, [])).2)).length) then
        let r4 := n_laws_markIntS ((nth (v2.set (v1).toNat (v0, (nth v2 v1 (0, [])).2)) v1 (0, [])).2) (IntKind.i64.wrap (v0 + 1))
        some (.inl ((((), ()), (r4.1, ()), ((IntKind.i64.wrap (v1 + 1)), ()), ()), (), (((v2.set (v1).toNat (v0, (nth v2 v1 (0, [])).2)).set (v1).toNat ((nth (v2.set (v1).toNat (v0, (nth v2 v1 (0, [])).2)) v1 (0, [])).1, r4.2)), ())))
      else none
    else none
  else
    some (.inr (.inl (((v0, ()), ()), (), (v2, ()))))
noncomputable def stx_laws_markWrS_13 (x : (L_laws_markWrS_13).X) := st_laws_markWrS_13 x.1.2.1.1 x.1.2.2.1.1 x.2.2.1
def em_laws_markWrS_13 (x : (S_laws_markWrS_13).X) : (L_laws_markWrS_13).X := ((((), ()), (x.1.2.1.1, ()), (0, ()), ()), (), (x.2.2.1, ()))
noncomputable def c_laws_markWrS_13 : Code := (subN B_laws_markWrS 64 52).getD .skip
theorem a_laws_markWrS_13 : subN B_laws_markWrS 64 13 = some (.block 0 (.loop c_laws_markWrS_13)) := by kernel_rfl
theorem r_laws_markWrS_13 (x : (L_laws_markWrS_13).X) : roundT ⟨E_laws_markWrS, 27, D_laws_markWrS_0⟩ 0 c_laws_markWrS_13 52 L_laws_markWrS_13 O_laws_markWrS_13 Z_laws_markWrS_13 x = stx_laws_markWrS_13 x := by kernel_rfl
def fu_laws_markWrS_13 (x : (S_laws_markWrS_13).X) : Nat := 18446744073709551616
noncomputable def F_laws_markWrS_13 (x : (S_laws_markWrS_13).X) : Option ((O_laws_markWrS_13).X ⊕ (Z_laws_markWrS_13).X) := loopN stx_laws_markWrS_13 (fu_laws_markWrS_13 x) (em_laws_markWrS_13 x)
noncomputable def sg_laws_markWrS_13 : Seg := ⟨S_laws_markWrS_13, O_laws_markWrS_13, Z_laws_markWrS_13, F_laws_markWrS_13⟩
noncomputable def D_laws_markWrS_1 : Nat → Option Seg := fun q => bif Nat.beq q 13 then some sg_laws_markWrS_13 else D_laws_markWrS_0 q
theorem fr_laws_markWrS_1 : FrOk Try.prog ⟨E_laws_markWrS, 27, D_laws_markWrS_1⟩ B_laws_markWrS := (fr_laws_markWrS_0).loop (sg := sg_laws_markWrS_13) L_laws_markWrS_13 em_laws_markWrS_13 (by decide) a_laws_markWrS_13 stx_laws_markWrS_13 fu_laws_markWrS_13 (by decide) (fun _ => rfl) (fun x r _ h => h) r_laws_markWrS_13
abbrev I_laws_markWrS : List Par := [.mt tWs (.ow (.pr .fz (.ow .fz))), .rd tI]
abbrev U_laws_markWrS : List OT := [⟨false, tI, .fz⟩]
noncomputable def raw_laws_markWrS (a0 : List dW) (a1 : Int) : Option (ResD U_laws_markWrS × MutD I_laws_markWrS) :=
  segM (F_laws_markWrS_13 ((((), ()), (a1, ()), ((), ()), ()), (), (a0, ()))) (fun y4 =>
    some ((y4.1.1.1, ()), (y4.2.2.1, ()))) (fun y4 =>
    none)
theorem e_laws_markWrS (x : InD I_laws_markWrS) : execF ⟨E_laws_markWrS, 27, D_laws_markWrS_1⟩ Try.f112.results.toList B_laws_markWrS I_laws_markWrS U_laws_markWrS x = raw_laws_markWrS x.1 x.2.1 := by kernel_rfl
theorem ok0_laws_markWrS : ConOk Try.prog 112 ⟨I_laws_markWrS, U_laws_markWrS, fun x => raw_laws_markWrS x.1 x.2.1⟩ := conOk_exec (fr_laws_markWrS_1) Try.func112 (by kernel_rfl) (by kernel_rfl) Try.ntmps112.symm (by decide) (fun x r h => (e_laws_markWrS x).trans h)
noncomputable def u_Wr (x : dW) (k : Int) : Int × dW := (markEnd (IntKind.i64.wrap (k + 1)) x.2.length, (k, marks (IntKind.i64.wrap (k + 1)) x.2.length))
noncomputable def n_laws_markWrS (a0 : List (dW)) (a1 : Int) : Int × List (dW) := markL u_Wr a0 a1
theorem nn_laws_markWrS (a0 : List (dW)) (a1 : Int) (hk : InOk I_laws_markWrS (a0, a1, ())) : raw_laws_markWrS a0 a1 = (fun n => some ((n.1, ()), (n.2, ()))) (n_laws_markWrS a0 a1) := by
  have hb : a0.length * 32 ≤ 2 ^ 47 := hk.1.1
  have hl : F_laws_markWrS_13 ((((), ()), (a1, ()), ((), ()), ()), (), (a0, ())) = some (.inl ((((markL u_Wr a0 a1).1, ()), ()), (), ((markL u_Wr a0 a1).2, ()))) :=
    loopN_mark (step := stx_laws_markWrS_13) a0 ((0, []) : dW) (fun i k m => ((((), ()), (k, ()), ((i : Int), ()), ()), (), (m, ()))) u_Wr (fun k m => .inl (((k, ()), ()), (), (m, ()))) (fun i s m hi hm => by
      simp only [stx_laws_markWrS_13, st_laws_markWrS_13, ltb_t (show (i : Int) < m.length by omega), List.length_set, inb_nat hi, Int.toNat_natCast, List.set_set, cond_true, nth_set hi, wr (show -9223372036854775808 ≤ (i : Int) + 1 by omega) (by omega), Int.natCast_add, Int.natCast_one, nth_nat]
      rfl) (fun s m hm => by simp only [stx_laws_markWrS_13, st_laws_markWrS_13, hm, ltb_f (Int.le_refl _), cond_false]) a1 _ (by show _ < 18446744073709551616; omega)
  unfold raw_laws_markWrS n_laws_markWrS
  rw [hl]; rfl
noncomputable def con_laws_markWrS : Con := ⟨I_laws_markWrS, U_laws_markWrS, fun x => (fun n => some ((n.1, ()), (n.2, ()))) (n_laws_markWrS x.1 x.2.1)⟩
theorem ok_laws_markWrS : ConOk Try.prog 112 con_laws_markWrS := (ok0_laws_markWrS).mono (fun x r hk h => (nn_laws_markWrS x.1 x.2.1 hk).trans h)
end

/-! laws_markMemS -/
section
noncomputable def B_laws_markMemS : Code := (Try.f73.body).getD .skip
noncomputable def E_laws_markMemS : Env := envOf TT [(111, con_laws_markIntSS), (112, con_laws_markWrS), (113, con_laws_markIntS)] []
theorem fr_laws_markMemS_0 : FrOk Try.prog ⟨E_laws_markMemS, 43, fun _ => none⟩ B_laws_markMemS := frOk_base mixed tt_ok ⟨ok_laws_markIntSS, ok_laws_markWrS, ok_laws_markIntS, trivial⟩
noncomputable def D_laws_markMemS_0 : Nat → Option Seg := fun _ => none
def L_laws_markMemS_13 : Shape := ⟨[(0, false, [.at 1000001000]), (1, false, [.int .i64]), (5, false, [.int .i64])], [], [(1000001000, tM, (.pr (.ow (.ow .fz)) (.pr (.ow (.pr .fz (.ow .fz))) (.pr .fz (.ow .fz)))))]⟩
def S_laws_markMemS_13 : Shape := ⟨[(0, false, [.at 1000001000]), (1, false, [.int .i64]), (5, false, [.ci .i64 0])], [], [(1000001000, tM, (.pr (.ow (.ow .fz)) (.pr (.ow (.pr .fz (.ow .fz))) (.pr .fz (.ow .fz)))))]⟩
def O_laws_markMemS_13 : Shape := ⟨[(1, false, [.int .i64])], [], [(1000001000, tM, (.pr (.ow (.ow .fz)) (.pr (.ow (.pr .fz (.ow .fz))) (.pr .fz (.ow .fz)))))]⟩
def Z_laws_markMemS_13 : Shape := ⟨[], [], []⟩
noncomputable def st_laws_markMemS_13 (v0 v1 : Int) (v2 : List dM) : Option ((L_laws_markMemS_13).X ⊕ ((O_laws_markMemS_13).X ⊕ (Z_laws_markMemS_13).X)) :=
  bif (ltb v1 (v2.length : Int)) then
    bif (inb v1 v2.length) then
      let r9 := n_laws_markIntSS ((nth v2 v1 ([], [], false, [])).1) v0
      bif (inb v1 (v2.set (v1).toNat (r9.2, ((nth v2 v1 ([], [], false, [])).2).1, (((nth v2 v1 ([], [], false, [])).2).2).1, (((nth v2 v1 ([], [], false, [])).2).2).2)).length) then
        let r11 := n_laws_markWrS (((nth (v2.set (v1).toNat (r9.2, ((nth v2 v1 ([], [], false, [])).2).1, (((nth v2 v1 ([], [], false, [])).2).2).1, (((nth v2 v1 ([], [], false, [])).2).2).2)) v1 ([], [], false, [])).2).1) r9.1
        bif (inb v1 ((v2.set (v1).toNat (r9.2, ((nth v2 v1 ([], [], false, [])).2).1, (((nth v2 v1 ([], [], false, [])).2).2).1, (((nth v2 v1 ([], [], false, [])).2).2).2)).set (v1).toNat ((nth (v2.set (v1).toNat (r9.2, ((nth v2 v1 ([], [], false, [])).2).1, (((nth v2 v1 ([], [], false, [])).2).2).1, (((nth v2 v1 ([], [], false, [])).2).2).2)) v1 ([], [], false, [])).1, r11.2, (((nth (v2.set (v1).toNat (r9.2, ((nth v2 v1 ([], [], false, [])).2).1, (((nth v2 v1 ([], [], false, [])).2).2).1, (((nth v2 v1 ([], [], false, [])).2).2).2)) v1 ([], [], false, [])).2).2).1, (((nth (v2.set (v1).toNat (r9.2, ((nth v2 v1 ([], [], false, [])).2).1, (((nth v2 v1 ([], [], false, [])).2).2).1, (((nth v2 v1 ([], [], false, [])).2).2).2)) v1 ([], [], false, [])).2).2).2)).length) then
          let r12 := (((v2.set (v1).toNat (r9.2, ((nth v2 v1 ([], [], false, [])).2).1, (((nth v2 v1 ([], [], false, [])).2).2).1, (((nth v2 v1 ([], [], false, [])).2).2).2)).set (v1).toNat ((nth (v2.set (v1).toNat (r9.2, ((nth v2 v1 ([], [], false, [])).2).1, (((nth v2 v1 ([], [], false, [])).2).2).1, (((nth v2 v1 ([], [], false, [])).2).2).2)) v1 ([], [], false, [])).1, r11.2, (((nth (v2.set (v1).toNat (r9.2, ((nth v2 v1 ([], [], false, [])).2).1, (((nth v2 v1 ([], [], false, [])).2).2).1, (((nth v2 v1 ([], [], false, [])).2).2).2)) v1 ([], [], false, [])).2).2).1, (((nth (v2.set (v1).toNat (r9.2, ((nth v2 v1 ([], [], false, [])).2).1, (((nth v2 v1 ([], [], false, [])).2).2).1, (((nth v2 v1 ([], [], false, [])).2).2).2)) v1 ([], [], false, [])).2).2).2)).set (v1).toNat ((nth ((v2.set (v1).toNat (r9.2, ((nth v2 v1 ([], [], false, [])).2).1, (((nth v2 v1 ([], [], false, [])).2).2).1, (((nth v2 v1 ([], [], false, [])).2).2).2)).set (v1).toNat ((nth (v2.set (v1).toNat (r9.2, ((nth v2 v1 ([], [], false, [])).2).1, (((nth v2 v1 ([], [], false, [])).2).2).1, (((nth v2 v1 ([], [], false, [])).2).2).2)) v1 ([], [], false, [])).1, r11.2, (((nth (v2.set (v1).toNat (r9.2, ((nth v2 v1 ([], [], false, [])).2).1, (((nth v2 v1 ([], [], false, [])).2).2).1, (((nth v2 v1 ([], [], false, [])).2).2).2)) v1 ([], [], false, [])).2).2).1, (((nth (v2.set (v1).toNat (r9.2, ((nth v2 v1 ([], [], false, [])).2).1, (((nth v2 v1 ([], [], false, [])).2).2).1, (((nth v2 v1 ([], [], false, [])).2).2).2)) v1 ([], [], false, [])).2).2).2)) v1 ([], [], false, [])).1, ((nth ((v2.set (v1).toNat (r9.2, ((nth v2 v1 ([], [], false, [])).2).1, (((nth v2 v1 ([], [], false, [])).2).2).1, (((nth v2 v1 ([], [], false, [])).2).2).2)).set (v1).toNat ((nth (v2.set (v1).toNat (r9.2, ((nth v2 v1 ([], [], false, [])).2).1, (((nth v2 v1 ([], [], false, [])).2).2).1, (((nth v2 v1 ([], [], false, [])).2).2).2)) v1 ([], [], false, [])).1, r11.2, (((nth (v2.set (v1).toNat (r9.2, ((nth v2 v1 ([], [], false, [])).2).1, (((nth v2 v1 ([], [], false, [])).2).2).1, (((nth v2 v1 ([], [], false, [])).2).2).2)) v1 ([], [], false, [])).2).2).1, (((nth (v2.set (v1).toNat (r9.2, ((nth v2 v1 ([], [], false, [])).2).1, (((nth v2 v1 ([], [], false, [])).2).2).1, (((nth v2 v1 ([], [], false, [])).2).2).2)) v1 ([], [], false, [])).2).2).2)) v1 ([], [], false, [])).2).1, ((r11.1.tmod 3) == 0), (((nth ((v2.set (v1).toNat (r9.2, ((nth v2 v1 ([], [], false, [])).2).1, (((nth v2 v1 ([], [], false, [])).2).2).1, (((nth v2 v1 ([], [], false, [])).2).2).2)).set (v1).toNat ((nth (v2.set (v1).toNat (r9.2, ((nth v2 v1 ([], [], false, [])).2).1, (((nth v2 v1 ([], [], false, [])).2).2).1, (((nth v2 v1 ([], [], false, [])).2).2).2)) v1 ([], [], false, [])).1, r11.2, (((nth (v2.set (v1).toNat (r9.2, ((nth v2 v1 ([], [], false, [])).2).1, (((nth v2 v1 ([], [], false, [])).2).2).1, (((nth v2 v1 ([], [], false, [])).2).2).2)) v1 ([], [], false, [])).2).2).1, (((nth (v2.set (v1).toNat (r9.2, ((nth v2 v1 ([], [], false, [])).2).1, (((nth v2 v1 ([], [], false, [])).2).2).1, (((nth v2 v1 ([], [], false, [])).2).2).2)) v1 ([], [], false, [])).2).2).2)) v1 ([], [], false, [])).2).2).2))
          bif (inb v1 r12.length) then
            let r14 := n_laws_markIntS ((((nth r12 v1 ([], [], false, [])).2).2).2) (IntKind.i64.wrap (r11.1 + 1))
            some (.inl ((((), ()), (r14.1, ()), ((IntKind.i64.wrap (v1 + 1)), ()), ()), (), ((r12.set (v1).toNat ((nth r12 v1 ([], [], false, [])).1, ((nth r12 v1 ([], [], false, [])).2).1, (((nth r12 v1 ([], [], false, [])).2).2).1, r14.2)), ())))
          else none
        else none
      else none
    else none
  else
    some (.inr (.inl (((v0, ()), ()), (), (v2, ()))))
noncomputable def stx_laws_markMemS_13 (x : (L_laws_markMemS_13).X) := st_laws_markMemS_13 x.1.2.1.1 x.1.2.2.1.1 x.2.2.1
def em_laws_markMemS_13 (x : (S_laws_markMemS_13).X) : (L_laws_markMemS_13).X := ((((), ()), (x.1.2.1.1, ()), (0, ()), ()), (), (x.2.2.1, ()))
noncomputable def c_laws_markMemS_13 : Code := (subN B_laws_markMemS 64 52).getD .skip
theorem a_laws_markMemS_13 : subN B_laws_markMemS 64 13 = some (.block 0 (.loop c_laws_markMemS_13)) := by kernel_rfl
theorem r_laws_markMemS_13 (x : (L_laws_markMemS_13).X) : roundT ⟨E_laws_markMemS, 43, D_laws_markMemS_0⟩ 0 c_laws_markMemS_13 52 L_laws_markMemS_13 O_laws_markMemS_13 Z_laws_markMemS_13 x = stx_laws_markMemS_13 x := by kernel_rfl
def fu_laws_markMemS_13 (x : (S_laws_markMemS_13).X) : Nat := 18446744073709551616
noncomputable def F_laws_markMemS_13 (x : (S_laws_markMemS_13).X) : Option ((O_laws_markMemS_13).X ⊕ (Z_laws_markMemS_13).X) := loopN stx_laws_markMemS_13 (fu_laws_markMemS_13 x) (em_laws_markMemS_13 x)
noncomputable def sg_laws_markMemS_13 : Seg := ⟨S_laws_markMemS_13, O_laws_markMemS_13, Z_laws_markMemS_13, F_laws_markMemS_13⟩
noncomputable def D_laws_markMemS_1 : Nat → Option Seg := fun q => bif Nat.beq q 13 then some sg_laws_markMemS_13 else D_laws_markMemS_0 q
theorem fr_laws_markMemS_1 : FrOk Try.prog ⟨E_laws_markMemS, 43, D_laws_markMemS_1⟩ B_laws_markMemS := (fr_laws_markMemS_0).loop (sg := sg_laws_markMemS_13) L_laws_markMemS_13 em_laws_markMemS_13 (by decide) a_laws_markMemS_13 stx_laws_markMemS_13 fu_laws_markMemS_13 (by decide) (fun _ => rfl) (fun x r _ h => h) r_laws_markMemS_13
abbrev I_laws_markMemS : List Par := [.mt tMs (.ow (.pr (.ow (.ow .fz)) (.pr (.ow (.pr .fz (.ow .fz))) (.pr .fz (.ow .fz))))), .rd tI]
abbrev U_laws_markMemS : List OT := [⟨false, tI, .fz⟩]
noncomputable def raw_laws_markMemS (a0 : List dM) (a1 : Int) : Option (ResD U_laws_markMemS × MutD I_laws_markMemS) :=
  segM (F_laws_markMemS_13 ((((), ()), (a1, ()), ((), ()), ()), (), (a0, ()))) (fun y14 =>
    some ((y14.1.1.1, ()), (y14.2.2.1, ()))) (fun y14 =>
    none)
theorem e_laws_markMemS (x : InD I_laws_markMemS) : execF ⟨E_laws_markMemS, 43, D_laws_markMemS_1⟩ Try.f73.results.toList B_laws_markMemS I_laws_markMemS U_laws_markMemS x = raw_laws_markMemS x.1 x.2.1 := by kernel_rfl
theorem ok0_laws_markMemS : ConOk Try.prog 73 ⟨I_laws_markMemS, U_laws_markMemS, fun x => raw_laws_markMemS x.1 x.2.1⟩ := conOk_exec (fr_laws_markMemS_1) Try.func73 (by kernel_rfl) (by kernel_rfl) Try.ntmps73.symm (by decide) (fun x r h => (e_laws_markMemS x).trans h)
noncomputable def u_Mem (x : dM) (k : Int) : Int × dM := ((n_laws_markIntS x.2.2.2 (IntKind.i64.wrap ((n_laws_markWrS x.2.1 (n_laws_markIntSS x.1 k).1).1 + 1))).1, ((n_laws_markIntSS x.1 k).2, (n_laws_markWrS x.2.1 (n_laws_markIntSS x.1 k).1).2, ((n_laws_markWrS x.2.1 (n_laws_markIntSS x.1 k).1).1.tmod 3 == 0), (n_laws_markIntS x.2.2.2 (IntKind.i64.wrap ((n_laws_markWrS x.2.1 (n_laws_markIntSS x.1 k).1).1 + 1))).2))
noncomputable def n_laws_markMemS (a0 : List (dM)) (a1 : Int) : Int × List (dM) := markL u_Mem a0 a1
theorem nn_laws_markMemS (a0 : List (dM)) (a1 : Int) (hk : InOk I_laws_markMemS (a0, a1, ())) : raw_laws_markMemS a0 a1 = (fun n => some ((n.1, ()), (n.2, ()))) (n_laws_markMemS a0 a1) := by
  have hb : a0.length * 80 ≤ 2 ^ 47 := hk.1.1
  have hl : F_laws_markMemS_13 ((((), ()), (a1, ()), ((), ()), ()), (), (a0, ())) = some (.inl ((((markL u_Mem a0 a1).1, ()), ()), (), ((markL u_Mem a0 a1).2, ()))) :=
    loopN_mark (step := stx_laws_markMemS_13) a0 (([], [], false, []) : dM) (fun i k m => ((((), ()), (k, ()), ((i : Int), ()), ()), (), (m, ()))) u_Mem (fun k m => .inl (((k, ()), ()), (), (m, ()))) (fun i s m hi hm => by
      simp only [stx_laws_markMemS_13, st_laws_markMemS_13, ltb_t (show (i : Int) < m.length by omega), List.length_set, inb_nat hi, Int.toNat_natCast, List.set_set, cond_true, nth_set hi, wr (show -9223372036854775808 ≤ (i : Int) + 1 by omega) (by omega), Int.natCast_add, Int.natCast_one, nth_nat]
      rfl) (fun s m hm => by simp only [stx_laws_markMemS_13, st_laws_markMemS_13, hm, ltb_f (Int.le_refl _), cond_false]) a1 _ (by show _ < 18446744073709551616; omega)
  unfold raw_laws_markMemS n_laws_markMemS
  rw [hl]; rfl
noncomputable def con_laws_markMemS : Con := ⟨I_laws_markMemS, U_laws_markMemS, fun x => (fun n => some ((n.1, ()), (n.2, ()))) (n_laws_markMemS x.1 x.2.1)⟩
theorem ok_laws_markMemS : ConOk Try.prog 73 con_laws_markMemS := (ok0_laws_markMemS).mono (fun x r hk h => (nn_laws_markMemS x.1 x.2.1 hk).trans h)
end

/-! laws_markEntS -/
section
noncomputable def B_laws_markEntS : Code := (Try.f74.body).getD .skip
noncomputable def E_laws_markEntS : Env := envOf TT [(113, con_laws_markIntS)] []
theorem fr_laws_markEntS_0 : FrOk Try.prog ⟨E_laws_markEntS, 27, fun _ => none⟩ B_laws_markEntS := frOk_base mixed tt_ok ⟨ok_laws_markIntS, trivial⟩
noncomputable def D_laws_markEntS_0 : Nat → Option Seg := fun _ => none
def L_laws_markEntS_13 : Shape := ⟨[(0, false, [.at 1000001000]), (1, false, [.int .i64]), (5, false, [.int .i64])], [], [(1000001000, tW, (.pr .fz (.ow .fz)))]⟩
def S_laws_markEntS_13 : Shape := ⟨[(0, false, [.at 1000001000]), (1, false, [.int .i64]), (5, false, [.ci .i64 0])], [], [(1000001000, tW, (.pr .fz (.ow .fz)))]⟩
def O_laws_markEntS_13 : Shape := ⟨[(1, false, [.int .i64])], [], [(1000001000, tW, (.pr .fz (.ow .fz)))]⟩
def Z_laws_markEntS_13 : Shape := ⟨[], [], []⟩
noncomputable def st_laws_markEntS_13 (v0 v1 : Int) (v2 : List dW) : Option ((L_laws_markEntS_13).X ⊕ ((O_laws_markEntS_13).X ⊕ (Z_laws_markEntS_13).X)) :=
  bif (ltb v1 (v2.length : Int)) then
    bif (inb v1 v2.length) then
      bif (inb v1 (v2.set (v1).toNat (v0, (nth v2 v1 (0, [])).2)).length) then
        let r4 := n_laws_markIntS ((nth (v2.set (v1).toNat (v0, (nth v2 v1 (0, [])).2)) v1 (0, [])).2) (IntKind.i64.wrap (v0 + 1))
        some (.inl ((((), ()), (r4.1, ()), ((IntKind.i64.wrap (v1 + 1)), ()), ()), (), (((v2.set (v1).toNat (v0, (nth v2 v1 (0, [])).2)).set (v1).toNat ((nth (v2.set (v1).toNat (v0, (nth v2 v1 (0, [])).2)) v1 (0, [])).1, r4.2)), ())))
      else none
    else none
  else
    some (.inr (.inl (((v0, ()), ()), (), (v2, ()))))
noncomputable def stx_laws_markEntS_13 (x : (L_laws_markEntS_13).X) := st_laws_markEntS_13 x.1.2.1.1 x.1.2.2.1.1 x.2.2.1
def em_laws_markEntS_13 (x : (S_laws_markEntS_13).X) : (L_laws_markEntS_13).X := ((((), ()), (x.1.2.1.1, ()), (0, ()), ()), (), (x.2.2.1, ()))
noncomputable def c_laws_markEntS_13 : Code := (subN B_laws_markEntS 64 52).getD .skip
theorem a_laws_markEntS_13 : subN B_laws_markEntS 64 13 = some (.block 0 (.loop c_laws_markEntS_13)) := by kernel_rfl
theorem r_laws_markEntS_13 (x : (L_laws_markEntS_13).X) : roundT ⟨E_laws_markEntS, 27, D_laws_markEntS_0⟩ 0 c_laws_markEntS_13 52 L_laws_markEntS_13 O_laws_markEntS_13 Z_laws_markEntS_13 x = stx_laws_markEntS_13 x := by kernel_rfl
def fu_laws_markEntS_13 (x : (S_laws_markEntS_13).X) : Nat := 18446744073709551616
noncomputable def F_laws_markEntS_13 (x : (S_laws_markEntS_13).X) : Option ((O_laws_markEntS_13).X ⊕ (Z_laws_markEntS_13).X) := loopN stx_laws_markEntS_13 (fu_laws_markEntS_13 x) (em_laws_markEntS_13 x)
noncomputable def sg_laws_markEntS_13 : Seg := ⟨S_laws_markEntS_13, O_laws_markEntS_13, Z_laws_markEntS_13, F_laws_markEntS_13⟩
noncomputable def D_laws_markEntS_1 : Nat → Option Seg := fun q => bif Nat.beq q 13 then some sg_laws_markEntS_13 else D_laws_markEntS_0 q
theorem fr_laws_markEntS_1 : FrOk Try.prog ⟨E_laws_markEntS, 27, D_laws_markEntS_1⟩ B_laws_markEntS := (fr_laws_markEntS_0).loop (sg := sg_laws_markEntS_13) L_laws_markEntS_13 em_laws_markEntS_13 (by decide) a_laws_markEntS_13 stx_laws_markEntS_13 fu_laws_markEntS_13 (by decide) (fun _ => rfl) (fun x r _ h => h) r_laws_markEntS_13
abbrev I_laws_markEntS : List Par := [.mt tWs (.ow (.pr .fz (.ow .fz))), .rd tI]
abbrev U_laws_markEntS : List OT := [⟨false, tI, .fz⟩]
noncomputable def raw_laws_markEntS (a0 : List dW) (a1 : Int) : Option (ResD U_laws_markEntS × MutD I_laws_markEntS) :=
  segM (F_laws_markEntS_13 ((((), ()), (a1, ()), ((), ()), ()), (), (a0, ()))) (fun y4 =>
    some ((y4.1.1.1, ()), (y4.2.2.1, ()))) (fun y4 =>
    none)
theorem e_laws_markEntS (x : InD I_laws_markEntS) : execF ⟨E_laws_markEntS, 27, D_laws_markEntS_1⟩ Try.f74.results.toList B_laws_markEntS I_laws_markEntS U_laws_markEntS x = raw_laws_markEntS x.1 x.2.1 := by kernel_rfl
theorem ok0_laws_markEntS : ConOk Try.prog 74 ⟨I_laws_markEntS, U_laws_markEntS, fun x => raw_laws_markEntS x.1 x.2.1⟩ := conOk_exec (fr_laws_markEntS_1) Try.func74 (by kernel_rfl) (by kernel_rfl) Try.ntmps74.symm (by decide) (fun x r h => (e_laws_markEntS x).trans h)
noncomputable def u_Ent (x : dW) (k : Int) : Int × dW := (markEnd (IntKind.i64.wrap (k + 1)) x.2.length, (k, marks (IntKind.i64.wrap (k + 1)) x.2.length))
noncomputable def n_laws_markEntS (a0 : List (dW)) (a1 : Int) : Int × List (dW) := markL u_Ent a0 a1
theorem nn_laws_markEntS (a0 : List (dW)) (a1 : Int) (hk : InOk I_laws_markEntS (a0, a1, ())) : raw_laws_markEntS a0 a1 = (fun n => some ((n.1, ()), (n.2, ()))) (n_laws_markEntS a0 a1) := by
  have hb : a0.length * 32 ≤ 2 ^ 47 := hk.1.1
  have hl : F_laws_markEntS_13 ((((), ()), (a1, ()), ((), ()), ()), (), (a0, ())) = some (.inl ((((markL u_Ent a0 a1).1, ()), ()), (), ((markL u_Ent a0 a1).2, ()))) :=
    loopN_mark (step := stx_laws_markEntS_13) a0 ((0, []) : dW) (fun i k m => ((((), ()), (k, ()), ((i : Int), ()), ()), (), (m, ()))) u_Ent (fun k m => .inl (((k, ()), ()), (), (m, ()))) (fun i s m hi hm => by
      simp only [stx_laws_markEntS_13, st_laws_markEntS_13, ltb_t (show (i : Int) < m.length by omega), List.length_set, inb_nat hi, Int.toNat_natCast, List.set_set, cond_true, nth_set hi, wr (show -9223372036854775808 ≤ (i : Int) + 1 by omega) (by omega), Int.natCast_add, Int.natCast_one, nth_nat]
      rfl) (fun s m hm => by simp only [stx_laws_markEntS_13, st_laws_markEntS_13, hm, ltb_f (Int.le_refl _), cond_false]) a1 _ (by show _ < 18446744073709551616; omega)
  unfold raw_laws_markEntS n_laws_markEntS
  rw [hl]; rfl
noncomputable def con_laws_markEntS : Con := ⟨I_laws_markEntS, U_laws_markEntS, fun x => (fun n => some ((n.1, ()), (n.2, ()))) (n_laws_markEntS x.1 x.2.1)⟩
theorem ok_laws_markEntS : ConOk Try.prog 74 con_laws_markEntS := (ok0_laws_markEntS).mono (fun x r hk h => (nn_laws_markEntS x.1 x.2.1 hk).trans h)
end

/-! laws_markArr -/
section
noncomputable def B_laws_markArr : Code := (Try.f31.body).getD .skip
noncomputable def E_laws_markArr : Env := envOf TT [(73, con_laws_markMemS), (74, con_laws_markEntS)] []
theorem fr_laws_markArr_0 : FrOk Try.prog ⟨E_laws_markArr, 14, fun _ => none⟩ B_laws_markArr := frOk_base mixed tt_ok ⟨ok_laws_markMemS, ok_laws_markEntS, trivial⟩
noncomputable def D_laws_markArr_0 : Nat → Option Seg := fun _ => none
abbrev I_laws_markArr : List Par := [.mt tA (.pr .fz (.pr (.pr .fz .fz) (.pr (.ow (.pr (.ow (.ow .fz)) (.pr (.ow (.pr .fz (.ow .fz))) (.pr .fz (.ow .fz))))) (.pr .fz (.pr .fz (.pr .fz (.pr .fz (.pr .fz (.pr (.ow (.pr .fz (.ow .fz))) (.pr .fz (.pr .fz .fz))))))))))), .rd tI]
abbrev U_laws_markArr : List OT := [⟨false, tI, .fz⟩]
noncomputable def raw_laws_markArr (a0 : dA) (a1 : Int) : Option (ResD U_laws_markArr × MutD I_laws_markArr) :=
  let r1 := n_laws_markMemS a0.2.2.1 a1
  let r2 := n_laws_markEntS a0.2.2.2.2.2.2.2.2.1 r1.1
  some ((r2.1, ()), ((a0.1, a0.2.1, r1.2, a0.2.2.2.1, a0.2.2.2.2.1, a0.2.2.2.2.2.1, a0.2.2.2.2.2.2.1, a0.2.2.2.2.2.2.2.1, r2.2, a0.2.2.2.2.2.2.2.2.2), ()))
theorem e_laws_markArr (x : InD I_laws_markArr) : execF ⟨E_laws_markArr, 14, D_laws_markArr_0⟩ Try.f31.results.toList B_laws_markArr I_laws_markArr U_laws_markArr x = raw_laws_markArr x.1 x.2.1 := by kernel_rfl
theorem ok0_laws_markArr : ConOk Try.prog 31 ⟨I_laws_markArr, U_laws_markArr, fun x => raw_laws_markArr x.1 x.2.1⟩ := conOk_exec (fr_laws_markArr_0) Try.func31 (by kernel_rfl) (by kernel_rfl) Try.ntmps31.symm (by decide) (fun x r h => (e_laws_markArr x).trans h)
noncomputable def n_laws_markArr (a0 : dA) (a1 : Int) : Int × dA :=
  let r1 := n_laws_markMemS a0.2.2.1 a1
  let r2 := n_laws_markEntS a0.2.2.2.2.2.2.2.2.1 r1.1
  (r2.1, (a0.1, a0.2.1, r1.2, a0.2.2.2.1, a0.2.2.2.2.1, a0.2.2.2.2.2.1, a0.2.2.2.2.2.2.1, a0.2.2.2.2.2.2.2.1, r2.2, a0.2.2.2.2.2.2.2.2.2))
noncomputable def con_laws_markArr : Con := ⟨I_laws_markArr, U_laws_markArr, fun x => (fun n => some ((n.1, ()), (n.2, ()))) (n_laws_markArr x.1 x.2.1)⟩
theorem nn_laws_markArr (a0 : dA) (a1 : Int) : raw_laws_markArr a0 a1 = (fun n => some ((n.1, ()), (n.2, ()))) (n_laws_markArr a0 a1) := bif_ty (p := fun (n : Int × dA) => ((n.1, ()), (n.2, ()))) rfl
theorem ok_laws_markArr : ConOk Try.prog 31 con_laws_markArr := (ok0_laws_markArr).mono (fun x r _ h => (nn_laws_markArr x.1 x.2.1).trans h)
end

/-! laws_heldIntS -/
section
noncomputable def B_laws_heldIntS : Code := (Try.f116.body).getD .skip
noncomputable def E_laws_heldIntS : Env := envOf TT [] []
theorem fr_laws_heldIntS_0 : FrOk Try.prog ⟨E_laws_heldIntS, 21, fun _ => none⟩ B_laws_heldIntS := frOk_base mixed tt_ok trivial
noncomputable def D_laws_heldIntS_0 : Nat → Option Seg := fun _ => none
def L_laws_heldIntS_13 : Shape := ⟨[(0, false, [.br tI]), (1, false, [.int .i64]), (5, false, [.int .i64])], [], []⟩
def S_laws_heldIntS_13 : Shape := ⟨[(0, false, [.br tI]), (1, false, [.int .i64]), (5, false, [.ci .i64 0])], [], []⟩
def O_laws_heldIntS_13 : Shape := ⟨[(1, false, [.int .i64])], [], []⟩
def Z_laws_heldIntS_13 : Shape := ⟨[(4, false, [.int .i64])], [], []⟩
noncomputable def st_laws_heldIntS_13 (v0 : List Int) (v1 v2 : Int) : Option ((L_laws_heldIntS_13).X ⊕ ((O_laws_heldIntS_13).X ⊕ (Z_laws_heldIntS_13).X)) :=
  bif (ltb v2 (v0.length : Int)) then
    bif (inb v2 v0.length) then
      bif ((nth v0 v2 0) != v1) then
        some (.inr (.inr ((((-1), ()), ()), (), ())))
      else
        some (.inl (((v0, ()), ((IntKind.i64.wrap (v1 + 1)), ()), ((IntKind.i64.wrap (v2 + 1)), ()), ()), (), ()))
    else none
  else
    some (.inr (.inl (((v1, ()), ()), (), ())))
noncomputable def stx_laws_heldIntS_13 (x : (L_laws_heldIntS_13).X) := st_laws_heldIntS_13 x.1.1.1 x.1.2.1.1 x.1.2.2.1.1
def em_laws_heldIntS_13 (x : (S_laws_heldIntS_13).X) : (L_laws_heldIntS_13).X := (((x.1.1.1, ()), (x.1.2.1.1, ()), (0, ()), ()), (), ())
noncomputable def c_laws_heldIntS_13 : Code := (subN B_laws_heldIntS 64 52).getD .skip
theorem a_laws_heldIntS_13 : subN B_laws_heldIntS 64 13 = some (.block 0 (.loop c_laws_heldIntS_13)) := by kernel_rfl
theorem r_laws_heldIntS_13 (x : (L_laws_heldIntS_13).X) : roundT ⟨E_laws_heldIntS, 21, D_laws_heldIntS_0⟩ 0 c_laws_heldIntS_13 52 L_laws_heldIntS_13 O_laws_heldIntS_13 Z_laws_heldIntS_13 x = stx_laws_heldIntS_13 x := by kernel_rfl
def fu_laws_heldIntS_13 (x : (S_laws_heldIntS_13).X) : Nat := 18446744073709551616
noncomputable def F_laws_heldIntS_13 (x : (S_laws_heldIntS_13).X) : Option ((O_laws_heldIntS_13).X ⊕ (Z_laws_heldIntS_13).X) := loopN stx_laws_heldIntS_13 (fu_laws_heldIntS_13 x) (em_laws_heldIntS_13 x)
noncomputable def sg_laws_heldIntS_13 : Seg := ⟨S_laws_heldIntS_13, O_laws_heldIntS_13, Z_laws_heldIntS_13, F_laws_heldIntS_13⟩
noncomputable def D_laws_heldIntS_1 : Nat → Option Seg := fun q => bif Nat.beq q 13 then some sg_laws_heldIntS_13 else D_laws_heldIntS_0 q
theorem fr_laws_heldIntS_1 : FrOk Try.prog ⟨E_laws_heldIntS, 21, D_laws_heldIntS_1⟩ B_laws_heldIntS := (fr_laws_heldIntS_0).loop (sg := sg_laws_heldIntS_13) L_laws_heldIntS_13 em_laws_heldIntS_13 (by decide) a_laws_heldIntS_13 stx_laws_heldIntS_13 fu_laws_heldIntS_13 (by decide) (fun _ => rfl) (fun x r _ h => h) r_laws_heldIntS_13
abbrev I_laws_heldIntS : List Par := [.rd tL, .rd tI]
abbrev U_laws_heldIntS : List OT := [⟨false, tI, .fz⟩]
noncomputable def raw_laws_heldIntS (a0 : List Int) (a1 : Int) : Option (ResD U_laws_heldIntS × MutD I_laws_heldIntS) :=
  segM (F_laws_heldIntS_13 (((a0, ()), (a1, ()), ((), ()), ()), (), ())) (fun y0 =>
    some ((y0.1.1.1, ()), ())) (fun y0 =>
    some ((y0.1.1.1, ()), ()))
theorem e_laws_heldIntS (x : InD I_laws_heldIntS) : execF ⟨E_laws_heldIntS, 21, D_laws_heldIntS_1⟩ Try.f116.results.toList B_laws_heldIntS I_laws_heldIntS U_laws_heldIntS x = raw_laws_heldIntS x.1 x.2.1 := by kernel_rfl
theorem ok0_laws_heldIntS : ConOk Try.prog 116 ⟨I_laws_heldIntS, U_laws_heldIntS, fun x => raw_laws_heldIntS x.1 x.2.1⟩ := conOk_exec (fr_laws_heldIntS_1) Try.func116 (by kernel_rfl) (by kernel_rfl) Try.ntmps116.symm (by decide) (fun x r h => (e_laws_heldIntS x).trans h)
noncomputable def n_laws_heldIntS (a0 : List Int) (a1 : Int) : Int := bif (List.range a0.length).any (fun i => a0.getD i 0 != markEnd a1 i) then -1 else markEnd a1 a0.length
theorem nn_laws_heldIntS (a0 : List Int) (a1 : Int) (hk : InOk I_laws_heldIntS (a0, a1, ())) : raw_laws_heldIntS a0 a1 = (fun n => some ((n, ()), ())) (n_laws_heldIntS a0 a1) := by
  have hb : a0.length * 8 ≤ 2 ^ 47 := hk.1.1
  have hl : F_laws_heldIntS_13 (((a0, ()), (a1, ()), ((), ()), ()), (), ()) = some (bif (List.range a0.length).any (fun i => a0.getD i 0 != markEnd a1 i) then .inr ((((-1), ()), ()), (), ()) else .inl (((markEnd a1 a0.length, ()), ()), (), ())) :=
    loopN_all (step := stx_laws_heldIntS_13) (fun i => (((a0, ()), (markEnd a1 i, ()), ((i : Int), ()), ()), (), ())) a0.length (fun i => a0.getD i 0 != markEnd a1 i) _ _ (fun i hi => by
      simp only [stx_laws_heldIntS_13, st_laws_heldIntS_13, inb_nat hi, nth_nat, ltb_t (show (i : Int) < a0.length by omega), cond_true, wr (show -9223372036854775808 ≤ (i : Int) + 1 by omega) (by omega), Int.natCast_add, Int.natCast_one, markEnd_succ]
      cases (a0.getD i 0 != markEnd a1 i) <;> rfl) (by simp only [stx_laws_heldIntS_13, st_laws_heldIntS_13, ltb_f (Int.le_refl _), cond_false]) _ (by show _ < 18446744073709551616; omega)
  unfold raw_laws_heldIntS n_laws_heldIntS
  rw [hl]
  cases (List.range a0.length).any (fun i => a0.getD i 0 != markEnd a1 i) <;> rfl
theorem marks_get : ∀ (n i : Nat) (k : Int), i < n → (marks k n).getD i 0 = markEnd k i
  | n + 1, 0, k, _ => rfl
  | n + 1, i + 1, k, h => marks_get n i _ (by omega)
theorem held_marks (n : Nat) (k : Int) : n_laws_heldIntS (marks k n) k = markEnd k n := by
  unfold n_laws_heldIntS
  rw [marks_len]
  have : (List.range n).any (fun i => (marks k n).getD i 0 != markEnd k i) = false := by
    rw [List.any_eq_false]
    intro i hi
    rw [marks_get n i k (List.mem_range.1 hi)]
    simp
  rw [this]; rfl
noncomputable def con_laws_heldIntS : Con := ⟨I_laws_heldIntS, U_laws_heldIntS, fun x => (fun n => some ((n, ()), ())) (n_laws_heldIntS x.1 x.2.1)⟩
theorem ok_laws_heldIntS : ConOk Try.prog 116 con_laws_heldIntS := (ok0_laws_heldIntS).mono (fun x r hk h => (nn_laws_heldIntS x.1 x.2.1 hk).trans h)
end

/-! laws_heldIntSS -/
section
noncomputable def B_laws_heldIntSS : Code := (Try.f114.body).getD .skip
noncomputable def E_laws_heldIntSS : Env := envOf TT [(116, con_laws_heldIntS)] []
theorem fr_laws_heldIntSS_0 : FrOk Try.prog ⟨E_laws_heldIntSS, 21, fun _ => none⟩ B_laws_heldIntSS := frOk_base mixed tt_ok ⟨ok_laws_heldIntS, trivial⟩
noncomputable def D_laws_heldIntSS_0 : Nat → Option Seg := fun _ => none
def L_laws_heldIntSS_13 : Shape := ⟨[(0, false, [.br tL]), (1, false, [.int .i64]), (5, false, [.int .i64])], [], []⟩
def S_laws_heldIntSS_13 : Shape := ⟨[(0, false, [.br tL]), (1, false, [.int .i64]), (5, false, [.ci .i64 0])], [], []⟩
def O_laws_heldIntSS_13 : Shape := ⟨[(1, false, [.int .i64])], [], []⟩
def Z_laws_heldIntSS_13 : Shape := ⟨[(4, false, [.int .i64])], [], []⟩
noncomputable def st_laws_heldIntSS_13 (v0 : List (List Int)) (v1 v2 : Int) : Option ((L_laws_heldIntSS_13).X ⊕ ((O_laws_heldIntSS_13).X ⊕ (Z_laws_heldIntSS_13).X)) :=
  bif (ltb v2 (v0.length : Int)) then
    bif (inb v2 v0.length) then
      let r2 := n_laws_heldIntS (nth v0 v2 []) v1
      bif (ltb r2 0) then
        some (.inr (.inr ((((-1), ()), ()), (), ())))
      else
        some (.inl (((v0, ()), (r2, ()), ((IntKind.i64.wrap (v2 + 1)), ()), ()), (), ()))
    else none
  else
    some (.inr (.inl (((v1, ()), ()), (), ())))
noncomputable def stx_laws_heldIntSS_13 (x : (L_laws_heldIntSS_13).X) := st_laws_heldIntSS_13 x.1.1.1 x.1.2.1.1 x.1.2.2.1.1
def em_laws_heldIntSS_13 (x : (S_laws_heldIntSS_13).X) : (L_laws_heldIntSS_13).X := (((x.1.1.1, ()), (x.1.2.1.1, ()), (0, ()), ()), (), ())
noncomputable def c_laws_heldIntSS_13 : Code := (subN B_laws_heldIntSS 64 52).getD .skip
theorem a_laws_heldIntSS_13 : subN B_laws_heldIntSS 64 13 = some (.block 0 (.loop c_laws_heldIntSS_13)) := by kernel_rfl
theorem r_laws_heldIntSS_13 (x : (L_laws_heldIntSS_13).X) : roundT ⟨E_laws_heldIntSS, 21, D_laws_heldIntSS_0⟩ 0 c_laws_heldIntSS_13 52 L_laws_heldIntSS_13 O_laws_heldIntSS_13 Z_laws_heldIntSS_13 x = stx_laws_heldIntSS_13 x := by kernel_rfl
def fu_laws_heldIntSS_13 (x : (S_laws_heldIntSS_13).X) : Nat := 18446744073709551616
noncomputable def F_laws_heldIntSS_13 (x : (S_laws_heldIntSS_13).X) : Option ((O_laws_heldIntSS_13).X ⊕ (Z_laws_heldIntSS_13).X) := loopN stx_laws_heldIntSS_13 (fu_laws_heldIntSS_13 x) (em_laws_heldIntSS_13 x)
noncomputable def sg_laws_heldIntSS_13 : Seg := ⟨S_laws_heldIntSS_13, O_laws_heldIntSS_13, Z_laws_heldIntSS_13, F_laws_heldIntSS_13⟩
noncomputable def D_laws_heldIntSS_1 : Nat → Option Seg := fun q => bif Nat.beq q 13 then some sg_laws_heldIntSS_13 else D_laws_heldIntSS_0 q
theorem fr_laws_heldIntSS_1 : FrOk Try.prog ⟨E_laws_heldIntSS, 21, D_laws_heldIntSS_1⟩ B_laws_heldIntSS := (fr_laws_heldIntSS_0).loop (sg := sg_laws_heldIntSS_13) L_laws_heldIntSS_13 em_laws_heldIntSS_13 (by decide) a_laws_heldIntSS_13 stx_laws_heldIntSS_13 fu_laws_heldIntSS_13 (by decide) (fun _ => rfl) (fun x r _ h => h) r_laws_heldIntSS_13
abbrev I_laws_heldIntSS : List Par := [.rd tLL, .rd tI]
abbrev U_laws_heldIntSS : List OT := [⟨false, tI, .fz⟩]
noncomputable def raw_laws_heldIntSS (a0 : List (List Int)) (a1 : Int) : Option (ResD U_laws_heldIntSS × MutD I_laws_heldIntSS) :=
  segM (F_laws_heldIntSS_13 (((a0, ()), (a1, ()), ((), ()), ()), (), ())) (fun y2 =>
    some ((y2.1.1.1, ()), ())) (fun y2 =>
    some ((y2.1.1.1, ()), ()))
theorem e_laws_heldIntSS (x : InD I_laws_heldIntSS) : execF ⟨E_laws_heldIntSS, 21, D_laws_heldIntSS_1⟩ Try.f114.results.toList B_laws_heldIntSS I_laws_heldIntSS U_laws_heldIntSS x = raw_laws_heldIntSS x.1 x.2.1 := by kernel_rfl
theorem ok0_laws_heldIntSS : ConOk Try.prog 114 ⟨I_laws_heldIntSS, U_laws_heldIntSS, fun x => raw_laws_heldIntSS x.1 x.2.1⟩ := conOk_exec (fr_laws_heldIntSS_1) Try.func114 (by kernel_rfl) (by kernel_rfl) Try.ntmps114.symm (by decide) (fun x r h => (e_laws_heldIntSS x).trans h)
noncomputable def hd_IntS (x : List Int) (k : Int) : Int := n_laws_heldIntS x k
noncomputable def n_laws_heldIntSS (a0 : List (List Int)) (a1 : Int) : Int := (szG hd_IntS a0 a1).getD (-1)
theorem nn_laws_heldIntSS (a0 : List (List Int)) (a1 : Int) (hk : InOk I_laws_heldIntSS (a0, a1, ())) : raw_laws_heldIntSS a0 a1 = (fun n => some ((n, ()), ())) (n_laws_heldIntSS a0 a1) := by
  have hb : a0.length * 24 ≤ 2 ^ 47 := hk.1.1
  have hl : F_laws_heldIntSS_13 (((a0, ()), (a1, ()), ((), ()), ()), (), ()) = some (match szG hd_IntS a0 a1 with | some r => .inl (((r, ()), ()), (), ()) | none => .inr ((((-1), ()), ()), (), ())) :=
    loopN_sz (step := stx_laws_heldIntSS_13) a0 ([] : List Int) (fun i k => (((a0, ()), (k, ()), ((i : Int), ()), ()), (), ())) hd_IntS (fun r => .inl (((r, ()), ()), (), ())) (.inr ((((-1), ()), ()), (), ())) (fun i s hi => by
      simp only [stx_laws_heldIntSS_13, st_laws_heldIntSS_13, ltb_t (show (i : Int) < a0.length by omega), inb_nat hi, nth_nat, cond_true, wr (show -9223372036854775808 ≤ (i : Int) + 1 by omega) (by omega), Int.natCast_add, Int.natCast_one, hd_IntS]
      cases ltb (n_laws_heldIntS (a0.getD i ([] : List Int)) s) 0 <;> rfl) (fun s => by simp only [stx_laws_heldIntSS_13, st_laws_heldIntSS_13, ltb_f (Int.le_refl _), cond_false]) a1 _ (by show _ < 18446744073709551616; omega)
  unfold raw_laws_heldIntSS n_laws_heldIntSS
  rw [hl]
  cases szG hd_IntS a0 a1 <;> rfl
noncomputable def con_laws_heldIntSS : Con := ⟨I_laws_heldIntSS, U_laws_heldIntSS, fun x => (fun n => some ((n, ()), ())) (n_laws_heldIntSS x.1 x.2.1)⟩
theorem ok_laws_heldIntSS : ConOk Try.prog 114 con_laws_heldIntSS := (ok0_laws_heldIntSS).mono (fun x r hk h => (nn_laws_heldIntSS x.1 x.2.1 hk).trans h)
end
end Go.Tf
