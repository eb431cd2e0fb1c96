/- Functions of the program, and what they come to. -/
import Derived.Test.YtmamkjioahnecabExactSpareF15
namespace Go.Tf
open Go.Proofs
set_option synthInstance.maxHeartbeats 400000
set_option synthInstance.maxSize 10000
set_option linter.unusedVariables false
set_option linter.unusedSimpArgs false
set_option maxRecDepth 100000
/-! impl_goodOr -/
section
noncomputable def B_impl_goodOr : Code := (Try.f50.body).getD .skip
noncomputable def E_impl_goodOr : Env := envOf TT [] []
theorem fr_impl_goodOr_0 : FrOk Try.prog ⟨E_impl_goodOr, 4, fun _ => none⟩ B_impl_goodOr := frOk_base mixed tt_ok trivial
noncomputable def D_impl_goodOr_0 : Nat → Option Seg := fun _ => none
abbrev I_impl_goodOr : List Par := [.rd tB]
abbrev U_impl_goodOr : List OT := [⟨false, tI, .fz⟩]
noncomputable def raw_impl_goodOr (a0 : Bool) : Option (ResD U_impl_goodOr × MutD I_impl_goodOr) :=
  bif a0 then
    some ((0, ()), ())
  else
    some ((6, ()), ())
theorem e_impl_goodOr (x : InD I_impl_goodOr) : execF ⟨E_impl_goodOr, 4, D_impl_goodOr_0⟩ Try.f50.results.toList B_impl_goodOr I_impl_goodOr U_impl_goodOr x = raw_impl_goodOr x.1 := by kernel_rfl
theorem ok0_impl_goodOr : ConOk Try.prog 50 ⟨I_impl_goodOr, U_impl_goodOr, fun x => raw_impl_goodOr x.1⟩ := conOk_exec (fr_impl_goodOr_0) Try.func50 (by kernel_rfl) (by kernel_rfl) Try.ntmps50.symm (by decide) (fun x r h => (e_impl_goodOr x).trans h)
noncomputable def n_impl_goodOr (a0 : Bool) : Int :=
  bif a0 then
    0
  else
    6
noncomputable def con_impl_goodOr : Con := ⟨I_impl_goodOr, U_impl_goodOr, fun x => (fun n => some ((n, ()), ())) (n_impl_goodOr x.1)⟩
theorem nn_impl_goodOr (a0 : Bool) : raw_impl_goodOr a0 = (fun n => some ((n, ()), ())) (n_impl_goodOr a0) := bif_ty (p := fun (n : Int) => ((n, ()), ())) (bif_some (p := fun (n : Int) => ((n, ()), ())) rfl rfl)
theorem ok_impl_goodOr : ConOk Try.prog 50 con_impl_goodOr := (ok0_impl_goodOr).mono (fun x r _ h => (nn_impl_goodOr x.1).trans h)
end

/-! impl_Spare -/
section
noncomputable def B_impl_Spare : Code := (Try.f16.body).getD .skip
noncomputable def E_impl_Spare : Env := envOf TT [(37, con_impl_copyArr), (38, con_impl_ArrOk), (41, con_impl_Arr_mark), (48, con_impl_MemNew), (49, con_impl_sectors), (50, con_impl_goodOr)] []
theorem fr_impl_Spare_0 : FrOk Try.prog ⟨E_impl_Spare, 55, fun _ => none⟩ B_impl_Spare := frOk_base mixed tt_ok ⟨ok_impl_copyArr, ok_impl_ArrOk, ok_impl_Arr_mark, ok_impl_MemNew, ok_impl_sectors, ok_impl_goodOr, trivial⟩
noncomputable def D_impl_Spare_0 : Nat → Option Seg := fun _ => none
abbrev I_impl_Spare : List Par := [.rd tA]
abbrev U_impl_Spare : List OT := [⟨false, tA, (.pr .fz (.pr (.pr .fz .fz) (.pr (.ow (.pr (.ow (.ow .fz)) (.pr (.ow (.pr .fz (.ow .fz))) (.pr .fz (.ow .fz))))) (.pr .fz (.pr .fz (.pr .fz (.pr .fz (.pr .fz (.pr (.ow (.pr .fz (.ow .fz))) (.pr .fz (.pr .fz .fz)))))))))))⟩, ⟨false, tI, .fz⟩]
noncomputable def raw_impl_Spare (a0 : dA) : Option (ResD U_impl_Spare × MutD I_impl_Spare) :=
  let r1 := n_impl_copyArr a0
  let r2 := n_impl_ArrOk a0
  bif (!r2) then
    some ((r1, 1, ()), ())
  else
    bif a0.2.2.2.2.2.2.2.2.2.2.1 then
      some ((r1, 6, ()), ())
    else
      bif (!(a0.2.2.2.1 == (-1))) then
        bif (inb a0.2.2.2.1 a0.2.2.1.length) then
          bif (!((((nth a0.2.2.1 a0.2.2.2.1 ([], [], false, [])).2).2).1)) then
            some ((r1, 2, ()), ())
          else
            bif a0.2.2.2.2.2.2.2.2.2.2.2 then
              some ((r1, 5, ()), ())
            else
              bif (leb 59990 a0.2.2.2.2.2.2.2.1) then
                some ((r1, 7, ()), ())
              else
                let r3 := n_impl_sectors a0.2.1
                let r4 := n_impl_MemNew r3
                bif (inb a0.2.2.2.1 r1.2.2.1.length) then
                  bnd (o_impl_Arr_mark (r1.1, r1.2.1, (r1.2.2.1.set (a0.2.2.2.1).toNat r4), r1.2.2.2.1, 0, r1.2.2.2.2.2)) fun r5 =>
                  let r6 := n_impl_goodOr r5.1.1
                  some ((r5.2.1, r6, ()), ())
                else none
        else none
      else
        some ((r1, 2, ()), ())
theorem e_impl_Spare (x : InD I_impl_Spare) : execF ⟨E_impl_Spare, 55, D_impl_Spare_0⟩ Try.f16.results.toList B_impl_Spare I_impl_Spare U_impl_Spare x = raw_impl_Spare x.1 := by kernel_rfl
theorem ok0_impl_Spare : ConOk Try.prog 16 ⟨I_impl_Spare, U_impl_Spare, fun x => raw_impl_Spare x.1⟩ := conOk_exec (fr_impl_Spare_0) Try.func16 (by kernel_rfl) (by kernel_rfl) Try.ntmps16.symm (by decide) (fun x r h => (e_impl_Spare x).trans h)
noncomputable def n_impl_Spare (a0 : dA) : dA × Int := spareA a0
theorem nn_impl_Spare (a0 : dA) (hk : InOk I_impl_Spare (a0, ())) : raw_impl_Spare a0 = (fun n => some ((n.1, n.2, ()), ())) (n_impl_Spare a0) := by
  unfold raw_impl_Spare n_impl_Spare spareA
  simp only [n_impl_copyArr, n_impl_ArrOk]
  cases ha : arrOk a0
  · rfl
  have hg := geo_iff.1 (arrOk_geo ha)
  cases hd : downA a0
  · rw [show a0.2.2.2.2.2.2.2.2.2.2.1 = false from hd]
    cases hl : (a0.2.2.2.1 == -1)
    · have hi := lost_in ha (beq_eq_false_iff_ne.1 hl)
      have hm : o_impl_Arr_mark (spareNew a0) = some ((!(downA (markA (spareNew a0))), ()), (markA (spareNew a0), ())) := ot_impl_Arr_mark (spareNew a0) (by unfold q_impl_Arr_mark; rw [show downA (spareNew a0) = downA a0 from rfl, hd]; rfl)
      simp only [n_impl_sectors, wr (show -9223372036854775808 ≤ 6 + a0.2.1.2 by omega) (by omega), hi, n_impl_MemNew]
      rw [show o_impl_Arr_mark (a0.1, a0.2.1, a0.2.2.1.set a0.2.2.2.1.toNat (memNew (6 + a0.2.1.2)), a0.2.2.2.1, 0, a0.2.2.2.2.2) = _ from hm]
      simp only [bnd_some, n_impl_goodOr]
      cases (nth a0.2.2.1 a0.2.2.2.1 noMem).2.2.1 <;> cases a0.2.2.2.2.2.2.2.2.2.2.2 <;> cases leb 59990 a0.2.2.2.2.2.2.2.1 <;> first | rfl | (cases downA (markA (spareNew a0)) <;> rfl)
    · rfl
  · rw [show a0.2.2.2.2.2.2.2.2.2.2.1 = true from hd]; rfl
noncomputable def con_impl_Spare : Con := ⟨I_impl_Spare, U_impl_Spare, fun x => (fun n => some ((n.1, n.2, ()), ())) (n_impl_Spare x.1)⟩
theorem ok_impl_Spare : ConOk Try.prog 16 con_impl_Spare := (ok0_impl_Spare).mono (fun x r hk h => (nn_impl_Spare x.1 hk).trans h)
end

/-! laws_FnExactSpare -/
section
noncomputable def B_laws_FnExactSpare : Code := (Try.f5.body).getD .skip
noncomputable def E_laws_FnExactSpare : Env := envOf TT [(6, con_laws_szArr), (8, con_laws_toArr), (10, con_laws_eqArr), (13, con_laws_markArr), (14, con_laws_heldArr), (15, con_spec_Spare), (16, con_impl_Spare)] []
theorem fr_laws_FnExactSpare_0 : FrOk Try.prog ⟨E_laws_FnExactSpare, 96, fun _ => none⟩ B_laws_FnExactSpare := frOk_base mixed tt_ok ⟨ok_laws_szArr, ok_laws_toArr, ok_laws_eqArr, ok_laws_markArr, ok_laws_heldArr, ok_spec_Spare, ok_impl_Spare, trivial⟩
noncomputable def D_laws_FnExactSpare_0 : Nat → Option Seg := fun _ => none
abbrev I_laws_FnExactSpare : List Par := [.rd tA]
abbrev U_laws_FnExactSpare : List OT := [⟨false, tB, .fz⟩]
noncomputable def raw_laws_FnExactSpare (a0 : dA) : Option (ResD U_laws_FnExactSpare × MutD I_laws_FnExactSpare) :=
  let r1 := n_laws_szArr a0 1048576
  bif (ltb r1 0) then
    some ((true, ()), ())
  else
    let r2 := n_laws_toArr a0
    let r3 := n_spec_Spare r2
    let r4 := n_laws_toArr a0
    let r5 := n_impl_Spare r4
    let r6 := n_laws_eqArr r5.1 r3.1
    bif (!(!r6)) then
      bif (r5.2 != r3.2) then
        some ((false, ()), ())
      else
        let r7 := n_laws_toArr a0
        let r8 := n_laws_eqArr r4 r7
        bif (!r8) then
          some ((false, ()), ())
        else
          let r9 := n_laws_markArr r4 1
          bif (!(ltb r9.1 0)) then
            let r10 := n_laws_eqArr r5.1 r3.1
            bif (!(!r10)) then
              bif (r5.2 != r3.2) then
                some ((false, ()), ())
              else
                let r11 := n_laws_markArr r5.1 1
                let r12 := n_laws_heldArr (r5.1.1, r5.1.2.1, r11.2.2.2.1, r5.1.2.2.2.1, r5.1.2.2.2.2.1, r5.1.2.2.2.2.2.1, r5.1.2.2.2.2.2.2.1, r5.1.2.2.2.2.2.2.2.1, r11.2.2.2.2.2.2.2.2.2.1, r5.1.2.2.2.2.2.2.2.2.2) 1
                bif (ltb r12 0) then
                  some ((false, ()), ())
                else
                  bif (r12 != r11.1) then
                    some ((false, ()), ())
                  else
                    let r13 := n_laws_toArr a0
                    let r14 := n_impl_Spare r13
                    let r15 := n_laws_eqArr r14.1 r3.1
                    bif (!(!r15)) then
                      bif (r14.2 != r3.2) then
                        some ((false, ()), ())
                      else
                        let r16 := n_laws_heldArr (r5.1.1, r5.1.2.1, r11.2.2.2.1, r5.1.2.2.2.1, r5.1.2.2.2.2.1, r5.1.2.2.2.2.2.1, r5.1.2.2.2.2.2.2.1, r5.1.2.2.2.2.2.2.2.1, r11.2.2.2.2.2.2.2.2.2.1, r5.1.2.2.2.2.2.2.2.2.2) 1
                        bif (ltb r16 0) then
                          some ((false, ()), ())
                        else
                          bif (r16 != r11.1) then
                            some ((false, ()), ())
                          else
                            some ((true, ()), ())
                    else
                      some ((false, ()), ())
            else
              some ((false, ()), ())
          else
            some ((false, ()), ())
    else
      some ((false, ()), ())
theorem e_laws_FnExactSpare (x : InD I_laws_FnExactSpare) : execF ⟨E_laws_FnExactSpare, 96, D_laws_FnExactSpare_0⟩ Try.f5.results.toList B_laws_FnExactSpare I_laws_FnExactSpare U_laws_FnExactSpare x = raw_laws_FnExactSpare x.1 := by kernel_rfl
theorem ok0_laws_FnExactSpare : ConOk Try.prog 5 ⟨I_laws_FnExactSpare, U_laws_FnExactSpare, fun x => raw_laws_FnExactSpare x.1⟩ := conOk_exec (fr_laws_FnExactSpare_0) Try.func5 (by kernel_rfl) (by kernel_rfl) Try.ntmps5.symm (by decide) (fun x r h => (e_laws_FnExactSpare x).trans h)
noncomputable def n_laws_FnExactSpare (a0 : dA) : Bool := true
theorem spareNew_ok {a : dA} (h : arrOk a = true) : okMems (spareNew a).2.2.1 ∧ (spareNew a).2.2.1.length = a.2.2.1.length := by
  have hg := geo_iff.1 (arrOk_geo h)
  exact ⟨okMems_set (arr_okMems h) (memNew_ok (by omega) (by omega)), List.length_set⟩
theorem spare_small {a : dA} (ha : mArr a ≤ 2097152) : mArr (spareA a).1 ≤ 2105000 := by
  have h0 : mArr a ≤ 2105000 := by omega
  unfold spareA
  cases hk : arrOk a
  · exact h0
  have hf := spareNew_ok hk
  have h5 := arr_five hk
  have hn := arr_small (x := markA (spareNew a)) ha (by rw [mark_len, hf.2]; exact h5) (mark_mems hf.1) (mark_dirty _)
  cases downA a
  · cases (a.2.2.2.1 == -1 || !((nth a.2.2.1 a.2.2.2.1 noMem).2.2.1))
    · cases a.2.2.2.2.2.2.2.2.2.2.2
      · cases leb 59990 a.2.2.2.2.2.2.2.1
        · exact hn
        · exact h0
      · exact h0
    · exact h0
  · exact h0
theorem nn_laws_FnExactSpare (a0 : dA) (hk : InOk I_laws_FnExactSpare (a0, ())) : raw_laws_FnExactSpare a0 = (fun n => some ((n, ()), ())) (n_laws_FnExactSpare a0) := by
  unfold raw_laws_FnExactSpare n_laws_FnExactSpare n_impl_Spare n_spec_Spare
  cases h : ltb (n_laws_szArr a0 1048576) 0
  · have hs := szArr_le (a := a0) hk.1 h
    have hf := spare_small hs
    obtain ⟨f1, f2, f3⟩ := mk_arr3 (x := a0) (by omega)
    obtain ⟨g1, g2, g3⟩ := mk_arr3 (x := (spareA a0).1) (by omega)
    simp only [h, id_laws_toArr, eqr_laws_eqArr, bne_self_eq_false, Bool.not_true, Bool.not_false, cond_true, cond_false, f1, g2, g3]
  · simp only [h, cond_true]
noncomputable def con_laws_FnExactSpare : Con := ⟨I_laws_FnExactSpare, U_laws_FnExactSpare, fun x => (fun n => some ((n, ()), ())) (n_laws_FnExactSpare x.1)⟩
theorem ok_laws_FnExactSpare : ConOk Try.prog 5 con_laws_FnExactSpare := (ok0_laws_FnExactSpare).mono (fun x r hk h => (nn_laws_FnExactSpare x.1 hk).trans h)
end
end Go.Tf
