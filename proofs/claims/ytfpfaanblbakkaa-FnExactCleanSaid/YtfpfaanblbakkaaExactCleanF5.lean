/- Functions of the program, and what they come to. -/
import Derived.Test.YtfpfaanblbakkaaExactCleanF4
namespace Go.Tf
open Go.Proofs
set_option synthInstance.maxHeartbeats 400000
set_option synthInstance.maxSize 10000
set_option linter.unusedVariables false
set_option linter.unusedSimpArgs false
set_option maxRecDepth 100000
/-! laws_eqArr -/
section
noncomputable def B_laws_eqArr : Code := (Try.f35.body).getD .skip
noncomputable def E_laws_eqArr : Env := envOf TT [(57, con_laws_eqMemS), (77, con_laws_eqGeo), (78, con_laws_eqEntS)] []
theorem fr_laws_eqArr_0 : FrOk Try.prog ⟨E_laws_eqArr, 68, fun _ => none⟩ B_laws_eqArr := frOk_base mixed tt_ok ⟨ok_laws_eqMemS, ok_laws_eqGeo, ok_laws_eqEntS, trivial⟩
noncomputable def D_laws_eqArr_0 : Nat → Option Seg := fun _ => none
abbrev I_laws_eqArr : List Par := [.rd tA, .rd tA]
abbrev U_laws_eqArr : List OT := [⟨false, tB, .fz⟩]
noncomputable def raw_laws_eqArr (a0 : Int × (Int × Int) × (List ((List (List Int)) × (List (Int × (List Int))) × Bool × (List Int))) × Int × Int × Int × Int × Int × (List (Int × (List Int))) × Int × Bool × Bool) (a1 : Int × (Int × Int) × (List ((List (List Int)) × (List (Int × (List Int))) × Bool × (List Int))) × Int × Int × Int × Int × Int × (List (Int × (List Int))) × Int × Bool × Bool) : Option (ResD U_laws_eqArr × MutD I_laws_eqArr) :=
  bif (a0.1 != a1.1) then
    some ((false, ()), ())
  else
    let r1 := n_laws_eqGeo a0.2.1 a1.2.1
    bif (!r1) then
      some ((false, ()), ())
    else
      let r2 := n_laws_eqMemS a0.2.2.1 a1.2.2.1
      bif (!r2) then
        some ((false, ()), ())
      else
        bif (a0.2.2.2.1 != a1.2.2.2.1) then
          some ((false, ()), ())
        else
          bif (a0.2.2.2.2.1 != a1.2.2.2.2.1) then
            some ((false, ()), ())
          else
            bif (a0.2.2.2.2.2.1 != a1.2.2.2.2.2.1) then
              some ((false, ()), ())
            else
              bif (a0.2.2.2.2.2.2.1 != a1.2.2.2.2.2.2.1) then
                some ((false, ()), ())
              else
                bif (a0.2.2.2.2.2.2.2.1 != a1.2.2.2.2.2.2.2.1) then
                  some ((false, ()), ())
                else
                  let r3 := n_laws_eqEntS a0.2.2.2.2.2.2.2.2.1 a1.2.2.2.2.2.2.2.2.1
                  bif (!r3) then
                    some ((false, ()), ())
                  else
                    bif (a0.2.2.2.2.2.2.2.2.2.1 != a1.2.2.2.2.2.2.2.2.2.1) then
                      some ((false, ()), ())
                    else
                      bif (!(a0.2.2.2.2.2.2.2.2.2.2.1 == a1.2.2.2.2.2.2.2.2.2.2.1)) then
                        some ((false, ()), ())
                      else
                        bif (!(a0.2.2.2.2.2.2.2.2.2.2.2 == a1.2.2.2.2.2.2.2.2.2.2.2)) then
                          some ((false, ()), ())
                        else
                          some ((true, ()), ())
theorem e_laws_eqArr (x : InD I_laws_eqArr) : execF ⟨E_laws_eqArr, 68, D_laws_eqArr_0⟩ Try.f35.results.toList B_laws_eqArr I_laws_eqArr U_laws_eqArr x = raw_laws_eqArr x.1 x.2.1 := by kernel_rfl
theorem ok0_laws_eqArr : ConOk Try.prog 35 ⟨I_laws_eqArr, U_laws_eqArr, fun x => raw_laws_eqArr x.1 x.2.1⟩ := conOk_exec (fr_laws_eqArr_0) Try.func35 (by kernel_rfl) (by kernel_rfl) Try.ntmps35.symm (by decide) (fun x r h => (e_laws_eqArr x).trans h)
noncomputable def n_laws_eqArr (a0 : Int × (Int × Int) × (List ((List (List Int)) × (List (Int × (List Int))) × Bool × (List Int))) × Int × Int × Int × Int × Int × (List (Int × (List Int))) × Int × Bool × Bool) (a1 : Int × (Int × Int) × (List ((List (List Int)) × (List (Int × (List Int))) × Bool × (List Int))) × Int × Int × Int × Int × Int × (List (Int × (List Int))) × Int × Bool × Bool) : Bool :=
  bif (a0.1 != a1.1) then
    false
  else
    let r1 := n_laws_eqGeo a0.2.1 a1.2.1
    bif (!r1) then
      false
    else
      let r2 := n_laws_eqMemS a0.2.2.1 a1.2.2.1
      bif (!r2) then
        false
      else
        bif (a0.2.2.2.1 != a1.2.2.2.1) then
          false
        else
          bif (a0.2.2.2.2.1 != a1.2.2.2.2.1) then
            false
          else
            bif (a0.2.2.2.2.2.1 != a1.2.2.2.2.2.1) then
              false
            else
              bif (a0.2.2.2.2.2.2.1 != a1.2.2.2.2.2.2.1) then
                false
              else
                bif (a0.2.2.2.2.2.2.2.1 != a1.2.2.2.2.2.2.2.1) then
                  false
                else
                  let r3 := n_laws_eqEntS a0.2.2.2.2.2.2.2.2.1 a1.2.2.2.2.2.2.2.2.1
                  bif (!r3) then
                    false
                  else
                    bif (a0.2.2.2.2.2.2.2.2.2.1 != a1.2.2.2.2.2.2.2.2.2.1) then
                      false
                    else
                      bif (!(a0.2.2.2.2.2.2.2.2.2.2.1 == a1.2.2.2.2.2.2.2.2.2.2.1)) then
                        false
                      else
                        bif (!(a0.2.2.2.2.2.2.2.2.2.2.2 == a1.2.2.2.2.2.2.2.2.2.2.2)) then
                          false
                        else
                          true
noncomputable def con_laws_eqArr : Con := ⟨I_laws_eqArr, U_laws_eqArr, fun x => (fun n => some ((n, ()), ())) (n_laws_eqArr x.1 x.2.1)⟩
theorem nn_laws_eqArr (a0 : Int × (Int × Int) × (List ((List (List Int)) × (List (Int × (List Int))) × Bool × (List Int))) × Int × Int × Int × Int × Int × (List (Int × (List Int))) × Int × Bool × Bool) (a1 : Int × (Int × Int) × (List ((List (List Int)) × (List (Int × (List Int))) × Bool × (List Int))) × Int × Int × Int × Int × Int × (List (Int × (List Int))) × Int × Bool × Bool) : raw_laws_eqArr a0 a1 = (fun n => some ((n, ()), ())) (n_laws_eqArr a0 a1) := bif_ty (p := fun (n : Bool) => ((n, ()), ())) (bif_some (p := fun (n : Bool) => ((n, ()), ())) rfl (bif_some (p := fun (n : Bool) => ((n, ()), ())) rfl (bif_some (p := fun (n : Bool) => ((n, ()), ())) rfl (bif_some (p := fun (n : Bool) => ((n, ()), ())) rfl (bif_some (p := fun (n : Bool) => ((n, ()), ())) rfl (bif_some (p := fun (n : Bool) => ((n, ()), ())) rfl (bif_some (p := fun (n : Bool) => ((n, ()), ())) rfl (bif_some (p := fun (n : Bool) => ((n, ()), ())) rfl (bif_some (p := fun (n : Bool) => ((n, ()), ())) rfl (bif_some (p := fun (n : Bool) => ((n, ()), ())) rfl (bif_some (p := fun (n : Bool) => ((n, ()), ())) rfl (bif_some (p := fun (n : Bool) => ((n, ()), ())) rfl rfl))))))))))))
theorem ok_laws_eqArr : ConOk Try.prog 35 con_laws_eqArr := (ok0_laws_eqArr).mono (fun x r _ h => (nn_laws_eqArr x.1 x.2.1).trans h)
theorem eqd_laws_eqArr (a b : Int × (Int × Int) × (List ((List (List Int)) × (List (Int × (List Int))) × Bool × (List Int))) × Int × Int × Int × Int × Int × (List (Int × (List Int))) × Int × Bool × Bool) : n_laws_eqArr a b = decide (a = b) := by
  unfold n_laws_eqArr
  simp only [eq_step1, eq_step2, eq_step3, eq_step4, eq_step5, eqd_laws_eqMemS, eqd_laws_eqGeo, eqd_laws_eqEntS, Prod.ext_iff, Bool.decide_and, Bool.and_true]
theorem eqr_laws_eqArr (a : Int × (Int × Int) × (List ((List (List Int)) × (List (Int × (List Int))) × Bool × (List Int))) × Int × Int × Int × Int × Int × (List (Int × (List Int))) × Int × Bool × Bool) : n_laws_eqArr a a = true := by rw [eqd_laws_eqArr]; exact decide_eq_true rfl
end

/-! laws_FnExactClean -/
section
noncomputable def B_laws_FnExactClean : Code := (Try.f6.body).getD .skip
noncomputable def E_laws_FnExactClean : Env := envOf TT [(31, con_laws_szArr), (32, con_spec_Clean), (33, con_laws_toArr), (34, con_impl_Clean), (35, con_laws_eqArr)] []
theorem fr_laws_FnExactClean_0 : FrOk Try.prog ⟨E_laws_FnExactClean, 27, fun _ => none⟩ B_laws_FnExactClean := frOk_base mixed tt_ok ⟨ok_laws_szArr, ok_spec_Clean, ok_laws_toArr, ok_impl_Clean, ok_laws_eqArr, trivial⟩
noncomputable def D_laws_FnExactClean_0 : Nat → Option Seg := fun _ => none
abbrev I_laws_FnExactClean : List Par := [.rd tA]
abbrev U_laws_FnExactClean : List OT := [⟨false, tB, .fz⟩]
noncomputable def raw_laws_FnExactClean (a0 : Int × (Int × Int) × (List ((List (List Int)) × (List (Int × (List Int))) × Bool × (List Int))) × Int × Int × Int × Int × Int × (List (Int × (List Int))) × Int × Bool × Bool) : Option (ResD U_laws_FnExactClean × MutD I_laws_FnExactClean) :=
  let r1 := n_laws_szArr a0 1048576
  bif (ltb r1 0) then
    some ((true, ()), ())
  else
    let r2 := n_laws_toArr a0
    let r3 := n_spec_Clean r2
    let r4 := n_laws_toArr a0
    let r5 := n_impl_Clean r4
    bif (!(r5 == r3)) then
      some ((false, ()), ())
    else
      let r6 := n_laws_toArr a0
      let r7 := n_laws_eqArr r4 r6
      bif (!r7) then
        some ((false, ()), ())
      else
        some ((true, ()), ())
theorem e_laws_FnExactClean (x : InD I_laws_FnExactClean) : execF ⟨E_laws_FnExactClean, 27, D_laws_FnExactClean_0⟩ Try.f6.results.toList B_laws_FnExactClean I_laws_FnExactClean U_laws_FnExactClean x = raw_laws_FnExactClean x.1 := by kernel_rfl
theorem ok0_laws_FnExactClean : ConOk Try.prog 6 ⟨I_laws_FnExactClean, U_laws_FnExactClean, fun x => raw_laws_FnExactClean x.1⟩ := conOk_exec (fr_laws_FnExactClean_0) Try.func6 (by kernel_rfl) (by kernel_rfl) Try.ntmps6.symm (by decide) (fun x r h => (e_laws_FnExactClean x).trans h)
noncomputable def n_laws_FnExactClean (a0 : dA) : Bool := true
theorem nn_laws_FnExactClean (a0 : dA) (hk : InOk I_laws_FnExactClean (a0, ())) : raw_laws_FnExactClean a0 = (fun n => some ((n, ()), ())) (n_laws_FnExactClean a0) := by
  unfold raw_laws_FnExactClean n_laws_FnExactClean n_impl_Clean n_spec_Clean
  simp only [beq_self_eq_true, Bool.not_true, cond_false, eqr_laws_eqArr]
  cases ltb (n_laws_szArr a0 1048576) 0 <;> rfl
noncomputable def con_laws_FnExactClean : Con := ⟨I_laws_FnExactClean, U_laws_FnExactClean, fun x => (fun n => some ((n, ()), ())) (n_laws_FnExactClean x.1)⟩
theorem ok_laws_FnExactClean : ConOk Try.prog 6 con_laws_FnExactClean := (ok0_laws_FnExactClean).mono (fun x r hk h => (nn_laws_FnExactClean x.1 hk).trans h)
end
end Go.Tf
