/- Functions of the program, and what they come to. -/
import Derived.Test.YtmamkjioahnecaaExactCanLoseF2
namespace Go.Tf
open Go.Proofs
set_option synthInstance.maxHeartbeats 400000
set_option synthInstance.maxSize 10000
set_option linter.unusedVariables false
set_option linter.unusedSimpArgs false
set_option maxRecDepth 100000
/-! spec_ArrOk -/
section
noncomputable def B_spec_ArrOk : Code := (Try.f81.body).getD .skip
noncomputable def E_spec_ArrOk : Env := envOf TT [(82, con_spec_l1In), (140, con_spec_GeoOk), (141, con_spec_l6Mems), (142, con_spec_l6Dirty)] []
theorem fr_spec_ArrOk_0 : FrOk Try.prog ⟨E_spec_ArrOk, 78, fun _ => none⟩ B_spec_ArrOk := frOk_base mixed tt_ok ⟨ok_spec_l1In, ok_spec_GeoOk, ok_spec_l6Mems, ok_spec_l6Dirty, trivial⟩
noncomputable def D_spec_ArrOk_0 : Nat → Option Seg := fun _ => none
abbrev I_spec_ArrOk : List Par := [.rd tA]
abbrev U_spec_ArrOk : List OT := [⟨false, tB, .fz⟩]
noncomputable def raw_spec_ArrOk (a0 : dA) : Option (ResD U_spec_ArrOk × MutD I_spec_ArrOk) :=
  let r1 := n_spec_GeoOk a0.2.1
  bif (!(!r1)) then
    let r2 := n_spec_l1In a0.1 1 60000
    bif (!(!r2)) then
      bnd (o_spec_l6Mems a0) fun r3 =>
      bif (!(!r3.1.1)) then
        bnd (o_spec_l6Dirty a0) fun r4 =>
        bif (!r4.1.1) then
          some ((false, ()), ())
        else
          let r5 := n_spec_l1In a0.2.2.2.1 (-1) (IntKind.i64.wrap (a0.2.1.1 - 1))
          bif (!(!r5)) then
            let r6 := n_spec_l1In a0.2.2.2.2.1 0 a0.2.1.2
            bif (!(!r6)) then
              bif (a0.2.2.2.1 == (-1)) then
                bif (a0.2.2.2.2.1 != 0) then
                  some ((false, ()), ())
                else
                  let r7 := n_spec_l1In a0.2.2.2.2.2.2.1 0 60000
                  bif r7 then
                    let r8 := n_spec_l1In a0.2.2.2.2.2.1 a0.2.2.2.2.2.2.1 60000
                    bif r8 then
                      bif (leb a0.2.2.2.2.2.1 (IntKind.i64.wrap (a0.2.2.2.2.2.2.1 + 4))) then
                        let r9 := n_spec_l1In a0.2.2.2.2.2.2.2.1 0 60000
                        bif r9 then
                          let r10 := n_spec_l1In a0.2.2.2.2.2.2.2.2.2.1 (-1) 1000
                          some ((r10, ()), ())
                        else
                          some ((false, ()), ())
                      else
                        some ((false, ()), ())
                    else
                      some ((false, ()), ())
                  else
                    some ((false, ()), ())
              else
                let r11 := n_spec_l1In a0.2.2.2.2.2.2.1 0 60000
                bif r11 then
                  let r12 := n_spec_l1In a0.2.2.2.2.2.1 a0.2.2.2.2.2.2.1 60000
                  bif r12 then
                    bif (leb a0.2.2.2.2.2.1 (IntKind.i64.wrap (a0.2.2.2.2.2.2.1 + 4))) then
                      let r13 := n_spec_l1In a0.2.2.2.2.2.2.2.1 0 60000
                      bif r13 then
                        let r14 := n_spec_l1In a0.2.2.2.2.2.2.2.2.2.1 (-1) 1000
                        some ((r14, ()), ())
                      else
                        some ((false, ()), ())
                    else
                      some ((false, ()), ())
                  else
                    some ((false, ()), ())
                else
                  some ((false, ()), ())
            else
              some ((false, ()), ())
          else
            some ((false, ()), ())
      else
        some ((false, ()), ())
    else
      some ((false, ()), ())
  else
    some ((false, ()), ())
theorem e_spec_ArrOk (x : InD I_spec_ArrOk) : execF ⟨E_spec_ArrOk, 78, D_spec_ArrOk_0⟩ Try.f81.results.toList B_spec_ArrOk I_spec_ArrOk U_spec_ArrOk x = raw_spec_ArrOk x.1 := by kernel_rfl
theorem ok0_spec_ArrOk : ConOk Try.prog 81 ⟨I_spec_ArrOk, U_spec_ArrOk, fun x => raw_spec_ArrOk x.1⟩ := conOk_exec (fr_spec_ArrOk_0) Try.func81 (by kernel_rfl) (by kernel_rfl) Try.ntmps81.symm (by decide) (fun x r h => (e_spec_ArrOk x).trans h)
noncomputable def n_spec_ArrOk (a0 : dA) : Bool := arrOk a0
theorem nn_spec_ArrOk (a0 : dA) (hk : InOk I_spec_ArrOk (a0, ())) : raw_spec_ArrOk a0 = (fun n => some ((n, ()), ())) (n_spec_ArrOk a0) := by
  unfold raw_spec_ArrOk n_spec_ArrOk arrOk
  simp only [in_eq]
  cases hg : n_spec_GeoOk a0.2.1
  · rfl
  have hg2 := geo_iff.1 hg
  rw [ot_spec_l6Mems a0 hg, ot_spec_l6Dirty a0 hg, wr (show -9223372036854775808 ≤ a0.2.1.1 - 1 by omega) (by omega)]
  simp only [bnd_some, n_spec_l6Mems, n_spec_l6Dirty, Bool.not_not, cond_true]
  cases (leb 1 a0.1 && leb a0.1 60000)
  · rfl
  cases memsOk a0
  · rfl
  cases dirtyOk a0.2.1 a0.2.2.2.2.2.2.2.2.1
  · rfl
  cases (leb (-1) a0.2.2.2.1 && leb a0.2.2.2.1 (a0.2.1.1 - 1))
  · rfl
  cases (leb 0 a0.2.2.2.2.1 && leb a0.2.2.2.2.1 a0.2.1.2)
  · rfl
  have ht : (leb 0 a0.2.2.2.2.2.2.1 && leb a0.2.2.2.2.2.2.1 60000) = true → IntKind.i64.wrap (a0.2.2.2.2.2.2.1 + 4) = a0.2.2.2.2.2.2.1 + 4 := fun h => by
    rw [Bool.and_eq_true, leb_iff, leb_iff] at h
    exact wr (by omega) (by omega)
  cases hT : (leb 0 a0.2.2.2.2.2.2.1 && leb a0.2.2.2.2.2.2.1 60000)
  · cases (a0.2.2.2.1 == -1) <;> cases (a0.2.2.2.2.1 != 0) <;> rfl
  rw [ht hT]
  cases (leb a0.2.2.2.2.2.2.1 a0.2.2.2.2.2.1 && leb a0.2.2.2.2.2.1 60000)
  · cases (a0.2.2.2.1 == -1) <;> cases (a0.2.2.2.2.1 != 0) <;> rfl
  cases leb a0.2.2.2.2.2.1 (a0.2.2.2.2.2.2.1 + 4)
  · cases (a0.2.2.2.1 == -1) <;> cases (a0.2.2.2.2.1 != 0) <;> rfl
  cases (leb 0 a0.2.2.2.2.2.2.2.1 && leb a0.2.2.2.2.2.2.2.1 60000) <;> cases (a0.2.2.2.1 == -1) <;> cases (a0.2.2.2.2.1 != 0) <;> rfl
noncomputable def con_spec_ArrOk : Con := ⟨I_spec_ArrOk, U_spec_ArrOk, fun x => (fun n => some ((n, ()), ())) (n_spec_ArrOk x.1)⟩
theorem ok_spec_ArrOk : ConOk Try.prog 81 con_spec_ArrOk := (ok0_spec_ArrOk).mono (fun x r hk h => (nn_spec_ArrOk x.1 hk).trans h)
end

/-! spec_DataAt -/
section
noncomputable def B_spec_DataAt : Code := (Try.f83.body).getD .skip
noncomputable def E_spec_DataAt : Env := envOf TT [(82, con_spec_l1In)] []
theorem fr_spec_DataAt_0 : FrOk Try.prog ⟨E_spec_DataAt, 9, fun _ => none⟩ B_spec_DataAt := frOk_base mixed tt_ok ⟨ok_spec_l1In, trivial⟩
noncomputable def D_spec_DataAt_0 : Nat → Option Seg := fun _ => none
abbrev I_spec_DataAt : List Par := [.rd tI]
abbrev U_spec_DataAt : List OT := [⟨false, tI, .fz⟩]
noncomputable def raw_spec_DataAt (a0 : Int) : Option (ResD U_spec_DataAt × MutD I_spec_DataAt) :=
  let r1 := n_spec_l1In a0 0 1099511627776
  bif (!r1) then
    some (((-1), ()), ())
  else
    some (((IntKind.i64.wrap ((IntKind.i64.wrap (a0 + 2)) + 4)), ()), ())
theorem e_spec_DataAt (x : InD I_spec_DataAt) : execF ⟨E_spec_DataAt, 9, D_spec_DataAt_0⟩ Try.f83.results.toList B_spec_DataAt I_spec_DataAt U_spec_DataAt x = raw_spec_DataAt x.1 := by kernel_rfl
theorem ok0_spec_DataAt : ConOk Try.prog 83 ⟨I_spec_DataAt, U_spec_DataAt, fun x => raw_spec_DataAt x.1⟩ := conOk_exec (fr_spec_DataAt_0) Try.func83 (by kernel_rfl) (by kernel_rfl) Try.ntmps83.symm (by decide) (fun x r h => (e_spec_DataAt x).trans h)
noncomputable def n_spec_DataAt (a0 : Int) : Int :=
  let r1 := n_spec_l1In a0 0 1099511627776
  bif (!r1) then
    (-1)
  else
    (IntKind.i64.wrap ((IntKind.i64.wrap (a0 + 2)) + 4))
noncomputable def con_spec_DataAt : Con := ⟨I_spec_DataAt, U_spec_DataAt, fun x => (fun n => some ((n, ()), ())) (n_spec_DataAt x.1)⟩
theorem nn_spec_DataAt (a0 : Int) : raw_spec_DataAt a0 = (fun n => some ((n, ()), ())) (n_spec_DataAt a0) := bif_ty (p := fun (n : Int) => ((n, ()), ())) (bif_some (p := fun (n : Int) => ((n, ()), ())) rfl rfl)
theorem ok_spec_DataAt : ConOk Try.prog 83 con_spec_DataAt := (ok0_spec_DataAt).mono (fun x r _ h => (nn_spec_DataAt x.1).trans h)
theorem spec_dataAt_eq (s : Int) : n_spec_DataAt s = dataAt s := by
  unfold n_spec_DataAt dataAt
  rw [in_eq]
  by_cases h : 0 ≤ s ∧ s ≤ 1099511627776
  · rw [leb_t h.1, leb_t h.2, wr (show -9223372036854775808 ≤ s + 2 by omega) (by omega), wr (by omega) (by omega)]
    show s + 2 + 4 = s + 6
    omega
  · cases h1 : (leb 0 s && leb s 1099511627776)
    · rfl
    · rw [Bool.and_eq_true, leb_iff, leb_iff] at h1; exact absurd h1 h
end

/-! spec_CanLose -/
section
noncomputable def B_spec_CanLose : Code := (Try.f26.body).getD .skip
noncomputable def E_spec_CanLose : Env := envOf TT [(81, con_spec_ArrOk), (82, con_spec_l1In), (83, con_spec_DataAt)] []
theorem fr_spec_CanLose_0 : FrOk Try.prog ⟨E_spec_CanLose, 68, fun _ => none⟩ B_spec_CanLose := frOk_base mixed tt_ok ⟨ok_spec_ArrOk, ok_spec_l1In, ok_spec_DataAt, trivial⟩
noncomputable def D_spec_CanLose_0 : Nat → Option Seg := fun _ => none
def L_spec_CanLose_1865 : Shape := ⟨[(1, false, [.int .i64]), (2, false, [.ptr 0 0]), (5, false, [.int .i64]), (6, false, [.int .i64])], [(0, [.int .i64, .int .i64, .int .i64, .br tM, .int .i64, .int .i64, .int .i64, .int .i64, .int .i64, .br tW, .int .i64, .bool, .bool])], []⟩
def S_spec_CanLose_1865 : Shape := ⟨[(1, false, [.int .i64]), (2, false, [.ptr 0 0]), (5, false, [.int .i64]), (6, false, [.ci .i64 0])], [(0, [.int .i64, .int .i64, .int .i64, .br tM, .int .i64, .int .i64, .int .i64, .int .i64, .int .i64, .br tW, .int .i64, .bool, .bool])], []⟩
def O_spec_CanLose_1865 : Shape := ⟨[(1, false, [.int .i64]), (2, false, [.ptr 0 0]), (5, false, [.int .i64])], [(0, [.int .i64, .int .i64, .int .i64, .br tM, .int .i64, .int .i64, .int .i64, .int .i64, .int .i64, .br tW, .int .i64, .bool, .bool])], []⟩
def Z_spec_CanLose_1865 : Shape := ⟨[(4, false, [.bool])], [], []⟩
abbrev mk_spec_CanLose_1865 (v0 : Int) (v1 : Int) (v2 : Int) (v3 : dA) : (L_spec_CanLose_1865).X := (((v0, ()), ((), ()), (v1, ()), (v2, ()), ()), ((v3.1, v3.2.1.1, v3.2.1.2, v3.2.2.1, v3.2.2.2.1, v3.2.2.2.2.1, v3.2.2.2.2.2.1, v3.2.2.2.2.2.2.1, v3.2.2.2.2.2.2.2.1, v3.2.2.2.2.2.2.2.2.1, v3.2.2.2.2.2.2.2.2.2.1, v3.2.2.2.2.2.2.2.2.2.2.1, v3.2.2.2.2.2.2.2.2.2.2.2, ()), ()), ())
abbrev ms_spec_CanLose_1865 (v0 : Int) (v1 : Int) (v2 : dA) : (S_spec_CanLose_1865).X := (((v0, ()), ((), ()), (v1, ()), ((), ()), ()), ((v2.1, v2.2.1.1, v2.2.1.2, v2.2.2.1, v2.2.2.2.1, v2.2.2.2.2.1, v2.2.2.2.2.2.1, v2.2.2.2.2.2.2.1, v2.2.2.2.2.2.2.2.1, v2.2.2.2.2.2.2.2.2.1, v2.2.2.2.2.2.2.2.2.2.1, v2.2.2.2.2.2.2.2.2.2.2.1, v2.2.2.2.2.2.2.2.2.2.2.2, ()), ()), ())
abbrev mo_spec_CanLose_1865 (v0 : Int) (v1 : Int) (v2 : dA) : (O_spec_CanLose_1865).X := (((v0, ()), ((), ()), (v1, ()), ()), ((v2.1, v2.2.1.1, v2.2.1.2, v2.2.2.1, v2.2.2.2.1, v2.2.2.2.2.1, v2.2.2.2.2.2.1, v2.2.2.2.2.2.2.1, v2.2.2.2.2.2.2.2.1, v2.2.2.2.2.2.2.2.2.1, v2.2.2.2.2.2.2.2.2.2.1, v2.2.2.2.2.2.2.2.2.2.2.1, v2.2.2.2.2.2.2.2.2.2.2.2, ()), ()), ())
abbrev mz_spec_CanLose_1865 (v0 : Bool) : (Z_spec_CanLose_1865).X := (((v0, ()), ()), (), ())
noncomputable def st_spec_CanLose_1865 (v0 : Int) (v1 : Int) (v2 : Int) (v3 : Int) (v4 : Int) (v5 : Int) (v6 : List dM) (v7 : Int) (v8 : Int) (v9 : Int) (v10 : Int) (v11 : Int) (v12 : List dW) (v13 : Int) (v14 : Bool) (v15 : Bool) : Option ((L_spec_CanLose_1865).X ⊕ ((O_spec_CanLose_1865).X ⊕ (Z_spec_CanLose_1865).X)) :=
  bif (inb v1 v6.length) then
    bif (ltb v2 (((((nth v6 v1 ([], [], false, [])).2).2).2).length : Int)) then
      bif (v1 != v0) then
        bif (inb v1 v6.length) then
          bif (inb v2 ((((nth v6 v1 ([], [], false, [])).2).2).2).length) then
            let r4 := n_spec_DataAt 0
            bif (leb r4 (nth ((((nth v6 v1 ([], [], false, [])).2).2).2) v2 0)) then
              some (.inr (.inr (((false, ()), ()), (), ())))
            else
              some (.inl (((v0, ()), ((), ()), (v1, ()), ((IntKind.i64.wrap (v2 + 1)), ()), ()), ((v3, v4, v5, v6, v7, v8, v9, v10, v11, v12, v13, v14, v15, ()), ()), ()))
          else none
        else none
      else
        some (.inl (((v0, ()), ((), ()), (v1, ()), ((IntKind.i64.wrap (v2 + 1)), ()), ()), ((v3, v4, v5, v6, v7, v8, v9, v10, v11, v12, v13, v14, v15, ()), ()), ()))
    else
      some (.inr (.inl (((v0, ()), ((), ()), (v1, ()), ()), ((v3, v4, v5, v6, v7, v8, v9, v10, v11, v12, v13, v14, v15, ()), ()), ())))
  else none
noncomputable def stx_spec_CanLose_1865 (x : (L_spec_CanLose_1865).X) := st_spec_CanLose_1865 x.1.1.1 x.1.2.2.1.1 x.1.2.2.2.1.1 x.2.1.1.1 x.2.1.1.2.1 x.2.1.1.2.2.1 x.2.1.1.2.2.2.1 x.2.1.1.2.2.2.2.1 x.2.1.1.2.2.2.2.2.1 x.2.1.1.2.2.2.2.2.2.1 x.2.1.1.2.2.2.2.2.2.2.1 x.2.1.1.2.2.2.2.2.2.2.2.1 x.2.1.1.2.2.2.2.2.2.2.2.2.1 x.2.1.1.2.2.2.2.2.2.2.2.2.2.1 x.2.1.1.2.2.2.2.2.2.2.2.2.2.2.1 x.2.1.1.2.2.2.2.2.2.2.2.2.2.2.2.1
def em_spec_CanLose_1865 (x : (S_spec_CanLose_1865).X) : (L_spec_CanLose_1865).X := (((x.1.1.1, ()), ((), ()), (x.1.2.2.1.1, ()), (0, ()), ()), ((x.2.1.1.1, x.2.1.1.2.1, x.2.1.1.2.2.1, x.2.1.1.2.2.2.1, x.2.1.1.2.2.2.2.1, x.2.1.1.2.2.2.2.2.1, x.2.1.1.2.2.2.2.2.2.1, x.2.1.1.2.2.2.2.2.2.2.1, x.2.1.1.2.2.2.2.2.2.2.2.1, x.2.1.1.2.2.2.2.2.2.2.2.2.1, x.2.1.1.2.2.2.2.2.2.2.2.2.2.1, x.2.1.1.2.2.2.2.2.2.2.2.2.2.2.1, x.2.1.1.2.2.2.2.2.2.2.2.2.2.2.2.1, ()), ()), ())
noncomputable def c_spec_CanLose_1865 : Code := (subN B_spec_CanLose 64 7460).getD .skip
theorem a_spec_CanLose_1865 : subN B_spec_CanLose 64 1865 = some (.block 2 (.loop c_spec_CanLose_1865)) := by kernel_rfl
theorem r_spec_CanLose_1865 (x : (L_spec_CanLose_1865).X) : roundT ⟨E_spec_CanLose, 68, D_spec_CanLose_0⟩ 2 c_spec_CanLose_1865 7460 L_spec_CanLose_1865 O_spec_CanLose_1865 Z_spec_CanLose_1865 x = stx_spec_CanLose_1865 x := by kernel_rfl
noncomputable def fu_spec_CanLose_1865 (x : (S_spec_CanLose_1865).X) : Nat := (fun (u0 : Int) (u1 : Int) (u2 : Int) (u3 : Int) (u4 : Int) (u5 : List dM) (u6 : Int) (u7 : Int) (u8 : Int) (u9 : Int) (u10 : Int) (u11 : List dW) (u12 : Int) (u13 : Bool) (u14 : Bool) => 18446744073709551616) x.1.1.1 x.1.2.2.1.1 x.2.1.1.1 x.2.1.1.2.1 x.2.1.1.2.2.1 x.2.1.1.2.2.2.1 x.2.1.1.2.2.2.2.1 x.2.1.1.2.2.2.2.2.1 x.2.1.1.2.2.2.2.2.2.1 x.2.1.1.2.2.2.2.2.2.2.1 x.2.1.1.2.2.2.2.2.2.2.2.1 x.2.1.1.2.2.2.2.2.2.2.2.2.1 x.2.1.1.2.2.2.2.2.2.2.2.2.2.1 x.2.1.1.2.2.2.2.2.2.2.2.2.2.2.1 x.2.1.1.2.2.2.2.2.2.2.2.2.2.2.2.1
noncomputable def F_spec_CanLose_1865 (x : (S_spec_CanLose_1865).X) : Option ((O_spec_CanLose_1865).X ⊕ (Z_spec_CanLose_1865).X) := loopN stx_spec_CanLose_1865 (fu_spec_CanLose_1865 x) (em_spec_CanLose_1865 x)
noncomputable def sg_spec_CanLose_1865 : Seg := ⟨S_spec_CanLose_1865, O_spec_CanLose_1865, Z_spec_CanLose_1865, F_spec_CanLose_1865⟩
noncomputable def D_spec_CanLose_1 : Nat → Option Seg := fun q => bif Nat.beq q 1865 then some sg_spec_CanLose_1865 else D_spec_CanLose_0 q
theorem fr_spec_CanLose_1 : FrOk Try.prog ⟨E_spec_CanLose, 68, D_spec_CanLose_1⟩ B_spec_CanLose := (fr_spec_CanLose_0).loop (sg := sg_spec_CanLose_1865) L_spec_CanLose_1865 em_spec_CanLose_1865 (by decide) a_spec_CanLose_1865 stx_spec_CanLose_1865 fu_spec_CanLose_1865 (by decide) (fun _ => rfl) (fun x r _ h => h) r_spec_CanLose_1865
def L_spec_CanLose_29 : Shape := ⟨[(1, false, [.int .i64]), (2, false, [.ptr 0 0]), (5, false, [.int .i64])], [(0, [.int .i64, .int .i64, .int .i64, .br tM, .int .i64, .int .i64, .int .i64, .int .i64, .int .i64, .br tW, .int .i64, .bool, .bool])], []⟩
def S_spec_CanLose_29 : Shape := ⟨[(1, false, [.int .i64]), (2, false, [.ptr 0 0]), (5, false, [.ci .i64 0])], [(0, [.int .i64, .int .i64, .int .i64, .br tM, .int .i64, .int .i64, .int .i64, .int .i64, .int .i64, .br tW, .int .i64, .bool, .bool])], []⟩
def O_spec_CanLose_29 : Shape := ⟨[], [], []⟩
def Z_spec_CanLose_29 : Shape := ⟨[(4, false, [.bool])], [], []⟩
abbrev mk_spec_CanLose_29 (v0 : Int) (v1 : Int) (v2 : dA) : (L_spec_CanLose_29).X := (((v0, ()), ((), ()), (v1, ()), ()), ((v2.1, v2.2.1.1, v2.2.1.2, v2.2.2.1, v2.2.2.2.1, v2.2.2.2.2.1, v2.2.2.2.2.2.1, v2.2.2.2.2.2.2.1, v2.2.2.2.2.2.2.2.1, v2.2.2.2.2.2.2.2.2.1, v2.2.2.2.2.2.2.2.2.2.1, v2.2.2.2.2.2.2.2.2.2.2.1, v2.2.2.2.2.2.2.2.2.2.2.2, ()), ()), ())
abbrev ms_spec_CanLose_29 (v0 : Int) (v1 : dA) : (S_spec_CanLose_29).X := (((v0, ()), ((), ()), ((), ()), ()), ((v1.1, v1.2.1.1, v1.2.1.2, v1.2.2.1, v1.2.2.2.1, v1.2.2.2.2.1, v1.2.2.2.2.2.1, v1.2.2.2.2.2.2.1, v1.2.2.2.2.2.2.2.1, v1.2.2.2.2.2.2.2.2.1, v1.2.2.2.2.2.2.2.2.2.1, v1.2.2.2.2.2.2.2.2.2.2.1, v1.2.2.2.2.2.2.2.2.2.2.2, ()), ()), ())
abbrev mo_spec_CanLose_29  : (O_spec_CanLose_29).X := ((), (), ())
abbrev mz_spec_CanLose_29 (v0 : Bool) : (Z_spec_CanLose_29).X := (((v0, ()), ()), (), ())
noncomputable def st_spec_CanLose_29 (v0 : Int) (v1 : Int) (v2 : Int) (v3 : Int) (v4 : Int) (v5 : List dM) (v6 : Int) (v7 : Int) (v8 : Int) (v9 : Int) (v10 : Int) (v11 : List dW) (v12 : Int) (v13 : Bool) (v14 : Bool) : Option ((L_spec_CanLose_29).X ⊕ ((O_spec_CanLose_29).X ⊕ (Z_spec_CanLose_29).X)) :=
  bif (ltb v1 (v5.length : Int)) then
    segM (F_spec_CanLose_1865 (((v0, ()), ((), ()), (v1, ()), ((), ()), ()), ((v2, v3, v4, v5, v6, v7, v8, v9, v10, v11, v12, v13, v14, ()), ()), ())) (fun y5 =>
      some (.inl (((y5.1.1.1, ()), ((), ()), ((IntKind.i64.wrap (y5.1.2.2.1.1 + 1)), ()), ()), ((y5.2.1.1.1, y5.2.1.1.2.1, y5.2.1.1.2.2.1, y5.2.1.1.2.2.2.1, y5.2.1.1.2.2.2.2.1, y5.2.1.1.2.2.2.2.2.1, y5.2.1.1.2.2.2.2.2.2.1, y5.2.1.1.2.2.2.2.2.2.2.1, y5.2.1.1.2.2.2.2.2.2.2.2.1, y5.2.1.1.2.2.2.2.2.2.2.2.2.1, y5.2.1.1.2.2.2.2.2.2.2.2.2.2.1, y5.2.1.1.2.2.2.2.2.2.2.2.2.2.2.1, y5.2.1.1.2.2.2.2.2.2.2.2.2.2.2.2.1, ()), ()), ()))) (fun y5 =>
      some (.inr (.inr (((y5.1.1.1, ()), ()), (), ()))))
  else
    some (.inr (.inl ((), (), ())))
noncomputable def stx_spec_CanLose_29 (x : (L_spec_CanLose_29).X) := st_spec_CanLose_29 x.1.1.1 x.1.2.2.1.1 x.2.1.1.1 x.2.1.1.2.1 x.2.1.1.2.2.1 x.2.1.1.2.2.2.1 x.2.1.1.2.2.2.2.1 x.2.1.1.2.2.2.2.2.1 x.2.1.1.2.2.2.2.2.2.1 x.2.1.1.2.2.2.2.2.2.2.1 x.2.1.1.2.2.2.2.2.2.2.2.1 x.2.1.1.2.2.2.2.2.2.2.2.2.1 x.2.1.1.2.2.2.2.2.2.2.2.2.2.1 x.2.1.1.2.2.2.2.2.2.2.2.2.2.2.1 x.2.1.1.2.2.2.2.2.2.2.2.2.2.2.2.1
def em_spec_CanLose_29 (x : (S_spec_CanLose_29).X) : (L_spec_CanLose_29).X := (((x.1.1.1, ()), ((), ()), (0, ()), ()), ((x.2.1.1.1, x.2.1.1.2.1, x.2.1.1.2.2.1, x.2.1.1.2.2.2.1, x.2.1.1.2.2.2.2.1, x.2.1.1.2.2.2.2.2.1, x.2.1.1.2.2.2.2.2.2.1, x.2.1.1.2.2.2.2.2.2.2.1, x.2.1.1.2.2.2.2.2.2.2.2.1, x.2.1.1.2.2.2.2.2.2.2.2.2.1, x.2.1.1.2.2.2.2.2.2.2.2.2.2.1, x.2.1.1.2.2.2.2.2.2.2.2.2.2.2.1, x.2.1.1.2.2.2.2.2.2.2.2.2.2.2.2.1, ()), ()), ())
noncomputable def c_spec_CanLose_29 : Code := (subN B_spec_CanLose 64 116).getD .skip
theorem a_spec_CanLose_29 : subN B_spec_CanLose 64 29 = some (.block 0 (.loop c_spec_CanLose_29)) := by kernel_rfl
theorem r_spec_CanLose_29 (x : (L_spec_CanLose_29).X) : roundT ⟨E_spec_CanLose, 68, D_spec_CanLose_1⟩ 0 c_spec_CanLose_29 116 L_spec_CanLose_29 O_spec_CanLose_29 Z_spec_CanLose_29 x = stx_spec_CanLose_29 x := by kernel_rfl
noncomputable def fu_spec_CanLose_29 (x : (S_spec_CanLose_29).X) : Nat := (fun (u0 : Int) (u1 : Int) (u2 : Int) (u3 : Int) (u4 : List dM) (u5 : Int) (u6 : Int) (u7 : Int) (u8 : Int) (u9 : Int) (u10 : List dW) (u11 : Int) (u12 : Bool) (u13 : Bool) => 18446744073709551616) x.1.1.1 x.2.1.1.1 x.2.1.1.2.1 x.2.1.1.2.2.1 x.2.1.1.2.2.2.1 x.2.1.1.2.2.2.2.1 x.2.1.1.2.2.2.2.2.1 x.2.1.1.2.2.2.2.2.2.1 x.2.1.1.2.2.2.2.2.2.2.1 x.2.1.1.2.2.2.2.2.2.2.2.1 x.2.1.1.2.2.2.2.2.2.2.2.2.1 x.2.1.1.2.2.2.2.2.2.2.2.2.2.1 x.2.1.1.2.2.2.2.2.2.2.2.2.2.2.1 x.2.1.1.2.2.2.2.2.2.2.2.2.2.2.2.1
noncomputable def F_spec_CanLose_29 (x : (S_spec_CanLose_29).X) : Option ((O_spec_CanLose_29).X ⊕ (Z_spec_CanLose_29).X) := loopN stx_spec_CanLose_29 (fu_spec_CanLose_29 x) (em_spec_CanLose_29 x)
noncomputable def sg_spec_CanLose_29 : Seg := ⟨S_spec_CanLose_29, O_spec_CanLose_29, Z_spec_CanLose_29, F_spec_CanLose_29⟩
noncomputable def D_spec_CanLose_2 : Nat → Option Seg := fun q => bif Nat.beq q 29 then some sg_spec_CanLose_29 else D_spec_CanLose_1 q
theorem fr_spec_CanLose_2 : FrOk Try.prog ⟨E_spec_CanLose, 68, D_spec_CanLose_2⟩ B_spec_CanLose := (fr_spec_CanLose_1).loop (sg := sg_spec_CanLose_29) L_spec_CanLose_29 em_spec_CanLose_29 (by decide) a_spec_CanLose_29 stx_spec_CanLose_29 fu_spec_CanLose_29 (by decide) (fun _ => rfl) (fun x r _ h => h) r_spec_CanLose_29
abbrev I_spec_CanLose : List Par := [.rd tA, .rd tI]
abbrev U_spec_CanLose : List OT := [⟨false, tB, .fz⟩]
noncomputable def raw_spec_CanLose (a0 : dA) (a1 : Int) : Option (ResD U_spec_CanLose × MutD I_spec_CanLose) :=
  let r1 := n_spec_ArrOk a0
  bif (!(!r1)) then
    bif (!a0.2.2.2.2.2.2.2.2.2.2.2) then
      let r2 := n_spec_l1In a1 0 (IntKind.i64.wrap ((a0.2.2.1.length : Int) - 1))
      bif (!(!r2)) then
        bif (a0.2.2.2.1 != (-1)) then
          bif (a0.2.2.2.1 != a1) then
            some ((false, ()), ())
          else
            segM (F_spec_CanLose_29 (((a1, ()), ((), ()), ((), ()), ()), ((a0.1, a0.2.1.1, a0.2.1.2, a0.2.2.1, a0.2.2.2.1, a0.2.2.2.2.1, a0.2.2.2.2.2.1, a0.2.2.2.2.2.2.1, a0.2.2.2.2.2.2.2.1, a0.2.2.2.2.2.2.2.2.1, a0.2.2.2.2.2.2.2.2.2.1, a0.2.2.2.2.2.2.2.2.2.2.1, a0.2.2.2.2.2.2.2.2.2.2.2, ()), ()), ())) (fun y6 =>
              some ((true, ()), ())) (fun y6 =>
              some ((y6.1.1.1, ()), ()))
        else
          segM (F_spec_CanLose_29 (((a1, ()), ((), ()), ((), ()), ()), ((a0.1, a0.2.1.1, a0.2.1.2, a0.2.2.1, a0.2.2.2.1, a0.2.2.2.2.1, a0.2.2.2.2.2.1, a0.2.2.2.2.2.2.1, a0.2.2.2.2.2.2.2.1, a0.2.2.2.2.2.2.2.2.1, a0.2.2.2.2.2.2.2.2.2.1, a0.2.2.2.2.2.2.2.2.2.2.1, a0.2.2.2.2.2.2.2.2.2.2.2, ()), ()), ())) (fun y7 =>
            some ((true, ()), ())) (fun y7 =>
            some ((y7.1.1.1, ()), ()))
      else
        some ((false, ()), ())
    else
      some ((false, ()), ())
  else
    some ((false, ()), ())
theorem e_spec_CanLose (x : InD I_spec_CanLose) : execF ⟨E_spec_CanLose, 68, D_spec_CanLose_2⟩ Try.f26.results.toList B_spec_CanLose I_spec_CanLose U_spec_CanLose x = raw_spec_CanLose x.1 x.2.1 := by kernel_rfl
theorem ok0_spec_CanLose : ConOk Try.prog 26 ⟨I_spec_CanLose, U_spec_CanLose, fun x => raw_spec_CanLose x.1 x.2.1⟩ := conOk_exec (fr_spec_CanLose_2) Try.func26 (by kernel_rfl) (by kernel_rfl) Try.ntmps26.symm (by decide) (fun x r h => (e_spec_CanLose x).trans h)
/-- whether a disk's own sectors are spoilt -/
def spoilt (m : dM) : Bool := m.2.2.2.any (fun n => leb 6 n)
def canLose (a : dA) (m : Int) : Bool := (List.range a.2.2.1.length).all (fun (i : Nat) => (i : Int) == m || !(spoilt (nth a.2.2.1 i noMem)))
noncomputable def n_spec_CanLose (a0 : dA) (a1 : Int) : Bool := arrOk a0 && (!a0.2.2.2.2.2.2.2.2.2.2.2 && (inb a1 a0.2.2.1.length && ((a0.2.2.2.1 == -1 || a0.2.2.2.1 == a1) && canLose a0 a1)))
theorem nn_spec_CanLose (a0 : dA) (a1 : Int) (hk : InOk I_spec_CanLose (a0, a1, ())) : raw_spec_CanLose a0 a1 = (fun n => some ((n, ()), ())) (n_spec_CanLose a0 a1) := by
  have hb : a0.2.2.1.length * 80 ≤ 2 ^ 47 := hk.1.2.2.1.1
  have h0 : ∀ i : Nat, i < a0.2.2.1.length → F_spec_CanLose_1865 (ms_spec_CanLose_1865 a1 i a0) = some (bif (i : Int) == a1 || !(spoilt (nth a0.2.2.1 i noMem)) then .inl (mo_spec_CanLose_1865 a1 i a0) else .inr (mz_spec_CanLose_1865 false)) := fun k hk2 => by
    have hb2 : (nth a0.2.2.1 k noMem).2.2.2.length * 8 ≤ 2 ^ 47 := nth_mem (P := fun x : dM => x.2.2.2.length * 8 ≤ 2 ^ 47) (inb_nat hk2) (fun x hx => (hk.1.2.2.1.2 x hx).2.2.2.1)
    have := loopN_list_all (step := stx_spec_CanLose_1865) (nth a0.2.2.1 k noMem).2.2.2 0 (fun i => mk_spec_CanLose_1865 a1 k i a0) (fun n => (k : Int) == a1 || !(leb 6 n)) (.inl (mo_spec_CanLose_1865 a1 k a0)) (.inr (mz_spec_CanLose_1865 false)) (fun i hi => by
      unfold noMem at hi hb2
      simp only [stx_spec_CanLose_1865, mk_spec_CanLose_1865, st_spec_CanLose_1865, ltb_t (show (i : Int) < (nth a0.2.2.1 k ([], [], false, [])).2.2.2.length by omega), cond_true, wr (show -9223372036854775808 ≤ (i : Int) + 1 by omega) (by omega), Int.natCast_add, Int.natCast_one, Int.toNat_natCast, inb_nat hk2, inb_nat hi, noMem, spec_dataAt_eq, show dataAt 0 = 6 from rfl, bne]
      rw [nth_nat (nth a0.2.2.1 k ([], [], false, [])).2.2.2 i]
      cases ((k : Int) == a1) <;> cases leb 6 ((nth a0.2.2.1 k ([], [], false, [])).2.2.2.getD i 0) <;> rfl) (by
      simp only [stx_spec_CanLose_1865, mk_spec_CanLose_1865, st_spec_CanLose_1865, inb_nat hk2, noMem, ltb_f (Int.le_refl _), cond_false, cond_true]) 18446744073709551616 (by omega)
    rw [show F_spec_CanLose_1865 (ms_spec_CanLose_1865 a1 k a0) = _ from this]
    congr 2
    unfold spoilt
    cases ((k : Int) == a1)
    · simp [List.all_eq_not_any_not]
    · simp
  have h1 : F_spec_CanLose_29 (ms_spec_CanLose_29 a1 a0) = some (bif (List.range a0.2.2.1.length).any (fun (i : Nat) => !((i : Int) == a1 || !(spoilt (nth a0.2.2.1 i noMem)))) then .inr (mz_spec_CanLose_29 false) else .inl mo_spec_CanLose_29) :=
    loopN_all (step := stx_spec_CanLose_29) (fun i => mk_spec_CanLose_29 a1 i a0) a0.2.2.1.length (fun (i : Nat) => !((i : Int) == a1 || !(spoilt (nth a0.2.2.1 i noMem)))) _ _ (fun i hi => by
      simp only [stx_spec_CanLose_29, mk_spec_CanLose_29, st_spec_CanLose_29, ltb_t (show (i : Int) < a0.2.2.1.length by omega), cond_true, wr (show -9223372036854775808 ≤ (i : Int) + 1 by omega) (by omega), Int.natCast_add, Int.natCast_one, Int.toNat_natCast, h0 i hi]
      cases ((i : Int) == a1 || !(spoilt (nth a0.2.2.1 i noMem)))
      · rfl
      · simp only [cond_true, segM_inl, wr (show -9223372036854775808 ≤ (i : Int) + 1 by omega) (by omega)]; rfl) (by simp only [stx_spec_CanLose_29, mk_spec_CanLose_29, st_spec_CanLose_29, ltb_f (Int.le_refl _), cond_false]) _ (by show _ < 18446744073709551616; omega)
  unfold raw_spec_CanLose n_spec_CanLose canLose n_spec_ArrOk
  rw [in_len (show a0.2.2.1.length ≤ 1152921504606846976 by omega), h1, List.all_eq_not_any_not]
  simp only [bne]
  cases arrOk a0
  · rfl
  cases a0.2.2.2.2.2.2.2.2.2.2.2
  · cases inb a1 a0.2.2.1.length
    · rfl
    · cases (a0.2.2.2.1 == -1) <;> cases (a0.2.2.2.1 == a1) <;> cases ((List.range a0.2.2.1.length).any (fun (i : Nat) => !((i : Int) == a1 || !(spoilt (nth a0.2.2.1 i noMem))))) <;> rfl
  · rfl
noncomputable def con_spec_CanLose : Con := ⟨I_spec_CanLose, U_spec_CanLose, fun x => (fun n => some ((n, ()), ())) (n_spec_CanLose x.1 x.2.1)⟩
theorem ok_spec_CanLose : ConOk Try.prog 26 con_spec_CanLose := (ok0_spec_CanLose).mono (fun x r hk h => (nn_spec_CanLose x.1 x.2.1 hk).trans h)
end

/-! laws_toIntS -/
section
noncomputable def B_laws_toIntS : Code := (Try.f18.body).getD .skip
noncomputable def E_laws_toIntS : Env := envOf TT [] []
theorem fr_laws_toIntS_0 : FrOk Try.prog ⟨E_laws_toIntS, 22, fun _ => none⟩ B_laws_toIntS := frOk_base mixed tt_ok trivial
noncomputable def D_laws_toIntS_0 : Nat → Option Seg := fun _ => none
def L_laws_toIntS_29 : Shape := ⟨[(0, false, [.br tI]), (3, false, [.at 800000000]), (4, false, [.int .i64])], [], [(800000000, tI, .fz)]⟩
def S_laws_toIntS_29 : Shape := ⟨[(0, false, [.br tI]), (3, false, [.at 800000000]), (4, false, [.ci .i64 0])], [], [(800000000, tI, .fz)]⟩
def O_laws_toIntS_29 : Shape := ⟨[(3, false, [.at 800000000])], [], [(800000000, tI, .fz)]⟩
def Z_laws_toIntS_29 : Shape := ⟨[], [], []⟩
noncomputable def st_laws_toIntS_29 (v0 : List Int) (v1 : Int) (v2 : List Int) : Option ((L_laws_toIntS_29).X ⊕ ((O_laws_toIntS_29).X ⊕ (Z_laws_toIntS_29).X)) :=
  bif (ltb v1 (v0.length : Int)) then
    bif (inb v1 v0.length) then
      bif (inb v1 v2.length) then
        some (.inl (((v0, ()), ((), ()), ((IntKind.i64.wrap (v1 + 1)), ()), ()), (), ((v2.set (v1).toNat (nth v0 v1 0)), ())))
      else none
    else none
  else
    some (.inr (.inl ((((), ()), ()), (), (v2, ()))))
noncomputable def stx_laws_toIntS_29 (x : (L_laws_toIntS_29).X) := st_laws_toIntS_29 x.1.1.1 x.1.2.2.1.1 x.2.2.1
def em_laws_toIntS_29 (x : (S_laws_toIntS_29).X) : (L_laws_toIntS_29).X := (((x.1.1.1, ()), ((), ()), (0, ()), ()), (), (x.2.2.1, ()))
noncomputable def c_laws_toIntS_29 : Code := (subN B_laws_toIntS 64 116).getD .skip
theorem a_laws_toIntS_29 : subN B_laws_toIntS 64 29 = some (.block 0 (.loop c_laws_toIntS_29)) := by kernel_rfl
theorem r_laws_toIntS_29 (x : (L_laws_toIntS_29).X) : roundT ⟨E_laws_toIntS, 22, D_laws_toIntS_0⟩ 0 c_laws_toIntS_29 116 L_laws_toIntS_29 O_laws_toIntS_29 Z_laws_toIntS_29 x = stx_laws_toIntS_29 x := by kernel_rfl
noncomputable def fu_laws_toIntS_29 (x : (S_laws_toIntS_29).X) : Nat := (fun (u0 : List Int) (u1 : List Int) => 18446744073709551616) x.1.1.1 x.2.2.1
noncomputable def F_laws_toIntS_29 (x : (S_laws_toIntS_29).X) : Option ((O_laws_toIntS_29).X ⊕ (Z_laws_toIntS_29).X) := loopN stx_laws_toIntS_29 (fu_laws_toIntS_29 x) (em_laws_toIntS_29 x)
noncomputable def sg_laws_toIntS_29 : Seg := ⟨S_laws_toIntS_29, O_laws_toIntS_29, Z_laws_toIntS_29, F_laws_toIntS_29⟩
noncomputable def D_laws_toIntS_1 : Nat → Option Seg := fun q => bif Nat.beq q 29 then some sg_laws_toIntS_29 else D_laws_toIntS_0 q
theorem fr_laws_toIntS_1 : FrOk Try.prog ⟨E_laws_toIntS, 22, D_laws_toIntS_1⟩ B_laws_toIntS := (fr_laws_toIntS_0).loop (sg := sg_laws_toIntS_29) L_laws_toIntS_29 em_laws_toIntS_29 (by decide) a_laws_toIntS_29 stx_laws_toIntS_29 fu_laws_toIntS_29 (by decide) (fun _ => rfl) (fun x r _ h => h) r_laws_toIntS_29
abbrev I_laws_toIntS : List Par := [.rd tL]
abbrev U_laws_toIntS : List OT := [⟨false, tL, (.ow .fz)⟩]
noncomputable def raw_laws_toIntS (a0 : List Int) : Option (ResD U_laws_toIntS × MutD I_laws_toIntS) :=
  bif (mkok (a0.length : Int) 8) then
    segM (F_laws_toIntS_29 (((a0, ()), ((), ()), ((), ()), ()), (), ((List.replicate ((a0.length : Int)).toNat (0 : Int)), ()))) (fun y0 =>
      some ((y0.2.2.1, ()), ())) (fun y0 =>
      none)
  else none
theorem e_laws_toIntS (x : InD I_laws_toIntS) : execF ⟨E_laws_toIntS, 22, D_laws_toIntS_1⟩ Try.f18.results.toList B_laws_toIntS I_laws_toIntS U_laws_toIntS x = raw_laws_toIntS x.1 := by kernel_rfl
theorem ok0_laws_toIntS : ConOk Try.prog 18 ⟨I_laws_toIntS, U_laws_toIntS, fun x => raw_laws_toIntS x.1⟩ := conOk_exec (fr_laws_toIntS_1) Try.func18 (by kernel_rfl) (by kernel_rfl) Try.ntmps18.symm (by decide) (fun x r h => (e_laws_toIntS x).trans h)
noncomputable def n_laws_toIntS (a0 : List Int) : List Int := a0
theorem nn_laws_toIntS (a0 : List Int) (hk : InOk I_laws_toIntS (a0, ())) : raw_laws_toIntS a0 = (fun n => some ((n, ()), ())) (n_laws_toIntS a0) := by
  have hb : a0.length * 8 ≤ 2 ^ 47 := hk.1.1
  have hs : ∀ i, i < a0.length → (a0.take i ++ List.replicate (a0.length - i) (0 : Int)).set i (a0.getD i 0) = a0.take (i + 1) ++ List.replicate (a0.length - (i + 1)) 0 := fun i hi => by
    have hl : (a0.take i).length = i := by rw [List.length_take]; omega
    rw [List.set_append_right _ _ (by rw [hl]; exact Nat.le_refl _), hl, Nat.sub_self, List.take_add_one, List.append_assoc, show a0.length - i = (a0.length - (i + 1)) + 1 by omega, List.replicate_succ]
    simp [hi]
  have hl : F_laws_toIntS_29 (((a0, ()), ((), ()), ((), ()), ()), (), ((a0.take 0 ++ List.replicate (a0.length - 0) 0), ())) = some (.inl ((((), ()), ()), (), (a0.take a0.length ++ List.replicate (a0.length - a0.length) 0, ()))) :=
    loopN_up (step := stx_laws_toIntS_29) (fun i => (((a0, ()), ((), ()), ((i : Int), ()), ()), (), (a0.take i ++ List.replicate (a0.length - i) 0, ()))) a0.length _ (fun i hi => by
      have hL : (a0.take i ++ List.replicate (a0.length - i) (0 : Int)).length = a0.length := by rw [List.length_append, List.length_take, List.length_replicate]; omega
      simp only [stx_laws_toIntS_29, st_laws_toIntS_29, hL, inb_nat hi, nth_nat, Int.toNat_natCast, ltb_t (show (i : Int) < a0.length by omega), cond_true, wr (show -9223372036854775808 ≤ (i : Int) + 1 by omega) (by omega), Int.natCast_add, Int.natCast_one, hs i hi]) (by
      simp only [stx_laws_toIntS_29, st_laws_toIntS_29, ltb_f (Int.le_refl _), cond_false]) _ (by show _ < 18446744073709551616; omega)
  unfold raw_laws_toIntS n_laws_toIntS
  rw [List.take_zero, List.nil_append, Nat.sub_zero] at hl
  rw [show mkok (a0.length : Int) 8 = true by rw [mkok_iff]; omega, bif_t, Int.toNat_natCast, hl]
  simp [segM]
noncomputable def con_laws_toIntS : Con := ⟨I_laws_toIntS, U_laws_toIntS, fun x => (fun n => some ((n, ()), ())) (n_laws_toIntS x.1)⟩
theorem ok_laws_toIntS : ConOk Try.prog 18 con_laws_toIntS := (ok0_laws_toIntS).mono (fun x r hk h => (nn_laws_toIntS x.1 hk).trans h)
theorem id_laws_toIntS (a : List Int) : n_laws_toIntS a = a := by kernel_rfl
end

/-! laws_toIntSS -/
section
noncomputable def B_laws_toIntSS : Code := (Try.f134.body).getD .skip
noncomputable def E_laws_toIntSS : Env := envOf TT [(18, con_laws_toIntS)] []
theorem fr_laws_toIntSS_0 : FrOk Try.prog ⟨E_laws_toIntSS, 23, fun _ => none⟩ B_laws_toIntSS := frOk_base mixed tt_ok ⟨ok_laws_toIntS, trivial⟩
noncomputable def D_laws_toIntSS_0 : Nat → Option Seg := fun _ => none
def L_laws_toIntSS_29 : Shape := ⟨[(0, false, [.br tL]), (3, false, [.at 800000000]), (4, false, [.int .i64])], [], [(800000000, tL, (.ow .fz))]⟩
def S_laws_toIntSS_29 : Shape := ⟨[(0, false, [.br tL]), (3, false, [.at 800000000]), (4, false, [.ci .i64 0])], [], [(800000000, tL, (.ow .fz))]⟩
def O_laws_toIntSS_29 : Shape := ⟨[(3, false, [.at 800000000])], [], [(800000000, tL, (.ow .fz))]⟩
def Z_laws_toIntSS_29 : Shape := ⟨[], [], []⟩
noncomputable def st_laws_toIntSS_29 (v0 : List (List Int)) (v1 : Int) (v2 : List (List Int)) : Option ((L_laws_toIntSS_29).X ⊕ ((O_laws_toIntSS_29).X ⊕ (Z_laws_toIntSS_29).X)) :=
  bif (ltb v1 (v0.length : Int)) then
    bif (inb v1 v0.length) then
      let r2 := n_laws_toIntS (nth v0 v1 [])
      bif (inb v1 v2.length) then
        some (.inl (((v0, ()), ((), ()), ((IntKind.i64.wrap (v1 + 1)), ()), ()), (), ((v2.set (v1).toNat r2), ())))
      else none
    else none
  else
    some (.inr (.inl ((((), ()), ()), (), (v2, ()))))
noncomputable def stx_laws_toIntSS_29 (x : (L_laws_toIntSS_29).X) := st_laws_toIntSS_29 x.1.1.1 x.1.2.2.1.1 x.2.2.1
def em_laws_toIntSS_29 (x : (S_laws_toIntSS_29).X) : (L_laws_toIntSS_29).X := (((x.1.1.1, ()), ((), ()), (0, ()), ()), (), (x.2.2.1, ()))
noncomputable def c_laws_toIntSS_29 : Code := (subN B_laws_toIntSS 64 116).getD .skip
theorem a_laws_toIntSS_29 : subN B_laws_toIntSS 64 29 = some (.block 0 (.loop c_laws_toIntSS_29)) := by kernel_rfl
theorem r_laws_toIntSS_29 (x : (L_laws_toIntSS_29).X) : roundT ⟨E_laws_toIntSS, 23, D_laws_toIntSS_0⟩ 0 c_laws_toIntSS_29 116 L_laws_toIntSS_29 O_laws_toIntSS_29 Z_laws_toIntSS_29 x = stx_laws_toIntSS_29 x := by kernel_rfl
noncomputable def fu_laws_toIntSS_29 (x : (S_laws_toIntSS_29).X) : Nat := (fun (u0 : List (List Int)) (u1 : List (List Int)) => 18446744073709551616) x.1.1.1 x.2.2.1
noncomputable def F_laws_toIntSS_29 (x : (S_laws_toIntSS_29).X) : Option ((O_laws_toIntSS_29).X ⊕ (Z_laws_toIntSS_29).X) := loopN stx_laws_toIntSS_29 (fu_laws_toIntSS_29 x) (em_laws_toIntSS_29 x)
noncomputable def sg_laws_toIntSS_29 : Seg := ⟨S_laws_toIntSS_29, O_laws_toIntSS_29, Z_laws_toIntSS_29, F_laws_toIntSS_29⟩
noncomputable def D_laws_toIntSS_1 : Nat → Option Seg := fun q => bif Nat.beq q 29 then some sg_laws_toIntSS_29 else D_laws_toIntSS_0 q
theorem fr_laws_toIntSS_1 : FrOk Try.prog ⟨E_laws_toIntSS, 23, D_laws_toIntSS_1⟩ B_laws_toIntSS := (fr_laws_toIntSS_0).loop (sg := sg_laws_toIntSS_29) L_laws_toIntSS_29 em_laws_toIntSS_29 (by decide) a_laws_toIntSS_29 stx_laws_toIntSS_29 fu_laws_toIntSS_29 (by decide) (fun _ => rfl) (fun x r _ h => h) r_laws_toIntSS_29
abbrev I_laws_toIntSS : List Par := [.rd tLL]
abbrev U_laws_toIntSS : List OT := [⟨false, tLL, (.ow (.ow .fz))⟩]
noncomputable def raw_laws_toIntSS (a0 : List (List Int)) : Option (ResD U_laws_toIntSS × MutD I_laws_toIntSS) :=
  bif (mkok (a0.length : Int) 24) then
    segM (F_laws_toIntSS_29 (((a0, ()), ((), ()), ((), ()), ()), (), ((List.replicate ((a0.length : Int)).toNat ([] : List Int)), ()))) (fun y2 =>
      some ((y2.2.2.1, ()), ())) (fun y2 =>
      none)
  else none
theorem e_laws_toIntSS (x : InD I_laws_toIntSS) : execF ⟨E_laws_toIntSS, 23, D_laws_toIntSS_1⟩ Try.f134.results.toList B_laws_toIntSS I_laws_toIntSS U_laws_toIntSS x = raw_laws_toIntSS x.1 := by kernel_rfl
theorem ok0_laws_toIntSS : ConOk Try.prog 134 ⟨I_laws_toIntSS, U_laws_toIntSS, fun x => raw_laws_toIntSS x.1⟩ := conOk_exec (fr_laws_toIntSS_1) Try.func134 (by kernel_rfl) (by kernel_rfl) Try.ntmps134.symm (by decide) (fun x r h => (e_laws_toIntSS x).trans h)
noncomputable def n_laws_toIntSS (a0 : List (List Int)) : List (List Int) := a0
theorem nn_laws_toIntSS (a0 : List (List Int)) (hk : InOk I_laws_toIntSS (a0, ())) : raw_laws_toIntSS a0 = (fun n => some ((n, ()), ())) (n_laws_toIntSS a0) := by
  have hb : a0.length * 24 ≤ 2 ^ 47 := hk.1.1
  have hl : F_laws_toIntSS_29 (((a0, ()), ((), ()), ((), ()), ()), (), ((List.replicate a0.length ([] : List Int)), ())) = some (.inl ((((), ()), ()), (), (a0, ()))) :=
    loopN_fill (step := stx_laws_toIntSS_29) a0 ([] : List Int) (fun i m => (((a0, ()), ((), ()), ((i : Int), ()), ()), (), (m, ()))) (fun m => .inl ((((), ()), ()), (), (m, ()))) (fun i m hi hm => by
      simp only [stx_laws_toIntSS_29, st_laws_toIntSS_29, inb_nat (show i < m.length by omega), inb_nat hi, nth_nat, Int.toNat_natCast, ltb_t (show (i : Int) < a0.length by omega), cond_true, wr (show -9223372036854775808 ≤ (i : Int) + 1 by omega) (by omega), Int.natCast_add, Int.natCast_one, pr_eta, id_laws_toIntS]) (fun m hm => by
      simp only [stx_laws_toIntSS_29, st_laws_toIntSS_29, ltb_f (Int.le_refl _), cond_false]) _ (by show _ < 18446744073709551616; omega)
  unfold raw_laws_toIntSS n_laws_toIntSS
  rw [show mkok (a0.length : Int) 24 = true by rw [mkok_iff]; omega, bif_t, Int.toNat_natCast, hl]
  rfl
noncomputable def con_laws_toIntSS : Con := ⟨I_laws_toIntSS, U_laws_toIntSS, fun x => (fun n => some ((n, ()), ())) (n_laws_toIntSS x.1)⟩
theorem ok_laws_toIntSS : ConOk Try.prog 134 con_laws_toIntSS := (ok0_laws_toIntSS).mono (fun x r hk h => (nn_laws_toIntSS x.1 hk).trans h)
theorem id_laws_toIntSS (a : List (List Int)) : n_laws_toIntSS a = a := by kernel_rfl
end

/-! laws_toWr -/
section
noncomputable def B_laws_toWr : Code := (Try.f173.body).getD .skip
noncomputable def E_laws_toWr : Env := envOf TT [(18, con_laws_toIntS)] []
theorem fr_laws_toWr_0 : FrOk Try.prog ⟨E_laws_toWr, 12, fun _ => none⟩ B_laws_toWr := frOk_base mixed tt_ok ⟨ok_laws_toIntS, trivial⟩
noncomputable def D_laws_toWr_0 : Nat → Option Seg := fun _ => none
abbrev I_laws_toWr : List Par := [.rd tW]
abbrev U_laws_toWr : List OT := [⟨false, tW, (.pr .fz (.ow .fz))⟩]
noncomputable def raw_laws_toWr (a0 : dW) : Option (ResD U_laws_toWr × MutD I_laws_toWr) :=
  let r1 := n_laws_toIntS a0.2
  some (((a0.1, r1), ()), ())
theorem e_laws_toWr (x : InD I_laws_toWr) : execF ⟨E_laws_toWr, 12, D_laws_toWr_0⟩ Try.f173.results.toList B_laws_toWr I_laws_toWr U_laws_toWr x = raw_laws_toWr x.1 := by kernel_rfl
theorem ok0_laws_toWr : ConOk Try.prog 173 ⟨I_laws_toWr, U_laws_toWr, fun x => raw_laws_toWr x.1⟩ := conOk_exec (fr_laws_toWr_0) Try.func173 (by kernel_rfl) (by kernel_rfl) Try.ntmps173.symm (by decide) (fun x r h => (e_laws_toWr x).trans h)
noncomputable def n_laws_toWr (a0 : dW) : dW :=
  let r1 := n_laws_toIntS a0.2
  (a0.1, r1)
noncomputable def con_laws_toWr : Con := ⟨I_laws_toWr, U_laws_toWr, fun x => (fun n => some ((n, ()), ())) (n_laws_toWr x.1)⟩
theorem nn_laws_toWr (a0 : dW) : raw_laws_toWr a0 = (fun n => some ((n, ()), ())) (n_laws_toWr a0) := bif_ty (p := fun (n : dW) => ((n, ()), ())) rfl
theorem ok_laws_toWr : ConOk Try.prog 173 con_laws_toWr := (ok0_laws_toWr).mono (fun x r _ h => (nn_laws_toWr x.1).trans h)
theorem id_laws_toWr (a : dW) : n_laws_toWr a = a := by kernel_rfl
end
end Go.Tf
