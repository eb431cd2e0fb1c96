/- Functions of the program, and what they come to. -/
import Derived.Test.YtmamkjioahnecaaExactPowerOffF7
namespace Go.Tf
open Go.Proofs
set_option synthInstance.maxHeartbeats 400000
set_option synthInstance.maxSize 10000
set_option linter.unusedVariables false
set_option linter.unusedSimpArgs false
set_option maxRecDepth 100000
/-! spec_ArrOk -/
section
noncomputable def B_spec_ArrOk : Code := (Try.f81.body).getD .skip
noncomputable def E_spec_ArrOk : Env := envOf TT [(82, con_spec_l1In), (140, con_spec_GeoOk), (141, con_spec_l6Mems), (142, con_spec_l6Dirty)] []
theorem fr_spec_ArrOk_0 : FrOk Try.prog ⟨E_spec_ArrOk, 78, fun _ => none⟩ B_spec_ArrOk := frOk_base mixed tt_ok ⟨ok_spec_l1In, ok_spec_GeoOk, ok_spec_l6Mems, ok_spec_l6Dirty, trivial⟩
noncomputable def D_spec_ArrOk_0 : Nat → Option Seg := fun _ => none
abbrev I_spec_ArrOk : List Par := [.rd tA]
abbrev U_spec_ArrOk : List OT := [⟨false, tB, .fz⟩]
noncomputable def raw_spec_ArrOk (a0 : dA) : Option (ResD U_spec_ArrOk × MutD I_spec_ArrOk) :=
  let r1 := n_spec_GeoOk a0.2.1
  bif (!(!r1)) then
    let r2 := n_spec_l1In a0.1 1 60000
    bif (!(!r2)) then
      bnd (o_spec_l6Mems a0) fun r3 =>
      bif (!(!r3.1.1)) then
        bnd (o_spec_l6Dirty a0) fun r4 =>
        bif (!r4.1.1) then
          some ((false, ()), ())
        else
          let r5 := n_spec_l1In a0.2.2.2.1 (-1) (IntKind.i64.wrap (a0.2.1.1 - 1))
          bif (!(!r5)) then
            let r6 := n_spec_l1In a0.2.2.2.2.1 0 a0.2.1.2
            bif (!(!r6)) then
              bif (a0.2.2.2.1 == (-1)) then
                bif (a0.2.2.2.2.1 != 0) then
                  some ((false, ()), ())
                else
                  let r7 := n_spec_l1In a0.2.2.2.2.2.2.1 0 60000
                  bif r7 then
                    let r8 := n_spec_l1In a0.2.2.2.2.2.1 a0.2.2.2.2.2.2.1 60000
                    bif r8 then
                      bif (leb a0.2.2.2.2.2.1 (IntKind.i64.wrap (a0.2.2.2.2.2.2.1 + 4))) then
                        let r9 := n_spec_l1In a0.2.2.2.2.2.2.2.1 0 60000
                        bif r9 then
                          let r10 := n_spec_l1In a0.2.2.2.2.2.2.2.2.2.1 (-1) 1000
                          some ((r10, ()), ())
                        else
                          some ((false, ()), ())
                      else
                        some ((false, ()), ())
                    else
                      some ((false, ()), ())
                  else
                    some ((false, ()), ())
              else
                let r11 := n_spec_l1In a0.2.2.2.2.2.2.1 0 60000
                bif r11 then
                  let r12 := n_spec_l1In a0.2.2.2.2.2.1 a0.2.2.2.2.2.2.1 60000
                  bif r12 then
                    bif (leb a0.2.2.2.2.2.1 (IntKind.i64.wrap (a0.2.2.2.2.2.2.1 + 4))) then
                      let r13 := n_spec_l1In a0.2.2.2.2.2.2.2.1 0 60000
                      bif r13 then
                        let r14 := n_spec_l1In a0.2.2.2.2.2.2.2.2.2.1 (-1) 1000
                        some ((r14, ()), ())
                      else
                        some ((false, ()), ())
                    else
                      some ((false, ()), ())
                  else
                    some ((false, ()), ())
                else
                  some ((false, ()), ())
            else
              some ((false, ()), ())
          else
            some ((false, ()), ())
      else
        some ((false, ()), ())
    else
      some ((false, ()), ())
  else
    some ((false, ()), ())
theorem e_spec_ArrOk (x : InD I_spec_ArrOk) : execF ⟨E_spec_ArrOk, 78, D_spec_ArrOk_0⟩ Try.f81.results.toList B_spec_ArrOk I_spec_ArrOk U_spec_ArrOk x = raw_spec_ArrOk x.1 := by kernel_rfl
theorem ok0_spec_ArrOk : ConOk Try.prog 81 ⟨I_spec_ArrOk, U_spec_ArrOk, fun x => raw_spec_ArrOk x.1⟩ := conOk_exec (fr_spec_ArrOk_0) Try.func81 (by kernel_rfl) (by kernel_rfl) Try.ntmps81.symm (by decide) (fun x r h => (e_spec_ArrOk x).trans h)
noncomputable def n_spec_ArrOk (a0 : dA) : Bool := arrOk a0
theorem nn_spec_ArrOk (a0 : dA) (hk : InOk I_spec_ArrOk (a0, ())) : raw_spec_ArrOk a0 = (fun n => some ((n, ()), ())) (n_spec_ArrOk a0) := by
  unfold raw_spec_ArrOk n_spec_ArrOk arrOk
  simp only [in_eq]
  cases hg : n_spec_GeoOk a0.2.1
  · rfl
  have hg2 := geo_iff.1 hg
  rw [ot_spec_l6Mems a0 hg, ot_spec_l6Dirty a0 hg, wr (show -9223372036854775808 ≤ a0.2.1.1 - 1 by omega) (by omega)]
  simp only [bnd_some, n_spec_l6Mems, n_spec_l6Dirty, Bool.not_not, cond_true]
  cases (leb 1 a0.1 && leb a0.1 60000)
  · rfl
  cases memsOk a0
  · rfl
  cases dirtyOk a0.2.1 a0.2.2.2.2.2.2.2.2.1
  · rfl
  cases (leb (-1) a0.2.2.2.1 && leb a0.2.2.2.1 (a0.2.1.1 - 1))
  · rfl
  cases (leb 0 a0.2.2.2.2.1 && leb a0.2.2.2.2.1 a0.2.1.2)
  · rfl
  have ht : (leb 0 a0.2.2.2.2.2.2.1 && leb a0.2.2.2.2.2.2.1 60000) = true → IntKind.i64.wrap (a0.2.2.2.2.2.2.1 + 4) = a0.2.2.2.2.2.2.1 + 4 := fun h => by
    rw [Bool.and_eq_true, leb_iff, leb_iff] at h
    exact wr (by omega) (by omega)
  cases hT : (leb 0 a0.2.2.2.2.2.2.1 && leb a0.2.2.2.2.2.2.1 60000)
  · cases (a0.2.2.2.1 == -1) <;> cases (a0.2.2.2.2.1 != 0) <;> rfl
  rw [ht hT]
  cases (leb a0.2.2.2.2.2.2.1 a0.2.2.2.2.2.1 && leb a0.2.2.2.2.2.1 60000)
  · cases (a0.2.2.2.1 == -1) <;> cases (a0.2.2.2.2.1 != 0) <;> rfl
  cases leb a0.2.2.2.2.2.1 (a0.2.2.2.2.2.2.1 + 4)
  · cases (a0.2.2.2.1 == -1) <;> cases (a0.2.2.2.2.1 != 0) <;> rfl
  cases (leb 0 a0.2.2.2.2.2.2.2.1 && leb a0.2.2.2.2.2.2.2.1 60000) <;> cases (a0.2.2.2.1 == -1) <;> cases (a0.2.2.2.2.1 != 0) <;> rfl
noncomputable def con_spec_ArrOk : Con := ⟨I_spec_ArrOk, U_spec_ArrOk, fun x => (fun n => some ((n, ()), ())) (n_spec_ArrOk x.1)⟩
theorem ok_spec_ArrOk : ConOk Try.prog 81 con_spec_ArrOk := (ok0_spec_ArrOk).mono (fun x r hk h => (nn_spec_ArrOk x.1 hk).trans h)
end

/-! spec_l2Copy -/
section
noncomputable def B_spec_l2Copy : Code := (Try.f116.body).getD .skip
noncomputable def E_spec_l2Copy : Env := envOf TT [] [(21056, .fz), (21120, .fz), (37952, (.pr .fz .fz)), (38016, (.pr .fz .fz))]
theorem fr_spec_l2Copy_0 : FrOk Try.prog ⟨E_spec_l2Copy, 60, fun _ => none⟩ B_spec_l2Copy := frOk_base mixed tt_ok trivial
noncomputable def D_spec_l2Copy_0 : Nat → Option Seg := fun _ => none
def L_spec_l2Copy_29 : Shape := ⟨[(1, false, [.ptr 0 0]), (2, false, [.ptr 64 0]), (3, false, [.ptr 4544 0]), (4, false, [.int .i64])], [(0, [.br tL, .br tW, .bool, .br tI]), (64, [.nil, .nil, .bool, .nil]), (4544, [.at 800000001, .nil, .bool, .at 800000000])], [(800000001, tL, .fz), (800000000, tI, .fz)]⟩
def S_spec_l2Copy_29 : Shape := ⟨[(1, false, [.ptr 0 0]), (2, false, [.ptr 64 0]), (3, false, [.ptr 4544 0]), (4, false, [.ci .i64 0])], [(0, [.br tL, .br tW, .bool, .br tI]), (64, [.nil, .nil, .bool, .nil]), (4544, [.at 800000001, .nil, .bool, .at 800000000])], [(800000001, tL, .fz), (800000000, tI, .fz)]⟩
def O_spec_l2Copy_29 : Shape := ⟨[(1, false, [.ptr 0 0]), (2, false, [.ptr 64 0]), (3, false, [.ptr 4544 0])], [(0, [.br tL, .br tW, .bool, .br tI]), (64, [.nil, .nil, .bool, .nil]), (4544, [.at 800000000, .nil, .bool, .at 800000001])], [(800000000, tL, .fz), (800000001, tI, .fz)]⟩
def Z_spec_l2Copy_29 : Shape := ⟨[], [], []⟩
abbrev mk_spec_l2Copy_29 (v0 : Int) (v1 : dM) (v2 : dM) (v3 : dM) : (L_spec_l2Copy_29).X := ((((), ()), ((), ()), ((), ()), (v0, ()), ()), ((v1.1, v1.2.1, v1.2.2.1, v1.2.2.2, ()), ((), (), v2.2.2.1, (), ()), ((), (), v3.2.2.1, (), ()), ()), (v3.1, v3.2.2.2, ()))
abbrev ms_spec_l2Copy_29 (v0 : dM) (v1 : dM) (v2 : dM) : (S_spec_l2Copy_29).X := ((((), ()), ((), ()), ((), ()), ((), ()), ()), ((v0.1, v0.2.1, v0.2.2.1, v0.2.2.2, ()), ((), (), v1.2.2.1, (), ()), ((), (), v2.2.2.1, (), ()), ()), (v2.1, v2.2.2.2, ()))
abbrev mo_spec_l2Copy_29 (v0 : dM) (v1 : dM) (v2 : dM) : (O_spec_l2Copy_29).X := ((((), ()), ((), ()), ((), ()), ()), ((v0.1, v0.2.1, v0.2.2.1, v0.2.2.2, ()), ((), (), v1.2.2.1, (), ()), ((), (), v2.2.2.1, (), ()), ()), (v2.1, v2.2.2.2, ()))
noncomputable def st_spec_l2Copy_29 (v0 : Int) (v1 : List (List Int)) (v2 : List dW) (v3 : Bool) (v4 : List Int) (v5 : Bool) (v6 : Bool) (v7 : List (List Int)) (v8 : List Int) : Option ((L_spec_l2Copy_29).X ⊕ ((O_spec_l2Copy_29).X ⊕ (Z_spec_l2Copy_29).X)) :=
  bif (ltb v0 (v1.length : Int)) then
    bif (inb v0 v1.length) then
      bif (apok ([] : List Int).length (nth v1 v0 []).length 8) then
        bif (apok v7.length ([(([] : List Int) ++ (nth v1 v0 []))] : List (List Int)).length 24) then
          some (.inl ((((), ()), ((), ()), ((), ()), ((IntKind.i64.wrap (v0 + 1)), ()), ()), ((v1, v2, v3, v4, ()), ((), (), v5, (), ()), ((), (), v6, (), ()), ()), ((v7 ++ ([(([] : List Int) ++ (nth v1 v0 []))] : List (List Int))), v8, ())))
        else none
      else none
    else none
  else
    some (.inr (.inl ((((), ()), ((), ()), ((), ()), ()), ((v1, v2, v3, v4, ()), ((), (), v5, (), ()), ((), (), v6, (), ()), ()), (v7, v8, ()))))
noncomputable def stx_spec_l2Copy_29 (x : (L_spec_l2Copy_29).X) := st_spec_l2Copy_29 x.1.2.2.2.1.1 x.2.1.1.1 x.2.1.1.2.1 x.2.1.1.2.2.1 x.2.1.1.2.2.2.1 x.2.1.2.1.2.2.1 x.2.1.2.2.1.2.2.1 x.2.2.1 x.2.2.2.1
def em_spec_l2Copy_29 (x : (S_spec_l2Copy_29).X) : (L_spec_l2Copy_29).X := ((((), ()), ((), ()), ((), ()), (0, ()), ()), ((x.2.1.1.1, x.2.1.1.2.1, x.2.1.1.2.2.1, x.2.1.1.2.2.2.1, ()), ((), (), x.2.1.2.1.2.2.1, (), ()), ((), (), x.2.1.2.2.1.2.2.1, (), ()), ()), (x.2.2.1, x.2.2.2.1, ()))
noncomputable def c_spec_l2Copy_29 : Code := (subN B_spec_l2Copy 64 116).getD .skip
theorem a_spec_l2Copy_29 : subN B_spec_l2Copy 64 29 = some (.block 0 (.loop c_spec_l2Copy_29)) := by kernel_rfl
theorem r_spec_l2Copy_29 (x : (L_spec_l2Copy_29).X) : roundT ⟨E_spec_l2Copy, 60, D_spec_l2Copy_0⟩ 0 c_spec_l2Copy_29 116 L_spec_l2Copy_29 O_spec_l2Copy_29 Z_spec_l2Copy_29 x = stx_spec_l2Copy_29 x := by kernel_rfl
noncomputable def fu_spec_l2Copy_29 (x : (S_spec_l2Copy_29).X) : Nat := (fun (u0 : List (List Int)) (u1 : List dW) (u2 : Bool) (u3 : List Int) (u4 : Bool) (u5 : Bool) (u6 : List (List Int)) (u7 : List Int) => 18446744073709551616) x.2.1.1.1 x.2.1.1.2.1 x.2.1.1.2.2.1 x.2.1.1.2.2.2.1 x.2.1.2.1.2.2.1 x.2.1.2.2.1.2.2.1 x.2.2.1 x.2.2.2.1
noncomputable def F_spec_l2Copy_29 (x : (S_spec_l2Copy_29).X) : Option ((O_spec_l2Copy_29).X ⊕ (Z_spec_l2Copy_29).X) := loopN stx_spec_l2Copy_29 (fu_spec_l2Copy_29 x) (em_spec_l2Copy_29 x)
noncomputable def sg_spec_l2Copy_29 : Seg := ⟨S_spec_l2Copy_29, O_spec_l2Copy_29, Z_spec_l2Copy_29, F_spec_l2Copy_29⟩
noncomputable def D_spec_l2Copy_1 : Nat → Option Seg := fun q => bif Nat.beq q 29 then some sg_spec_l2Copy_29 else D_spec_l2Copy_0 q
theorem fr_spec_l2Copy_1 : FrOk Try.prog ⟨E_spec_l2Copy, 60, D_spec_l2Copy_1⟩ B_spec_l2Copy := (fr_spec_l2Copy_0).loop (sg := sg_spec_l2Copy_29) L_spec_l2Copy_29 em_spec_l2Copy_29 (by decide) a_spec_l2Copy_29 stx_spec_l2Copy_29 fu_spec_l2Copy_29 (by decide) (fun _ => rfl) (fun x r _ h => h) r_spec_l2Copy_29
def L_spec_l2Copy_61 : Shape := ⟨[(1, false, [.ptr 0 0]), (2, false, [.ptr 64 0]), (3, false, [.ptr 4544 0]), (5, false, [.int .i64])], [(0, [.br tL, .br tW, .bool, .br tI]), (64, [.nil, .nil, .bool, .nil]), (4544, [.at 800000000, .at 800000002, .bool, .at 800000001])], [(800000000, tL, .fz), (800000002, tW, (.pr .fz .fz)), (800000001, tI, .fz)]⟩
def S_spec_l2Copy_61 : Shape := ⟨[(1, false, [.ptr 0 0]), (2, false, [.ptr 64 0]), (3, false, [.ptr 4544 0]), (5, false, [.ci .i64 0])], [(0, [.br tL, .br tW, .bool, .br tI]), (64, [.nil, .nil, .bool, .nil]), (4544, [.at 800000000, .at 800000002, .bool, .at 800000001])], [(800000000, tL, .fz), (800000002, tW, (.pr .fz .fz)), (800000001, tI, .fz)]⟩
def O_spec_l2Copy_61 : Shape := ⟨[(2, false, [.ptr 64 0]), (3, false, [.ptr 4544 0])], [(64, [.nil, .nil, .bool, .nil]), (4544, [.at 800000000, .at 800000001, .bool, .at 800000002])], [(800000000, tL, .fz), (800000001, tW, (.pr .fz .fz)), (800000002, tI, .fz)]⟩
def Z_spec_l2Copy_61 : Shape := ⟨[], [], []⟩
abbrev mk_spec_l2Copy_61 (v0 : Int) (v1 : dM) (v2 : dM) (v3 : dM) : (L_spec_l2Copy_61).X := ((((), ()), ((), ()), ((), ()), (v0, ()), ()), ((v1.1, v1.2.1, v1.2.2.1, v1.2.2.2, ()), ((), (), v2.2.2.1, (), ()), ((), (), v3.2.2.1, (), ()), ()), (v3.1, v3.2.1, v3.2.2.2, ()))
abbrev ms_spec_l2Copy_61 (v0 : dM) (v1 : dM) (v2 : dM) : (S_spec_l2Copy_61).X := ((((), ()), ((), ()), ((), ()), ((), ()), ()), ((v0.1, v0.2.1, v0.2.2.1, v0.2.2.2, ()), ((), (), v1.2.2.1, (), ()), ((), (), v2.2.2.1, (), ()), ()), (v2.1, v2.2.1, v2.2.2.2, ()))
abbrev mo_spec_l2Copy_61 (v0 : dM) (v1 : dM) : (O_spec_l2Copy_61).X := ((((), ()), ((), ()), ()), (((), (), v0.2.2.1, (), ()), ((), (), v1.2.2.1, (), ()), ()), (v1.1, v1.2.1, v1.2.2.2, ()))
noncomputable def st_spec_l2Copy_61 (v0 : Int) (v1 : List (List Int)) (v2 : List dW) (v3 : Bool) (v4 : List Int) (v5 : Bool) (v6 : Bool) (v7 : List (List Int)) (v8 : List dW) (v9 : List Int) : Option ((L_spec_l2Copy_61).X ⊕ ((O_spec_l2Copy_61).X ⊕ (Z_spec_l2Copy_61).X)) :=
  bif (ltb v0 (v2.length : Int)) then
    bif (inb v0 v2.length) then
      bif (inb v0 v2.length) then
        bif (apok ([] : List Int).length ((nth v2 v0 (0, [])).2).length 8) then
          bif (apok v8.length ([((nth v2 v0 (0, [])).1, (([] : List Int) ++ ((nth v2 v0 (0, [])).2)))] : List dW).length 32) then
            some (.inl ((((), ()), ((), ()), ((), ()), ((IntKind.i64.wrap (v0 + 1)), ()), ()), ((v1, v2, v3, v4, ()), ((), (), v5, (), ()), ((), (), v6, (), ()), ()), (v7, (v8 ++ ([((nth v2 v0 (0, [])).1, (([] : List Int) ++ ((nth v2 v0 (0, [])).2)))] : List dW)), v9, ())))
          else none
        else none
      else none
    else none
  else
    some (.inr (.inl ((((), ()), ((), ()), ()), (((), (), v5, (), ()), ((), (), v6, (), ()), ()), (v7, v8, v9, ()))))
noncomputable def stx_spec_l2Copy_61 (x : (L_spec_l2Copy_61).X) := st_spec_l2Copy_61 x.1.2.2.2.1.1 x.2.1.1.1 x.2.1.1.2.1 x.2.1.1.2.2.1 x.2.1.1.2.2.2.1 x.2.1.2.1.2.2.1 x.2.1.2.2.1.2.2.1 x.2.2.1 x.2.2.2.1 x.2.2.2.2.1
def em_spec_l2Copy_61 (x : (S_spec_l2Copy_61).X) : (L_spec_l2Copy_61).X := ((((), ()), ((), ()), ((), ()), (0, ()), ()), ((x.2.1.1.1, x.2.1.1.2.1, x.2.1.1.2.2.1, x.2.1.1.2.2.2.1, ()), ((), (), x.2.1.2.1.2.2.1, (), ()), ((), (), x.2.1.2.2.1.2.2.1, (), ()), ()), (x.2.2.1, x.2.2.2.1, x.2.2.2.2.1, ()))
noncomputable def c_spec_l2Copy_61 : Code := (subN B_spec_l2Copy 64 244).getD .skip
theorem a_spec_l2Copy_61 : subN B_spec_l2Copy 64 61 = some (.block 2 (.loop c_spec_l2Copy_61)) := by kernel_rfl
theorem r_spec_l2Copy_61 (x : (L_spec_l2Copy_61).X) : roundT ⟨E_spec_l2Copy, 60, D_spec_l2Copy_1⟩ 2 c_spec_l2Copy_61 244 L_spec_l2Copy_61 O_spec_l2Copy_61 Z_spec_l2Copy_61 x = stx_spec_l2Copy_61 x := by kernel_rfl
noncomputable def fu_spec_l2Copy_61 (x : (S_spec_l2Copy_61).X) : Nat := (fun (u0 : List (List Int)) (u1 : List dW) (u2 : Bool) (u3 : List Int) (u4 : Bool) (u5 : Bool) (u6 : List (List Int)) (u7 : List dW) (u8 : List Int) => 18446744073709551616) x.2.1.1.1 x.2.1.1.2.1 x.2.1.1.2.2.1 x.2.1.1.2.2.2.1 x.2.1.2.1.2.2.1 x.2.1.2.2.1.2.2.1 x.2.2.1 x.2.2.2.1 x.2.2.2.2.1
noncomputable def F_spec_l2Copy_61 (x : (S_spec_l2Copy_61).X) : Option ((O_spec_l2Copy_61).X ⊕ (Z_spec_l2Copy_61).X) := loopN stx_spec_l2Copy_61 (fu_spec_l2Copy_61 x) (em_spec_l2Copy_61 x)
noncomputable def sg_spec_l2Copy_61 : Seg := ⟨S_spec_l2Copy_61, O_spec_l2Copy_61, Z_spec_l2Copy_61, F_spec_l2Copy_61⟩
noncomputable def D_spec_l2Copy_2 : Nat → Option Seg := fun q => bif Nat.beq q 61 then some sg_spec_l2Copy_61 else D_spec_l2Copy_1 q
theorem fr_spec_l2Copy_2 : FrOk Try.prog ⟨E_spec_l2Copy, 60, D_spec_l2Copy_2⟩ B_spec_l2Copy := (fr_spec_l2Copy_1).loop (sg := sg_spec_l2Copy_61) L_spec_l2Copy_61 em_spec_l2Copy_61 (by decide) a_spec_l2Copy_61 stx_spec_l2Copy_61 fu_spec_l2Copy_61 (by decide) (fun _ => rfl) (fun x r _ h => h) r_spec_l2Copy_61
abbrev I_spec_l2Copy : List Par := [.rd tM]
abbrev U_spec_l2Copy : List OT := [⟨false, tM, (.pr (.ow .fz) (.pr (.ow (.pr .fz .fz)) (.pr .fz (.ow .fz))))⟩]
noncomputable def raw_spec_l2Copy (a0 : dM) : Option (ResD U_spec_l2Copy × MutD I_spec_l2Copy) :=
  bif (apok ([] : List Int).length a0.2.2.2.length 8) then
    segM (F_spec_l2Copy_29 ((((), ()), ((), ()), ((), ()), ((), ()), ()), ((a0.1, a0.2.1, a0.2.2.1, a0.2.2.2, ()), ((), (), false, (), ()), ((), (), a0.2.2.1, (), ()), ()), ([], (([] : List Int) ++ a0.2.2.2), ()))) (fun y0 =>
      segM (F_spec_l2Copy_61 ((((), ()), ((), ()), ((), ()), ((), ()), ()), ((y0.2.1.1.1, y0.2.1.1.2.1, y0.2.1.1.2.2.1, y0.2.1.1.2.2.2.1, ()), ((), (), y0.2.1.2.1.2.2.1, (), ()), ((), (), y0.2.1.2.2.1.2.2.1, (), ()), ()), (y0.2.2.1, [], y0.2.2.2.1, ()))) (fun y1 =>
        some (((y1.2.2.1, y1.2.2.2.1, y1.2.1.2.1.2.2.1, y1.2.2.2.2.1), ()), ())) (fun y1 =>
        none)) (fun y0 =>
      none)
  else none
theorem e_spec_l2Copy (x : InD I_spec_l2Copy) : execF ⟨E_spec_l2Copy, 60, D_spec_l2Copy_2⟩ Try.f116.results.toList B_spec_l2Copy I_spec_l2Copy U_spec_l2Copy x = raw_spec_l2Copy x.1 := by kernel_rfl
theorem ok0_spec_l2Copy : ConOk Try.prog 116 ⟨I_spec_l2Copy, U_spec_l2Copy, fun x => raw_spec_l2Copy x.1⟩ := conOk_exec (fr_spec_l2Copy_2) Try.func116 (by kernel_rfl) (by kernel_rfl) Try.ntmps116.symm (by decide) (fun x r h => (e_spec_l2Copy x).trans h)
noncomputable def n_spec_l2Copy (a0 : dM) : dM := a0
theorem nn_spec_l2Copy (a0 : dM) (hk : InOk I_spec_l2Copy (a0, ())) : raw_spec_l2Copy a0 = (fun n => some ((n, ()), ())) (n_spec_l2Copy a0) := by
  have hb1 : a0.1.length * 24 ≤ 2 ^ 47 := hk.1.1.1
  have hb2 : a0.2.1.length * 32 ≤ 2 ^ 47 := hk.1.2.1.1
  have hb3 : a0.2.2.2.length * 8 ≤ 2 ^ 47 := hk.1.2.2.2.1
  have hs : ∀ i, i < a0.1.length → (a0.1.getD i []).length * 8 ≤ 2 ^ 47 := fun i hi => by rw [getD_get hi]; exact (hk.1.1.2 _ (List.getElem_mem hi)).1
  have hc : ∀ i, i < a0.2.1.length → (a0.2.1.getD i (0, [])).2.length * 8 ≤ 2 ^ 47 := fun i hi => by rw [getD_get hi]; exact (hk.1.2.1.2 _ (List.getElem_mem hi)).2.1
  have h1 : F_spec_l2Copy_29 (ms_spec_l2Copy_29 a0 noMem ([], [], a0.2.2.1, a0.2.2.2)) = some (.inl (mo_spec_l2Copy_29 a0 noMem (a0.1, [], a0.2.2.1, a0.2.2.2))) := by
    have := loopN_fold (step := stx_spec_l2Copy_29) a0.1 [] (fun i s => mk_spec_l2Copy_29 i a0 noMem (s, [], a0.2.2.1, a0.2.2.2)) (fun s x => s ++ [x]) (fun i s => s.length = i) (fun s => .inl (mo_spec_l2Copy_29 a0 noMem (s, [], a0.2.2.1, a0.2.2.2))) (fun i s hi hs2 => ⟨by
      have := hs i hi
      simp only [stx_spec_l2Copy_29, mk_spec_l2Copy_29, st_spec_l2Copy_29, ltb_t (show (i : Int) < a0.1.length by omega), cond_true, wr (show -9223372036854775808 ≤ (i : Int) + 1 by omega) (by omega), Int.natCast_add, Int.natCast_one, Int.toNat_natCast, inb_nat hi, nth_nat, List.nil_append]
      rw [apok_iff.2 (show (([] : List Int).length + (a0.1.getD i []).length) * 8 ≤ 140737488355328 by rw [List.length_nil]; omega), apok_iff.2 (show (s.length + [a0.1.getD i []].length) * 24 ≤ 140737488355328 by simp only [List.length_cons, List.length_nil]; omega)]; rfl, by simp [hs2]⟩) (fun s _ => by simp only [stx_spec_l2Copy_29, mk_spec_l2Copy_29, st_spec_l2Copy_29, ltb_f (Int.le_refl _), cond_false]) [] rfl 18446744073709551616 (by omega)
    rw [foldl_id] at this
    exact this
  have h2 : F_spec_l2Copy_61 (ms_spec_l2Copy_61 a0 noMem (a0.1, [], a0.2.2.1, a0.2.2.2)) = some (.inl (mo_spec_l2Copy_61 noMem a0)) := by
    have := loopN_fold (step := stx_spec_l2Copy_61) a0.2.1 (0, []) (fun i s => mk_spec_l2Copy_61 i a0 noMem (a0.1, s, a0.2.2.1, a0.2.2.2)) (fun s x => s ++ [x]) (fun i s => s.length = i) (fun s => .inl (mo_spec_l2Copy_61 noMem (a0.1, s, a0.2.2.1, a0.2.2.2))) (fun i s hi hs2 => ⟨by
      have := hc i hi
      simp only [stx_spec_l2Copy_61, mk_spec_l2Copy_61, st_spec_l2Copy_61, ltb_t (show (i : Int) < a0.2.1.length by omega), cond_true, wr (show -9223372036854775808 ≤ (i : Int) + 1 by omega) (by omega), Int.natCast_add, Int.natCast_one, Int.toNat_natCast, inb_nat hi, nth_nat, List.nil_append, pr_eta]
      rw [apok_iff.2 (show (([] : List Int).length + (a0.2.1.getD i (0, [])).2.length) * 8 ≤ 140737488355328 by rw [List.length_nil]; omega), apok_iff.2 (show (s.length + [a0.2.1.getD i (0, [])].length) * 32 ≤ 140737488355328 by simp only [List.length_cons, List.length_nil]; omega)]; rfl, by simp [hs2]⟩) (fun s _ => by simp only [stx_spec_l2Copy_61, mk_spec_l2Copy_61, st_spec_l2Copy_61, ltb_f (Int.le_refl _), cond_false]) [] rfl 18446744073709551616 (by omega)
    rw [foldl_id] at this
    exact this
  unfold raw_spec_l2Copy n_spec_l2Copy
  rw [apok_iff.2 (show (([] : List Int).length + a0.2.2.2.length) * 8 ≤ 140737488355328 by rw [List.length_nil]; omega)]
  simp only [cond_true, List.nil_append, h1, segM_inl, h2]
noncomputable def con_spec_l2Copy : Con := ⟨I_spec_l2Copy, U_spec_l2Copy, fun x => (fun n => some ((n, ()), ())) (n_spec_l2Copy x.1)⟩
theorem ok_spec_l2Copy : ConOk Try.prog 116 con_spec_l2Copy := (ok0_spec_l2Copy).mono (fun x r hk h => (nn_spec_l2Copy x.1 hk).trans h)
end

/-! spec_l6Copy -/
section
noncomputable def B_spec_l6Copy : Code := (Try.f112.body).getD .skip
noncomputable def E_spec_l6Copy : Env := envOf TT [(116, con_spec_l2Copy)] [(8192, (.pr (.ow .fz) (.pr (.ow (.pr .fz .fz)) (.pr .fz (.ow .fz))))), (25088, (.pr (.ow .fz) (.pr (.ow (.pr .fz .fz)) (.pr .fz (.ow .fz))))), (28672, (.pr .fz .fz)), (46144, (.pr .fz .fz))]
theorem fr_spec_l6Copy_0 : FrOk Try.prog ⟨E_spec_l6Copy, 57, fun _ => none⟩ B_spec_l6Copy := frOk_base mixed tt_ok ⟨ok_spec_l2Copy, trivial⟩
noncomputable def D_spec_l6Copy_0 : Nat → Option Seg := fun _ => none
def L_spec_l6Copy_61 : Shape := ⟨[(1, false, [.ptr 0 0]), (2, false, [.ptr 64 0]), (3, false, [.ptr 4160 0]), (4, false, [.int .i64])], [(0, [.int .i64, .int .i64, .int .i64, .br tM, .int .i64, .int .i64, .int .i64, .int .i64, .int .i64, .br tW, .int .i64, .bool, .bool]), (64, [.int .i64, .int .i64, .int .i64, .nil, .int .i64, .int .i64, .int .i64, .int .i64, .int .i64, .nil, .int .i64, .bool, .bool]), (4160, [.int .i64, .int .i64, .int .i64, .at 800000000, .int .i64, .int .i64, .int .i64, .int .i64, .int .i64, .br tW, .int .i64, .bool, .bool])], [(800000000, tM, (.pr (.ow .fz) (.pr (.ow (.pr .fz .fz)) (.pr .fz (.ow .fz)))))]⟩
def S_spec_l6Copy_61 : Shape := ⟨[(1, false, [.ptr 0 0]), (2, false, [.ptr 64 0]), (3, false, [.ptr 4160 0]), (4, false, [.ci .i64 0])], [(0, [.int .i64, .int .i64, .int .i64, .br tM, .int .i64, .int .i64, .int .i64, .int .i64, .int .i64, .br tW, .int .i64, .bool, .bool]), (64, [.int .i64, .int .i64, .int .i64, .nil, .int .i64, .int .i64, .int .i64, .int .i64, .int .i64, .nil, .int .i64, .bool, .bool]), (4160, [.int .i64, .int .i64, .int .i64, .at 800000000, .int .i64, .int .i64, .int .i64, .int .i64, .int .i64, .br tW, .int .i64, .bool, .bool])], [(800000000, tM, (.pr (.ow .fz) (.pr (.ow (.pr .fz .fz)) (.pr .fz (.ow .fz)))))]⟩
def O_spec_l6Copy_61 : Shape := ⟨[(1, false, [.ptr 0 0]), (2, false, [.ptr 64 0]), (3, false, [.ptr 4160 0])], [(0, [.int .i64, .int .i64, .int .i64, .br tM, .int .i64, .int .i64, .int .i64, .int .i64, .int .i64, .br tW, .int .i64, .bool, .bool]), (64, [.int .i64, .int .i64, .int .i64, .nil, .int .i64, .int .i64, .int .i64, .int .i64, .int .i64, .nil, .int .i64, .bool, .bool]), (4160, [.int .i64, .int .i64, .int .i64, .at 800000000, .int .i64, .int .i64, .int .i64, .int .i64, .int .i64, .br tW, .int .i64, .bool, .bool])], [(800000000, tM, (.pr (.ow .fz) (.pr (.ow (.pr .fz .fz)) (.pr .fz (.ow .fz)))))]⟩
def Z_spec_l6Copy_61 : Shape := ⟨[], [], []⟩
abbrev mk_spec_l6Copy_61 (v0 : Int) (v1 : dA) (v2 : dA) (v3 : dA) : (L_spec_l6Copy_61).X := ((((), ()), ((), ()), ((), ()), (v0, ()), ()), ((v1.1, v1.2.1.1, v1.2.1.2, v1.2.2.1, v1.2.2.2.1, v1.2.2.2.2.1, v1.2.2.2.2.2.1, v1.2.2.2.2.2.2.1, v1.2.2.2.2.2.2.2.1, v1.2.2.2.2.2.2.2.2.1, v1.2.2.2.2.2.2.2.2.2.1, v1.2.2.2.2.2.2.2.2.2.2.1, v1.2.2.2.2.2.2.2.2.2.2.2, ()), (v2.1, v2.2.1.1, v2.2.1.2, (), v2.2.2.2.1, v2.2.2.2.2.1, v2.2.2.2.2.2.1, v2.2.2.2.2.2.2.1, v2.2.2.2.2.2.2.2.1, (), v2.2.2.2.2.2.2.2.2.2.1, v2.2.2.2.2.2.2.2.2.2.2.1, v2.2.2.2.2.2.2.2.2.2.2.2, ()), (v3.1, v3.2.1.1, v3.2.1.2, (), v3.2.2.2.1, v3.2.2.2.2.1, v3.2.2.2.2.2.1, v3.2.2.2.2.2.2.1, v3.2.2.2.2.2.2.2.1, v3.2.2.2.2.2.2.2.2.1, v3.2.2.2.2.2.2.2.2.2.1, v3.2.2.2.2.2.2.2.2.2.2.1, v3.2.2.2.2.2.2.2.2.2.2.2, ()), ()), (v3.2.2.1, ()))
abbrev ms_spec_l6Copy_61 (v0 : dA) (v1 : dA) (v2 : dA) : (S_spec_l6Copy_61).X := ((((), ()), ((), ()), ((), ()), ((), ()), ()), ((v0.1, v0.2.1.1, v0.2.1.2, v0.2.2.1, v0.2.2.2.1, v0.2.2.2.2.1, v0.2.2.2.2.2.1, v0.2.2.2.2.2.2.1, v0.2.2.2.2.2.2.2.1, v0.2.2.2.2.2.2.2.2.1, v0.2.2.2.2.2.2.2.2.2.1, v0.2.2.2.2.2.2.2.2.2.2.1, v0.2.2.2.2.2.2.2.2.2.2.2, ()), (v1.1, v1.2.1.1, v1.2.1.2, (), v1.2.2.2.1, v1.2.2.2.2.1, v1.2.2.2.2.2.1, v1.2.2.2.2.2.2.1, v1.2.2.2.2.2.2.2.1, (), v1.2.2.2.2.2.2.2.2.2.1, v1.2.2.2.2.2.2.2.2.2.2.1, v1.2.2.2.2.2.2.2.2.2.2.2, ()), (v2.1, v2.2.1.1, v2.2.1.2, (), v2.2.2.2.1, v2.2.2.2.2.1, v2.2.2.2.2.2.1, v2.2.2.2.2.2.2.1, v2.2.2.2.2.2.2.2.1, v2.2.2.2.2.2.2.2.2.1, v2.2.2.2.2.2.2.2.2.2.1, v2.2.2.2.2.2.2.2.2.2.2.1, v2.2.2.2.2.2.2.2.2.2.2.2, ()), ()), (v2.2.2.1, ()))
abbrev mo_spec_l6Copy_61 (v0 : dA) (v1 : dA) (v2 : dA) : (O_spec_l6Copy_61).X := ((((), ()), ((), ()), ((), ()), ()), ((v0.1, v0.2.1.1, v0.2.1.2, v0.2.2.1, v0.2.2.2.1, v0.2.2.2.2.1, v0.2.2.2.2.2.1, v0.2.2.2.2.2.2.1, v0.2.2.2.2.2.2.2.1, v0.2.2.2.2.2.2.2.2.1, v0.2.2.2.2.2.2.2.2.2.1, v0.2.2.2.2.2.2.2.2.2.2.1, v0.2.2.2.2.2.2.2.2.2.2.2, ()), (v1.1, v1.2.1.1, v1.2.1.2, (), v1.2.2.2.1, v1.2.2.2.2.1, v1.2.2.2.2.2.1, v1.2.2.2.2.2.2.1, v1.2.2.2.2.2.2.2.1, (), v1.2.2.2.2.2.2.2.2.2.1, v1.2.2.2.2.2.2.2.2.2.2.1, v1.2.2.2.2.2.2.2.2.2.2.2, ()), (v2.1, v2.2.1.1, v2.2.1.2, (), v2.2.2.2.1, v2.2.2.2.2.1, v2.2.2.2.2.2.1, v2.2.2.2.2.2.2.1, v2.2.2.2.2.2.2.2.1, v2.2.2.2.2.2.2.2.2.1, v2.2.2.2.2.2.2.2.2.2.1, v2.2.2.2.2.2.2.2.2.2.2.1, v2.2.2.2.2.2.2.2.2.2.2.2, ()), ()), (v2.2.2.1, ()))
noncomputable def st_spec_l6Copy_61 (v0 : Int) (v1 : Int) (v2 : Int) (v3 : Int) (v4 : List dM) (v5 : Int) (v6 : Int) (v7 : Int) (v8 : Int) (v9 : Int) (v10 : List dW) (v11 : Int) (v12 : Bool) (v13 : Bool) (v14 : Int) (v15 : Int) (v16 : Int) (v17 : Int) (v18 : Int) (v19 : Int) (v20 : Int) (v21 : Int) (v22 : Int) (v23 : Bool) (v24 : Bool) (v25 : Int) (v26 : Int) (v27 : Int) (v28 : Int) (v29 : Int) (v30 : Int) (v31 : Int) (v32 : Int) (v33 : List dW) (v34 : Int) (v35 : Bool) (v36 : Bool) (v37 : List dM) : Option ((L_spec_l6Copy_61).X ⊕ ((O_spec_l6Copy_61).X ⊕ (Z_spec_l6Copy_61).X)) :=
  bif (ltb v0 (v4.length : Int)) then
    bif (inb v0 v4.length) then
      let r2 := n_spec_l2Copy ((nth v4 v0 ([], [], false, [])).1, ((nth v4 v0 ([], [], false, [])).2).1, (((nth v4 v0 ([], [], false, [])).2).2))
      bif (apok v37.length ([r2] : List dM).length 80) then
        some (.inl ((((), ()), ((), ()), ((), ()), ((IntKind.i64.wrap (v0 + 1)), ()), ()), ((v1, v2, v3, v4, v5, v6, v7, v8, v9, v10, v11, v12, v13, ()), (v14, v15, v16, (), v17, v18, v19, v20, v21, (), v22, v23, v24, ()), (v25, v26, v27, (), v28, v29, v30, v31, v32, v33, v34, v35, v36, ()), ()), ((v37 ++ ([r2] : List dM)), ())))
      else none
    else none
  else
    some (.inr (.inl ((((), ()), ((), ()), ((), ()), ()), ((v1, v2, v3, v4, v5, v6, v7, v8, v9, v10, v11, v12, v13, ()), (v14, v15, v16, (), v17, v18, v19, v20, v21, (), v22, v23, v24, ()), (v25, v26, v27, (), v28, v29, v30, v31, v32, v33, v34, v35, v36, ()), ()), (v37, ()))))
noncomputable def stx_spec_l6Copy_61 (x : (L_spec_l6Copy_61).X) := st_spec_l6Copy_61 x.1.2.2.2.1.1 x.2.1.1.1 x.2.1.1.2.1 x.2.1.1.2.2.1 x.2.1.1.2.2.2.1 x.2.1.1.2.2.2.2.1 x.2.1.1.2.2.2.2.2.1 x.2.1.1.2.2.2.2.2.2.1 x.2.1.1.2.2.2.2.2.2.2.1 x.2.1.1.2.2.2.2.2.2.2.2.1 x.2.1.1.2.2.2.2.2.2.2.2.2.1 x.2.1.1.2.2.2.2.2.2.2.2.2.2.1 x.2.1.1.2.2.2.2.2.2.2.2.2.2.2.1 x.2.1.1.2.2.2.2.2.2.2.2.2.2.2.2.1 x.2.1.2.1.1 x.2.1.2.1.2.1 x.2.1.2.1.2.2.1 x.2.1.2.1.2.2.2.2.1 x.2.1.2.1.2.2.2.2.2.1 x.2.1.2.1.2.2.2.2.2.2.1 x.2.1.2.1.2.2.2.2.2.2.2.1 x.2.1.2.1.2.2.2.2.2.2.2.2.1 x.2.1.2.1.2.2.2.2.2.2.2.2.2.2.1 x.2.1.2.1.2.2.2.2.2.2.2.2.2.2.2.1 x.2.1.2.1.2.2.2.2.2.2.2.2.2.2.2.2.1 x.2.1.2.2.1.1 x.2.1.2.2.1.2.1 x.2.1.2.2.1.2.2.1 x.2.1.2.2.1.2.2.2.2.1 x.2.1.2.2.1.2.2.2.2.2.1 x.2.1.2.2.1.2.2.2.2.2.2.1 x.2.1.2.2.1.2.2.2.2.2.2.2.1 x.2.1.2.2.1.2.2.2.2.2.2.2.2.1 x.2.1.2.2.1.2.2.2.2.2.2.2.2.2.1 x.2.1.2.2.1.2.2.2.2.2.2.2.2.2.2.1 x.2.1.2.2.1.2.2.2.2.2.2.2.2.2.2.2.1 x.2.1.2.2.1.2.2.2.2.2.2.2.2.2.2.2.2.1 x.2.2.1
def em_spec_l6Copy_61 (x : (S_spec_l6Copy_61).X) : (L_spec_l6Copy_61).X := ((((), ()), ((), ()), ((), ()), (0, ()), ()), ((x.2.1.1.1, x.2.1.1.2.1, x.2.1.1.2.2.1, x.2.1.1.2.2.2.1, x.2.1.1.2.2.2.2.1, x.2.1.1.2.2.2.2.2.1, x.2.1.1.2.2.2.2.2.2.1, x.2.1.1.2.2.2.2.2.2.2.1, x.2.1.1.2.2.2.2.2.2.2.2.1, x.2.1.1.2.2.2.2.2.2.2.2.2.1, x.2.1.1.2.2.2.2.2.2.2.2.2.2.1, x.2.1.1.2.2.2.2.2.2.2.2.2.2.2.1, x.2.1.1.2.2.2.2.2.2.2.2.2.2.2.2.1, ()), (x.2.1.2.1.1, x.2.1.2.1.2.1, x.2.1.2.1.2.2.1, (), x.2.1.2.1.2.2.2.2.1, x.2.1.2.1.2.2.2.2.2.1, x.2.1.2.1.2.2.2.2.2.2.1, x.2.1.2.1.2.2.2.2.2.2.2.1, x.2.1.2.1.2.2.2.2.2.2.2.2.1, (), x.2.1.2.1.2.2.2.2.2.2.2.2.2.2.1, x.2.1.2.1.2.2.2.2.2.2.2.2.2.2.2.1, x.2.1.2.1.2.2.2.2.2.2.2.2.2.2.2.2.1, ()), (x.2.1.2.2.1.1, x.2.1.2.2.1.2.1, x.2.1.2.2.1.2.2.1, (), x.2.1.2.2.1.2.2.2.2.1, x.2.1.2.2.1.2.2.2.2.2.1, x.2.1.2.2.1.2.2.2.2.2.2.1, x.2.1.2.2.1.2.2.2.2.2.2.2.1, x.2.1.2.2.1.2.2.2.2.2.2.2.2.1, x.2.1.2.2.1.2.2.2.2.2.2.2.2.2.1, x.2.1.2.2.1.2.2.2.2.2.2.2.2.2.2.1, x.2.1.2.2.1.2.2.2.2.2.2.2.2.2.2.2.1, x.2.1.2.2.1.2.2.2.2.2.2.2.2.2.2.2.2.1, ()), ()), (x.2.2.1, ()))
noncomputable def c_spec_l6Copy_61 : Code := (subN B_spec_l6Copy 64 244).getD .skip
theorem a_spec_l6Copy_61 : subN B_spec_l6Copy 64 61 = some (.block 0 (.loop c_spec_l6Copy_61)) := by kernel_rfl
theorem r_spec_l6Copy_61 (x : (L_spec_l6Copy_61).X) : roundT ⟨E_spec_l6Copy, 57, D_spec_l6Copy_0⟩ 0 c_spec_l6Copy_61 244 L_spec_l6Copy_61 O_spec_l6Copy_61 Z_spec_l6Copy_61 x = stx_spec_l6Copy_61 x := by kernel_rfl
noncomputable def fu_spec_l6Copy_61 (x : (S_spec_l6Copy_61).X) : Nat := (fun (u0 : Int) (u1 : Int) (u2 : Int) (u3 : List dM) (u4 : Int) (u5 : Int) (u6 : Int) (u7 : Int) (u8 : Int) (u9 : List dW) (u10 : Int) (u11 : Bool) (u12 : Bool) (u13 : Int) (u14 : Int) (u15 : Int) (u16 : Int) (u17 : Int) (u18 : Int) (u19 : Int) (u20 : Int) (u21 : Int) (u22 : Bool) (u23 : Bool) (u24 : Int) (u25 : Int) (u26 : Int) (u27 : Int) (u28 : Int) (u29 : Int) (u30 : Int) (u31 : Int) (u32 : List dW) (u33 : Int) (u34 : Bool) (u35 : Bool) (u36 : List dM) => 18446744073709551616) x.2.1.1.1 x.2.1.1.2.1 x.2.1.1.2.2.1 x.2.1.1.2.2.2.1 x.2.1.1.2.2.2.2.1 x.2.1.1.2.2.2.2.2.1 x.2.1.1.2.2.2.2.2.2.1 x.2.1.1.2.2.2.2.2.2.2.1 x.2.1.1.2.2.2.2.2.2.2.2.1 x.2.1.1.2.2.2.2.2.2.2.2.2.1 x.2.1.1.2.2.2.2.2.2.2.2.2.2.1 x.2.1.1.2.2.2.2.2.2.2.2.2.2.2.1 x.2.1.1.2.2.2.2.2.2.2.2.2.2.2.2.1 x.2.1.2.1.1 x.2.1.2.1.2.1 x.2.1.2.1.2.2.1 x.2.1.2.1.2.2.2.2.1 x.2.1.2.1.2.2.2.2.2.1 x.2.1.2.1.2.2.2.2.2.2.1 x.2.1.2.1.2.2.2.2.2.2.2.1 x.2.1.2.1.2.2.2.2.2.2.2.2.1 x.2.1.2.1.2.2.2.2.2.2.2.2.2.2.1 x.2.1.2.1.2.2.2.2.2.2.2.2.2.2.2.1 x.2.1.2.1.2.2.2.2.2.2.2.2.2.2.2.2.1 x.2.1.2.2.1.1 x.2.1.2.2.1.2.1 x.2.1.2.2.1.2.2.1 x.2.1.2.2.1.2.2.2.2.1 x.2.1.2.2.1.2.2.2.2.2.1 x.2.1.2.2.1.2.2.2.2.2.2.1 x.2.1.2.2.1.2.2.2.2.2.2.2.1 x.2.1.2.2.1.2.2.2.2.2.2.2.2.1 x.2.1.2.2.1.2.2.2.2.2.2.2.2.2.1 x.2.1.2.2.1.2.2.2.2.2.2.2.2.2.2.1 x.2.1.2.2.1.2.2.2.2.2.2.2.2.2.2.2.1 x.2.1.2.2.1.2.2.2.2.2.2.2.2.2.2.2.2.1 x.2.2.1
noncomputable def F_spec_l6Copy_61 (x : (S_spec_l6Copy_61).X) : Option ((O_spec_l6Copy_61).X ⊕ (Z_spec_l6Copy_61).X) := loopN stx_spec_l6Copy_61 (fu_spec_l6Copy_61 x) (em_spec_l6Copy_61 x)
noncomputable def sg_spec_l6Copy_61 : Seg := ⟨S_spec_l6Copy_61, O_spec_l6Copy_61, Z_spec_l6Copy_61, F_spec_l6Copy_61⟩
noncomputable def D_spec_l6Copy_1 : Nat → Option Seg := fun q => bif Nat.beq q 61 then some sg_spec_l6Copy_61 else D_spec_l6Copy_0 q
theorem fr_spec_l6Copy_1 : FrOk Try.prog ⟨E_spec_l6Copy, 57, D_spec_l6Copy_1⟩ B_spec_l6Copy := (fr_spec_l6Copy_0).loop (sg := sg_spec_l6Copy_61) L_spec_l6Copy_61 em_spec_l6Copy_61 (by decide) a_spec_l6Copy_61 stx_spec_l6Copy_61 fu_spec_l6Copy_61 (by decide) (fun _ => rfl) (fun x r _ h => h) r_spec_l6Copy_61
def L_spec_l6Copy_253 : Shape := ⟨[(1, false, [.ptr 0 0]), (2, false, [.ptr 64 0]), (3, false, [.ptr 4160 0]), (5, false, [.int .i64])], [(0, [.int .i64, .int .i64, .int .i64, .br tM, .int .i64, .int .i64, .int .i64, .int .i64, .int .i64, .br tW, .int .i64, .bool, .bool]), (64, [.int .i64, .int .i64, .int .i64, .nil, .int .i64, .int .i64, .int .i64, .int .i64, .int .i64, .nil, .int .i64, .bool, .bool]), (4160, [.int .i64, .int .i64, .int .i64, .at 800000000, .int .i64, .int .i64, .int .i64, .int .i64, .int .i64, .at 800000001, .int .i64, .bool, .bool])], [(800000000, tM, (.pr (.ow .fz) (.pr (.ow (.pr .fz .fz)) (.pr .fz (.ow .fz))))), (800000001, tW, (.pr .fz .fz))]⟩
def S_spec_l6Copy_253 : Shape := ⟨[(1, false, [.ptr 0 0]), (2, false, [.ptr 64 0]), (3, false, [.ptr 4160 0]), (5, false, [.ci .i64 0])], [(0, [.int .i64, .int .i64, .int .i64, .br tM, .int .i64, .int .i64, .int .i64, .int .i64, .int .i64, .br tW, .int .i64, .bool, .bool]), (64, [.int .i64, .int .i64, .int .i64, .nil, .int .i64, .int .i64, .int .i64, .int .i64, .int .i64, .nil, .int .i64, .bool, .bool]), (4160, [.int .i64, .int .i64, .int .i64, .at 800000000, .int .i64, .int .i64, .int .i64, .int .i64, .int .i64, .at 800000001, .int .i64, .bool, .bool])], [(800000000, tM, (.pr (.ow .fz) (.pr (.ow (.pr .fz .fz)) (.pr .fz (.ow .fz))))), (800000001, tW, (.pr .fz .fz))]⟩
def O_spec_l6Copy_253 : Shape := ⟨[(2, false, [.ptr 64 0]), (3, false, [.ptr 4160 0])], [(64, [.int .i64, .int .i64, .int .i64, .nil, .int .i64, .int .i64, .int .i64, .int .i64, .int .i64, .nil, .int .i64, .bool, .bool]), (4160, [.int .i64, .int .i64, .int .i64, .at 800000000, .int .i64, .int .i64, .int .i64, .int .i64, .int .i64, .at 800000001, .int .i64, .bool, .bool])], [(800000000, tM, (.pr (.ow .fz) (.pr (.ow (.pr .fz .fz)) (.pr .fz (.ow .fz))))), (800000001, tW, (.pr .fz .fz))]⟩
def Z_spec_l6Copy_253 : Shape := ⟨[], [], []⟩
abbrev mk_spec_l6Copy_253 (v0 : Int) (v1 : dA) (v2 : dA) (v3 : dA) : (L_spec_l6Copy_253).X := ((((), ()), ((), ()), ((), ()), (v0, ()), ()), ((v1.1, v1.2.1.1, v1.2.1.2, v1.2.2.1, v1.2.2.2.1, v1.2.2.2.2.1, v1.2.2.2.2.2.1, v1.2.2.2.2.2.2.1, v1.2.2.2.2.2.2.2.1, v1.2.2.2.2.2.2.2.2.1, v1.2.2.2.2.2.2.2.2.2.1, v1.2.2.2.2.2.2.2.2.2.2.1, v1.2.2.2.2.2.2.2.2.2.2.2, ()), (v2.1, v2.2.1.1, v2.2.1.2, (), v2.2.2.2.1, v2.2.2.2.2.1, v2.2.2.2.2.2.1, v2.2.2.2.2.2.2.1, v2.2.2.2.2.2.2.2.1, (), v2.2.2.2.2.2.2.2.2.2.1, v2.2.2.2.2.2.2.2.2.2.2.1, v2.2.2.2.2.2.2.2.2.2.2.2, ()), (v3.1, v3.2.1.1, v3.2.1.2, (), v3.2.2.2.1, v3.2.2.2.2.1, v3.2.2.2.2.2.1, v3.2.2.2.2.2.2.1, v3.2.2.2.2.2.2.2.1, (), v3.2.2.2.2.2.2.2.2.2.1, v3.2.2.2.2.2.2.2.2.2.2.1, v3.2.2.2.2.2.2.2.2.2.2.2, ()), ()), (v3.2.2.1, v3.2.2.2.2.2.2.2.2.1, ()))
abbrev ms_spec_l6Copy_253 (v0 : dA) (v1 : dA) (v2 : dA) : (S_spec_l6Copy_253).X := ((((), ()), ((), ()), ((), ()), ((), ()), ()), ((v0.1, v0.2.1.1, v0.2.1.2, v0.2.2.1, v0.2.2.2.1, v0.2.2.2.2.1, v0.2.2.2.2.2.1, v0.2.2.2.2.2.2.1, v0.2.2.2.2.2.2.2.1, v0.2.2.2.2.2.2.2.2.1, v0.2.2.2.2.2.2.2.2.2.1, v0.2.2.2.2.2.2.2.2.2.2.1, v0.2.2.2.2.2.2.2.2.2.2.2, ()), (v1.1, v1.2.1.1, v1.2.1.2, (), v1.2.2.2.1, v1.2.2.2.2.1, v1.2.2.2.2.2.1, v1.2.2.2.2.2.2.1, v1.2.2.2.2.2.2.2.1, (), v1.2.2.2.2.2.2.2.2.2.1, v1.2.2.2.2.2.2.2.2.2.2.1, v1.2.2.2.2.2.2.2.2.2.2.2, ()), (v2.1, v2.2.1.1, v2.2.1.2, (), v2.2.2.2.1, v2.2.2.2.2.1, v2.2.2.2.2.2.1, v2.2.2.2.2.2.2.1, v2.2.2.2.2.2.2.2.1, (), v2.2.2.2.2.2.2.2.2.2.1, v2.2.2.2.2.2.2.2.2.2.2.1, v2.2.2.2.2.2.2.2.2.2.2.2, ()), ()), (v2.2.2.1, v2.2.2.2.2.2.2.2.2.1, ()))
abbrev mo_spec_l6Copy_253 (v0 : dA) (v1 : dA) : (O_spec_l6Copy_253).X := ((((), ()), ((), ()), ()), ((v0.1, v0.2.1.1, v0.2.1.2, (), v0.2.2.2.1, v0.2.2.2.2.1, v0.2.2.2.2.2.1, v0.2.2.2.2.2.2.1, v0.2.2.2.2.2.2.2.1, (), v0.2.2.2.2.2.2.2.2.2.1, v0.2.2.2.2.2.2.2.2.2.2.1, v0.2.2.2.2.2.2.2.2.2.2.2, ()), (v1.1, v1.2.1.1, v1.2.1.2, (), v1.2.2.2.1, v1.2.2.2.2.1, v1.2.2.2.2.2.1, v1.2.2.2.2.2.2.1, v1.2.2.2.2.2.2.2.1, (), v1.2.2.2.2.2.2.2.2.2.1, v1.2.2.2.2.2.2.2.2.2.2.1, v1.2.2.2.2.2.2.2.2.2.2.2, ()), ()), (v1.2.2.1, v1.2.2.2.2.2.2.2.2.1, ()))
noncomputable def st_spec_l6Copy_253 (v0 : Int) (v1 : Int) (v2 : Int) (v3 : Int) (v4 : List dM) (v5 : Int) (v6 : Int) (v7 : Int) (v8 : Int) (v9 : Int) (v10 : List dW) (v11 : Int) (v12 : Bool) (v13 : Bool) (v14 : Int) (v15 : Int) (v16 : Int) (v17 : Int) (v18 : Int) (v19 : Int) (v20 : Int) (v21 : Int) (v22 : Int) (v23 : Bool) (v24 : Bool) (v25 : Int) (v26 : Int) (v27 : Int) (v28 : Int) (v29 : Int) (v30 : Int) (v31 : Int) (v32 : Int) (v33 : Int) (v34 : Bool) (v35 : Bool) (v36 : List dM) (v37 : List dW) : Option ((L_spec_l6Copy_253).X ⊕ ((O_spec_l6Copy_253).X ⊕ (Z_spec_l6Copy_253).X)) :=
  bif (ltb v0 (v10.length : Int)) then
    bif (inb v0 v10.length) then
      bif (inb v0 v10.length) then
        bif (apok ([] : List Int).length ((nth v10 v0 (0, [])).2).length 8) then
          bif (apok v37.length ([((nth v10 v0 (0, [])).1, (([] : List Int) ++ ((nth v10 v0 (0, [])).2)))] : List dW).length 32) then
            some (.inl ((((), ()), ((), ()), ((), ()), ((IntKind.i64.wrap (v0 + 1)), ()), ()), ((v1, v2, v3, v4, v5, v6, v7, v8, v9, v10, v11, v12, v13, ()), (v14, v15, v16, (), v17, v18, v19, v20, v21, (), v22, v23, v24, ()), (v25, v26, v27, (), v28, v29, v30, v31, v32, (), v33, v34, v35, ()), ()), (v36, (v37 ++ ([((nth v10 v0 (0, [])).1, (([] : List Int) ++ ((nth v10 v0 (0, [])).2)))] : List dW)), ())))
          else none
        else none
      else none
    else none
  else
    some (.inr (.inl ((((), ()), ((), ()), ()), ((v14, v15, v16, (), v17, v18, v19, v20, v21, (), v22, v23, v24, ()), (v25, v26, v27, (), v28, v29, v30, v31, v32, (), v33, v34, v35, ()), ()), (v36, v37, ()))))
noncomputable def stx_spec_l6Copy_253 (x : (L_spec_l6Copy_253).X) := st_spec_l6Copy_253 x.1.2.2.2.1.1 x.2.1.1.1 x.2.1.1.2.1 x.2.1.1.2.2.1 x.2.1.1.2.2.2.1 x.2.1.1.2.2.2.2.1 x.2.1.1.2.2.2.2.2.1 x.2.1.1.2.2.2.2.2.2.1 x.2.1.1.2.2.2.2.2.2.2.1 x.2.1.1.2.2.2.2.2.2.2.2.1 x.2.1.1.2.2.2.2.2.2.2.2.2.1 x.2.1.1.2.2.2.2.2.2.2.2.2.2.1 x.2.1.1.2.2.2.2.2.2.2.2.2.2.2.1 x.2.1.1.2.2.2.2.2.2.2.2.2.2.2.2.1 x.2.1.2.1.1 x.2.1.2.1.2.1 x.2.1.2.1.2.2.1 x.2.1.2.1.2.2.2.2.1 x.2.1.2.1.2.2.2.2.2.1 x.2.1.2.1.2.2.2.2.2.2.1 x.2.1.2.1.2.2.2.2.2.2.2.1 x.2.1.2.1.2.2.2.2.2.2.2.2.1 x.2.1.2.1.2.2.2.2.2.2.2.2.2.2.1 x.2.1.2.1.2.2.2.2.2.2.2.2.2.2.2.1 x.2.1.2.1.2.2.2.2.2.2.2.2.2.2.2.2.1 x.2.1.2.2.1.1 x.2.1.2.2.1.2.1 x.2.1.2.2.1.2.2.1 x.2.1.2.2.1.2.2.2.2.1 x.2.1.2.2.1.2.2.2.2.2.1 x.2.1.2.2.1.2.2.2.2.2.2.1 x.2.1.2.2.1.2.2.2.2.2.2.2.1 x.2.1.2.2.1.2.2.2.2.2.2.2.2.1 x.2.1.2.2.1.2.2.2.2.2.2.2.2.2.2.1 x.2.1.2.2.1.2.2.2.2.2.2.2.2.2.2.2.1 x.2.1.2.2.1.2.2.2.2.2.2.2.2.2.2.2.2.1 x.2.2.1 x.2.2.2.1
def em_spec_l6Copy_253 (x : (S_spec_l6Copy_253).X) : (L_spec_l6Copy_253).X := ((((), ()), ((), ()), ((), ()), (0, ()), ()), ((x.2.1.1.1, x.2.1.1.2.1, x.2.1.1.2.2.1, x.2.1.1.2.2.2.1, x.2.1.1.2.2.2.2.1, x.2.1.1.2.2.2.2.2.1, x.2.1.1.2.2.2.2.2.2.1, x.2.1.1.2.2.2.2.2.2.2.1, x.2.1.1.2.2.2.2.2.2.2.2.1, x.2.1.1.2.2.2.2.2.2.2.2.2.1, x.2.1.1.2.2.2.2.2.2.2.2.2.2.1, x.2.1.1.2.2.2.2.2.2.2.2.2.2.2.1, x.2.1.1.2.2.2.2.2.2.2.2.2.2.2.2.1, ()), (x.2.1.2.1.1, x.2.1.2.1.2.1, x.2.1.2.1.2.2.1, (), x.2.1.2.1.2.2.2.2.1, x.2.1.2.1.2.2.2.2.2.1, x.2.1.2.1.2.2.2.2.2.2.1, x.2.1.2.1.2.2.2.2.2.2.2.1, x.2.1.2.1.2.2.2.2.2.2.2.2.1, (), x.2.1.2.1.2.2.2.2.2.2.2.2.2.2.1, x.2.1.2.1.2.2.2.2.2.2.2.2.2.2.2.1, x.2.1.2.1.2.2.2.2.2.2.2.2.2.2.2.2.1, ()), (x.2.1.2.2.1.1, x.2.1.2.2.1.2.1, x.2.1.2.2.1.2.2.1, (), x.2.1.2.2.1.2.2.2.2.1, x.2.1.2.2.1.2.2.2.2.2.1, x.2.1.2.2.1.2.2.2.2.2.2.1, x.2.1.2.2.1.2.2.2.2.2.2.2.1, x.2.1.2.2.1.2.2.2.2.2.2.2.2.1, (), x.2.1.2.2.1.2.2.2.2.2.2.2.2.2.2.1, x.2.1.2.2.1.2.2.2.2.2.2.2.2.2.2.2.1, x.2.1.2.2.1.2.2.2.2.2.2.2.2.2.2.2.2.1, ()), ()), (x.2.2.1, x.2.2.2.1, ()))
noncomputable def c_spec_l6Copy_253 : Code := (subN B_spec_l6Copy 64 1012).getD .skip
theorem a_spec_l6Copy_253 : subN B_spec_l6Copy 64 253 = some (.block 2 (.loop c_spec_l6Copy_253)) := by kernel_rfl
theorem r_spec_l6Copy_253 (x : (L_spec_l6Copy_253).X) : roundT ⟨E_spec_l6Copy, 57, D_spec_l6Copy_1⟩ 2 c_spec_l6Copy_253 1012 L_spec_l6Copy_253 O_spec_l6Copy_253 Z_spec_l6Copy_253 x = stx_spec_l6Copy_253 x := by kernel_rfl
noncomputable def fu_spec_l6Copy_253 (x : (S_spec_l6Copy_253).X) : Nat := (fun (u0 : Int) (u1 : Int) (u2 : Int) (u3 : List dM) (u4 : Int) (u5 : Int) (u6 : Int) (u7 : Int) (u8 : Int) (u9 : List dW) (u10 : Int) (u11 : Bool) (u12 : Bool) (u13 : Int) (u14 : Int) (u15 : Int) (u16 : Int) (u17 : Int) (u18 : Int) (u19 : Int) (u20 : Int) (u21 : Int) (u22 : Bool) (u23 : Bool) (u24 : Int) (u25 : Int) (u26 : Int) (u27 : Int) (u28 : Int) (u29 : Int) (u30 : Int) (u31 : Int) (u32 : Int) (u33 : Bool) (u34 : Bool) (u35 : List dM) (u36 : List dW) => 18446744073709551616) x.2.1.1.1 x.2.1.1.2.1 x.2.1.1.2.2.1 x.2.1.1.2.2.2.1 x.2.1.1.2.2.2.2.1 x.2.1.1.2.2.2.2.2.1 x.2.1.1.2.2.2.2.2.2.1 x.2.1.1.2.2.2.2.2.2.2.1 x.2.1.1.2.2.2.2.2.2.2.2.1 x.2.1.1.2.2.2.2.2.2.2.2.2.1 x.2.1.1.2.2.2.2.2.2.2.2.2.2.1 x.2.1.1.2.2.2.2.2.2.2.2.2.2.2.1 x.2.1.1.2.2.2.2.2.2.2.2.2.2.2.2.1 x.2.1.2.1.1 x.2.1.2.1.2.1 x.2.1.2.1.2.2.1 x.2.1.2.1.2.2.2.2.1 x.2.1.2.1.2.2.2.2.2.1 x.2.1.2.1.2.2.2.2.2.2.1 x.2.1.2.1.2.2.2.2.2.2.2.1 x.2.1.2.1.2.2.2.2.2.2.2.2.1 x.2.1.2.1.2.2.2.2.2.2.2.2.2.2.1 x.2.1.2.1.2.2.2.2.2.2.2.2.2.2.2.1 x.2.1.2.1.2.2.2.2.2.2.2.2.2.2.2.2.1 x.2.1.2.2.1.1 x.2.1.2.2.1.2.1 x.2.1.2.2.1.2.2.1 x.2.1.2.2.1.2.2.2.2.1 x.2.1.2.2.1.2.2.2.2.2.1 x.2.1.2.2.1.2.2.2.2.2.2.1 x.2.1.2.2.1.2.2.2.2.2.2.2.1 x.2.1.2.2.1.2.2.2.2.2.2.2.2.1 x.2.1.2.2.1.2.2.2.2.2.2.2.2.2.2.1 x.2.1.2.2.1.2.2.2.2.2.2.2.2.2.2.2.1 x.2.1.2.2.1.2.2.2.2.2.2.2.2.2.2.2.2.1 x.2.2.1 x.2.2.2.1
noncomputable def F_spec_l6Copy_253 (x : (S_spec_l6Copy_253).X) : Option ((O_spec_l6Copy_253).X ⊕ (Z_spec_l6Copy_253).X) := loopN stx_spec_l6Copy_253 (fu_spec_l6Copy_253 x) (em_spec_l6Copy_253 x)
noncomputable def sg_spec_l6Copy_253 : Seg := ⟨S_spec_l6Copy_253, O_spec_l6Copy_253, Z_spec_l6Copy_253, F_spec_l6Copy_253⟩
noncomputable def D_spec_l6Copy_2 : Nat → Option Seg := fun q => bif Nat.beq q 253 then some sg_spec_l6Copy_253 else D_spec_l6Copy_1 q
theorem fr_spec_l6Copy_2 : FrOk Try.prog ⟨E_spec_l6Copy, 57, D_spec_l6Copy_2⟩ B_spec_l6Copy := (fr_spec_l6Copy_1).loop (sg := sg_spec_l6Copy_253) L_spec_l6Copy_253 em_spec_l6Copy_253 (by decide) a_spec_l6Copy_253 stx_spec_l6Copy_253 fu_spec_l6Copy_253 (by decide) (fun _ => rfl) (fun x r _ h => h) r_spec_l6Copy_253
abbrev I_spec_l6Copy : List Par := [.rd tA]
abbrev U_spec_l6Copy : List OT := [⟨false, tA, (.pr .fz (.pr (.pr .fz .fz) (.pr (.ow (.pr (.ow .fz) (.pr (.ow (.pr .fz .fz)) (.pr .fz (.ow .fz))))) (.pr .fz (.pr .fz (.pr .fz (.pr .fz (.pr .fz (.pr (.ow (.pr .fz .fz)) (.pr .fz (.pr .fz .fz)))))))))))⟩]
noncomputable def raw_spec_l6Copy (a0 : dA) : Option (ResD U_spec_l6Copy × MutD I_spec_l6Copy) :=
  segM (F_spec_l6Copy_61 ((((), ()), ((), ()), ((), ()), ((), ()), ()), ((a0.1, a0.2.1.1, a0.2.1.2, a0.2.2.1, a0.2.2.2.1, a0.2.2.2.2.1, a0.2.2.2.2.2.1, a0.2.2.2.2.2.2.1, a0.2.2.2.2.2.2.2.1, a0.2.2.2.2.2.2.2.2.1, a0.2.2.2.2.2.2.2.2.2.1, a0.2.2.2.2.2.2.2.2.2.2.1, a0.2.2.2.2.2.2.2.2.2.2.2, ()), (0, 0, 0, (), 0, 0, 0, 0, 0, (), 0, false, false, ()), (a0.1, a0.2.1.1, a0.2.1.2, (), a0.2.2.2.1, a0.2.2.2.2.1, a0.2.2.2.2.2.1, a0.2.2.2.2.2.2.1, a0.2.2.2.2.2.2.2.1, a0.2.2.2.2.2.2.2.2.1, a0.2.2.2.2.2.2.2.2.2.1, a0.2.2.2.2.2.2.2.2.2.2.1, a0.2.2.2.2.2.2.2.2.2.2.2, ()), ()), (([] : List dM), ()))) (fun y2 =>
    segM (F_spec_l6Copy_253 ((((), ()), ((), ()), ((), ()), ((), ()), ()), ((y2.2.1.1.1, y2.2.1.1.2.1, y2.2.1.1.2.2.1, y2.2.1.1.2.2.2.1, y2.2.1.1.2.2.2.2.1, y2.2.1.1.2.2.2.2.2.1, y2.2.1.1.2.2.2.2.2.2.1, y2.2.1.1.2.2.2.2.2.2.2.1, y2.2.1.1.2.2.2.2.2.2.2.2.1, y2.2.1.1.2.2.2.2.2.2.2.2.2.1, y2.2.1.1.2.2.2.2.2.2.2.2.2.2.1, y2.2.1.1.2.2.2.2.2.2.2.2.2.2.2.1, y2.2.1.1.2.2.2.2.2.2.2.2.2.2.2.2.1, ()), (y2.2.1.2.1.1, y2.2.1.2.1.2.1, y2.2.1.2.1.2.2.1, (), y2.2.1.2.1.2.2.2.2.1, y2.2.1.2.1.2.2.2.2.2.1, y2.2.1.2.1.2.2.2.2.2.2.1, y2.2.1.2.1.2.2.2.2.2.2.2.1, y2.2.1.2.1.2.2.2.2.2.2.2.2.1, (), y2.2.1.2.1.2.2.2.2.2.2.2.2.2.2.1, y2.2.1.2.1.2.2.2.2.2.2.2.2.2.2.2.1, y2.2.1.2.1.2.2.2.2.2.2.2.2.2.2.2.2.1, ()), (y2.2.1.2.2.1.1, y2.2.1.2.2.1.2.1, y2.2.1.2.2.1.2.2.1, (), y2.2.1.2.2.1.2.2.2.2.1, y2.2.1.2.2.1.2.2.2.2.2.1, y2.2.1.2.2.1.2.2.2.2.2.2.1, y2.2.1.2.2.1.2.2.2.2.2.2.2.1, y2.2.1.2.2.1.2.2.2.2.2.2.2.2.1, (), y2.2.1.2.2.1.2.2.2.2.2.2.2.2.2.2.1, y2.2.1.2.2.1.2.2.2.2.2.2.2.2.2.2.2.1, y2.2.1.2.2.1.2.2.2.2.2.2.2.2.2.2.2.2.1, ()), ()), (y2.2.2.1, ([] : List dW), ()))) (fun y3 =>
      some (((y3.2.1.2.1.1, (y3.2.1.2.1.2.1, y3.2.1.2.1.2.2.1), y3.2.2.1, y3.2.1.2.1.2.2.2.2.1, y3.2.1.2.1.2.2.2.2.2.1, y3.2.1.2.1.2.2.2.2.2.2.1, y3.2.1.2.1.2.2.2.2.2.2.2.1, y3.2.1.2.1.2.2.2.2.2.2.2.2.1, y3.2.2.2.1, y3.2.1.2.1.2.2.2.2.2.2.2.2.2.2.1, y3.2.1.2.1.2.2.2.2.2.2.2.2.2.2.2.1, y3.2.1.2.1.2.2.2.2.2.2.2.2.2.2.2.2.1), ()), ())) (fun y3 =>
      none)) (fun y2 =>
    none)
theorem e_spec_l6Copy (x : InD I_spec_l6Copy) : execF ⟨E_spec_l6Copy, 57, D_spec_l6Copy_2⟩ Try.f112.results.toList B_spec_l6Copy I_spec_l6Copy U_spec_l6Copy x = raw_spec_l6Copy x.1 := by kernel_rfl
theorem ok0_spec_l6Copy : ConOk Try.prog 112 ⟨I_spec_l6Copy, U_spec_l6Copy, fun x => raw_spec_l6Copy x.1⟩ := conOk_exec (fr_spec_l6Copy_2) Try.func112 (by kernel_rfl) (by kernel_rfl) Try.ntmps112.symm (by decide) (fun x r h => (e_spec_l6Copy x).trans h)
noncomputable def n_spec_l6Copy (a0 : dA) : dA := a0
theorem nn_spec_l6Copy (a0 : dA) (hk : InOk I_spec_l6Copy (a0, ())) : raw_spec_l6Copy a0 = (fun n => some ((n, ()), ())) (n_spec_l6Copy a0) := by
  have hb : a0.2.2.1.length * 80 ≤ 2 ^ 47 := hk.1.2.2.1.1
  have hb2 : a0.2.2.2.2.2.2.2.2.1.length * 32 ≤ 2 ^ 47 := hk.1.2.2.2.2.2.2.2.2.1.1
  have hc : ∀ i, i < a0.2.2.2.2.2.2.2.2.1.length → (a0.2.2.2.2.2.2.2.2.1.getD i (0, [])).2.length * 8 ≤ 2 ^ 47 := fun i hi => by rw [getD_get hi]; exact (hk.1.2.2.2.2.2.2.2.2.1.2 _ (List.getElem_mem hi)).2.1
  have h1 := loopN_fold (step := stx_spec_l6Copy_61) a0.2.2.1 noMem (fun i s => mk_spec_l6Copy_61 i a0 noArr (a0.1, a0.2.1, s, a0.2.2.2)) (fun s x => s ++ [x]) (fun i s => s.length = i) (fun s => .inl (mo_spec_l6Copy_61 a0 noArr (a0.1, a0.2.1, s, a0.2.2.2))) (fun i s hi hs => ⟨by
      simp only [stx_spec_l6Copy_61, mk_spec_l6Copy_61, st_spec_l6Copy_61, ltb_t (show (i : Int) < a0.2.2.1.length by omega), cond_true, wr (show -9223372036854775808 ≤ (i : Int) + 1 by omega) (by omega), Int.natCast_add, Int.natCast_one, Int.toNat_natCast, inb_nat hi, nth_nat, n_spec_l2Copy, pr_eta]
      rw [apok_iff.2 (show (s.length + [a0.2.2.1.getD i ([], [], false, [])].length) * 80 ≤ 140737488355328 by simp only [List.length_cons, List.length_nil]; omega)]; rfl, by simp [hs]⟩) (fun s hs => by simp only [stx_spec_l6Copy_61, mk_spec_l6Copy_61, st_spec_l6Copy_61, ltb_f (Int.le_refl _), cond_false]) [] rfl 18446744073709551616 (by omega)
  have h2 := loopN_fold (step := stx_spec_l6Copy_253) a0.2.2.2.2.2.2.2.2.1 (0, []) (fun i s => mk_spec_l6Copy_253 i a0 noArr (a0.1, a0.2.1, a0.2.2.1, a0.2.2.2.1, a0.2.2.2.2.1, a0.2.2.2.2.2.1, a0.2.2.2.2.2.2.1, a0.2.2.2.2.2.2.2.1, s, a0.2.2.2.2.2.2.2.2.2)) (fun s x => s ++ [x]) (fun i s => s.length = i) (fun s => .inl (mo_spec_l6Copy_253 noArr (a0.1, a0.2.1, a0.2.2.1, a0.2.2.2.1, a0.2.2.2.2.1, a0.2.2.2.2.2.1, a0.2.2.2.2.2.2.1, a0.2.2.2.2.2.2.2.1, s, a0.2.2.2.2.2.2.2.2.2))) (fun i s hi hs => ⟨by
      have := hc i hi
      simp only [stx_spec_l6Copy_253, mk_spec_l6Copy_253, st_spec_l6Copy_253, ltb_t (show (i : Int) < a0.2.2.2.2.2.2.2.2.1.length by omega), cond_true, wr (show -9223372036854775808 ≤ (i : Int) + 1 by omega) (by omega), Int.natCast_add, Int.natCast_one, Int.toNat_natCast, inb_nat hi, nth_nat, List.nil_append, pr_eta]
      rw [apok_iff.2 (show (([] : List Int).length + (a0.2.2.2.2.2.2.2.2.1.getD i (0, [])).2.length) * 8 ≤ 140737488355328 by rw [List.length_nil]; omega), apok_iff.2 (show (s.length + [a0.2.2.2.2.2.2.2.2.1.getD i (0, [])].length) * 32 ≤ 140737488355328 by simp only [List.length_cons, List.length_nil]; omega)]; rfl, by simp [hs]⟩) (fun s hs => by simp only [stx_spec_l6Copy_253, mk_spec_l6Copy_253, st_spec_l6Copy_253, ltb_f (Int.le_refl _), cond_false]) [] rfl 18446744073709551616 (by omega)
  rw [foldl_id] at h1 h2
  unfold raw_spec_l6Copy n_spec_l6Copy
  rw [show F_spec_l6Copy_61 (ms_spec_l6Copy_61 a0 noArr (a0.1, a0.2.1, [], a0.2.2.2)) = _ from h1, segM_inl]
  refine (congrArg (fun z => segM z _ _) (show F_spec_l6Copy_253 (ms_spec_l6Copy_253 a0 noArr (a0.1, a0.2.1, a0.2.2.1, a0.2.2.2.1, a0.2.2.2.2.1, a0.2.2.2.2.2.1, a0.2.2.2.2.2.2.1, a0.2.2.2.2.2.2.2.1, [], a0.2.2.2.2.2.2.2.2.2)) = _ from h2)).trans rfl
noncomputable def con_spec_l6Copy : Con := ⟨I_spec_l6Copy, U_spec_l6Copy, fun x => (fun n => some ((n, ()), ())) (n_spec_l6Copy x.1)⟩
theorem ok_spec_l6Copy : ConOk Try.prog 112 con_spec_l6Copy := (ok0_spec_l6Copy).mono (fun x r hk h => (nn_spec_l6Copy x.1 hk).trans h)
end

/-! spec_PowerOff -/
section
noncomputable def B_spec_PowerOff : Code := (Try.f55.body).getD .skip
noncomputable def E_spec_PowerOff : Env := envOf TT [(81, con_spec_ArrOk), (112, con_spec_l6Copy)] []
theorem fr_spec_PowerOff_0 : FrOk Try.prog ⟨E_spec_PowerOff, 11, fun _ => none⟩ B_spec_PowerOff := frOk_base mixed tt_ok ⟨ok_spec_ArrOk, ok_spec_l6Copy, trivial⟩
noncomputable def D_spec_PowerOff_0 : Nat → Option Seg := fun _ => none
abbrev I_spec_PowerOff : List Par := [.rd tA]
abbrev U_spec_PowerOff : List OT := [⟨false, tA, (.pr .fz (.pr (.pr .fz .fz) (.pr (.ow (.pr (.ow .fz) (.pr (.ow (.pr .fz .fz)) (.pr .fz (.ow .fz))))) (.pr .fz (.pr .fz (.pr .fz (.pr .fz (.pr .fz (.pr (.ow (.pr .fz .fz)) (.pr .fz (.pr .fz .fz)))))))))))⟩]
noncomputable def raw_spec_PowerOff (a0 : dA) : Option (ResD U_spec_PowerOff × MutD I_spec_PowerOff) :=
  let r1 := n_spec_l6Copy a0
  let r2 := n_spec_ArrOk a0
  bif r2 then
    some (((r1.1, r1.2.1, r1.2.2.1, r1.2.2.2.1, r1.2.2.2.2.1, r1.2.2.2.2.2.1, r1.2.2.2.2.2.2.1, r1.2.2.2.2.2.2.2.1, r1.2.2.2.2.2.2.2.2.1, (-1), true, r1.2.2.2.2.2.2.2.2.2.2.2), ()), ())
  else
    some ((r1, ()), ())
theorem e_spec_PowerOff (x : InD I_spec_PowerOff) : execF ⟨E_spec_PowerOff, 11, D_spec_PowerOff_0⟩ Try.f55.results.toList B_spec_PowerOff I_spec_PowerOff U_spec_PowerOff x = raw_spec_PowerOff x.1 := by kernel_rfl
theorem ok0_spec_PowerOff : ConOk Try.prog 55 ⟨I_spec_PowerOff, U_spec_PowerOff, fun x => raw_spec_PowerOff x.1⟩ := conOk_exec (fr_spec_PowerOff_0) Try.func55 (by kernel_rfl) (by kernel_rfl) Try.ntmps55.symm (by decide) (fun x r h => (e_spec_PowerOff x).trans h)
noncomputable def n_spec_PowerOff (a0 : dA) : dA := bif arrOk a0 then offA a0 else a0
theorem nn_spec_PowerOff (a0 : dA) (hk : InOk I_spec_PowerOff (a0, ())) : raw_spec_PowerOff a0 = (fun n => some ((n, ()), ())) (n_spec_PowerOff a0) := by
  unfold raw_spec_PowerOff n_spec_PowerOff n_spec_ArrOk n_spec_l6Copy
  cases arrOk a0 <;> rfl
noncomputable def con_spec_PowerOff : Con := ⟨I_spec_PowerOff, U_spec_PowerOff, fun x => (fun n => some ((n, ()), ())) (n_spec_PowerOff x.1)⟩
theorem ok_spec_PowerOff : ConOk Try.prog 55 con_spec_PowerOff := (ok0_spec_PowerOff).mono (fun x r hk h => (nn_spec_PowerOff x.1 hk).trans h)
end

/-! impl_within -/
section
noncomputable def B_impl_within : Code := (Try.f125.body).getD .skip
noncomputable def E_impl_within : Env := envOf TT [] []
theorem fr_impl_within_0 : FrOk Try.prog ⟨E_impl_within, 15, fun _ => none⟩ B_impl_within := frOk_base mixed tt_ok trivial
noncomputable def D_impl_within_0 : Nat → Option Seg := fun _ => none
abbrev I_impl_within : List Par := [.rd tI, .rd tI, .rd tI]
abbrev U_impl_within : List OT := [⟨false, tB, .fz⟩]
noncomputable def raw_impl_within (a0 : Int) (a1 : Int) (a2 : Int) : Option (ResD U_impl_within × MutD I_impl_within) :=
  bif (leb a1 a0) then
    some (((leb a0 a2), ()), ())
  else
    some ((false, ()), ())
theorem e_impl_within (x : InD I_impl_within) : execF ⟨E_impl_within, 15, D_impl_within_0⟩ Try.f125.results.toList B_impl_within I_impl_within U_impl_within x = raw_impl_within x.1 x.2.1 x.2.2.1 := by kernel_rfl
theorem ok0_impl_within : ConOk Try.prog 125 ⟨I_impl_within, U_impl_within, fun x => raw_impl_within x.1 x.2.1 x.2.2.1⟩ := conOk_exec (fr_impl_within_0) Try.func125 (by kernel_rfl) (by kernel_rfl) Try.ntmps125.symm (by decide) (fun x r h => (e_impl_within x).trans h)
noncomputable def n_impl_within (a0 : Int) (a1 : Int) (a2 : Int) : Bool :=
  bif (leb a1 a0) then
    (leb a0 a2)
  else
    false
noncomputable def con_impl_within : Con := ⟨I_impl_within, U_impl_within, fun x => (fun n => some ((n, ()), ())) (n_impl_within x.1 x.2.1 x.2.2.1)⟩
theorem nn_impl_within (a0 : Int) (a1 : Int) (a2 : Int) : raw_impl_within a0 a1 a2 = (fun n => some ((n, ()), ())) (n_impl_within a0 a1 a2) := bif_ty (p := fun (n : Bool) => ((n, ()), ())) (bif_some (p := fun (n : Bool) => ((n, ()), ())) rfl rfl)
theorem ok_impl_within : ConOk Try.prog 125 con_impl_within := (ok0_impl_within).mono (fun x r _ h => (nn_impl_within x.1 x.2.1 x.2.2.1).trans h)
theorem impl_in_eq (a b c : Int) : n_impl_within a b c = n_spec_l1In a b c := by kernel_rfl
end

/-! impl_GeoOk -/
section
noncomputable def B_impl_GeoOk : Code := (Try.f121.body).getD .skip
noncomputable def E_impl_GeoOk : Env := envOf TT [(125, con_impl_within)] []
theorem fr_impl_GeoOk_0 : FrOk Try.prog ⟨E_impl_GeoOk, 11, fun _ => none⟩ B_impl_GeoOk := frOk_base mixed tt_ok ⟨ok_impl_within, trivial⟩
noncomputable def D_impl_GeoOk_0 : Nat → Option Seg := fun _ => none
abbrev I_impl_GeoOk : List Par := [.rd tG]
abbrev U_impl_GeoOk : List OT := [⟨false, tB, .fz⟩]
noncomputable def raw_impl_GeoOk (a0 : dG) : Option (ResD U_impl_GeoOk × MutD I_impl_GeoOk) :=
  let r1 := n_impl_within a0.1 3 5
  bif r1 then
    let r2 := n_impl_within a0.2 1 8
    some ((r2, ()), ())
  else
    some ((false, ()), ())
theorem e_impl_GeoOk (x : InD I_impl_GeoOk) : execF ⟨E_impl_GeoOk, 11, D_impl_GeoOk_0⟩ Try.f121.results.toList B_impl_GeoOk I_impl_GeoOk U_impl_GeoOk x = raw_impl_GeoOk x.1 := by kernel_rfl
theorem ok0_impl_GeoOk : ConOk Try.prog 121 ⟨I_impl_GeoOk, U_impl_GeoOk, fun x => raw_impl_GeoOk x.1⟩ := conOk_exec (fr_impl_GeoOk_0) Try.func121 (by kernel_rfl) (by kernel_rfl) Try.ntmps121.symm (by decide) (fun x r h => (e_impl_GeoOk x).trans h)
noncomputable def n_impl_GeoOk (a0 : dG) : Bool :=
  let r1 := n_impl_within a0.1 3 5
  bif r1 then
    let r2 := n_impl_within a0.2 1 8
    r2
  else
    false
noncomputable def con_impl_GeoOk : Con := ⟨I_impl_GeoOk, U_impl_GeoOk, fun x => (fun n => some ((n, ()), ())) (n_impl_GeoOk x.1)⟩
theorem nn_impl_GeoOk (a0 : dG) : raw_impl_GeoOk a0 = (fun n => some ((n, ()), ())) (n_impl_GeoOk a0) := bif_ty (p := fun (n : Bool) => ((n, ()), ())) (bif_some (p := fun (n : Bool) => ((n, ()), ())) rfl rfl)
theorem ok_impl_GeoOk : ConOk Try.prog 121 con_impl_GeoOk := (ok0_impl_GeoOk).mono (fun x r _ h => (nn_impl_GeoOk x.1).trans h)
theorem geo_eq (a : Int × Int) : n_impl_GeoOk a = n_spec_GeoOk a := by kernel_rfl
end
end Go.Tf
