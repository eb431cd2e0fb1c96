/- Functions of the program, and what they come to. -/
import Derived.Test.YtmamkjioahnecabExactSpareF6
namespace Go.Tf
open Go.Proofs
set_option synthInstance.maxHeartbeats 400000
set_option synthInstance.maxSize 10000
set_option linter.unusedVariables false
set_option linter.unusedSimpArgs false
set_option maxRecDepth 100000
/-! spec_l6Copy -/
section
noncomputable def B_spec_l6Copy : Code := (Try.f33.body).getD .skip
noncomputable def E_spec_l6Copy : Env := envOf TT [(64, con_spec_l2Copy)] [(8192, (.pr (.ow .fz) (.pr (.ow (.pr .fz .fz)) (.pr .fz (.ow .fz))))), (25088, (.pr (.ow .fz) (.pr (.ow (.pr .fz .fz)) (.pr .fz (.ow .fz))))), (28672, (.pr .fz .fz)), (46144, (.pr .fz .fz))]
theorem fr_spec_l6Copy_0 : FrOk Try.prog ⟨E_spec_l6Copy, 57, fun _ => none⟩ B_spec_l6Copy := frOk_base mixed tt_ok ⟨ok_spec_l2Copy, trivial⟩
noncomputable def D_spec_l6Copy_0 : Nat → Option Seg := fun _ => none
def L_spec_l6Copy_61 : Shape := ⟨[(1, false, [.ptr 0 0]), (2, false, [.ptr 64 0]), (3, false, [.ptr 4160 0]), (4, false, [.int .i64])], [(0, [.int .i64, .int .i64, .int .i64, .br tM, .int .i64, .int .i64, .int .i64, .int .i64, .int .i64, .br tW, .int .i64, .bool, .bool]), (64, [.int .i64, .int .i64, .int .i64, .nil, .int .i64, .int .i64, .int .i64, .int .i64, .int .i64, .nil, .int .i64, .bool, .bool]), (4160, [.int .i64, .int .i64, .int .i64, .at 800000000, .int .i64, .int .i64, .int .i64, .int .i64, .int .i64, .br tW, .int .i64, .bool, .bool])], [(800000000, tM, (.pr (.ow .fz) (.pr (.ow (.pr .fz .fz)) (.pr .fz (.ow .fz)))))]⟩
def S_spec_l6Copy_61 : Shape := ⟨[(1, false, [.ptr 0 0]), (2, false, [.ptr 64 0]), (3, false, [.ptr 4160 0]), (4, false, [.ci .i64 0])], [(0, [.int .i64, .int .i64, .int .i64, .br tM, .int .i64, .int .i64, .int .i64, .int .i64, .int .i64, .br tW, .int .i64, .bool, .bool]), (64, [.int .i64, .int .i64, .int .i64, .nil, .int .i64, .int .i64, .int .i64, .int .i64, .int .i64, .nil, .int .i64, .bool, .bool]), (4160, [.int .i64, .int .i64, .int .i64, .at 800000000, .int .i64, .int .i64, .int .i64, .int .i64, .int .i64, .br tW, .int .i64, .bool, .bool])], [(800000000, tM, (.pr (.ow .fz) (.pr (.ow (.pr .fz .fz)) (.pr .fz (.ow .fz)))))]⟩
def O_spec_l6Copy_61 : Shape := ⟨[(1, false, [.ptr 0 0]), (2, false, [.ptr 64 0]), (3, false, [.ptr 4160 0])], [(0, [.int .i64, .int .i64, .int .i64, .br tM, .int .i64, .int .i64, .int .i64, .int .i64, .int .i64, .br tW, .int .i64, .bool, .bool]), (64, [.int .i64, .int .i64, .int .i64, .nil, .int .i64, .int .i64, .int .i64, .int .i64, .int .i64, .nil, .int .i64, .bool, .bool]), (4160, [.int .i64, .int .i64, .int .i64, .at 800000000, .int .i64, .int .i64, .int .i64, .int .i64, .int .i64, .br tW, .int .i64, .bool, .bool])], [(800000000, tM, (.pr (.ow .fz) (.pr (.ow (.pr .fz .fz)) (.pr .fz (.ow .fz)))))]⟩
def Z_spec_l6Copy_61 : Shape := ⟨[], [], []⟩
abbrev mk_spec_l6Copy_61 (v0 : Int) (v1 : dA) (v2 : dA) (v3 : dA) : (L_spec_l6Copy_61).X := ((((), ()), ((), ()), ((), ()), (v0, ()), ()), ((v1.1, v1.2.1.1, v1.2.1.2, v1.2.2.1, v1.2.2.2.1, v1.2.2.2.2.1, v1.2.2.2.2.2.1, v1.2.2.2.2.2.2.1, v1.2.2.2.2.2.2.2.1, v1.2.2.2.2.2.2.2.2.1, v1.2.2.2.2.2.2.2.2.2.1, v1.2.2.2.2.2.2.2.2.2.2.1, v1.2.2.2.2.2.2.2.2.2.2.2, ()), (v2.1, v2.2.1.1, v2.2.1.2, (), v2.2.2.2.1, v2.2.2.2.2.1, v2.2.2.2.2.2.1, v2.2.2.2.2.2.2.1, v2.2.2.2.2.2.2.2.1, (), v2.2.2.2.2.2.2.2.2.2.1, v2.2.2.2.2.2.2.2.2.2.2.1, v2.2.2.2.2.2.2.2.2.2.2.2, ()), (v3.1, v3.2.1.1, v3.2.1.2, (), v3.2.2.2.1, v3.2.2.2.2.1, v3.2.2.2.2.2.1, v3.2.2.2.2.2.2.1, v3.2.2.2.2.2.2.2.1, v3.2.2.2.2.2.2.2.2.1, v3.2.2.2.2.2.2.2.2.2.1, v3.2.2.2.2.2.2.2.2.2.2.1, v3.2.2.2.2.2.2.2.2.2.2.2, ()), ()), (v3.2.2.1, ()))
abbrev ms_spec_l6Copy_61 (v0 : dA) (v1 : dA) (v2 : dA) : (S_spec_l6Copy_61).X := ((((), ()), ((), ()), ((), ()), ((), ()), ()), ((v0.1, v0.2.1.1, v0.2.1.2, v0.2.2.1, v0.2.2.2.1, v0.2.2.2.2.1, v0.2.2.2.2.2.1, v0.2.2.2.2.2.2.1, v0.2.2.2.2.2.2.2.1, v0.2.2.2.2.2.2.2.2.1, v0.2.2.2.2.2.2.2.2.2.1, v0.2.2.2.2.2.2.2.2.2.2.1, v0.2.2.2.2.2.2.2.2.2.2.2, ()), (v1.1, v1.2.1.1, v1.2.1.2, (), v1.2.2.2.1, v1.2.2.2.2.1, v1.2.2.2.2.2.1, v1.2.2.2.2.2.2.1, v1.2.2.2.2.2.2.2.1, (), v1.2.2.2.2.2.2.2.2.2.1, v1.2.2.2.2.2.2.2.2.2.2.1, v1.2.2.2.2.2.2.2.2.2.2.2, ()), (v2.1, v2.2.1.1, v2.2.1.2, (), v2.2.2.2.1, v2.2.2.2.2.1, v2.2.2.2.2.2.1, v2.2.2.2.2.2.2.1, v2.2.2.2.2.2.2.2.1, v2.2.2.2.2.2.2.2.2.1, v2.2.2.2.2.2.2.2.2.2.1, v2.2.2.2.2.2.2.2.2.2.2.1, v2.2.2.2.2.2.2.2.2.2.2.2, ()), ()), (v2.2.2.1, ()))
abbrev mo_spec_l6Copy_61 (v0 : dA) (v1 : dA) (v2 : dA) : (O_spec_l6Copy_61).X := ((((), ()), ((), ()), ((), ()), ()), ((v0.1, v0.2.1.1, v0.2.1.2, v0.2.2.1, v0.2.2.2.1, v0.2.2.2.2.1, v0.2.2.2.2.2.1, v0.2.2.2.2.2.2.1, v0.2.2.2.2.2.2.2.1, v0.2.2.2.2.2.2.2.2.1, v0.2.2.2.2.2.2.2.2.2.1, v0.2.2.2.2.2.2.2.2.2.2.1, v0.2.2.2.2.2.2.2.2.2.2.2, ()), (v1.1, v1.2.1.1, v1.2.1.2, (), v1.2.2.2.1, v1.2.2.2.2.1, v1.2.2.2.2.2.1, v1.2.2.2.2.2.2.1, v1.2.2.2.2.2.2.2.1, (), v1.2.2.2.2.2.2.2.2.2.1, v1.2.2.2.2.2.2.2.2.2.2.1, v1.2.2.2.2.2.2.2.2.2.2.2, ()), (v2.1, v2.2.1.1, v2.2.1.2, (), v2.2.2.2.1, v2.2.2.2.2.1, v2.2.2.2.2.2.1, v2.2.2.2.2.2.2.1, v2.2.2.2.2.2.2.2.1, v2.2.2.2.2.2.2.2.2.1, v2.2.2.2.2.2.2.2.2.2.1, v2.2.2.2.2.2.2.2.2.2.2.1, v2.2.2.2.2.2.2.2.2.2.2.2, ()), ()), (v2.2.2.1, ()))
noncomputable def st_spec_l6Copy_61 (v0 : Int) (v1 : Int) (v2 : Int) (v3 : Int) (v4 : List dM) (v5 : Int) (v6 : Int) (v7 : Int) (v8 : Int) (v9 : Int) (v10 : List dW) (v11 : Int) (v12 : Bool) (v13 : Bool) (v14 : Int) (v15 : Int) (v16 : Int) (v17 : Int) (v18 : Int) (v19 : Int) (v20 : Int) (v21 : Int) (v22 : Int) (v23 : Bool) (v24 : Bool) (v25 : Int) (v26 : Int) (v27 : Int) (v28 : Int) (v29 : Int) (v30 : Int) (v31 : Int) (v32 : Int) (v33 : List dW) (v34 : Int) (v35 : Bool) (v36 : Bool) (v37 : List dM) : Option ((L_spec_l6Copy_61).X ⊕ ((O_spec_l6Copy_61).X ⊕ (Z_spec_l6Copy_61).X)) :=
  bif (ltb v0 (v4.length : Int)) then
    bif (inb v0 v4.length) then
      let r2 := n_spec_l2Copy ((nth v4 v0 ([], [], false, [])).1, ((nth v4 v0 ([], [], false, [])).2).1, (((nth v4 v0 ([], [], false, [])).2).2))
      bif (apok v37.length ([r2] : List dM).length 80) then
        some (.inl ((((), ()), ((), ()), ((), ()), ((IntKind.i64.wrap (v0 + 1)), ()), ()), ((v1, v2, v3, v4, v5, v6, v7, v8, v9, v10, v11, v12, v13, ()), (v14, v15, v16, (), v17, v18, v19, v20, v21, (), v22, v23, v24, ()), (v25, v26, v27, (), v28, v29, v30, v31, v32, v33, v34, v35, v36, ()), ()), ((v37 ++ ([r2] : List dM)), ())))
      else none
    else none
  else
    some (.inr (.inl ((((), ()), ((), ()), ((), ()), ()), ((v1, v2, v3, v4, v5, v6, v7, v8, v9, v10, v11, v12, v13, ()), (v14, v15, v16, (), v17, v18, v19, v20, v21, (), v22, v23, v24, ()), (v25, v26, v27, (), v28, v29, v30, v31, v32, v33, v34, v35, v36, ()), ()), (v37, ()))))
noncomputable def stx_spec_l6Copy_61 (x : (L_spec_l6Copy_61).X) := st_spec_l6Copy_61 x.1.2.2.2.1.1 x.2.1.1.1 x.2.1.1.2.1 x.2.1.1.2.2.1 x.2.1.1.2.2.2.1 x.2.1.1.2.2.2.2.1 x.2.1.1.2.2.2.2.2.1 x.2.1.1.2.2.2.2.2.2.1 x.2.1.1.2.2.2.2.2.2.2.1 x.2.1.1.2.2.2.2.2.2.2.2.1 x.2.1.1.2.2.2.2.2.2.2.2.2.1 x.2.1.1.2.2.2.2.2.2.2.2.2.2.1 x.2.1.1.2.2.2.2.2.2.2.2.2.2.2.1 x.2.1.1.2.2.2.2.2.2.2.2.2.2.2.2.1 x.2.1.2.1.1 x.2.1.2.1.2.1 x.2.1.2.1.2.2.1 x.2.1.2.1.2.2.2.2.1 x.2.1.2.1.2.2.2.2.2.1 x.2.1.2.1.2.2.2.2.2.2.1 x.2.1.2.1.2.2.2.2.2.2.2.1 x.2.1.2.1.2.2.2.2.2.2.2.2.1 x.2.1.2.1.2.2.2.2.2.2.2.2.2.2.1 x.2.1.2.1.2.2.2.2.2.2.2.2.2.2.2.1 x.2.1.2.1.2.2.2.2.2.2.2.2.2.2.2.2.1 x.2.1.2.2.1.1 x.2.1.2.2.1.2.1 x.2.1.2.2.1.2.2.1 x.2.1.2.2.1.2.2.2.2.1 x.2.1.2.2.1.2.2.2.2.2.1 x.2.1.2.2.1.2.2.2.2.2.2.1 x.2.1.2.2.1.2.2.2.2.2.2.2.1 x.2.1.2.2.1.2.2.2.2.2.2.2.2.1 x.2.1.2.2.1.2.2.2.2.2.2.2.2.2.1 x.2.1.2.2.1.2.2.2.2.2.2.2.2.2.2.1 x.2.1.2.2.1.2.2.2.2.2.2.2.2.2.2.2.1 x.2.1.2.2.1.2.2.2.2.2.2.2.2.2.2.2.2.1 x.2.2.1
def em_spec_l6Copy_61 (x : (S_spec_l6Copy_61).X) : (L_spec_l6Copy_61).X := ((((), ()), ((), ()), ((), ()), (0, ()), ()), ((x.2.1.1.1, x.2.1.1.2.1, x.2.1.1.2.2.1, x.2.1.1.2.2.2.1, x.2.1.1.2.2.2.2.1, x.2.1.1.2.2.2.2.2.1, x.2.1.1.2.2.2.2.2.2.1, x.2.1.1.2.2.2.2.2.2.2.1, x.2.1.1.2.2.2.2.2.2.2.2.1, x.2.1.1.2.2.2.2.2.2.2.2.2.1, x.2.1.1.2.2.2.2.2.2.2.2.2.2.1, x.2.1.1.2.2.2.2.2.2.2.2.2.2.2.1, x.2.1.1.2.2.2.2.2.2.2.2.2.2.2.2.1, ()), (x.2.1.2.1.1, x.2.1.2.1.2.1, x.2.1.2.1.2.2.1, (), x.2.1.2.1.2.2.2.2.1, x.2.1.2.1.2.2.2.2.2.1, x.2.1.2.1.2.2.2.2.2.2.1, x.2.1.2.1.2.2.2.2.2.2.2.1, x.2.1.2.1.2.2.2.2.2.2.2.2.1, (), x.2.1.2.1.2.2.2.2.2.2.2.2.2.2.1, x.2.1.2.1.2.2.2.2.2.2.2.2.2.2.2.1, x.2.1.2.1.2.2.2.2.2.2.2.2.2.2.2.2.1, ()), (x.2.1.2.2.1.1, x.2.1.2.2.1.2.1, x.2.1.2.2.1.2.2.1, (), x.2.1.2.2.1.2.2.2.2.1, x.2.1.2.2.1.2.2.2.2.2.1, x.2.1.2.2.1.2.2.2.2.2.2.1, x.2.1.2.2.1.2.2.2.2.2.2.2.1, x.2.1.2.2.1.2.2.2.2.2.2.2.2.1, x.2.1.2.2.1.2.2.2.2.2.2.2.2.2.1, x.2.1.2.2.1.2.2.2.2.2.2.2.2.2.2.1, x.2.1.2.2.1.2.2.2.2.2.2.2.2.2.2.2.1, x.2.1.2.2.1.2.2.2.2.2.2.2.2.2.2.2.2.1, ()), ()), (x.2.2.1, ()))
noncomputable def c_spec_l6Copy_61 : Code := (subN B_spec_l6Copy 64 244).getD .skip
theorem a_spec_l6Copy_61 : subN B_spec_l6Copy 64 61 = some (.block 0 (.loop c_spec_l6Copy_61)) := by kernel_rfl
theorem r_spec_l6Copy_61 (x : (L_spec_l6Copy_61).X) : roundT ⟨E_spec_l6Copy, 57, D_spec_l6Copy_0⟩ 0 c_spec_l6Copy_61 244 L_spec_l6Copy_61 O_spec_l6Copy_61 Z_spec_l6Copy_61 x = stx_spec_l6Copy_61 x := by kernel_rfl
noncomputable def fu_spec_l6Copy_61 (x : (S_spec_l6Copy_61).X) : Nat := (fun (u0 : Int) (u1 : Int) (u2 : Int) (u3 : List dM) (u4 : Int) (u5 : Int) (u6 : Int) (u7 : Int) (u8 : Int) (u9 : List dW) (u10 : Int) (u11 : Bool) (u12 : Bool) (u13 : Int) (u14 : Int) (u15 : Int) (u16 : Int) (u17 : Int) (u18 : Int) (u19 : Int) (u20 : Int) (u21 : Int) (u22 : Bool) (u23 : Bool) (u24 : Int) (u25 : Int) (u26 : Int) (u27 : Int) (u28 : Int) (u29 : Int) (u30 : Int) (u31 : Int) (u32 : List dW) (u33 : Int) (u34 : Bool) (u35 : Bool) (u36 : List dM) => 18446744073709551616) x.2.1.1.1 x.2.1.1.2.1 x.2.1.1.2.2.1 x.2.1.1.2.2.2.1 x.2.1.1.2.2.2.2.1 x.2.1.1.2.2.2.2.2.1 x.2.1.1.2.2.2.2.2.2.1 x.2.1.1.2.2.2.2.2.2.2.1 x.2.1.1.2.2.2.2.2.2.2.2.1 x.2.1.1.2.2.2.2.2.2.2.2.2.1 x.2.1.1.2.2.2.2.2.2.2.2.2.2.1 x.2.1.1.2.2.2.2.2.2.2.2.2.2.2.1 x.2.1.1.2.2.2.2.2.2.2.2.2.2.2.2.1 x.2.1.2.1.1 x.2.1.2.1.2.1 x.2.1.2.1.2.2.1 x.2.1.2.1.2.2.2.2.1 x.2.1.2.1.2.2.2.2.2.1 x.2.1.2.1.2.2.2.2.2.2.1 x.2.1.2.1.2.2.2.2.2.2.2.1 x.2.1.2.1.2.2.2.2.2.2.2.2.1 x.2.1.2.1.2.2.2.2.2.2.2.2.2.2.1 x.2.1.2.1.2.2.2.2.2.2.2.2.2.2.2.1 x.2.1.2.1.2.2.2.2.2.2.2.2.2.2.2.2.1 x.2.1.2.2.1.1 x.2.1.2.2.1.2.1 x.2.1.2.2.1.2.2.1 x.2.1.2.2.1.2.2.2.2.1 x.2.1.2.2.1.2.2.2.2.2.1 x.2.1.2.2.1.2.2.2.2.2.2.1 x.2.1.2.2.1.2.2.2.2.2.2.2.1 x.2.1.2.2.1.2.2.2.2.2.2.2.2.1 x.2.1.2.2.1.2.2.2.2.2.2.2.2.2.1 x.2.1.2.2.1.2.2.2.2.2.2.2.2.2.2.1 x.2.1.2.2.1.2.2.2.2.2.2.2.2.2.2.2.1 x.2.1.2.2.1.2.2.2.2.2.2.2.2.2.2.2.2.1 x.2.2.1
noncomputable def F_spec_l6Copy_61 (x : (S_spec_l6Copy_61).X) : Option ((O_spec_l6Copy_61).X ⊕ (Z_spec_l6Copy_61).X) := loopN stx_spec_l6Copy_61 (fu_spec_l6Copy_61 x) (em_spec_l6Copy_61 x)
noncomputable def sg_spec_l6Copy_61 : Seg := ⟨S_spec_l6Copy_61, O_spec_l6Copy_61, Z_spec_l6Copy_61, F_spec_l6Copy_61⟩
noncomputable def D_spec_l6Copy_1 : Nat → Option Seg := fun q => bif Nat.beq q 61 then some sg_spec_l6Copy_61 else D_spec_l6Copy_0 q
theorem fr_spec_l6Copy_1 : FrOk Try.prog ⟨E_spec_l6Copy, 57, D_spec_l6Copy_1⟩ B_spec_l6Copy := (fr_spec_l6Copy_0).loop (sg := sg_spec_l6Copy_61) L_spec_l6Copy_61 em_spec_l6Copy_61 (by decide) a_spec_l6Copy_61 stx_spec_l6Copy_61 fu_spec_l6Copy_61 (by decide) (fun _ => rfl) (fun x r _ h => h) r_spec_l6Copy_61
def L_spec_l6Copy_253 : Shape := ⟨[(1, false, [.ptr 0 0]), (2, false, [.ptr 64 0]), (3, false, [.ptr 4160 0]), (5, false, [.int .i64])], [(0, [.int .i64, .int .i64, .int .i64, .br tM, .int .i64, .int .i64, .int .i64, .int .i64, .int .i64, .br tW, .int .i64, .bool, .bool]), (64, [.int .i64, .int .i64, .int .i64, .nil, .int .i64, .int .i64, .int .i64, .int .i64, .int .i64, .nil, .int .i64, .bool, .bool]), (4160, [.int .i64, .int .i64, .int .i64, .at 800000000, .int .i64, .int .i64, .int .i64, .int .i64, .int .i64, .at 800000001, .int .i64, .bool, .bool])], [(800000000, tM, (.pr (.ow .fz) (.pr (.ow (.pr .fz .fz)) (.pr .fz (.ow .fz))))), (800000001, tW, (.pr .fz .fz))]⟩
def S_spec_l6Copy_253 : Shape := ⟨[(1, false, [.ptr 0 0]), (2, false, [.ptr 64 0]), (3, false, [.ptr 4160 0]), (5, false, [.ci .i64 0])], [(0, [.int .i64, .int .i64, .int .i64, .br tM, .int .i64, .int .i64, .int .i64, .int .i64, .int .i64, .br tW, .int .i64, .bool, .bool]), (64, [.int .i64, .int .i64, .int .i64, .nil, .int .i64, .int .i64, .int .i64, .int .i64, .int .i64, .nil, .int .i64, .bool, .bool]), (4160, [.int .i64, .int .i64, .int .i64, .at 800000000, .int .i64, .int .i64, .int .i64, .int .i64, .int .i64, .at 800000001, .int .i64, .bool, .bool])], [(800000000, tM, (.pr (.ow .fz) (.pr (.ow (.pr .fz .fz)) (.pr .fz (.ow .fz))))), (800000001, tW, (.pr .fz .fz))]⟩
def O_spec_l6Copy_253 : Shape := ⟨[(2, false, [.ptr 64 0]), (3, false, [.ptr 4160 0])], [(64, [.int .i64, .int .i64, .int .i64, .nil, .int .i64, .int .i64, .int .i64, .int .i64, .int .i64, .nil, .int .i64, .bool, .bool]), (4160, [.int .i64, .int .i64, .int .i64, .at 800000000, .int .i64, .int .i64, .int .i64, .int .i64, .int .i64, .at 800000001, .int .i64, .bool, .bool])], [(800000000, tM, (.pr (.ow .fz) (.pr (.ow (.pr .fz .fz)) (.pr .fz (.ow .fz))))), (800000001, tW, (.pr .fz .fz))]⟩
def Z_spec_l6Copy_253 : Shape := ⟨[], [], []⟩
abbrev mk_spec_l6Copy_253 (v0 : Int) (v1 : dA) (v2 : dA) (v3 : dA) : (L_spec_l6Copy_253).X := ((((), ()), ((), ()), ((), ()), (v0, ()), ()), ((v1.1, v1.2.1.1, v1.2.1.2, v1.2.2.1, v1.2.2.2.1, v1.2.2.2.2.1, v1.2.2.2.2.2.1, v1.2.2.2.2.2.2.1, v1.2.2.2.2.2.2.2.1, v1.2.2.2.2.2.2.2.2.1, v1.2.2.2.2.2.2.2.2.2.1, v1.2.2.2.2.2.2.2.2.2.2.1, v1.2.2.2.2.2.2.2.2.2.2.2, ()), (v2.1, v2.2.1.1, v2.2.1.2, (), v2.2.2.2.1, v2.2.2.2.2.1, v2.2.2.2.2.2.1, v2.2.2.2.2.2.2.1, v2.2.2.2.2.2.2.2.1, (), v2.2.2.2.2.2.2.2.2.2.1, v2.2.2.2.2.2.2.2.2.2.2.1, v2.2.2.2.2.2.2.2.2.2.2.2, ()), (v3.1, v3.2.1.1, v3.2.1.2, (), v3.2.2.2.1, v3.2.2.2.2.1, v3.2.2.2.2.2.1, v3.2.2.2.2.2.2.1, v3.2.2.2.2.2.2.2.1, (), v3.2.2.2.2.2.2.2.2.2.1, v3.2.2.2.2.2.2.2.2.2.2.1, v3.2.2.2.2.2.2.2.2.2.2.2, ()), ()), (v3.2.2.1, v3.2.2.2.2.2.2.2.2.1, ()))
abbrev ms_spec_l6Copy_253 (v0 : dA) (v1 : dA) (v2 : dA) : (S_spec_l6Copy_253).X := ((((), ()), ((), ()), ((), ()), ((), ()), ()), ((v0.1, v0.2.1.1, v0.2.1.2, v0.2.2.1, v0.2.2.2.1, v0.2.2.2.2.1, v0.2.2.2.2.2.1, v0.2.2.2.2.2.2.1, v0.2.2.2.2.2.2.2.1, v0.2.2.2.2.2.2.2.2.1, v0.2.2.2.2.2.2.2.2.2.1, v0.2.2.2.2.2.2.2.2.2.2.1, v0.2.2.2.2.2.2.2.2.2.2.2, ()), (v1.1, v1.2.1.1, v1.2.1.2, (), v1.2.2.2.1, v1.2.2.2.2.1, v1.2.2.2.2.2.1, v1.2.2.2.2.2.2.1, v1.2.2.2.2.2.2.2.1, (), v1.2.2.2.2.2.2.2.2.2.1, v1.2.2.2.2.2.2.2.2.2.2.1, v1.2.2.2.2.2.2.2.2.2.2.2, ()), (v2.1, v2.2.1.1, v2.2.1.2, (), v2.2.2.2.1, v2.2.2.2.2.1, v2.2.2.2.2.2.1, v2.2.2.2.2.2.2.1, v2.2.2.2.2.2.2.2.1, (), v2.2.2.2.2.2.2.2.2.2.1, v2.2.2.2.2.2.2.2.2.2.2.1, v2.2.2.2.2.2.2.2.2.2.2.2, ()), ()), (v2.2.2.1, v2.2.2.2.2.2.2.2.2.1, ()))
abbrev mo_spec_l6Copy_253 (v0 : dA) (v1 : dA) : (O_spec_l6Copy_253).X := ((((), ()), ((), ()), ()), ((v0.1, v0.2.1.1, v0.2.1.2, (), v0.2.2.2.1, v0.2.2.2.2.1, v0.2.2.2.2.2.1, v0.2.2.2.2.2.2.1, v0.2.2.2.2.2.2.2.1, (), v0.2.2.2.2.2.2.2.2.2.1, v0.2.2.2.2.2.2.2.2.2.2.1, v0.2.2.2.2.2.2.2.2.2.2.2, ()), (v1.1, v1.2.1.1, v1.2.1.2, (), v1.2.2.2.1, v1.2.2.2.2.1, v1.2.2.2.2.2.1, v1.2.2.2.2.2.2.1, v1.2.2.2.2.2.2.2.1, (), v1.2.2.2.2.2.2.2.2.2.1, v1.2.2.2.2.2.2.2.2.2.2.1, v1.2.2.2.2.2.2.2.2.2.2.2, ()), ()), (v1.2.2.1, v1.2.2.2.2.2.2.2.2.1, ()))
noncomputable def st_spec_l6Copy_253 (v0 : Int) (v1 : Int) (v2 : Int) (v3 : Int) (v4 : List dM) (v5 : Int) (v6 : Int) (v7 : Int) (v8 : Int) (v9 : Int) (v10 : List dW) (v11 : Int) (v12 : Bool) (v13 : Bool) (v14 : Int) (v15 : Int) (v16 : Int) (v17 : Int) (v18 : Int) (v19 : Int) (v20 : Int) (v21 : Int) (v22 : Int) (v23 : Bool) (v24 : Bool) (v25 : Int) (v26 : Int) (v27 : Int) (v28 : Int) (v29 : Int) (v30 : Int) (v31 : Int) (v32 : Int) (v33 : Int) (v34 : Bool) (v35 : Bool) (v36 : List dM) (v37 : List dW) : Option ((L_spec_l6Copy_253).X ⊕ ((O_spec_l6Copy_253).X ⊕ (Z_spec_l6Copy_253).X)) :=
  bif (ltb v0 (v10.length : Int)) then
    bif (inb v0 v10.length) then
      bif (inb v0 v10.length) then
        bif (apok ([] : List Int).length ((nth v10 v0 (0, [])).2).length 8) then
          bif (apok v37.length ([((nth v10 v0 (0, [])).1, (([] : List Int) ++ ((nth v10 v0 (0, [])).2)))] : List dW).length 32) then
            some (.inl ((((), ()), ((), ()), ((), ()), ((IntKind.i64.wrap (v0 + 1)), ()), ()), ((v1, v2, v3, v4, v5, v6, v7, v8, v9, v10, v11, v12, v13, ()), (v14, v15, v16, (), v17, v18, v19, v20, v21, (), v22, v23, v24, ()), (v25, v26, v27, (), v28, v29, v30, v31, v32, (), v33, v34, v35, ()), ()), (v36, (v37 ++ ([((nth v10 v0 (0, [])).1, (([] : List Int) ++ ((nth v10 v0 (0, [])).2)))] : List dW)), ())))
          else none
        else none
      else none
    else none
  else
    some (.inr (.inl ((((), ()), ((), ()), ()), ((v14, v15, v16, (), v17, v18, v19, v20, v21, (), v22, v23, v24, ()), (v25, v26, v27, (), v28, v29, v30, v31, v32, (), v33, v34, v35, ()), ()), (v36, v37, ()))))
noncomputable def stx_spec_l6Copy_253 (x : (L_spec_l6Copy_253).X) := st_spec_l6Copy_253 x.1.2.2.2.1.1 x.2.1.1.1 x.2.1.1.2.1 x.2.1.1.2.2.1 x.2.1.1.2.2.2.1 x.2.1.1.2.2.2.2.1 x.2.1.1.2.2.2.2.2.1 x.2.1.1.2.2.2.2.2.2.1 x.2.1.1.2.2.2.2.2.2.2.1 x.2.1.1.2.2.2.2.2.2.2.2.1 x.2.1.1.2.2.2.2.2.2.2.2.2.1 x.2.1.1.2.2.2.2.2.2.2.2.2.2.1 x.2.1.1.2.2.2.2.2.2.2.2.2.2.2.1 x.2.1.1.2.2.2.2.2.2.2.2.2.2.2.2.1 x.2.1.2.1.1 x.2.1.2.1.2.1 x.2.1.2.1.2.2.1 x.2.1.2.1.2.2.2.2.1 x.2.1.2.1.2.2.2.2.2.1 x.2.1.2.1.2.2.2.2.2.2.1 x.2.1.2.1.2.2.2.2.2.2.2.1 x.2.1.2.1.2.2.2.2.2.2.2.2.1 x.2.1.2.1.2.2.2.2.2.2.2.2.2.2.1 x.2.1.2.1.2.2.2.2.2.2.2.2.2.2.2.1 x.2.1.2.1.2.2.2.2.2.2.2.2.2.2.2.2.1 x.2.1.2.2.1.1 x.2.1.2.2.1.2.1 x.2.1.2.2.1.2.2.1 x.2.1.2.2.1.2.2.2.2.1 x.2.1.2.2.1.2.2.2.2.2.1 x.2.1.2.2.1.2.2.2.2.2.2.1 x.2.1.2.2.1.2.2.2.2.2.2.2.1 x.2.1.2.2.1.2.2.2.2.2.2.2.2.1 x.2.1.2.2.1.2.2.2.2.2.2.2.2.2.2.1 x.2.1.2.2.1.2.2.2.2.2.2.2.2.2.2.2.1 x.2.1.2.2.1.2.2.2.2.2.2.2.2.2.2.2.2.1 x.2.2.1 x.2.2.2.1
def em_spec_l6Copy_253 (x : (S_spec_l6Copy_253).X) : (L_spec_l6Copy_253).X := ((((), ()), ((), ()), ((), ()), (0, ()), ()), ((x.2.1.1.1, x.2.1.1.2.1, x.2.1.1.2.2.1, x.2.1.1.2.2.2.1, x.2.1.1.2.2.2.2.1, x.2.1.1.2.2.2.2.2.1, x.2.1.1.2.2.2.2.2.2.1, x.2.1.1.2.2.2.2.2.2.2.1, x.2.1.1.2.2.2.2.2.2.2.2.1, x.2.1.1.2.2.2.2.2.2.2.2.2.1, x.2.1.1.2.2.2.2.2.2.2.2.2.2.1, x.2.1.1.2.2.2.2.2.2.2.2.2.2.2.1, x.2.1.1.2.2.2.2.2.2.2.2.2.2.2.2.1, ()), (x.2.1.2.1.1, x.2.1.2.1.2.1, x.2.1.2.1.2.2.1, (), x.2.1.2.1.2.2.2.2.1, x.2.1.2.1.2.2.2.2.2.1, x.2.1.2.1.2.2.2.2.2.2.1, x.2.1.2.1.2.2.2.2.2.2.2.1, x.2.1.2.1.2.2.2.2.2.2.2.2.1, (), x.2.1.2.1.2.2.2.2.2.2.2.2.2.2.1, x.2.1.2.1.2.2.2.2.2.2.2.2.2.2.2.1, x.2.1.2.1.2.2.2.2.2.2.2.2.2.2.2.2.1, ()), (x.2.1.2.2.1.1, x.2.1.2.2.1.2.1, x.2.1.2.2.1.2.2.1, (), x.2.1.2.2.1.2.2.2.2.1, x.2.1.2.2.1.2.2.2.2.2.1, x.2.1.2.2.1.2.2.2.2.2.2.1, x.2.1.2.2.1.2.2.2.2.2.2.2.1, x.2.1.2.2.1.2.2.2.2.2.2.2.2.1, (), x.2.1.2.2.1.2.2.2.2.2.2.2.2.2.2.1, x.2.1.2.2.1.2.2.2.2.2.2.2.2.2.2.2.1, x.2.1.2.2.1.2.2.2.2.2.2.2.2.2.2.2.2.1, ()), ()), (x.2.2.1, x.2.2.2.1, ()))
noncomputable def c_spec_l6Copy_253 : Code := (subN B_spec_l6Copy 64 1012).getD .skip
theorem a_spec_l6Copy_253 : subN B_spec_l6Copy 64 253 = some (.block 2 (.loop c_spec_l6Copy_253)) := by kernel_rfl
theorem r_spec_l6Copy_253 (x : (L_spec_l6Copy_253).X) : roundT ⟨E_spec_l6Copy, 57, D_spec_l6Copy_1⟩ 2 c_spec_l6Copy_253 1012 L_spec_l6Copy_253 O_spec_l6Copy_253 Z_spec_l6Copy_253 x = stx_spec_l6Copy_253 x := by kernel_rfl
noncomputable def fu_spec_l6Copy_253 (x : (S_spec_l6Copy_253).X) : Nat := (fun (u0 : Int) (u1 : Int) (u2 : Int) (u3 : List dM) (u4 : Int) (u5 : Int) (u6 : Int) (u7 : Int) (u8 : Int) (u9 : List dW) (u10 : Int) (u11 : Bool) (u12 : Bool) (u13 : Int) (u14 : Int) (u15 : Int) (u16 : Int) (u17 : Int) (u18 : Int) (u19 : Int) (u20 : Int) (u21 : Int) (u22 : Bool) (u23 : Bool) (u24 : Int) (u25 : Int) (u26 : Int) (u27 : Int) (u28 : Int) (u29 : Int) (u30 : Int) (u31 : Int) (u32 : Int) (u33 : Bool) (u34 : Bool) (u35 : List dM) (u36 : List dW) => 18446744073709551616) x.2.1.1.1 x.2.1.1.2.1 x.2.1.1.2.2.1 x.2.1.1.2.2.2.1 x.2.1.1.2.2.2.2.1 x.2.1.1.2.2.2.2.2.1 x.2.1.1.2.2.2.2.2.2.1 x.2.1.1.2.2.2.2.2.2.2.1 x.2.1.1.2.2.2.2.2.2.2.2.1 x.2.1.1.2.2.2.2.2.2.2.2.2.1 x.2.1.1.2.2.2.2.2.2.2.2.2.2.1 x.2.1.1.2.2.2.2.2.2.2.2.2.2.2.1 x.2.1.1.2.2.2.2.2.2.2.2.2.2.2.2.1 x.2.1.2.1.1 x.2.1.2.1.2.1 x.2.1.2.1.2.2.1 x.2.1.2.1.2.2.2.2.1 x.2.1.2.1.2.2.2.2.2.1 x.2.1.2.1.2.2.2.2.2.2.1 x.2.1.2.1.2.2.2.2.2.2.2.1 x.2.1.2.1.2.2.2.2.2.2.2.2.1 x.2.1.2.1.2.2.2.2.2.2.2.2.2.2.1 x.2.1.2.1.2.2.2.2.2.2.2.2.2.2.2.1 x.2.1.2.1.2.2.2.2.2.2.2.2.2.2.2.2.1 x.2.1.2.2.1.1 x.2.1.2.2.1.2.1 x.2.1.2.2.1.2.2.1 x.2.1.2.2.1.2.2.2.2.1 x.2.1.2.2.1.2.2.2.2.2.1 x.2.1.2.2.1.2.2.2.2.2.2.1 x.2.1.2.2.1.2.2.2.2.2.2.2.1 x.2.1.2.2.1.2.2.2.2.2.2.2.2.1 x.2.1.2.2.1.2.2.2.2.2.2.2.2.2.2.1 x.2.1.2.2.1.2.2.2.2.2.2.2.2.2.2.2.1 x.2.1.2.2.1.2.2.2.2.2.2.2.2.2.2.2.2.1 x.2.2.1 x.2.2.2.1
noncomputable def F_spec_l6Copy_253 (x : (S_spec_l6Copy_253).X) : Option ((O_spec_l6Copy_253).X ⊕ (Z_spec_l6Copy_253).X) := loopN stx_spec_l6Copy_253 (fu_spec_l6Copy_253 x) (em_spec_l6Copy_253 x)
noncomputable def sg_spec_l6Copy_253 : Seg := ⟨S_spec_l6Copy_253, O_spec_l6Copy_253, Z_spec_l6Copy_253, F_spec_l6Copy_253⟩
noncomputable def D_spec_l6Copy_2 : Nat → Option Seg := fun q => bif Nat.beq q 253 then some sg_spec_l6Copy_253 else D_spec_l6Copy_1 q
theorem fr_spec_l6Copy_2 : FrOk Try.prog ⟨E_spec_l6Copy, 57, D_spec_l6Copy_2⟩ B_spec_l6Copy := (fr_spec_l6Copy_1).loop (sg := sg_spec_l6Copy_253) L_spec_l6Copy_253 em_spec_l6Copy_253 (by decide) a_spec_l6Copy_253 stx_spec_l6Copy_253 fu_spec_l6Copy_253 (by decide) (fun _ => rfl) (fun x r _ h => h) r_spec_l6Copy_253
abbrev I_spec_l6Copy : List Par := [.rd tA]
abbrev U_spec_l6Copy : List OT := [⟨false, tA, (.pr .fz (.pr (.pr .fz .fz) (.pr (.ow (.pr (.ow .fz) (.pr (.ow (.pr .fz .fz)) (.pr .fz (.ow .fz))))) (.pr .fz (.pr .fz (.pr .fz (.pr .fz (.pr .fz (.pr (.ow (.pr .fz .fz)) (.pr .fz (.pr .fz .fz)))))))))))⟩]
noncomputable def raw_spec_l6Copy (a0 : dA) : Option (ResD U_spec_l6Copy × MutD I_spec_l6Copy) :=
  segM (F_spec_l6Copy_61 ((((), ()), ((), ()), ((), ()), ((), ()), ()), ((a0.1, a0.2.1.1, a0.2.1.2, a0.2.2.1, a0.2.2.2.1, a0.2.2.2.2.1, a0.2.2.2.2.2.1, a0.2.2.2.2.2.2.1, a0.2.2.2.2.2.2.2.1, a0.2.2.2.2.2.2.2.2.1, a0.2.2.2.2.2.2.2.2.2.1, a0.2.2.2.2.2.2.2.2.2.2.1, a0.2.2.2.2.2.2.2.2.2.2.2, ()), (0, 0, 0, (), 0, 0, 0, 0, 0, (), 0, false, false, ()), (a0.1, a0.2.1.1, a0.2.1.2, (), a0.2.2.2.1, a0.2.2.2.2.1, a0.2.2.2.2.2.1, a0.2.2.2.2.2.2.1, a0.2.2.2.2.2.2.2.1, a0.2.2.2.2.2.2.2.2.1, a0.2.2.2.2.2.2.2.2.2.1, a0.2.2.2.2.2.2.2.2.2.2.1, a0.2.2.2.2.2.2.2.2.2.2.2, ()), ()), (([] : List dM), ()))) (fun y2 =>
    segM (F_spec_l6Copy_253 ((((), ()), ((), ()), ((), ()), ((), ()), ()), ((y2.2.1.1.1, y2.2.1.1.2.1, y2.2.1.1.2.2.1, y2.2.1.1.2.2.2.1, y2.2.1.1.2.2.2.2.1, y2.2.1.1.2.2.2.2.2.1, y2.2.1.1.2.2.2.2.2.2.1, y2.2.1.1.2.2.2.2.2.2.2.1, y2.2.1.1.2.2.2.2.2.2.2.2.1, y2.2.1.1.2.2.2.2.2.2.2.2.2.1, y2.2.1.1.2.2.2.2.2.2.2.2.2.2.1, y2.2.1.1.2.2.2.2.2.2.2.2.2.2.2.1, y2.2.1.1.2.2.2.2.2.2.2.2.2.2.2.2.1, ()), (y2.2.1.2.1.1, y2.2.1.2.1.2.1, y2.2.1.2.1.2.2.1, (), y2.2.1.2.1.2.2.2.2.1, y2.2.1.2.1.2.2.2.2.2.1, y2.2.1.2.1.2.2.2.2.2.2.1, y2.2.1.2.1.2.2.2.2.2.2.2.1, y2.2.1.2.1.2.2.2.2.2.2.2.2.1, (), y2.2.1.2.1.2.2.2.2.2.2.2.2.2.2.1, y2.2.1.2.1.2.2.2.2.2.2.2.2.2.2.2.1, y2.2.1.2.1.2.2.2.2.2.2.2.2.2.2.2.2.1, ()), (y2.2.1.2.2.1.1, y2.2.1.2.2.1.2.1, y2.2.1.2.2.1.2.2.1, (), y2.2.1.2.2.1.2.2.2.2.1, y2.2.1.2.2.1.2.2.2.2.2.1, y2.2.1.2.2.1.2.2.2.2.2.2.1, y2.2.1.2.2.1.2.2.2.2.2.2.2.1, y2.2.1.2.2.1.2.2.2.2.2.2.2.2.1, (), y2.2.1.2.2.1.2.2.2.2.2.2.2.2.2.2.1, y2.2.1.2.2.1.2.2.2.2.2.2.2.2.2.2.2.1, y2.2.1.2.2.1.2.2.2.2.2.2.2.2.2.2.2.2.1, ()), ()), (y2.2.2.1, ([] : List dW), ()))) (fun y3 =>
      some (((y3.2.1.2.1.1, (y3.2.1.2.1.2.1, y3.2.1.2.1.2.2.1), y3.2.2.1, y3.2.1.2.1.2.2.2.2.1, y3.2.1.2.1.2.2.2.2.2.1, y3.2.1.2.1.2.2.2.2.2.2.1, y3.2.1.2.1.2.2.2.2.2.2.2.1, y3.2.1.2.1.2.2.2.2.2.2.2.2.1, y3.2.2.2.1, y3.2.1.2.1.2.2.2.2.2.2.2.2.2.2.1, y3.2.1.2.1.2.2.2.2.2.2.2.2.2.2.2.1, y3.2.1.2.1.2.2.2.2.2.2.2.2.2.2.2.2.1), ()), ())) (fun y3 =>
      none)) (fun y2 =>
    none)
theorem e_spec_l6Copy (x : InD I_spec_l6Copy) : execF ⟨E_spec_l6Copy, 57, D_spec_l6Copy_2⟩ Try.f33.results.toList B_spec_l6Copy I_spec_l6Copy U_spec_l6Copy x = raw_spec_l6Copy x.1 := by kernel_rfl
theorem ok0_spec_l6Copy : ConOk Try.prog 33 ⟨I_spec_l6Copy, U_spec_l6Copy, fun x => raw_spec_l6Copy x.1⟩ := conOk_exec (fr_spec_l6Copy_2) Try.func33 (by kernel_rfl) (by kernel_rfl) Try.ntmps33.symm (by decide) (fun x r h => (e_spec_l6Copy x).trans h)
noncomputable def n_spec_l6Copy (a0 : dA) : dA := a0
theorem nn_spec_l6Copy (a0 : dA) (hk : InOk I_spec_l6Copy (a0, ())) : raw_spec_l6Copy a0 = (fun n => some ((n, ()), ())) (n_spec_l6Copy a0) := by
  have hb : a0.2.2.1.length * 80 ≤ 2 ^ 47 := hk.1.2.2.1.1
  have hb2 : a0.2.2.2.2.2.2.2.2.1.length * 32 ≤ 2 ^ 47 := hk.1.2.2.2.2.2.2.2.2.1.1
  have hc : ∀ i, i < a0.2.2.2.2.2.2.2.2.1.length → (a0.2.2.2.2.2.2.2.2.1.getD i (0, [])).2.length * 8 ≤ 2 ^ 47 := fun i hi => by rw [getD_get hi]; exact (hk.1.2.2.2.2.2.2.2.2.1.2 _ (List.getElem_mem hi)).2.1
  have h1 := loopN_fold (step := stx_spec_l6Copy_61) a0.2.2.1 noMem (fun i s => mk_spec_l6Copy_61 i a0 noArr (a0.1, a0.2.1, s, a0.2.2.2)) (fun s x => s ++ [x]) (fun i s => s.length = i) (fun s => .inl (mo_spec_l6Copy_61 a0 noArr (a0.1, a0.2.1, s, a0.2.2.2))) (fun i s hi hs => ⟨by
      simp only [stx_spec_l6Copy_61, mk_spec_l6Copy_61, st_spec_l6Copy_61, ltb_t (show (i : Int) < a0.2.2.1.length by omega), cond_true, wr (show -9223372036854775808 ≤ (i : Int) + 1 by omega) (by omega), Int.natCast_add, Int.natCast_one, Int.toNat_natCast, inb_nat hi, nth_nat, n_spec_l2Copy, pr_eta]
      rw [apok_iff.2 (show (s.length + [a0.2.2.1.getD i ([], [], false, [])].length) * 80 ≤ 140737488355328 by simp only [List.length_cons, List.length_nil]; omega)]; rfl, by simp [hs]⟩) (fun s hs => by simp only [stx_spec_l6Copy_61, mk_spec_l6Copy_61, st_spec_l6Copy_61, ltb_f (Int.le_refl _), cond_false]) [] rfl 18446744073709551616 (by omega)
  have h2 := loopN_fold (step := stx_spec_l6Copy_253) a0.2.2.2.2.2.2.2.2.1 (0, []) (fun i s => mk_spec_l6Copy_253 i a0 noArr (a0.1, a0.2.1, a0.2.2.1, a0.2.2.2.1, a0.2.2.2.2.1, a0.2.2.2.2.2.1, a0.2.2.2.2.2.2.1, a0.2.2.2.2.2.2.2.1, s, a0.2.2.2.2.2.2.2.2.2)) (fun s x => s ++ [x]) (fun i s => s.length = i) (fun s => .inl (mo_spec_l6Copy_253 noArr (a0.1, a0.2.1, a0.2.2.1, a0.2.2.2.1, a0.2.2.2.2.1, a0.2.2.2.2.2.1, a0.2.2.2.2.2.2.1, a0.2.2.2.2.2.2.2.1, s, a0.2.2.2.2.2.2.2.2.2))) (fun i s hi hs => ⟨by
      have := hc i hi
      simp only [stx_spec_l6Copy_253, mk_spec_l6Copy_253, st_spec_l6Copy_253, ltb_t (show (i : Int) < a0.2.2.2.2.2.2.2.2.1.length by omega), cond_true, wr (show -9223372036854775808 ≤ (i : Int) + 1 by omega) (by omega), Int.natCast_add, Int.natCast_one, Int.toNat_natCast, inb_nat hi, nth_nat, List.nil_append, pr_eta]
      rw [apok_iff.2 (show (([] : List Int).length + (a0.2.2.2.2.2.2.2.2.1.getD i (0, [])).2.length) * 8 ≤ 140737488355328 by rw [List.length_nil]; omega), apok_iff.2 (show (s.length + [a0.2.2.2.2.2.2.2.2.1.getD i (0, [])].length) * 32 ≤ 140737488355328 by simp only [List.length_cons, List.length_nil]; omega)]; rfl, by simp [hs]⟩) (fun s hs => by simp only [stx_spec_l6Copy_253, mk_spec_l6Copy_253, st_spec_l6Copy_253, ltb_f (Int.le_refl _), cond_false]) [] rfl 18446744073709551616 (by omega)
  rw [foldl_id] at h1 h2
  unfold raw_spec_l6Copy n_spec_l6Copy
  rw [show F_spec_l6Copy_61 (ms_spec_l6Copy_61 a0 noArr (a0.1, a0.2.1, [], a0.2.2.2)) = _ from h1, segM_inl]
  refine (congrArg (fun z => segM z _ _) (show F_spec_l6Copy_253 (ms_spec_l6Copy_253 a0 noArr (a0.1, a0.2.1, a0.2.2.1, a0.2.2.2.1, a0.2.2.2.2.1, a0.2.2.2.2.2.1, a0.2.2.2.2.2.2.1, a0.2.2.2.2.2.2.2.1, [], a0.2.2.2.2.2.2.2.2.2)) = _ from h2)).trans rfl
noncomputable def con_spec_l6Copy : Con := ⟨I_spec_l6Copy, U_spec_l6Copy, fun x => (fun n => some ((n, ()), ())) (n_spec_l6Copy x.1)⟩
theorem ok_spec_l6Copy : ConOk Try.prog 33 con_spec_l6Copy := (ok0_spec_l6Copy).mono (fun x r hk h => (nn_spec_l6Copy x.1 hk).trans h)
end

/-! spec_l1In -/
section
noncomputable def B_spec_l1In : Code := (Try.f35.body).getD .skip
noncomputable def E_spec_l1In : Env := envOf TT [] []
theorem fr_spec_l1In_0 : FrOk Try.prog ⟨E_spec_l1In, 15, fun _ => none⟩ B_spec_l1In := frOk_base mixed tt_ok trivial
noncomputable def D_spec_l1In_0 : Nat → Option Seg := fun _ => none
abbrev I_spec_l1In : List Par := [.rd tI, .rd tI, .rd tI]
abbrev U_spec_l1In : List OT := [⟨false, tB, .fz⟩]
noncomputable def raw_spec_l1In (a0 : Int) (a1 : Int) (a2 : Int) : Option (ResD U_spec_l1In × MutD I_spec_l1In) :=
  bif (leb a1 a0) then
    some (((leb a0 a2), ()), ())
  else
    some ((false, ()), ())
theorem e_spec_l1In (x : InD I_spec_l1In) : execF ⟨E_spec_l1In, 15, D_spec_l1In_0⟩ Try.f35.results.toList B_spec_l1In I_spec_l1In U_spec_l1In x = raw_spec_l1In x.1 x.2.1 x.2.2.1 := by kernel_rfl
theorem ok0_spec_l1In : ConOk Try.prog 35 ⟨I_spec_l1In, U_spec_l1In, fun x => raw_spec_l1In x.1 x.2.1 x.2.2.1⟩ := conOk_exec (fr_spec_l1In_0) Try.func35 (by kernel_rfl) (by kernel_rfl) Try.ntmps35.symm (by decide) (fun x r h => (e_spec_l1In x).trans h)
noncomputable def n_spec_l1In (a0 : Int) (a1 : Int) (a2 : Int) : Bool :=
  bif (leb a1 a0) then
    (leb a0 a2)
  else
    false
noncomputable def con_spec_l1In : Con := ⟨I_spec_l1In, U_spec_l1In, fun x => (fun n => some ((n, ()), ())) (n_spec_l1In x.1 x.2.1 x.2.2.1)⟩
theorem nn_spec_l1In (a0 : Int) (a1 : Int) (a2 : Int) : raw_spec_l1In a0 a1 a2 = (fun n => some ((n, ()), ())) (n_spec_l1In a0 a1 a2) := bif_ty (p := fun (n : Bool) => ((n, ()), ())) (bif_some (p := fun (n : Bool) => ((n, ()), ())) rfl rfl)
theorem ok_spec_l1In : ConOk Try.prog 35 con_spec_l1In := (ok0_spec_l1In).mono (fun x r _ h => (nn_spec_l1In x.1 x.2.1 x.2.2.1).trans h)
theorem in_iff {a b c : Int} : n_spec_l1In a b c = true ↔ b ≤ a ∧ a ≤ c := by
  unfold n_spec_l1In
  cases h : leb b a
  · have := mt leb_t (by rw [h]; simp : ¬ leb b a = true)
    simp [this]
  · simp [leb_iff, leb_iff.1 h]
theorem in_t {a b c : Int} (h : b ≤ a) (h2 : a ≤ c) : n_spec_l1In a b c = true := in_iff.2 ⟨h, h2⟩
theorem in_f {a b c : Int} (h : ¬ (b ≤ a ∧ a ≤ c)) : n_spec_l1In a b c = false := by
  cases e : n_spec_l1In a b c
  · rfl
  · exact absurd (in_iff.1 e) h
theorem in_eq (x a b : Int) : n_spec_l1In x a b = (leb a x && leb x b) := by
  unfold n_spec_l1In; cases leb a x <;> rfl
theorem in_len {x : Int} {n : Nat} (h : n ≤ 1152921504606846976) : n_spec_l1In x 0 (IntKind.i64.wrap ((n : Int) - 1)) = inb x n := by
  rw [wr (by omega) (by omega), Bool.eq_iff_iff, in_iff, inb_iff]; omega
end

/-! spec_GeoOk -/
section
noncomputable def B_spec_GeoOk : Code := (Try.f65.body).getD .skip
noncomputable def E_spec_GeoOk : Env := envOf TT [(35, con_spec_l1In)] []
theorem fr_spec_GeoOk_0 : FrOk Try.prog ⟨E_spec_GeoOk, 11, fun _ => none⟩ B_spec_GeoOk := frOk_base mixed tt_ok ⟨ok_spec_l1In, trivial⟩
noncomputable def D_spec_GeoOk_0 : Nat → Option Seg := fun _ => none
abbrev I_spec_GeoOk : List Par := [.rd tG]
abbrev U_spec_GeoOk : List OT := [⟨false, tB, .fz⟩]
noncomputable def raw_spec_GeoOk (a0 : dG) : Option (ResD U_spec_GeoOk × MutD I_spec_GeoOk) :=
  let r1 := n_spec_l1In a0.1 3 5
  bif r1 then
    let r2 := n_spec_l1In a0.2 1 8
    some ((r2, ()), ())
  else
    some ((false, ()), ())
theorem e_spec_GeoOk (x : InD I_spec_GeoOk) : execF ⟨E_spec_GeoOk, 11, D_spec_GeoOk_0⟩ Try.f65.results.toList B_spec_GeoOk I_spec_GeoOk U_spec_GeoOk x = raw_spec_GeoOk x.1 := by kernel_rfl
theorem ok0_spec_GeoOk : ConOk Try.prog 65 ⟨I_spec_GeoOk, U_spec_GeoOk, fun x => raw_spec_GeoOk x.1⟩ := conOk_exec (fr_spec_GeoOk_0) Try.func65 (by kernel_rfl) (by kernel_rfl) Try.ntmps65.symm (by decide) (fun x r h => (e_spec_GeoOk x).trans h)
noncomputable def n_spec_GeoOk (a0 : dG) : Bool :=
  let r1 := n_spec_l1In a0.1 3 5
  bif r1 then
    let r2 := n_spec_l1In a0.2 1 8
    r2
  else
    false
noncomputable def con_spec_GeoOk : Con := ⟨I_spec_GeoOk, U_spec_GeoOk, fun x => (fun n => some ((n, ()), ())) (n_spec_GeoOk x.1)⟩
theorem nn_spec_GeoOk (a0 : dG) : raw_spec_GeoOk a0 = (fun n => some ((n, ()), ())) (n_spec_GeoOk a0) := bif_ty (p := fun (n : Bool) => ((n, ()), ())) (bif_some (p := fun (n : Bool) => ((n, ()), ())) rfl rfl)
theorem ok_spec_GeoOk : ConOk Try.prog 65 con_spec_GeoOk := (ok0_spec_GeoOk).mono (fun x r _ h => (nn_spec_GeoOk x.1).trans h)
theorem geo_iff {a : Int × Int} : n_spec_GeoOk a = true ↔ (3 ≤ a.1 ∧ a.1 ≤ 5) ∧ 1 ≤ a.2 ∧ a.2 ≤ 8 := by
  unfold n_spec_GeoOk
  cases h : n_spec_l1In a.1 3 5
  · have : ¬ (3 ≤ a.1 ∧ a.1 ≤ 5) := fun e => by rw [in_iff.2 e] at h; simp at h
    simp [this]
  · simp only [cond_true, in_iff]
    exact ⟨fun e => ⟨in_iff.1 h, e⟩, fun e => e.2⟩
def memBad (a : dA) (i : Nat) : Bool := !(memOk (nth a.2.2.1 i noMem)) || ((((nth a.2.2.1 i noMem).1.length : Int) != 6 + a.2.1.2) || ((nth a.2.2.1 i noMem).2.2.1 && (((i : Int) != a.2.2.2.1) && !a.2.2.2.2.2.2.2.2.2.2.2)))
def memsOk (a : dA) : Bool := !((List.range a.2.2.1.length).any (memBad a)) && (a.2.2.1.length : Int) == a.2.1.1
def dirtBad (g : dG) (l : List dW) (i : Nat) : Bool := !(leb 0 (nth l i (0, [])).1 && leb (nth l i (0, [])).1 (g.2 - 1)) || (((nth l i (0, [])).2.length : Int) != g.1 - 1 || (!((nth l i (0, [])).2.all isW) || (decide (0 < i) && leb (nth l i (0, [])).1 (nth l ((i - 1 : Nat) : Int) (0, [])).1)))
def dirtyOk (g : dG) (l : List dW) : Bool := !((List.range l.length).any (dirtBad g l))
/-- an array that is right -/
noncomputable def arrOk (a : dA) : Bool :=
  n_spec_GeoOk a.2.1 && ((leb 1 a.1 && leb a.1 60000) && (memsOk a && (dirtyOk a.2.1 a.2.2.2.2.2.2.2.2.1 && ((leb (-1) a.2.2.2.1 && leb a.2.2.2.1 (a.2.1.1 - 1)) && ((leb 0 a.2.2.2.2.1 && leb a.2.2.2.2.1 a.2.1.2) && (!(a.2.2.2.1 == -1 && a.2.2.2.2.1 != 0) &&
  ((leb 0 a.2.2.2.2.2.2.1 && leb a.2.2.2.2.2.2.1 60000) && ((leb a.2.2.2.2.2.2.1 a.2.2.2.2.2.1 && leb a.2.2.2.2.2.1 60000) && (leb a.2.2.2.2.2.1 (a.2.2.2.2.2.2.1 + 4) && ((leb 0 a.2.2.2.2.2.2.2.1 && leb a.2.2.2.2.2.2.2.1 60000) && (leb (-1) a.2.2.2.2.2.2.2.2.2.1 && leb a.2.2.2.2.2.2.2.2.2.1 1000)))))))))))
theorem arrOk_geo {a : dA} (h : arrOk a = true) : n_spec_GeoOk a.2.1 = true := (Bool.and_eq_true_iff.1 h).1
theorem geo_f {a : Int × Int} (h : ¬ n_spec_GeoOk a = true) : n_spec_GeoOk a = false := by cases e : n_spec_GeoOk a <;> simp_all
theorem arrOk_mems {a : dA} (h : arrOk a = true) : memsOk a = true := by simp only [arrOk, Bool.and_eq_true] at h; exact h.2.2.1
theorem arrOk_len {a : dA} (h : arrOk a = true) : (a.2.2.1.length : Int) = a.2.1.1 := by have := arrOk_mems h; simp only [memsOk, Bool.and_eq_true, beq_iff_eq] at this; exact this.2
theorem memsOk_at {a : dA} (h : memsOk a = true) {i : Nat} (hi : i < a.2.2.1.length) : memOk (nth a.2.2.1 i noMem) = true ∧ ((nth a.2.2.1 i noMem).1.length : Int) = 6 + a.2.1.2 ∧ ((nth a.2.2.1 i noMem).2.2.1 = true → (i : Int) = a.2.2.2.1 ∨ a.2.2.2.2.2.2.2.2.2.2.2 = true) := by
  simp only [memsOk, Bool.and_eq_true, Bool.not_eq_true', List.any_eq_false, List.mem_range] at h
  have := h.1 i hi
  simp only [memBad, Bool.not_eq_true, Bool.or_eq_false_iff, Bool.not_eq_false', bne_eq_false_iff_eq, Bool.and_eq_false_iff] at this
  refine ⟨this.1, this.2.1, fun hf => ?_⟩
  rcases this.2.2 with h1 | h1 | h1
  · rw [hf] at h1; cases h1
  · exact .inl h1
  · exact .inr h1
theorem asc_len : ∀ {l : List Int} {lo n : Int}, l.Pairwise (· < ·) → (∀ x ∈ l, lo ≤ x ∧ x < n) → lo ≤ n → (l.length : Int) ≤ n - lo
  | [], lo, n, _, _, h => by simp; omega
  | x :: l, lo, n, hp, hx, h => by
    cases hp with
    | cons h1 h2 =>
      have h3 := hx x List.mem_cons_self
      have := asc_len (l := l) (lo := x + 1) (n := n) h2 (fun y hy => ⟨h1 y hy, (hx y (List.mem_cons_of_mem _ hy)).2⟩) (by omega)
      rw [List.length_cons]; omega
theorem badOk_iff {n : Nat} {l : List Int} : badOk n l = true ↔ (∀ x ∈ l, 0 ≤ x ∧ x < n) ∧ l.Pairwise (· < ·) := by
  simp only [badOk, Bool.and_eq_true, List.all_eq_true, inb_iff, decide_eq_true_eq]
theorem memOk_mk {m : dM} (h1 : m.1.all secOk = true) (h2 : m.2.1.all (wrOk m.1.length) = true) (h3 : badOk m.1.length m.2.2.2 = true) (h4 : 1 ≤ m.1.length) (h5 : m.1.length ≤ 20) (h6 : m.2.1.length ≤ 60) : memOk m = true := by
  simp only [memOk, h1, h2, h3, Bool.true_and, Bool.and_eq_true, leb_iff]
  omega
theorem memOk_small {m : dM} (h : memOk m = true) : mMem m ≤ 1041 := by
  obtain ⟨h1, h2, h3, h4, h5, h6⟩ := memOk_parts h
  have a1 := secs_small (b := 12) h5 (fun x hx => (secOk_iff.1 (List.all_eq_true.1 h1 x hx)).1)
  have a2 := sum_const (f := fun x : dW => 1 + x.2.length) (c := 13) (l := m.2.1) (fun w hw => by have := (secOk_iff.1 (Bool.and_eq_true_iff.1 (List.all_eq_true.1 h2 w hw)).2).1; omega)
  have a3 := Nat.mul_le_mul_right 13 h6
  obtain ⟨b1, b2⟩ := badOk_iff.1 h3
  have a4 := asc_len (lo := 0) (n := m.1.length) b2 b1 (by omega)
  unfold mMem
  omega
theorem layKept_ok {m : dM} (b : Nat → Bool) (h : memOk m = true) : (layKept b m.2.1 m.1).all secOk = true := by
  obtain ⟨h1, h2, _⟩ := memOk_parts h
  rw [List.all_eq_true]
  exact layKept_all (P := fun x => secOk x = true) (fun x hx => List.all_eq_true.1 h1 x hx) (fun w hw => (Bool.and_eq_true_iff.1 (List.all_eq_true.1 h2 w hw)).2)
theorem write_ok {m : dM} (n : Int) (s : List Int) (h : memOk m = true) : memOk (writeSec m n s).1 = true := by
  unfold writeSec
  cases hc : canWrite m n s
  · exact h
  · simp only [canWrite, Bool.and_eq_true, Bool.not_eq_true', ltb_iff] at hc
    obtain ⟨h1, h2, h3, h4, h5, h6⟩ := memOk_parts h
    refine memOk_mk h1 ?_ ?_ h4 h5 (by show (m.2.1 ++ [(n, s)]).length ≤ 60; rw [List.length_append]; simp only [List.length_cons, List.length_nil]; omega)
    · show (m.2.1 ++ [(n, s)]).all (wrOk m.1.length) = true
      rw [List.all_append, h2]
      simp [wrOk, hc.2.2.1, hc.2.2.2.1]
    · show badOk m.1.length (sans m.2.2.2 n) = true
      obtain ⟨b1, b2⟩ := badOk_iff.1 h3
      exact badOk_iff.2 ⟨fun x hx => b1 x (List.mem_filter.1 hx).1, b2.filter _⟩
theorem write_len (m : dM) (n : Int) (s : List Int) : (writeSec m n s).1.1 = m.1 ∧ (writeSec m n s).1.2.2.1 = m.2.2.1 := by
  unfold writeSec
  cases canWrite m n s <;> exact ⟨rfl, rfl⟩
theorem flush_ok {m : dM} (h : memOk m = true) : memOk (flushMem m) = true := by
  unfold flushMem
  cases hc : (memOk m && !m.2.2.1)
  · exact h
  · obtain ⟨h1, h2, h3, h4, h5, h6⟩ := memOk_parts h
    refine memOk_mk (layKept_ok _ h) rfl ?_ ?_ ?_ (Nat.zero_le _)
    · show badOk (layKept _ m.2.1 m.1).length m.2.2.2 = true; rw [layKept_len]; exact h3
    · show 1 ≤ (layKept _ m.2.1 m.1).length; rw [layKept_len]; exact h4
    · show (layKept _ m.2.1 m.1).length ≤ 20; rw [layKept_len]; exact h5
theorem flush_len (m : dM) : (flushMem m).1.length = m.1.length ∧ (flushMem m).2.2.1 = m.2.2.1 := by
  unfold flushMem
  cases (memOk m && !m.2.2.1)
  · exact ⟨rfl, rfl⟩
  · exact ⟨layKept_len, rfl⟩
theorem fail_ok {m : dM} (h : memOk m = true) : memOk (failMem m) = true := by
  obtain ⟨h1, h2, h3, h4, h5, h6⟩ := memOk_parts h
  exact memOk_mk h1 rfl h3 h4 h5 (Nat.zero_le _)
def okMems (l : List dM) : Prop := ∀ m ∈ l, memOk m = true
theorem okMems_set {l : List dM} {i : Nat} {x : dM} (h : okMems l) (hx : memOk x = true) : okMems (l.set i x) := fun m hm => by
  rcases List.mem_or_eq_of_mem_set hm with h1 | rfl
  · exact h m h1
  · exact hx
theorem okMems_at {l : List dM} {m : Int} (h : okMems l) (hm : inb m l.length = true) : memOk (nth l m noMem) = true := nth_mem (P := fun x => memOk x = true) hm h
theorem okMems_small {l : List dM} (h : okMems l) : mMems l ≤ l.length * 1041 := sum_const (f := mMem) (fun x hx => memOk_small (h x hx))
theorem arr_okMems {a : dA} (h : arrOk a = true) : okMems a.2.2.1 := fun m hm => by
  obtain ⟨i, hi, rfl⟩ := List.getElem_of_mem hm
  have := (memsOk_at (arrOk_mems h) hi).1
  rwa [nth_nat, getD_get hi] at this
end

/-! spec_l6Secs -/
section
noncomputable def B_spec_l6Secs : Code := (Try.f88.body).getD .skip
noncomputable def E_spec_l6Secs : Env := envOf TT [] []
theorem fr_spec_l6Secs_0 : FrOk Try.prog ⟨E_spec_l6Secs, 6, fun _ => none⟩ B_spec_l6Secs := frOk_base mixed tt_ok trivial
noncomputable def D_spec_l6Secs_0 : Nat → Option Seg := fun _ => none
abbrev I_spec_l6Secs : List Par := [.rd tG]
abbrev U_spec_l6Secs : List OT := [⟨false, tI, .fz⟩]
noncomputable def raw_spec_l6Secs (a0 : dG) : Option (ResD U_spec_l6Secs × MutD I_spec_l6Secs) :=
  some (((IntKind.i64.wrap (6 + a0.2)), ()), ())
theorem e_spec_l6Secs (x : InD I_spec_l6Secs) : execF ⟨E_spec_l6Secs, 6, D_spec_l6Secs_0⟩ Try.f88.results.toList B_spec_l6Secs I_spec_l6Secs U_spec_l6Secs x = raw_spec_l6Secs x.1 := by kernel_rfl
theorem ok0_spec_l6Secs : ConOk Try.prog 88 ⟨I_spec_l6Secs, U_spec_l6Secs, fun x => raw_spec_l6Secs x.1⟩ := conOk_exec (fr_spec_l6Secs_0) Try.func88 (by kernel_rfl) (by kernel_rfl) Try.ntmps88.symm (by decide) (fun x r h => (e_spec_l6Secs x).trans h)
noncomputable def n_spec_l6Secs (a0 : dG) : Int :=
  (IntKind.i64.wrap (6 + a0.2))
noncomputable def con_spec_l6Secs : Con := ⟨I_spec_l6Secs, U_spec_l6Secs, fun x => (fun n => some ((n, ()), ())) (n_spec_l6Secs x.1)⟩
theorem nn_spec_l6Secs (a0 : dG) : raw_spec_l6Secs a0 = (fun n => some ((n, ()), ())) (n_spec_l6Secs a0) := bif_ty (p := fun (n : Int) => ((n, ()), ())) rfl
theorem ok_spec_l6Secs : ConOk Try.prog 88 con_spec_l6Secs := (ok0_spec_l6Secs).mono (fun x r _ h => (nn_spec_l6Secs x.1).trans h)
end

/-! spec_l1Word -/
section
noncomputable def B_spec_l1Word : Code := (Try.f129.body).getD .skip
noncomputable def E_spec_l1Word : Env := envOf TT [(35, con_spec_l1In)] []
theorem fr_spec_l1Word_0 : FrOk Try.prog ⟨E_spec_l1Word, 5, fun _ => none⟩ B_spec_l1Word := frOk_base mixed tt_ok ⟨ok_spec_l1In, trivial⟩
noncomputable def D_spec_l1Word_0 : Nat → Option Seg := fun _ => none
abbrev I_spec_l1Word : List Par := [.rd tI]
abbrev U_spec_l1Word : List OT := [⟨false, tB, .fz⟩]
noncomputable def raw_spec_l1Word (a0 : Int) : Option (ResD U_spec_l1Word × MutD I_spec_l1Word) :=
  let r1 := n_spec_l1In a0 0 65535
  some ((r1, ()), ())
theorem e_spec_l1Word (x : InD I_spec_l1Word) : execF ⟨E_spec_l1Word, 5, D_spec_l1Word_0⟩ Try.f129.results.toList B_spec_l1Word I_spec_l1Word U_spec_l1Word x = raw_spec_l1Word x.1 := by kernel_rfl
theorem ok0_spec_l1Word : ConOk Try.prog 129 ⟨I_spec_l1Word, U_spec_l1Word, fun x => raw_spec_l1Word x.1⟩ := conOk_exec (fr_spec_l1Word_0) Try.func129 (by kernel_rfl) (by kernel_rfl) Try.ntmps129.symm (by decide) (fun x r h => (e_spec_l1Word x).trans h)
noncomputable def n_spec_l1Word (a0 : Int) : Bool :=
  let r1 := n_spec_l1In a0 0 65535
  r1
noncomputable def con_spec_l1Word : Con := ⟨I_spec_l1Word, U_spec_l1Word, fun x => (fun n => some ((n, ()), ())) (n_spec_l1Word x.1)⟩
theorem nn_spec_l1Word (a0 : Int) : raw_spec_l1Word a0 = (fun n => some ((n, ()), ())) (n_spec_l1Word a0) := bif_ty (p := fun (n : Bool) => ((n, ()), ())) rfl
theorem ok_spec_l1Word : ConOk Try.prog 129 con_spec_l1Word := (ok0_spec_l1Word).mono (fun x r _ h => (nn_spec_l1Word x.1).trans h)
end

/-! spec_l1Words -/
section
noncomputable def B_spec_l1Words : Code := (Try.f106.body).getD .skip
noncomputable def E_spec_l1Words : Env := envOf TT [(129, con_spec_l1Word)] []
theorem fr_spec_l1Words_0 : FrOk Try.prog ⟨E_spec_l1Words, 16, fun _ => none⟩ B_spec_l1Words := frOk_base mixed tt_ok ⟨ok_spec_l1Word, trivial⟩
noncomputable def D_spec_l1Words_0 : Nat → Option Seg := fun _ => none
def L_spec_l1Words_13 : Shape := ⟨[(0, false, [.br tI]), (3, false, [.int .i64])], [], []⟩
def S_spec_l1Words_13 : Shape := ⟨[(0, false, [.br tI]), (3, false, [.ci .i64 0])], [], []⟩
def O_spec_l1Words_13 : Shape := ⟨[], [], []⟩
def Z_spec_l1Words_13 : Shape := ⟨[(2, false, [.bool])], [], []⟩
noncomputable def st_spec_l1Words_13 (v0 : List Int) (v1 : Int) : Option ((L_spec_l1Words_13).X ⊕ ((O_spec_l1Words_13).X ⊕ (Z_spec_l1Words_13).X)) :=
  bif (ltb v1 (v0.length : Int)) then
    bif (inb v1 v0.length) then
      let r2 := n_spec_l1Word (nth v0 v1 0)
      bif (!r2) then
        some (.inr (.inr (((false, ()), ()), (), ())))
      else
        some (.inl (((v0, ()), ((IntKind.i64.wrap (v1 + 1)), ()), ()), (), ()))
    else none
  else
    some (.inr (.inl ((), (), ())))
noncomputable def stx_spec_l1Words_13 (x : (L_spec_l1Words_13).X) := st_spec_l1Words_13 x.1.1.1 x.1.2.1.1
def em_spec_l1Words_13 (x : (S_spec_l1Words_13).X) : (L_spec_l1Words_13).X := (((x.1.1.1, ()), (0, ()), ()), (), ())
noncomputable def c_spec_l1Words_13 : Code := (subN B_spec_l1Words 64 52).getD .skip
theorem a_spec_l1Words_13 : subN B_spec_l1Words 64 13 = some (.block 0 (.loop c_spec_l1Words_13)) := by kernel_rfl
theorem r_spec_l1Words_13 (x : (L_spec_l1Words_13).X) : roundT ⟨E_spec_l1Words, 16, D_spec_l1Words_0⟩ 0 c_spec_l1Words_13 52 L_spec_l1Words_13 O_spec_l1Words_13 Z_spec_l1Words_13 x = stx_spec_l1Words_13 x := by kernel_rfl
noncomputable def fu_spec_l1Words_13 (x : (S_spec_l1Words_13).X) : Nat := (fun (u0 : List Int) => 18446744073709551616) x.1.1.1
noncomputable def F_spec_l1Words_13 (x : (S_spec_l1Words_13).X) : Option ((O_spec_l1Words_13).X ⊕ (Z_spec_l1Words_13).X) := loopN stx_spec_l1Words_13 (fu_spec_l1Words_13 x) (em_spec_l1Words_13 x)
noncomputable def sg_spec_l1Words_13 : Seg := ⟨S_spec_l1Words_13, O_spec_l1Words_13, Z_spec_l1Words_13, F_spec_l1Words_13⟩
noncomputable def D_spec_l1Words_1 : Nat → Option Seg := fun q => bif Nat.beq q 13 then some sg_spec_l1Words_13 else D_spec_l1Words_0 q
theorem fr_spec_l1Words_1 : FrOk Try.prog ⟨E_spec_l1Words, 16, D_spec_l1Words_1⟩ B_spec_l1Words := (fr_spec_l1Words_0).loop (sg := sg_spec_l1Words_13) L_spec_l1Words_13 em_spec_l1Words_13 (by decide) a_spec_l1Words_13 stx_spec_l1Words_13 fu_spec_l1Words_13 (by decide) (fun _ => rfl) (fun x r _ h => h) r_spec_l1Words_13
abbrev I_spec_l1Words : List Par := [.rd tL]
abbrev U_spec_l1Words : List OT := [⟨false, tB, .fz⟩]
noncomputable def raw_spec_l1Words (a0 : List Int) : Option (ResD U_spec_l1Words × MutD I_spec_l1Words) :=
  segM (F_spec_l1Words_13 (((a0, ()), ((), ()), ()), (), ())) (fun y2 =>
    some ((true, ()), ())) (fun y2 =>
    some ((y2.1.1.1, ()), ()))
theorem e_spec_l1Words (x : InD I_spec_l1Words) : execF ⟨E_spec_l1Words, 16, D_spec_l1Words_1⟩ Try.f106.results.toList B_spec_l1Words I_spec_l1Words U_spec_l1Words x = raw_spec_l1Words x.1 := by kernel_rfl
theorem ok0_spec_l1Words : ConOk Try.prog 106 ⟨I_spec_l1Words, U_spec_l1Words, fun x => raw_spec_l1Words x.1⟩ := conOk_exec (fr_spec_l1Words_1) Try.func106 (by kernel_rfl) (by kernel_rfl) Try.ntmps106.symm (by decide) (fun x r h => (e_spec_l1Words x).trans h)
noncomputable def n_spec_l1Words (a0 : List Int) : Bool := a0.all n_spec_l1Word
theorem nn_spec_l1Words (a0 : List Int) (hk : InOk I_spec_l1Words (a0, ())) : raw_spec_l1Words a0 = (fun n => some ((n, ()), ())) (n_spec_l1Words a0) := by
  have hb : a0.length * 8 ≤ 2 ^ 47 := hk.1.1
  have hl : F_spec_l1Words_13 (((a0, ()), ((), ()), ()), (), ()) = some (bif a0.all n_spec_l1Word then .inl ((), (), ()) else .inr (((false, ()), ()), (), ())) :=
    loopN_list_all (step := stx_spec_l1Words_13) a0 0 (fun i => (((a0, ()), ((i : Int), ()), ()), (), ())) n_spec_l1Word _ _ (fun i hi => by
      simp only [stx_spec_l1Words_13, st_spec_l1Words_13, inb_nat hi, nth_nat, ltb_t (show (i : Int) < a0.length by omega), cond_true, wr (show -9223372036854775808 ≤ (i : Int) + 1 by omega) (by omega), Int.natCast_add, Int.natCast_one]
      cases n_spec_l1Word (a0.getD i 0) <;> rfl) (by simp only [stx_spec_l1Words_13, st_spec_l1Words_13, ltb_f (Int.le_refl _), cond_false]) _ (by show _ < 18446744073709551616; omega)
  unfold raw_spec_l1Words n_spec_l1Words
  rw [hl]
  cases a0.all n_spec_l1Word <;> rfl
noncomputable def con_spec_l1Words : Con := ⟨I_spec_l1Words, U_spec_l1Words, fun x => (fun n => some ((n, ()), ())) (n_spec_l1Words x.1)⟩
theorem ok_spec_l1Words : ConOk Try.prog 106 con_spec_l1Words := (ok0_spec_l1Words).mono (fun x r hk h => (nn_spec_l1Words x.1 hk).trans h)
end
end Go.Tf
