/- Functions of the program, and what they come to. -/
import Derived.Test.YtfpfaanblbakkaaExactDoCmdF3
namespace Go.Tf
open Go.Proofs
set_option synthInstance.maxHeartbeats 400000
set_option synthInstance.maxSize 10000
set_option linter.unusedVariables false
set_option linter.unusedSimpArgs false
set_option maxRecDepth 100000
/-! spec_l14Do -/
section
noncomputable def B_spec_l14Do : Code := (Try.f73.body).getD .skip
noncomputable def E_spec_l14Do : Env := envOf TT [] []
theorem fr_spec_l14Do_0 : FrOk Try.prog ⟨E_spec_l14Do, 85, fun _ => none⟩ B_spec_l14Do := frOk_base mixed tt_ok trivial
noncomputable def D_spec_l14Do_0 : Nat → Option Seg := fun _ => none
def L_spec_l14Do_1885 : Shape := ⟨[(0, false, [.at 1000001000]), (3, false, [.ptr 0 0]), (4, false, [.ptr 64 0]), (5, false, [.ptr 4288 0]), (6, false, [.int .i64])], [(0, [.int .i64, .int .i64, .int .i64, .int .i64, .br tI]), (64, [.int .i64, .int .i64, .nil]), (4288, [.int .i64, .int .i64, .nil])], [(1000001000, tI, .fz)]⟩
def S_spec_l14Do_1885 : Shape := ⟨[(0, false, [.at 1000001000]), (3, false, [.ptr 0 0]), (4, false, [.ptr 64 0]), (5, false, [.ptr 4288 0]), (6, false, [.ci .i64 0])], [(0, [.int .i64, .int .i64, .int .i64, .int .i64, .br tI]), (64, [.int .i64, .int .i64, .nil]), (4288, [.int .i64, .int .i64, .nil])], [(1000001000, tI, .fz)]⟩
def O_spec_l14Do_1885 : Shape := ⟨[(4, false, [.ptr 64 0]), (5, false, [.ptr 4288 0])], [(64, [.int .i64, .int .i64, .nil]), (4288, [.int .i64, .int .i64, .nil])], [(1000001000, tI, .fz)]⟩
def Z_spec_l14Do_1885 : Shape := ⟨[], [], []⟩
noncomputable def st_spec_l14Do_1885 (v0 : Int) (v1 : Int) (v2 : Int) (v3 : Int) (v4 : Int) (v5 : List Int) (v6 : Int) (v7 : Int) (v8 : Int) (v9 : Int) (v10 : List Int) : Option ((L_spec_l14Do_1885).X ⊕ ((O_spec_l14Do_1885).X ⊕ (Z_spec_l14Do_1885).X)) :=
  bif (ltb v0 (v5.length : Int)) then
    bif (inb v0 v5.length) then
      bif (inb (IntKind.i64.wrap (v3 + v0)) v10.length) then
        some (.inl ((((), ()), ((), ()), ((), ()), ((), ()), ((IntKind.i64.wrap (v0 + 1)), ()), ()), ((v1, v2, v3, v4, v5, ()), (v6, v7, (), ()), (v8, v9, (), ()), ()), ((v10.set ((IntKind.i64.wrap (v3 + v0))).toNat (nth v5 v0 0)), ())))
      else none
    else none
  else
    some (.inr (.inl ((((), ()), ((), ()), ()), ((v6, v7, (), ()), (v8, v9, (), ()), ()), (v10, ()))))
noncomputable def stx_spec_l14Do_1885 (x : (L_spec_l14Do_1885).X) := st_spec_l14Do_1885 x.1.2.2.2.2.1.1 x.2.1.1.1 x.2.1.1.2.1 x.2.1.1.2.2.1 x.2.1.1.2.2.2.1 x.2.1.1.2.2.2.2.1 x.2.1.2.1.1 x.2.1.2.1.2.1 x.2.1.2.2.1.1 x.2.1.2.2.1.2.1 x.2.2.1
def em_spec_l14Do_1885 (x : (S_spec_l14Do_1885).X) : (L_spec_l14Do_1885).X := ((((), ()), ((), ()), ((), ()), ((), ()), (0, ()), ()), ((x.2.1.1.1, x.2.1.1.2.1, x.2.1.1.2.2.1, x.2.1.1.2.2.2.1, x.2.1.1.2.2.2.2.1, ()), (x.2.1.2.1.1, x.2.1.2.1.2.1, (), ()), (x.2.1.2.2.1.1, x.2.1.2.2.1.2.1, (), ()), ()), (x.2.2.1, ()))
noncomputable def c_spec_l14Do_1885 : Code := (subN B_spec_l14Do 64 7540).getD .skip
theorem a_spec_l14Do_1885 : subN B_spec_l14Do 64 1885 = some (.block 1 (.loop c_spec_l14Do_1885)) := by kernel_rfl
theorem r_spec_l14Do_1885 (x : (L_spec_l14Do_1885).X) : roundT ⟨E_spec_l14Do, 85, D_spec_l14Do_0⟩ 1 c_spec_l14Do_1885 7540 L_spec_l14Do_1885 O_spec_l14Do_1885 Z_spec_l14Do_1885 x = stx_spec_l14Do_1885 x := by kernel_rfl
noncomputable def fu_spec_l14Do_1885 (x : (S_spec_l14Do_1885).X) : Nat := (fun (u0 : Int) (u1 : Int) (u2 : Int) (u3 : Int) (u4 : List Int) (u5 : Int) (u6 : Int) (u7 : Int) (u8 : Int) (u9 : List Int) => 18446744073709551616) x.2.1.1.1 x.2.1.1.2.1 x.2.1.1.2.2.1 x.2.1.1.2.2.2.1 x.2.1.1.2.2.2.2.1 x.2.1.2.1.1 x.2.1.2.1.2.1 x.2.1.2.2.1.1 x.2.1.2.2.1.2.1 x.2.2.1
noncomputable def F_spec_l14Do_1885 (x : (S_spec_l14Do_1885).X) : Option ((O_spec_l14Do_1885).X ⊕ (Z_spec_l14Do_1885).X) := loopN stx_spec_l14Do_1885 (fu_spec_l14Do_1885 x) (em_spec_l14Do_1885 x)
noncomputable def sg_spec_l14Do_1885 : Seg := ⟨S_spec_l14Do_1885, O_spec_l14Do_1885, Z_spec_l14Do_1885, F_spec_l14Do_1885⟩
noncomputable def D_spec_l14Do_1 : Nat → Option Seg := fun q => bif Nat.beq q 1885 then some sg_spec_l14Do_1885 else D_spec_l14Do_0 q
theorem fr_spec_l14Do_1 : FrOk Try.prog ⟨E_spec_l14Do, 85, D_spec_l14Do_1⟩ B_spec_l14Do := (fr_spec_l14Do_0).loop (sg := sg_spec_l14Do_1885) L_spec_l14Do_1885 em_spec_l14Do_1885 (by decide) a_spec_l14Do_1885 stx_spec_l14Do_1885 fu_spec_l14Do_1885 (by decide) (fun _ => rfl) (fun x r _ h => h) r_spec_l14Do_1885
def L_spec_l14Do_7549 : Shape := ⟨[(0, false, [.at 1000001000]), (3, false, [.ptr 0 0]), (4, false, [.ptr 64 0]), (5, false, [.ptr 4288 0]), (7, false, [.int .i64])], [(0, [.int .i64, .int .i64, .int .i64, .int .i64, .br tI]), (64, [.int .i64, .int .i64, .nil]), (4288, [.int .i64, .int .i64, .nil])], [(1000001000, tI, .fz)]⟩
def S_spec_l14Do_7549 : Shape := ⟨[(0, false, [.at 1000001000]), (3, false, [.ptr 0 0]), (4, false, [.ptr 64 0]), (5, false, [.ptr 4288 0]), (7, false, [.ci .i64 0])], [(0, [.int .i64, .int .i64, .int .i64, .int .i64, .br tI]), (64, [.int .i64, .int .i64, .nil]), (4288, [.int .i64, .int .i64, .nil])], [(1000001000, tI, .fz)]⟩
def O_spec_l14Do_7549 : Shape := ⟨[(4, false, [.ptr 64 0]), (5, false, [.ptr 4288 0])], [(64, [.int .i64, .int .i64, .nil]), (4288, [.int .i64, .int .i64, .nil])], [(1000001000, tI, .fz)]⟩
def Z_spec_l14Do_7549 : Shape := ⟨[], [], []⟩
noncomputable def st_spec_l14Do_7549 (v0 : Int) (v1 : Int) (v2 : Int) (v3 : Int) (v4 : Int) (v5 : List Int) (v6 : Int) (v7 : Int) (v8 : Int) (v9 : Int) (v10 : List Int) : Option ((L_spec_l14Do_7549).X ⊕ ((O_spec_l14Do_7549).X ⊕ (Z_spec_l14Do_7549).X)) :=
  bif (ltb v0 v4) then
    bif (inb (IntKind.i64.wrap (v3 + v0)) v10.length) then
      some (.inl ((((), ()), ((), ()), ((), ()), ((), ()), ((IntKind.i64.wrap (v0 + 1)), ()), ()), ((v1, v2, v3, v4, v5, ()), (v6, v7, (), ()), (v8, v9, (), ()), ()), ((v10.set ((IntKind.i64.wrap (v3 + v0))).toNat 0), ())))
    else none
  else
    some (.inr (.inl ((((), ()), ((), ()), ()), ((v6, v7, (), ()), (v8, v9, (), ()), ()), (v10, ()))))
noncomputable def stx_spec_l14Do_7549 (x : (L_spec_l14Do_7549).X) := st_spec_l14Do_7549 x.1.2.2.2.2.1.1 x.2.1.1.1 x.2.1.1.2.1 x.2.1.1.2.2.1 x.2.1.1.2.2.2.1 x.2.1.1.2.2.2.2.1 x.2.1.2.1.1 x.2.1.2.1.2.1 x.2.1.2.2.1.1 x.2.1.2.2.1.2.1 x.2.2.1
def em_spec_l14Do_7549 (x : (S_spec_l14Do_7549).X) : (L_spec_l14Do_7549).X := ((((), ()), ((), ()), ((), ()), ((), ()), (0, ()), ()), ((x.2.1.1.1, x.2.1.1.2.1, x.2.1.1.2.2.1, x.2.1.1.2.2.2.1, x.2.1.1.2.2.2.2.1, ()), (x.2.1.2.1.1, x.2.1.2.1.2.1, (), ()), (x.2.1.2.2.1.1, x.2.1.2.2.1.2.1, (), ()), ()), (x.2.2.1, ()))
noncomputable def c_spec_l14Do_7549 : Code := (subN B_spec_l14Do 64 30196).getD .skip
theorem a_spec_l14Do_7549 : subN B_spec_l14Do 64 7549 = some (.block 3 (.loop c_spec_l14Do_7549)) := by kernel_rfl
theorem r_spec_l14Do_7549 (x : (L_spec_l14Do_7549).X) : roundT ⟨E_spec_l14Do, 85, D_spec_l14Do_1⟩ 3 c_spec_l14Do_7549 30196 L_spec_l14Do_7549 O_spec_l14Do_7549 Z_spec_l14Do_7549 x = stx_spec_l14Do_7549 x := by kernel_rfl
noncomputable def fu_spec_l14Do_7549 (x : (S_spec_l14Do_7549).X) : Nat := (fun (u0 : Int) (u1 : Int) (u2 : Int) (u3 : Int) (u4 : List Int) (u5 : Int) (u6 : Int) (u7 : Int) (u8 : Int) (u9 : List Int) => 18446744073709551616) x.2.1.1.1 x.2.1.1.2.1 x.2.1.1.2.2.1 x.2.1.1.2.2.2.1 x.2.1.1.2.2.2.2.1 x.2.1.2.1.1 x.2.1.2.1.2.1 x.2.1.2.2.1.1 x.2.1.2.2.1.2.1 x.2.2.1
noncomputable def F_spec_l14Do_7549 (x : (S_spec_l14Do_7549).X) : Option ((O_spec_l14Do_7549).X ⊕ (Z_spec_l14Do_7549).X) := loopN stx_spec_l14Do_7549 (fu_spec_l14Do_7549 x) (em_spec_l14Do_7549 x)
noncomputable def sg_spec_l14Do_7549 : Seg := ⟨S_spec_l14Do_7549, O_spec_l14Do_7549, Z_spec_l14Do_7549, F_spec_l14Do_7549⟩
noncomputable def D_spec_l14Do_2 : Nat → Option Seg := fun q => bif Nat.beq q 7549 then some sg_spec_l14Do_7549 else D_spec_l14Do_1 q
theorem fr_spec_l14Do_2 : FrOk Try.prog ⟨E_spec_l14Do, 85, D_spec_l14Do_2⟩ B_spec_l14Do := (fr_spec_l14Do_1).loop (sg := sg_spec_l14Do_7549) L_spec_l14Do_7549 em_spec_l14Do_7549 (by decide) a_spec_l14Do_7549 stx_spec_l14Do_7549 fu_spec_l14Do_7549 (by decide) (fun _ => rfl) (fun x r _ h => h) r_spec_l14Do_7549
abbrev I_spec_l14Do : List Par := [.mt tL (.ow .fz), .rd tC]
abbrev U_spec_l14Do : List OT := [⟨false, tN, (.pr .fz (.pr .fz (.ow .fz)))⟩]
noncomputable def raw_spec_l14Do (a0 : List Int) (a1 : Int × Int × Int × Int × (List Int)) : Option (ResD U_spec_l14Do × MutD I_spec_l14Do) :=
  bif (a1.1 == 1) then
    bif (cutok a1.2.2.1 (IntKind.i64.wrap (a1.2.2.1 + a1.2.2.2.1)) a0.length) then
      bif (apok ([] : List Int).length ((a0.drop (a1.2.2.1).toNat).take ((IntKind.i64.wrap (a1.2.2.1 + a1.2.2.2.1)) - a1.2.2.1).toNat).length 8) then
        some (((a1.2.1, 0, (([] : List Int) ++ ((a0.drop (a1.2.2.1).toNat).take ((IntKind.i64.wrap (a1.2.2.1 + a1.2.2.2.1)) - a1.2.2.1).toNat))), ()), (a0, ()))
      else none
    else none
  else
    bif (a1.1 == 2) then
      bif (a1.1 == 2) then
        segM (F_spec_l14Do_1885 ((((), ()), ((), ()), ((), ()), ((), ()), ((), ()), ()), ((a1.1, a1.2.1, a1.2.2.1, a1.2.2.2.1, a1.2.2.2.2, ()), (0, 0, (), ()), (a1.2.1, 0, (), ()), ()), (a0, ()))) (fun y0 =>
          some (((y0.2.1.2.1.1, y0.2.1.2.1.2.1, []), ()), (y0.2.2.1, ()))) (fun y0 =>
          none)
      else
        bif (a1.1 == 6) then
          segM (F_spec_l14Do_7549 ((((), ()), ((), ()), ((), ()), ((), ()), ((), ()), ()), ((a1.1, a1.2.1, a1.2.2.1, a1.2.2.2.1, a1.2.2.2.2, ()), (0, 0, (), ()), (a1.2.1, 0, (), ()), ()), (a0, ()))) (fun y1 =>
            some (((y1.2.1.2.1.1, y1.2.1.2.1.2.1, []), ()), (y1.2.2.1, ()))) (fun y1 =>
            none)
        else
          bif (a1.1 == 5) then
            bif (inb a1.2.2.1 a0.length) then
              bif (inb 0 a1.2.2.2.2.length) then
                bif ((nth a0 a1.2.2.1 0) != (nth a1.2.2.2.2 0 0)) then
                  some (((a1.2.1, 4, []), ()), (a0, ()))
                else
                  bif (inb 1 a1.2.2.2.2.length) then
                    bif (inb a1.2.2.1 a0.length) then
                      some (((a1.2.1, 0, []), ()), ((a0.set (a1.2.2.1).toNat (nth a1.2.2.2.2 1 0)), ()))
                    else none
                  else none
              else none
            else none
          else
            some (((a1.2.1, 0, []), ()), (a0, ()))
    else
      bif (a1.1 == 3) then
        segM (F_spec_l14Do_1885 ((((), ()), ((), ()), ((), ()), ((), ()), ((), ()), ()), ((a1.1, a1.2.1, a1.2.2.1, a1.2.2.2.1, a1.2.2.2.2, ()), (0, 0, (), ()), (a1.2.1, 0, (), ()), ()), (a0, ()))) (fun y2 =>
          some (((y2.2.1.2.1.1, y2.2.1.2.1.2.1, []), ()), (y2.2.2.1, ()))) (fun y2 =>
          none)
      else
        bif (a1.1 == 6) then
          segM (F_spec_l14Do_7549 ((((), ()), ((), ()), ((), ()), ((), ()), ((), ()), ()), ((a1.1, a1.2.1, a1.2.2.1, a1.2.2.2.1, a1.2.2.2.2, ()), (0, 0, (), ()), (a1.2.1, 0, (), ()), ()), (a0, ()))) (fun y3 =>
            some (((y3.2.1.2.1.1, y3.2.1.2.1.2.1, []), ()), (y3.2.2.1, ()))) (fun y3 =>
            none)
        else
          bif (a1.1 == 5) then
            bif (inb a1.2.2.1 a0.length) then
              bif (inb 0 a1.2.2.2.2.length) then
                bif ((nth a0 a1.2.2.1 0) != (nth a1.2.2.2.2 0 0)) then
                  some (((a1.2.1, 4, []), ()), (a0, ()))
                else
                  bif (inb 1 a1.2.2.2.2.length) then
                    bif (inb a1.2.2.1 a0.length) then
                      some (((a1.2.1, 0, []), ()), ((a0.set (a1.2.2.1).toNat (nth a1.2.2.2.2 1 0)), ()))
                    else none
                  else none
              else none
            else none
          else
            some (((a1.2.1, 0, []), ()), (a0, ()))
theorem e_spec_l14Do (x : InD I_spec_l14Do) : execF ⟨E_spec_l14Do, 85, D_spec_l14Do_2⟩ Try.f73.results.toList B_spec_l14Do I_spec_l14Do U_spec_l14Do x = raw_spec_l14Do x.1 x.2.1 := by kernel_rfl
theorem ok0_spec_l14Do : ConOk Try.prog 73 ⟨I_spec_l14Do, U_spec_l14Do, fun x => raw_spec_l14Do x.1 x.2.1⟩ := conOk_exec (fr_spec_l14Do_2) Try.func73 (by kernel_rfl) (by kernel_rfl) Try.ntmps73.symm (by decide) (fun x r h => (e_spec_l14Do x).trans h)
noncomputable def con_spec_l14Do : Con := ⟨I_spec_l14Do, U_spec_l14Do, fun x => raw_spec_l14Do x.1 x.2.1⟩
theorem ok_spec_l14Do : ConOk Try.prog 73 con_spec_l14Do := ok0_spec_l14Do
end

/-! spec_DoCmd -/
section
noncomputable def B_spec_DoCmd : Code := (Try.f21.body).getD .skip
noncomputable def E_spec_DoCmd : Env := envOf TT [(67, con_spec_CmdCode), (68, con_spec_Blocks), (73, con_spec_l14Do)] []
theorem fr_spec_DoCmd_0 : FrOk Try.prog ⟨E_spec_DoCmd, 34, fun _ => none⟩ B_spec_DoCmd := frOk_base mixed tt_ok ⟨ok_spec_CmdCode, ok_spec_Blocks, ok_spec_l14Do, trivial⟩
noncomputable def D_spec_DoCmd_0 : Nat → Option Seg := fun _ => none
abbrev I_spec_DoCmd : List Par := [.rd tG, .rd tL, .rd tC]
abbrev U_spec_DoCmd : List OT := [⟨false, tL, (.ow .fz)⟩, ⟨false, tN, (.pr .fz (.pr .fz (.ow .fz)))⟩]
noncomputable def raw_spec_DoCmd (a0 : Int × Int) (a1 : List Int) (a2 : Int × Int × Int × Int × (List Int)) : Option (ResD U_spec_DoCmd × MutD I_spec_DoCmd) :=
  bif (apok ([] : List Int).length a1.length 8) then
    let r1 := n_spec_CmdCode a0 a2
    let r2 := n_spec_Blocks a0
    bif ((a1.length : Int) != r2) then
      some (((([] : List Int) ++ a1), (a2.2.1, 1, []), ()), ())
    else
      bif (r1 != 0) then
        some (((([] : List Int) ++ a1), (a2.2.1, r1, []), ()), ())
      else
        bnd (raw_spec_l14Do (([] : List Int) ++ a1) a2) fun r3 =>
        some ((r3.2.1, r3.1.1, ()), ())
  else none
theorem e_spec_DoCmd (x : InD I_spec_DoCmd) : execF ⟨E_spec_DoCmd, 34, D_spec_DoCmd_0⟩ Try.f21.results.toList B_spec_DoCmd I_spec_DoCmd U_spec_DoCmd x = raw_spec_DoCmd x.1 x.2.1 x.2.2.1 := by kernel_rfl
theorem ok0_spec_DoCmd : ConOk Try.prog 21 ⟨I_spec_DoCmd, U_spec_DoCmd, fun x => raw_spec_DoCmd x.1 x.2.1 x.2.2.1⟩ := conOk_exec (fr_spec_DoCmd_0) Try.func21 (by kernel_rfl) (by kernel_rfl) Try.ntmps21.symm (by decide) (fun x r h => (e_spec_DoCmd x).trans h)
theorem do_write (op id lba n x1 x2 y1 : Int) (v l : List Int) (h0 : 0 ≤ lba) (hv : v.length ≤ 6) (hl : lba + v.length ≤ l.length) (hb : l.length ≤ 1000) :
    F_spec_l14Do_1885 ((((), ()), ((), ()), ((), ()), ((), ()), ((), ()), ()), ((op, id, lba, n, v, ()), (x1, x2, (), ()), (y1, 0, (), ()), ()), (l, ())) = some (.inl ((((), ()), ((), ()), ()), ((x1, x2, (), ()), (y1, 0, (), ()), ()), (patch l lba.toNat v, ()))) := by
  have h := loopN_up (step := stx_spec_l14Do_1885) (fun i => ((((), ()), ((), ()), ((), ()), ((), ()), ((i : Int), ()), ()), ((op, id, lba, n, v, ()), (x1, x2, (), ()), (y1, 0, (), ()), ()), (patch l lba.toNat (v.take i), ()))) v.length (.inl ((((), ()), ((), ()), ()), ((x1, x2, (), ()), (y1, 0, (), ()), ()), (patch l lba.toNat (v.take v.length), ()))) (fun i hi => by
    have hp : (patch l lba.toNat (v.take i)).length = l.length := patch_len (by rw [List.length_take]; omega)
    simp only [stx_spec_l14Do_1885, st_spec_l14Do_1885, ltb_t (show (i : Int) < v.length by omega), inb_nat hi, nth_nat, hp, wr (show -9223372036854775808 ≤ lba + (i : Int) by omega) (by omega), inb_iff.2 (show 0 ≤ lba + (i : Int) ∧ lba + (i : Int) < l.length by omega), cond_true,
      wr (show -9223372036854775808 ≤ (i : Int) + 1 by omega) (by omega), Int.natCast_add, Int.natCast_one]
    have hi2 : (v.take i).length = i := by rw [List.length_take]; omega
    have := patch_snoc (l := l) (lo := lba.toNat) (m := v.take i) (x := v.getD i 0) (by omega)
    rw [hi2] at this
    rw [show (lba + (i : Int)).toNat = lba.toNat + i by omega, this, getD_get hi, List.take_append_getElem hi]) (by
    simp only [stx_spec_l14Do_1885, st_spec_l14Do_1885, ltb_f (Int.le_refl _), cond_false]) 18446744073709551616 (by omega)
  rw [List.take_length] at h
  have h0' : patch l lba.toNat (v.take 0) = l := by unfold patch; simp
  simp only [h0'] at h
  exact h
theorem do_zero (op id lba n x1 x2 y1 : Int) (v l : List Int) (h0 : 0 ≤ lba) (hn : 0 ≤ n) (hv : n ≤ 6) (hl : lba + n ≤ l.length) (hb : l.length ≤ 1000) :
    F_spec_l14Do_7549 ((((), ()), ((), ()), ((), ()), ((), ()), ((), ()), ()), ((op, id, lba, n, v, ()), (x1, x2, (), ()), (y1, 0, (), ()), ()), (l, ())) = some (.inl ((((), ()), ((), ()), ()), ((x1, x2, (), ()), (y1, 0, (), ()), ()), (patch l lba.toNat (List.replicate n.toNat 0), ()))) := by
  have h := loopN_up (step := stx_spec_l14Do_7549) (fun i => ((((), ()), ((), ()), ((), ()), ((), ()), ((i : Int), ()), ()), ((op, id, lba, n, v, ()), (x1, x2, (), ()), (y1, 0, (), ()), ()), (patch l lba.toNat (List.replicate i 0), ()))) n.toNat (.inl ((((), ()), ((), ()), ()), ((x1, x2, (), ()), (y1, 0, (), ()), ()), (patch l lba.toNat (List.replicate n.toNat 0), ()))) (fun i hi => by
    have hp : (patch l lba.toNat (List.replicate i 0)).length = l.length := patch_len (by rw [List.length_replicate]; omega)
    simp only [stx_spec_l14Do_7549, st_spec_l14Do_7549, ltb_t (show (i : Int) < n by omega), hp, wr (show -9223372036854775808 ≤ lba + (i : Int) by omega) (by omega), inb_iff.2 (show 0 ≤ lba + (i : Int) ∧ lba + (i : Int) < l.length by omega), cond_true,
      wr (show -9223372036854775808 ≤ (i : Int) + 1 by omega) (by omega), Int.natCast_add, Int.natCast_one]
    have := patch_snoc (l := l) (lo := lba.toNat) (m := List.replicate i 0) (x := 0) (by rw [List.length_replicate]; omega)
    rw [List.length_replicate] at this
    rw [show (lba + (i : Int)).toNat = lba.toNat + i by omega, this, ← List.replicate_succ']) (by
    simp only [stx_spec_l14Do_7549, st_spec_l14Do_7549, ltb_f (show n ≤ (n.toNat : Int) by omega), cond_false]) 18446744073709551616 (by omega)
  have h0' : patch l lba.toNat (List.replicate 0 0) = l := by unfold patch; simp
  simp only [h0'] at h
  exact h
noncomputable def n_spec_DoCmd (a0 : dG) (a1 : List Int) (a2 : dC) : List Int × dN := pDo a0 a1 a2
theorem nn_spec_DoCmd (a0 : dG) (a1 : List Int) (a2 : dC) (hk : InOk I_spec_DoCmd (a0, a1, a2, ())) : raw_spec_DoCmd a0 a1 a2 = (fun n => some ((n.1, n.2, ()), ())) (n_spec_DoCmd a0 a1 a2) := by
  have hb : a1.length * 8 ≤ 2 ^ 47 := hk.2.1.1
  have hB := spec_Blocks_le a0
  unfold raw_spec_DoCmd n_spec_DoCmd pDo
  simp only [show apok ([] : List Int).length a1.length 8 = true from apok_iff.2 (by simp only [List.length_nil]; omega), cond_true, List.nil_append]
  by_cases h1 : (a1.length : Int) = n_spec_Blocks a0
  · by_cases h2 : n_spec_CmdCode a0 a2 = 0
    · rw [show ((a1.length : Int) != n_spec_Blocks a0) = false by simp [h1], show (n_spec_CmdCode a0 a2 != 0) = false by simp [h2]]
      obtain ⟨op, id, lba, n, v⟩ := a2
      simp only [cond_false]
      unfold raw_spec_l14Do
      rcases good_cmd h2 with rfl | ⟨p, ⟨rfl | rfl, q1, q2, q3⟩ | ⟨rfl | rfl, q1, q2, q3⟩ | ⟨rfl, q1, q3⟩⟩
      · rfl
      · have hw : IntKind.i64.wrap (lba + n) = lba + n := wr (by omega) (by omega)
        simp only [beq_self_eq_true, cond_true, hw, cutok_iff.2 (show 0 ≤ lba ∧ lba ≤ lba + n ∧ lba + n ≤ a1.length by omega), show (lba + n - lba).toNat = n.toNat by omega, List.nil_append,
          show apok ([] : List Int).length ((a1.drop lba.toNat).take n.toNat).length 8 = true from apok_iff.2 (by rw [List.length_nil, List.length_take]; omega)]
        rfl
      · show bnd (segM (F_spec_l14Do_7549 _) _ _) _ = _
        rw [do_zero 6 id lba n 0 0 id v a1 p (by omega) q2 (by omega) (by omega)]
        rfl
      · show bnd (segM (F_spec_l14Do_1885 _) _ _) _ = _
        rw [do_write 2 id lba n 0 0 id v a1 p q2 (by omega) (by omega)]
        rfl
      · show bnd (segM (F_spec_l14Do_1885 _) _ _) _ = _
        rw [do_write 3 id lba n 0 0 id v a1 p q2 (by omega) (by omega)]
        rfl
      · show bnd (bif inb lba a1.length then bif inb 0 v.length then bif nth a1 lba 0 != nth v 0 0 then _ else bif inb 1 v.length then bif inb lba a1.length then _ else _ else _ else _ else _) _ = _
        rw [inb_iff.2 (show 0 ≤ lba ∧ lba < a1.length by omega), inb_iff.2 (show (0 : Int) ≤ 0 ∧ (0 : Int) < v.length by omega), inb_iff.2 (show (0 : Int) ≤ 1 ∧ (1 : Int) < v.length by omega), bne]
        cases (nth a1 lba 0 == nth v 0 0) <;> rfl
    · rw [show ((a1.length : Int) != n_spec_Blocks a0) = false by simp [h1], show (n_spec_CmdCode a0 a2 != 0) = true from bne_iff_ne.2 h2]
      rfl
  · rw [show ((a1.length : Int) != n_spec_Blocks a0) = true from bne_iff_ne.2 h1]
    rfl
noncomputable def con_spec_DoCmd : Con := ⟨I_spec_DoCmd, U_spec_DoCmd, fun x => (fun n => some ((n.1, n.2, ()), ())) (n_spec_DoCmd x.1 x.2.1 x.2.2.1)⟩
theorem ok_spec_DoCmd : ConOk Try.prog 21 con_spec_DoCmd := (ok0_spec_DoCmd).mono (fun x r hk h => (nn_spec_DoCmd x.1 x.2.1 x.2.2.1 hk).trans h)
end

/-! impl_copyInts -/
section
noncomputable def B_impl_copyInts : Code := (Try.f74.body).getD .skip
noncomputable def E_impl_copyInts : Env := envOf TT [] []
theorem fr_impl_copyInts_0 : FrOk Try.prog ⟨E_impl_copyInts, 6, fun _ => none⟩ B_impl_copyInts := frOk_base mixed tt_ok trivial
noncomputable def D_impl_copyInts_0 : Nat → Option Seg := fun _ => none
abbrev I_impl_copyInts : List Par := [.rd tL]
abbrev U_impl_copyInts : List OT := [⟨false, tL, (.ow .fz)⟩]
noncomputable def raw_impl_copyInts (a0 : List Int) : Option (ResD U_impl_copyInts × MutD I_impl_copyInts) :=
  bif (apok ([] : List Int).length a0.length 8) then
    some (((([] : List Int) ++ a0), ()), ())
  else none
theorem e_impl_copyInts (x : InD I_impl_copyInts) : execF ⟨E_impl_copyInts, 6, D_impl_copyInts_0⟩ Try.f74.results.toList B_impl_copyInts I_impl_copyInts U_impl_copyInts x = raw_impl_copyInts x.1 := by kernel_rfl
theorem ok0_impl_copyInts : ConOk Try.prog 74 ⟨I_impl_copyInts, U_impl_copyInts, fun x => raw_impl_copyInts x.1⟩ := conOk_exec (fr_impl_copyInts_0) Try.func74 (by kernel_rfl) (by kernel_rfl) Try.ntmps74.symm (by decide) (fun x r h => (e_impl_copyInts x).trans h)
noncomputable def n_impl_copyInts (a0 : List Int) : List Int := a0
theorem nn_impl_copyInts (a0 : List Int) (hk : InOk I_impl_copyInts (a0, ())) : raw_impl_copyInts a0 = (fun n => some ((n, ()), ())) (n_impl_copyInts a0) := by
  have hb : a0.length * 8 ≤ 2 ^ 47 := hk.1.1
  unfold raw_impl_copyInts n_impl_copyInts
  rw [show apok ([] : List Int).length a0.length 8 = true by rw [apok_iff, List.length_nil]; omega]
  rfl
noncomputable def con_impl_copyInts : Con := ⟨I_impl_copyInts, U_impl_copyInts, fun x => (fun n => some ((n, ()), ())) (n_impl_copyInts x.1)⟩
theorem ok_impl_copyInts : ConOk Try.prog 74 con_impl_copyInts := (ok0_impl_copyInts).mono (fun x r hk h => (nn_impl_copyInts x.1 hk).trans h)
end

/-! impl_DoCmd -/
section
noncomputable def B_impl_DoCmd : Code := (Try.f23.body).getD .skip
noncomputable def E_impl_DoCmd : Env := envOf TT [(17, con_impl_SpanOf), (70, con_impl_CmdCode), (71, con_impl_Blocks), (74, con_impl_copyInts)] []
theorem fr_impl_DoCmd_0 : FrOk Try.prog ⟨E_impl_DoCmd, 84, fun _ => none⟩ B_impl_DoCmd := frOk_base mixed tt_ok ⟨ok_impl_SpanOf, ok_impl_CmdCode, ok_impl_Blocks, ok_impl_copyInts, trivial⟩
noncomputable def D_impl_DoCmd_0 : Nat → Option Seg := fun _ => none
abbrev I_impl_DoCmd : List Par := [.rd tG, .rd tL, .rd tC]
abbrev U_impl_DoCmd : List OT := [⟨false, tL, (.ow .fz)⟩, ⟨false, tN, (.pr .fz (.pr .fz (.ow .fz)))⟩]
noncomputable def raw_impl_DoCmd (a0 : Int × Int) (a1 : List Int) (a2 : Int × Int × Int × Int × (List Int)) : Option (ResD U_impl_DoCmd × MutD I_impl_DoCmd) :=
  let r1 := n_impl_copyInts a1
  let r2 := n_impl_CmdCode a0 a2
  let r3 := n_impl_Blocks a0
  bif ((a1.length : Int) != r3) then
    some ((r1, (a2.2.1, 1, []), ()), ())
  else
    bif (r2 != 0) then
      some ((r1, (a2.2.1, r2, []), ()), ())
    else
      let r4 := n_impl_SpanOf a0 a2
      bif (a2.1 == 1) then
        bif (cutok r4.1 r4.2 a1.length) then
          let r5 := n_impl_copyInts ((a1.drop (r4.1).toNat).take (r4.2 - r4.1).toNat)
          some ((r1, (a2.2.1, r2, r5), ()), ())
        else none
      else
        bif (a2.1 == 2) then
          bif (a2.1 == 2) then
            bif (cutok r4.1 r4.2 r1.length) then
              some (((r1.take (r4.1).toNat ++ (a2.2.2.2.2.take (r4.2 - r4.1).toNat) ++ r1.drop ((r4.1).toNat + (a2.2.2.2.2.take (r4.2 - r4.1).toNat).length)), (a2.2.1, r2, []), ()), ())
            else none
          else
            bif (a2.1 == 6) then
              bif (cutok r4.1 r4.2 r1.length) then
                some (((r1.take (r4.1).toNat ++ (List.replicate (r4.2 - r4.1).toNat (0 : Int)) ++ r1.drop ((r4.1).toNat + (List.replicate (r4.2 - r4.1).toNat (0 : Int)).length)), (a2.2.1, r2, []), ()), ())
              else none
            else
              bif (a2.1 == 5) then
                bif (inb r4.1 a1.length) then
                  bif (inb 0 a2.2.2.2.2.length) then
                    bif ((nth a1 r4.1 0) == (nth a2.2.2.2.2 0 0)) then
                      bif (inb 1 a2.2.2.2.2.length) then
                        bif (inb r4.1 r1.length) then
                          some (((r1.set (r4.1).toNat (nth a2.2.2.2.2 1 0)), (a2.2.1, r2, []), ()), ())
                        else none
                      else none
                    else
                      some ((r1, (a2.2.1, 4, []), ()), ())
                  else none
                else none
              else
                some ((r1, (a2.2.1, r2, []), ()), ())
        else
          bif (a2.1 == 3) then
            bif (cutok r4.1 r4.2 r1.length) then
              some (((r1.take (r4.1).toNat ++ (a2.2.2.2.2.take (r4.2 - r4.1).toNat) ++ r1.drop ((r4.1).toNat + (a2.2.2.2.2.take (r4.2 - r4.1).toNat).length)), (a2.2.1, r2, []), ()), ())
            else none
          else
            bif (a2.1 == 6) then
              bif (cutok r4.1 r4.2 r1.length) then
                some (((r1.take (r4.1).toNat ++ (List.replicate (r4.2 - r4.1).toNat (0 : Int)) ++ r1.drop ((r4.1).toNat + (List.replicate (r4.2 - r4.1).toNat (0 : Int)).length)), (a2.2.1, r2, []), ()), ())
              else none
            else
              bif (a2.1 == 5) then
                bif (inb r4.1 a1.length) then
                  bif (inb 0 a2.2.2.2.2.length) then
                    bif ((nth a1 r4.1 0) == (nth a2.2.2.2.2 0 0)) then
                      bif (inb 1 a2.2.2.2.2.length) then
                        bif (inb r4.1 r1.length) then
                          some (((r1.set (r4.1).toNat (nth a2.2.2.2.2 1 0)), (a2.2.1, r2, []), ()), ())
                        else none
                      else none
                    else
                      some ((r1, (a2.2.1, 4, []), ()), ())
                  else none
                else none
              else
                some ((r1, (a2.2.1, r2, []), ()), ())
theorem e_impl_DoCmd (x : InD I_impl_DoCmd) : execF ⟨E_impl_DoCmd, 84, D_impl_DoCmd_0⟩ Try.f23.results.toList B_impl_DoCmd I_impl_DoCmd U_impl_DoCmd x = raw_impl_DoCmd x.1 x.2.1 x.2.2.1 := by kernel_rfl
theorem ok0_impl_DoCmd : ConOk Try.prog 23 ⟨I_impl_DoCmd, U_impl_DoCmd, fun x => raw_impl_DoCmd x.1 x.2.1 x.2.2.1⟩ := conOk_exec (fr_impl_DoCmd_0) Try.func23 (by kernel_rfl) (by kernel_rfl) Try.ntmps23.symm (by decide) (fun x r h => (e_impl_DoCmd x).trans h)
noncomputable def n_impl_DoCmd (a0 : dG) (a1 : List Int) (a2 : dC) : List Int × dN := pDo a0 a1 a2
theorem nn_impl_DoCmd (a0 : dG) (a1 : List Int) (a2 : dC) (hk : InOk I_impl_DoCmd (a0, a1, a2, ())) : raw_impl_DoCmd a0 a1 a2 = (fun n => some ((n.1, n.2, ()), ())) (n_impl_DoCmd a0 a1 a2) := by
  have hB := spec_Blocks_le a0
  unfold raw_impl_DoCmd n_impl_DoCmd pDo
  simp only [code_eq, impl_Blocks_eq, n_impl_copyInts]
  by_cases h1 : (a1.length : Int) = n_spec_Blocks a0
  · by_cases h2 : n_spec_CmdCode a0 a2 = 0
    · rw [show ((a1.length : Int) != n_spec_Blocks a0) = false by simp [h1], show (n_spec_CmdCode a0 a2 != 0) = false by simp [h2]]
      obtain ⟨op, id, lba, n, v⟩ := a2
      simp only [cond_false, h2]
      rcases good_cmd h2 with rfl | ⟨p, ⟨rfl | rfl, q1, q2, q3⟩ | ⟨rfl | rfl, q1, q2, q3⟩ | ⟨rfl, q1, q3⟩⟩
      · rfl
      · rw [span_good h2 (by decide)]
        show (bif cutok lba (lba + n) a1.length then some ((a1, (id, 0, (a1.drop lba.toNat).take (lba + n - lba).toNat), ()), ()) else none) = _
        rw [cutok_iff.2 (show 0 ≤ lba ∧ lba ≤ lba + n ∧ lba + n ≤ a1.length by omega), show (lba + n - lba).toNat = n.toNat by omega]
        rfl
      · rw [span_good h2 (by decide)]
        show (bif cutok lba (lba + n) a1.length then some ((patch a1 lba.toNat (List.replicate (lba + n - lba).toNat 0), (id, 0, []), ()), ()) else none) = _
        rw [cutok_iff.2 (show 0 ≤ lba ∧ lba ≤ lba + n ∧ lba + n ≤ a1.length by omega), show (lba + n - lba).toNat = n.toNat by omega]
        rfl
      · rw [span_good h2 (by decide)]
        show (bif cutok lba (lba + v.length) a1.length then some ((patch a1 lba.toNat (v.take (lba + v.length - lba).toNat), (id, 0, []), ()), ()) else none) = _
        rw [cutok_iff.2 (show 0 ≤ lba ∧ lba ≤ lba + v.length ∧ lba + v.length ≤ a1.length by omega), show (lba + (v.length : Int) - lba).toNat = v.length by omega, List.take_length]
        rfl
      · rw [span_good h2 (by decide)]
        show (bif cutok lba (lba + v.length) a1.length then some ((patch a1 lba.toNat (v.take (lba + v.length - lba).toNat), (id, 0, []), ()), ()) else none) = _
        rw [cutok_iff.2 (show 0 ≤ lba ∧ lba ≤ lba + v.length ∧ lba + v.length ≤ a1.length by omega), show (lba + (v.length : Int) - lba).toNat = v.length by omega, List.take_length]
        rfl
      · rw [span_good h2 (by decide)]
        show (bif inb lba a1.length then bif inb 0 v.length then bif nth a1 lba 0 == nth v 0 0 then bif inb 1 v.length then bif inb lba a1.length then some ((a1.set lba.toNat (nth v 1 0), (id, 0, []), ()), ()) else none else none else some ((a1, (id, 4, []), ()), ()) else none else none) = _
        rw [inb_iff.2 (show 0 ≤ lba ∧ lba < a1.length by omega), inb_iff.2 (show (0 : Int) ≤ 0 ∧ (0 : Int) < v.length by omega), inb_iff.2 (show (0 : Int) ≤ 1 ∧ (1 : Int) < v.length by omega)]
        cases (nth a1 lba 0 == nth v 0 0) <;> rfl
    · rw [show ((a1.length : Int) != n_spec_Blocks a0) = false by simp [h1], show (n_spec_CmdCode a0 a2 != 0) = true from bne_iff_ne.2 h2]
      rfl
  · rw [show ((a1.length : Int) != n_spec_Blocks a0) = true from bne_iff_ne.2 h1]
    rfl
noncomputable def con_impl_DoCmd : Con := ⟨I_impl_DoCmd, U_impl_DoCmd, fun x => (fun n => some ((n.1, n.2, ()), ())) (n_impl_DoCmd x.1 x.2.1 x.2.2.1)⟩
theorem ok_impl_DoCmd : ConOk Try.prog 23 con_impl_DoCmd := (ok0_impl_DoCmd).mono (fun x r hk h => (nn_impl_DoCmd x.1 x.2.1 x.2.2.1 hk).trans h)
end

/-! laws_eqAns -/
section
noncomputable def B_laws_eqAns : Code := (Try.f25.body).getD .skip
noncomputable def E_laws_eqAns : Env := envOf TT [(24, con_laws_eqIntS)] []
theorem fr_laws_eqAns_0 : FrOk Try.prog ⟨E_laws_eqAns, 21, fun _ => none⟩ B_laws_eqAns := frOk_base mixed tt_ok ⟨ok_laws_eqIntS, trivial⟩
noncomputable def D_laws_eqAns_0 : Nat → Option Seg := fun _ => none
abbrev I_laws_eqAns : List Par := [.rd tN, .rd tN]
abbrev U_laws_eqAns : List OT := [⟨false, tB, .fz⟩]
noncomputable def raw_laws_eqAns (a0 : Int × Int × (List Int)) (a1 : Int × Int × (List Int)) : Option (ResD U_laws_eqAns × MutD I_laws_eqAns) :=
  bif (a0.1 != a1.1) then
    some ((false, ()), ())
  else
    bif (a0.2.1 != a1.2.1) then
      some ((false, ()), ())
    else
      let r1 := n_laws_eqIntS a0.2.2 a1.2.2
      bif (!r1) then
        some ((false, ()), ())
      else
        some ((true, ()), ())
theorem e_laws_eqAns (x : InD I_laws_eqAns) : execF ⟨E_laws_eqAns, 21, D_laws_eqAns_0⟩ Try.f25.results.toList B_laws_eqAns I_laws_eqAns U_laws_eqAns x = raw_laws_eqAns x.1 x.2.1 := by kernel_rfl
theorem ok0_laws_eqAns : ConOk Try.prog 25 ⟨I_laws_eqAns, U_laws_eqAns, fun x => raw_laws_eqAns x.1 x.2.1⟩ := conOk_exec (fr_laws_eqAns_0) Try.func25 (by kernel_rfl) (by kernel_rfl) Try.ntmps25.symm (by decide) (fun x r h => (e_laws_eqAns x).trans h)
noncomputable def n_laws_eqAns (a0 : Int × Int × (List Int)) (a1 : Int × Int × (List Int)) : Bool :=
  bif (a0.1 != a1.1) then
    false
  else
    bif (a0.2.1 != a1.2.1) then
      false
    else
      let r1 := n_laws_eqIntS a0.2.2 a1.2.2
      bif (!r1) then
        false
      else
        true
noncomputable def con_laws_eqAns : Con := ⟨I_laws_eqAns, U_laws_eqAns, fun x => (fun n => some ((n, ()), ())) (n_laws_eqAns x.1 x.2.1)⟩
theorem nn_laws_eqAns (a0 : Int × Int × (List Int)) (a1 : Int × Int × (List Int)) : raw_laws_eqAns a0 a1 = (fun n => some ((n, ()), ())) (n_laws_eqAns a0 a1) := bif_ty (p := fun (n : Bool) => ((n, ()), ())) (bif_some (p := fun (n : Bool) => ((n, ()), ())) rfl (bif_some (p := fun (n : Bool) => ((n, ()), ())) rfl (bif_some (p := fun (n : Bool) => ((n, ()), ())) rfl rfl)))
theorem ok_laws_eqAns : ConOk Try.prog 25 con_laws_eqAns := (ok0_laws_eqAns).mono (fun x r _ h => (nn_laws_eqAns x.1 x.2.1).trans h)
theorem eqd_laws_eqAns (a b : Int × Int × (List Int)) : n_laws_eqAns a b = decide (a = b) := by
  unfold n_laws_eqAns
  simp only [eq_step1, eq_step2, eq_step3, eq_step4, eq_step5, eqd_laws_eqIntS, Prod.ext_iff, Bool.decide_and, Bool.and_true]
theorem eqr_laws_eqAns (a : Int × Int × (List Int)) : n_laws_eqAns a a = true := by rw [eqd_laws_eqAns]; exact decide_eq_true rfl
end

/-! laws_markIntS -/
section
noncomputable def B_laws_markIntS : Code := (Try.f26.body).getD .skip
noncomputable def E_laws_markIntS : Env := envOf TT [] []
theorem fr_laws_markIntS_0 : FrOk Try.prog ⟨E_laws_markIntS, 19, fun _ => none⟩ B_laws_markIntS := frOk_base mixed tt_ok trivial
noncomputable def D_laws_markIntS_0 : Nat → Option Seg := fun _ => none
def L_laws_markIntS_13 : Shape := ⟨[(0, false, [.at 1000001000]), (1, false, [.int .i64]), (5, false, [.int .i64])], [], [(1000001000, tI, .fz)]⟩
def S_laws_markIntS_13 : Shape := ⟨[(0, false, [.at 1000001000]), (1, false, [.int .i64]), (5, false, [.ci .i64 0])], [], [(1000001000, tI, .fz)]⟩
def O_laws_markIntS_13 : Shape := ⟨[(1, false, [.int .i64])], [], [(1000001000, tI, .fz)]⟩
def Z_laws_markIntS_13 : Shape := ⟨[], [], []⟩
noncomputable def st_laws_markIntS_13 (v0 : Int) (v1 : Int) (v2 : List Int) : Option ((L_laws_markIntS_13).X ⊕ ((O_laws_markIntS_13).X ⊕ (Z_laws_markIntS_13).X)) :=
  bif (ltb v1 (v2.length : Int)) then
    bif (inb v1 v2.length) then
      some (.inl ((((), ()), ((IntKind.i64.wrap (v0 + 1)), ()), ((IntKind.i64.wrap (v1 + 1)), ()), ()), (), ((v2.set (v1).toNat v0), ())))
    else none
  else
    some (.inr (.inl (((v0, ()), ()), (), (v2, ()))))
noncomputable def stx_laws_markIntS_13 (x : (L_laws_markIntS_13).X) := st_laws_markIntS_13 x.1.2.1.1 x.1.2.2.1.1 x.2.2.1
def em_laws_markIntS_13 (x : (S_laws_markIntS_13).X) : (L_laws_markIntS_13).X := ((((), ()), (x.1.2.1.1, ()), (0, ()), ()), (), (x.2.2.1, ()))
noncomputable def c_laws_markIntS_13 : Code := (subN B_laws_markIntS 64 52).getD .skip
theorem a_laws_markIntS_13 : subN B_laws_markIntS 64 13 = some (.block 0 (.loop c_laws_markIntS_13)) := by kernel_rfl
theorem r_laws_markIntS_13 (x : (L_laws_markIntS_13).X) : roundT ⟨E_laws_markIntS, 19, D_laws_markIntS_0⟩ 0 c_laws_markIntS_13 52 L_laws_markIntS_13 O_laws_markIntS_13 Z_laws_markIntS_13 x = stx_laws_markIntS_13 x := by kernel_rfl
noncomputable def fu_laws_markIntS_13 (x : (S_laws_markIntS_13).X) : Nat := (fun (u0 : Int) (u1 : List Int) => 18446744073709551616) x.1.2.1.1 x.2.2.1
noncomputable def F_laws_markIntS_13 (x : (S_laws_markIntS_13).X) : Option ((O_laws_markIntS_13).X ⊕ (Z_laws_markIntS_13).X) := loopN stx_laws_markIntS_13 (fu_laws_markIntS_13 x) (em_laws_markIntS_13 x)
noncomputable def sg_laws_markIntS_13 : Seg := ⟨S_laws_markIntS_13, O_laws_markIntS_13, Z_laws_markIntS_13, F_laws_markIntS_13⟩
noncomputable def D_laws_markIntS_1 : Nat → Option Seg := fun q => bif Nat.beq q 13 then some sg_laws_markIntS_13 else D_laws_markIntS_0 q
theorem fr_laws_markIntS_1 : FrOk Try.prog ⟨E_laws_markIntS, 19, D_laws_markIntS_1⟩ B_laws_markIntS := (fr_laws_markIntS_0).loop (sg := sg_laws_markIntS_13) L_laws_markIntS_13 em_laws_markIntS_13 (by decide) a_laws_markIntS_13 stx_laws_markIntS_13 fu_laws_markIntS_13 (by decide) (fun _ => rfl) (fun x r _ h => h) r_laws_markIntS_13
abbrev I_laws_markIntS : List Par := [.mt tL (.ow .fz), .rd tI]
abbrev U_laws_markIntS : List OT := [⟨false, tI, .fz⟩]
noncomputable def raw_laws_markIntS (a0 : List Int) (a1 : Int) : Option (ResD U_laws_markIntS × MutD I_laws_markIntS) :=
  segM (F_laws_markIntS_13 ((((), ()), (a1, ()), ((), ()), ()), (), (a0, ()))) (fun y0 =>
    some ((y0.1.1.1, ()), (y0.2.2.1, ()))) (fun y0 =>
    none)
theorem e_laws_markIntS (x : InD I_laws_markIntS) : execF ⟨E_laws_markIntS, 19, D_laws_markIntS_1⟩ Try.f26.results.toList B_laws_markIntS I_laws_markIntS U_laws_markIntS x = raw_laws_markIntS x.1 x.2.1 := by kernel_rfl
theorem ok0_laws_markIntS : ConOk Try.prog 26 ⟨I_laws_markIntS, U_laws_markIntS, fun x => raw_laws_markIntS x.1 x.2.1⟩ := conOk_exec (fr_laws_markIntS_1) Try.func26 (by kernel_rfl) (by kernel_rfl) Try.ntmps26.symm (by decide) (fun x r h => (e_laws_markIntS x).trans h)
/-- marks from k on -/
def marks (k : Int) : Nat → List Int
  | 0 => []
  | n + 1 => k :: marks (IntKind.i64.wrap (k + 1)) n
def markEnd (k : Int) : Nat → Int
  | 0 => k
  | n + 1 => markEnd (IntKind.i64.wrap (k + 1)) n
theorem marks_len : ∀ (n : Nat) (k : Int), (marks k n).length = n
  | 0, _ => rfl
  | n + 1, k => by simp [marks, marks_len n]
theorem marks_snoc : ∀ (n : Nat) (k : Int), marks k (n + 1) = marks k n ++ [markEnd k n]
  | 0, _ => rfl
  | n + 1, k => by rw [marks, marks_snoc n]; rfl
theorem markEnd_succ : ∀ (n : Nat) (k : Int), markEnd k (n + 1) = IntKind.i64.wrap (markEnd k n + 1)
  | 0, _ => rfl
  | n + 1, k => by rw [markEnd, markEnd_succ n]; rfl
noncomputable def n_laws_markIntS (a0 : List Int) (a1 : Int) : Int × List Int := (markEnd a1 a0.length, marks a1 a0.length)
theorem nn_laws_markIntS (a0 : List Int) (a1 : Int) (hk : InOk I_laws_markIntS (a0, a1, ())) : raw_laws_markIntS a0 a1 = (fun n => some ((n.1, ()), (n.2, ()))) (n_laws_markIntS a0 a1) := by
  have hb : a0.length * 8 ≤ 2 ^ 47 := hk.1.1
  have hs : ∀ i, i < a0.length → (marks a1 i ++ a0.drop i).set i (markEnd a1 i) = marks a1 (i + 1) ++ a0.drop (i + 1) := fun i hi => by
    rw [List.set_append_right _ _ (by rw [marks_len]; exact Nat.le_refl _), marks_len, Nat.sub_self, marks_snoc, List.append_assoc, List.drop_eq_getElem_cons hi]; rfl
  have hl : F_laws_markIntS_13 ((((), ()), (a1, ()), ((), ()), ()), (), (a0, ())) = some (.inl (((markEnd a1 a0.length, ()), ()), (), (marks a1 a0.length ++ a0.drop a0.length, ()))) :=
    loopN_up (step := stx_laws_markIntS_13) (fun i => ((((), ()), (markEnd a1 i, ()), ((i : Int), ()), ()), (), (marks a1 i ++ a0.drop i, ()))) a0.length _ (fun i hi => by
      have hL : (marks a1 i ++ a0.drop i).length = a0.length := by rw [List.length_append, marks_len, List.length_drop]; omega
      simp only [stx_laws_markIntS_13, st_laws_markIntS_13, hL, inb_nat hi, ltb_t (show (i : Int) < a0.length by omega), cond_true, wr (show -9223372036854775808 ≤ (i : Int) + 1 by omega) (by omega), Int.natCast_add, Int.natCast_one, markEnd_succ, Int.toNat_natCast, hs i hi]) (by
      have hL : (marks a1 a0.length ++ a0.drop a0.length).length = a0.length := by rw [List.length_append, marks_len, List.length_drop]; omega
      simp only [stx_laws_markIntS_13, st_laws_markIntS_13, hL, ltb_f (Int.le_refl _), cond_false]) _ (by show _ < 18446744073709551616; omega)
  rw [List.drop_length, List.append_nil] at hl
  unfold raw_laws_markIntS
  rw [hl]
  rfl
noncomputable def con_laws_markIntS : Con := ⟨I_laws_markIntS, U_laws_markIntS, fun x => (fun n => some ((n.1, ()), (n.2, ()))) (n_laws_markIntS x.1 x.2.1)⟩
theorem ok_laws_markIntS : ConOk Try.prog 26 con_laws_markIntS := (ok0_laws_markIntS).mono (fun x r hk h => (nn_laws_markIntS x.1 x.2.1 hk).trans h)
end
end Go.Tf
