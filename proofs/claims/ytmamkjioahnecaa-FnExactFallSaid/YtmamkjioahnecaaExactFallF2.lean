/- Functions of the program, and what they come to. -/
import Derived.Test.YtmamkjioahnecaaExactFallF1
namespace Go.Tf
open Go.Proofs
set_option synthInstance.maxHeartbeats 400000
set_option synthInstance.maxSize 10000
set_option linter.unusedVariables false
set_option linter.unusedSimpArgs false
set_option maxRecDepth 100000
/-! spec_FallMem -/
section
noncomputable def B_spec_FallMem : Code := (Try.f72.body).getD .skip
noncomputable def E_spec_FallMem : Env := envOf TT [(82, con_spec_l1In), (116, con_spec_l2Copy), (133, con_spec_MemOk)] [(45056, (.pr .fz .fz))]
theorem fr_spec_FallMem_0 : FrOk Try.prog ⟨E_spec_FallMem, 51, fun _ => none⟩ B_spec_FallMem := frOk_base mixed tt_ok ⟨ok_spec_l1In, ok_spec_l2Copy, ok_spec_MemOk, trivial⟩
noncomputable def D_spec_FallMem_0 : Nat → Option Seg := fun _ => none
def L_spec_FallMem_125 : Shape := ⟨[(1, false, [.int .i64]), (4, false, [.ptr 64 0]), (5, false, [.ptr 4224 0]), (6, false, [.int .i64])], [(64, [.nil, .nil, .bool, .nil]), (4224, [.at 800000000, .at 800000001, .bool, .at 800000002])], [(800000000, tL, .fz), (800000001, tW, (.pr .fz .fz)), (800000002, tI, .fz)]⟩
def S_spec_FallMem_125 : Shape := ⟨[(1, false, [.int .i64]), (4, false, [.ptr 64 0]), (5, false, [.ptr 4224 0]), (6, false, [.int .i64])], [(64, [.nil, .nil, .bool, .nil]), (4224, [.at 800000000, .at 800000001, .bool, .at 800000002])], [(800000000, tL, .fz), (800000001, tW, (.pr .fz .fz)), (800000002, tI, .fz)]⟩
def O_spec_FallMem_125 : Shape := ⟨[(4, false, [.ptr 64 0]), (5, false, [.ptr 4224 0])], [(64, [.nil, .nil, .bool, .nil]), (4224, [.at 800000000, .at 800000001, .bool, .at 800000002])], [(800000000, tL, .fz), (800000001, tW, (.pr .fz .fz)), (800000002, tI, .fz)]⟩
def Z_spec_FallMem_125 : Shape := ⟨[], [], []⟩
abbrev mk_spec_FallMem_125 (v0 : Int) (v1 : Int) (v2 : dM) (v3 : dM) : (L_spec_FallMem_125).X := (((v0, ()), ((), ()), ((), ()), (v1, ()), ()), (((), (), v2.2.2.1, (), ()), ((), (), v3.2.2.1, (), ()), ()), (v3.1, v3.2.1, v3.2.2.2, ()))
abbrev ms_spec_FallMem_125 (v0 : Int) (v1 : Int) (v2 : dM) (v3 : dM) : (S_spec_FallMem_125).X := (((v0, ()), ((), ()), ((), ()), (v1, ()), ()), (((), (), v2.2.2.1, (), ()), ((), (), v3.2.2.1, (), ()), ()), (v3.1, v3.2.1, v3.2.2.2, ()))
abbrev mo_spec_FallMem_125 (v0 : dM) (v1 : dM) : (O_spec_FallMem_125).X := ((((), ()), ((), ()), ()), (((), (), v0.2.2.1, (), ()), ((), (), v1.2.2.1, (), ()), ()), (v1.1, v1.2.1, v1.2.2.2, ()))
noncomputable def st_spec_FallMem_125 (v0 : Int) (v1 : Int) (v2 : Bool) (v3 : Bool) (v4 : List (List Int)) (v5 : List dW) (v6 : List Int) : Option ((L_spec_FallMem_125).X ⊕ ((O_spec_FallMem_125).X ⊕ (Z_spec_FallMem_125).X)) :=
  bif (ltb v1 (v5.length : Int)) then
    bif (ltb v1 20) then
      bif (leb 0 (IntKind.u64.wrap v1)) then
        bif ((IntKind.i64.wrap ((BitVec.ofInt IntKind.i64.bits (v0.fdiv (2 ^ (min ((IntKind.u64.wrap v1)).toNat IntKind.i64.bits))) &&& BitVec.ofInt IntKind.i64.bits 1).toNat : Int)) == 1) then
          bif (inb v1 v5.length) then
            bif (inb v1 v5.length) then
              bif (inb ((nth v5 v1 (0, [])).1) v4.length) then
                let r5 := (v4.set ((nth v5 v1 (0, [])).1).toNat ((nth v5 v1 (0, [])).2))
                some (.inl (((v0, ()), ((), ()), ((), ()), ((IntKind.i64.wrap (v1 + 1)), ()), ()), (((), (), v2, (), ()), ((), (), v3, (), ()), ()), (r5, v5, v6, ())))
              else none
            else none
          else none
        else
          some (.inl (((v0, ()), ((), ()), ((), ()), ((IntKind.i64.wrap (v1 + 1)), ()), ()), (((), (), v2, (), ()), ((), (), v3, (), ()), ()), (v4, v5, v6, ())))
      else none
    else
      some (.inr (.inl ((((), ()), ((), ()), ()), (((), (), v2, (), ()), ((), (), v3, (), ()), ()), (v4, v5, v6, ()))))
  else
    some (.inr (.inl ((((), ()), ((), ()), ()), (((), (), v2, (), ()), ((), (), v3, (), ()), ()), (v4, v5, v6, ()))))
noncomputable def stx_spec_FallMem_125 (x : (L_spec_FallMem_125).X) := st_spec_FallMem_125 x.1.1.1 x.1.2.2.2.1.1 x.2.1.1.2.2.1 x.2.1.2.1.2.2.1 x.2.2.1 x.2.2.2.1 x.2.2.2.2.1
def em_spec_FallMem_125 (x : (S_spec_FallMem_125).X) : (L_spec_FallMem_125).X := (((x.1.1.1, ()), ((), ()), ((), ()), (x.1.2.2.2.1.1, ()), ()), (((), (), x.2.1.1.2.2.1, (), ()), ((), (), x.2.1.2.1.2.2.1, (), ()), ()), (x.2.2.1, x.2.2.2.1, x.2.2.2.2.1, ()))
noncomputable def c_spec_FallMem_125 : Code := (subN B_spec_FallMem 64 500).getD .skip
theorem a_spec_FallMem_125 : subN B_spec_FallMem 64 125 = some (.block 0 (.loop c_spec_FallMem_125)) := by kernel_rfl
theorem r_spec_FallMem_125 (x : (L_spec_FallMem_125).X) : roundT ⟨E_spec_FallMem, 51, D_spec_FallMem_0⟩ 0 c_spec_FallMem_125 500 L_spec_FallMem_125 O_spec_FallMem_125 Z_spec_FallMem_125 x = stx_spec_FallMem_125 x := by kernel_rfl
noncomputable def fu_spec_FallMem_125 (x : (S_spec_FallMem_125).X) : Nat := (fun (u0 : Int) (u1 : Int) (u2 : Bool) (u3 : Bool) (u4 : List (List Int)) (u5 : List dW) (u6 : List Int) => 18446744073709551616) x.1.1.1 x.1.2.2.2.1.1 x.2.1.1.2.2.1 x.2.1.2.1.2.2.1 x.2.2.1 x.2.2.2.1 x.2.2.2.2.1
noncomputable def F_spec_FallMem_125 (x : (S_spec_FallMem_125).X) : Option ((O_spec_FallMem_125).X ⊕ (Z_spec_FallMem_125).X) := loopN stx_spec_FallMem_125 (fu_spec_FallMem_125 x) (em_spec_FallMem_125 x)
noncomputable def sg_spec_FallMem_125 : Seg := ⟨S_spec_FallMem_125, O_spec_FallMem_125, Z_spec_FallMem_125, F_spec_FallMem_125⟩
noncomputable def D_spec_FallMem_1 : Nat → Option Seg := fun q => bif Nat.beq q 125 then some sg_spec_FallMem_125 else D_spec_FallMem_0 q
theorem fr_spec_FallMem_1 : FrOk Try.prog ⟨E_spec_FallMem, 51, D_spec_FallMem_1⟩ B_spec_FallMem := (fr_spec_FallMem_0).loop (sg := sg_spec_FallMem_125) L_spec_FallMem_125 em_spec_FallMem_125 (by decide) a_spec_FallMem_125 stx_spec_FallMem_125 fu_spec_FallMem_125 (by decide) (fun _ => rfl) (fun x r _ h => h) r_spec_FallMem_125
abbrev I_spec_FallMem : List Par := [.rd tM, .rd tI]
abbrev U_spec_FallMem : List OT := [⟨false, tM, (.pr (.ow .fz) (.pr (.ow (.pr .fz .fz)) (.pr .fz (.ow .fz))))⟩]
noncomputable def raw_spec_FallMem (a0 : dM) (a1 : Int) : Option (ResD U_spec_FallMem × MutD I_spec_FallMem) :=
  let r1 := n_spec_l2Copy a0
  let r2 := n_spec_MemOk a0
  bif (!r2) then
    some ((r1, ()), ())
  else
    let r3 := n_spec_l1In a1 0 1048575
    bif (!r3) then
      segM (F_spec_FallMem_125 (((0, ()), ((), ()), ((), ()), (0, ()), ()), (((), (), false, (), ()), ((), (), r1.2.2.1, (), ()), ()), (r1.1, r1.2.1, r1.2.2.2, ()))) (fun y5 =>
        some (((y5.2.2.1, ([] : List dW), y5.2.1.2.1.2.2.1, y5.2.2.2.2.1), ()), ())) (fun y5 =>
        none)
    else
      segM (F_spec_FallMem_125 (((a1, ()), ((), ()), ((), ()), (0, ()), ()), (((), (), false, (), ()), ((), (), r1.2.2.1, (), ()), ()), (r1.1, r1.2.1, r1.2.2.2, ()))) (fun y6 =>
        some (((y6.2.2.1, ([] : List dW), y6.2.1.2.1.2.2.1, y6.2.2.2.2.1), ()), ())) (fun y6 =>
        none)
theorem e_spec_FallMem (x : InD I_spec_FallMem) : execF ⟨E_spec_FallMem, 51, D_spec_FallMem_1⟩ Try.f72.results.toList B_spec_FallMem I_spec_FallMem U_spec_FallMem x = raw_spec_FallMem x.1 x.2.1 := by kernel_rfl
theorem ok0_spec_FallMem : ConOk Try.prog 72 ⟨I_spec_FallMem, U_spec_FallMem, fun x => raw_spec_FallMem x.1 x.2.1⟩ := conOk_exec (fr_spec_FallMem_1) Try.func72 (by kernel_rfl) (by kernel_rfl) Try.ntmps72.symm (by decide) (fun x r h => (e_spec_FallMem x).trans h)
noncomputable def n_spec_FallMem (a0 : dM) (a1 : Int) : dM := fallMem a0 a1
theorem nn_spec_FallMem (a0 : dM) (a1 : Int) (hk : InOk I_spec_FallMem (a0, a1, ())) : raw_spec_FallMem a0 a1 = (fun n => some ((n, ()), ())) (n_spec_FallMem a0 a1) := by
  have hb2 : a0.2.1.length * 32 ≤ 2 ^ 47 := hk.1.2.1.1
  unfold raw_spec_FallMem n_spec_FallMem fallMem
  simp only [n_spec_l2Copy, n_spec_MemOk, in_eq]
  cases hm : memOk a0
  · rfl
  have h1 : ∀ k, F_spec_FallMem_125 (ms_spec_FallMem_125 k 0 noMem a0) = some (.inl (mo_spec_FallMem_125 noMem (layKept (fun i => decide (i < 20) && bitAt k i) a0.2.1 a0.1, a0.2))) := fun k => by
    rw [layKept_min]
    exact loopN_rng (step := stx_spec_FallMem_125) (min a0.2.1.length 20) (fun i s => mk_spec_FallMem_125 k i noMem (s, a0.2)) (layOne (bitAt k) a0.2.1) (fun i s => s.length = a0.1.length) (fun s => .inl (mo_spec_FallMem_125 noMem (s, a0.2))) (fun i s hi hs => by
      have hu : IntKind.u64.wrap (i : Int) = i := by simp only [IntKind.wrap, IntKind.bits, IntKind.signed, Bool.false_and, Bool.false_eq_true, if_false]; omega
      have hw := (memOk_wr hm (show i < a0.2.1.length by omega)).1
      refine ⟨?_, layOne_len.trans hs⟩
      simp only [stx_spec_FallMem_125, mk_spec_FallMem_125, st_spec_FallMem_125, ltb_t (show (i : Int) < a0.2.1.length by omega), cond_true, wr (show -9223372036854775808 ≤ (i : Int) + 1 by omega) (by omega), Int.natCast_add, Int.natCast_one, Int.toNat_natCast, ltb_t (show (i : Int) < 20 by omega), hu, leb_t (show (0 : Int) ≤ i by omega), inb_nat (show i < a0.2.1.length by omega), hs, hw, layOne]
      rw [show bitAt k i = (IntKind.i64.wrap ((BitVec.ofInt IntKind.i64.bits (k.fdiv (2 ^ (min i IntKind.i64.bits))) &&& BitVec.ofInt IntKind.i64.bits 1).toNat : Int) == 1) from rfl]
      cases (IntKind.i64.wrap ((BitVec.ofInt IntKind.i64.bits (k.fdiv (2 ^ (min i IntKind.i64.bits))) &&& BitVec.ofInt IntKind.i64.bits 1).toNat : Int) == 1) <;> rfl) (fun s hs => by
      simp only [stx_spec_FallMem_125, mk_spec_FallMem_125, st_spec_FallMem_125]
      by_cases h : a0.2.1.length ≤ 20
      · rw [ltb_f (show (a0.2.1.length : Int) ≤ ((min a0.2.1.length 20 : Nat) : Int) by omega)]; rfl
      · rw [ltb_t (show ((min a0.2.1.length 20 : Nat) : Int) < (a0.2.1.length : Int) by omega), ltb_f (show (20 : Int) ≤ ((min a0.2.1.length 20 : Nat) : Int) by omega)]; rfl) a0.1 rfl _ (by show _ < 18446744073709551616; omega)
  unfold keepOf
  rw [h1 0, h1 a1]
  cases (leb 0 a1 && leb a1 1048575) <;> rfl
noncomputable def con_spec_FallMem : Con := ⟨I_spec_FallMem, U_spec_FallMem, fun x => (fun n => some ((n, ()), ())) (n_spec_FallMem x.1 x.2.1)⟩
theorem ok_spec_FallMem : ConOk Try.prog 72 con_spec_FallMem := (ok0_spec_FallMem).mono (fun x r hk h => (nn_spec_FallMem x.1 x.2.1 hk).trans h)
end

/-! spec_Fall -/
section
noncomputable def B_spec_Fall : Code := (Try.f16.body).getD .skip
noncomputable def E_spec_Fall : Env := envOf TT [(72, con_spec_FallMem)] [(4096, (.pr (.ow .fz) (.pr (.ow (.pr .fz .fz)) (.pr .fz (.ow .fz))))), (33216, (.pr (.ow .fz) (.pr (.ow (.pr .fz .fz)) (.pr .fz (.ow .fz)))))]
theorem fr_spec_Fall_0 : FrOk Try.prog ⟨E_spec_Fall, 33, fun _ => none⟩ B_spec_Fall := frOk_base mixed tt_ok ⟨ok_spec_FallMem, trivial⟩
noncomputable def D_spec_Fall_0 : Nat → Option Seg := fun _ => none
def L_spec_Fall_29 : Shape := ⟨[(0, false, [.br tM]), (1, false, [.br tI]), (5, false, [.at 800000000]), (6, false, [.int .i64])], [], [(800000000, tM, (.pr (.ow .fz) (.pr (.ow (.pr .fz .fz)) (.pr .fz (.ow .fz)))))]⟩
def S_spec_Fall_29 : Shape := ⟨[(0, false, [.br tM]), (1, false, [.br tI]), (5, false, [.at 800000000]), (6, false, [.ci .i64 0])], [], [(800000000, tM, (.pr (.ow .fz) (.pr (.ow (.pr .fz .fz)) (.pr .fz (.ow .fz)))))]⟩
def O_spec_Fall_29 : Shape := ⟨[(5, false, [.at 800000000])], [], [(800000000, tM, (.pr (.ow .fz) (.pr (.ow (.pr .fz .fz)) (.pr .fz (.ow .fz)))))]⟩
def Z_spec_Fall_29 : Shape := ⟨[], [], []⟩
abbrev mk_spec_Fall_29 (v0 : List dM) (v1 : List Int) (v2 : Int) (v3 : List dM) : (L_spec_Fall_29).X := (((v0, ()), (v1, ()), ((), ()), (v2, ()), ()), (), (v3, ()))
abbrev ms_spec_Fall_29 (v0 : List dM) (v1 : List Int) (v2 : List dM) : (S_spec_Fall_29).X := (((v0, ()), (v1, ()), ((), ()), ((), ()), ()), (), (v2, ()))
abbrev mo_spec_Fall_29 (v0 : List dM) : (O_spec_Fall_29).X := ((((), ()), ()), (), (v0, ()))
noncomputable def st_spec_Fall_29 (v0 : List dM) (v1 : List Int) (v2 : Int) (v3 : List dM) : Option ((L_spec_Fall_29).X ⊕ ((O_spec_Fall_29).X ⊕ (Z_spec_Fall_29).X)) :=
  bif (ltb v2 (v0.length : Int)) then
    bif (ltb v2 (v1.length : Int)) then
      bif (inb v2 v1.length) then
        bif (inb v2 v0.length) then
          let r3 := n_spec_FallMem ((nth v0 v2 ([], [], false, [])).1, ((nth v0 v2 ([], [], false, [])).2).1, (((nth v0 v2 ([], [], false, [])).2).2)) (nth v1 v2 0)
          bif (apok v3.length ([r3] : List dM).length 80) then
            some (.inl (((v0, ()), (v1, ()), ((), ()), ((IntKind.i64.wrap (v2 + 1)), ()), ()), (), ((v3 ++ ([r3] : List dM)), ())))
          else none
        else none
      else none
    else
      bif (inb v2 v0.length) then
        let r4 := n_spec_FallMem ((nth v0 v2 ([], [], false, [])).1, ((nth v0 v2 ([], [], false, [])).2).1, (((nth v0 v2 ([], [], false, [])).2).2)) 0
        bif (apok v3.length ([r4] : List dM).length 80) then
          some (.inl (((v0, ()), (v1, ()), ((), ()), ((IntKind.i64.wrap (v2 + 1)), ()), ()), (), ((v3 ++ ([r4] : List dM)), ())))
        else none
      else none
  else
    some (.inr (.inl ((((), ()), ()), (), (v3, ()))))
noncomputable def stx_spec_Fall_29 (x : (L_spec_Fall_29).X) := st_spec_Fall_29 x.1.1.1 x.1.2.1.1 x.1.2.2.2.1.1 x.2.2.1
def em_spec_Fall_29 (x : (S_spec_Fall_29).X) : (L_spec_Fall_29).X := (((x.1.1.1, ()), (x.1.2.1.1, ()), ((), ()), (0, ()), ()), (), (x.2.2.1, ()))
noncomputable def c_spec_Fall_29 : Code := (subN B_spec_Fall 64 116).getD .skip
theorem a_spec_Fall_29 : subN B_spec_Fall 64 29 = some (.block 0 (.loop c_spec_Fall_29)) := by kernel_rfl
theorem r_spec_Fall_29 (x : (L_spec_Fall_29).X) : roundT ⟨E_spec_Fall, 33, D_spec_Fall_0⟩ 0 c_spec_Fall_29 116 L_spec_Fall_29 O_spec_Fall_29 Z_spec_Fall_29 x = stx_spec_Fall_29 x := by kernel_rfl
noncomputable def fu_spec_Fall_29 (x : (S_spec_Fall_29).X) : Nat := (fun (u0 : List dM) (u1 : List Int) (u2 : List dM) => 18446744073709551616) x.1.1.1 x.1.2.1.1 x.2.2.1
noncomputable def F_spec_Fall_29 (x : (S_spec_Fall_29).X) : Option ((O_spec_Fall_29).X ⊕ (Z_spec_Fall_29).X) := loopN stx_spec_Fall_29 (fu_spec_Fall_29 x) (em_spec_Fall_29 x)
noncomputable def sg_spec_Fall_29 : Seg := ⟨S_spec_Fall_29, O_spec_Fall_29, Z_spec_Fall_29, F_spec_Fall_29⟩
noncomputable def D_spec_Fall_1 : Nat → Option Seg := fun q => bif Nat.beq q 29 then some sg_spec_Fall_29 else D_spec_Fall_0 q
theorem fr_spec_Fall_1 : FrOk Try.prog ⟨E_spec_Fall, 33, D_spec_Fall_1⟩ B_spec_Fall := (fr_spec_Fall_0).loop (sg := sg_spec_Fall_29) L_spec_Fall_29 em_spec_Fall_29 (by decide) a_spec_Fall_29 stx_spec_Fall_29 fu_spec_Fall_29 (by decide) (fun _ => rfl) (fun x r _ h => h) r_spec_Fall_29
abbrev I_spec_Fall : List Par := [.rd tMs, .rd tL]
abbrev U_spec_Fall : List OT := [⟨false, tMs, (.ow (.pr (.ow .fz) (.pr (.ow (.pr .fz .fz)) (.pr .fz (.ow .fz)))))⟩]
noncomputable def raw_spec_Fall (a0 : List dM) (a1 : List Int) : Option (ResD U_spec_Fall × MutD I_spec_Fall) :=
  segM (F_spec_Fall_29 (((a0, ()), (a1, ()), ((), ()), ((), ()), ()), (), (([] : List dM), ()))) (fun y4 =>
    some ((y4.2.2.1, ()), ())) (fun y4 =>
    none)
theorem e_spec_Fall (x : InD I_spec_Fall) : execF ⟨E_spec_Fall, 33, D_spec_Fall_1⟩ Try.f16.results.toList B_spec_Fall I_spec_Fall U_spec_Fall x = raw_spec_Fall x.1 x.2.1 := by kernel_rfl
theorem ok0_spec_Fall : ConOk Try.prog 16 ⟨I_spec_Fall, U_spec_Fall, fun x => raw_spec_Fall x.1 x.2.1⟩ := conOk_exec (fr_spec_Fall_1) Try.func16 (by kernel_rfl) (by kernel_rfl) Try.ntmps16.symm (by decide) (fun x r h => (e_spec_Fall x).trans h)
noncomputable def n_spec_Fall (a0 : List dM) (a1 : List Int) : List dM := fallAll a0 a1
theorem nn_spec_Fall (a0 : List dM) (a1 : List Int) (hk : InOk I_spec_Fall (a0, a1, ())) : raw_spec_Fall a0 a1 = (fun n => some ((n, ()), ())) (n_spec_Fall a0 a1) := by
  have hb : a0.length * 80 ≤ 2 ^ 47 := hk.1.1
  have h1 : F_spec_Fall_29 (ms_spec_Fall_29 a0 a1 []) = some (.inl (mo_spec_Fall_29 ((List.range a0.length).foldl (fun s (i : Nat) => s ++ [fallMem (nth a0 i noMem) (keepAt a1 i)]) []))) :=
    loopN_rng (step := stx_spec_Fall_29) a0.length (fun i s => mk_spec_Fall_29 a0 a1 i s) (fun s (i : Nat) => s ++ [fallMem (nth a0 i noMem) (keepAt a1 i)]) (fun i s => s.length = i) (fun s => .inl (mo_spec_Fall_29 s)) (fun i s hi hs => ⟨by
      simp only [stx_spec_Fall_29, mk_spec_Fall_29, st_spec_Fall_29, ltb_t (show (i : Int) < a0.length by omega), cond_true, wr (show -9223372036854775808 ≤ (i : Int) + 1 by omega) (by omega), Int.natCast_add, Int.natCast_one, Int.toNat_natCast, inb_nat hi, pr_eta, n_spec_FallMem, keepAt]
      rw [apok_iff.2 (show (s.length + [fallMem (nth a0 i ([], [], false, [])) (nth a1 i 0)].length) * 80 ≤ 140737488355328 by simp only [List.length_cons, List.length_nil]; omega), apok_iff.2 (show (s.length + [fallMem (nth a0 i ([], [], false, [])) 0].length) * 80 ≤ 140737488355328 by simp only [List.length_cons, List.length_nil]; omega)]
      by_cases h : i < a1.length
      · rw [ltb_t (show (i : Int) < a1.length by omega), inb_nat h, decide_eq_true h]; rfl
      · rw [ltb_f (show (a1.length : Int) ≤ i by omega), decide_eq_false h]; rfl, by simp [hs]⟩) (fun s hs => by simp only [stx_spec_Fall_29, mk_spec_Fall_29, st_spec_Fall_29, ltb_f (Int.le_refl _), cond_false]) [] rfl _ (by show _ < 18446744073709551616; omega)
  unfold raw_spec_Fall n_spec_Fall fallAll
  rw [h1, foldl_snoc]; rfl
noncomputable def con_spec_Fall : Con := ⟨I_spec_Fall, U_spec_Fall, fun x => (fun n => some ((n, ()), ())) (n_spec_Fall x.1 x.2.1)⟩
theorem ok_spec_Fall : ConOk Try.prog 16 con_spec_Fall := (ok0_spec_Fall).mono (fun x r hk h => (nn_spec_Fall x.1 x.2.1 hk).trans h)
end

/-! laws_toIntS -/
section
noncomputable def B_laws_toIntS : Code := (Try.f18.body).getD .skip
noncomputable def E_laws_toIntS : Env := envOf TT [] []
theorem fr_laws_toIntS_0 : FrOk Try.prog ⟨E_laws_toIntS, 22, fun _ => none⟩ B_laws_toIntS := frOk_base mixed tt_ok trivial
noncomputable def D_laws_toIntS_0 : Nat → Option Seg := fun _ => none
def L_laws_toIntS_29 : Shape := ⟨[(0, false, [.br tI]), (3, false, [.at 800000000]), (4, false, [.int .i64])], [], [(800000000, tI, .fz)]⟩
def S_laws_toIntS_29 : Shape := ⟨[(0, false, [.br tI]), (3, false, [.at 800000000]), (4, false, [.ci .i64 0])], [], [(800000000, tI, .fz)]⟩
def O_laws_toIntS_29 : Shape := ⟨[(3, false, [.at 800000000])], [], [(800000000, tI, .fz)]⟩
def Z_laws_toIntS_29 : Shape := ⟨[], [], []⟩
noncomputable def st_laws_toIntS_29 (v0 : List Int) (v1 : Int) (v2 : List Int) : Option ((L_laws_toIntS_29).X ⊕ ((O_laws_toIntS_29).X ⊕ (Z_laws_toIntS_29).X)) :=
  bif (ltb v1 (v0.length : Int)) then
    bif (inb v1 v0.length) then
      bif (inb v1 v2.length) then
        some (.inl (((v0, ()), ((), ()), ((IntKind.i64.wrap (v1 + 1)), ()), ()), (), ((v2.set (v1).toNat (nth v0 v1 0)), ())))
      else none
    else none
  else
    some (.inr (.inl ((((), ()), ()), (), (v2, ()))))
noncomputable def stx_laws_toIntS_29 (x : (L_laws_toIntS_29).X) := st_laws_toIntS_29 x.1.1.1 x.1.2.2.1.1 x.2.2.1
def em_laws_toIntS_29 (x : (S_laws_toIntS_29).X) : (L_laws_toIntS_29).X := (((x.1.1.1, ()), ((), ()), (0, ()), ()), (), (x.2.2.1, ()))
noncomputable def c_laws_toIntS_29 : Code := (subN B_laws_toIntS 64 116).getD .skip
theorem a_laws_toIntS_29 : subN B_laws_toIntS 64 29 = some (.block 0 (.loop c_laws_toIntS_29)) := by kernel_rfl
theorem r_laws_toIntS_29 (x : (L_laws_toIntS_29).X) : roundT ⟨E_laws_toIntS, 22, D_laws_toIntS_0⟩ 0 c_laws_toIntS_29 116 L_laws_toIntS_29 O_laws_toIntS_29 Z_laws_toIntS_29 x = stx_laws_toIntS_29 x := by kernel_rfl
noncomputable def fu_laws_toIntS_29 (x : (S_laws_toIntS_29).X) : Nat := (fun (u0 : List Int) (u1 : List Int) => 18446744073709551616) x.1.1.1 x.2.2.1
noncomputable def F_laws_toIntS_29 (x : (S_laws_toIntS_29).X) : Option ((O_laws_toIntS_29).X ⊕ (Z_laws_toIntS_29).X) := loopN stx_laws_toIntS_29 (fu_laws_toIntS_29 x) (em_laws_toIntS_29 x)
noncomputable def sg_laws_toIntS_29 : Seg := ⟨S_laws_toIntS_29, O_laws_toIntS_29, Z_laws_toIntS_29, F_laws_toIntS_29⟩
noncomputable def D_laws_toIntS_1 : Nat → Option Seg := fun q => bif Nat.beq q 29 then some sg_laws_toIntS_29 else D_laws_toIntS_0 q
theorem fr_laws_toIntS_1 : FrOk Try.prog ⟨E_laws_toIntS, 22, D_laws_toIntS_1⟩ B_laws_toIntS := (fr_laws_toIntS_0).loop (sg := sg_laws_toIntS_29) L_laws_toIntS_29 em_laws_toIntS_29 (by decide) a_laws_toIntS_29 stx_laws_toIntS_29 fu_laws_toIntS_29 (by decide) (fun _ => rfl) (fun x r _ h => h) r_laws_toIntS_29
abbrev I_laws_toIntS : List Par := [.rd tL]
abbrev U_laws_toIntS : List OT := [⟨false, tL, (.ow .fz)⟩]
noncomputable def raw_laws_toIntS (a0 : List Int) : Option (ResD U_laws_toIntS × MutD I_laws_toIntS) :=
  bif (mkok (a0.length : Int) 8) then
    segM (F_laws_toIntS_29 (((a0, ()), ((), ()), ((), ()), ()), (), ((List.replicate ((a0.length : Int)).toNat (0 : Int)), ()))) (fun y0 =>
      some ((y0.2.2.1, ()), ())) (fun y0 =>
      none)
  else none
theorem e_laws_toIntS (x : InD I_laws_toIntS) : execF ⟨E_laws_toIntS, 22, D_laws_toIntS_1⟩ Try.f18.results.toList B_laws_toIntS I_laws_toIntS U_laws_toIntS x = raw_laws_toIntS x.1 := by kernel_rfl
theorem ok0_laws_toIntS : ConOk Try.prog 18 ⟨I_laws_toIntS, U_laws_toIntS, fun x => raw_laws_toIntS x.1⟩ := conOk_exec (fr_laws_toIntS_1) Try.func18 (by kernel_rfl) (by kernel_rfl) Try.ntmps18.symm (by decide) (fun x r h => (e_laws_toIntS x).trans h)
noncomputable def n_laws_toIntS (a0 : List Int) : List Int := a0
theorem nn_laws_toIntS (a0 : List Int) (hk : InOk I_laws_toIntS (a0, ())) : raw_laws_toIntS a0 = (fun n => some ((n, ()), ())) (n_laws_toIntS a0) := by
  have hb : a0.length * 8 ≤ 2 ^ 47 := hk.1.1
  have hs : ∀ i, i < a0.length → (a0.take i ++ List.replicate (a0.length - i) (0 : Int)).set i (a0.getD i 0) = a0.take (i + 1) ++ List.replicate (a0.length - (i + 1)) 0 := fun i hi => by
    have hl : (a0.take i).length = i := by rw [List.length_take]; omega
    rw [List.set_append_right _ _ (by rw [hl]; exact Nat.le_refl _), hl, Nat.sub_self, List.take_add_one, List.append_assoc, show a0.length - i = (a0.length - (i + 1)) + 1 by omega, List.replicate_succ]
    simp [hi]
  have hl : F_laws_toIntS_29 (((a0, ()), ((), ()), ((), ()), ()), (), ((a0.take 0 ++ List.replicate (a0.length - 0) 0), ())) = some (.inl ((((), ()), ()), (), (a0.take a0.length ++ List.replicate (a0.length - a0.length) 0, ()))) :=
    loopN_up (step := stx_laws_toIntS_29) (fun i => (((a0, ()), ((), ()), ((i : Int), ()), ()), (), (a0.take i ++ List.replicate (a0.length - i) 0, ()))) a0.length _ (fun i hi => by
      have hL : (a0.take i ++ List.replicate (a0.length - i) (0 : Int)).length = a0.length := by rw [List.length_append, List.length_take, List.length_replicate]; omega
      simp only [stx_laws_toIntS_29, st_laws_toIntS_29, hL, inb_nat hi, nth_nat, Int.toNat_natCast, ltb_t (show (i : Int) < a0.length by omega), cond_true, wr (show -9223372036854775808 ≤ (i : Int) + 1 by omega) (by omega), Int.natCast_add, Int.natCast_one, hs i hi]) (by
      simp only [stx_laws_toIntS_29, st_laws_toIntS_29, ltb_f (Int.le_refl _), cond_false]) _ (by show _ < 18446744073709551616; omega)
  unfold raw_laws_toIntS n_laws_toIntS
  rw [List.take_zero, List.nil_append, Nat.sub_zero] at hl
  rw [show mkok (a0.length : Int) 8 = true by rw [mkok_iff]; omega, bif_t, Int.toNat_natCast, hl]
  simp [segM]
noncomputable def con_laws_toIntS : Con := ⟨I_laws_toIntS, U_laws_toIntS, fun x => (fun n => some ((n, ()), ())) (n_laws_toIntS x.1)⟩
theorem ok_laws_toIntS : ConOk Try.prog 18 con_laws_toIntS := (ok0_laws_toIntS).mono (fun x r hk h => (nn_laws_toIntS x.1 hk).trans h)
theorem id_laws_toIntS (a : List Int) : n_laws_toIntS a = a := by kernel_rfl
end

/-! laws_toIntSS -/
section
noncomputable def B_laws_toIntSS : Code := (Try.f134.body).getD .skip
noncomputable def E_laws_toIntSS : Env := envOf TT [(18, con_laws_toIntS)] []
theorem fr_laws_toIntSS_0 : FrOk Try.prog ⟨E_laws_toIntSS, 23, fun _ => none⟩ B_laws_toIntSS := frOk_base mixed tt_ok ⟨ok_laws_toIntS, trivial⟩
noncomputable def D_laws_toIntSS_0 : Nat → Option Seg := fun _ => none
def L_laws_toIntSS_29 : Shape := ⟨[(0, false, [.br tL]), (3, false, [.at 800000000]), (4, false, [.int .i64])], [], [(800000000, tL, (.ow .fz))]⟩
def S_laws_toIntSS_29 : Shape := ⟨[(0, false, [.br tL]), (3, false, [.at 800000000]), (4, false, [.ci .i64 0])], [], [(800000000, tL, (.ow .fz))]⟩
def O_laws_toIntSS_29 : Shape := ⟨[(3, false, [.at 800000000])], [], [(800000000, tL, (.ow .fz))]⟩
def Z_laws_toIntSS_29 : Shape := ⟨[], [], []⟩
noncomputable def st_laws_toIntSS_29 (v0 : List (List Int)) (v1 : Int) (v2 : List (List Int)) : Option ((L_laws_toIntSS_29).X ⊕ ((O_laws_toIntSS_29).X ⊕ (Z_laws_toIntSS_29).X)) :=
  bif (ltb v1 (v0.length : Int)) then
    bif (inb v1 v0.length) then
      let r2 := n_laws_toIntS (nth v0 v1 [])
      bif (inb v1 v2.length) then
        some (.inl (((v0, ()), ((), ()), ((IntKind.i64.wrap (v1 + 1)), ()), ()), (), ((v2.set (v1).toNat r2), ())))
      else none
    else none
  else
    some (.inr (.inl ((((), ()), ()), (), (v2, ()))))
noncomputable def stx_laws_toIntSS_29 (x : (L_laws_toIntSS_29).X) := st_laws_toIntSS_29 x.1.1.1 x.1.2.2.1.1 x.2.2.1
def em_laws_toIntSS_29 (x : (S_laws_toIntSS_29).X) : (L_laws_toIntSS_29).X := (((x.1.1.1, ()), ((), ()), (0, ()), ()), (), (x.2.2.1, ()))
noncomputable def c_laws_toIntSS_29 : Code := (subN B_laws_toIntSS 64 116).getD .skip
theorem a_laws_toIntSS_29 : subN B_laws_toIntSS 64 29 = some (.block 0 (.loop c_laws_toIntSS_29)) := by kernel_rfl
theorem r_laws_toIntSS_29 (x : (L_laws_toIntSS_29).X) : roundT ⟨E_laws_toIntSS, 23, D_laws_toIntSS_0⟩ 0 c_laws_toIntSS_29 116 L_laws_toIntSS_29 O_laws_toIntSS_29 Z_laws_toIntSS_29 x = stx_laws_toIntSS_29 x := by kernel_rfl
noncomputable def fu_laws_toIntSS_29 (x : (S_laws_toIntSS_29).X) : Nat := (fun (u0 : List (List Int)) (u1 : List (List Int)) => 18446744073709551616) x.1.1.1 x.2.2.1
noncomputable def F_laws_toIntSS_29 (x : (S_laws_toIntSS_29).X) : Option ((O_laws_toIntSS_29).X ⊕ (Z_laws_toIntSS_29).X) := loopN stx_laws_toIntSS_29 (fu_laws_toIntSS_29 x) (em_laws_toIntSS_29 x)
noncomputable def sg_laws_toIntSS_29 : Seg := ⟨S_laws_toIntSS_29, O_laws_toIntSS_29, Z_laws_toIntSS_29, F_laws_toIntSS_29⟩
noncomputable def D_laws_toIntSS_1 : Nat → Option Seg := fun q => bif Nat.beq q 29 then some sg_laws_toIntSS_29 else D_laws_toIntSS_0 q
theorem fr_laws_toIntSS_1 : FrOk Try.prog ⟨E_laws_toIntSS, 23, D_laws_toIntSS_1⟩ B_laws_toIntSS := (fr_laws_toIntSS_0).loop (sg := sg_laws_toIntSS_29) L_laws_toIntSS_29 em_laws_toIntSS_29 (by decide) a_laws_toIntSS_29 stx_laws_toIntSS_29 fu_laws_toIntSS_29 (by decide) (fun _ => rfl) (fun x r _ h => h) r_laws_toIntSS_29
abbrev I_laws_toIntSS : List Par := [.rd tLL]
abbrev U_laws_toIntSS : List OT := [⟨false, tLL, (.ow (.ow .fz))⟩]
noncomputable def raw_laws_toIntSS (a0 : List (List Int)) : Option (ResD U_laws_toIntSS × MutD I_laws_toIntSS) :=
  bif (mkok (a0.length : Int) 24) then
    segM (F_laws_toIntSS_29 (((a0, ()), ((), ()), ((), ()), ()), (), ((List.replicate ((a0.length : Int)).toNat ([] : List Int)), ()))) (fun y2 =>
      some ((y2.2.2.1, ()), ())) (fun y2 =>
      none)
  else none
theorem e_laws_toIntSS (x : InD I_laws_toIntSS) : execF ⟨E_laws_toIntSS, 23, D_laws_toIntSS_1⟩ Try.f134.results.toList B_laws_toIntSS I_laws_toIntSS U_laws_toIntSS x = raw_laws_toIntSS x.1 := by kernel_rfl
theorem ok0_laws_toIntSS : ConOk Try.prog 134 ⟨I_laws_toIntSS, U_laws_toIntSS, fun x => raw_laws_toIntSS x.1⟩ := conOk_exec (fr_laws_toIntSS_1) Try.func134 (by kernel_rfl) (by kernel_rfl) Try.ntmps134.symm (by decide) (fun x r h => (e_laws_toIntSS x).trans h)
noncomputable def n_laws_toIntSS (a0 : List (List Int)) : List (List Int) := a0
theorem nn_laws_toIntSS (a0 : List (List Int)) (hk : InOk I_laws_toIntSS (a0, ())) : raw_laws_toIntSS a0 = (fun n => some ((n, ()), ())) (n_laws_toIntSS a0) := by
  have hb : a0.length * 24 ≤ 2 ^ 47 := hk.1.1
  have hl : F_laws_toIntSS_29 (((a0, ()), ((), ()), ((), ()), ()), (), ((List.replicate a0.length ([] : List Int)), ())) = some (.inl ((((), ()), ()), (), (a0, ()))) :=
    loopN_fill (step := stx_laws_toIntSS_29) a0 ([] : List Int) (fun i m => (((a0, ()), ((), ()), ((i : Int), ()), ()), (), (m, ()))) (fun m => .inl ((((), ()), ()), (), (m, ()))) (fun i m hi hm => by
      simp only [stx_laws_toIntSS_29, st_laws_toIntSS_29, inb_nat (show i < m.length by omega), inb_nat hi, nth_nat, Int.toNat_natCast, ltb_t (show (i : Int) < a0.length by omega), cond_true, wr (show -9223372036854775808 ≤ (i : Int) + 1 by omega) (by omega), Int.natCast_add, Int.natCast_one, pr_eta, id_laws_toIntS]) (fun m hm => by
      simp only [stx_laws_toIntSS_29, st_laws_toIntSS_29, ltb_f (Int.le_refl _), cond_false]) _ (by show _ < 18446744073709551616; omega)
  unfold raw_laws_toIntSS n_laws_toIntSS
  rw [show mkok (a0.length : Int) 24 = true by rw [mkok_iff]; omega, bif_t, Int.toNat_natCast, hl]
  rfl
noncomputable def con_laws_toIntSS : Con := ⟨I_laws_toIntSS, U_laws_toIntSS, fun x => (fun n => some ((n, ()), ())) (n_laws_toIntSS x.1)⟩
theorem ok_laws_toIntSS : ConOk Try.prog 134 con_laws_toIntSS := (ok0_laws_toIntSS).mono (fun x r hk h => (nn_laws_toIntSS x.1 hk).trans h)
theorem id_laws_toIntSS (a : List (List Int)) : n_laws_toIntSS a = a := by kernel_rfl
end

/-! laws_toWr -/
section
noncomputable def B_laws_toWr : Code := (Try.f173.body).getD .skip
noncomputable def E_laws_toWr : Env := envOf TT [(18, con_laws_toIntS)] []
theorem fr_laws_toWr_0 : FrOk Try.prog ⟨E_laws_toWr, 12, fun _ => none⟩ B_laws_toWr := frOk_base mixed tt_ok ⟨ok_laws_toIntS, trivial⟩
noncomputable def D_laws_toWr_0 : Nat → Option Seg := fun _ => none
abbrev I_laws_toWr : List Par := [.rd tW]
abbrev U_laws_toWr : List OT := [⟨false, tW, (.pr .fz (.ow .fz))⟩]
noncomputable def raw_laws_toWr (a0 : dW) : Option (ResD U_laws_toWr × MutD I_laws_toWr) :=
  let r1 := n_laws_toIntS a0.2
  some (((a0.1, r1), ()), ())
theorem e_laws_toWr (x : InD I_laws_toWr) : execF ⟨E_laws_toWr, 12, D_laws_toWr_0⟩ Try.f173.results.toList B_laws_toWr I_laws_toWr U_laws_toWr x = raw_laws_toWr x.1 := by kernel_rfl
theorem ok0_laws_toWr : ConOk Try.prog 173 ⟨I_laws_toWr, U_laws_toWr, fun x => raw_laws_toWr x.1⟩ := conOk_exec (fr_laws_toWr_0) Try.func173 (by kernel_rfl) (by kernel_rfl) Try.ntmps173.symm (by decide) (fun x r h => (e_laws_toWr x).trans h)
noncomputable def n_laws_toWr (a0 : dW) : dW :=
  let r1 := n_laws_toIntS a0.2
  (a0.1, r1)
noncomputable def con_laws_toWr : Con := ⟨I_laws_toWr, U_laws_toWr, fun x => (fun n => some ((n, ()), ())) (n_laws_toWr x.1)⟩
theorem nn_laws_toWr (a0 : dW) : raw_laws_toWr a0 = (fun n => some ((n, ()), ())) (n_laws_toWr a0) := bif_ty (p := fun (n : dW) => ((n, ()), ())) rfl
theorem ok_laws_toWr : ConOk Try.prog 173 con_laws_toWr := (ok0_laws_toWr).mono (fun x r _ h => (nn_laws_toWr x.1).trans h)
theorem id_laws_toWr (a : dW) : n_laws_toWr a = a := by kernel_rfl
end

/-! laws_toWrS -/
section
noncomputable def B_laws_toWrS : Code := (Try.f135.body).getD .skip
noncomputable def E_laws_toWrS : Env := envOf TT [(173, con_laws_toWr)] []
theorem fr_laws_toWrS_0 : FrOk Try.prog ⟨E_laws_toWrS, 23, fun _ => none⟩ B_laws_toWrS := frOk_base mixed tt_ok ⟨ok_laws_toWr, trivial⟩
noncomputable def D_laws_toWrS_0 : Nat → Option Seg := fun _ => none
def L_laws_toWrS_29 : Shape := ⟨[(0, false, [.br tW]), (3, false, [.at 800000000]), (4, false, [.int .i64])], [], [(800000000, tW, (.pr .fz (.ow .fz)))]⟩
def S_laws_toWrS_29 : Shape := ⟨[(0, false, [.br tW]), (3, false, [.at 800000000]), (4, false, [.ci .i64 0])], [], [(800000000, tW, (.pr .fz (.ow .fz)))]⟩
def O_laws_toWrS_29 : Shape := ⟨[(3, false, [.at 800000000])], [], [(800000000, tW, (.pr .fz (.ow .fz)))]⟩
def Z_laws_toWrS_29 : Shape := ⟨[], [], []⟩
noncomputable def st_laws_toWrS_29 (v0 : List dW) (v1 : Int) (v2 : List dW) : Option ((L_laws_toWrS_29).X ⊕ ((O_laws_toWrS_29).X ⊕ (Z_laws_toWrS_29).X)) :=
  bif (ltb v1 (v0.length : Int)) then
    bif (inb v1 v0.length) then
      let r2 := n_laws_toWr (nth v0 v1 (0, []))
      bif (inb v1 v2.length) then
        some (.inl (((v0, ()), ((), ()), ((IntKind.i64.wrap (v1 + 1)), ()), ()), (), ((v2.set (v1).toNat r2), ())))
      else none
    else none
  else
    some (.inr (.inl ((((), ()), ()), (), (v2, ()))))
noncomputable def stx_laws_toWrS_29 (x : (L_laws_toWrS_29).X) := st_laws_toWrS_29 x.1.1.1 x.1.2.2.1.1 x.2.2.1
def em_laws_toWrS_29 (x : (S_laws_toWrS_29).X) : (L_laws_toWrS_29).X := (((x.1.1.1, ()), ((), ()), (0, ()), ()), (), (x.2.2.1, ()))
noncomputable def c_laws_toWrS_29 : Code := (subN B_laws_toWrS 64 116).getD .skip
theorem a_laws_toWrS_29 : subN B_laws_toWrS 64 29 = some (.block 0 (.loop c_laws_toWrS_29)) := by kernel_rfl
theorem r_laws_toWrS_29 (x : (L_laws_toWrS_29).X) : roundT ⟨E_laws_toWrS, 23, D_laws_toWrS_0⟩ 0 c_laws_toWrS_29 116 L_laws_toWrS_29 O_laws_toWrS_29 Z_laws_toWrS_29 x = stx_laws_toWrS_29 x := by kernel_rfl
noncomputable def fu_laws_toWrS_29 (x : (S_laws_toWrS_29).X) : Nat := (fun (u0 : List dW) (u1 : List dW) => 18446744073709551616) x.1.1.1 x.2.2.1
noncomputable def F_laws_toWrS_29 (x : (S_laws_toWrS_29).X) : Option ((O_laws_toWrS_29).X ⊕ (Z_laws_toWrS_29).X) := loopN stx_laws_toWrS_29 (fu_laws_toWrS_29 x) (em_laws_toWrS_29 x)
noncomputable def sg_laws_toWrS_29 : Seg := ⟨S_laws_toWrS_29, O_laws_toWrS_29, Z_laws_toWrS_29, F_laws_toWrS_29⟩
noncomputable def D_laws_toWrS_1 : Nat → Option Seg := fun q => bif Nat.beq q 29 then some sg_laws_toWrS_29 else D_laws_toWrS_0 q
theorem fr_laws_toWrS_1 : FrOk Try.prog ⟨E_laws_toWrS, 23, D_laws_toWrS_1⟩ B_laws_toWrS := (fr_laws_toWrS_0).loop (sg := sg_laws_toWrS_29) L_laws_toWrS_29 em_laws_toWrS_29 (by decide) a_laws_toWrS_29 stx_laws_toWrS_29 fu_laws_toWrS_29 (by decide) (fun _ => rfl) (fun x r _ h => h) r_laws_toWrS_29
abbrev I_laws_toWrS : List Par := [.rd tWs]
abbrev U_laws_toWrS : List OT := [⟨false, tWs, (.ow (.pr .fz (.ow .fz)))⟩]
noncomputable def raw_laws_toWrS (a0 : List dW) : Option (ResD U_laws_toWrS × MutD I_laws_toWrS) :=
  bif (mkok (a0.length : Int) 32) then
    segM (F_laws_toWrS_29 (((a0, ()), ((), ()), ((), ()), ()), (), ((List.replicate ((a0.length : Int)).toNat ((0, []) : dW)), ()))) (fun y2 =>
      some ((y2.2.2.1, ()), ())) (fun y2 =>
      none)
  else none
theorem e_laws_toWrS (x : InD I_laws_toWrS) : execF ⟨E_laws_toWrS, 23, D_laws_toWrS_1⟩ Try.f135.results.toList B_laws_toWrS I_laws_toWrS U_laws_toWrS x = raw_laws_toWrS x.1 := by kernel_rfl
theorem ok0_laws_toWrS : ConOk Try.prog 135 ⟨I_laws_toWrS, U_laws_toWrS, fun x => raw_laws_toWrS x.1⟩ := conOk_exec (fr_laws_toWrS_1) Try.func135 (by kernel_rfl) (by kernel_rfl) Try.ntmps135.symm (by decide) (fun x r h => (e_laws_toWrS x).trans h)
noncomputable def n_laws_toWrS (a0 : List (dW)) : List (dW) := a0
theorem nn_laws_toWrS (a0 : List (dW)) (hk : InOk I_laws_toWrS (a0, ())) : raw_laws_toWrS a0 = (fun n => some ((n, ()), ())) (n_laws_toWrS a0) := by
  have hb : a0.length * 32 ≤ 2 ^ 47 := hk.1.1
  have hl : F_laws_toWrS_29 (((a0, ()), ((), ()), ((), ()), ()), (), ((List.replicate a0.length ((0, []) : dW)), ())) = some (.inl ((((), ()), ()), (), (a0, ()))) :=
    loopN_fill (step := stx_laws_toWrS_29) a0 ((0, []) : dW) (fun i m => (((a0, ()), ((), ()), ((i : Int), ()), ()), (), (m, ()))) (fun m => .inl ((((), ()), ()), (), (m, ()))) (fun i m hi hm => by
      simp only [stx_laws_toWrS_29, st_laws_toWrS_29, inb_nat (show i < m.length by omega), inb_nat hi, nth_nat, Int.toNat_natCast, ltb_t (show (i : Int) < a0.length by omega), cond_true, wr (show -9223372036854775808 ≤ (i : Int) + 1 by omega) (by omega), Int.natCast_add, Int.natCast_one, pr_eta, id_laws_toWr]) (fun m hm => by
      simp only [stx_laws_toWrS_29, st_laws_toWrS_29, ltb_f (Int.le_refl _), cond_false]) _ (by show _ < 18446744073709551616; omega)
  unfold raw_laws_toWrS n_laws_toWrS
  rw [show mkok (a0.length : Int) 32 = true by rw [mkok_iff]; omega, bif_t, Int.toNat_natCast, hl]
  rfl
noncomputable def con_laws_toWrS : Con := ⟨I_laws_toWrS, U_laws_toWrS, fun x => (fun n => some ((n, ()), ())) (n_laws_toWrS x.1)⟩
theorem ok_laws_toWrS : ConOk Try.prog 135 con_laws_toWrS := (ok0_laws_toWrS).mono (fun x r hk h => (nn_laws_toWrS x.1 hk).trans h)
theorem id_laws_toWrS (a : List dW) : n_laws_toWrS a = a := by kernel_rfl
end
end Go.Tf
