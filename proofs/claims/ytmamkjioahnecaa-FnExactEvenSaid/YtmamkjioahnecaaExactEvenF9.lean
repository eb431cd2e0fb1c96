/- Functions of the program, and what they come to. -/
import Derived.Test.YtmamkjioahnecaaExactEvenF8
namespace Go.Tf
open Go.Proofs
set_option synthInstance.maxHeartbeats 400000
set_option synthInstance.maxSize 10000
set_option linter.unusedVariables false
set_option linter.unusedSimpArgs false
set_option maxRecDepth 100000
/-! impl_wordAt -/
section
noncomputable def B_impl_wordAt : Code := (Try.f91.body).getD .skip
noncomputable def E_impl_wordAt : Env := envOf TT [(108, con_impl_ReadSec), (144, con_impl_DataAt), (147, con_impl_LiveAt)] []
theorem fr_impl_wordAt_0 : FrOk Try.prog ⟨E_impl_wordAt, 38, fun _ => none⟩ B_impl_wordAt := frOk_base mixed tt_ok ⟨ok_impl_ReadSec, ok_impl_DataAt, ok_impl_LiveAt, trivial⟩
noncomputable def D_impl_wordAt_0 : Nat → Option Seg := fun _ => none
abbrev I_impl_wordAt : List Par := [.rd tA, .rd tI, .rd tI]
abbrev U_impl_wordAt : List OT := [⟨false, tI, .fz⟩, ⟨false, tB, .fz⟩]
noncomputable def raw_impl_wordAt (a0 : dA) (a1 : Int) (a2 : Int) : Option (ResD U_impl_wordAt × MutD I_impl_wordAt) :=
  bif (inb a1 a0.2.2.1.length) then
    let r1 := n_impl_DataAt a2
    let r2 := n_impl_ReadSec ((nth a0.2.2.1 a1 ([], [], false, [])).1, ((nth a0.2.2.1 a1 ([], [], false, [])).2).1, (((nth a0.2.2.1 a1 ([], [], false, [])).2).2)) r1
    let r3 := n_impl_LiveAt a0 a1 a2
    bif (!(!r3)) then
      bif (!(!r2.2)) then
        bif ((r2.1.length : Int) != 1) then
          some ((0, false, ()), ())
        else
          bif (inb 0 r2.1.length) then
            some (((nth r2.1 0 0), true, ()), ())
          else none
      else
        some ((0, false, ()), ())
    else
      some ((0, false, ()), ())
  else none
theorem e_impl_wordAt (x : InD I_impl_wordAt) : execF ⟨E_impl_wordAt, 38, D_impl_wordAt_0⟩ Try.f91.results.toList B_impl_wordAt I_impl_wordAt U_impl_wordAt x = raw_impl_wordAt x.1 x.2.1 x.2.2.1 := by kernel_rfl
theorem ok0_impl_wordAt : ConOk Try.prog 91 ⟨I_impl_wordAt, U_impl_wordAt, fun x => raw_impl_wordAt x.1 x.2.1 x.2.2.1⟩ := conOk_exec (fr_impl_wordAt_0) Try.func91 (by kernel_rfl) (by kernel_rfl) Try.ntmps91.symm (by decide) (fun x r h => (e_impl_wordAt x).trans h)
noncomputable def n_impl_wordAt (a0 : dA) (a1 a2 : Int) : Int × Bool := (word a0 a1 a2, wordOk a0 a1 a2)
noncomputable def q_impl_wordAt (a0 : dA) (a1 a2 : Int) : Bool := inb a1 a0.2.2.1.length
theorem nn_impl_wordAt (a0 : dA) (a1 a2 : Int) (hk : InOk I_impl_wordAt (a0, a1, a2, ())) (hq : q_impl_wordAt a0 a1 a2 = true) : raw_impl_wordAt a0 a1 a2 = (fun n => some ((n.1, n.2, ()), ())) (n_impl_wordAt a0 a1 a2) := by
  unfold raw_impl_wordAt n_impl_wordAt word n_impl_LiveAt
  simp only [pr_eta, impl_dataAt_eq, n_impl_ReadSec]
  rw [show wordOk a0 a1 a2 = (liveAt a0 a1 a2 && ((wordSec a0 a1 a2).2 && ((wordSec a0 a1 a2).1.length : Int) == 1)) from rfl]
  rw [show readSec (nth a0.2.2.1 a1 ([], [], false, [])) (dataAt a2) = wordSec a0 a1 a2 from rfl]
  rw [show inb a1 a0.2.2.1.length = true from hq]
  cases hl : liveAt a0 a1 a2
  · rfl
  · cases (wordSec a0 a1 a2).2
    · rfl
    · rw [bne]
      cases h1 : (((wordSec a0 a1 a2).1.length : Int) == 1)
      · rfl
      · rw [show inb 0 (wordSec a0 a1 a2).1.length = true from inb_iff.2 (by have := beq_iff_eq.1 h1; omega)]; rfl
noncomputable def o_impl_wordAt (a0 : dA) (a1 : Int) (a2 : Int) : Option (ResD U_impl_wordAt × MutD I_impl_wordAt) := bif q_impl_wordAt a0 a1 a2 then (fun n => some ((n.1, n.2, ()), ())) (n_impl_wordAt a0 a1 a2) else none
theorem ot_impl_wordAt (a0 : dA) (a1 : Int) (a2 : Int) (h : q_impl_wordAt a0 a1 a2 = true) : o_impl_wordAt a0 a1 a2 = (fun n => some ((n.1, n.2, ()), ())) (n_impl_wordAt a0 a1 a2) := by unfold o_impl_wordAt; rw [h]; rfl
noncomputable def con_impl_wordAt : Con := ⟨I_impl_wordAt, U_impl_wordAt, fun x => o_impl_wordAt x.1 x.2.1 x.2.2.1⟩
theorem ok_impl_wordAt : ConOk Try.prog 91 con_impl_wordAt := (ok0_impl_wordAt).mono (fun x r hk h => pre_ok h (fun hq => nn_impl_wordAt x.1 x.2.1 x.2.2.1 hk hq))
end

/-! impl_XorAt -/
section
noncomputable def B_impl_XorAt : Code := (Try.f31.body).getD .skip
noncomputable def E_impl_XorAt : Env := envOf TT [(66, con_impl_XorOf), (91, con_impl_wordAt)] []
theorem fr_impl_XorAt_0 : FrOk Try.prog ⟨E_impl_XorAt, 33, fun _ => none⟩ B_impl_XorAt := frOk_base mixed tt_ok ⟨ok_impl_XorOf, ok_impl_wordAt, trivial⟩
noncomputable def D_impl_XorAt_0 : Nat → Option Seg := fun _ => none
def L_impl_XorAt_29 : Shape := ⟨[(1, false, [.int .i64]), (2, false, [.ptr 0 0]), (6, false, [.at 800000000]), (13, false, [.int .i64]), (14, false, [.int .i64])], [(0, [.int .i64, .int .i64, .int .i64, .br tM, .int .i64, .int .i64, .int .i64, .int .i64, .int .i64, .br tW, .int .i64, .bool, .bool])], [(800000000, tI, .fz)]⟩
def S_impl_XorAt_29 : Shape := ⟨[(1, false, [.int .i64]), (2, false, [.ptr 0 0]), (6, false, [.at 800000000]), (13, false, [.int .i64]), (14, false, [.ci .i64 0])], [(0, [.int .i64, .int .i64, .int .i64, .br tM, .int .i64, .int .i64, .int .i64, .int .i64, .int .i64, .br tW, .int .i64, .bool, .bool])], [(800000000, tI, .fz)]⟩
def O_impl_XorAt_29 : Shape := ⟨[(6, false, [.at 800000000])], [], [(800000000, tI, .fz)]⟩
def Z_impl_XorAt_29 : Shape := ⟨[(4, false, [.int .i64]), (5, false, [.bool])], [], []⟩
abbrev mk_impl_XorAt_29 (v0 : Int) (v1 : Int) (v2 : Int) (v3 : dA) (v4 : List Int) : (L_impl_XorAt_29).X := (((v0, ()), ((), ()), ((), ()), (v1, ()), (v2, ()), ()), ((v3.1, v3.2.1.1, v3.2.1.2, v3.2.2.1, v3.2.2.2.1, v3.2.2.2.2.1, v3.2.2.2.2.2.1, v3.2.2.2.2.2.2.1, v3.2.2.2.2.2.2.2.1, v3.2.2.2.2.2.2.2.2.1, v3.2.2.2.2.2.2.2.2.2.1, v3.2.2.2.2.2.2.2.2.2.2.1, v3.2.2.2.2.2.2.2.2.2.2.2, ()), ()), (v4, ()))
abbrev ms_impl_XorAt_29 (v0 : Int) (v1 : Int) (v2 : dA) (v3 : List Int) : (S_impl_XorAt_29).X := (((v0, ()), ((), ()), ((), ()), (v1, ()), ((), ()), ()), ((v2.1, v2.2.1.1, v2.2.1.2, v2.2.2.1, v2.2.2.2.1, v2.2.2.2.2.1, v2.2.2.2.2.2.1, v2.2.2.2.2.2.2.1, v2.2.2.2.2.2.2.2.1, v2.2.2.2.2.2.2.2.2.1, v2.2.2.2.2.2.2.2.2.2.1, v2.2.2.2.2.2.2.2.2.2.2.1, v2.2.2.2.2.2.2.2.2.2.2.2, ()), ()), (v3, ()))
abbrev mo_impl_XorAt_29 (v0 : List Int) : (O_impl_XorAt_29).X := ((((), ()), ()), (), (v0, ()))
abbrev mz_impl_XorAt_29 (v0 : Int) (v1 : Bool) : (Z_impl_XorAt_29).X := (((v0, ()), (v1, ()), ()), (), ())
noncomputable def st_impl_XorAt_29 (v0 : Int) (v1 : Int) (v2 : Int) (v3 : Int) (v4 : Int) (v5 : Int) (v6 : List dM) (v7 : Int) (v8 : Int) (v9 : Int) (v10 : Int) (v11 : Int) (v12 : List dW) (v13 : Int) (v14 : Bool) (v15 : Bool) (v16 : List Int) : Option ((L_impl_XorAt_29).X ⊕ ((O_impl_XorAt_29).X ⊕ (Z_impl_XorAt_29).X)) :=
  bif (ltb v2 v1) then
    bnd (o_impl_wordAt (v3, (v4, v5), v6, v7, v8, v9, v10, v11, v12, v13, v14, v15) v2 v0) fun r2 =>
    bif (!r2.1.2.1) then
      some (.inr (.inr (((0, ()), (false, ()), ()), (), ())))
    else
      bif (apok v16.length ([r2.1.1] : List Int).length 8) then
        some (.inl (((v0, ()), ((), ()), ((), ()), (v1, ()), ((IntKind.i64.wrap (v2 + 1)), ()), ()), ((v3, v4, v5, v6, v7, v8, v9, v10, v11, v12, v13, v14, v15, ()), ()), ((v16 ++ ([r2.1.1] : List Int)), ())))
      else none
  else
    some (.inr (.inl ((((), ()), ()), (), (v16, ()))))
noncomputable def stx_impl_XorAt_29 (x : (L_impl_XorAt_29).X) := st_impl_XorAt_29 x.1.1.1 x.1.2.2.2.1.1 x.1.2.2.2.2.1.1 x.2.1.1.1 x.2.1.1.2.1 x.2.1.1.2.2.1 x.2.1.1.2.2.2.1 x.2.1.1.2.2.2.2.1 x.2.1.1.2.2.2.2.2.1 x.2.1.1.2.2.2.2.2.2.1 x.2.1.1.2.2.2.2.2.2.2.1 x.2.1.1.2.2.2.2.2.2.2.2.1 x.2.1.1.2.2.2.2.2.2.2.2.2.1 x.2.1.1.2.2.2.2.2.2.2.2.2.2.1 x.2.1.1.2.2.2.2.2.2.2.2.2.2.2.1 x.2.1.1.2.2.2.2.2.2.2.2.2.2.2.2.1 x.2.2.1
def em_impl_XorAt_29 (x : (S_impl_XorAt_29).X) : (L_impl_XorAt_29).X := (((x.1.1.1, ()), ((), ()), ((), ()), (x.1.2.2.2.1.1, ()), (0, ()), ()), ((x.2.1.1.1, x.2.1.1.2.1, x.2.1.1.2.2.1, x.2.1.1.2.2.2.1, x.2.1.1.2.2.2.2.1, x.2.1.1.2.2.2.2.2.1, x.2.1.1.2.2.2.2.2.2.1, x.2.1.1.2.2.2.2.2.2.2.1, x.2.1.1.2.2.2.2.2.2.2.2.1, x.2.1.1.2.2.2.2.2.2.2.2.2.1, x.2.1.1.2.2.2.2.2.2.2.2.2.2.1, x.2.1.1.2.2.2.2.2.2.2.2.2.2.2.1, x.2.1.1.2.2.2.2.2.2.2.2.2.2.2.2.1, ()), ()), (x.2.2.1, ()))
noncomputable def c_impl_XorAt_29 : Code := (subN B_impl_XorAt 64 116).getD .skip
theorem a_impl_XorAt_29 : subN B_impl_XorAt 64 29 = some (.block 0 (.loop c_impl_XorAt_29)) := by kernel_rfl
theorem r_impl_XorAt_29 (x : (L_impl_XorAt_29).X) : roundT ⟨E_impl_XorAt, 33, D_impl_XorAt_0⟩ 0 c_impl_XorAt_29 116 L_impl_XorAt_29 O_impl_XorAt_29 Z_impl_XorAt_29 x = stx_impl_XorAt_29 x := by kernel_rfl
noncomputable def fu_impl_XorAt_29 (x : (S_impl_XorAt_29).X) : Nat := (fun (u0 : Int) (u1 : Int) (u2 : Int) (u3 : Int) (u4 : Int) (u5 : List dM) (u6 : Int) (u7 : Int) (u8 : Int) (u9 : Int) (u10 : Int) (u11 : List dW) (u12 : Int) (u13 : Bool) (u14 : Bool) (u15 : List Int) => 18446744073709551616) x.1.1.1 x.1.2.2.2.1.1 x.2.1.1.1 x.2.1.1.2.1 x.2.1.1.2.2.1 x.2.1.1.2.2.2.1 x.2.1.1.2.2.2.2.1 x.2.1.1.2.2.2.2.2.1 x.2.1.1.2.2.2.2.2.2.1 x.2.1.1.2.2.2.2.2.2.2.1 x.2.1.1.2.2.2.2.2.2.2.2.1 x.2.1.1.2.2.2.2.2.2.2.2.2.1 x.2.1.1.2.2.2.2.2.2.2.2.2.2.1 x.2.1.1.2.2.2.2.2.2.2.2.2.2.2.1 x.2.1.1.2.2.2.2.2.2.2.2.2.2.2.2.1 x.2.2.1
noncomputable def F_impl_XorAt_29 (x : (S_impl_XorAt_29).X) : Option ((O_impl_XorAt_29).X ⊕ (Z_impl_XorAt_29).X) := loopN stx_impl_XorAt_29 (fu_impl_XorAt_29 x) (em_impl_XorAt_29 x)
noncomputable def sg_impl_XorAt_29 : Seg := ⟨S_impl_XorAt_29, O_impl_XorAt_29, Z_impl_XorAt_29, F_impl_XorAt_29⟩
noncomputable def D_impl_XorAt_1 : Nat → Option Seg := fun q => bif Nat.beq q 29 then some sg_impl_XorAt_29 else D_impl_XorAt_0 q
theorem fr_impl_XorAt_1 : FrOk Try.prog ⟨E_impl_XorAt, 33, D_impl_XorAt_1⟩ B_impl_XorAt := (fr_impl_XorAt_0).loop (sg := sg_impl_XorAt_29) L_impl_XorAt_29 em_impl_XorAt_29 (by decide) a_impl_XorAt_29 stx_impl_XorAt_29 fu_impl_XorAt_29 (by decide) (fun _ => rfl) (fun x r _ h => h) r_impl_XorAt_29
abbrev I_impl_XorAt : List Par := [.rd tA, .rd tI]
abbrev U_impl_XorAt : List OT := [⟨false, tI, .fz⟩, ⟨false, tB, .fz⟩]
noncomputable def raw_impl_XorAt (a0 : dA) (a1 : Int) : Option (ResD U_impl_XorAt × MutD I_impl_XorAt) :=
  segM (F_impl_XorAt_29 (((a1, ()), ((), ()), ((), ()), ((a0.2.2.1.length : Int), ()), ((), ()), ()), ((a0.1, a0.2.1.1, a0.2.1.2, a0.2.2.1, a0.2.2.2.1, a0.2.2.2.2.1, a0.2.2.2.2.2.1, a0.2.2.2.2.2.2.1, a0.2.2.2.2.2.2.2.1, a0.2.2.2.2.2.2.2.2.1, a0.2.2.2.2.2.2.2.2.2.1, a0.2.2.2.2.2.2.2.2.2.2.1, a0.2.2.2.2.2.2.2.2.2.2.2, ()), ()), (([] : List Int), ()))) (fun y2 =>
    let r4 := n_impl_XorOf y2.2.2.1
    some ((r4, true, ()), ())) (fun y2 =>
    some ((y2.1.1.1, y2.1.2.1.1, ()), ()))
theorem e_impl_XorAt (x : InD I_impl_XorAt) : execF ⟨E_impl_XorAt, 33, D_impl_XorAt_1⟩ Try.f31.results.toList B_impl_XorAt I_impl_XorAt U_impl_XorAt x = raw_impl_XorAt x.1 x.2.1 := by kernel_rfl
theorem ok0_impl_XorAt : ConOk Try.prog 31 ⟨I_impl_XorAt, U_impl_XorAt, fun x => raw_impl_XorAt x.1 x.2.1⟩ := conOk_exec (fr_impl_XorAt_1) Try.func31 (by kernel_rfl) (by kernel_rfl) Try.ntmps31.symm (by decide) (fun x r h => (e_impl_XorAt x).trans h)
noncomputable def n_impl_XorAt (a0 : dA) (a1 : Int) : Int × Bool := xorAt a0 a1
theorem foldl_snoc {α β : Type} (f : α → β) : ∀ (l : List α) (s : List β), l.foldl (fun s i => s ++ [f i]) s = s ++ l.map f
  | [], s => by simp
  | x :: l, s => by rw [List.foldl_cons, foldl_snoc f l]; simp
theorem nn_impl_XorAt (a0 : dA) (a1 : Int) (hk : InOk I_impl_XorAt (a0, a1, ())) : raw_impl_XorAt a0 a1 = (fun n => some ((n.1, n.2, ()), ())) (n_impl_XorAt a0 a1) := by
  have hb : a0.2.2.1.length * 80 ≤ 2 ^ 47 := hk.1.2.2.1.1
  have h1 : F_impl_XorAt_29 (ms_impl_XorAt_29 a1 a0.2.2.1.length a0 []) = some (bif allWords a0 a1 then .inl (mo_impl_XorAt_29 ((List.range a0.2.2.1.length).foldl (fun n (i : Nat) => n ++ [word a0 i a1]) [])) else .inr (mz_impl_XorAt_29 0 false)) :=
    loopN_foldE (step := stx_impl_XorAt_29) a0.2.2.1.length (fun i s => mk_impl_XorAt_29 a1 a0.2.2.1.length i a0 s) (fun (i : Nat) => wordOk a0 i a1) (fun n (i : Nat) => n ++ [word a0 i a1]) (fun i s => s.length = i) (fun s => .inl (mo_impl_XorAt_29 s)) _ (fun i s hi hs => ⟨by
      simp only [stx_impl_XorAt_29, mk_impl_XorAt_29, st_impl_XorAt_29, ltb_t (show (i : Int) < a0.2.2.1.length by omega), cond_true, wr (show -9223372036854775808 ≤ (i : Int) + 1 by omega) (by omega), Int.natCast_add, Int.natCast_one, Int.toNat_natCast, pr_eta, ot_impl_wordAt a0 i a1 (inb_nat hi), n_impl_wordAt, bnd_some]
      rw [show apok s.length ([word a0 i a1] : List Int).length 8 = true from apok_iff.2 (by simp only [List.length_cons, List.length_nil]; omega)]
      cases wordOk a0 i a1 <;> rfl, fun _ => by simp [hs]⟩) (fun s _ => by simp only [stx_impl_XorAt_29, mk_impl_XorAt_29, st_impl_XorAt_29, ltb_f (Int.le_refl _), cond_false]) [] rfl _ (by show _ < 18446744073709551616; omega)
  unfold raw_impl_XorAt n_impl_XorAt xorAt n_impl_XorOf
  rw [h1, foldl_snoc, List.nil_append]
  cases allWords a0 a1 <;> rfl
noncomputable def con_impl_XorAt : Con := ⟨I_impl_XorAt, U_impl_XorAt, fun x => (fun n => some ((n.1, n.2, ()), ())) (n_impl_XorAt x.1 x.2.1)⟩
theorem ok_impl_XorAt : ConOk Try.prog 31 con_impl_XorAt := (ok0_impl_XorAt).mono (fun x r hk h => (nn_impl_XorAt x.1 x.2.1 hk).trans h)
end

/-! impl_Even -/
section
noncomputable def B_impl_Even : Code := (Try.f33.body).getD .skip
noncomputable def E_impl_Even : Env := envOf TT [(31, con_impl_XorAt)] []
theorem fr_impl_Even_0 : FrOk Try.prog ⟨E_impl_Even, 28, fun _ => none⟩ B_impl_Even := frOk_base mixed tt_ok ⟨ok_impl_XorAt, trivial⟩
noncomputable def D_impl_Even_0 : Nat → Option Seg := fun _ => none
def L_impl_Even_13 : Shape := ⟨[(1, false, [.ptr 0 0]), (3, false, [.int .i64])], [(0, [.int .i64, .int .i64, .int .i64, .br tM, .int .i64, .int .i64, .int .i64, .int .i64, .int .i64, .br tW, .int .i64, .bool, .bool])], []⟩
def S_impl_Even_13 : Shape := ⟨[(1, false, [.ptr 0 0]), (3, false, [.ci .i64 0])], [(0, [.int .i64, .int .i64, .int .i64, .br tM, .int .i64, .int .i64, .int .i64, .int .i64, .int .i64, .br tW, .int .i64, .bool, .bool])], []⟩
def O_impl_Even_13 : Shape := ⟨[], [], []⟩
def Z_impl_Even_13 : Shape := ⟨[(2, false, [.bool])], [], []⟩
abbrev mk_impl_Even_13 (v0 : Int) (v1 : dA) : (L_impl_Even_13).X := ((((), ()), (v0, ()), ()), ((v1.1, v1.2.1.1, v1.2.1.2, v1.2.2.1, v1.2.2.2.1, v1.2.2.2.2.1, v1.2.2.2.2.2.1, v1.2.2.2.2.2.2.1, v1.2.2.2.2.2.2.2.1, v1.2.2.2.2.2.2.2.2.1, v1.2.2.2.2.2.2.2.2.2.1, v1.2.2.2.2.2.2.2.2.2.2.1, v1.2.2.2.2.2.2.2.2.2.2.2, ()), ()), ())
abbrev ms_impl_Even_13 (v0 : dA) : (S_impl_Even_13).X := ((((), ()), ((), ()), ()), ((v0.1, v0.2.1.1, v0.2.1.2, v0.2.2.1, v0.2.2.2.1, v0.2.2.2.2.1, v0.2.2.2.2.2.1, v0.2.2.2.2.2.2.1, v0.2.2.2.2.2.2.2.1, v0.2.2.2.2.2.2.2.2.1, v0.2.2.2.2.2.2.2.2.2.1, v0.2.2.2.2.2.2.2.2.2.2.1, v0.2.2.2.2.2.2.2.2.2.2.2, ()), ()), ())
abbrev mo_impl_Even_13  : (O_impl_Even_13).X := ((), (), ())
abbrev mz_impl_Even_13 (v0 : Bool) : (Z_impl_Even_13).X := (((v0, ()), ()), (), ())
noncomputable def st_impl_Even_13 (v0 : Int) (v1 : Int) (v2 : Int) (v3 : Int) (v4 : List dM) (v5 : Int) (v6 : Int) (v7 : Int) (v8 : Int) (v9 : Int) (v10 : List dW) (v11 : Int) (v12 : Bool) (v13 : Bool) : Option ((L_impl_Even_13).X ⊕ ((O_impl_Even_13).X ⊕ (Z_impl_Even_13).X)) :=
  bif (ltb v0 v3) then
    bif (ltb v0 20) then
      let r2 := n_impl_XorAt (v1, (v2, v3), v4, v5, v6, v7, v8, v9, v10, v11, v12, v13) v0
      bif r2.2 then
        bif (r2.1 != 0) then
          some (.inr (.inr (((false, ()), ()), (), ())))
        else
          some (.inl ((((), ()), ((IntKind.i64.wrap (v0 + 1)), ()), ()), ((v1, v2, v3, v4, v5, v6, v7, v8, v9, v10, v11, v12, v13, ()), ()), ()))
      else
        some (.inl ((((), ()), ((IntKind.i64.wrap (v0 + 1)), ()), ()), ((v1, v2, v3, v4, v5, v6, v7, v8, v9, v10, v11, v12, v13, ()), ()), ()))
    else
      some (.inr (.inl ((), (), ())))
  else
    some (.inr (.inl ((), (), ())))
noncomputable def stx_impl_Even_13 (x : (L_impl_Even_13).X) := st_impl_Even_13 x.1.2.1.1 x.2.1.1.1 x.2.1.1.2.1 x.2.1.1.2.2.1 x.2.1.1.2.2.2.1 x.2.1.1.2.2.2.2.1 x.2.1.1.2.2.2.2.2.1 x.2.1.1.2.2.2.2.2.2.1 x.2.1.1.2.2.2.2.2.2.2.1 x.2.1.1.2.2.2.2.2.2.2.2.1 x.2.1.1.2.2.2.2.2.2.2.2.2.1 x.2.1.1.2.2.2.2.2.2.2.2.2.2.1 x.2.1.1.2.2.2.2.2.2.2.2.2.2.2.1 x.2.1.1.2.2.2.2.2.2.2.2.2.2.2.2.1
def em_impl_Even_13 (x : (S_impl_Even_13).X) : (L_impl_Even_13).X := ((((), ()), (0, ()), ()), ((x.2.1.1.1, x.2.1.1.2.1, x.2.1.1.2.2.1, x.2.1.1.2.2.2.1, x.2.1.1.2.2.2.2.1, x.2.1.1.2.2.2.2.2.1, x.2.1.1.2.2.2.2.2.2.1, x.2.1.1.2.2.2.2.2.2.2.1, x.2.1.1.2.2.2.2.2.2.2.2.1, x.2.1.1.2.2.2.2.2.2.2.2.2.1, x.2.1.1.2.2.2.2.2.2.2.2.2.2.1, x.2.1.1.2.2.2.2.2.2.2.2.2.2.2.1, x.2.1.1.2.2.2.2.2.2.2.2.2.2.2.2.1, ()), ()), ())
noncomputable def c_impl_Even_13 : Code := (subN B_impl_Even 64 52).getD .skip
theorem a_impl_Even_13 : subN B_impl_Even 64 13 = some (.block 0 (.loop c_impl_Even_13)) := by kernel_rfl
theorem r_impl_Even_13 (x : (L_impl_Even_13).X) : roundT ⟨E_impl_Even, 28, D_impl_Even_0⟩ 0 c_impl_Even_13 52 L_impl_Even_13 O_impl_Even_13 Z_impl_Even_13 x = stx_impl_Even_13 x := by kernel_rfl
noncomputable def fu_impl_Even_13 (x : (S_impl_Even_13).X) : Nat := (fun (u0 : Int) (u1 : Int) (u2 : Int) (u3 : List dM) (u4 : Int) (u5 : Int) (u6 : Int) (u7 : Int) (u8 : Int) (u9 : List dW) (u10 : Int) (u11 : Bool) (u12 : Bool) => 18446744073709551616) x.2.1.1.1 x.2.1.1.2.1 x.2.1.1.2.2.1 x.2.1.1.2.2.2.1 x.2.1.1.2.2.2.2.1 x.2.1.1.2.2.2.2.2.1 x.2.1.1.2.2.2.2.2.2.1 x.2.1.1.2.2.2.2.2.2.2.1 x.2.1.1.2.2.2.2.2.2.2.2.1 x.2.1.1.2.2.2.2.2.2.2.2.2.1 x.2.1.1.2.2.2.2.2.2.2.2.2.2.1 x.2.1.1.2.2.2.2.2.2.2.2.2.2.2.1 x.2.1.1.2.2.2.2.2.2.2.2.2.2.2.2.1
noncomputable def F_impl_Even_13 (x : (S_impl_Even_13).X) : Option ((O_impl_Even_13).X ⊕ (Z_impl_Even_13).X) := loopN stx_impl_Even_13 (fu_impl_Even_13 x) (em_impl_Even_13 x)
noncomputable def sg_impl_Even_13 : Seg := ⟨S_impl_Even_13, O_impl_Even_13, Z_impl_Even_13, F_impl_Even_13⟩
noncomputable def D_impl_Even_1 : Nat → Option Seg := fun q => bif Nat.beq q 13 then some sg_impl_Even_13 else D_impl_Even_0 q
theorem fr_impl_Even_1 : FrOk Try.prog ⟨E_impl_Even, 28, D_impl_Even_1⟩ B_impl_Even := (fr_impl_Even_0).loop (sg := sg_impl_Even_13) L_impl_Even_13 em_impl_Even_13 (by decide) a_impl_Even_13 stx_impl_Even_13 fu_impl_Even_13 (by decide) (fun _ => rfl) (fun x r _ h => h) r_impl_Even_13
abbrev I_impl_Even : List Par := [.rd tA]
abbrev U_impl_Even : List OT := [⟨false, tB, .fz⟩]
noncomputable def raw_impl_Even (a0 : dA) : Option (ResD U_impl_Even × MutD I_impl_Even) :=
  segM (F_impl_Even_13 ((((), ()), ((), ()), ()), ((a0.1, a0.2.1.1, a0.2.1.2, a0.2.2.1, a0.2.2.2.1, a0.2.2.2.2.1, a0.2.2.2.2.2.1, a0.2.2.2.2.2.2.1, a0.2.2.2.2.2.2.2.1, a0.2.2.2.2.2.2.2.2.1, a0.2.2.2.2.2.2.2.2.2.1, a0.2.2.2.2.2.2.2.2.2.2.1, a0.2.2.2.2.2.2.2.2.2.2.2, ()), ()), ())) (fun y2 =>
    some ((true, ()), ())) (fun y2 =>
    some ((y2.1.1.1, ()), ()))
theorem e_impl_Even (x : InD I_impl_Even) : execF ⟨E_impl_Even, 28, D_impl_Even_1⟩ Try.f33.results.toList B_impl_Even I_impl_Even U_impl_Even x = raw_impl_Even x.1 := by kernel_rfl
theorem ok0_impl_Even : ConOk Try.prog 33 ⟨I_impl_Even, U_impl_Even, fun x => raw_impl_Even x.1⟩ := conOk_exec (fr_impl_Even_1) Try.func33 (by kernel_rfl) (by kernel_rfl) Try.ntmps33.symm (by decide) (fun x r h => (e_impl_Even x).trans h)
noncomputable def n_impl_Even (a0 : dA) : Bool := evenA a0
theorem nn_impl_Even (a0 : dA) (hk : InOk I_impl_Even (a0, ())) : raw_impl_Even a0 = (fun n => some ((n, ()), ())) (n_impl_Even a0) := by
  have h1 : F_impl_Even_13 (ms_impl_Even_13 a0) = some (bif (List.range (min a0.2.1.2.toNat 20)).any (fun (s : Nat) => (xorAt a0 s).2 && (xorAt a0 s).1 != 0) then .inr (mz_impl_Even_13 false) else .inl mo_impl_Even_13) :=
    loopN_all (step := stx_impl_Even_13) (fun i => mk_impl_Even_13 i a0) (min a0.2.1.2.toNat 20) _ _ _ (fun i hi => by
      simp only [stx_impl_Even_13, mk_impl_Even_13, st_impl_Even_13, ltb_t (show (i : Int) < a0.2.1.2 by omega), cond_true, wr (show -9223372036854775808 ≤ (i : Int) + 1 by omega) (by omega), Int.natCast_add, Int.natCast_one, Int.toNat_natCast, ltb_t (show (i : Int) < 20 by omega), pr_eta, n_impl_XorAt]
      cases (xorAt a0 i).2 <;> cases ((xorAt a0 i).1 != 0) <;> rfl) (by
      simp only [stx_impl_Even_13, mk_impl_Even_13, st_impl_Even_13]
      by_cases h : a0.2.1.2 ≤ ((min a0.2.1.2.toNat 20 : Nat) : Int)
      · rw [ltb_f h]; rfl
      · rw [ltb_t (by omega), ltb_f (show (20 : Int) ≤ ((min a0.2.1.2.toNat 20 : Nat) : Int) by omega)]; rfl) _ (by show _ < 18446744073709551616; omega)
  unfold raw_impl_Even n_impl_Even evenA
  rw [h1, List.all_eq_not_any_not]; simp only [Bool.not_not]
  cases (List.range (min a0.2.1.2.toNat 20)).any (fun (s : Nat) => (xorAt a0 s).2 && (xorAt a0 s).1 != 0) <;> rfl
noncomputable def con_impl_Even : Con := ⟨I_impl_Even, U_impl_Even, fun x => (fun n => some ((n, ()), ())) (n_impl_Even x.1)⟩
theorem ok_impl_Even : ConOk Try.prog 33 con_impl_Even := (ok0_impl_Even).mono (fun x r hk h => (nn_impl_Even x.1 hk).trans h)
end

/-! laws_FnExactEven -/
section
noncomputable def B_laws_FnExactEven : Code := (Try.f6.body).getD .skip
noncomputable def E_laws_FnExactEven : Env := envOf TT [(25, con_laws_szArr), (27, con_laws_toArr), (29, con_laws_eqArr), (32, con_spec_Even), (33, con_impl_Even)] []
theorem fr_laws_FnExactEven_0 : FrOk Try.prog ⟨E_laws_FnExactEven, 27, fun _ => none⟩ B_laws_FnExactEven := frOk_base mixed tt_ok ⟨ok_laws_szArr, ok_laws_toArr, ok_laws_eqArr, ok_spec_Even, ok_impl_Even, trivial⟩
noncomputable def D_laws_FnExactEven_0 : Nat → Option Seg := fun _ => none
abbrev I_laws_FnExactEven : List Par := [.rd tA]
abbrev U_laws_FnExactEven : List OT := [⟨false, tB, .fz⟩]
noncomputable def raw_laws_FnExactEven (a0 : dA) : Option (ResD U_laws_FnExactEven × MutD I_laws_FnExactEven) :=
  let r1 := n_laws_szArr a0 1048576
  bif (ltb r1 0) then
    some ((true, ()), ())
  else
    let r2 := n_laws_toArr a0
    let r3 := n_spec_Even r2
    let r4 := n_laws_toArr a0
    let r5 := n_impl_Even r4
    bif (!(r5 == r3)) then
      some ((false, ()), ())
    else
      let r6 := n_laws_toArr a0
      let r7 := n_laws_eqArr r4 r6
      bif (!r7) then
        some ((false, ()), ())
      else
        some ((true, ()), ())
theorem e_laws_FnExactEven (x : InD I_laws_FnExactEven) : execF ⟨E_laws_FnExactEven, 27, D_laws_FnExactEven_0⟩ Try.f6.results.toList B_laws_FnExactEven I_laws_FnExactEven U_laws_FnExactEven x = raw_laws_FnExactEven x.1 := by kernel_rfl
theorem ok0_laws_FnExactEven : ConOk Try.prog 6 ⟨I_laws_FnExactEven, U_laws_FnExactEven, fun x => raw_laws_FnExactEven x.1⟩ := conOk_exec (fr_laws_FnExactEven_0) Try.func6 (by kernel_rfl) (by kernel_rfl) Try.ntmps6.symm (by decide) (fun x r h => (e_laws_FnExactEven x).trans h)
noncomputable def n_laws_FnExactEven (a0 : dA) : Bool := true
theorem nn_laws_FnExactEven (a0 : dA) (hk : InOk I_laws_FnExactEven (a0, ())) : raw_laws_FnExactEven a0 = (fun n => some ((n, ()), ())) (n_laws_FnExactEven a0) := by
  unfold raw_laws_FnExactEven n_laws_FnExactEven n_impl_Even n_spec_Even
  simp only [id_laws_toArr, beq_self_eq_true, Bool.not_true, cond_false, eqr_laws_eqArr]
  cases ltb (n_laws_szArr a0 1048576) 0 <;> rfl
noncomputable def con_laws_FnExactEven : Con := ⟨I_laws_FnExactEven, U_laws_FnExactEven, fun x => (fun n => some ((n, ()), ())) (n_laws_FnExactEven x.1)⟩
theorem ok_laws_FnExactEven : ConOk Try.prog 6 con_laws_FnExactEven := (ok0_laws_FnExactEven).mono (fun x r hk h => (nn_laws_FnExactEven x.1 hk).trans h)
end
end Go.Tf
