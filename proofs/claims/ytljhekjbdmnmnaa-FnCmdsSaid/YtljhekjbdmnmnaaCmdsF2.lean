/- Functions of the program, and what they come to. -/
import Derived.Test.YtljhekjbdmnmnaaCmdsF1
namespace Go.Tf
open Go.Proofs
set_option linter.unusedVariables false
set_option linter.unusedSimpArgs false
set_option maxRecDepth 100000
/-! impl_GetCmd -/
section
noncomputable def B_impl_GetCmd : Code := (Try.f23.body).getD .skip
noncomputable def E_impl_GetCmd : Env := envOf TT [(18, con_impl_PutCmd), (42, con_impl_copyInts)] []
theorem fr_impl_GetCmd_0 : FrOk Try.prog ⟨E_impl_GetCmd, 40, fun _ => none⟩ B_impl_GetCmd := frOk_base mixed tt_ok ⟨ok_impl_PutCmd, ok_impl_copyInts, trivial⟩
noncomputable def D_impl_GetCmd_0 : Nat → Option Seg := fun _ => none
abbrev I_impl_GetCmd : List Par := [.rd tL]
abbrev U_impl_GetCmd : List OT := [⟨false, tC, (.pr .fz (.pr .fz (.pr .fz (.pr .fz (.ow .fz)))))⟩, ⟨false, tB, .fz⟩]
noncomputable def raw_impl_GetCmd (a0 : List Int) : Option (ResD U_impl_GetCmd × MutD I_impl_GetCmd) :=
  bif (!(ltb (a0.length : Int) 5)) then
    bif (inb 4 a0.length) then
      bif ((nth a0 4 0) != (IntKind.i64.wrap ((a0.length : Int) - 5))) then
        some (((0, 0, 0, 0, []), false, ()), ())
      else
        bif (inb 0 a0.length) then
          bif (inb 1 a0.length) then
            bif (inb 2 a0.length) then
              bif (inb 3 a0.length) then
                bif (cutok 5 (a0.length : Int) a0.length) then
                  let r1 := n_impl_copyInts ((a0.drop (5 : Int).toNat).take ((a0.length : Int) - 5).toNat)
                  bnd (raw_impl_PutCmd ((nth a0 0 0), (nth a0 1 0), (nth a0 2 0), (nth a0 3 0), r1)) fun r2 =>
                  bif ((r2.1.1.length : Int) == 0) then
                    some (((0, 0, 0, 0, []), false, ()), ())
                  else
                    some ((((nth a0 0 0), (nth a0 1 0), (nth a0 2 0), (nth a0 3 0), r1), true, ()), ())
                else none
              else none
            else none
          else none
        else none
    else none
  else
    some (((0, 0, 0, 0, []), false, ()), ())
theorem e_impl_GetCmd (x : InD I_impl_GetCmd) : execF ⟨E_impl_GetCmd, 40, D_impl_GetCmd_0⟩ Try.f23.results.toList B_impl_GetCmd I_impl_GetCmd U_impl_GetCmd x = raw_impl_GetCmd x.1 := by kernel_rfl
theorem ok0_impl_GetCmd : ConOk Try.prog 23 ⟨I_impl_GetCmd, U_impl_GetCmd, fun x => raw_impl_GetCmd x.1⟩ := conOk_exec (fr_impl_GetCmd_0) Try.func23 (by kernel_rfl) (by kernel_rfl) Try.ntmps23.symm (by decide) (fun x r h => (e_impl_GetCmd x).trans h)
noncomputable def n_impl_GetCmd (l : List Int) : (Int × Int × Int × Int × List Int) × Bool := n_spec_GetCmd l
theorem nn_impl_GetCmd (a0 : List Int) (hk : InOk I_impl_GetCmd (a0, ())) : raw_impl_GetCmd a0 = (fun n => some ((n.1, n.2, ()), ())) (n_impl_GetCmd a0) := by
  have hb : a0.length * 8 ≤ 2 ^ 47 := hk.1.1
  unfold raw_impl_GetCmd n_impl_GetCmd n_spec_GetCmd n_impl_copyInts
  by_cases h : (a0.length : Int) < 5
  · rw [ltb_t h, leb_f h]; rfl
  · have ht : (a0.drop (5 : Int).toNat).take ((a0.length : Int) - 5).toNat = a0.drop 5 := List.take_of_length_le (by rw [List.length_drop]; show a0.length - 5 ≤ _; omega)
    rw [ltb_f (Int.not_lt.1 h), leb_t (Int.not_lt.1 h)]
    simp only [Bool.not_false, cond_true, inb_iff.2 (show (0 : Int) ≤ 4 ∧ (4 : Int) < a0.length by omega), inb_iff.2 (show (0 : Int) ≤ 0 ∧ (0 : Int) < a0.length by omega), inb_iff.2 (show (0 : Int) ≤ 1 ∧ (1 : Int) < a0.length by omega),
      inb_iff.2 (show (0 : Int) ≤ 2 ∧ (2 : Int) < a0.length by omega), inb_iff.2 (show (0 : Int) ≤ 3 ∧ (3 : Int) < a0.length by omega), cutok_iff.2 (show (0 : Int) ≤ 5 ∧ (5 : Int) ≤ a0.length ∧ (a0.length : Int) ≤ a0.length by omega), ht,
      w_impl_PutCmd (nth a0 0 0, nth a0 1 0, nth a0 2 0, nth a0 3 0, a0.drop 5) (by show (a0.drop 5).length ≤ _; rw [List.length_drop]; omega),
      bnd_some, wr (show -9223372036854775808 ≤ (a0.length : Int) - 5 by omega) (by omega), bne, Bool.true_and]
    cases (nth a0 4 0 == (a0.length : Int) - 5)
    · rfl
    · cases (((pPut (nth a0 0 0, nth a0 1 0, nth a0 2 0, nth a0 3 0, a0.drop 5)).length : Int) == 0) <;> rfl
noncomputable def con_impl_GetCmd : Con := ⟨I_impl_GetCmd, U_impl_GetCmd, fun x => (fun n => some ((n.1, n.2, ()), ())) (n_impl_GetCmd x.1)⟩
theorem ok_impl_GetCmd : ConOk Try.prog 23 con_impl_GetCmd := (ok0_impl_GetCmd).mono (fun x r hk h => (nn_impl_GetCmd x.1 hk).trans h)
end

/-! laws_big -/
section
noncomputable def B_laws_big : Code := (Try.f25.body).getD .skip
noncomputable def E_laws_big : Env := envOf TT [] []
theorem fr_laws_big_0 : FrOk Try.prog ⟨E_laws_big, 6, fun _ => none⟩ B_laws_big := frOk_base mixed tt_ok trivial
noncomputable def D_laws_big_0 : Nat → Option Seg := fun _ => none
abbrev I_laws_big : List Par := [.rd tYs]
abbrev U_laws_big : List OT := [⟨false, tB, .fz⟩]
noncomputable def raw_laws_big (a0 : List Int) : Option (ResD U_laws_big × MutD I_laws_big) :=
  some (((ltb 1048576 (a0.length : Int)), ()), ())
theorem e_laws_big (x : InD I_laws_big) : execF ⟨E_laws_big, 6, D_laws_big_0⟩ Try.f25.results.toList B_laws_big I_laws_big U_laws_big x = raw_laws_big x.1 := by kernel_rfl
theorem ok0_laws_big : ConOk Try.prog 25 ⟨I_laws_big, U_laws_big, fun x => raw_laws_big x.1⟩ := conOk_exec (fr_laws_big_0) Try.func25 (by kernel_rfl) (by kernel_rfl) Try.ntmps25.symm (by decide) (fun x r h => (e_laws_big x).trans h)
noncomputable def n_laws_big (a0 : List Int) : Bool :=
  (ltb 1048576 (a0.length : Int))
noncomputable def con_laws_big : Con := ⟨I_laws_big, U_laws_big, fun x => (fun n => some ((n, ()), ())) (n_laws_big x.1)⟩
theorem nn_laws_big (a0 : List Int) : raw_laws_big a0 = (fun n => some ((n, ()), ())) (n_laws_big a0) := bif_ty (p := fun (n : Bool) => ((n, ()), ())) rfl
theorem ok_laws_big : ConOk Try.prog 25 con_laws_big := (ok0_laws_big).mono (fun x r _ h => (nn_laws_big x.1).trans h)
end

/-! spec_l1New -/
section
noncomputable def B_spec_l1New : Code := (Try.f43.body).getD .skip
noncomputable def E_spec_l1New : Env := envOf TT [] []
theorem fr_spec_l1New_0 : FrOk Try.prog ⟨E_spec_l1New, 32, fun _ => none⟩ B_spec_l1New := frOk_base mixed tt_ok trivial
noncomputable def D_spec_l1New_0 : Nat → Option Seg := fun _ => none
def L_spec_l1New_29 : Shape := ⟨[(0, false, [.fz tY]), (3, false, [.int .i64]), (4, false, [.int .i64])], [], []⟩
def S_spec_l1New_29 : Shape := ⟨[(0, false, [.fz tY]), (3, false, [.int .i64]), (4, false, [.ci .i64 0])], [], []⟩
def O_spec_l1New_29 : Shape := ⟨[(0, false, [.fz tY]), (3, false, [.int .i64])], [], []⟩
def Z_spec_l1New_29 : Shape := ⟨[], [], []⟩
noncomputable def st_spec_l1New_29 (v0 : List Int) (v1 : Int) (v2 : Int) : Option ((L_spec_l1New_29).X ⊕ ((O_spec_l1New_29).X ⊕ (Z_spec_l1New_29).X)) :=
  bif (ltb v2 (v0.length : Int)) then
    bif (ltb v2 4000) then
      bif (inb v2 v0.length) then
        some (.inl (((v0, ()), ((IntKind.i64.wrap ((BitVec.ofInt IntKind.i64.bits (IntKind.i64.wrap ((IntKind.i64.wrap ((IntKind.i64.wrap (v1 * 137)) + (IntKind.i64.wrap (nth v0 v2 0)))) + 11)) &&& BitVec.ofInt IntKind.i64.bits 1073741823).toNat : Int)), ()), ((IntKind.i64.wrap (v2 + 1)), ()), ()), (), ()))
      else none
    else
      some (.inr (.inl (((v0, ()), (v1, ()), ()), (), ())))
  else
    some (.inr (.inl (((v0, ()), (v1, ()), ()), (), ())))
noncomputable def stx_spec_l1New_29 (x : (L_spec_l1New_29).X) := st_spec_l1New_29 x.1.1.1 x.1.2.1.1 x.1.2.2.1.1
def em_spec_l1New_29 (x : (S_spec_l1New_29).X) : (L_spec_l1New_29).X := (((x.1.1.1, ()), (x.1.2.1.1, ()), (0, ()), ()), (), ())
noncomputable def c_spec_l1New_29 : Code := (subN B_spec_l1New 64 116).getD .skip
theorem a_spec_l1New_29 : subN B_spec_l1New 64 29 = some (.block 0 (.loop c_spec_l1New_29)) := by kernel_rfl
theorem r_spec_l1New_29 (x : (L_spec_l1New_29).X) : roundT ⟨E_spec_l1New, 32, D_spec_l1New_0⟩ 0 c_spec_l1New_29 116 L_spec_l1New_29 O_spec_l1New_29 Z_spec_l1New_29 x = stx_spec_l1New_29 x := by kernel_rfl
noncomputable def fu_spec_l1New_29 (x : (S_spec_l1New_29).X) : Nat := (fun (u0 : List Int) (u1 : Int) => 18446744073709551616) x.1.1.1 x.1.2.1.1
noncomputable def F_spec_l1New_29 (x : (S_spec_l1New_29).X) : Option ((O_spec_l1New_29).X ⊕ (Z_spec_l1New_29).X) := loopN stx_spec_l1New_29 (fu_spec_l1New_29 x) (em_spec_l1New_29 x)
noncomputable def sg_spec_l1New_29 : Seg := ⟨S_spec_l1New_29, O_spec_l1New_29, Z_spec_l1New_29, F_spec_l1New_29⟩
noncomputable def D_spec_l1New_1 : Nat → Option Seg := fun q => bif Nat.beq q 29 then some sg_spec_l1New_29 else D_spec_l1New_0 q
theorem fr_spec_l1New_1 : FrOk Try.prog ⟨E_spec_l1New, 32, D_spec_l1New_1⟩ B_spec_l1New := (fr_spec_l1New_0).loop (sg := sg_spec_l1New_29) L_spec_l1New_29 em_spec_l1New_29 (by decide) a_spec_l1New_29 stx_spec_l1New_29 fu_spec_l1New_29 (by decide) (fun _ => rfl) (fun x r _ h => h) r_spec_l1New_29
abbrev I_spec_l1New : List Par := [.kp tYs .fz]
abbrev U_spec_l1New : List OT := [⟨true, tU, .fz⟩]
noncomputable def raw_spec_l1New (a0 : List Int) : Option (ResD U_spec_l1New × MutD I_spec_l1New) :=
  segM (F_spec_l1New_29 (((a0, ()), ((IntKind.i64.wrap (770770 + (a0.length : Int))), ()), ((), ()), ()), (), ())) (fun y0 =>
    some (((y0.1.1.1, 0, y0.1.2.1.1), ()), ())) (fun y0 =>
    none)
theorem e_spec_l1New (x : InD I_spec_l1New) : execF ⟨E_spec_l1New, 32, D_spec_l1New_1⟩ Try.f43.results.toList B_spec_l1New I_spec_l1New U_spec_l1New x = raw_spec_l1New x.1 := by kernel_rfl
theorem ok0_spec_l1New : ConOk Try.prog 43 ⟨I_spec_l1New, U_spec_l1New, fun x => raw_spec_l1New x.1⟩ := conOk_exec (fr_spec_l1New_1) Try.func43 (by kernel_rfl) (by kernel_rfl) Try.ntmps43.symm (by decide) (fun x r h => (e_spec_l1New x).trans h)
noncomputable def n_spec_l1New (a0 : List Int) : List Int × Int × Int := (((raw_spec_l1New a0).getD (((([] : List Int), (0 : Int), (0 : Int)), ()), ())).1).1
/-- where a draw stands is a place -/
def DrOk (u : List Int × Int × Int) : Prop := 0 ≤ u.2.1 ∧ (u.1.length : Int) ≤ 140737488355328
theorem l1New_ok (a0 : List Int) (hb : a0.length ≤ 140737488355328) : ∃ s : Int, raw_spec_l1New a0 = some (((a0, 0, s), ()), ()) := by
  have hl : ∃ b, F_spec_l1New_29 (((a0, ()), ((IntKind.i64.wrap (770770 + (a0.length : Int))), ()), ((), ()), ()), (), ()) = some b ∧ (∃ s : Int, b = .inl (((a0, ()), (s, ()), ()), (), ())) := by
    refine loopN_ind (step := stx_spec_l1New_29) (fun x => (a0.length - (x.1.2.2.1.1 : Int).toNat)) (fun x => (x.1.1.1 : List Int) = a0 ∧ (0 : Int) ≤ (x.1.2.2.1.1 : Int)) _ ?_ _ _ ⟨rfl, Int.le_refl _⟩ (by show a0.length - _ < 18446744073709551616; omega)
    rintro ⟨⟨⟨(l : List Int), _⟩, ⟨(s : Int), _⟩, ⟨(i : Int), _⟩, _⟩, _, _⟩ ⟨h0, hi⟩
    simp only at h0 hi
    subst h0
    simp only [stx_spec_l1New_29, st_spec_l1New_29]
    by_cases h1 : i < (l.length : Int)
    · rw [ltb_t h1]
      by_cases h2 : i < 4000
      · rw [ltb_t h2, inb_iff.2 ⟨hi, h1⟩]
        refine .inl ⟨_, rfl, ⟨rfl, ?_⟩, ?_⟩
        · show 0 ≤ IntKind.i64.wrap (i + 1); rw [wr (by omega) (by omega)]; omega
        · show l.length - (IntKind.i64.wrap (i + 1)).toNat < l.length - i.toNat; rw [wr (by omega) (by omega)]; omega
      · rw [ltb_f (Int.not_lt.1 h2)]
        exact .inr ⟨_, rfl, _, rfl⟩
    · rw [ltb_f (Int.not_lt.1 h1)]
      exact .inr ⟨_, rfl, _, rfl⟩
  obtain ⟨b, e, s, rfl⟩ := hl
  refine ⟨s, ?_⟩
  unfold raw_spec_l1New
  rw [e]; rfl
theorem nn_spec_l1New (a0 : List Int) (hk : InOk I_spec_l1New (a0, ())) : raw_spec_l1New a0 = (fun n => some ((n, ()), ())) (n_spec_l1New a0) := by
  obtain ⟨s, e⟩ := l1New_ok a0 (by have : a0.length * 1 ≤ 2 ^ 47 := hk.1.1; omega)
  unfold n_spec_l1New
  rw [e]; rfl
theorem dr_new (a0 : List Int) (hb : a0.length ≤ 140737488355328) : DrOk (n_spec_l1New a0) := by
  obtain ⟨s, e⟩ := l1New_ok a0 hb
  unfold n_spec_l1New
  rw [e]
  exact ⟨Int.le_refl _, by show (a0.length : Int) ≤ _; omega⟩
noncomputable def con_spec_l1New : Con := ⟨I_spec_l1New, U_spec_l1New, fun x => (fun n => some ((n, ()), ())) (n_spec_l1New x.1)⟩
theorem ok_spec_l1New : ConOk Try.prog 43 con_spec_l1New := (ok0_spec_l1New).mono (fun x r hk h => (nn_spec_l1New x.1 hk).trans h)
end

/-! spec_l1Byte -/
section
noncomputable def B_spec_l1Byte : Code := (Try.f58.body).getD .skip
noncomputable def E_spec_l1Byte : Env := envOf TT [] []
theorem fr_spec_l1Byte_0 : FrOk Try.prog ⟨E_spec_l1Byte, 58, fun _ => none⟩ B_spec_l1Byte := frOk_base mixed tt_ok trivial
noncomputable def D_spec_l1Byte_0 : Nat → Option Seg := fun _ => none
abbrev I_spec_l1Byte : List Par := [.pt tU .fz]
abbrev U_spec_l1Byte : List OT := [⟨false, tI, .fz⟩]
noncomputable def raw_spec_l1Byte (a0 : (List Int) × Int × Int) : Option (ResD U_spec_l1Byte × MutD I_spec_l1Byte) :=
  bif (leb 0 33) then
    bif (leb 0 47) then
      bif (ltb a0.2.1 (a0.1.length : Int)) then
        bif (inb a0.2.1 a0.1.length) then
          some (((IntKind.i64.wrap ((BitVec.ofInt IntKind.i64.bits (IntKind.i64.wrap ((IntKind.i64.wrap ((BitVec.ofInt IntKind.i64.bits (IntKind.i64.wrap ((BitVec.ofInt IntKind.i64.bits ((IntKind.i64.wrap ((IntKind.i64.wrap (a0.2.2 * 6364136223846793005)) + 1442695040888963407)).fdiv (2 ^ (min (33 : Int).toNat IntKind.i64.bits))) ^^^ BitVec.ofInt IntKind.i64.bits ((IntKind.i64.wrap ((IntKind.i64.wrap (a0.2.2 * 6364136223846793005)) + 1442695040888963407)).fdiv (2 ^ (min (47 : Int).toNat IntKind.i64.bits)))).toNat : Int)) &&& BitVec.ofInt IntKind.i64.bits 255).toNat : Int)) + (IntKind.i64.wrap (nth a0.1 a0.2.1 0)))) &&& BitVec.ofInt IntKind.i64.bits 255).toNat : Int)), ()), ((a0.1, (IntKind.i64.wrap (a0.2.1 + 1)), (IntKind.i64.wrap ((IntKind.i64.wrap (a0.2.2 * 6364136223846793005)) + 1442695040888963407))), ()))
        else none
      else
        some (((IntKind.i64.wrap ((BitVec.ofInt IntKind.i64.bits (IntKind.i64.wrap ((BitVec.ofInt IntKind.i64.bits ((IntKind.i64.wrap ((IntKind.i64.wrap (a0.2.2 * 6364136223846793005)) + 1442695040888963407)).fdiv (2 ^ (min (33 : Int).toNat IntKind.i64.bits))) ^^^ BitVec.ofInt IntKind.i64.bits ((IntKind.i64.wrap ((IntKind.i64.wrap (a0.2.2 * 6364136223846793005)) + 1442695040888963407)).fdiv (2 ^ (min (47 : Int).toNat IntKind.i64.bits)))).toNat : Int)) &&& BitVec.ofInt IntKind.i64.bits 255).toNat : Int)), ()), ((a0.1, a0.2.1, (IntKind.i64.wrap ((IntKind.i64.wrap (a0.2.2 * 6364136223846793005)) + 1442695040888963407))), ()))
    else none
  else none
theorem e_spec_l1Byte (x : InD I_spec_l1Byte) : execF ⟨E_spec_l1Byte, 58, D_spec_l1Byte_0⟩ Try.f58.results.toList B_spec_l1Byte I_spec_l1Byte U_spec_l1Byte x = raw_spec_l1Byte x.1 := by kernel_rfl
theorem ok0_spec_l1Byte : ConOk Try.prog 58 ⟨I_spec_l1Byte, U_spec_l1Byte, fun x => raw_spec_l1Byte x.1⟩ := conOk_exec (fr_spec_l1Byte_0) Try.func58 (by kernel_rfl) (by kernel_rfl) Try.ntmps58.symm (by decide) (fun x r h => (e_spec_l1Byte x).trans h)
noncomputable def con_spec_l1Byte : Con := ⟨I_spec_l1Byte, U_spec_l1Byte, fun x => raw_spec_l1Byte x.1⟩
theorem ok_spec_l1Byte : ConOk Try.prog 58 con_spec_l1Byte := ok0_spec_l1Byte
theorem and255 (x : Int) : 0 ≤ IntKind.i64.wrap ((BitVec.ofInt IntKind.i64.bits x &&& BitVec.ofInt IntKind.i64.bits 255).toNat : Int) ∧ IntKind.i64.wrap ((BitVec.ofInt IntKind.i64.bits x &&& BitVec.ofInt IntKind.i64.bits 255).toNat : Int) ≤ 255 := by
  have h : (BitVec.ofInt IntKind.i64.bits x &&& BitVec.ofInt IntKind.i64.bits 255).toNat ≤ 255 := by
    rw [BitVec.toNat_and]
    exact Nat.le_trans Nat.and_le_right (by decide)
  rw [wr (by omega) (by omega)]
  omega
theorem dr_byte (u : List Int × Int × Int) (h : DrOk u) : ∃ (r : Int) (u' : List Int × Int × Int), raw_spec_l1Byte u = some ((r, ()), (u', ())) ∧ (0 ≤ r ∧ r ≤ 255) ∧ DrOk u' := by
  unfold raw_spec_l1Byte
  rw [show leb 0 33 = true from rfl, show leb 0 47 = true from rfl]
  by_cases h1 : u.2.1 < (u.1.length : Int)
  · rw [ltb_t h1, inb_iff.2 ⟨h.1, h1⟩]
    refine ⟨_, _, rfl, and255 _, ?_, h.2⟩
    show 0 ≤ IntKind.i64.wrap (u.2.1 + 1)
    have := h.1; have := h.2
    rw [wr (by omega) (by omega)]; omega
  · rw [ltb_f (Int.not_lt.1 h1)]
    exact ⟨_, _, rfl, and255 _, h⟩
end

/-! spec_l1Below -/
section
noncomputable def B_spec_l1Below : Code := (Try.f53.body).getD .skip
noncomputable def E_spec_l1Below : Env := envOf TT [(58, con_spec_l1Byte)] []
theorem fr_spec_l1Below_0 : FrOk Try.prog ⟨E_spec_l1Below, 31, fun _ => none⟩ B_spec_l1Below := frOk_base mixed tt_ok ⟨ok_spec_l1Byte, trivial⟩
noncomputable def D_spec_l1Below_0 : Nat → Option Seg := fun _ => none
abbrev I_spec_l1Below : List Par := [.pt tU .fz, .rd tI]
abbrev U_spec_l1Below : List OT := [⟨false, tI, .fz⟩]
noncomputable def raw_spec_l1Below (a0 : (List Int) × Int × Int) (a1 : Int) : Option (ResD U_spec_l1Below × MutD I_spec_l1Below) :=
  bif (leb a1 0) then
    some ((0, ()), (a0, ()))
  else
    bif (leb a1 256) then
      bnd (raw_spec_l1Byte a0) fun r1 =>
      bif (a1 != 0) then
        some (((r1.1.1.tmod a1), ()), (r1.2.1, ()))
      else none
    else
      bnd (raw_spec_l1Byte a0) fun r2 =>
      bnd (raw_spec_l1Byte r2.2.1) fun r3 =>
      bnd (raw_spec_l1Byte r3.2.1) fun r4 =>
      bif (a1 != 0) then
        some ((((IntKind.i64.wrap ((IntKind.i64.wrap ((IntKind.i64.wrap (r2.1.1 * 65536)) + (IntKind.i64.wrap (r3.1.1 * 256)))) + r4.1.1)).tmod a1), ()), (r4.2.1, ()))
      else none
theorem e_spec_l1Below (x : InD I_spec_l1Below) : execF ⟨E_spec_l1Below, 31, D_spec_l1Below_0⟩ Try.f53.results.toList B_spec_l1Below I_spec_l1Below U_spec_l1Below x = raw_spec_l1Below x.1 x.2.1 := by kernel_rfl
theorem ok0_spec_l1Below : ConOk Try.prog 53 ⟨I_spec_l1Below, U_spec_l1Below, fun x => raw_spec_l1Below x.1 x.2.1⟩ := conOk_exec (fr_spec_l1Below_0) Try.func53 (by kernel_rfl) (by kernel_rfl) Try.ntmps53.symm (by decide) (fun x r h => (e_spec_l1Below x).trans h)
noncomputable def con_spec_l1Below : Con := ⟨I_spec_l1Below, U_spec_l1Below, fun x => raw_spec_l1Below x.1 x.2.1⟩
theorem ok_spec_l1Below : ConOk Try.prog 53 con_spec_l1Below := ok0_spec_l1Below
theorem dr_below (u : List Int × Int × Int) (n : Int) (h : DrOk u) : ∃ (r : Int) (u' : List Int × Int × Int), raw_spec_l1Below u n = some ((r, ()), (u', ())) ∧ (0 ≤ r ∧ (0 < n → r < n) ∧ (n ≤ 0 → r = 0)) ∧ DrOk u' := by
  unfold raw_spec_l1Below
  by_cases h0 : n ≤ 0
  · rw [leb_t h0]
    exact ⟨_, _, rfl, ⟨Int.le_refl _, fun h => absurd h0 (by omega), fun _ => rfl⟩, h⟩
  · have hn : (n != 0) = true := bne_iff_ne.2 (by omega)
    have key : ∀ x : Int, 0 ≤ x → 0 ≤ x.tmod n ∧ (0 < n → x.tmod n < n) ∧ (n ≤ 0 → x.tmod n = 0) := fun x hx =>
      ⟨Int.tmod_nonneg n hx, fun hp => Int.tmod_lt_of_pos x hp, fun hp => absurd hp h0⟩
    rw [leb_f (by omega)]
    by_cases h1 : n ≤ 256
    · rw [leb_t h1]
      obtain ⟨r1, u1, e1, q1, d1⟩ := dr_byte u h
      rw [e1, bif_f, bif_t, bnd_some, hn]
      exact ⟨_, _, rfl, key r1 q1.1, d1⟩
    · rw [leb_f (by omega)]
      obtain ⟨r1, u1, e1, q1, d1⟩ := dr_byte u h
      obtain ⟨r2, u2, e2, q2, d2⟩ := dr_byte u1 d1
      obtain ⟨r3, u3, e3, q3, d3⟩ := dr_byte u2 d2
      simp only [e1, e2, e3, bif_f, bnd_some, hn, bif_t]
      refine ⟨_, _, rfl, key _ ?_, d3⟩
      rw [wr (show -9223372036854775808 ≤ r1 * 65536 by omega) (by omega), wr (show -9223372036854775808 ≤ r2 * 256 by omega) (by omega), wr (show -9223372036854775808 ≤ r1 * 65536 + r2 * 256 by omega) (by omega), wr (by omega) (by omega)]
      omega
end

/-! spec_l3Geo -/
section
noncomputable def B_spec_l3Geo : Code := (Try.f44.body).getD .skip
noncomputable def E_spec_l3Geo : Env := envOf TT [(53, con_spec_l1Below)] []
theorem fr_spec_l3Geo_0 : FrOk Try.prog ⟨E_spec_l3Geo, 10, fun _ => none⟩ B_spec_l3Geo := frOk_base mixed tt_ok ⟨ok_spec_l1Below, trivial⟩
noncomputable def D_spec_l3Geo_0 : Nat → Option Seg := fun _ => none
abbrev I_spec_l3Geo : List Par := [.pt tU .fz]
abbrev U_spec_l3Geo : List OT := [⟨false, tG, (.pr .fz .fz)⟩]
noncomputable def raw_spec_l3Geo (a0 : (List Int) × Int × Int) : Option (ResD U_spec_l3Geo × MutD I_spec_l3Geo) :=
  bnd (raw_spec_l1Below a0 3) fun r1 =>
  bnd (raw_spec_l1Below r1.2.1 8) fun r2 =>
  some ((((IntKind.i64.wrap (3 + r1.1.1)), (IntKind.i64.wrap (1 + r2.1.1))), ()), (r2.2.1, ()))
theorem e_spec_l3Geo (x : InD I_spec_l3Geo) : execF ⟨E_spec_l3Geo, 10, D_spec_l3Geo_0⟩ Try.f44.results.toList B_spec_l3Geo I_spec_l3Geo U_spec_l3Geo x = raw_spec_l3Geo x.1 := by kernel_rfl
theorem ok0_spec_l3Geo : ConOk Try.prog 44 ⟨I_spec_l3Geo, U_spec_l3Geo, fun x => raw_spec_l3Geo x.1⟩ := conOk_exec (fr_spec_l3Geo_0) Try.func44 (by kernel_rfl) (by kernel_rfl) Try.ntmps44.symm (by decide) (fun x r h => (e_spec_l3Geo x).trans h)
noncomputable def con_spec_l3Geo : Con := ⟨I_spec_l3Geo, U_spec_l3Geo, fun x => raw_spec_l3Geo x.1⟩
theorem ok_spec_l3Geo : ConOk Try.prog 44 con_spec_l3Geo := ok0_spec_l3Geo
theorem dr_geo (u : List Int × Int × Int) (h : DrOk u) : ∃ (g : Int × Int) (u' : List Int × Int × Int), raw_spec_l3Geo u = some ((g, ()), (u', ())) ∧ n_spec_GeoOk g = true ∧ DrOk u' := by
  unfold raw_spec_l3Geo
  obtain ⟨r1, u1, e1, q1, d1⟩ := dr_below u 3 h
  obtain ⟨r2, u2, e2, q2, d2⟩ := dr_below u1 8 d1
  simp only [e1, e2, bnd_some]
  refine ⟨_, _, rfl, ?_, d2⟩
  have := q1.2.1 (by omega); have := q2.2.1 (by omega); have := q1.1; have := q2.1
  rw [wr (by omega) (by omega), wr (by omega) (by omega)]
  exact geo_iff.2 ⟨⟨by show 3 ≤ 3 + r1; omega, by show 3 + r1 ≤ 5; omega⟩, by show 1 ≤ 1 + r2; omega, by show 1 + r2 ≤ 8; omega⟩
end
end Go.Tf
