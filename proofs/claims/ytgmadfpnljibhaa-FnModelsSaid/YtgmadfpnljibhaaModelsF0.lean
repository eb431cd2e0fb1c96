/- Functions of the program, and what they come to. -/
import Derived.Test.YtgmadfpnljibhaaModelsTt
namespace Go.Tf
open Go.Proofs
set_option synthInstance.maxHeartbeats 400000
set_option synthInstance.maxSize 10000
set_option linter.unusedVariables false
set_option linter.unusedSimpArgs false
set_option maxRecDepth 100000
/-! laws_big -/
section
noncomputable def B_laws_big : Code := (Try.f6.body).getD .skip
noncomputable def E_laws_big : Env := envOf TT [] []
theorem fr_laws_big_0 : FrOk Try.prog ⟨E_laws_big, 6, fun _ => none⟩ B_laws_big := frOk_base mixed tt_ok trivial
noncomputable def D_laws_big_0 : Nat → Option Seg := fun _ => none
abbrev I_laws_big : List Par := [.rd tYs]
abbrev U_laws_big : List OT := [⟨false, tB, .fz⟩]
noncomputable def raw_laws_big (a0 : List Int) : Option (ResD U_laws_big × MutD I_laws_big) :=
  some (((ltb 1048576 (a0.length : Int)), ()), ())
theorem e_laws_big (x : InD I_laws_big) : execF ⟨E_laws_big, 6, D_laws_big_0⟩ Try.f6.results.toList B_laws_big I_laws_big U_laws_big x = raw_laws_big x.1 := by kernel_rfl
theorem ok0_laws_big : ConOk Try.prog 6 ⟨I_laws_big, U_laws_big, fun x => raw_laws_big x.1⟩ := conOk_exec (fr_laws_big_0) Try.func6 (by kernel_rfl) (by kernel_rfl) Try.ntmps6.symm (by decide) (fun x r h => (e_laws_big x).trans h)
noncomputable def n_laws_big (a0 : List Int) : Bool :=
  (ltb 1048576 (a0.length : Int))
noncomputable def con_laws_big : Con := ⟨I_laws_big, U_laws_big, fun x => (fun n => some ((n, ()), ())) (n_laws_big x.1)⟩
theorem nn_laws_big (a0 : List Int) : raw_laws_big a0 = (fun n => some ((n, ()), ())) (n_laws_big a0) := bif_ty (p := fun (n : Bool) => ((n, ()), ())) rfl
theorem ok_laws_big : ConOk Try.prog 6 con_laws_big := (ok0_laws_big).mono (fun x r _ h => (nn_laws_big x.1).trans h)
/-- a word -/
def isW (x : Int) : Bool := leb 0 x && leb x 65535
def secOk (s : List Int) : Bool := leb (s.length : Int) 12 && s.all isW
theorem isW_iff {x : Int} : isW x = true ↔ 0 ≤ x ∧ x ≤ 65535 := by simp [isW, leb_iff]
theorem secOk_iff {s : List Int} : secOk s = true ↔ s.length ≤ 12 ∧ ∀ x ∈ s, 0 ≤ x ∧ x ≤ 65535 := by
  simp only [secOk, Bool.and_eq_true, leb_iff, List.all_eq_true, isW_iff]
  constructor
  · rintro ⟨h1, h2⟩; exact ⟨by omega, h2⟩
  · rintro ⟨h1, h2⟩; exact ⟨by omega, h2⟩
theorem asc_iff : ∀ {l : List Int}, l.Pairwise (· < ·) ↔ ∀ i, i + 1 < l.length → l.getD i 0 < l.getD (i + 1) 0
  | [] => by simp
  | [x] => by simp
  | x :: y :: l => by
    have ih := asc_iff (l := y :: l)
    constructor
    · intro h i hi
      cases h with
      | cons h1 h2 =>
        cases i with
        | zero => exact h1 y List.mem_cons_self
        | succ i => exact ih.1 h2 i (by simpa using hi)
    · intro h
      have h2 : (y :: l).Pairwise (· < ·) := ih.2 fun i hi => h (i + 1) (by simpa using hi)
      refine .cons (fun z hz => ?_) h2
      have h3 : x < y := h 0 (by simp)
      rcases List.mem_cons.1 hz with rfl | hz
      · exact h3
      · cases h2 with
        | cons h4 _ => exact Int.lt_trans h3 (h4 z hz)
/-- numbers of sectors, ascending -/
def badOk (n : Nat) (l : List Int) : Bool := l.all (fun x => inb x n) && decide (l.Pairwise (· < ·))
def wrOk (n : Nat) (w : dW) : Bool := inb w.1 n && secOk w.2
def memOk (m : dM) : Bool := m.1.all secOk && m.2.1.all (wrOk m.1.length) && badOk m.1.length m.2.2.2 && leb 1 (m.1.length : Int) && leb (m.1.length : Int) 20 && leb (m.2.1.length : Int) 60
def badAt (n : Nat) (l : List Int) (i : Nat) : Bool := !(inb (l.getD i 0) n) || (decide (0 < i) && leb (l.getD i 0) (l.getD (i - 1) 0))
theorem badAt_any (n : Nat) (l : List Int) : (List.range l.length).any (badAt n l) = !(badOk n l) := by
  rw [Bool.eq_iff_iff, List.any_eq_true, Bool.not_eq_true', badOk, Bool.and_eq_false_iff, decide_eq_false_iff_not, asc_iff, List.all_eq_false]
  simp only [List.mem_range, badAt, Bool.or_eq_true, Bool.not_eq_true', Bool.and_eq_true, decide_eq_true_eq, leb_iff]
  constructor
  · rintro ⟨i, hi, h | ⟨h1, h2⟩⟩
    · exact .inl ⟨l[i], List.getElem_mem hi, by rw [getD_get hi] at h; simp [h]⟩
    · refine .inr fun h3 => ?_
      have := h3 (i - 1) (by omega)
      rw [show i - 1 + 1 = i by omega] at this
      omega
  · rintro (⟨x, hx, h⟩ | h)
    · obtain ⟨i, hi, rfl⟩ := List.getElem_of_mem hx
      exact ⟨i, hi, .inl (by rw [getD_get hi]; simpa using h)⟩
    · refine Classical.byContradiction fun hc => h fun i hi => ?_
      refine Classical.byContradiction fun h4 => hc ⟨i + 1, hi, .inr ⟨by omega, ?_⟩⟩
      rw [Nat.add_sub_cancel]; omega
/-- the newest of a sector among what is to be written -/
def newest (n : Int) (c : List dW) (s : List Int) : List Int := c.foldl (fun s w => bif w.1 == n then w.2 else s) s
def canRead (m : dM) (n : Int) : Bool := memOk m && (!m.2.2.1 && (inb n m.1.length && !(m.2.2.2.any (· == n))))
def readSec (m : dM) (n : Int) : List Int × Bool := bif canRead m n then (newest n m.2.1 (nth m.1 n []), true) else ([], false)
theorem newest_ind {P : List Int → Prop} {n : Int} : ∀ {c : List dW} {s : List Int}, P s → (∀ w ∈ c, P w.2) → P (newest n c s)
  | [], _, h, _ => h
  | w :: c, s, h, hc => newest_ind (c := c) (bif_ind (hc w List.mem_cons_self) h) (fun x hx => hc x (List.mem_cons_of_mem _ hx))
theorem nth_mem {α : Type} {P : α → Prop} {l : List α} {i : Int} {d : α} (h : inb i l.length = true) (hl : ∀ x ∈ l, P x) : P (nth l i d) := by
  obtain ⟨h1, h2⟩ := inb_iff.1 h
  unfold nth
  rw [getD_get (show i.toNat < l.length by omega)]
  exact hl _ (List.getElem_mem _)
end

/-! spec_l1New -/
section
noncomputable def B_spec_l1New : Code := (Try.f33.body).getD .skip
noncomputable def E_spec_l1New : Env := envOf TT [] []
theorem fr_spec_l1New_0 : FrOk Try.prog ⟨E_spec_l1New, 32, fun _ => none⟩ B_spec_l1New := frOk_base mixed tt_ok trivial
noncomputable def D_spec_l1New_0 : Nat → Option Seg := fun _ => none
def L_spec_l1New_29 : Shape := ⟨[(0, false, [.fz tY]), (3, false, [.int .i64]), (4, false, [.int .i64])], [], []⟩
def S_spec_l1New_29 : Shape := ⟨[(0, false, [.fz tY]), (3, false, [.int .i64]), (4, false, [.ci .i64 0])], [], []⟩
def O_spec_l1New_29 : Shape := ⟨[(0, false, [.fz tY]), (3, false, [.int .i64])], [], []⟩
def Z_spec_l1New_29 : Shape := ⟨[], [], []⟩
noncomputable def st_spec_l1New_29 (v0 : List Int) (v1 v2 : Int) : Option ((L_spec_l1New_29).X ⊕ ((O_spec_l1New_29).X ⊕ (Z_spec_l1New_29).X)) :=
  bif (ltb v2 (v0.length : Int)) then
    bif (ltb v2 4000) then
      bif (inb v2 v0.length) then
        some (.inl (((v0, ()), ((IntKind.i64.wrap ((BitVec.ofInt IntKind.i64.bits (IntKind.i64.wrap ((IntKind.i64.wrap ((IntKind.i64.wrap (v1 * 137)) + (IntKind.i64.wrap (nth v0 v2 0)))) + 11)) &&& BitVec.ofInt IntKind.i64.bits 1073741823).toNat : Int)), ()), ((IntKind.i64.wrap (v2 + 1)), ()), ()), (), ()))
      else none
    else
      some (.inr (.inl (((v0, ()), (v1, ()), ()), (), ())))
  else
    some (.inr (.inl (((v0, ()), (v1, ()), ()), (), ())))
noncomputable def stx_spec_l1New_29 (x : (L_spec_l1New_29).X) := st_spec_l1New_29 x.1.1.1 x.1.2.1.1 x.1.2.2.1.1
def em_spec_l1New_29 (x : (S_spec_l1New_29).X) : (L_spec_l1New_29).X := (((x.1.1.1, ()), (x.1.2.1.1, ()), (0, ()), ()), (), ())
noncomputable def c_spec_l1New_29 : Code := (subN B_spec_l1New 64 116).getD .skip
theorem a_spec_l1New_29 : subN B_spec_l1New 64 29 = some (.block 0 (.loop c_spec_l1New_29)) := by kernel_rfl
theorem r_spec_l1New_29 (x : (L_spec_l1New_29).X) : roundT ⟨E_spec_l1New, 32, D_spec_l1New_0⟩ 0 c_spec_l1New_29 116 L_spec_l1New_29 O_spec_l1New_29 Z_spec_l1New_29 x = stx_spec_l1New_29 x := by kernel_rfl
def fu_spec_l1New_29 (x : (S_spec_l1New_29).X) : Nat := 18446744073709551616
noncomputable def F_spec_l1New_29 (x : (S_spec_l1New_29).X) : Option ((O_spec_l1New_29).X ⊕ (Z_spec_l1New_29).X) := loopN stx_spec_l1New_29 (fu_spec_l1New_29 x) (em_spec_l1New_29 x)
noncomputable def sg_spec_l1New_29 : Seg := ⟨S_spec_l1New_29, O_spec_l1New_29, Z_spec_l1New_29, F_spec_l1New_29⟩
noncomputable def D_spec_l1New_1 : Nat → Option Seg := fun q => bif Nat.beq q 29 then some sg_spec_l1New_29 else D_spec_l1New_0 q
theorem fr_spec_l1New_1 : FrOk Try.prog ⟨E_spec_l1New, 32, D_spec_l1New_1⟩ B_spec_l1New := (fr_spec_l1New_0).loop (sg := sg_spec_l1New_29) L_spec_l1New_29 em_spec_l1New_29 (by decide) a_spec_l1New_29 stx_spec_l1New_29 fu_spec_l1New_29 (by decide) (fun _ => rfl) (fun x r _ h => h) r_spec_l1New_29
abbrev I_spec_l1New : List Par := [.kp tYs .fz]
abbrev U_spec_l1New : List OT := [⟨true, tU, .fz⟩]
noncomputable def raw_spec_l1New (a0 : List Int) : Option (ResD U_spec_l1New × MutD I_spec_l1New) :=
  segM (F_spec_l1New_29 (((a0, ()), ((IntKind.i64.wrap (770770 + (a0.length : Int))), ()), ((), ()), ()), (), ())) (fun y0 =>
    some (((y0.1.1.1, 0, y0.1.2.1.1), ()), ())) (fun y0 =>
    none)
theorem e_spec_l1New (x : InD I_spec_l1New) : execF ⟨E_spec_l1New, 32, D_spec_l1New_1⟩ Try.f33.results.toList B_spec_l1New I_spec_l1New U_spec_l1New x = raw_spec_l1New x.1 := by kernel_rfl
theorem ok0_spec_l1New : ConOk Try.prog 33 ⟨I_spec_l1New, U_spec_l1New, fun x => raw_spec_l1New x.1⟩ := conOk_exec (fr_spec_l1New_1) Try.func33 (by kernel_rfl) (by kernel_rfl) Try.ntmps33.symm (by decide) (fun x r h => (e_spec_l1New x).trans h)
noncomputable def n_spec_l1New (a0 : List Int) : List Int × Int × Int := (((raw_spec_l1New a0).getD (((([] : List Int), (0 : Int), (0 : Int)), ()), ())).1).1
/-- where a draw stands is a place -/
def DrOk (u : List Int × Int × Int) : Prop := 0 ≤ u.2.1 ∧ (u.1.length : Int) ≤ 140737488355328
theorem l1New_ok (a0 : List Int) (hb : a0.length ≤ 140737488355328) : ∃ s : Int, raw_spec_l1New a0 = some (((a0, 0, s), ()), ()) := by
  have hl : ∃ b, F_spec_l1New_29 (((a0, ()), ((IntKind.i64.wrap (770770 + (a0.length : Int))), ()), ((), ()), ()), (), ()) = some b ∧ (∃ s : Int, b = .inl (((a0, ()), (s, ()), ()), (), ())) := by
    refine loopN_ind (step := stx_spec_l1New_29) (fun x => (a0.length - (x.1.2.2.1.1 : Int).toNat)) (fun x => (x.1.1.1 : List Int) = a0 ∧ (0 : Int) ≤ (x.1.2.2.1.1 : Int)) _ ?_ _ _ ⟨rfl, Int.le_refl _⟩ (by show a0.length - _ < 18446744073709551616; omega)
    rintro ⟨⟨⟨(l : List Int), _⟩, ⟨(s : Int), _⟩, ⟨(i : Int), _⟩, _⟩, _, _⟩ ⟨h0, hi⟩
    simp only at h0 hi
    subst h0
    simp only [stx_spec_l1New_29, st_spec_l1New_29]
    by_cases h1 : i < (l.length : Int)
    · rw [ltb_t h1]
      by_cases h2 : i < 4000
      · rw [ltb_t h2, inb_iff.2 ⟨hi, h1⟩]
        refine .inl ⟨_, rfl, ⟨rfl, ?_⟩, ?_⟩
        · show 0 ≤ IntKind.i64.wrap (i + 1); rw [wr (by omega) (by omega)]; omega
        · show l.length - (IntKind.i64.wrap (i + 1)).toNat < l.length - i.toNat; rw [wr (by omega) (by omega)]; omega
      · rw [ltb_f (Int.not_lt.1 h2)]
        exact .inr ⟨_, rfl, _, rfl⟩
    · rw [ltb_f (Int.not_lt.1 h1)]
      exact .inr ⟨_, rfl, _, rfl⟩
  obtain ⟨b, e, s, rfl⟩ := hl
  refine ⟨s, ?_⟩
  unfold raw_spec_l1New
  rw [e]; rfl
theorem nn_spec_l1New (a0 : List Int) (hk : InOk I_spec_l1New (a0, ())) : raw_spec_l1New a0 = (fun n => some ((n, ()), ())) (n_spec_l1New a0) := by
  obtain ⟨s, e⟩ := l1New_ok a0 (by have : a0.length * 1 ≤ 2 ^ 47 := hk.1.1; omega)
  unfold n_spec_l1New
  rw [e]; rfl
theorem dr_new (a0 : List Int) (hb : a0.length ≤ 140737488355328) : DrOk (n_spec_l1New a0) := by
  obtain ⟨s, e⟩ := l1New_ok a0 hb
  unfold n_spec_l1New
  rw [e]
  exact ⟨Int.le_refl _, by show (a0.length : Int) ≤ _; omega⟩
noncomputable def con_spec_l1New : Con := ⟨I_spec_l1New, U_spec_l1New, fun x => (fun n => some ((n, ()), ())) (n_spec_l1New x.1)⟩
theorem ok_spec_l1New : ConOk Try.prog 33 con_spec_l1New := (ok0_spec_l1New).mono (fun x r hk h => (nn_spec_l1New x.1 hk).trans h)
end

/-! spec_l1Byte -/
section
noncomputable def B_spec_l1Byte : Code := (Try.f90.body).getD .skip
noncomputable def E_spec_l1Byte : Env := envOf TT [] []
theorem fr_spec_l1Byte_0 : FrOk Try.prog ⟨E_spec_l1Byte, 58, fun _ => none⟩ B_spec_l1Byte := frOk_base mixed tt_ok trivial
noncomputable def D_spec_l1Byte_0 : Nat → Option Seg := fun _ => none
abbrev I_spec_l1Byte : List Par := [.pt tU .fz]
abbrev U_spec_l1Byte : List OT := [⟨false, tI, .fz⟩]
noncomputable def raw_spec_l1Byte (a0 : dU) : Option (ResD U_spec_l1Byte × MutD I_spec_l1Byte) :=
  bif (ltb a0.2.1 (a0.1.length : Int)) then
    bif (inb a0.2.1 a0.1.length) then
      some (((IntKind.i64.wrap ((BitVec.ofInt IntKind.i64.bits (IntKind.i64.wrap ((IntKind.i64.wrap ((BitVec.ofInt IntKind.i64.bits (IntKind.i64.wrap ((BitVec.ofInt IntKind.i64.bits ((IntKind.i64.wrap ((IntKind.i64.wrap (a0.2.2 * 6364136223846793005)) + 1442695040888963407)).fdiv (2 ^ (min (33 : Int).toNat IntKind.i64.bits))) ^^^ BitVec.ofInt IntKind.i64.bits ((IntKind.i64.wrap ((IntKind.i64.wrap (a0.2.2 * 6364136223846793005)) + 1442695040888963407)).fdiv (2 ^ (min (47 : Int).toNat IntKind.i64.bits)))).toNat : Int)) &&& BitVec.ofInt IntKind.i64.bits 255).toNat : Int)) + (IntKind.i64.wrap (nth a0.1 a0.2.1 0)))) &&& BitVec.ofInt IntKind.i64.bits 255).toNat : Int)), ()), ((a0.1, (IntKind.i64.wrap (a0.2.1 + 1)), (IntKind.i64.wrap ((IntKind.i64.wrap (a0.2.2 * 6364136223846793005)) + 1442695040888963407))), ()))
    else none
  else
    some (((IntKind.i64.wrap ((BitVec.ofInt IntKind.i64.bits (IntKind.i64.wrap ((BitVec.ofInt IntKind.i64.bits ((IntKind.i64.wrap ((IntKind.i64.wrap (a0.2.2 * 6364136223846793005)) + 1442695040888963407)).fdiv (2 ^ (min (33 : Int).toNat IntKind.i64.bits))) ^^^ BitVec.ofInt IntKind.i64.bits ((IntKind.i64.wrap ((IntKind.i64.wrap (a0.2.2 * 6364136223846793005)) + 1442695040888963407)).fdiv (2 ^ (min (47 : Int).toNat IntKind.i64.bits)))).toNat : Int)) &&& BitVec.ofInt IntKind.i64.bits 255).toNat : Int)), ()), ((a0.1, a0.2.1, (IntKind.i64.wrap ((IntKind.i64.wrap (a0.2.2 * 6364136223846793005)) + 1442695040888963407))), ()))
theorem e_spec_l1Byte (x : InD I_spec_l1Byte) : execF ⟨E_spec_l1Byte, 58, D_spec_l1Byte_0⟩ Try.f90.results.toList B_spec_l1Byte I_spec_l1Byte U_spec_l1Byte x = raw_spec_l1Byte x.1 := by kernel_rfl
theorem ok0_spec_l1Byte : ConOk Try.prog 90 ⟨I_spec_l1Byte, U_spec_l1Byte, fun x => raw_spec_l1Byte x.1⟩ := conOk_exec (fr_spec_l1Byte_0) Try.func90 (by kernel_rfl) (by kernel_rfl) Try.ntmps90.symm (by decide) (fun x r h => (e_spec_l1Byte x).trans h)
noncomputable def con_spec_l1Byte : Con := ⟨I_spec_l1Byte, U_spec_l1Byte, fun x => raw_spec_l1Byte x.1⟩
theorem ok_spec_l1Byte : ConOk Try.prog 90 con_spec_l1Byte := ok0_spec_l1Byte
theorem and255 (x : Int) : 0 ≤ IntKind.i64.wrap ((BitVec.ofInt IntKind.i64.bits x &&& BitVec.ofInt IntKind.i64.bits 255).toNat : Int) ∧ IntKind.i64.wrap ((BitVec.ofInt IntKind.i64.bits x &&& BitVec.ofInt IntKind.i64.bits 255).toNat : Int) ≤ 255 := by
  have h : (BitVec.ofInt IntKind.i64.bits x &&& BitVec.ofInt IntKind.i64.bits 255).toNat ≤ 255 := by
    rw [BitVec.toNat_and]
    exact Nat.le_trans Nat.and_le_right (by decide)
  rw [wr (by omega) (by omega)]
  omega
theorem dr_byte (u : List Int × Int × Int) (h : DrOk u) : ∃ (r : Int) (u' : List Int × Int × Int), raw_spec_l1Byte u = some ((r, ()), (u', ())) ∧ (0 ≤ r ∧ r ≤ 255) ∧ DrOk u' := by
  unfold raw_spec_l1Byte
  by_cases h1 : u.2.1 < (u.1.length : Int)
  · rw [ltb_t h1, inb_iff.2 ⟨h.1, h1⟩]
    refine ⟨_, _, rfl, and255 _, ?_, h.2⟩
    show 0 ≤ IntKind.i64.wrap (u.2.1 + 1)
    have := h.1; have := h.2
    rw [wr (by omega) (by omega)]; omega
  · rw [ltb_f (Int.not_lt.1 h1)]
    exact ⟨_, _, rfl, and255 _, h⟩
end

/-! spec_l1Below -/
section
noncomputable def B_spec_l1Below : Code := (Try.f47.body).getD .skip
noncomputable def E_spec_l1Below : Env := envOf TT [(90, con_spec_l1Byte)] []
theorem fr_spec_l1Below_0 : FrOk Try.prog ⟨E_spec_l1Below, 31, fun _ => none⟩ B_spec_l1Below := frOk_base mixed tt_ok ⟨ok_spec_l1Byte, trivial⟩
noncomputable def D_spec_l1Below_0 : Nat → Option Seg := fun _ => none
abbrev I_spec_l1Below : List Par := [.pt tU .fz, .rd tI]
abbrev U_spec_l1Below : List OT := [⟨false, tI, .fz⟩]
noncomputable def raw_spec_l1Below (a0 : dU) (a1 : Int) : Option (ResD U_spec_l1Below × MutD I_spec_l1Below) :=
  bif (leb a1 0) then
    some ((0, ()), (a0, ()))
  else
    bif (leb a1 256) then
      bnd (raw_spec_l1Byte a0) fun r1 =>
      bif (a1 != 0) then
        some (((r1.1.1.tmod a1), ()), (r1.2.1, ()))
      else none
    else
      bnd (raw_spec_l1Byte a0) fun r2 =>
      bnd (raw_spec_l1Byte r2.2.1) fun r3 =>
      bnd (raw_spec_l1Byte r3.2.1) fun r4 =>
      bif (a1 != 0) then
        some ((((IntKind.i64.wrap ((IntKind.i64.wrap ((IntKind.i64.wrap (r2.1.1 * 65536)) + (IntKind.i64.wrap (r3.1.1 * 256)))) + r4.1.1)).tmod a1), ()), (r4.2.1, ()))
      else none
theorem e_spec_l1Below (x : InD I_spec_l1Below) : execF ⟨E_spec_l1Below, 31, D_spec_l1Below_0⟩ Try.f47.results.toList B_spec_l1Below I_spec_l1Below U_spec_l1Below x = raw_spec_l1Below x.1 x.2.1 := by kernel_rfl
theorem ok0_spec_l1Below : ConOk Try.prog 47 ⟨I_spec_l1Below, U_spec_l1Below, fun x => raw_spec_l1Below x.1 x.2.1⟩ := conOk_exec (fr_spec_l1Below_0) Try.func47 (by kernel_rfl) (by kernel_rfl) Try.ntmps47.symm (by decide) (fun x r h => (e_spec_l1Below x).trans h)
noncomputable def con_spec_l1Below : Con := ⟨I_spec_l1Below, U_spec_l1Below, fun x => raw_spec_l1Below x.1 x.2.1⟩
theorem ok_spec_l1Below : ConOk Try.prog 47 con_spec_l1Below := ok0_spec_l1Below
theorem dr_below (u : List Int × Int × Int) (n : Int) (h : DrOk u) : ∃ (r : Int) (u' : List Int × Int × Int), raw_spec_l1Below u n = some ((r, ()), (u', ())) ∧ (0 ≤ r ∧ (0 < n → r < n) ∧ (n ≤ 0 → r = 0)) ∧ DrOk u' := by
  unfold raw_spec_l1Below
  by_cases h0 : n ≤ 0
  · rw [leb_t h0]
    exact ⟨_, _, rfl, ⟨Int.le_refl _, fun h => absurd h0 (by omega), fun _ => rfl⟩, h⟩
  · have hn : (n != 0) = true := bne_iff_ne.2 (by omega)
    have key : ∀ x : Int, 0 ≤ x → 0 ≤ x.tmod n ∧ (0 < n → x.tmod n < n) ∧ (n ≤ 0 → x.tmod n = 0) := fun x hx =>
      ⟨Int.tmod_nonneg n hx, fun hp => Int.tmod_lt_of_pos x hp, fun hp => absurd hp h0⟩
    rw [leb_f (by omega)]
    by_cases h1 : n ≤ 256
    · rw [leb_t h1]
      obtain ⟨r1, u1, e1, q1, d1⟩ := dr_byte u h
      rw [e1, bif_f, bif_t, bnd_some, hn]
      exact ⟨_, _, rfl, key r1 q1.1, d1⟩
    · rw [leb_f (by omega)]
      obtain ⟨r1, u1, e1, q1, d1⟩ := dr_byte u h
      obtain ⟨r2, u2, e2, q2, d2⟩ := dr_byte u1 d1
      obtain ⟨r3, u3, e3, q3, d3⟩ := dr_byte u2 d2
      simp only [e1, e2, e3, bif_f, bnd_some, hn, bif_t]
      refine ⟨_, _, rfl, key _ ?_, d3⟩
      rw [wr (show -9223372036854775808 ≤ r1 * 65536 by omega) (by omega), wr (show -9223372036854775808 ≤ r2 * 256 by omega) (by omega), wr (show -9223372036854775808 ≤ r1 * 65536 + r2 * 256 by omega) (by omega), wr (by omega) (by omega)]
      omega
end

/-! spec_l1In -/
section
noncomputable def B_spec_l1In : Code := (Try.f60.body).getD .skip
noncomputable def E_spec_l1In : Env := envOf TT [] []
theorem fr_spec_l1In_0 : FrOk Try.prog ⟨E_spec_l1In, 15, fun _ => none⟩ B_spec_l1In := frOk_base mixed tt_ok trivial
noncomputable def D_spec_l1In_0 : Nat → Option Seg := fun _ => none
abbrev I_spec_l1In : List Par := [.rd tI, .rd tI, .rd tI]
abbrev U_spec_l1In : List OT := [⟨false, tB, .fz⟩]
noncomputable def raw_spec_l1In (a0 a1 a2 : Int) : Option (ResD U_spec_l1In × MutD I_spec_l1In) :=
  bif (leb a1 a0) then
    some (((leb a0 a2), ()), ())
  else
    some ((false, ()), ())
theorem e_spec_l1In (x : InD I_spec_l1In) : execF ⟨E_spec_l1In, 15, D_spec_l1In_0⟩ Try.f60.results.toList B_spec_l1In I_spec_l1In U_spec_l1In x = raw_spec_l1In x.1 x.2.1 x.2.2.1 := by kernel_rfl
theorem ok0_spec_l1In : ConOk Try.prog 60 ⟨I_spec_l1In, U_spec_l1In, fun x => raw_spec_l1In x.1 x.2.1 x.2.2.1⟩ := conOk_exec (fr_spec_l1In_0) Try.func60 (by kernel_rfl) (by kernel_rfl) Try.ntmps60.symm (by decide) (fun x r h => (e_spec_l1In x).trans h)
noncomputable def n_spec_l1In (a0 a1 a2 : Int) : Bool :=
  bif (leb a1 a0) then
    (leb a0 a2)
  else
    false
noncomputable def con_spec_l1In : Con := ⟨I_spec_l1In, U_spec_l1In, fun x => (fun n => some ((n, ()), ())) (n_spec_l1In x.1 x.2.1 x.2.2.1)⟩
theorem nn_spec_l1In (a0 a1 a2 : Int) : raw_spec_l1In a0 a1 a2 = (fun n => some ((n, ()), ())) (n_spec_l1In a0 a1 a2) := bif_ty (p := fun (n : Bool) => ((n, ()), ())) (bif_some (p := fun (n : Bool) => ((n, ()), ())) rfl rfl)
theorem ok_spec_l1In : ConOk Try.prog 60 con_spec_l1In := (ok0_spec_l1In).mono (fun x r _ h => (nn_spec_l1In x.1 x.2.1 x.2.2.1).trans h)
theorem in_iff {a b c : Int} : n_spec_l1In a b c = true ↔ b ≤ a ∧ a ≤ c := by
  unfold n_spec_l1In
  cases h : leb b a
  · have := mt leb_t (by rw [h]; simp : ¬ leb b a = true)
    simp [this]
  · simp [leb_iff, leb_iff.1 h]
theorem in_t {a b c : Int} (h : b ≤ a) (h2 : a ≤ c) : n_spec_l1In a b c = true := in_iff.2 ⟨h, h2⟩
theorem in_f {a b c : Int} (h : ¬ (b ≤ a ∧ a ≤ c)) : n_spec_l1In a b c = false := by
  cases e : n_spec_l1In a b c
  · rfl
  · exact absurd (in_iff.1 e) h
end

/-! spec_GeoOk -/
section
noncomputable def B_spec_GeoOk : Code := (Try.f91.body).getD .skip
noncomputable def E_spec_GeoOk : Env := envOf TT [(60, con_spec_l1In)] []
theorem fr_spec_GeoOk_0 : FrOk Try.prog ⟨E_spec_GeoOk, 11, fun _ => none⟩ B_spec_GeoOk := frOk_base mixed tt_ok ⟨ok_spec_l1In, trivial⟩
noncomputable def D_spec_GeoOk_0 : Nat → Option Seg := fun _ => none
abbrev I_spec_GeoOk : List Par := [.rd tG]
abbrev U_spec_GeoOk : List OT := [⟨false, tB, .fz⟩]
noncomputable def raw_spec_GeoOk (a0 : dG) : Option (ResD U_spec_GeoOk × MutD I_spec_GeoOk) :=
  let r1 := n_spec_l1In a0.1 3 5
  bif r1 then
    let r2 := n_spec_l1In a0.2 1 8
    some ((r2, ()), ())
  else
    some ((false, ()), ())
theorem e_spec_GeoOk (x : InD I_spec_GeoOk) : execF ⟨E_spec_GeoOk, 11, D_spec_GeoOk_0⟩ Try.f91.results.toList B_spec_GeoOk I_spec_GeoOk U_spec_GeoOk x = raw_spec_GeoOk x.1 := by kernel_rfl
theorem ok0_spec_GeoOk : ConOk Try.prog 91 ⟨I_spec_GeoOk, U_spec_GeoOk, fun x => raw_spec_GeoOk x.1⟩ := conOk_exec (fr_spec_GeoOk_0) Try.func91 (by kernel_rfl) (by kernel_rfl) Try.ntmps91.symm (by decide) (fun x r h => (e_spec_GeoOk x).trans h)
noncomputable def n_spec_GeoOk (a0 : dG) : Bool :=
  let r1 := n_spec_l1In a0.1 3 5
  bif r1 then
    let r2 := n_spec_l1In a0.2 1 8
    r2
  else
    false
noncomputable def con_spec_GeoOk : Con := ⟨I_spec_GeoOk, U_spec_GeoOk, fun x => (fun n => some ((n, ()), ())) (n_spec_GeoOk x.1)⟩
theorem nn_spec_GeoOk (a0 : dG) : raw_spec_GeoOk a0 = (fun n => some ((n, ()), ())) (n_spec_GeoOk a0) := bif_ty (p := fun (n : Bool) => ((n, ()), ())) (bif_some (p := fun (n : Bool) => ((n, ()), ())) rfl rfl)
theorem ok_spec_GeoOk : ConOk Try.prog 91 con_spec_GeoOk := (ok0_spec_GeoOk).mono (fun x r _ h => (nn_spec_GeoOk x.1).trans h)
theorem geo_iff {a : Int × Int} : n_spec_GeoOk a = true ↔ (3 ≤ a.1 ∧ a.1 ≤ 5) ∧ 1 ≤ a.2 ∧ a.2 ≤ 8 := by
  unfold n_spec_GeoOk
  cases h : n_spec_l1In a.1 3 5
  · have : ¬ (3 ≤ a.1 ∧ a.1 ≤ 5) := fun e => by rw [in_iff.2 e] at h; simp at h
    simp [this]
  · simp only [cond_true, in_iff]
    exact ⟨fun e => ⟨in_iff.1 h, e⟩, fun e => e.2⟩
end
end Go.Tf
