/- Functions of the program, and what they come to. -/
import Derived.Test.YtgmadfpnljibhaaExactSpoilAtTt
namespace Go.Tf
open Go.Proofs
set_option synthInstance.maxHeartbeats 400000
set_option synthInstance.maxSize 10000
set_option linter.unusedVariables false
set_option linter.unusedSimpArgs false
set_option maxRecDepth 100000
/-! laws_szIntS -/
section
noncomputable def B_laws_szIntS : Code := (Try.f135.body).getD .skip
noncomputable def E_laws_szIntS : Env := envOf TT [] []
theorem fr_laws_szIntS_0 : FrOk Try.prog ⟨E_laws_szIntS, 12, fun _ => none⟩ B_laws_szIntS := frOk_base mixed tt_ok trivial
noncomputable def D_laws_szIntS_0 : Nat → Option Seg := fun _ => none
abbrev I_laws_szIntS : List Par := [.rd tL, .rd tI]
abbrev U_laws_szIntS : List OT := [⟨false, tI, .fz⟩]
noncomputable def raw_laws_szIntS (a0 : List Int) (a1 : Int) : Option (ResD U_laws_szIntS × MutD I_laws_szIntS) :=
  bif (ltb (IntKind.i64.wrap (a1 - (a0.length : Int))) 0) then
    some (((-1), ()), ())
  else
    some (((IntKind.i64.wrap (a1 - (a0.length : Int))), ()), ())
theorem e_laws_szIntS (x : InD I_laws_szIntS) : execF ⟨E_laws_szIntS, 12, D_laws_szIntS_0⟩ Try.f135.results.toList B_laws_szIntS I_laws_szIntS U_laws_szIntS x = raw_laws_szIntS x.1 x.2.1 := by kernel_rfl
theorem ok0_laws_szIntS : ConOk Try.prog 135 ⟨I_laws_szIntS, U_laws_szIntS, fun x => raw_laws_szIntS x.1 x.2.1⟩ := conOk_exec (fr_laws_szIntS_0) Try.func135 (by kernel_rfl) (by kernel_rfl) Try.ntmps135.symm (by decide) (fun x r h => (e_laws_szIntS x).trans h)
noncomputable def n_laws_szIntS (a0 : List Int) (a1 : Int) : Int :=
  bif (ltb (IntKind.i64.wrap (a1 - (a0.length : Int))) 0) then
    (-1)
  else
    (IntKind.i64.wrap (a1 - (a0.length : Int)))
noncomputable def con_laws_szIntS : Con := ⟨I_laws_szIntS, U_laws_szIntS, fun x => (fun n => some ((n, ()), ())) (n_laws_szIntS x.1 x.2.1)⟩
theorem nn_laws_szIntS (a0 : List Int) (a1 : Int) : raw_laws_szIntS a0 a1 = (fun n => some ((n, ()), ())) (n_laws_szIntS a0 a1) := bif_ty (p := fun (n : Int) => ((n, ()), ())) (bif_some (p := fun (n : Int) => ((n, ()), ())) rfl rfl)
theorem ok_laws_szIntS : ConOk Try.prog 135 con_laws_szIntS := (ok0_laws_szIntS).mono (fun x r _ h => (nn_laws_szIntS x.1 x.2.1).trans h)
theorem szIntS_nn {a : List Int} {k : Int} (hk : 0 ≤ k) (hk2 : k ≤ 1048576) (ha : a.length ≤ 17592186044416) (h : ¬ n_laws_szIntS a k < 0) : (a.length : Int) ≤ k ∧ n_laws_szIntS a k = k - a.length := by
  unfold n_laws_szIntS at h ⊢
  rw [wr (by omega) (by omega)] at h ⊢
  by_cases h1 : k - (a.length : Int) < 0
  · rw [ltb_t h1] at h; exact absurd (show (-1 : Int) < 0 by omega) h
  · rw [ltb_f (Int.not_lt.1 h1)]; exact ⟨by omega, rfl⟩
theorem foldl_snoc {α β : Type} (f : α → β) : ∀ (l : List α) (s : List β), l.foldl (fun s i => s ++ [f i]) s = s ++ l.map f
  | [], s => by simp
  | x :: l, s => by rw [List.foldl_cons, foldl_snoc f l]; simp
theorem foldl_id {α : Type} (l : List α) : l.foldl (fun s i => s ++ [i]) [] = l := by
  have := foldl_snoc id l []
  simpa using this
theorem sum_add1 {α : Type} (f : α → Nat) (c : Nat) : ∀ l : List α, (l.map (fun x => c + f x)).sum = c * l.length + (l.map f).sum
  | [] => by simp
  | x :: l => by rw [List.map_cons, List.sum_cons, sum_add1 f c l, List.map_cons, List.sum_cons, List.length_cons, Nat.mul_add]; omega
theorem szF_le {α : Type} {u : α → Int → Int} {m : α → Nat} {l : List α} {k : Int} (hu : ∀ x ∈ l, ∀ k, 0 ≤ k → k ≤ 1048576 → 0 ≤ u x k → (m x : Int) ≤ k ∧ u x k ≤ k - m x) (h0 : 0 ≤ k) (h1 : k ≤ 1048576) (hl : l.length ≤ 17592186044416)
    (h : 0 ≤ (bif ltb (IntKind.i64.wrap (k - (l.length : Int))) 0 then (-1) else (szG u l (IntKind.i64.wrap (k - (l.length : Int)))).getD (-1))) :
    ((l.length + (l.map m).sum : Nat) : Int) ≤ k - (bif ltb (IntKind.i64.wrap (k - (l.length : Int))) 0 then (-1) else (szG u l (IntKind.i64.wrap (k - (l.length : Int)))).getD (-1)) ∧ (bif ltb (IntKind.i64.wrap (k - (l.length : Int))) 0 then (-1) else (szG u l (IntKind.i64.wrap (k - (l.length : Int)))).getD (-1)) ≤ k := by
  rw [wr (show -9223372036854775808 ≤ k - (l.length : Int) by omega) (by omega)] at h ⊢
  by_cases h2 : k - (l.length : Int) < 0
  · rw [ltb_t h2] at h; exact absurd (show (0 : Int) ≤ -1 from h) (by omega)
  · rw [ltb_f (Int.not_lt.1 h2), cond_false] at h ⊢
    cases hg : szG u l (k - (l.length : Int)) with
    | none => rw [hg] at h; exact absurd (show (0 : Int) ≤ -1 from h) (by omega)
    | some r =>
      have := szG_le hu (by omega) (by omega) hg
      rw [Option.getD_some]
      omega
/-- how many marks are put into a disk, into an array -/
def mMem (m : dM) : Nat := (m.1.map (fun x : List Int => x.length)).sum + (m.2.1.map (fun x : dW => 1 + x.2.length)).sum + 1 + m.2.2.2.length
def mMems (l : List dM) : Nat := (l.map mMem).sum
def mEnts (l : List dW) : Nat := (l.map (fun x : dW => 1 + x.2.length)).sum
def mArr (a : dA) : Nat := mMems a.2.2.1 + mEnts a.2.2.2.2.2.2.2.2.1
abbrev noMem : dM := ([], [], false, [])
/-- a word -/
def isW (x : Int) : Bool := leb 0 x && leb x 65535
def secOk (s : List Int) : Bool := leb (s.length : Int) 12 && s.all isW
theorem isW_iff {x : Int} : isW x = true ↔ 0 ≤ x ∧ x ≤ 65535 := by simp [isW, leb_iff]
theorem secOk_iff {s : List Int} : secOk s = true ↔ s.length ≤ 12 ∧ ∀ x ∈ s, 0 ≤ x ∧ x ≤ 65535 := by
  simp only [secOk, Bool.and_eq_true, leb_iff, List.all_eq_true, isW_iff]
  constructor
  · rintro ⟨h1, h2⟩; exact ⟨by omega, h2⟩
  · rintro ⟨h1, h2⟩; exact ⟨by omega, h2⟩
theorem asc_iff : ∀ {l : List Int}, l.Pairwise (· < ·) ↔ ∀ i, i + 1 < l.length → l.getD i 0 < l.getD (i + 1) 0
  | [] => by simp
  | [x] => by simp
  | x :: y :: l => by
    have ih := asc_iff (l := y :: l)
    constructor
    · intro h i hi
      cases h with
      | cons h1 h2 =>
        cases i with
        | zero => exact h1 y List.mem_cons_self
        | succ i => exact ih.1 h2 i (by simpa using hi)
    · intro h
      have h2 : (y :: l).Pairwise (· < ·) := ih.2 fun i hi => h (i + 1) (by simpa using hi)
      refine .cons (fun z hz => ?_) h2
      have h3 : x < y := h 0 (by simp)
      rcases List.mem_cons.1 hz with rfl | hz
      · exact h3
      · cases h2 with
        | cons h4 _ => exact Int.lt_trans h3 (h4 z hz)
/-- numbers of sectors, ascending -/
def badOk (n : Nat) (l : List Int) : Bool := l.all (fun x => inb x n) && decide (l.Pairwise (· < ·))
def wrOk (n : Nat) (w : dW) : Bool := inb w.1 n && secOk w.2
def memOk (m : dM) : Bool := m.1.all secOk && m.2.1.all (wrOk m.1.length) && badOk m.1.length m.2.2.2 && leb 1 (m.1.length : Int) && leb (m.1.length : Int) 20 && leb (m.2.1.length : Int) 60
def badAt (n : Nat) (l : List Int) (i : Nat) : Bool := !(inb (l.getD i 0) n) || (decide (0 < i) && leb (l.getD i 0) (l.getD (i - 1) 0))
theorem badAt_any (n : Nat) (l : List Int) : (List.range l.length).any (badAt n l) = !(badOk n l) := by
  rw [Bool.eq_iff_iff, List.any_eq_true, Bool.not_eq_true', badOk, Bool.and_eq_false_iff, decide_eq_false_iff_not, asc_iff, List.all_eq_false]
  simp only [List.mem_range, badAt, Bool.or_eq_true, Bool.not_eq_true', Bool.and_eq_true, decide_eq_true_eq, leb_iff]
  constructor
  · rintro ⟨i, hi, h | ⟨h1, h2⟩⟩
    · exact .inl ⟨l[i], List.getElem_mem hi, by rw [getD_get hi] at h; simp [h]⟩
    · refine .inr fun h3 => ?_
      have := h3 (i - 1) (by omega)
      rw [show i - 1 + 1 = i by omega] at this
      omega
  · rintro (⟨x, hx, h⟩ | h)
    · obtain ⟨i, hi, rfl⟩ := List.getElem_of_mem hx
      exact ⟨i, hi, .inl (by rw [getD_get hi]; simpa using h)⟩
    · refine Classical.byContradiction fun hc => h fun i hi => ?_
      refine Classical.byContradiction fun h4 => hc ⟨i + 1, hi, .inr ⟨by omega, ?_⟩⟩
      rw [Nat.add_sub_cancel]; omega
/-- the newest of a sector among what is to be written -/
def newest (n : Int) (c : List dW) (s : List Int) : List Int := c.foldl (fun s w => bif w.1 == n then w.2 else s) s
def canRead (m : dM) (n : Int) : Bool := memOk m && (!m.2.2.1 && (inb n m.1.length && !(m.2.2.2.any (· == n))))
def readSec (m : dM) (n : Int) : List Int × Bool := bif canRead m n then (newest n m.2.1 (nth m.1 n []), true) else ([], false)
theorem newest_ind {P : List Int → Prop} {n : Int} : ∀ {c : List dW} {s : List Int}, P s → (∀ w ∈ c, P w.2) → P (newest n c s)
  | [], _, h, _ => h
  | w :: c, s, h, hc => newest_ind (c := c) (bif_ind (hc w List.mem_cons_self) h) (fun x hx => hc x (List.mem_cons_of_mem _ hx))
theorem nth_mem {α : Type} {P : α → Prop} {l : List α} {i : Int} {d : α} (h : inb i l.length = true) (hl : ∀ x ∈ l, P x) : P (nth l i d) := by
  obtain ⟨h1, h2⟩ := inb_iff.1 h
  unfold nth
  rw [getD_get (show i.toNat < l.length by omega)]
  exact hl _ (List.getElem_mem _)
def dataAt (s : Int) : Int := bif leb 0 s && leb s 1099511627776 then s + 6 else -1
/-- a disk that is there, with a stripe that is -/
def liveAt (a : dA) (m s : Int) : Bool := inb m a.2.2.1.length && (!(nth a.2.2.1 m noMem).2.2.1 && (m != a.2.2.2.1 || ltb s a.2.2.2.2.1))
def wordSec (a : dA) (m s : Int) : List Int × Bool := readSec (nth a.2.2.1 m noMem) (dataAt s)
def wordOk (a : dA) (m s : Int) : Bool := liveAt a m s && ((wordSec a m s).2 && ((wordSec a m s).1.length : Int) == 1)
/-- what a disk holds of a stripe -/
def word (a : dA) (m s : Int) : Int := bif wordOk a m s then nth (wordSec a m s).1 0 0 else 0
def xw (a b : Int) : Int := IntKind.i64.wrap ((BitVec.ofInt IntKind.i64.bits a ^^^ BitVec.ofInt IntKind.i64.bits b).toNat : Int)
def xorOf (l : List Int) : Int := l.foldl xw 0
def allWords (a : dA) (s : Int) : Bool := (List.range a.2.2.1.length).all (fun (i : Nat) => wordOk a i s)
def xorAt (a : dA) (s : Int) : Int × Bool := bif allWords a s then (xorOf ((List.range a.2.2.1.length).map (fun (i : Nat) => word a i s)), true) else (0, false)
def evenA (a : dA) : Bool := (List.range (min a.2.1.2.toNat 20)).all (fun (s : Nat) => !((xorAt a s).2 && (xorAt a s).1 != 0))
abbrev noArr : dA := (0, (0, 0), [], 0, 0, 0, 0, 0, [], 0, false, false)
/-- whether a bit of a number is set -/
def bitAt (k : Int) (i : Nat) : Bool := IntKind.i64.wrap ((BitVec.ofInt IntKind.i64.bits (k.fdiv (2 ^ (min (i : Int).toNat IntKind.i64.bits))) &&& BitVec.ofInt IntKind.i64.bits 1).toNat : Int) == 1
def keepOf (k : Int) : Int := bif leb 0 k && leb k 1048575 then k else 0
def layOne (b : Nat → Bool) (c : List dW) (l : List (List Int)) (i : Nat) : List (List Int) := bif b i then l.set (nth c i (0, [])).1.toNat (nth c i (0, [])).2 else l
/-- what is laid of what was to be written, where b says so -/
def layKept (b : Nat → Bool) (c : List dW) (l : List (List Int)) : List (List Int) := (List.range c.length).foldl (layOne b c) l
def fallMem (m : dM) (k : Int) : dM := bif memOk m then (layKept (fun i => decide (i < 20) && bitAt (keepOf k) i) m.2.1 m.1, [], m.2.2.1, m.2.2.2) else m
def keepAt (ks : List Int) (i : Nat) : Int := bif decide (i < ks.length) then nth ks i 0 else 0
def fallAll (l : List dM) (ks : List Int) : List dM := (List.range l.length).map (fun (i : Nat) => fallMem (nth l i noMem) (keepAt ks i))
theorem memOk_parts {m : dM} (h : memOk m = true) : m.1.all secOk = true ∧ m.2.1.all (wrOk m.1.length) = true ∧ badOk m.1.length m.2.2.2 = true ∧ 1 ≤ m.1.length ∧ m.1.length ≤ 20 ∧ m.2.1.length ≤ 60 := by
  simp only [memOk, Bool.and_eq_true, leb_iff] at h
  exact ⟨h.1.1.1.1.1, h.1.1.1.1.2, h.1.1.1.2, by omega, by omega, by omega⟩
theorem memOk_wr {m : dM} (h : memOk m = true) {i : Nat} (hi : i < m.2.1.length) : inb (nth m.2.1 i (0, [])).1 m.1.length = true ∧ secOk (nth m.2.1 i (0, [])).2 = true := by
  have h1 := List.all_eq_true.1 (memOk_parts h).2.1 m.2.1[i] (List.getElem_mem hi)
  rw [nth_nat, getD_get hi]
  exact Bool.and_eq_true_iff.1 h1
theorem layOne_len {b : Nat → Bool} {c : List dW} {l : List (List Int)} {i : Nat} : (layOne b c l i).length = l.length := by
  unfold layOne; cases b i
  · rfl
  · exact List.length_set
theorem foldl_pres {α β : Type} (P : β → Prop) (f : β → α → β) (h : ∀ s x, P s → P (f s x)) : ∀ (l : List α) (s : β), P s → P (l.foldl f s)
  | [], _, hs => hs
  | x :: l, s, hs => foldl_pres P f h l (f s x) (h s x hs)
theorem layKept_len {b : Nat → Bool} {c : List dW} {l : List (List Int)} : (layKept b c l).length = l.length :=
  foldl_pres (fun x => x.length = l.length) _ (fun s x hs => by rw [layOne_len]; exact hs) _ l rfl
theorem layKept_min (b : Nat → Bool) (c : List dW) (l : List (List Int)) : layKept (fun i => decide (i < 20) && b i) c l = (List.range (min c.length 20)).foldl (layOne b c) l := by
  have h1 : ∀ n, n ≤ 20 → ∀ l, (List.range n).foldl (layOne (fun i => decide (i < 20) && b i) c) l = (List.range n).foldl (layOne b c) l := by
    intro n
    induction n with
    | zero => intro _ _; rfl
    | succ n ih =>
      intro hn l
      rw [List.range_succ, List.foldl_append, List.foldl_append, ih (by omega)]
      simp only [List.foldl_cons, List.foldl_nil, layOne, show decide (n < 20) = true from decide_eq_true (by omega), Bool.true_and]
  have h2 : ∀ n, 20 ≤ n → ∀ l, (List.range n).foldl (layOne (fun i => decide (i < 20) && b i) c) l = (List.range 20).foldl (layOne b c) l := by
    intro n
    induction n with
    | zero => intro h; omega
    | succ n ih =>
      intro hn l
      by_cases h : 20 ≤ n
      · rw [List.range_succ, List.foldl_append, ih h]
        simp only [List.foldl_cons, List.foldl_nil, layOne, show decide (n < 20) = false from decide_eq_false (by omega), Bool.false_and, cond_false]
      · rw [h1 (n + 1) (by omega), show n + 1 = 20 by omega]
  unfold layKept
  by_cases h : c.length ≤ 20
  · rw [h1 _ h, Nat.min_eq_left h]
  · rw [h2 _ (by omega), Nat.min_eq_right (by omega)]
theorem secs_small {l : List (List Int)} {b : Nat} (h : l.length ≤ 20) (hs : ∀ x ∈ l, x.length ≤ b) : (l.map (fun x : List Int => x.length)).sum ≤ 20 * b := by
  have := sum_const (f := fun x : List Int => x.length) hs
  exact Nat.le_trans this (Nat.mul_le_mul_right _ h)
theorem layKept_all {P : List Int → Prop} {b : Nat → Bool} {c : List dW} {l : List (List Int)} (hl : ∀ x ∈ l, P x) (hc : ∀ w ∈ c, P w.2) : ∀ x ∈ layKept b c l, P x := by
  have : ∀ (n : Nat), n ≤ c.length → ∀ x ∈ (List.range n).foldl (layOne b c) l, P x := by
    intro n
    induction n with
    | zero => intro _; exact hl
    | succ n ih =>
      intro hn x hx
      rw [List.range_succ, List.foldl_append, List.foldl_cons, List.foldl_nil, layOne] at hx
      cases hb : b n
      · rw [hb] at hx; exact ih (by omega) x hx
      · rw [hb, cond_true] at hx
        rcases List.mem_or_eq_of_mem_set hx with h | h
        · exact ih (by omega) x h
        · rw [h, nth_nat, getD_get (show n < c.length by omega)]
          exact hc _ (List.getElem_mem _)
  exact this _ (Nat.le_refl _)
theorem fall_small (m : dM) (k : Int) : mMem (fallMem m k) ≤ mMem m + 240 := by
  unfold fallMem
  cases hm : memOk m
  · exact Nat.le_add_right _ _
  · obtain ⟨h1, h2, _, _, h3, _⟩ := memOk_parts hm
    have hs : ∀ x ∈ layKept (fun i => decide (i < 20) && bitAt (keepOf k) i) m.2.1 m.1, x.length ≤ 12 :=
      layKept_all (P := fun x => x.length ≤ 12) (fun x hx => (secOk_iff.1 (List.all_eq_true.1 h1 x hx)).1) (fun w hw => (secOk_iff.1 (Bool.and_eq_true_iff.1 (List.all_eq_true.1 h2 w hw)).2).1)
    have := secs_small (b := 12) (by rw [layKept_len]; exact h3) hs
    unfold mMem
    simp only [cond_true, List.map_nil, List.sum_nil]
    omega
theorem fallAll_small (l : List dM) (ks : List Int) : mMems (fallAll l ks) ≤ mMems l + 240 * l.length := by
  have : ∀ n, n ≤ l.length → (((List.range n).map (fun (i : Nat) => fallMem (nth l i noMem) (keepAt ks i))).map mMem).sum ≤ ((l.take n).map mMem).sum + 240 * n := by
    intro n
    induction n with
    | zero => intro _; simp
    | succ n ih =>
      intro hn
      rw [List.range_succ, List.map_append, List.map_append, List.sum_append, ← List.take_append_getElem (show n < l.length by omega), List.map_append, List.sum_append]
      have := ih (by omega)
      have h2 := fall_small (nth l n noMem) (keepAt ks n)
      rw [nth_nat, getD_get (show n < l.length by omega)] at h2
      simp only [List.map_cons, List.map_nil, List.sum_cons, List.sum_nil]
      rw [nth_nat l n, getD_get (show n < l.length by omega)]
      omega
  have h := this l.length (Nat.le_refl _)
  rw [List.take_length] at h
  exact h
def canWrite (m : dM) (n : Int) (s : List Int) : Bool := memOk m && (!m.2.2.1 && (inb n m.1.length && (secOk s && ltb (m.2.1.length : Int) 60)))
def sans (l : List Int) (n : Int) : List Int := l.filter (· != n)
def writeSec (m : dM) (n : Int) (s : List Int) : dM × Bool := bif canWrite m n s then ((m.1, m.2.1 ++ [(n, s)], m.2.2.1, sans m.2.2.2 n), true) else (m, false)
def flushMem (m : dM) : dM := bif memOk m && !m.2.2.1 then (layKept (fun _ => true) m.2.1 m.1, [], m.2.2.1, m.2.2.2) else m
def failMem (m : dM) : dM := (m.1, [], true, m.2.2.2)
end

/-! laws_szIntSS -/
section
noncomputable def B_laws_szIntSS : Code := (Try.f133.body).getD .skip
noncomputable def E_laws_szIntSS : Env := envOf TT [(135, con_laws_szIntS)] []
theorem fr_laws_szIntSS_0 : FrOk Try.prog ⟨E_laws_szIntSS, 27, fun _ => none⟩ B_laws_szIntSS := frOk_base mixed tt_ok ⟨ok_laws_szIntS, trivial⟩
noncomputable def D_laws_szIntSS_0 : Nat → Option Seg := fun _ => none
def L_laws_szIntSS_61 : Shape := ⟨[(0, false, [.br tL]), (1, false, [.int .i64]), (5, false, [.int .i64])], [], []⟩
def S_laws_szIntSS_61 : Shape := ⟨[(0, false, [.br tL]), (1, false, [.int .i64]), (5, false, [.ci .i64 0])], [], []⟩
def O_laws_szIntSS_61 : Shape := ⟨[(1, false, [.int .i64])], [], []⟩
def Z_laws_szIntSS_61 : Shape := ⟨[(4, false, [.int .i64])], [], []⟩
noncomputable def st_laws_szIntSS_61 (v0 : List (List Int)) (v1 v2 : Int) : Option ((L_laws_szIntSS_61).X ⊕ ((O_laws_szIntSS_61).X ⊕ (Z_laws_szIntSS_61).X)) :=
  bif (ltb v2 (v0.length : Int)) then
    bif (inb v2 v0.length) then
      let r2 := n_laws_szIntS (nth v0 v2 []) v1
      bif (ltb r2 0) then
        some (.inr (.inr ((((-1), ()), ()), (), ())))
      else
        some (.inl (((v0, ()), (r2, ()), ((IntKind.i64.wrap (v2 + 1)), ()), ()), (), ()))
    else none
  else
    some (.inr (.inl (((v1, ()), ()), (), ())))
noncomputable def stx_laws_szIntSS_61 (x : (L_laws_szIntSS_61).X) := st_laws_szIntSS_61 x.1.1.1 x.1.2.1.1 x.1.2.2.1.1
def em_laws_szIntSS_61 (x : (S_laws_szIntSS_61).X) : (L_laws_szIntSS_61).X := (((x.1.1.1, ()), (x.1.2.1.1, ()), (0, ()), ()), (), ())
noncomputable def c_laws_szIntSS_61 : Code := (subN B_laws_szIntSS 64 244).getD .skip
theorem a_laws_szIntSS_61 : subN B_laws_szIntSS 64 61 = some (.block 0 (.loop c_laws_szIntSS_61)) := by kernel_rfl
theorem r_laws_szIntSS_61 (x : (L_laws_szIntSS_61).X) : roundT ⟨E_laws_szIntSS, 27, D_laws_szIntSS_0⟩ 0 c_laws_szIntSS_61 244 L_laws_szIntSS_61 O_laws_szIntSS_61 Z_laws_szIntSS_61 x = stx_laws_szIntSS_61 x := by kernel_rfl
def fu_laws_szIntSS_61 (x : (S_laws_szIntSS_61).X) : Nat := 18446744073709551616
noncomputable def F_laws_szIntSS_61 (x : (S_laws_szIntSS_61).X) : Option ((O_laws_szIntSS_61).X ⊕ (Z_laws_szIntSS_61).X) := loopN stx_laws_szIntSS_61 (fu_laws_szIntSS_61 x) (em_laws_szIntSS_61 x)
noncomputable def sg_laws_szIntSS_61 : Seg := ⟨S_laws_szIntSS_61, O_laws_szIntSS_61, Z_laws_szIntSS_61, F_laws_szIntSS_61⟩
noncomputable def D_laws_szIntSS_1 : Nat → Option Seg := fun q => bif Nat.beq q 61 then some sg_laws_szIntSS_61 else D_laws_szIntSS_0 q
theorem fr_laws_szIntSS_1 : FrOk Try.prog ⟨E_laws_szIntSS, 27, D_laws_szIntSS_1⟩ B_laws_szIntSS := (fr_laws_szIntSS_0).loop (sg := sg_laws_szIntSS_61) L_laws_szIntSS_61 em_laws_szIntSS_61 (by decide) a_laws_szIntSS_61 stx_laws_szIntSS_61 fu_laws_szIntSS_61 (by decide) (fun _ => rfl) (fun x r _ h => h) r_laws_szIntSS_61
abbrev I_laws_szIntSS : List Par := [.rd tLL, .rd tI]
abbrev U_laws_szIntSS : List OT := [⟨false, tI, .fz⟩]
noncomputable def raw_laws_szIntSS (a0 : List (List Int)) (a1 : Int) : Option (ResD U_laws_szIntSS × MutD I_laws_szIntSS) :=
  bif (ltb (IntKind.i64.wrap (a1 - (a0.length : Int))) 0) then
    some (((-1), ()), ())
  else
    segM (F_laws_szIntSS_61 (((a0, ()), ((IntKind.i64.wrap (a1 - (a0.length : Int))), ()), ((), ()), ()), (), ())) (fun y2 =>
      some ((y2.1.1.1, ()), ())) (fun y2 =>
      some ((y2.1.1.1, ()), ()))
theorem e_laws_szIntSS (x : InD I_laws_szIntSS) : execF ⟨E_laws_szIntSS, 27, D_laws_szIntSS_1⟩ Try.f133.results.toList B_laws_szIntSS I_laws_szIntSS U_laws_szIntSS x = raw_laws_szIntSS x.1 x.2.1 := by kernel_rfl
theorem ok0_laws_szIntSS : ConOk Try.prog 133 ⟨I_laws_szIntSS, U_laws_szIntSS, fun x => raw_laws_szIntSS x.1 x.2.1⟩ := conOk_exec (fr_laws_szIntSS_1) Try.func133 (by kernel_rfl) (by kernel_rfl) Try.ntmps133.symm (by decide) (fun x r h => (e_laws_szIntSS x).trans h)
noncomputable def n_laws_szIntSS (a0 : List (List Int)) (a1 : Int) : Int := bif ltb (IntKind.i64.wrap (a1 - (a0.length : Int))) 0 then (-1) else (szG n_laws_szIntS a0 (IntKind.i64.wrap (a1 - (a0.length : Int)))).getD (-1)
theorem nn_laws_szIntSS (a0 : List (List Int)) (a1 : Int) (hk : InOk I_laws_szIntSS (a0, a1, ())) : raw_laws_szIntSS a0 a1 = (fun n => some ((n, ()), ())) (n_laws_szIntSS a0 a1) := by
  have hb : a0.length * 24 ≤ 2 ^ 47 := hk.1.1
  have hl : ∀ k : Int, F_laws_szIntSS_61 (((a0, ()), (k, ()), ((), ()), ()), (), ()) = some (match szG n_laws_szIntS a0 k with | some r => .inl (((r, ()), ()), (), ()) | none => .inr ((((-1), ()), ()), (), ())) := fun k =>
    loopN_sz (step := stx_laws_szIntSS_61) a0 ([] : List Int) (fun i k => (((a0, ()), (k, ()), ((i : Int), ()), ()), (), ())) n_laws_szIntS (fun r => .inl (((r, ()), ()), (), ())) (.inr ((((-1), ()), ()), (), ())) (fun i s hi => by
      simp only [stx_laws_szIntSS_61, st_laws_szIntSS_61, inb_nat hi, nth_nat, Int.toNat_natCast, ltb_t (show (i : Int) < a0.length by omega), cond_true, wr (show -9223372036854775808 ≤ (i : Int) + 1 by omega) (by omega), Int.natCast_add, Int.natCast_one, pr_eta]
      cases ltb (n_laws_szIntS (a0.getD i []) s) 0 <;> rfl) (fun s => by simp only [stx_laws_szIntSS_61, st_laws_szIntSS_61, ltb_f (Int.le_refl _), cond_false]) k _ (by show _ < 18446744073709551616; omega)
  unfold raw_laws_szIntSS n_laws_szIntSS
  rw [hl]
  cases ltb (IntKind.i64.wrap (a1 - (a0.length : Int))) 0
  · cases szG n_laws_szIntS a0 (IntKind.i64.wrap (a1 - (a0.length : Int))) <;> rfl
  · rfl
noncomputable def con_laws_szIntSS : Con := ⟨I_laws_szIntSS, U_laws_szIntSS, fun x => (fun n => some ((n, ()), ())) (n_laws_szIntSS x.1 x.2.1)⟩
theorem ok_laws_szIntSS : ConOk Try.prog 133 con_laws_szIntSS := (ok0_laws_szIntSS).mono (fun x r hk h => (nn_laws_szIntSS x.1 x.2.1 hk).trans h)
end

/-! laws_szWr -/
section
noncomputable def B_laws_szWr : Code := (Try.f161.body).getD .skip
noncomputable def E_laws_szWr : Env := envOf TT [(135, con_laws_szIntS)] []
theorem fr_laws_szWr_0 : FrOk Try.prog ⟨E_laws_szWr, 12, fun _ => none⟩ B_laws_szWr := frOk_base mixed tt_ok ⟨ok_laws_szIntS, trivial⟩
noncomputable def D_laws_szWr_0 : Nat → Option Seg := fun _ => none
abbrev I_laws_szWr : List Par := [.rd tW, .rd tI]
abbrev U_laws_szWr : List OT := [⟨false, tI, .fz⟩]
noncomputable def raw_laws_szWr (a0 : dW) (a1 : Int) : Option (ResD U_laws_szWr × MutD I_laws_szWr) :=
  let r1 := n_laws_szIntS a0.2 a1
  bif (ltb r1 0) then
    some (((-1), ()), ())
  else
    some ((r1, ()), ())
theorem e_laws_szWr (x : InD I_laws_szWr) : execF ⟨E_laws_szWr, 12, D_laws_szWr_0⟩ Try.f161.results.toList B_laws_szWr I_laws_szWr U_laws_szWr x = raw_laws_szWr x.1 x.2.1 := by kernel_rfl
theorem ok0_laws_szWr : ConOk Try.prog 161 ⟨I_laws_szWr, U_laws_szWr, fun x => raw_laws_szWr x.1 x.2.1⟩ := conOk_exec (fr_laws_szWr_0) Try.func161 (by kernel_rfl) (by kernel_rfl) Try.ntmps161.symm (by decide) (fun x r h => (e_laws_szWr x).trans h)
noncomputable def n_laws_szWr (a0 : dW) (a1 : Int) : Int :=
  let r1 := n_laws_szIntS a0.2 a1
  bif (ltb r1 0) then
    (-1)
  else
    r1
noncomputable def con_laws_szWr : Con := ⟨I_laws_szWr, U_laws_szWr, fun x => (fun n => some ((n, ()), ())) (n_laws_szWr x.1 x.2.1)⟩
theorem nn_laws_szWr (a0 : dW) (a1 : Int) : raw_laws_szWr a0 a1 = (fun n => some ((n, ()), ())) (n_laws_szWr a0 a1) := bif_ty (p := fun (n : Int) => ((n, ()), ())) (bif_some (p := fun (n : Int) => ((n, ()), ())) rfl rfl)
theorem ok_laws_szWr : ConOk Try.prog 161 con_laws_szWr := (ok0_laws_szWr).mono (fun x r _ h => (nn_laws_szWr x.1 x.2.1).trans h)
end

/-! laws_szWrS -/
section
noncomputable def B_laws_szWrS : Code := (Try.f134.body).getD .skip
noncomputable def E_laws_szWrS : Env := envOf TT [(161, con_laws_szWr)] []
theorem fr_laws_szWrS_0 : FrOk Try.prog ⟨E_laws_szWrS, 27, fun _ => none⟩ B_laws_szWrS := frOk_base mixed tt_ok ⟨ok_laws_szWr, trivial⟩
noncomputable def D_laws_szWrS_0 : Nat → Option Seg := fun _ => none
def L_laws_szWrS_61 : Shape := ⟨[(0, false, [.br tW]), (1, false, [.int .i64]), (5, false, [.int .i64])], [], []⟩
def S_laws_szWrS_61 : Shape := ⟨[(0, false, [.br tW]), (1, false, [.int .i64]), (5, false, [.ci .i64 0])], [], []⟩
def O_laws_szWrS_61 : Shape := ⟨[(1, false, [.int .i64])], [], []⟩
def Z_laws_szWrS_61 : Shape := ⟨[(4, false, [.int .i64])], [], []⟩
noncomputable def st_laws_szWrS_61 (v0 : List dW) (v1 v2 : Int) : Option ((L_laws_szWrS_61).X ⊕ ((O_laws_szWrS_61).X ⊕ (Z_laws_szWrS_61).X)) :=
  bif (ltb v2 (v0.length : Int)) then
    bif (inb v2 v0.length) then
      let r2 := n_laws_szWr (nth v0 v2 (0, [])) v1
      bif (ltb r2 0) then
        some (.inr (.inr ((((-1), ()), ()), (), ())))
      else
        some (.inl (((v0, ()), (r2, ()), ((IntKind.i64.wrap (v2 + 1)), ()), ()), (), ()))
    else none
  else
    some (.inr (.inl (((v1, ()), ()), (), ())))
noncomputable def stx_laws_szWrS_61 (x : (L_laws_szWrS_61).X) := st_laws_szWrS_61 x.1.1.1 x.1.2.1.1 x.1.2.2.1.1
def em_laws_szWrS_61 (x : (S_laws_szWrS_61).X) : (L_laws_szWrS_61).X := (((x.1.1.1, ()), (x.1.2.1.1, ()), (0, ()), ()), (), ())
noncomputable def c_laws_szWrS_61 : Code := (subN B_laws_szWrS 64 244).getD .skip
theorem a_laws_szWrS_61 : subN B_laws_szWrS 64 61 = some (.block 0 (.loop c_laws_szWrS_61)) := by kernel_rfl
theorem r_laws_szWrS_61 (x : (L_laws_szWrS_61).X) : roundT ⟨E_laws_szWrS, 27, D_laws_szWrS_0⟩ 0 c_laws_szWrS_61 244 L_laws_szWrS_61 O_laws_szWrS_61 Z_laws_szWrS_61 x = stx_laws_szWrS_61 x := by kernel_rfl
def fu_laws_szWrS_61 (x : (S_laws_szWrS_61).X) : Nat := 18446744073709551616
noncomputable def F_laws_szWrS_61 (x : (S_laws_szWrS_61).X) : Option ((O_laws_szWrS_61).X ⊕ (Z_laws_szWrS_61).X) := loopN stx_laws_szWrS_61 (fu_laws_szWrS_61 x) (em_laws_szWrS_61 x)
noncomputable def sg_laws_szWrS_61 : Seg := ⟨S_laws_szWrS_61, O_laws_szWrS_61, Z_laws_szWrS_61, F_laws_szWrS_61⟩
noncomputable def D_laws_szWrS_1 : Nat → Option Seg := fun q => bif Nat.beq q 61 then some sg_laws_szWrS_61 else D_laws_szWrS_0 q
theorem fr_laws_szWrS_1 : FrOk Try.prog ⟨E_laws_szWrS, 27, D_laws_szWrS_1⟩ B_laws_szWrS := (fr_laws_szWrS_0).loop (sg := sg_laws_szWrS_61) L_laws_szWrS_61 em_laws_szWrS_61 (by decide) a_laws_szWrS_61 stx_laws_szWrS_61 fu_laws_szWrS_61 (by decide) (fun _ => rfl) (fun x r _ h => h) r_laws_szWrS_61
abbrev I_laws_szWrS : List Par := [.rd tWs, .rd tI]
abbrev U_laws_szWrS : List OT := [⟨false, tI, .fz⟩]
noncomputable def raw_laws_szWrS (a0 : List dW) (a1 : Int) : Option (ResD U_laws_szWrS × MutD I_laws_szWrS) :=
  bif (ltb (IntKind.i64.wrap (a1 - (a0.length : Int))) 0) then
    some (((-1), ()), ())
  else
    segM (F_laws_szWrS_61 (((a0, ()), ((IntKind.i64.wrap (a1 - (a0.length : Int))), ()), ((), ()), ()), (), ())) (fun y2 =>
      some ((y2.1.1.1, ()), ())) (fun y2 =>
      some ((y2.1.1.1, ()), ()))
theorem e_laws_szWrS (x : InD I_laws_szWrS) : execF ⟨E_laws_szWrS, 27, D_laws_szWrS_1⟩ Try.f134.results.toList B_laws_szWrS I_laws_szWrS U_laws_szWrS x = raw_laws_szWrS x.1 x.2.1 := by kernel_rfl
theorem ok0_laws_szWrS : ConOk Try.prog 134 ⟨I_laws_szWrS, U_laws_szWrS, fun x => raw_laws_szWrS x.1 x.2.1⟩ := conOk_exec (fr_laws_szWrS_1) Try.func134 (by kernel_rfl) (by kernel_rfl) Try.ntmps134.symm (by decide) (fun x r h => (e_laws_szWrS x).trans h)
noncomputable def n_laws_szWrS (a0 : List (dW)) (a1 : Int) : Int := bif ltb (IntKind.i64.wrap (a1 - (a0.length : Int))) 0 then (-1) else (szG n_laws_szWr a0 (IntKind.i64.wrap (a1 - (a0.length : Int)))).getD (-1)
theorem nn_laws_szWrS (a0 : List (dW)) (a1 : Int) (hk : InOk I_laws_szWrS (a0, a1, ())) : raw_laws_szWrS a0 a1 = (fun n => some ((n, ()), ())) (n_laws_szWrS a0 a1) := by
  have hb : a0.length * 32 ≤ 2 ^ 47 := hk.1.1
  have hl : ∀ k : Int, F_laws_szWrS_61 (((a0, ()), (k, ()), ((), ()), ()), (), ()) = some (match szG n_laws_szWr a0 k with | some r => .inl (((r, ()), ()), (), ()) | none => .inr ((((-1), ()), ()), (), ())) := fun k =>
    loopN_sz (step := stx_laws_szWrS_61) a0 ((0, []) : dW) (fun i k => (((a0, ()), (k, ()), ((i : Int), ()), ()), (), ())) n_laws_szWr (fun r => .inl (((r, ()), ()), (), ())) (.inr ((((-1), ()), ()), (), ())) (fun i s hi => by
      simp only [stx_laws_szWrS_61, st_laws_szWrS_61, inb_nat hi, nth_nat, Int.toNat_natCast, ltb_t (show (i : Int) < a0.length by omega), cond_true, wr (show -9223372036854775808 ≤ (i : Int) + 1 by omega) (by omega), Int.natCast_add, Int.natCast_one, pr_eta]
      cases ltb (n_laws_szWr (a0.getD i (0, [])) s) 0 <;> rfl) (fun s => by simp only [stx_laws_szWrS_61, st_laws_szWrS_61, ltb_f (Int.le_refl _), cond_false]) k _ (by show _ < 18446744073709551616; omega)
  unfold raw_laws_szWrS n_laws_szWrS
  rw [hl]
  cases ltb (IntKind.i64.wrap (a1 - (a0.length : Int))) 0
  · cases szG n_laws_szWr a0 (IntKind.i64.wrap (a1 - (a0.length : Int))) <;> rfl
  · rfl
noncomputable def con_laws_szWrS : Con := ⟨I_laws_szWrS, U_laws_szWrS, fun x => (fun n => some ((n, ()), ())) (n_laws_szWrS x.1 x.2.1)⟩
theorem ok_laws_szWrS : ConOk Try.prog 134 con_laws_szWrS := (ok0_laws_szWrS).mono (fun x r hk h => (nn_laws_szWrS x.1 x.2.1 hk).trans h)
end

/-! laws_szMem -/
section
noncomputable def B_laws_szMem : Code := (Try.f96.body).getD .skip
noncomputable def E_laws_szMem : Env := envOf TT [(133, con_laws_szIntSS), (134, con_laws_szWrS), (135, con_laws_szIntS)] []
theorem fr_laws_szMem_0 : FrOk Try.prog ⟨E_laws_szMem, 24, fun _ => none⟩ B_laws_szMem := frOk_base mixed tt_ok ⟨ok_laws_szIntSS, ok_laws_szWrS, ok_laws_szIntS, trivial⟩
noncomputable def D_laws_szMem_0 : Nat → Option Seg := fun _ => none
abbrev I_laws_szMem : List Par := [.rd tM, .rd tI]
abbrev U_laws_szMem : List OT := [⟨false, tI, .fz⟩]
noncomputable def raw_laws_szMem (a0 : dM) (a1 : Int) : Option (ResD U_laws_szMem × MutD I_laws_szMem) :=
  let r1 := n_laws_szIntSS a0.1 a1
  bif (ltb r1 0) then
    some (((-1), ()), ())
  else
    let r2 := n_laws_szWrS a0.2.1 r1
    bif (ltb r2 0) then
      some (((-1), ()), ())
    else
      let r3 := n_laws_szIntS a0.2.2.2 r2
      bif (ltb r3 0) then
        some (((-1), ()), ())
      else
        some ((r3, ()), ())
theorem e_laws_szMem (x : InD I_laws_szMem) : execF ⟨E_laws_szMem, 24, D_laws_szMem_0⟩ Try.f96.results.toList B_laws_szMem I_laws_szMem U_laws_szMem x = raw_laws_szMem x.1 x.2.1 := by kernel_rfl
theorem ok0_laws_szMem : ConOk Try.prog 96 ⟨I_laws_szMem, U_laws_szMem, fun x => raw_laws_szMem x.1 x.2.1⟩ := conOk_exec (fr_laws_szMem_0) Try.func96 (by kernel_rfl) (by kernel_rfl) Try.ntmps96.symm (by decide) (fun x r h => (e_laws_szMem x).trans h)
noncomputable def n_laws_szMem (a0 : dM) (a1 : Int) : Int :=
  let r1 := n_laws_szIntSS a0.1 a1
  bif (ltb r1 0) then
    (-1)
  else
    let r2 := n_laws_szWrS a0.2.1 r1
    bif (ltb r2 0) then
      (-1)
    else
      let r3 := n_laws_szIntS a0.2.2.2 r2
      bif (ltb r3 0) then
        (-1)
      else
        r3
noncomputable def con_laws_szMem : Con := ⟨I_laws_szMem, U_laws_szMem, fun x => (fun n => some ((n, ()), ())) (n_laws_szMem x.1 x.2.1)⟩
theorem nn_laws_szMem (a0 : dM) (a1 : Int) : raw_laws_szMem a0 a1 = (fun n => some ((n, ()), ())) (n_laws_szMem a0 a1) := bif_ty (p := fun (n : Int) => ((n, ()), ())) (bif_some (p := fun (n : Int) => ((n, ()), ())) rfl (bif_some (p := fun (n : Int) => ((n, ()), ())) rfl (bif_some (p := fun (n : Int) => ((n, ()), ())) rfl rfl)))
theorem ok_laws_szMem : ConOk Try.prog 96 con_laws_szMem := (ok0_laws_szMem).mono (fun x r _ h => (nn_laws_szMem x.1 x.2.1).trans h)
end

/-! laws_szMemS -/
section
noncomputable def B_laws_szMemS : Code := (Try.f56.body).getD .skip
noncomputable def E_laws_szMemS : Env := envOf TT [(96, con_laws_szMem)] []
theorem fr_laws_szMemS_0 : FrOk Try.prog ⟨E_laws_szMemS, 27, fun _ => none⟩ B_laws_szMemS := frOk_base mixed tt_ok ⟨ok_laws_szMem, trivial⟩
noncomputable def D_laws_szMemS_0 : Nat → Option Seg := fun _ => none
def L_laws_szMemS_61 : Shape := ⟨[(0, false, [.br tM]), (1, false, [.int .i64]), (5, false, [.int .i64])], [], []⟩
def S_laws_szMemS_61 : Shape := ⟨[(0, false, [.br tM]), (1, false, [.int .i64]), (5, false, [.ci .i64 0])], [], []⟩
def O_laws_szMemS_61 : Shape := ⟨[(1, false, [.int .i64])], [], []⟩
def Z_laws_szMemS_61 : Shape := ⟨[(4, false, [.int .i64])], [], []⟩
noncomputable def st_laws_szMemS_61 (v0 : List dM) (v1 v2 : Int) : Option ((L_laws_szMemS_61).X ⊕ ((O_laws_szMemS_61).X ⊕ (Z_laws_szMemS_61).X)) :=
  bif (ltb v2 (v0.length : Int)) then
    bif (inb v2 v0.length) then
      let r2 := n_laws_szMem ((nth v0 v2 ([], [], false, [])).1, ((nth v0 v2 ([], [], false, [])).2).1, (((nth v0 v2 ([], [], false, [])).2).2)) v1
      bif (ltb r2 0) then
        some (.inr (.inr ((((-1), ()), ()), (), ())))
      else
        some (.inl (((v0, ()), (r2, ()), ((IntKind.i64.wrap (v2 + 1)), ()), ()), (), ()))
    else none
  else
    some (.inr (.inl (((v1, ()), ()), (), ())))
noncomputable def stx_laws_szMemS_61 (x : (L_laws_szMemS_61).X) := st_laws_szMemS_61 x.1.1.1 x.1.2.1.1 x.1.2.2.1.1
def em_laws_szMemS_61 (x : (S_laws_szMemS_61).X) : (L_laws_szMemS_61).X := (((x.1.1.1, ()), (x.1.2.1.1, ()), (0, ()), ()), (), ())
noncomputable def c_laws_szMemS_61 : Code := (subN B_laws_szMemS 64 244).getD .skip
theorem a_laws_szMemS_61 : subN B_laws_szMemS 64 61 = some (.block 0 (.loop c_laws_szMemS_61)) := by kernel_rfl
theorem r_laws_szMemS_61 (x : (L_laws_szMemS_61).X) : roundT ⟨E_laws_szMemS, 27, D_laws_szMemS_0⟩ 0 c_laws_szMemS_61 244 L_laws_szMemS_61 O_laws_szMemS_61 Z_laws_szMemS_61 x = stx_laws_szMemS_61 x := by kernel_rfl
def fu_laws_szMemS_61 (x : (S_laws_szMemS_61).X) : Nat := 18446744073709551616
noncomputable def F_laws_szMemS_61 (x : (S_laws_szMemS_61).X) : Option ((O_laws_szMemS_61).X ⊕ (Z_laws_szMemS_61).X) := loopN stx_laws_szMemS_61 (fu_laws_szMemS_61 x) (em_laws_szMemS_61 x)
noncomputable def sg_laws_szMemS_61 : Seg := ⟨S_laws_szMemS_61, O_laws_szMemS_61, Z_laws_szMemS_61, F_laws_szMemS_61⟩
noncomputable def D_laws_szMemS_1 : Nat → Option Seg := fun q => bif Nat.beq q 61 then some sg_laws_szMemS_61 else D_laws_szMemS_0 q
theorem fr_laws_szMemS_1 : FrOk Try.prog ⟨E_laws_szMemS, 27, D_laws_szMemS_1⟩ B_laws_szMemS := (fr_laws_szMemS_0).loop (sg := sg_laws_szMemS_61) L_laws_szMemS_61 em_laws_szMemS_61 (by decide) a_laws_szMemS_61 stx_laws_szMemS_61 fu_laws_szMemS_61 (by decide) (fun _ => rfl) (fun x r _ h => h) r_laws_szMemS_61
abbrev I_laws_szMemS : List Par := [.rd tMs, .rd tI]
abbrev U_laws_szMemS : List OT := [⟨false, tI, .fz⟩]
noncomputable def raw_laws_szMemS (a0 : List dM) (a1 : Int) : Option (ResD U_laws_szMemS × MutD I_laws_szMemS) :=
  bif (ltb (IntKind.i64.wrap (a1 - (a0.length : Int))) 0) then
    some (((-1), ()), ())
  else
    segM (F_laws_szMemS_61 (((a0, ()), ((IntKind.i64.wrap (a1 - (a0.length : Int))), ()), ((), ()), ()), (), ())) (fun y2 =>
      some ((y2.1.1.1, ()), ())) (fun y2 =>
      some ((y2.1.1.1, ()), ()))
theorem e_laws_szMemS (x : InD I_laws_szMemS) : execF ⟨E_laws_szMemS, 27, D_laws_szMemS_1⟩ Try.f56.results.toList B_laws_szMemS I_laws_szMemS U_laws_szMemS x = raw_laws_szMemS x.1 x.2.1 := by kernel_rfl
theorem ok0_laws_szMemS : ConOk Try.prog 56 ⟨I_laws_szMemS, U_laws_szMemS, fun x => raw_laws_szMemS x.1 x.2.1⟩ := conOk_exec (fr_laws_szMemS_1) Try.func56 (by kernel_rfl) (by kernel_rfl) Try.ntmps56.symm (by decide) (fun x r h => (e_laws_szMemS x).trans h)
noncomputable def n_laws_szMemS (a0 : List (dM)) (a1 : Int) : Int := bif ltb (IntKind.i64.wrap (a1 - (a0.length : Int))) 0 then (-1) else (szG n_laws_szMem a0 (IntKind.i64.wrap (a1 - (a0.length : Int)))).getD (-1)
theorem nn_laws_szMemS (a0 : List (dM)) (a1 : Int) (hk : InOk I_laws_szMemS (a0, a1, ())) : raw_laws_szMemS a0 a1 = (fun n => some ((n, ()), ())) (n_laws_szMemS a0 a1) := by
  have hb : a0.length * 80 ≤ 2 ^ 47 := hk.1.1
  have hl : ∀ k : Int, F_laws_szMemS_61 (((a0, ()), (k, ()), ((), ()), ()), (), ()) = some (match szG n_laws_szMem a0 k with | some r => .inl (((r, ()), ()), (), ()) | none => .inr ((((-1), ()), ()), (), ())) := fun k =>
    loopN_sz (step := stx_laws_szMemS_61) a0 (([], [], false, []) : dM) (fun i k => (((a0, ()), (k, ()), ((i : Int), ()), ()), (), ())) n_laws_szMem (fun r => .inl (((r, ()), ()), (), ())) (.inr ((((-1), ()), ()), (), ())) (fun i s hi => by
      simp only [stx_laws_szMemS_61, st_laws_szMemS_61, inb_nat hi, nth_nat, Int.toNat_natCast, ltb_t (show (i : Int) < a0.length by omega), cond_true, wr (show -9223372036854775808 ≤ (i : Int) + 1 by omega) (by omega), Int.natCast_add, Int.natCast_one, pr_eta]
      cases ltb (n_laws_szMem (a0.getD i ([], [], false, [])) s) 0 <;> rfl) (fun s => by simp only [stx_laws_szMemS_61, st_laws_szMemS_61, ltb_f (Int.le_refl _), cond_false]) k _ (by show _ < 18446744073709551616; omega)
  unfold raw_laws_szMemS n_laws_szMemS
  rw [hl]
  cases ltb (IntKind.i64.wrap (a1 - (a0.length : Int))) 0
  · cases szG n_laws_szMem a0 (IntKind.i64.wrap (a1 - (a0.length : Int))) <;> rfl
  · rfl
noncomputable def con_laws_szMemS : Con := ⟨I_laws_szMemS, U_laws_szMemS, fun x => (fun n => some ((n, ()), ())) (n_laws_szMemS x.1 x.2.1)⟩
theorem ok_laws_szMemS : ConOk Try.prog 56 con_laws_szMemS := (ok0_laws_szMemS).mono (fun x r hk h => (nn_laws_szMemS x.1 x.2.1 hk).trans h)
def mSz (m : dM) : Nat := (m.1.length + (m.1.map (fun x : List Int => x.length)).sum) + (m.2.1.length + (m.2.1.map (fun x : dW => x.2.length)).sum) + m.2.2.2.length
theorem mMem_sz (m : dM) : mMem m ≤ 1 + mSz m := by
  unfold mMem mSz
  rw [sum_add1 (fun x : dW => x.2.length) 1]
  omega
theorem szWrS_le {l : List dW} {k : Int} (h0 : 0 ≤ k) (h1 : k ≤ 1048576) (hl : l.length * 32 ≤ 2 ^ 47) (hx : ∀ x ∈ l, x.2.length * 8 ≤ 2 ^ 47) (h : 0 ≤ n_laws_szWrS l k) : ((l.length + (l.map (fun x : dW => x.2.length)).sum : Nat) : Int) ≤ k - n_laws_szWrS l k ∧ n_laws_szWrS l k ≤ k :=
  szF_le (fun x hm k h0 h1 h => by
    have := hx x hm
    unfold n_laws_szWr at h ⊢
    by_cases h2 : n_laws_szIntS x.2 k < 0
    · simp only [ltb_t h2, cond_true] at h; omega
    · simp only [ltb_f (Int.not_lt.1 h2), cond_false] at h ⊢
      have := szIntS_nn h0 h1 (by omega) h2
      omega) h0 h1 (by omega) h
theorem szIntSS_le {l : List (List Int)} {k : Int} (h0 : 0 ≤ k) (h1 : k ≤ 1048576) (hl : l.length * 24 ≤ 2 ^ 47) (hx : ∀ x ∈ l, x.length * 8 ≤ 2 ^ 47) (h : 0 ≤ n_laws_szIntSS l k) : ((l.length + (l.map (fun x : List Int => x.length)).sum : Nat) : Int) ≤ k - n_laws_szIntSS l k ∧ n_laws_szIntSS l k ≤ k :=
  szF_le (fun x hm k h0 h1 h => by
    have := hx x hm
    have := szIntS_nn (a := x) h0 h1 (by omega) (by omega)
    omega) h0 h1 (by omega) h
theorem szMem_le {m : dM} {k : Int} (h0 : 0 ≤ k) (h1 : k ≤ 1048576) (hm : tM.Ok m) (h : 0 ≤ n_laws_szMem m k) : (mSz m : Int) ≤ k ∧ n_laws_szMem m k ≤ k - mSz m := by
  unfold n_laws_szMem at h ⊢
  by_cases c1 : n_laws_szIntSS m.1 k < 0
  · simp only [ltb_t c1, cond_true] at h; omega
  simp only [ltb_f (Int.not_lt.1 c1), cond_false] at h ⊢
  have e1 := szIntSS_le h0 h1 hm.1.1 (fun x hx => (hm.1.2 x hx).1) (Int.not_lt.1 c1)
  by_cases c2 : n_laws_szWrS m.2.1 (n_laws_szIntSS m.1 k) < 0
  · simp only [ltb_t c2, cond_true] at h; omega
  simp only [ltb_f (Int.not_lt.1 c2), cond_false] at h ⊢
  have e2 := szWrS_le (Int.not_lt.1 c1) (by omega) hm.2.1.1 (fun x hx => (hm.2.1.2 x hx).2.1) (Int.not_lt.1 c2)
  by_cases c3 : n_laws_szIntS m.2.2.2 (n_laws_szWrS m.2.1 (n_laws_szIntSS m.1 k)) < 0
  · simp only [ltb_t c3, cond_true] at h; omega
  simp only [ltb_f (Int.not_lt.1 c3), cond_false] at h ⊢
  have e3 := szIntS_nn (a := m.2.2.2) (Int.not_lt.1 c2) (by omega) (by have : m.2.2.2.length * 8 ≤ 2 ^ 47 := hm.2.2.2.1; omega) c3
  unfold mSz
  omega
theorem szMemS_le {l : List dM} {k : Int} (h0 : 0 ≤ k) (h1 : k ≤ 1048576) (hm : tMs.Ok l) (h : 0 ≤ n_laws_szMemS l k) : ((l.length + (l.map mSz).sum : Nat) : Int) ≤ k - n_laws_szMemS l k ∧ n_laws_szMemS l k ≤ k :=
  szF_le (fun x hx k h0 h1 h => szMem_le h0 h1 (hm.2 x hx) h) h0 h1 (by have : l.length * 80 ≤ 2 ^ 47 := hm.1; omega) h
theorem mMems_le {l : List dM} : mMems l ≤ l.length + (l.map mSz).sum := by
  unfold mMems
  induction l with
  | nil => simp
  | cons x l ih =>
    simp only [List.map_cons, List.sum_cons, List.length_cons]
    have := mMem_sz x
    omega
theorem mem_sz_le {α : Type} {f : α → Nat} {x : α} : ∀ {l : List α}, x ∈ l → f x ≤ (l.map f).sum
  | y :: l, h => by
    rw [List.map_cons, List.sum_cons]
    rcases List.mem_cons.1 h with rfl | h
    · omega
    · have := mem_sz_le (f := f) h; omega
end
end Go.Tf
