/- Functions of the program, and what they come to. -/
import Derived.Test.YtgmadfpnljibhaaExactSpoilAtF1
namespace Go.Tf
open Go.Proofs
set_option synthInstance.maxHeartbeats 400000
set_option synthInstance.maxSize 10000
set_option linter.unusedVariables false
set_option linter.unusedSimpArgs false
set_option maxRecDepth 100000
/-! spec_GeoOk -/
section
noncomputable def B_spec_GeoOk : Code := (Try.f91.body).getD .skip
noncomputable def E_spec_GeoOk : Env := envOf TT [(60, con_spec_l1In)] []
theorem fr_spec_GeoOk_0 : FrOk Try.prog ⟨E_spec_GeoOk, 11, fun _ => none⟩ B_spec_GeoOk := frOk_base mixed tt_ok ⟨ok_spec_l1In, trivial⟩
noncomputable def D_spec_GeoOk_0 : Nat → Option Seg := fun _ => none
abbrev I_spec_GeoOk : List Par := [.rd tG]
abbrev U_spec_GeoOk : List OT := [⟨false, tB, .fz⟩]
noncomputable def raw_spec_GeoOk (a0 : dG) : Option (ResD U_spec_GeoOk × MutD I_spec_GeoOk) :=
  let r1 := n_spec_l1In a0.1 3 5
  bif r1 then
    let r2 := n_spec_l1In a0.2 1 8
    some ((r2, ()), ())
  else
    some ((false, ()), ())
theorem e_spec_GeoOk (x : InD I_spec_GeoOk) : execF ⟨E_spec_GeoOk, 11, D_spec_GeoOk_0⟩ Try.f91.results.toList B_spec_GeoOk I_spec_GeoOk U_spec_GeoOk x = raw_spec_GeoOk x.1 := by kernel_rfl
theorem ok0_spec_GeoOk : ConOk Try.prog 91 ⟨I_spec_GeoOk, U_spec_GeoOk, fun x => raw_spec_GeoOk x.1⟩ := conOk_exec (fr_spec_GeoOk_0) Try.func91 (by kernel_rfl) (by kernel_rfl) Try.ntmps91.symm (by decide) (fun x r h => (e_spec_GeoOk x).trans h)
noncomputable def n_spec_GeoOk (a0 : dG) : Bool :=
  let r1 := n_spec_l1In a0.1 3 5
  bif r1 then
    let r2 := n_spec_l1In a0.2 1 8
    r2
  else
    false
noncomputable def con_spec_GeoOk : Con := ⟨I_spec_GeoOk, U_spec_GeoOk, fun x => (fun n => some ((n, ()), ())) (n_spec_GeoOk x.1)⟩
theorem nn_spec_GeoOk (a0 : dG) : raw_spec_GeoOk a0 = (fun n => some ((n, ()), ())) (n_spec_GeoOk a0) := bif_ty (p := fun (n : Bool) => ((n, ()), ())) (bif_some (p := fun (n : Bool) => ((n, ()), ())) rfl rfl)
theorem ok_spec_GeoOk : ConOk Try.prog 91 con_spec_GeoOk := (ok0_spec_GeoOk).mono (fun x r _ h => (nn_spec_GeoOk x.1).trans h)
theorem geo_iff {a : Int × Int} : n_spec_GeoOk a = true ↔ (3 ≤ a.1 ∧ a.1 ≤ 5) ∧ 1 ≤ a.2 ∧ a.2 ≤ 8 := by
  unfold n_spec_GeoOk
  cases h : n_spec_l1In a.1 3 5
  · have : ¬ (3 ≤ a.1 ∧ a.1 ≤ 5) := fun e => by rw [in_iff.2 e] at h; simp at h
    simp [this]
  · simp only [cond_true, in_iff]
    exact ⟨fun e => ⟨in_iff.1 h, e⟩, fun e => e.2⟩
def memBad (a : dA) (i : Nat) : Bool := !(memOk (nth a.2.2.1 i noMem)) || ((((nth a.2.2.1 i noMem).1.length : Int) != 6 + a.2.1.2) || ((nth a.2.2.1 i noMem).2.2.1 && (((i : Int) != a.2.2.2.1) && !a.2.2.2.2.2.2.2.2.2.2.2)))
def memsOk (a : dA) : Bool := !((List.range a.2.2.1.length).any (memBad a)) && (a.2.2.1.length : Int) == a.2.1.1
def dirtBad (g : dG) (l : List dW) (i : Nat) : Bool := !(leb 0 (nth l i (0, [])).1 && leb (nth l i (0, [])).1 (g.2 - 1)) || (((nth l i (0, [])).2.length : Int) != g.1 - 1 || (!((nth l i (0, [])).2.all isW) || (decide (0 < i) && leb (nth l i (0, [])).1 (nth l ((i - 1 : Nat) : Int) (0, [])).1)))
def dirtyOk (g : dG) (l : List dW) : Bool := !((List.range l.length).any (dirtBad g l))
/-- an array that is right -/
noncomputable def arrOk (a : dA) : Bool :=
  n_spec_GeoOk a.2.1 && ((leb 1 a.1 && leb a.1 60000) && (memsOk a && (dirtyOk a.2.1 a.2.2.2.2.2.2.2.2.1 && ((leb (-1) a.2.2.2.1 && leb a.2.2.2.1 (a.2.1.1 - 1)) && ((leb 0 a.2.2.2.2.1 && leb a.2.2.2.2.1 a.2.1.2) && (!(a.2.2.2.1 == -1 && a.2.2.2.2.1 != 0) &&
  ((leb 0 a.2.2.2.2.2.2.1 && leb a.2.2.2.2.2.2.1 60000) && ((leb a.2.2.2.2.2.2.1 a.2.2.2.2.2.1 && leb a.2.2.2.2.2.1 60000) && (leb a.2.2.2.2.2.1 (a.2.2.2.2.2.2.1 + 4) && ((leb 0 a.2.2.2.2.2.2.2.1 && leb a.2.2.2.2.2.2.2.1 60000) && (leb (-1) a.2.2.2.2.2.2.2.2.2.1 && leb a.2.2.2.2.2.2.2.2.2.1 1000)))))))))))
theorem arrOk_geo {a : dA} (h : arrOk a = true) : n_spec_GeoOk a.2.1 = true := (Bool.and_eq_true_iff.1 h).1
theorem geo_f {a : Int × Int} (h : ¬ n_spec_GeoOk a = true) : n_spec_GeoOk a = false := by cases e : n_spec_GeoOk a <;> simp_all
theorem arrOk_mems {a : dA} (h : arrOk a = true) : memsOk a = true := by simp only [arrOk, Bool.and_eq_true] at h; exact h.2.2.1
theorem arrOk_len {a : dA} (h : arrOk a = true) : (a.2.2.1.length : Int) = a.2.1.1 := by have := arrOk_mems h; simp only [memsOk, Bool.and_eq_true, beq_iff_eq] at this; exact this.2
theorem memsOk_at {a : dA} (h : memsOk a = true) {i : Nat} (hi : i < a.2.2.1.length) : memOk (nth a.2.2.1 i noMem) = true ∧ ((nth a.2.2.1 i noMem).1.length : Int) = 6 + a.2.1.2 ∧ ((nth a.2.2.1 i noMem).2.2.1 = true → (i : Int) = a.2.2.2.1 ∨ a.2.2.2.2.2.2.2.2.2.2.2 = true) := by
  simp only [memsOk, Bool.and_eq_true, Bool.not_eq_true', List.any_eq_false, List.mem_range] at h
  have := h.1 i hi
  simp only [memBad, Bool.not_eq_true, Bool.or_eq_false_iff, Bool.not_eq_false', bne_eq_false_iff_eq, Bool.and_eq_false_iff] at this
  refine ⟨this.1, this.2.1, fun hf => ?_⟩
  rcases this.2.2 with h1 | h1 | h1
  · rw [hf] at h1; cases h1
  · exact .inl h1
  · exact .inr h1
theorem asc_len : ∀ {l : List Int} {lo n : Int}, l.Pairwise (· < ·) → (∀ x ∈ l, lo ≤ x ∧ x < n) → lo ≤ n → (l.length : Int) ≤ n - lo
  | [], lo, n, _, _, h => by simp; omega
  | x :: l, lo, n, hp, hx, h => by
    cases hp with
    | cons h1 h2 =>
      have h3 := hx x List.mem_cons_self
      have := asc_len (l := l) (lo := x + 1) (n := n) h2 (fun y hy => ⟨h1 y hy, (hx y (List.mem_cons_of_mem _ hy)).2⟩) (by omega)
      rw [List.length_cons]; omega
theorem badOk_iff {n : Nat} {l : List Int} : badOk n l = true ↔ (∀ x ∈ l, 0 ≤ x ∧ x < n) ∧ l.Pairwise (· < ·) := by
  simp only [badOk, Bool.and_eq_true, List.all_eq_true, inb_iff, decide_eq_true_eq]
theorem memOk_mk {m : dM} (h1 : m.1.all secOk = true) (h2 : m.2.1.all (wrOk m.1.length) = true) (h3 : badOk m.1.length m.2.2.2 = true) (h4 : 1 ≤ m.1.length) (h5 : m.1.length ≤ 20) (h6 : m.2.1.length ≤ 60) : memOk m = true := by
  simp only [memOk, h1, h2, h3, Bool.true_and, Bool.and_eq_true, leb_iff]
  omega
theorem memOk_small {m : dM} (h : memOk m = true) : mMem m ≤ 1041 := by
  obtain ⟨h1, h2, h3, h4, h5, h6⟩ := memOk_parts h
  have a1 := secs_small (b := 12) h5 (fun x hx => (secOk_iff.1 (List.all_eq_true.1 h1 x hx)).1)
  have a2 := sum_const (f := fun x : dW => 1 + x.2.length) (c := 13) (l := m.2.1) (fun w hw => by have := (secOk_iff.1 (Bool.and_eq_true_iff.1 (List.all_eq_true.1 h2 w hw)).2).1; omega)
  have a3 := Nat.mul_le_mul_right 13 h6
  obtain ⟨b1, b2⟩ := badOk_iff.1 h3
  have a4 := asc_len (lo := 0) (n := m.1.length) b2 b1 (by omega)
  unfold mMem
  omega
theorem layKept_ok {m : dM} (b : Nat → Bool) (h : memOk m = true) : (layKept b m.2.1 m.1).all secOk = true := by
  obtain ⟨h1, h2, _⟩ := memOk_parts h
  rw [List.all_eq_true]
  exact layKept_all (P := fun x => secOk x = true) (fun x hx => List.all_eq_true.1 h1 x hx) (fun w hw => (Bool.and_eq_true_iff.1 (List.all_eq_true.1 h2 w hw)).2)
theorem write_ok {m : dM} (n : Int) (s : List Int) (h : memOk m = true) : memOk (writeSec m n s).1 = true := by
  unfold writeSec
  cases hc : canWrite m n s
  · exact h
  · simp only [canWrite, Bool.and_eq_true, Bool.not_eq_true', ltb_iff] at hc
    obtain ⟨h1, h2, h3, h4, h5, h6⟩ := memOk_parts h
    refine memOk_mk h1 ?_ ?_ h4 h5 (by show (m.2.1 ++ [(n, s)]).length ≤ 60; rw [List.length_append]; simp only [List.length_cons, List.length_nil]; omega)
    · show (m.2.1 ++ [(n, s)]).all (wrOk m.1.length) = true
      rw [List.all_append, h2]
      simp [wrOk, hc.2.2.1, hc.2.2.2.1]
    · show badOk m.1.length (sans m.2.2.2 n) = true
      obtain ⟨b1, b2⟩ := badOk_iff.1 h3
      exact badOk_iff.2 ⟨fun x hx => b1 x (List.mem_filter.1 hx).1, b2.filter _⟩
theorem write_len (m : dM) (n : Int) (s : List Int) : (writeSec m n s).1.1 = m.1 ∧ (writeSec m n s).1.2.2.1 = m.2.2.1 := by
  unfold writeSec
  cases canWrite m n s <;> exact ⟨rfl, rfl⟩
theorem flush_ok {m : dM} (h : memOk m = true) : memOk (flushMem m) = true := by
  unfold flushMem
  cases hc : (memOk m && !m.2.2.1)
  · exact h
  · obtain ⟨h1, h2, h3, h4, h5, h6⟩ := memOk_parts h
    refine memOk_mk (layKept_ok _ h) rfl ?_ ?_ ?_ (Nat.zero_le _)
    · show badOk (layKept _ m.2.1 m.1).length m.2.2.2 = true; rw [layKept_len]; exact h3
    · show 1 ≤ (layKept _ m.2.1 m.1).length; rw [layKept_len]; exact h4
    · show (layKept _ m.2.1 m.1).length ≤ 20; rw [layKept_len]; exact h5
theorem flush_len (m : dM) : (flushMem m).1.length = m.1.length ∧ (flushMem m).2.2.1 = m.2.2.1 := by
  unfold flushMem
  cases (memOk m && !m.2.2.1)
  · exact ⟨rfl, rfl⟩
  · exact ⟨layKept_len, rfl⟩
theorem fail_ok {m : dM} (h : memOk m = true) : memOk (failMem m) = true := by
  obtain ⟨h1, h2, h3, h4, h5, h6⟩ := memOk_parts h
  exact memOk_mk h1 rfl h3 h4 h5 (Nat.zero_le _)
def okMems (l : List dM) : Prop := ∀ m ∈ l, memOk m = true
theorem okMems_set {l : List dM} {i : Nat} {x : dM} (h : okMems l) (hx : memOk x = true) : okMems (l.set i x) := fun m hm => by
  rcases List.mem_or_eq_of_mem_set hm with h1 | rfl
  · exact h m h1
  · exact hx
theorem okMems_at {l : List dM} {m : Int} (h : okMems l) (hm : inb m l.length = true) : memOk (nth l m noMem) = true := nth_mem (P := fun x => memOk x = true) hm h
theorem okMems_small {l : List dM} (h : okMems l) : mMems l ≤ l.length * 1041 := sum_const (f := mMem) (fun x hx => memOk_small (h x hx))
theorem arr_okMems {a : dA} (h : arrOk a = true) : okMems a.2.2.1 := fun m hm => by
  obtain ⟨i, hi, rfl⟩ := List.getElem_of_mem hm
  have := (memsOk_at (arrOk_mems h) hi).1
  rwa [nth_nat, getD_get hi] at this
theorem nth_app {α : Type} (A : List α) (y : α) (t : List α) (d : α) : (A ++ y :: t).getD A.length d = y := by
  rw [List.getD_eq_getElem?_getD, List.getElem?_append_right (Nat.le_refl _), Nat.sub_self]; rfl
theorem set_app {α : Type} (A : List α) (y z : α) (t : List α) : (A ++ y :: t).set A.length z = A ++ z :: t := by
  rw [List.set_append_right _ _ (Nat.le_refl _), Nat.sub_self]; rfl
/-- a sorted list of sectors, with one more -/
def insBad (l : List Int) (n : Int) : List Int := l.filter (fun x => ltb x n) ++ n :: l.filter (fun x => ltb n x)
def spoil (m : dM) (n : Int) : dM := bif memOk m && (inb n m.1.length && !(m.2.2.2.any (· == n))) then (m.1, m.2.1, m.2.2.1, insBad m.2.2.2 n) else m
theorem sorted_split {l : List Int} {n : Int} (h : l.Pairwise (· < ·)) (hn : n ∉ l) : l = l.filter (fun x => ltb x n) ++ l.filter (fun x => ltb n x) := by
  induction l with
  | nil => rfl
  | cons x t ih =>
    obtain ⟨hx, ht⟩ := List.pairwise_cons.1 h
    simp only [List.mem_cons, not_or] at hn
    rw [List.filter_cons, List.filter_cons]
    by_cases hlt : x < n
    · rw [ltb_t hlt, ltb_f (show x ≤ n by omega)]
      simp only [if_true, Bool.false_eq_true, if_false, List.cons_append]
      rw [← ih ht hn.2]
    · have h3 : t.filter (fun x => ltb x n) = [] := List.filter_eq_nil_iff.2 (fun y hy => by rw [ltb_f (by have := hx y hy; omega)]; simp)
      have h4 : t.filter (fun x => ltb n x) = t := List.filter_eq_self.2 (fun y hy => ltb_t (by have := hx y hy; omega))
      rw [ltb_f (show n ≤ x by omega), ltb_t (show n < x by omega), h3, h4]; rfl
theorem spoil_ok {m : dM} (n : Int) (h : memOk m = true) : memOk (spoil m n) = true := by
  unfold spoil
  cases hc : (memOk m && (inb n m.1.length && !(m.2.2.2.any (· == n))))
  · exact h
  · simp only [Bool.and_eq_true] at hc
    have hi := inb_iff.1 hc.2.1
    obtain ⟨h1, h2, h3, h4, h5, h6⟩ := memOk_parts h
    rw [badOk_iff] at h3
    refine memOk_mk h1 h2 ?_ h4 h5 h6
    show badOk m.1.length (insBad m.2.2.2 n) = true
    rw [badOk_iff]
    unfold insBad
    refine ⟨fun x hx => ?_, ?_⟩
    · rcases List.mem_append.1 hx with g | g
      · exact h3.1 x (List.mem_filter.1 g).1
      · rcases List.mem_cons.1 g with rfl | g
        · exact hi
        · exact h3.1 x (List.mem_filter.1 g).1
    · rw [List.pairwise_append, List.pairwise_cons]
      refine ⟨h3.2.filter _, ⟨fun y hy => ltb_iff.1 (List.mem_filter.1 hy).2, h3.2.filter _⟩, fun x hx y hy => ?_⟩
      have g1 := ltb_iff.1 (List.mem_filter.1 hx).2
      rcases List.mem_cons.1 hy with rfl | hy
      · exact g1
      · exact Int.lt_trans g1 (ltb_iff.1 (List.mem_filter.1 hy).2)
theorem spoil_len (m : dM) (n : Int) : (spoil m n).1 = m.1 ∧ (spoil m n).2.2.1 = m.2.2.1 := by
  unfold spoil
  cases (memOk m && (inb n m.1.length && !(m.2.2.2.any (· == n)))) <;> exact ⟨rfl, rfl⟩
noncomputable def strOk (g : dG) (s : Int) : Bool := n_spec_GeoOk g && (leb 0 s && leb s (g.2 - 1))
noncomputable def parityOf (g : dG) (s : Int) : Int := bif strOk g s then g.1 - 1 - s.tmod g.1 else -1
noncomputable def diskOf (g : dG) (s i : Int) : Int := bif strOk g s && (leb 0 i && leb i (g.1 - 2)) then (parityOf g s + 1 + i).tmod g.1 else -1
theorem strOk_iff {g : dG} {s : Int} : strOk g s = true ↔ n_spec_GeoOk g = true ∧ 0 ≤ s ∧ s ≤ g.2 - 1 := by simp [strOk, leb_iff]
theorem parity_in {g : dG} {s : Int} (h : strOk g s = true) : 0 ≤ parityOf g s ∧ parityOf g s ≤ g.1 - 1 := by
  have h1 := strOk_iff.1 h
  have h2 := geo_iff.1 h1.1
  unfold parityOf
  rw [h, cond_true, Int.tmod_eq_emod_of_nonneg h1.2.1]
  have := Int.emod_nonneg s (show g.1 ≠ 0 by omega)
  have := Int.emod_lt_of_pos s (show 0 < g.1 by omega)
  omega
theorem disk_in {g : dG} {s i : Int} (h : strOk g s = true) (h1 : 0 ≤ i) (h2 : i ≤ g.1 - 2) : 0 ≤ diskOf g s i ∧ diskOf g s i ≤ g.1 - 1 := by
  have h3 := geo_iff.1 (strOk_iff.1 h).1
  have h4 := parity_in h
  unfold diskOf
  rw [h, leb_t h1, leb_t h2, Bool.and_self, Bool.and_self, cond_true, Int.tmod_eq_emod_of_nonneg (by omega)]
  have := Int.emod_nonneg (parityOf g s + 1 + i) (show g.1 ≠ 0 by omega)
  have := Int.emod_lt_of_pos (parityOf g s + 1 + i) (show 0 < g.1 by omega)
  omega
end

/-! spec_l1Word -/
section
noncomputable def B_spec_l1Word : Code := (Try.f162.body).getD .skip
noncomputable def E_spec_l1Word : Env := envOf TT [(60, con_spec_l1In)] []
theorem fr_spec_l1Word_0 : FrOk Try.prog ⟨E_spec_l1Word, 5, fun _ => none⟩ B_spec_l1Word := frOk_base mixed tt_ok ⟨ok_spec_l1In, trivial⟩
noncomputable def D_spec_l1Word_0 : Nat → Option Seg := fun _ => none
abbrev I_spec_l1Word : List Par := [.rd tI]
abbrev U_spec_l1Word : List OT := [⟨false, tB, .fz⟩]
noncomputable def raw_spec_l1Word (a0 : Int) : Option (ResD U_spec_l1Word × MutD I_spec_l1Word) :=
  let r1 := n_spec_l1In a0 0 65535
  some ((r1, ()), ())
theorem e_spec_l1Word (x : InD I_spec_l1Word) : execF ⟨E_spec_l1Word, 5, D_spec_l1Word_0⟩ Try.f162.results.toList B_spec_l1Word I_spec_l1Word U_spec_l1Word x = raw_spec_l1Word x.1 := by kernel_rfl
theorem ok0_spec_l1Word : ConOk Try.prog 162 ⟨I_spec_l1Word, U_spec_l1Word, fun x => raw_spec_l1Word x.1⟩ := conOk_exec (fr_spec_l1Word_0) Try.func162 (by kernel_rfl) (by kernel_rfl) Try.ntmps162.symm (by decide) (fun x r h => (e_spec_l1Word x).trans h)
noncomputable def n_spec_l1Word (a0 : Int) : Bool :=
  let r1 := n_spec_l1In a0 0 65535
  r1
noncomputable def con_spec_l1Word : Con := ⟨I_spec_l1Word, U_spec_l1Word, fun x => (fun n => some ((n, ()), ())) (n_spec_l1Word x.1)⟩
theorem nn_spec_l1Word (a0 : Int) : raw_spec_l1Word a0 = (fun n => some ((n, ()), ())) (n_spec_l1Word a0) := bif_ty (p := fun (n : Bool) => ((n, ()), ())) rfl
theorem ok_spec_l1Word : ConOk Try.prog 162 con_spec_l1Word := (ok0_spec_l1Word).mono (fun x r _ h => (nn_spec_l1Word x.1).trans h)
end

/-! spec_l1Words -/
section
noncomputable def B_spec_l1Words : Code := (Try.f136.body).getD .skip
noncomputable def E_spec_l1Words : Env := envOf TT [(162, con_spec_l1Word)] []
theorem fr_spec_l1Words_0 : FrOk Try.prog ⟨E_spec_l1Words, 16, fun _ => none⟩ B_spec_l1Words := frOk_base mixed tt_ok ⟨ok_spec_l1Word, trivial⟩
noncomputable def D_spec_l1Words_0 : Nat → Option Seg := fun _ => none
def L_spec_l1Words_13 : Shape := ⟨[(0, false, [.br tI]), (3, false, [.int .i64])], [], []⟩
def S_spec_l1Words_13 : Shape := ⟨[(0, false, [.br tI]), (3, false, [.ci .i64 0])], [], []⟩
def O_spec_l1Words_13 : Shape := ⟨[], [], []⟩
def Z_spec_l1Words_13 : Shape := ⟨[(2, false, [.bool])], [], []⟩
noncomputable def st_spec_l1Words_13 (v0 : List Int) (v1 : Int) : Option ((L_spec_l1Words_13).X ⊕ ((O_spec_l1Words_13).X ⊕ (Z_spec_l1Words_13).X)) :=
  bif (ltb v1 (v0.length : Int)) then
    bif (inb v1 v0.length) then
      let r2 := n_spec_l1Word (nth v0 v1 0)
      bif (!r2) then
        some (.inr (.inr (((false, ()), ()), (), ())))
      else
        some (.inl (((v0, ()), ((IntKind.i64.wrap (v1 + 1)), ()), ()), (), ()))
    else none
  else
    some (.inr (.inl ((), (), ())))
noncomputable def stx_spec_l1Words_13 (x : (L_spec_l1Words_13).X) := st_spec_l1Words_13 x.1.1.1 x.1.2.1.1
def em_spec_l1Words_13 (x : (S_spec_l1Words_13).X) : (L_spec_l1Words_13).X := (((x.1.1.1, ()), (0, ()), ()), (), ())
noncomputable def c_spec_l1Words_13 : Code := (subN B_spec_l1Words 64 52).getD .skip
theorem a_spec_l1Words_13 : subN B_spec_l1Words 64 13 = some (.block 0 (.loop c_spec_l1Words_13)) := by kernel_rfl
theorem r_spec_l1Words_13 (x : (L_spec_l1Words_13).X) : roundT ⟨E_spec_l1Words, 16, D_spec_l1Words_0⟩ 0 c_spec_l1Words_13 52 L_spec_l1Words_13 O_spec_l1Words_13 Z_spec_l1Words_13 x = stx_spec_l1Words_13 x := by kernel_rfl
def fu_spec_l1Words_13 (x : (S_spec_l1Words_13).X) : Nat := 18446744073709551616
noncomputable def F_spec_l1Words_13 (x : (S_spec_l1Words_13).X) : Option ((O_spec_l1Words_13).X ⊕ (Z_spec_l1Words_13).X) := loopN stx_spec_l1Words_13 (fu_spec_l1Words_13 x) (em_spec_l1Words_13 x)
noncomputable def sg_spec_l1Words_13 : Seg := ⟨S_spec_l1Words_13, O_spec_l1Words_13, Z_spec_l1Words_13, F_spec_l1Words_13⟩
noncomputable def D_spec_l1Words_1 : Nat → Option Seg := fun q => bif Nat.beq q 13 then some sg_spec_l1Words_13 else D_spec_l1Words_0 q
theorem fr_spec_l1Words_1 : FrOk Try.prog ⟨E_spec_l1Words, 16, D_spec_l1Words_1⟩ B_spec_l1Words := (fr_spec_l1Words_0).loop (sg := sg_spec_l1Words_13) L_spec_l1Words_13 em_spec_l1Words_13 (by decide) a_spec_l1Words_13 stx_spec_l1Words_13 fu_spec_l1Words_13 (by decide) (fun _ => rfl) (fun x r _ h => h) r_spec_l1Words_13
abbrev I_spec_l1Words : List Par := [.rd tL]
abbrev U_spec_l1Words : List OT := [⟨false, tB, .fz⟩]
noncomputable def raw_spec_l1Words (a0 : List Int) : Option (ResD U_spec_l1Words × MutD I_spec_l1Words) :=
  segM (F_spec_l1Words_13 (((a0, ()), ((), ()), ()), (), ())) (fun y2 =>
    some ((true, ()), ())) (fun y2 =>
    some ((y2.1.1.1, ()), ()))
theorem e_spec_l1Words (x : InD I_spec_l1Words) : execF ⟨E_spec_l1Words, 16, D_spec_l1Words_1⟩ Try.f136.results.toList B_spec_l1Words I_spec_l1Words U_spec_l1Words x = raw_spec_l1Words x.1 := by kernel_rfl
theorem ok0_spec_l1Words : ConOk Try.prog 136 ⟨I_spec_l1Words, U_spec_l1Words, fun x => raw_spec_l1Words x.1⟩ := conOk_exec (fr_spec_l1Words_1) Try.func136 (by kernel_rfl) (by kernel_rfl) Try.ntmps136.symm (by decide) (fun x r h => (e_spec_l1Words x).trans h)
noncomputable def n_spec_l1Words (a0 : List Int) : Bool := a0.all n_spec_l1Word
theorem nn_spec_l1Words (a0 : List Int) (hk : InOk I_spec_l1Words (a0, ())) : raw_spec_l1Words a0 = (fun n => some ((n, ()), ())) (n_spec_l1Words a0) := by
  have hb : a0.length * 8 ≤ 2 ^ 47 := hk.1.1
  have hl : F_spec_l1Words_13 (((a0, ()), ((), ()), ()), (), ()) = some (bif a0.all n_spec_l1Word then .inl ((), (), ()) else .inr (((false, ()), ()), (), ())) :=
    loopN_list_all (step := stx_spec_l1Words_13) a0 0 (fun i => (((a0, ()), ((i : Int), ()), ()), (), ())) n_spec_l1Word _ _ (fun i hi => by
      simp only [stx_spec_l1Words_13, st_spec_l1Words_13, inb_nat hi, nth_nat, ltb_t (show (i : Int) < a0.length by omega), cond_true, wr (show -9223372036854775808 ≤ (i : Int) + 1 by omega) (by omega), Int.natCast_add, Int.natCast_one]
      cases n_spec_l1Word (a0.getD i 0) <;> rfl) (by simp only [stx_spec_l1Words_13, st_spec_l1Words_13, ltb_f (Int.le_refl _), cond_false]) _ (by show _ < 18446744073709551616; omega)
  unfold raw_spec_l1Words n_spec_l1Words
  rw [hl]
  cases a0.all n_spec_l1Word <;> rfl
noncomputable def con_spec_l1Words : Con := ⟨I_spec_l1Words, U_spec_l1Words, fun x => (fun n => some ((n, ()), ())) (n_spec_l1Words x.1)⟩
theorem ok_spec_l1Words : ConOk Try.prog 136 con_spec_l1Words := (ok0_spec_l1Words).mono (fun x r hk h => (nn_spec_l1Words x.1 hk).trans h)
end

/-! spec_SecOk -/
section
noncomputable def B_spec_SecOk : Code := (Try.f137.body).getD .skip
noncomputable def E_spec_SecOk : Env := envOf TT [(136, con_spec_l1Words)] []
theorem fr_spec_SecOk_0 : FrOk Try.prog ⟨E_spec_SecOk, 10, fun _ => none⟩ B_spec_SecOk := frOk_base mixed tt_ok ⟨ok_spec_l1Words, trivial⟩
noncomputable def D_spec_SecOk_0 : Nat → Option Seg := fun _ => none
abbrev I_spec_SecOk : List Par := [.rd tL]
abbrev U_spec_SecOk : List OT := [⟨false, tB, .fz⟩]
noncomputable def raw_spec_SecOk (a0 : List Int) : Option (ResD U_spec_SecOk × MutD I_spec_SecOk) :=
  bif (leb (a0.length : Int) 12) then
    let r1 := n_spec_l1Words a0
    some ((r1, ()), ())
  else
    some ((false, ()), ())
theorem e_spec_SecOk (x : InD I_spec_SecOk) : execF ⟨E_spec_SecOk, 10, D_spec_SecOk_0⟩ Try.f137.results.toList B_spec_SecOk I_spec_SecOk U_spec_SecOk x = raw_spec_SecOk x.1 := by kernel_rfl
theorem ok0_spec_SecOk : ConOk Try.prog 137 ⟨I_spec_SecOk, U_spec_SecOk, fun x => raw_spec_SecOk x.1⟩ := conOk_exec (fr_spec_SecOk_0) Try.func137 (by kernel_rfl) (by kernel_rfl) Try.ntmps137.symm (by decide) (fun x r h => (e_spec_SecOk x).trans h)
noncomputable def n_spec_SecOk (a0 : List Int) : Bool :=
  bif (leb (a0.length : Int) 12) then
    let r1 := n_spec_l1Words a0
    r1
  else
    false
noncomputable def con_spec_SecOk : Con := ⟨I_spec_SecOk, U_spec_SecOk, fun x => (fun n => some ((n, ()), ())) (n_spec_SecOk x.1)⟩
theorem nn_spec_SecOk (a0 : List Int) : raw_spec_SecOk a0 = (fun n => some ((n, ()), ())) (n_spec_SecOk a0) := bif_ty (p := fun (n : Bool) => ((n, ()), ())) (bif_some (p := fun (n : Bool) => ((n, ()), ())) rfl rfl)
theorem ok_spec_SecOk : ConOk Try.prog 137 con_spec_SecOk := (ok0_spec_SecOk).mono (fun x r _ h => (nn_spec_SecOk x.1).trans h)
theorem spec_sec_eq : n_spec_SecOk = secOk := funext fun s => by
  unfold n_spec_SecOk secOk n_spec_l1Words
  rw [show n_spec_l1Word = isW from funext fun x => by unfold n_spec_l1Word; rw [in_eq]; rfl]
  cases leb (s.length : Int) 12 <;> rfl
end

/-! spec_MemOk -/
section
noncomputable def B_spec_MemOk : Code := (Try.f101.body).getD .skip
noncomputable def E_spec_MemOk : Env := envOf TT [(60, con_spec_l1In), (137, con_spec_SecOk)] []
theorem fr_spec_MemOk_0 : FrOk Try.prog ⟨E_spec_MemOk, 91, fun _ => none⟩ B_spec_MemOk := frOk_base mixed tt_ok ⟨ok_spec_l1In, ok_spec_SecOk, trivial⟩
noncomputable def D_spec_MemOk_0 : Nat → Option Seg := fun _ => none
def L_spec_MemOk_29 : Shape := ⟨[(1, false, [.ptr 0 0]), (3, false, [.int .i64]), (4, false, [.int .i64])], [(0, [.br tL, .br tW, .bool, .br tI])], []⟩
def S_spec_MemOk_29 : Shape := ⟨[(1, false, [.ptr 0 0]), (3, false, [.int .i64]), (4, false, [.ci .i64 0])], [(0, [.br tL, .br tW, .bool, .br tI])], []⟩
def O_spec_MemOk_29 : Shape := ⟨[(1, false, [.ptr 0 0]), (3, false, [.int .i64])], [(0, [.br tL, .br tW, .bool, .br tI])], []⟩
def Z_spec_MemOk_29 : Shape := ⟨[(2, false, [.bool])], [], []⟩
abbrev mk_spec_MemOk_29 (v0 v1 : Int) (v2 : dM) : (L_spec_MemOk_29).X := ((((), ()), (v0, ()), (v1, ()), ()), ((v2.1, v2.2.1, v2.2.2.1, v2.2.2.2, ()), ()), ())
abbrev ms_spec_MemOk_29 (v0 : Int) (v1 : dM) : (S_spec_MemOk_29).X := ((((), ()), (v0, ()), ((), ()), ()), ((v1.1, v1.2.1, v1.2.2.1, v1.2.2.2, ()), ()), ())
abbrev mo_spec_MemOk_29 (v0 : Int) (v1 : dM) : (O_spec_MemOk_29).X := ((((), ()), (v0, ()), ()), ((v1.1, v1.2.1, v1.2.2.1, v1.2.2.2, ()), ()), ())
abbrev mz_spec_MemOk_29 (v0 : Bool) : (Z_spec_MemOk_29).X := (((v0, ()), ()), (), ())
noncomputable def st_spec_MemOk_29 (v0 v1 : Int) (v2 : List (List Int)) (v3 : List dW) (v4 : Bool) (v5 : List Int) : Option ((L_spec_MemOk_29).X ⊕ ((O_spec_MemOk_29).X ⊕ (Z_spec_MemOk_29).X)) :=
  bif (ltb v1 v0) then
    bif (inb v1 v2.length) then
      let r2 := n_spec_SecOk (nth v2 v1 [])
      bif (!r2) then
        some (.inr (.inr (((false, ()), ()), (), ())))
      else
        some (.inl ((((), ()), (v0, ()), ((IntKind.i64.wrap (v1 + 1)), ()), ()), ((v2, v3, v4, v5, ()), ()), ()))
    else none
  else
    some (.inr (.inl ((((), ()), (v0, ()), ()), ((v2, v3, v4, v5, ()), ()), ())))
noncomputable def stx_spec_MemOk_29 (x : (L_spec_MemOk_29).X) := st_spec_MemOk_29 x.1.2.1.1 x.1.2.2.1.1 x.2.1.1.1 x.2.1.1.2.1 x.2.1.1.2.2.1 x.2.1.1.2.2.2.1
def em_spec_MemOk_29 (x : (S_spec_MemOk_29).X) : (L_spec_MemOk_29).X := ((((), ()), (x.1.2.1.1, ()), (0, ()), ()), ((x.2.1.1.1, x.2.1.1.2.1, x.2.1.1.2.2.1, x.2.1.1.2.2.2.1, ()), ()), ())
noncomputable def c_spec_MemOk_29 : Code := (subN B_spec_MemOk 64 116).getD .skip
theorem a_spec_MemOk_29 : subN B_spec_MemOk 64 29 = some (.block 0 (.loop c_spec_MemOk_29)) := by kernel_rfl
theorem r_spec_MemOk_29 (x : (L_spec_MemOk_29).X) : roundT ⟨E_spec_MemOk, 91, D_spec_MemOk_0⟩ 0 c_spec_MemOk_29 116 L_spec_MemOk_29 O_spec_MemOk_29 Z_spec_MemOk_29 x = stx_spec_MemOk_29 x := by kernel_rfl
def fu_spec_MemOk_29 (x : (S_spec_MemOk_29).X) : Nat := 18446744073709551616
noncomputable def F_spec_MemOk_29 (x : (S_spec_MemOk_29).X) : Option ((O_spec_MemOk_29).X ⊕ (Z_spec_MemOk_29).X) := loopN stx_spec_MemOk_29 (fu_spec_MemOk_29 x) (em_spec_MemOk_29 x)
noncomputable def sg_spec_MemOk_29 : Seg := ⟨S_spec_MemOk_29, O_spec_MemOk_29, Z_spec_MemOk_29, F_spec_MemOk_29⟩
noncomputable def D_spec_MemOk_1 : Nat → Option Seg := fun q => bif Nat.beq q 29 then some sg_spec_MemOk_29 else D_spec_MemOk_0 q
theorem fr_spec_MemOk_1 : FrOk Try.prog ⟨E_spec_MemOk, 91, D_spec_MemOk_1⟩ B_spec_MemOk := (fr_spec_MemOk_0).loop (sg := sg_spec_MemOk_29) L_spec_MemOk_29 em_spec_MemOk_29 (by decide) a_spec_MemOk_29 stx_spec_MemOk_29 fu_spec_MemOk_29 (by decide) (fun _ => rfl) (fun x r _ h => h) r_spec_MemOk_29
def L_spec_MemOk_61 : Shape := ⟨[(1, false, [.ptr 0 0]), (3, false, [.int .i64]), (5, false, [.int .i64])], [(0, [.br tL, .br tW, .bool, .br tI])], []⟩
def S_spec_MemOk_61 : Shape := ⟨[(1, false, [.ptr 0 0]), (3, false, [.int .i64]), (5, false, [.ci .i64 0])], [(0, [.br tL, .br tW, .bool, .br tI])], []⟩
def O_spec_MemOk_61 : Shape := ⟨[(1, false, [.ptr 0 0]), (3, false, [.int .i64])], [(0, [.br tL, .br tW, .bool, .br tI])], []⟩
def Z_spec_MemOk_61 : Shape := ⟨[(2, false, [.bool])], [], []⟩
abbrev mk_spec_MemOk_61 (v0 v1 : Int) (v2 : dM) : (L_spec_MemOk_61).X := ((((), ()), (v0, ()), (v1, ()), ()), ((v2.1, v2.2.1, v2.2.2.1, v2.2.2.2, ()), ()), ())
abbrev ms_spec_MemOk_61 (v0 : Int) (v1 : dM) : (S_spec_MemOk_61).X := ((((), ()), (v0, ()), ((), ()), ()), ((v1.1, v1.2.1, v1.2.2.1, v1.2.2.2, ()), ()), ())
abbrev mo_spec_MemOk_61 (v0 : Int) (v1 : dM) : (O_spec_MemOk_61).X := ((((), ()), (v0, ()), ()), ((v1.1, v1.2.1, v1.2.2.1, v1.2.2.2, ()), ()), ())
abbrev mz_spec_MemOk_61 (v0 : Bool) : (Z_spec_MemOk_61).X := (((v0, ()), ()), (), ())
noncomputable def st_spec_MemOk_61 (v0 v1 : Int) (v2 : List (List Int)) (v3 : List dW) (v4 : Bool) (v5 : List Int) : Option ((L_spec_MemOk_61).X ⊕ ((O_spec_MemOk_61).X ⊕ (Z_spec_MemOk_61).X)) :=
  bif (ltb v1 (v3.length : Int)) then
    bif (inb v1 v3.length) then
      let r6 := n_spec_l1In ((nth v3 v1 (0, [])).1) 0 (IntKind.i64.wrap (v0 - 1))
      bif (!(!r6)) then
        bif (inb v1 v3.length) then
          let r7 := n_spec_SecOk ((nth v3 v1 (0, [])).2)
          bif (!r7) then
            some (.inr (.inr (((false, ()), ()), (), ())))
          else
            some (.inl ((((), ()), (v0, ()), ((IntKind.i64.wrap (v1 + 1)), ()), ()), ((v2, v3, v4, v5, ()), ()), ()))
        else none
      else
        some (.inr (.inr (((false, ()), ()), (), ())))
    else none
  else
    some (.inr (.inl ((((), ()), (v0, ()), ()), ((v2, v3, v4, v5, ()), ()), ())))
noncomputable def stx_spec_MemOk_61 (x : (L_spec_MemOk_61).X) := st_spec_MemOk_61 x.1.2.1.1 x.1.2.2.1.1 x.2.1.1.1 x.2.1.1.2.1 x.2.1.1.2.2.1 x.2.1.1.2.2.2.1
def em_spec_MemOk_61 (x : (S_spec_MemOk_61).X) : (L_spec_MemOk_61).X := ((((), ()), (x.1.2.1.1, ()), (0, ()), ()), ((x.2.1.1.1, x.2.1.1.2.1, x.2.1.1.2.2.1, x.2.1.1.2.2.2.1, ()), ()), ())
noncomputable def c_spec_MemOk_61 : Code := (subN B_spec_MemOk 64 244).getD .skip
theorem a_spec_MemOk_61 : subN B_spec_MemOk 64 61 = some (.block 2 (.loop c_spec_MemOk_61)) := by kernel_rfl
theorem r_spec_MemOk_61 (x : (L_spec_MemOk_61).X) : roundT ⟨E_spec_MemOk, 91, D_spec_MemOk_1⟩ 2 c_spec_MemOk_61 244 L_spec_MemOk_61 O_spec_MemOk_61 Z_spec_MemOk_61 x = stx_spec_MemOk_61 x := by kernel_rfl
def fu_spec_MemOk_61 (x : (S_spec_MemOk_61).X) : Nat := 18446744073709551616
noncomputable def F_spec_MemOk_61 (x : (S_spec_MemOk_61).X) : Option ((O_spec_MemOk_61).X ⊕ (Z_spec_MemOk_61).X) := loopN stx_spec_MemOk_61 (fu_spec_MemOk_61 x) (em_spec_MemOk_61 x)
noncomputable def sg_spec_MemOk_61 : Seg := ⟨S_spec_MemOk_61, O_spec_MemOk_61, Z_spec_MemOk_61, F_spec_MemOk_61⟩
noncomputable def D_spec_MemOk_2 : Nat → Option Seg := fun q => bif Nat.beq q 61 then some sg_spec_MemOk_61 else D_spec_MemOk_1 q
theorem fr_spec_MemOk_2 : FrOk Try.prog ⟨E_spec_MemOk, 91, D_spec_MemOk_2⟩ B_spec_MemOk := (fr_spec_MemOk_1).loop (sg := sg_spec_MemOk_61) L_spec_MemOk_61 em_spec_MemOk_61 (by decide) a_spec_MemOk_61 stx_spec_MemOk_61 fu_spec_MemOk_61 (by decide) (fun _ => rfl) (fun x r _ h => h) r_spec_MemOk_61
def L_spec_MemOk_125 : Shape := ⟨[(1, false, [.ptr 0 0]), (3, false, [.int .i64]), (6, false, [.int .i64])], [(0, [.br tL, .br tW, .bool, .br tI])], []⟩
def S_spec_MemOk_125 : Shape := ⟨[(1, false, [.ptr 0 0]), (3, false, [.int .i64]), (6, false, [.ci .i64 0])], [(0, [.br tL, .br tW, .bool, .br tI])], []⟩
def O_spec_MemOk_125 : Shape := ⟨[(1, false, [.ptr 0 0]), (3, false, [.int .i64])], [(0, [.br tL, .br tW, .bool, .br tI])], []⟩
def Z_spec_MemOk_125 : Shape := ⟨[(2, false, [.bool])], [], []⟩
abbrev mk_spec_MemOk_125 (v0 v1 : Int) (v2 : dM) : (L_spec_MemOk_125).X := ((((), ()), (v0, ()), (v1, ()), ()), ((v2.1, v2.2.1, v2.2.2.1, v2.2.2.2, ()), ()), ())
abbrev ms_spec_MemOk_125 (v0 : Int) (v1 : dM) : (S_spec_MemOk_125).X := ((((), ()), (v0, ()), ((), ()), ()), ((v1.1, v1.2.1, v1.2.2.1, v1.2.2.2, ()), ()), ())
abbrev mo_spec_MemOk_125 (v0 : Int) (v1 : dM) : (O_spec_MemOk_125).X := ((((), ()), (v0, ()), ()), ((v1.1, v1.2.1, v1.2.2.1, v1.2.2.2, ()), ()), ())
abbrev mz_spec_MemOk_125 (v0 : Bool) : (Z_spec_MemOk_125).X := (((v0, ()), ()), (), ())
noncomputable def st_spec_MemOk_125 (v0 v1 : Int) (v2 : List (List Int)) (v3 : List dW) (v4 : Bool) (v5 : List Int) : Option ((L_spec_MemOk_125).X ⊕ ((O_spec_MemOk_125).X ⊕ (Z_spec_MemOk_125).X)) :=
  bif (ltb v1 (v5.length : Int)) then
    bif (inb v1 v5.length) then
      let r10 := n_spec_l1In (nth v5 v1 0) 0 (IntKind.i64.wrap (v0 - 1))
      bif (!(!r10)) then
        bif (ltb 0 v1) then
          bif (inb (IntKind.i64.wrap (v1 - 1)) v5.length) then
            bif (inb v1 v5.length) then
              bif (leb (nth v5 v1 0) (nth v5 (IntKind.i64.wrap (v1 - 1)) 0)) then
                some (.inr (.inr (((false, ()), ()), (), ())))
              else
                some (.inl ((((), ()), (v0, ()), ((IntKind.i64.wrap (v1 + 1)), ()), ()), ((v2, v3, v4, v5, ()), ()), ()))
            else none
          else none
        else
          some (.inl ((((), ()), (v0, ()), ((IntKind.i64.wrap (v1 + 1)), ()), ()), ((v2, v3, v4, v5, ()), ()), ()))
      else
        some (.inr (.inr (((false, ()), ()), (), ())))
    else none
  else
    some (.inr (.inl ((((), ()), (v0, ()), ()), ((v2, v3, v4, v5, ()), ()), ())))
noncomputable def stx_spec_MemOk_125 (x : (L_spec_MemOk_125).X) := st_spec_MemOk_125 x.1.2.1.1 x.1.2.2.1.1 x.2.1.1.1 x.2.1.1.2.1 x.2.1.1.2.2.1 x.2.1.1.2.2.2.1
def em_spec_MemOk_125 (x : (S_spec_MemOk_125).X) : (L_spec_MemOk_125).X := ((((), ()), (x.1.2.1.1, ()), (0, ()), ()), ((x.2.1.1.1, x.2.1.1.2.1, x.2.1.1.2.2.1, x.2.1.1.2.2.2.1, ()), ()), ())
noncomputable def c_spec_MemOk_125 : Code := (subN B_spec_MemOk 64 500).getD .skip
theorem a_spec_MemOk_125 : subN B_spec_MemOk 64 125 = some (.block 4 (.loop c_spec_MemOk_125)) := by kernel_rfl
theorem r_spec_MemOk_125 (x : (L_spec_MemOk_125).X) : roundT ⟨E_spec_MemOk, 91, D_spec_MemOk_2⟩ 4 c_spec_MemOk_125 500 L_spec_MemOk_125 O_spec_MemOk_125 Z_spec_MemOk_125 x = stx_spec_MemOk_125 x := by kernel_rfl
def fu_spec_MemOk_125 (x : (S_spec_MemOk_125).X) : Nat := 18446744073709551616
noncomputable def F_spec_MemOk_125 (x : (S_spec_MemOk_125).X) : Option ((O_spec_MemOk_125).X ⊕ (Z_spec_MemOk_125).X) := loopN stx_spec_MemOk_125 (fu_spec_MemOk_125 x) (em_spec_MemOk_125 x)
noncomputable def sg_spec_MemOk_125 : Seg := ⟨S_spec_MemOk_125, O_spec_MemOk_125, Z_spec_MemOk_125, F_spec_MemOk_125⟩
noncomputable def D_spec_MemOk_3 : Nat → Option Seg := fun q => bif Nat.beq q 125 then some sg_spec_MemOk_125 else D_spec_MemOk_2 q
theorem fr_spec_MemOk_3 : FrOk Try.prog ⟨E_spec_MemOk, 91, D_spec_MemOk_3⟩ B_spec_MemOk := (fr_spec_MemOk_2).loop (sg := sg_spec_MemOk_125) L_spec_MemOk_125 em_spec_MemOk_125 (by decide) a_spec_MemOk_125 stx_spec_MemOk_125 fu_spec_MemOk_125 (by decide) (fun _ => rfl) (fun x r _ h => h) r_spec_MemOk_125
abbrev I_spec_MemOk : List Par := [.rd tM]
abbrev U_spec_MemOk : List OT := [⟨false, tB, .fz⟩]
noncomputable def raw_spec_MemOk (a0 : dM) : Option (ResD U_spec_MemOk × MutD I_spec_MemOk) :=
  segM (F_spec_MemOk_29 ((((), ()), ((a0.1.length : Int), ()), ((), ()), ()), ((a0.1, a0.2.1, a0.2.2.1, a0.2.2.2, ()), ()), ())) (fun y2 =>
    segM (F_spec_MemOk_61 ((((), ()), (y2.1.2.1.1, ()), ((), ()), ()), ((y2.2.1.1.1, y2.2.1.1.2.1, y2.2.1.1.2.2.1, y2.2.1.1.2.2.2.1, ()), ()), ())) (fun y7 =>
      segM (F_spec_MemOk_125 ((((), ()), (y7.1.2.1.1, ()), ((), ()), ()), ((y7.2.1.1.1, y7.2.1.1.2.1, y7.2.1.1.2.2.1, y7.2.1.1.2.2.2.1, ()), ()), ())) (fun y10 =>
        let r12 := n_spec_l1In y10.1.2.1.1 1 20
        bif r12 then
          some (((leb (y10.2.1.1.2.1.length : Int) 60), ()), ())
        else
          some ((false, ()), ())) (fun y10 =>
        some ((y10.1.1.1, ()), ()))) (fun y7 =>
      some ((y7.1.1.1, ()), ()))) (fun y2 =>
    some ((y2.1.1.1, ()), ()))
theorem e_spec_MemOk (x : InD I_spec_MemOk) : execF ⟨E_spec_MemOk, 91, D_spec_MemOk_3⟩ Try.f101.results.toList B_spec_MemOk I_spec_MemOk U_spec_MemOk x = raw_spec_MemOk x.1 := by kernel_rfl
theorem ok0_spec_MemOk : ConOk Try.prog 101 ⟨I_spec_MemOk, U_spec_MemOk, fun x => raw_spec_MemOk x.1⟩ := conOk_exec (fr_spec_MemOk_3) Try.func101 (by kernel_rfl) (by kernel_rfl) Try.ntmps101.symm (by decide) (fun x r h => (e_spec_MemOk x).trans h)
noncomputable def n_spec_MemOk (a0 : dM) : Bool := memOk a0
theorem nn_spec_MemOk (a0 : dM) (hk : InOk I_spec_MemOk (a0, ())) : raw_spec_MemOk a0 = (fun n => some ((n, ()), ())) (n_spec_MemOk a0) := by
  have hb1 : a0.1.length * 24 ≤ 2 ^ 47 := hk.1.1.1
  have hb2 : a0.2.1.length * 32 ≤ 2 ^ 47 := hk.1.2.1.1
  have hb3 : a0.2.2.2.length * 8 ≤ 2 ^ 47 := hk.1.2.2.2.1
  have h1 : F_spec_MemOk_29 (ms_spec_MemOk_29 a0.1.length a0) = some (bif a0.1.all secOk then .inl (mo_spec_MemOk_29 a0.1.length a0) else .inr (mz_spec_MemOk_29 false)) :=
    loopN_list_all (step := stx_spec_MemOk_29) a0.1 [] (fun i => mk_spec_MemOk_29 a0.1.length i a0) secOk _ _ (fun i hi => by
      simp only [stx_spec_MemOk_29, mk_spec_MemOk_29, st_spec_MemOk_29, ltb_t (show (i : Int) < a0.1.length by omega), cond_true, wr (show -9223372036854775808 ≤ (i : Int) + 1 by omega) (by omega), Int.natCast_add, Int.natCast_one, Int.toNat_natCast, inb_nat hi, nth_nat, spec_sec_eq]
      cases secOk (a0.1.getD i []) <;> rfl) (by simp only [stx_spec_MemOk_29, mk_spec_MemOk_29, st_spec_MemOk_29, ltb_f (Int.le_refl _), cond_false]) _ (by show _ < 18446744073709551616; omega)
  have h2 : F_spec_MemOk_61 (ms_spec_MemOk_61 a0.1.length a0) = some (bif a0.2.1.all (wrOk a0.1.length) then .inl (mo_spec_MemOk_61 a0.1.length a0) else .inr (mz_spec_MemOk_61 false)) :=
    loopN_list_all (step := stx_spec_MemOk_61) a0.2.1 (0, []) (fun i => mk_spec_MemOk_61 a0.1.length i a0) (wrOk a0.1.length) _ _ (fun i hi => by
      simp only [stx_spec_MemOk_61, mk_spec_MemOk_61, st_spec_MemOk_61, ltb_t (show (i : Int) < a0.2.1.length by omega), cond_true, wr (show -9223372036854775808 ≤ (i : Int) + 1 by omega) (by omega), Int.natCast_add, Int.natCast_one, Int.toNat_natCast, inb_nat hi, nth_nat, spec_sec_eq, in_len (show a0.1.length ≤ 1152921504606846976 by omega), wrOk]
      cases inb (a0.2.1.getD i (0, [])).1 a0.1.length <;> cases secOk (a0.2.1.getD i (0, [])).2 <;> rfl) (by simp only [stx_spec_MemOk_61, mk_spec_MemOk_61, st_spec_MemOk_61, ltb_f (Int.le_refl _), cond_false]) _ (by show _ < 18446744073709551616; omega)
  have h3 : F_spec_MemOk_125 (ms_spec_MemOk_125 a0.1.length a0) = some (bif (List.range a0.2.2.2.length).any (badAt a0.1.length a0.2.2.2) then .inr (mz_spec_MemOk_125 false) else .inl (mo_spec_MemOk_125 a0.1.length a0)) :=
    loopN_all (step := stx_spec_MemOk_125) (fun i => mk_spec_MemOk_125 a0.1.length i a0) a0.2.2.2.length (badAt a0.1.length a0.2.2.2) _ _ (fun i hi => by
      simp only [stx_spec_MemOk_125, mk_spec_MemOk_125, st_spec_MemOk_125, ltb_t (show (i : Int) < a0.2.2.2.length by omega), cond_true, wr (show -9223372036854775808 ≤ (i : Int) + 1 by omega) (by omega), Int.natCast_add, Int.natCast_one, Int.toNat_natCast, inb_nat hi, nth_nat, in_len (show a0.1.length ≤ 1152921504606846976 by omega), badAt]
      rcases Nat.eq_zero_or_pos i with rfl | h0
      · cases inb (a0.2.2.2.getD 0 0) a0.1.length <;> rfl
      · rw [show IntKind.i64.wrap ((i : Int) - 1) = ((i - 1 : Nat) : Int) by rw [wr (by omega) (by omega)]; omega, inb_nat (show i - 1 < a0.2.2.2.length by omega), nth_nat, ltb_t (show (0 : Int) < i by omega), decide_eq_true h0]
        cases inb (a0.2.2.2.getD i 0) a0.1.length <;> cases leb (a0.2.2.2.getD i 0) (a0.2.2.2.getD (i - 1) 0) <;> rfl) (by simp only [stx_spec_MemOk_125, mk_spec_MemOk_125, st_spec_MemOk_125, ltb_f (Int.le_refl _), cond_false]) _ (by show _ < 18446744073709551616; omega)
  unfold raw_spec_MemOk n_spec_MemOk memOk
  rw [h1]
  cases a0.1.all secOk
  · rfl
  simp only [cond_true, segM_inl, h2]
  cases a0.2.1.all (wrOk a0.1.length)
  · rfl
  simp only [cond_true, segM_inl, h3, badAt_any, in_eq]
  cases badOk a0.1.length a0.2.2.2
  · rfl
  simp only [Bool.not_true, cond_false, segM_inl]
  cases leb 1 (a0.1.length : Int) <;> cases leb (a0.1.length : Int) 20 <;> rfl
noncomputable def con_spec_MemOk : Con := ⟨I_spec_MemOk, U_spec_MemOk, fun x => (fun n => some ((n, ()), ())) (n_spec_MemOk x.1)⟩
theorem ok_spec_MemOk : ConOk Try.prog 101 con_spec_MemOk := (ok0_spec_MemOk).mono (fun x r hk h => (nn_spec_MemOk x.1 hk).trans h)
end

/-! spec_l6Secs -/
section
noncomputable def B_spec_l6Secs : Code := (Try.f118.body).getD .skip
noncomputable def E_spec_l6Secs : Env := envOf TT [] []
theorem fr_spec_l6Secs_0 : FrOk Try.prog ⟨E_spec_l6Secs, 6, fun _ => none⟩ B_spec_l6Secs := frOk_base mixed tt_ok trivial
noncomputable def D_spec_l6Secs_0 : Nat → Option Seg := fun _ => none
abbrev I_spec_l6Secs : List Par := [.rd tG]
abbrev U_spec_l6Secs : List OT := [⟨false, tI, .fz⟩]
noncomputable def raw_spec_l6Secs (a0 : dG) : Option (ResD U_spec_l6Secs × MutD I_spec_l6Secs) :=
  some (((IntKind.i64.wrap (6 + a0.2)), ()), ())
theorem e_spec_l6Secs (x : InD I_spec_l6Secs) : execF ⟨E_spec_l6Secs, 6, D_spec_l6Secs_0⟩ Try.f118.results.toList B_spec_l6Secs I_spec_l6Secs U_spec_l6Secs x = raw_spec_l6Secs x.1 := by kernel_rfl
theorem ok0_spec_l6Secs : ConOk Try.prog 118 ⟨I_spec_l6Secs, U_spec_l6Secs, fun x => raw_spec_l6Secs x.1⟩ := conOk_exec (fr_spec_l6Secs_0) Try.func118 (by kernel_rfl) (by kernel_rfl) Try.ntmps118.symm (by decide) (fun x r h => (e_spec_l6Secs x).trans h)
noncomputable def n_spec_l6Secs (a0 : dG) : Int :=
  (IntKind.i64.wrap (6 + a0.2))
noncomputable def con_spec_l6Secs : Con := ⟨I_spec_l6Secs, U_spec_l6Secs, fun x => (fun n => some ((n, ()), ())) (n_spec_l6Secs x.1)⟩
theorem nn_spec_l6Secs (a0 : dG) : raw_spec_l6Secs a0 = (fun n => some ((n, ()), ())) (n_spec_l6Secs a0) := bif_ty (p := fun (n : Int) => ((n, ()), ())) rfl
theorem ok_spec_l6Secs : ConOk Try.prog 118 con_spec_l6Secs := (ok0_spec_l6Secs).mono (fun x r _ h => (nn_spec_l6Secs x.1).trans h)
end
end Go.Tf
