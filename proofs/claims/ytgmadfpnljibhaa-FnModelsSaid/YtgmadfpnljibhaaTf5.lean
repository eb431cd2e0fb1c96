/- A symbolic executor over the model, proved sound: part 5. -/
import Derived.Test.YtgmadfpnljibhaaTf4

/- Small laws of the words that printed functions use. -/
namespace Go.Tf

theorem bif_some {α β : Type} {c : Bool} {x y : Option α} {p : β → α} {a b : β} (h1 : x = some (p a)) (h2 : y = some (p b)) : (bif c then x else y) = some (p (bif c then a else b)) := by
  cases c
  · exact h2
  · exact h1

theorem bif_ty {α β : Type} {x : Option α} {p : β → α} {b : β} (h : x = some (p b)) : x = some (p b) := h



theorem tiok_int {P : Program} {t : TypeId} {k : IntKind} (h : (P.info? t).map (fun f => (f.zero, f.size, f.bytes)) = some (some (zeroVal (.int k)), (Ty.int k).size, (Ty.int k).bytes))
    (hu : P.underlying t = some (.int k)) : TIok P t ⟨.int k, [], 0, false⟩ := ⟨h, hu, by simp, by simp [Ty.size], by simp⟩
theorem tiok_bool {P : Program} {t : TypeId} (h : (P.info? t).map (fun f => (f.zero, f.size, f.bytes)) = some (some (zeroVal .bool), Ty.bool.size, Ty.bool.bytes))
    (hu : P.underlying t = some .bool) : TIok P t ⟨.bool, [], 0, false⟩ := ⟨h, hu, by simp, by simp [Ty.size], by simp⟩
theorem tiok_sl {P : Program} {t : TypeId} {u : Ty} {e : Nat} (h : (P.info? t).map (fun f => (f.zero, f.size, f.bytes)) = some (some (zeroVal (.sl u)), (Ty.sl u).size, (Ty.sl u).bytes))
    (hu : P.underlying t = some (.slice e)) (hz : (P.info? e).map (fun f => (f.zero, f.size, f.bytes)) = some (some (zeroVal u), u.size, u.bytes)) : TIok P t ⟨.sl u, [], e, false⟩ :=
  ⟨h, ⟨hu, hz⟩, by simp, by simp [Ty.size], by simp⟩
theorem tiok_st {P : Program} {t : TypeId} {n : Nat} {u : Ty} {fs : List (Nat × Nat × Bool)} {eqs : Bool}
    (h : (P.info? t).map (fun f => (f.zero, f.size, f.bytes)) = some (some (zeroVal (.st n u)), (Ty.st n u).size, (Ty.st n u).bytes))
    (hu : P.underlying t = some (.struct (P.fieldsOf t))) (hf : (P.fieldsOf t).toList.map (fieldKey P) = fs.map (fun x => (x.1, some x.2.1, x.2.2)))
    (hz : fs.all (fun x => Nat.blt 0 x.2.1) = true) (hp : Nat.blt 0 (Ty.st n u).size = true) (he : eqs = true → EqOk P t ⟨.st n u, fs, 0, eqs⟩) : TIok P t ⟨.st n u, fs, 0, eqs⟩ :=
  ⟨h, ⟨_, hu, hf⟩, fun x hx => by have h := List.all_eq_true.1 hz x hx; simp only [Nat.blt, Nat.ble_eq] at h; omega, Nat.le_of_ble_eq_true hp, he⟩

theorem wr {n : Int} (h : -9223372036854775808 ≤ n) (h' : n ≤ 9223372036854775807) : IntKind.i64.wrap n = n := by
  rw [IntKind.wrap_i64]; omega

theorem ltb_iff {a b : Int} : ltb a b = true ↔ a < b := by simp [ltb]
theorem leb_iff {a b : Int} : leb a b = true ↔ a ≤ b := by simp [leb]
theorem ltb_t {a b : Int} (h : a < b) : ltb a b = true := ltb_iff.2 h
theorem leb_t {a b : Int} (h : a ≤ b) : leb a b = true := leb_iff.2 h
theorem ltb_f {a b : Int} (h : b ≤ a) : ltb a b = false := by simp [ltb]; omega
theorem ltb_ff {a b : Int} (h : ltb a b = false) : b ≤ a := by
  rcases Int.lt_or_le a b with h3 | h3
  · rw [ltb_t h3] at h; cases h
  · exact h3
theorem leb_f {a b : Int} (h : b < a) : leb a b = false := by simp [leb]; omega
theorem inb_iff {i : Int} {n : Nat} : inb i n = true ↔ 0 ≤ i ∧ i < (n : Int) := by simp [inb]
theorem inb_nat {i n : Nat} (h : i < n) : inb (i : Int) n = true := by rw [inb_iff]; omega
theorem apok_iff {m n b : Nat} : apok m n b = true ↔ (m + n) * b ≤ 140737488355328 := by simp [apok]
theorem mkok_iff {n : Int} {b : Nat} : mkok n b = true ↔ 0 ≤ n ∧ n * b ≤ 140737488355328 := by simp [mkok]
theorem cutok_iff {lo hi : Int} {n : Nat} : cutok lo hi n = true ↔ 0 ≤ lo ∧ lo ≤ hi ∧ hi ≤ (n : Int) := by simp [cutok, and_assoc]
theorem nth_nat {α : Type} (l : List α) (i : Nat) (d : α) : nth l (i : Int) d = l.getD i d := by simp [nth]
theorem bif_ind {α : Type} {P : α → Prop} {c : Bool} {x y : α} (h1 : P x) (h2 : P y) : P (bif c then x else y) := by
  cases c
  · exact h2
  · exact h1
theorem pre_ok {α : Type} {q : Bool} {p x : Option α} {r : α} (h : (bif q then p else none) = some r) (hx : q = true → x = p) : x = some r := by
  cases q
  · cases h
  · exact (hx rfl).trans h
theorem bif_t {α : Type} (x y : α) : (bif true then x else y) = x := rfl
theorem bif_f {α : Type} (x y : α) : (bif false then x else y) = y := rfl

/-- a loop that an invariant and a measure go through -/
theorem loopN_ind {A B : Type} {step : A → Option (A ⊕ B)} (m : A → Nat) (I : A → Prop) (Q : B → Prop)
    (h : ∀ x, I x → (∃ y, step x = some (.inl y) ∧ I y ∧ m y < m x) ∨ (∃ b, step x = some (.inr b) ∧ Q b)) :
    ∀ (fuel : Nat) (x : A), I x → m x < fuel → ∃ b, loopN step fuel x = some b ∧ Q b
  | 0, _, _, hm => absurd hm (Nat.not_lt_zero _)
  | n + 1, x, hI, hm => by
    rcases h x hI with ⟨y, e, hy, hl⟩ | ⟨b, e, hb⟩
    · obtain ⟨b, e2, hb⟩ := loopN_ind m I Q h n y hy (by omega)
      exact ⟨b, by simp only [loopN, e, e2], hb⟩
    · exact ⟨b, by simp only [loopN, e], hb⟩

/-- a loop that counts -/
theorem loopN_up {A B : Type} {step : A → Option (A ⊕ B)} (f : Nat → A) (n : Nat) (b : B) (h : ∀ i, i < n → step (f i) = some (.inl (f (i + 1)))) (e : step (f n) = some (.inr b)) :
    ∀ (fuel : Nat), n < fuel → loopN step fuel (f 0) = some b := by
  have : ∀ (k i fuel : Nat), i + k = n → k < fuel → loopN step fuel (f i) = some b := by
    intro k
    induction k with
    | zero =>
      intro i fuel hi hf
      obtain ⟨fuel, rfl⟩ : ∃ m, fuel = m + 1 := ⟨fuel - 1, by omega⟩
      have : i = n := by omega
      subst this
      simp only [loopN, e]
    | succ k ih =>
      intro i fuel hi hf
      obtain ⟨fuel, rfl⟩ : ∃ m, fuel = m + 1 := ⟨fuel - 1, by omega⟩
      simp only [loopN, h i (by omega)]
      exact ih (i + 1) fuel (by omega) (by omega)
  intro fuel hf
  exact this n 0 fuel (by omega) hf

/-- a loop that looks for the first bad one -/
theorem loopN_all {A B : Type} {step : A → Option (A ⊕ B)} (f : Nat → A) (n : Nat) (bad : Nat → Bool) (b c : B)
    (h : ∀ i, i < n → step (f i) = some (bif bad i then .inr c else .inl (f (i + 1)))) (e : step (f n) = some (.inr b)) :
    ∀ (fuel : Nat), n < fuel → loopN step fuel (f 0) = some (bif (List.range n).any bad then c else b) := by
  have : ∀ (k i fuel : Nat), i + k = n → k < fuel → loopN step fuel (f i) = some (bif (List.range' i k).any bad then c else b) := by
    intro k
    induction k with
    | zero =>
      intro i fuel hi hf
      obtain ⟨fuel, rfl⟩ : ∃ m, fuel = m + 1 := ⟨fuel - 1, by omega⟩
      have : i = n := by omega
      subst this
      simp only [loopN, e, List.range'_zero, List.any_nil, cond_false]
    | succ k ih =>
      intro i fuel hi hf
      obtain ⟨fuel, rfl⟩ : ∃ m, fuel = m + 1 := ⟨fuel - 1, by omega⟩
      rw [List.range'_succ, List.any_cons]
      cases hb : bad i
      · simp only [loopN, h i (by omega), hb, cond_false, Bool.false_or]
        exact ih (i + 1) fuel (by omega) (by omega)
      · simp only [loopN, h i (by omega), hb, cond_true, Bool.true_or]
  intro fuel hf
  rw [List.range_eq_range']
  exact this n 0 fuel (by omega) hf

/-- a loop over a list that asks the same of each -/
theorem loopN_list_all {A B α : Type} {step : A → Option (A ⊕ B)} (l : List α) (d : α) (f : Nat → A) (p : α → Bool) (b c : B)
    (h : ∀ i, i < l.length → step (f i) = some (bif p (l.getD i d) then .inl (f (i + 1)) else .inr c)) (e : step (f l.length) = some (.inr b)) (fuel : Nat) (hf : l.length < fuel) :
    loopN step fuel (f 0) = some (bif l.all p then b else c) := by
  have := loopN_all (step := step) f l.length (fun i => !(p (l.getD i d))) b c (fun i hi => by rw [h i hi]; cases p (l.getD i d) <;> rfl) e fuel hf
  rw [this]
  have e2 : (List.range l.length).any (fun i => !(p (l.getD i d))) = !(l.all p) := by
    rw [Bool.eq_iff_iff]
    simp only [List.any_eq_true, List.mem_range, Bool.not_eq_true', List.all_eq_false]
    constructor
    · rintro ⟨i, hi, hp⟩
      refine ⟨l[i], List.getElem_mem hi, ?_⟩
      rw [List.getD_eq_getElem?_getD, List.getElem?_eq_getElem hi, Option.getD_some] at hp
      rw [hp]; simp
    · rintro ⟨x, hx, hp⟩
      obtain ⟨i, hi, rfl⟩ := List.getElem_of_mem hx
      refine ⟨i, hi, ?_⟩
      rw [List.getD_eq_getElem?_getD, List.getElem?_eq_getElem hi, Option.getD_some]
      simpa using hp
  rw [e2]
  cases l.all p <;> rfl

/-- a loop that folds a list, under an invariant -/
theorem loopN_fold {A B α σ : Type} {step : A → Option (A ⊕ B)} (l : List α) (d : α) (f : Nat → σ → A) (u : σ → α → σ) (I : Nat → σ → Prop) (b : σ → B)
    (h : ∀ i s, i < l.length → I i s → step (f i s) = some (.inl (f (i + 1) (u s (l.getD i d)))) ∧ I (i + 1) (u s (l.getD i d))) (e : ∀ s, I l.length s → step (f l.length s) = some (.inr (b s)))
    (s : σ) (hI : I 0 s) (fuel : Nat) (hf : l.length < fuel) : loopN step fuel (f 0 s) = some (b (l.foldl u s)) := by
  have : ∀ (k i fuel : Nat) (s : σ), i + k = l.length → k < fuel → I i s → loopN step fuel (f i s) = some (b ((l.drop i).foldl u s)) := by
    intro k
    induction k with
    | zero =>
      intro i fuel s hi hf hI
      obtain ⟨fuel, rfl⟩ : ∃ m, fuel = m + 1 := ⟨fuel - 1, by omega⟩
      have : i = l.length := by omega
      subst this
      simp only [loopN, e s hI, List.drop_length, List.foldl_nil]
    | succ k ih =>
      intro i fuel s hi hf hI
      obtain ⟨fuel, rfl⟩ : ∃ m, fuel = m + 1 := ⟨fuel - 1, by omega⟩
      obtain ⟨h1, h2⟩ := h i s (by omega) hI
      simp only [loopN, h1]
      rw [ih (i + 1) fuel _ (by omega) (by omega) h2, List.drop_eq_getElem_cons (show i < l.length by omega), List.foldl_cons]
      rw [List.getD_eq_getElem?_getD, List.getElem?_eq_getElem (show i < l.length by omega), Option.getD_some]
  have := this l.length 0 fuel s (by omega) hf hI
  rwa [List.drop_zero] at this

theorem getD_get {α : Type} {l : List α} {i : Nat} {d : α} (h : i < l.length) : l.getD i d = l[i] := by
  rw [List.getD_eq_getElem?_getD, List.getElem?_eq_getElem h, Option.getD_some]

/-- a loop that fills a new list, place by place -/
theorem loopN_fill {A B α : Type} {step : A → Option (A ⊕ B)} (l : List α) (d : α) (f : Nat → List α → A) (b : List α → B)
    (h : ∀ i m, i < l.length → m.length = l.length → step (f i m) = some (.inl (f (i + 1) (m.set i (l.getD i d))))) (e : ∀ m, m.length = l.length → step (f l.length m) = some (.inr (b m))) (fuel : Nat) (hf : l.length < fuel) :
    loopN step fuel (f 0 (List.replicate l.length d)) = some (b l) := by
  have hs : ∀ i, i < l.length → (l.take i ++ List.replicate (l.length - i) d).set i (l.getD i d) = l.take (i + 1) ++ List.replicate (l.length - (i + 1)) d := fun i hi => by
    have hl : (l.take i).length = i := by rw [List.length_take]; omega
    rw [List.set_append_right _ _ (by rw [hl]; exact Nat.le_refl _), hl, Nat.sub_self, List.take_add_one, List.append_assoc, show l.length - i = (l.length - (i + 1)) + 1 by omega, List.replicate_succ]
    simp [hi]
  have hL : ∀ i, i ≤ l.length → (l.take i ++ List.replicate (l.length - i) d).length = l.length := fun i hi => by rw [List.length_append, List.length_take, List.length_replicate]; omega
  have := loopN_up (step := step) (fun i => f i (l.take i ++ List.replicate (l.length - i) d)) l.length (b (l.take l.length ++ List.replicate (l.length - l.length) d)) (fun i hi => by
    rw [h i _ hi (hL i (by omega)), hs i hi]) (e _ (hL _ (Nat.le_refl _))) fuel hf
  simpa using this

/-- a loop that compares two lists -/
theorem loopN_eq {A B α : Type} [DecidableEq α] {step : A → Option (A ⊕ B)} (l m : List α) (d : α) (f : Nat → A) (eq : α → α → Bool) (he : ∀ x y, eq x y = decide (x = y)) (b c : B) (hl : l.length = m.length)
    (h : ∀ i, i < l.length → step (f i) = some (bif eq (l.getD i d) (m.getD i d) then .inl (f (i + 1)) else .inr c)) (e : step (f l.length) = some (.inr b)) (fuel : Nat) (hf : l.length < fuel) :
    loopN step fuel (f 0) = some (bif decide (l = m) then b else c) := by
  rw [loopN_all (step := step) f l.length (fun i => !(eq (l.getD i d) (m.getD i d))) b c (fun i hi => by rw [h i hi]; cases eq (l.getD i d) (m.getD i d) <;> rfl) e fuel hf]
  have e2 : (List.range l.length).any (fun i => !(eq (l.getD i d) (m.getD i d))) = !(decide (l = m)) := by
    rw [Bool.eq_iff_iff]
    simp only [List.any_eq_true, List.mem_range, Bool.not_eq_true', he, decide_eq_false_iff_not]
    constructor
    · rintro ⟨i, hi, hp⟩ rfl
      exact hp rfl
    · intro hne
      refine Classical.byContradiction fun hno => hne (List.ext_getElem hl fun i h3 h4 => ?_)
      refine Classical.byContradiction fun hx => hno ⟨i, h3, ?_⟩
      rw [getD_get h3, getD_get h4]; exact hx
  rw [e2]
  cases decide (l = m) <;> rfl

/-- how a list is gone through where a step may refuse -/
def szG {α : Type} (u : α → Int → Int) : List α → Int → Option Int
  | [], k => some k
  | x :: l, k => bif ltb (u x k) 0 then none else szG u l (u x k)

theorem loopN_sz {A B α : Type} {step : A → Option (A ⊕ B)} (l : List α) (d : α) (f : Nat → Int → A) (u : α → Int → Int) (b : Int → B) (c : B)
    (h : ∀ i s, i < l.length → step (f i s) = some (bif ltb (u (l.getD i d) s) 0 then .inr c else .inl (f (i + 1) (u (l.getD i d) s)))) (e : ∀ s, step (f l.length s) = some (.inr (b s))) (s : Int) (fuel : Nat) (hf : l.length < fuel) :
    loopN step fuel (f 0 s) = some (match szG u l s with | some r => b r | none => c) := by
  have : ∀ (k i fuel : Nat) (s : Int), i + k = l.length → k < fuel → loopN step fuel (f i s) = some (match szG u (l.drop i) s with | some r => b r | none => c) := by
    intro k
    induction k with
    | zero =>
      intro i fuel s hi hf
      obtain ⟨fuel, rfl⟩ : ∃ m, fuel = m + 1 := ⟨fuel - 1, by omega⟩
      have : i = l.length := by omega
      subst this
      simp only [loopN, e s, List.drop_length, szG]
    | succ k ih =>
      intro i fuel s hi hf
      obtain ⟨fuel, rfl⟩ : ∃ m, fuel = m + 1 := ⟨fuel - 1, by omega⟩
      have hi' : i < l.length := by omega
      rw [List.drop_eq_getElem_cons hi', szG]
      have hs := h i s hi'
      rw [getD_get hi'] at hs
      cases hb : ltb (u l[i] s) 0
      · rw [hb] at hs
        simp only [loopN, hs, cond_false]
        exact ih (i + 1) fuel _ (by omega) (by omega)
      · rw [hb] at hs
        simp only [loopN, hs, cond_true]
  have := this l.length 0 fuel s (by omega) hf
  rwa [List.drop_zero] at this

/-- marks, element by element -/
def markL {α : Type} (u : α → Int → Int × α) : List α → Int → Int × List α
  | [], k => (k, [])
  | x :: l, k => ((markL u l (u x k).1).1, (u x k).2 :: (markL u l (u x k).1).2)

theorem markL_len {α : Type} {u : α → Int → Int × α} : ∀ {l : List α} {k : Int}, (markL u l k).2.length = l.length
  | [], _ => rfl
  | x :: l, k => by simp [markL, markL_len (l := l)]

theorem loopN_mark {A B α : Type} {step : A → Option (A ⊕ B)} (l : List α) (d : α) (f : Nat → Int → List α → A) (u : α → Int → Int × α) (b : Int → List α → B)
    (h : ∀ i s m, i < m.length → m.length = l.length → step (f i s m) = some (.inl (f (i + 1) (u (m.getD i d) s).1 (m.set i (u (m.getD i d) s).2)))) (e : ∀ s m, m.length = l.length → step (f l.length s m) = some (.inr (b s m))) (s : Int) (fuel : Nat) (hf : l.length < fuel) :
    loopN step fuel (f 0 s l) = some (b (markL u l s).1 (markL u l s).2) := by
  have : ∀ (t : List α) (p : List α) (fuel : Nat) (s : Int), (p ++ t).length = l.length → t.length < fuel → loopN step fuel (f p.length s (p ++ t)) = some (b (markL u t s).1 (p ++ (markL u t s).2)) := by
    intro t
    induction t with
    | nil =>
      intro p fuel s hl hf
      obtain ⟨fuel, rfl⟩ : ∃ m, fuel = m + 1 := ⟨fuel - 1, by omega⟩
      have hp : p.length = l.length := by simpa using hl
      rw [hp]
      simp only [loopN, e s _ hl, markL]
    | cons x t ih =>
      intro p fuel s hl hf
      obtain ⟨fuel, rfl⟩ : ∃ m, fuel = m + 1 := ⟨fuel - 1, by omega⟩
      have hx : (p ++ x :: t).getD p.length d = x := by
        rw [getD_get (by simp)]; simp
      have hs := h p.length s (p ++ x :: t) (by simp) hl
      rw [hx, List.set_append_right _ _ (Nat.le_refl _), Nat.sub_self, List.set_cons_zero] at hs
      simp only [loopN, hs, markL]
      have := ih (p ++ [(u x s).2]) fuel (u x s).1 (by simpa using hl) (by simp at hf; omega)
      simpa using this
  have := this l [] fuel s rfl hf
  simpa using this

/-- where each element is held behind its marks, the list is -/
theorem held_list {α : Type} {u : α → Int → Int × α} {hd : α → Int → Int} {m : α → Nat} (hu : ∀ (x : α) (k : Int), 0 ≤ k → k + m x ≤ 9223372036854775807 → (u x k).1 = k + m x ∧ hd (u x k).2 k = k + m x) :
    ∀ (l : List α) (k : Int), 0 ≤ k → k + (l.map m).sum ≤ 9223372036854775807 → (markL u l k).1 = k + (l.map m).sum ∧ szG hd (markL u l k).2 k = some (k + (l.map m).sum)
  | [], k, _, _ => by simp [markL, szG]
  | x :: l, k, h0, hb => by
    rw [List.map_cons, List.sum_cons] at hb ⊢
    obtain ⟨h1, h2⟩ := hu x k h0 (by omega)
    obtain ⟨h3, h4⟩ := held_list hu l (u x k).1 (by omega) (by rw [h1]; omega)
    rw [h1] at h3 h4
    simp only [markL, szG, h2, ltb_f (show 0 ≤ k + (m x : Int) by omega), cond_false, h1, h3, h4]
    constructor
    · omega
    · congr 1; omega

theorem pr_eta {α β : Type} (p : α × β) : (p.1, p.2) = p := rfl
theorem eq_step1 {x y : Int} (r : Bool) : (bif x != y then false else r) = (decide (x = y) && r) := by
  by_cases h : x = y
  · subst h; simp
  · simp [h]
theorem eq_step2 (c r : Bool) : (bif !c then false else r) = (c && r) := by cases c <;> rfl
theorem eq_step3 (x y : Bool) : (x == y) = decide (x = y) := by cases x <;> cases y <;> rfl
theorem eq_step4 (c r : Bool) : (bif c then r else false) = (c && r) := by cases c <;> rfl
theorem eq_step5 (x y : Int) : (x == y) = decide (x = y) := by
  by_cases h : x = y
  · subst h; simp
  · simp [h]

theorem nth_set {α : Type} {l : List α} {i : Nat} {x d : α} (h : i < l.length) : nth (l.set i x) (i : Int) d = x := by
  rw [nth_nat, getD_get (by rw [List.length_set]; exact h), List.getElem_set_self]

/-- what a size that is not refused tells -/
theorem szG_le {α : Type} {u : α → Int → Int} {m : α → Nat} : ∀ {l : List α} {k r : Int}, (∀ x ∈ l, ∀ k, 0 ≤ k → k ≤ 1048576 → 0 ≤ u x k → (m x : Int) ≤ k ∧ u x k ≤ k - m x) → 0 ≤ k → k ≤ 1048576 → szG u l k = some r → ((l.map m).sum : Int) ≤ k - r ∧ 0 ≤ r ∧ r ≤ k
  | [], k, r, _, h0, _, h => by
    simp only [szG, Option.some.injEq] at h
    subst h
    simp [h0]
  | x :: l, k, r, hu, h0, h1, h => by
    simp only [szG] at h
    cases hb : ltb (u x k) 0
    · rw [hb] at h
      have h2 : 0 ≤ u x k := by
        rcases Int.lt_or_le (u x k) 0 with h3 | h3
        · rw [ltb_t h3] at hb; cases hb
        · exact h3
      have h3 := hu x List.mem_cons_self k h0 h1 h2
      have := szG_le (fun y hy => hu y (List.mem_cons_of_mem _ hy)) h2 (by omega) h
      rw [List.map_cons, List.sum_cons]
      omega
    · rw [hb] at h; cases h

theorem sum_const {α : Type} {f : α → Nat} {c : Nat} : ∀ {l : List α}, (∀ x ∈ l, f x ≤ c) → (l.map f).sum ≤ l.length * c
  | [], _ => by simp
  | x :: l, h => by
    rw [List.map_cons, List.sum_cons, List.length_cons, Nat.add_mul]
    have := sum_const (l := l) (fun y hy => h y (List.mem_cons_of_mem _ hy))
    have := h x List.mem_cons_self
    omega

/-- a loop that counts up to n under an invariant; a bad place ends it -/
theorem loopN_foldE {A B σ : Type} {step : A → Option (A ⊕ B)} (n : Nat) (f : Nat → σ → A) (ok : Nat → Bool) (u : σ → Nat → σ) (I : Nat → σ → Prop) (b : σ → B) (c : B)
    (h : ∀ i s, i < n → I i s → step (f i s) = some (bif ok i then .inl (f (i + 1) (u s i)) else .inr c) ∧ (ok i = true → I (i + 1) (u s i))) (e : ∀ s, I n s → step (f n s) = some (.inr (b s)))
    (s : σ) (hI : I 0 s) (fuel : Nat) (hf : n < fuel) : loopN step fuel (f 0 s) = some (bif (List.range n).all ok then b ((List.range n).foldl u s) else c) := by
  have : ∀ (k i fuel : Nat) (s : σ), i + k = n → k < fuel → I i s → loopN step fuel (f i s) = some (bif (List.range' i k).all ok then b ((List.range' i k).foldl u s) else c) := by
    intro k
    induction k with
    | zero =>
      intro i fuel s hi hf hI
      obtain ⟨fuel, rfl⟩ : ∃ m, fuel = m + 1 := ⟨fuel - 1, by omega⟩
      have : i = n := by omega
      subst this
      simp only [loopN, e s hI, List.range'_zero, List.all_nil, List.foldl_nil, cond_true]
    | succ k ih =>
      intro i fuel s hi hf hI
      obtain ⟨fuel, rfl⟩ : ∃ m, fuel = m + 1 := ⟨fuel - 1, by omega⟩
      obtain ⟨h1, h2⟩ := h i s (by omega) hI
      rw [List.range'_succ, List.all_cons, List.foldl_cons]
      cases ho : ok i
      · simp only [loopN, h1, ho, cond_false, Bool.false_and]
      · simp only [loopN, h1, ho, cond_true, Bool.true_and]
        exact ih (i + 1) fuel _ (by omega) (by omega) (h2 ho)
  rw [List.range_eq_range']
  exact this n 0 fuel s (by omega) hf hI

/-- going on until something ends it -/
def goE {σ B : Type} (u : Nat → σ → σ ⊕ B) (b : σ → B) : Nat → Nat → σ → B
  | 0, _, s => b s
  | k + 1, i, s => match u i s with
    | .inl s' => goE u b k (i + 1) s'
    | .inr r => r
theorem loopN_goE {A B C σ : Type} {step : A → Option (A ⊕ C)} (n : Nat) (f : Nat → σ → A) (u : Nat → σ → σ ⊕ B) (I : Nat → σ → Prop) (b : σ → B) (g : B → C)
    (h : ∀ i s, i < n → I i s → step (f i s) = some (match u i s with | .inl s' => .inl (f (i + 1) s') | .inr r => .inr (g r)) ∧ ∀ s', u i s = .inl s' → I (i + 1) s') (e : ∀ s, I n s → step (f n s) = some (.inr (g (b s))))
    (s : σ) (hI : I 0 s) (fuel : Nat) (hf : n < fuel) : loopN step fuel (f 0 s) = some (g (goE u b n 0 s)) := by
  have : ∀ (k i fuel : Nat) (s : σ), i + k = n → k < fuel → I i s → loopN step fuel (f i s) = some (g (goE u b k i s)) := by
    intro k
    induction k with
    | zero =>
      intro i fuel s hi hf hI
      obtain ⟨fuel, rfl⟩ : ∃ m, fuel = m + 1 := ⟨fuel - 1, by omega⟩
      have : i = n := by omega
      subst this
      simp only [loopN, e s hI, goE]
    | succ k ih =>
      intro i fuel s hi hf hI
      obtain ⟨fuel, rfl⟩ : ∃ m, fuel = m + 1 := ⟨fuel - 1, by omega⟩
      obtain ⟨h1, h2⟩ := h i s (by omega) hI
      cases hu : u i s with
      | inl s' =>
        rw [hu] at h1
        simp only [loopN, h1, goE, hu]
        exact ih (i + 1) fuel _ (by omega) (by omega) (h2 s' hu)
      | inr r =>
        rw [hu] at h1
        simp only [loopN, h1, goE, hu]
  exact this n 0 fuel s (by omega) hf hI
/-- a loop that counts up to n under an invariant -/
theorem loopN_rng {A B σ : Type} {step : A → Option (A ⊕ B)} (n : Nat) (f : Nat → σ → A) (u : σ → Nat → σ) (I : Nat → σ → Prop) (b : σ → B)
    (h : ∀ i s, i < n → I i s → step (f i s) = some (.inl (f (i + 1) (u s i))) ∧ I (i + 1) (u s i)) (e : ∀ s, I n s → step (f n s) = some (.inr (b s)))
    (s : σ) (hI : I 0 s) (fuel : Nat) (hf : n < fuel) : loopN step fuel (f 0 s) = some (b ((List.range n).foldl u s)) := by
  have := loopN_foldE (step := step) n f (fun _ => true) u I b (b s) (fun i s hi hI => ⟨(h i s hi hI).1, fun _ => (h i s hi hI).2⟩) e s hI fuel hf
  rw [this]
  have e2 : (List.range n).all (fun _ => true) = true := by simp
  rw [e2, cond_true]

end Go.Tf

/- The types of data of this program. -/
namespace Go.Tf
abbrev tI : Ty := (.int .i64)
abbrev tL : Ty := (.sl tI)
abbrev tLL : Ty := (.sl tL)
abbrev tW : Ty := (.st 32 (.pr tI tL))
abbrev tWs : Ty := (.sl tW)
abbrev tB : Ty := .bool
abbrev tM : Ty := (.st 80 (.pr tLL (.pr tWs (.pr tB tL))))
abbrev tMs : Ty := (.sl tM)
abbrev tG : Ty := (.st 16 (.pr tI tI))
abbrev tA : Ty := (.st 128 (.pr tI (.pr tG (.pr tMs (.pr tI (.pr tI (.pr tI (.pr tI (.pr tI (.pr tWs (.pr tI (.pr tB tB))))))))))))
abbrev tC : Ty := (.st 56 (.pr tI (.pr tI (.pr tI (.pr tI tL)))))
abbrev tCs : Ty := (.sl tC)
abbrev tN : Ty := (.st 40 (.pr tI (.pr tI tL)))
abbrev tNs : Ty := (.sl tN)
abbrev tY : Ty := (.int .u8)
abbrev tYs : Ty := (.sl tY)
abbrev tU : Ty := (.st 40 (.pr tYs (.pr tI tI)))
abbrev tS : Ty := (.st 64 (.pr tI (.pr tI (.pr tI (.pr tI (.pr tI (.pr tI (.pr tI tI))))))))
abbrev dI : Type := Int
abbrev dL : Type := List Int
abbrev dLL : Type := List (List Int)
abbrev dW : Type := Int × (List Int)
abbrev dWs : Type := List (Int × (List Int))
abbrev dB : Type := Bool
abbrev dM : Type := (List (List Int)) × (List (Int × (List Int))) × Bool × (List Int)
abbrev dMs : Type := List ((List (List Int)) × (List (Int × (List Int))) × Bool × (List Int))
abbrev dG : Type := Int × Int
abbrev dA : Type := Int × (Int × Int) × (List ((List (List Int)) × (List (Int × (List Int))) × Bool × (List Int))) × Int × Int × Int × Int × Int × (List (Int × (List Int))) × Int × Bool × Bool
abbrev dC : Type := Int × Int × Int × Int × (List Int)
abbrev dCs : Type := List (Int × Int × Int × Int × (List Int))
abbrev dN : Type := Int × Int × (List Int)
abbrev dNs : Type := List (Int × Int × (List Int))
abbrev dY : Type := Int
abbrev dYs : Type := List Int
abbrev dU : Type := (List Int) × Int × Int
abbrev dS : Type := Int × Int × Int × Int × Int × Int × Int × Int
end Go.Tf
