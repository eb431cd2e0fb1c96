/- Functions of the program, and what they come to. -/
import Derived.Test.YtmamkjioahnecaaExactDurableF6
namespace Go.Tf
open Go.Proofs
set_option synthInstance.maxHeartbeats 400000
set_option synthInstance.maxSize 10000
set_option linter.unusedVariables false
set_option linter.unusedSimpArgs false
set_option maxRecDepth 100000
/-! spec_GeoOk -/
section
noncomputable def B_spec_GeoOk : Code := (Try.f140.body).getD .skip
noncomputable def E_spec_GeoOk : Env := envOf TT [(82, con_spec_l1In)] []
theorem fr_spec_GeoOk_0 : FrOk Try.prog ⟨E_spec_GeoOk, 11, fun _ => none⟩ B_spec_GeoOk := frOk_base mixed tt_ok ⟨ok_spec_l1In, trivial⟩
noncomputable def D_spec_GeoOk_0 : Nat → Option Seg := fun _ => none
abbrev I_spec_GeoOk : List Par := [.rd tG]
abbrev U_spec_GeoOk : List OT := [⟨false, tB, .fz⟩]
noncomputable def raw_spec_GeoOk (a0 : dG) : Option (ResD U_spec_GeoOk × MutD I_spec_GeoOk) :=
  let r1 := n_spec_l1In a0.1 3 5
  bif r1 then
    let r2 := n_spec_l1In a0.2 1 8
    some ((r2, ()), ())
  else
    some ((false, ()), ())
theorem e_spec_GeoOk (x : InD I_spec_GeoOk) : execF ⟨E_spec_GeoOk, 11, D_spec_GeoOk_0⟩ Try.f140.results.toList B_spec_GeoOk I_spec_GeoOk U_spec_GeoOk x = raw_spec_GeoOk x.1 := by kernel_rfl
theorem ok0_spec_GeoOk : ConOk Try.prog 140 ⟨I_spec_GeoOk, U_spec_GeoOk, fun x => raw_spec_GeoOk x.1⟩ := conOk_exec (fr_spec_GeoOk_0) Try.func140 (by kernel_rfl) (by kernel_rfl) Try.ntmps140.symm (by decide) (fun x r h => (e_spec_GeoOk x).trans h)
noncomputable def n_spec_GeoOk (a0 : dG) : Bool :=
  let r1 := n_spec_l1In a0.1 3 5
  bif r1 then
    let r2 := n_spec_l1In a0.2 1 8
    r2
  else
    false
noncomputable def con_spec_GeoOk : Con := ⟨I_spec_GeoOk, U_spec_GeoOk, fun x => (fun n => some ((n, ()), ())) (n_spec_GeoOk x.1)⟩
theorem nn_spec_GeoOk (a0 : dG) : raw_spec_GeoOk a0 = (fun n => some ((n, ()), ())) (n_spec_GeoOk a0) := bif_ty (p := fun (n : Bool) => ((n, ()), ())) (bif_some (p := fun (n : Bool) => ((n, ()), ())) rfl rfl)
theorem ok_spec_GeoOk : ConOk Try.prog 140 con_spec_GeoOk := (ok0_spec_GeoOk).mono (fun x r _ h => (nn_spec_GeoOk x.1).trans h)
theorem geo_iff {a : Int × Int} : n_spec_GeoOk a = true ↔ (3 ≤ a.1 ∧ a.1 ≤ 5) ∧ 1 ≤ a.2 ∧ a.2 ≤ 8 := by
  unfold n_spec_GeoOk
  cases h : n_spec_l1In a.1 3 5
  · have : ¬ (3 ≤ a.1 ∧ a.1 ≤ 5) := fun e => by rw [in_iff.2 e] at h; simp at h
    simp [this]
  · simp only [cond_true, in_iff]
    exact ⟨fun e => ⟨in_iff.1 h, e⟩, fun e => e.2⟩
def memBad (a : dA) (i : Nat) : Bool := !(memOk (nth a.2.2.1 i noMem)) || ((((nth a.2.2.1 i noMem).1.length : Int) != 6 + a.2.1.2) || ((nth a.2.2.1 i noMem).2.2.1 && (((i : Int) != a.2.2.2.1) && !a.2.2.2.2.2.2.2.2.2.2.2)))
def memsOk (a : dA) : Bool := !((List.range a.2.2.1.length).any (memBad a)) && (a.2.2.1.length : Int) == a.2.1.1
def dirtBad (g : dG) (l : List dW) (i : Nat) : Bool := !(leb 0 (nth l i (0, [])).1 && leb (nth l i (0, [])).1 (g.2 - 1)) || (((nth l i (0, [])).2.length : Int) != g.1 - 1 || (!((nth l i (0, [])).2.all isW) || (decide (0 < i) && leb (nth l i (0, [])).1 (nth l ((i - 1 : Nat) : Int) (0, [])).1)))
def dirtyOk (g : dG) (l : List dW) : Bool := !((List.range l.length).any (dirtBad g l))
/-- an array that is right -/
noncomputable def arrOk (a : dA) : Bool :=
  n_spec_GeoOk a.2.1 && ((leb 1 a.1 && leb a.1 60000) && (memsOk a && (dirtyOk a.2.1 a.2.2.2.2.2.2.2.2.1 && ((leb (-1) a.2.2.2.1 && leb a.2.2.2.1 (a.2.1.1 - 1)) && ((leb 0 a.2.2.2.2.1 && leb a.2.2.2.2.1 a.2.1.2) && (!(a.2.2.2.1 == -1 && a.2.2.2.2.1 != 0) &&
  ((leb 0 a.2.2.2.2.2.2.1 && leb a.2.2.2.2.2.2.1 60000) && ((leb a.2.2.2.2.2.2.1 a.2.2.2.2.2.1 && leb a.2.2.2.2.2.1 60000) && (leb a.2.2.2.2.2.1 (a.2.2.2.2.2.2.1 + 4) && ((leb 0 a.2.2.2.2.2.2.2.1 && leb a.2.2.2.2.2.2.2.1 60000) && (leb (-1) a.2.2.2.2.2.2.2.2.2.1 && leb a.2.2.2.2.2.2.2.2.2.1 1000)))))))))))
theorem arrOk_geo {a : dA} (h : arrOk a = true) : n_spec_GeoOk a.2.1 = true := (Bool.and_eq_true_iff.1 h).1
theorem geo_f {a : Int × Int} (h : ¬ n_spec_GeoOk a = true) : n_spec_GeoOk a = false := by cases e : n_spec_GeoOk a <;> simp_all
theorem arrOk_mems {a : dA} (h : arrOk a = true) : memsOk a = true := by simp only [arrOk, Bool.and_eq_true] at h; exact h.2.2.1
theorem arrOk_len {a : dA} (h : arrOk a = true) : (a.2.2.1.length : Int) = a.2.1.1 := by have := arrOk_mems h; simp only [memsOk, Bool.and_eq_true, beq_iff_eq] at this; exact this.2
theorem memsOk_at {a : dA} (h : memsOk a = true) {i : Nat} (hi : i < a.2.2.1.length) : memOk (nth a.2.2.1 i noMem) = true ∧ ((nth a.2.2.1 i noMem).1.length : Int) = 6 + a.2.1.2 ∧ ((nth a.2.2.1 i noMem).2.2.1 = true → (i : Int) = a.2.2.2.1 ∨ a.2.2.2.2.2.2.2.2.2.2.2 = true) := by
  simp only [memsOk, Bool.and_eq_true, Bool.not_eq_true', List.any_eq_false, List.mem_range] at h
  have := h.1 i hi
  simp only [memBad, Bool.not_eq_true, Bool.or_eq_false_iff, Bool.not_eq_false', bne_eq_false_iff_eq, Bool.and_eq_false_iff] at this
  refine ⟨this.1, this.2.1, fun hf => ?_⟩
  rcases this.2.2 with h1 | h1 | h1
  · rw [hf] at h1; cases h1
  · exact .inl h1
  · exact .inr h1
noncomputable def strOk (g : dG) (s : Int) : Bool := n_spec_GeoOk g && (leb 0 s && leb s (g.2 - 1))
noncomputable def parityOf (g : dG) (s : Int) : Int := bif strOk g s then g.1 - 1 - s.tmod g.1 else -1
noncomputable def diskOf (g : dG) (s i : Int) : Int := bif strOk g s && (leb 0 i && leb i (g.1 - 2)) then (parityOf g s + 1 + i).tmod g.1 else -1
theorem strOk_iff {g : dG} {s : Int} : strOk g s = true ↔ n_spec_GeoOk g = true ∧ 0 ≤ s ∧ s ≤ g.2 - 1 := by simp [strOk, leb_iff]
theorem parity_in {g : dG} {s : Int} (h : strOk g s = true) : 0 ≤ parityOf g s ∧ parityOf g s ≤ g.1 - 1 := by
  have h1 := strOk_iff.1 h
  have h2 := geo_iff.1 h1.1
  unfold parityOf
  rw [h, cond_true, Int.tmod_eq_emod_of_nonneg h1.2.1]
  have := Int.emod_nonneg s (show g.1 ≠ 0 by omega)
  have := Int.emod_lt_of_pos s (show 0 < g.1 by omega)
  omega
theorem disk_in {g : dG} {s i : Int} (h : strOk g s = true) (h1 : 0 ≤ i) (h2 : i ≤ g.1 - 2) : 0 ≤ diskOf g s i ∧ diskOf g s i ≤ g.1 - 1 := by
  have h3 := geo_iff.1 (strOk_iff.1 h).1
  have h4 := parity_in h
  unfold diskOf
  rw [h, leb_t h1, leb_t h2, Bool.and_self, Bool.and_self, cond_true, Int.tmod_eq_emod_of_nonneg (by omega)]
  have := Int.emod_nonneg (parityOf g s + 1 + i) (show g.1 ≠ 0 by omega)
  have := Int.emod_lt_of_pos (parityOf g s + 1 + i) (show 0 < g.1 by omega)
  omega
/-- the last of n places that a thing is not at -/
def missAt (p : Nat → Bool) : Nat → Int
  | 0 => -1
  | n + 1 => bif p n then missAt p n else n
def miss2 (p : Nat → Bool) (n : Nat) : Bool := (List.range n).any (fun i => !p i && leb 0 (missAt p i))
theorem missAt_in (p : Nat → Bool) : ∀ n, missAt p n = -1 ∨ (0 ≤ missAt p n ∧ missAt p n < n ∧ p (missAt p n).toNat = false)
  | 0 => .inl rfl
  | n + 1 => by
    unfold missAt
    cases h : p n
    · exact .inr ⟨by show (0 : Int) ≤ n; omega, by show (n : Int) < _; omega, h⟩
    · rcases missAt_in p n with h1 | h1
      · exact .inl h1
      · exact .inr ⟨h1.1, by show missAt p n < _; omega, h1.2.2⟩
def wordList (a : dA) (s : Int) (n : Nat) : List Int := (List.range n).map (fun (i : Nat) => word a i s)
theorem wordList_len (a : dA) (s : Int) (n : Nat) : (wordList a s n).length = n := by unfold wordList; rw [List.length_map, List.length_range]
theorem wordList_succ (a : dA) (s : Int) (n : Nat) : wordList a s n ++ [word a n s] = wordList a s (n + 1) := by unfold wordList; rw [List.range_succ, List.map_append]; rfl
theorem wordList_at (a : dA) (s : Int) {i n : Nat} (h : i < n) : nth (wordList a s n) i 0 = word a i s := by
  unfold wordList
  rw [nth_nat, getD_get (by rw [List.length_map, List.length_range]; exact h)]; simp
/-- a stripe's words -/
def words (a : dA) (s : Int) : List Int × Bool :=
  bif miss2 (fun (i : Nat) => wordOk a i s) a.2.1.1.toNat then ([], false)
  else bif leb 0 (missAt (fun (i : Nat) => wordOk a i s) a.2.1.1.toNat) then ((wordList a s a.2.1.1.toNat).set (missAt (fun (i : Nat) => wordOk a i s) a.2.1.1.toNat).toNat (xorOf (wordList a s a.2.1.1.toNat)), true)
  else (wordList a s a.2.1.1.toNat, true)
theorem words_len {a : dA} {s : Int} (h : (words a s).2 = true) : (words a s).1.length = a.2.1.1.toNat := by
  unfold words at h ⊢
  cases h1 : miss2 (fun (i : Nat) => wordOk a i s) a.2.1.1.toNat
  · cases leb 0 (missAt (fun (i : Nat) => wordOk a i s) a.2.1.1.toNat)
    · exact wordList_len _ _ _
    · simp only [cond_false, cond_true, List.length_set]; exact wordList_len _ _ _
  · rw [h1] at h; cases h
theorem miss_word (a : dA) (s : Int) (n : Nat) (h : leb 0 (missAt (fun (i : Nat) => wordOk a i s) n) = true) : inb (missAt (fun (i : Nat) => wordOk a i s) n) (wordList a s n).length = true ∧ missWord (wordList a s n) (missAt (fun (i : Nat) => wordOk a i s) n) = xorOf (wordList a s n) := by
  rcases missAt_in (fun (i : Nat) => wordOk a i s) n with h1 | h1
  · rw [h1] at h; cases h
  · have h2 : inb (missAt (fun (i : Nat) => wordOk a i s) n) (wordList a s n).length = true := by rw [wordList_len, inb_iff]; exact ⟨h1.1, h1.2.1⟩
    refine ⟨h2, missWord0 h2 ?_⟩
    have h3 := wordList_at a s (show (missAt (fun (i : Nat) => wordOk a i s) n).toNat < n by omega)
    rw [show (((missAt (fun (i : Nat) => wordOk a i s) n).toNat : Nat) : Int) = missAt (fun (i : Nat) => wordOk a i s) n by omega] at h3
    rw [h3]
    unfold word
    have h4 : wordOk a (missAt (fun (i : Nat) => wordOk a i s) n) s = false := by
      have := h1.2.2
      have this : wordOk a ((missAt (fun (i : Nat) => wordOk a i s) n).toNat : Nat) s = false := h1.2.2
      rwa [show (((missAt (fun (i : Nat) => wordOk a i s) n).toNat : Nat) : Int) = missAt (fun (i : Nat) => wordOk a i s) n by omega] at this
    rw [h4]; rfl
noncomputable def dataA (a : dA) (s : Int) : List Int × Bool := bif (words a s).2 then ((List.range (a.2.1.1 - 1).toNat).map (fun (i : Nat) => nth (words a s).1 (diskOf a.2.1 s i) 0), true) else ([], false)
noncomputable def dataOf (a : dA) (s : Int) : List Int × Bool := bif arrOk a && (!a.2.2.2.2.2.2.2.2.2.2.2 && strOk a.2.1 s) then dataA a s else ([], false)
theorem dataA_len (a : dA) (s : Int) : (dataA a s).1.length ≤ (a.2.1.1 - 1).toNat := by
  unfold dataA
  cases (words a s).2
  · exact Nat.zero_le _
  · simp
noncomputable def durable (a : dA) : List Int := bif arrOk a && (List.range a.2.1.2.toNat).all (fun (s : Nat) => (dataOf a s).2) then (List.range a.2.1.2.toNat).flatMap (fun (s : Nat) => (dataOf a s).1) else []
end

/-! spec_l1Word -/
section
noncomputable def B_spec_l1Word : Code := (Try.f197.body).getD .skip
noncomputable def E_spec_l1Word : Env := envOf TT [(82, con_spec_l1In)] []
theorem fr_spec_l1Word_0 : FrOk Try.prog ⟨E_spec_l1Word, 5, fun _ => none⟩ B_spec_l1Word := frOk_base mixed tt_ok ⟨ok_spec_l1In, trivial⟩
noncomputable def D_spec_l1Word_0 : Nat → Option Seg := fun _ => none
abbrev I_spec_l1Word : List Par := [.rd tI]
abbrev U_spec_l1Word : List OT := [⟨false, tB, .fz⟩]
noncomputable def raw_spec_l1Word (a0 : Int) : Option (ResD U_spec_l1Word × MutD I_spec_l1Word) :=
  let r1 := n_spec_l1In a0 0 65535
  some ((r1, ()), ())
theorem e_spec_l1Word (x : InD I_spec_l1Word) : execF ⟨E_spec_l1Word, 5, D_spec_l1Word_0⟩ Try.f197.results.toList B_spec_l1Word I_spec_l1Word U_spec_l1Word x = raw_spec_l1Word x.1 := by kernel_rfl
theorem ok0_spec_l1Word : ConOk Try.prog 197 ⟨I_spec_l1Word, U_spec_l1Word, fun x => raw_spec_l1Word x.1⟩ := conOk_exec (fr_spec_l1Word_0) Try.func197 (by kernel_rfl) (by kernel_rfl) Try.ntmps197.symm (by decide) (fun x r h => (e_spec_l1Word x).trans h)
noncomputable def n_spec_l1Word (a0 : Int) : Bool :=
  let r1 := n_spec_l1In a0 0 65535
  r1
noncomputable def con_spec_l1Word : Con := ⟨I_spec_l1Word, U_spec_l1Word, fun x => (fun n => some ((n, ()), ())) (n_spec_l1Word x.1)⟩
theorem nn_spec_l1Word (a0 : Int) : raw_spec_l1Word a0 = (fun n => some ((n, ()), ())) (n_spec_l1Word a0) := bif_ty (p := fun (n : Bool) => ((n, ()), ())) rfl
theorem ok_spec_l1Word : ConOk Try.prog 197 con_spec_l1Word := (ok0_spec_l1Word).mono (fun x r _ h => (nn_spec_l1Word x.1).trans h)
end

/-! spec_l1Words -/
section
noncomputable def B_spec_l1Words : Code := (Try.f176.body).getD .skip
noncomputable def E_spec_l1Words : Env := envOf TT [(197, con_spec_l1Word)] []
theorem fr_spec_l1Words_0 : FrOk Try.prog ⟨E_spec_l1Words, 16, fun _ => none⟩ B_spec_l1Words := frOk_base mixed tt_ok ⟨ok_spec_l1Word, trivial⟩
noncomputable def D_spec_l1Words_0 : Nat → Option Seg := fun _ => none
def L_spec_l1Words_13 : Shape := ⟨[(0, false, [.br tI]), (3, false, [.int .i64])], [], []⟩
def S_spec_l1Words_13 : Shape := ⟨[(0, false, [.br tI]), (3, false, [.ci .i64 0])], [], []⟩
def O_spec_l1Words_13 : Shape := ⟨[], [], []⟩
def Z_spec_l1Words_13 : Shape := ⟨[(2, false, [.bool])], [], []⟩
noncomputable def st_spec_l1Words_13 (v0 : List Int) (v1 : Int) : Option ((L_spec_l1Words_13).X ⊕ ((O_spec_l1Words_13).X ⊕ (Z_spec_l1Words_13).X)) :=
  bif (ltb v1 (v0.length : Int)) then
    bif (inb v1 v0.length) then
      let r2 := n_spec_l1Word (nth v0 v1 0)
      bif (!r2) then
        some (.inr (.inr (((false, ()), ()), (), ())))
      else
        some (.inl (((v0, ()), ((IntKind.i64.wrap (v1 + 1)), ()), ()), (), ()))
    else none
  else
    some (.inr (.inl ((), (), ())))
noncomputable def stx_spec_l1Words_13 (x : (L_spec_l1Words_13).X) := st_spec_l1Words_13 x.1.1.1 x.1.2.1.1
def em_spec_l1Words_13 (x : (S_spec_l1Words_13).X) : (L_spec_l1Words_13).X := (((x.1.1.1, ()), (0, ()), ()), (), ())
noncomputable def c_spec_l1Words_13 : Code := (subN B_spec_l1Words 64 52).getD .skip
theorem a_spec_l1Words_13 : subN B_spec_l1Words 64 13 = some (.block 0 (.loop c_spec_l1Words_13)) := by kernel_rfl
theorem r_spec_l1Words_13 (x : (L_spec_l1Words_13).X) : roundT ⟨E_spec_l1Words, 16, D_spec_l1Words_0⟩ 0 c_spec_l1Words_13 52 L_spec_l1Words_13 O_spec_l1Words_13 Z_spec_l1Words_13 x = stx_spec_l1Words_13 x := by kernel_rfl
noncomputable def fu_spec_l1Words_13 (x : (S_spec_l1Words_13).X) : Nat := (fun (u0 : List Int) => 18446744073709551616) x.1.1.1
noncomputable def F_spec_l1Words_13 (x : (S_spec_l1Words_13).X) : Option ((O_spec_l1Words_13).X ⊕ (Z_spec_l1Words_13).X) := loopN stx_spec_l1Words_13 (fu_spec_l1Words_13 x) (em_spec_l1Words_13 x)
noncomputable def sg_spec_l1Words_13 : Seg := ⟨S_spec_l1Words_13, O_spec_l1Words_13, Z_spec_l1Words_13, F_spec_l1Words_13⟩
noncomputable def D_spec_l1Words_1 : Nat → Option Seg := fun q => bif Nat.beq q 13 then some sg_spec_l1Words_13 else D_spec_l1Words_0 q
theorem fr_spec_l1Words_1 : FrOk Try.prog ⟨E_spec_l1Words, 16, D_spec_l1Words_1⟩ B_spec_l1Words := (fr_spec_l1Words_0).loop (sg := sg_spec_l1Words_13) L_spec_l1Words_13 em_spec_l1Words_13 (by decide) a_spec_l1Words_13 stx_spec_l1Words_13 fu_spec_l1Words_13 (by decide) (fun _ => rfl) (fun x r _ h => h) r_spec_l1Words_13
abbrev I_spec_l1Words : List Par := [.rd tL]
abbrev U_spec_l1Words : List OT := [⟨false, tB, .fz⟩]
noncomputable def raw_spec_l1Words (a0 : List Int) : Option (ResD U_spec_l1Words × MutD I_spec_l1Words) :=
  segM (F_spec_l1Words_13 (((a0, ()), ((), ()), ()), (), ())) (fun y2 =>
    some ((true, ()), ())) (fun y2 =>
    some ((y2.1.1.1, ()), ()))
theorem e_spec_l1Words (x : InD I_spec_l1Words) : execF ⟨E_spec_l1Words, 16, D_spec_l1Words_1⟩ Try.f176.results.toList B_spec_l1Words I_spec_l1Words U_spec_l1Words x = raw_spec_l1Words x.1 := by kernel_rfl
theorem ok0_spec_l1Words : ConOk Try.prog 176 ⟨I_spec_l1Words, U_spec_l1Words, fun x => raw_spec_l1Words x.1⟩ := conOk_exec (fr_spec_l1Words_1) Try.func176 (by kernel_rfl) (by kernel_rfl) Try.ntmps176.symm (by decide) (fun x r h => (e_spec_l1Words x).trans h)
noncomputable def n_spec_l1Words (a0 : List Int) : Bool := a0.all n_spec_l1Word
theorem nn_spec_l1Words (a0 : List Int) (hk : InOk I_spec_l1Words (a0, ())) : raw_spec_l1Words a0 = (fun n => some ((n, ()), ())) (n_spec_l1Words a0) := by
  have hb : a0.length * 8 ≤ 2 ^ 47 := hk.1.1
  have hl : F_spec_l1Words_13 (((a0, ()), ((), ()), ()), (), ()) = some (bif a0.all n_spec_l1Word then .inl ((), (), ()) else .inr (((false, ()), ()), (), ())) :=
    loopN_list_all (step := stx_spec_l1Words_13) a0 0 (fun i => (((a0, ()), ((i : Int), ()), ()), (), ())) n_spec_l1Word _ _ (fun i hi => by
      simp only [stx_spec_l1Words_13, st_spec_l1Words_13, inb_nat hi, nth_nat, ltb_t (show (i : Int) < a0.length by omega), cond_true, wr (show -9223372036854775808 ≤ (i : Int) + 1 by omega) (by omega), Int.natCast_add, Int.natCast_one]
      cases n_spec_l1Word (a0.getD i 0) <;> rfl) (by simp only [stx_spec_l1Words_13, st_spec_l1Words_13, ltb_f (Int.le_refl _), cond_false]) _ (by show _ < 18446744073709551616; omega)
  unfold raw_spec_l1Words n_spec_l1Words
  rw [hl]
  cases a0.all n_spec_l1Word <;> rfl
noncomputable def con_spec_l1Words : Con := ⟨I_spec_l1Words, U_spec_l1Words, fun x => (fun n => some ((n, ()), ())) (n_spec_l1Words x.1)⟩
theorem ok_spec_l1Words : ConOk Try.prog 176 con_spec_l1Words := (ok0_spec_l1Words).mono (fun x r hk h => (nn_spec_l1Words x.1 hk).trans h)
end

/-! spec_SecOk -/
section
noncomputable def B_spec_SecOk : Code := (Try.f172.body).getD .skip
noncomputable def E_spec_SecOk : Env := envOf TT [(176, con_spec_l1Words)] []
theorem fr_spec_SecOk_0 : FrOk Try.prog ⟨E_spec_SecOk, 10, fun _ => none⟩ B_spec_SecOk := frOk_base mixed tt_ok ⟨ok_spec_l1Words, trivial⟩
noncomputable def D_spec_SecOk_0 : Nat → Option Seg := fun _ => none
abbrev I_spec_SecOk : List Par := [.rd tL]
abbrev U_spec_SecOk : List OT := [⟨false, tB, .fz⟩]
noncomputable def raw_spec_SecOk (a0 : List Int) : Option (ResD U_spec_SecOk × MutD I_spec_SecOk) :=
  bif (leb (a0.length : Int) 12) then
    let r1 := n_spec_l1Words a0
    some ((r1, ()), ())
  else
    some ((false, ()), ())
theorem e_spec_SecOk (x : InD I_spec_SecOk) : execF ⟨E_spec_SecOk, 10, D_spec_SecOk_0⟩ Try.f172.results.toList B_spec_SecOk I_spec_SecOk U_spec_SecOk x = raw_spec_SecOk x.1 := by kernel_rfl
theorem ok0_spec_SecOk : ConOk Try.prog 172 ⟨I_spec_SecOk, U_spec_SecOk, fun x => raw_spec_SecOk x.1⟩ := conOk_exec (fr_spec_SecOk_0) Try.func172 (by kernel_rfl) (by kernel_rfl) Try.ntmps172.symm (by decide) (fun x r h => (e_spec_SecOk x).trans h)
noncomputable def n_spec_SecOk (a0 : List Int) : Bool :=
  bif (leb (a0.length : Int) 12) then
    let r1 := n_spec_l1Words a0
    r1
  else
    false
noncomputable def con_spec_SecOk : Con := ⟨I_spec_SecOk, U_spec_SecOk, fun x => (fun n => some ((n, ()), ())) (n_spec_SecOk x.1)⟩
theorem nn_spec_SecOk (a0 : List Int) : raw_spec_SecOk a0 = (fun n => some ((n, ()), ())) (n_spec_SecOk a0) := bif_ty (p := fun (n : Bool) => ((n, ()), ())) (bif_some (p := fun (n : Bool) => ((n, ()), ())) rfl rfl)
theorem ok_spec_SecOk : ConOk Try.prog 172 con_spec_SecOk := (ok0_spec_SecOk).mono (fun x r _ h => (nn_spec_SecOk x.1).trans h)
theorem spec_sec_eq : n_spec_SecOk = secOk := funext fun s => by
  unfold n_spec_SecOk secOk n_spec_l1Words
  rw [show n_spec_l1Word = isW from funext fun x => by unfold n_spec_l1Word; rw [in_eq]; rfl]
  cases leb (s.length : Int) 12 <;> rfl
end

/-! spec_MemOk -/
section
noncomputable def B_spec_MemOk : Code := (Try.f133.body).getD .skip
noncomputable def E_spec_MemOk : Env := envOf TT [(82, con_spec_l1In), (172, con_spec_SecOk)] []
theorem fr_spec_MemOk_0 : FrOk Try.prog ⟨E_spec_MemOk, 91, fun _ => none⟩ B_spec_MemOk := frOk_base mixed tt_ok ⟨ok_spec_l1In, ok_spec_SecOk, trivial⟩
noncomputable def D_spec_MemOk_0 : Nat → Option Seg := fun _ => none
def L_spec_MemOk_29 : Shape := ⟨[(1, false, [.ptr 0 0]), (3, false, [.int .i64]), (4, false, [.int .i64])], [(0, [.br tL, .br tW, .bool, .br tI])], []⟩
def S_spec_MemOk_29 : Shape := ⟨[(1, false, [.ptr 0 0]), (3, false, [.int .i64]), (4, false, [.ci .i64 0])], [(0, [.br tL, .br tW, .bool, .br tI])], []⟩
def O_spec_MemOk_29 : Shape := ⟨[(1, false, [.ptr 0 0]), (3, false, [.int .i64])], [(0, [.br tL, .br tW, .bool, .br tI])], []⟩
def Z_spec_MemOk_29 : Shape := ⟨[(2, false, [.bool])], [], []⟩
abbrev mk_spec_MemOk_29 (v0 : Int) (v1 : Int) (v2 : dM) : (L_spec_MemOk_29).X := ((((), ()), (v0, ()), (v1, ()), ()), ((v2.1, v2.2.1, v2.2.2.1, v2.2.2.2, ()), ()), ())
abbrev ms_spec_MemOk_29 (v0 : Int) (v1 : dM) : (S_spec_MemOk_29).X := ((((), ()), (v0, ()), ((), ()), ()), ((v1.1, v1.2.1, v1.2.2.1, v1.2.2.2, ()), ()), ())
abbrev mo_spec_MemOk_29 (v0 : Int) (v1 : dM) : (O_spec_MemOk_29).X := ((((), ()), (v0, ()), ()), ((v1.1, v1.2.1, v1.2.2.1, v1.2.2.2, ()), ()), ())
abbrev mz_spec_MemOk_29 (v0 : Bool) : (Z_spec_MemOk_29).X := (((v0, ()), ()), (), ())
noncomputable def st_spec_MemOk_29 (v0 : Int) (v1 : Int) (v2 : List (List Int)) (v3 : List dW) (v4 : Bool) (v5 : List Int) : Option ((L_spec_MemOk_29).X ⊕ ((O_spec_MemOk_29).X ⊕ (Z_spec_MemOk_29).X)) :=
  bif (ltb v1 v0) then
    bif (inb v1 v2.length) then
      let r2 := n_spec_SecOk (nth v2 v1 [])
      bif (!r2) then
        some (.inr (.inr (((false, ()), ()), (), ())))
      else
        some (.inl ((((), ()), (v0, ()), ((IntKind.i64.wrap (v1 + 1)), ()), ()), ((v2, v3, v4, v5, ()), ()), ()))
    else none
  else
    some (.inr (.inl ((((), ()), (v0, ()), ()), ((v2, v3, v4, v5, ()), ()), ())))
noncomputable def stx_spec_MemOk_29 (x : (L_spec_MemOk_29).X) := st_spec_MemOk_29 x.1.2.1.1 x.1.2.2.1.1 x.2.1.1.1 x.2.1.1.2.1 x.2.1.1.2.2.1 x.2.1.1.2.2.2.1
def em_spec_MemOk_29 (x : (S_spec_MemOk_29).X) : (L_spec_MemOk_29).X := ((((), ()), (x.1.2.1.1, ()), (0, ()), ()), ((x.2.1.1.1, x.2.1.1.2.1, x.2.1.1.2.2.1, x.2.1.1.2.2.2.1, ()), ()), ())
noncomputable def c_spec_MemOk_29 : Code := (subN B_spec_MemOk 64 116).getD .skip
theorem a_spec_MemOk_29 : subN B_spec_MemOk 64 29 = some (.block 0 (.loop c_spec_MemOk_29)) := by kernel_rfl
theorem r_spec_MemOk_29 (x : (L_spec_MemOk_29).X) : roundT ⟨E_spec_MemOk, 91, D_spec_MemOk_0⟩ 0 c_spec_MemOk_29 116 L_spec_MemOk_29 O_spec_MemOk_29 Z_spec_MemOk_29 x = stx_spec_MemOk_29 x := by kernel_rfl
noncomputable def fu_spec_MemOk_29 (x : (S_spec_MemOk_29).X) : Nat := (fun (u0 : Int) (u1 : List (List Int)) (u2 : List dW) (u3 : Bool) (u4 : List Int) => 18446744073709551616) x.1.2.1.1 x.2.1.1.1 x.2.1.1.2.1 x.2.1.1.2.2.1 x.2.1.1.2.2.2.1
noncomputable def F_spec_MemOk_29 (x : (S_spec_MemOk_29).X) : Option ((O_spec_MemOk_29).X ⊕ (Z_spec_MemOk_29).X) := loopN stx_spec_MemOk_29 (fu_spec_MemOk_29 x) (em_spec_MemOk_29 x)
noncomputable def sg_spec_MemOk_29 : Seg := ⟨S_spec_MemOk_29, O_spec_MemOk_29, Z_spec_MemOk_29, F_spec_MemOk_29⟩
noncomputable def D_spec_MemOk_1 : Nat → Option Seg := fun q => bif Nat.beq q 29 then some sg_spec_MemOk_29 else D_spec_MemOk_0 q
theorem fr_spec_MemOk_1 : FrOk Try.prog ⟨E_spec_MemOk, 91, D_spec_MemOk_1⟩ B_spec_MemOk := (fr_spec_MemOk_0).loop (sg := sg_spec_MemOk_29) L_spec_MemOk_29 em_spec_MemOk_29 (by decide) a_spec_MemOk_29 stx_spec_MemOk_29 fu_spec_MemOk_29 (by decide) (fun _ => rfl) (fun x r _ h => h) r_spec_MemOk_29
def L_spec_MemOk_61 : Shape := ⟨[(1, false, [.ptr 0 0]), (3, false, [.int .i64]), (5, false, [.int .i64])], [(0, [.br tL, .br tW, .bool, .br tI])], []⟩
def S_spec_MemOk_61 : Shape := ⟨[(1, false, [.ptr 0 0]), (3, false, [.int .i64]), (5, false, [.ci .i64 0])], [(0, [.br tL, .br tW, .bool, .br tI])], []⟩
def O_spec_MemOk_61 : Shape := ⟨[(1, false, [.ptr 0 0]), (3, false, [.int .i64])], [(0, [.br tL, .br tW, .bool, .br tI])], []⟩
def Z_spec_MemOk_61 : Shape := ⟨[(2, false, [.bool])], [], []⟩
abbrev mk_spec_MemOk_61 (v0 : Int) (v1 : Int) (v2 : dM) : (L_spec_MemOk_61).X := ((((), ()), (v0, ()), (v1, ()), ()), ((v2.1, v2.2.1, v2.2.2.1, v2.2.2.2, ()), ()), ())
abbrev ms_spec_MemOk_61 (v0 : Int) (v1 : dM) : (S_spec_MemOk_61).X := ((((), ()), (v0, ()), ((), ()), ()), ((v1.1, v1.2.1, v1.2.2.1, v1.2.2.2, ()), ()), ())
abbrev mo_spec_MemOk_61 (v0 : Int) (v1 : dM) : (O_spec_MemOk_61).X := ((((), ()), (v0, ()), ()), ((v1.1, v1.2.1, v1.2.2.1, v1.2.2.2, ()), ()), ())
abbrev mz_spec_MemOk_61 (v0 : Bool) : (Z_spec_MemOk_61).X := (((v0, ()), ()), (), ())
noncomputable def st_spec_MemOk_61 (v0 : Int) (v1 : Int) (v2 : List (List Int)) (v3 : List dW) (v4 : Bool) (v5 : List Int) : Option ((L_spec_MemOk_61).X ⊕ ((O_spec_MemOk_61).X ⊕ (Z_spec_MemOk_61).X)) :=
  bif (ltb v1 (v3.length : Int)) then
    bif (inb v1 v3.length) then
      let r6 := n_spec_l1In ((nth v3 v1 (0, [])).1) 0 (IntKind.i64.wrap (v0 - 1))
      bif (!(!r6)) then
        bif (inb v1 v3.length) then
          let r7 := n_spec_SecOk ((nth v3 v1 (0, [])).2)
          bif (!r7) then
            some (.inr (.inr (((false, ()), ()), (), ())))
          else
            some (.inl ((((), ()), (v0, ()), ((IntKind.i64.wrap (v1 + 1)), ()), ()), ((v2, v3, v4, v5, ()), ()), ()))
        else none
      else
        some (.inr (.inr (((false, ()), ()), (), ())))
    else none
  else
    some (.inr (.inl ((((), ()), (v0, ()), ()), ((v2, v3, v4, v5, ()), ()), ())))
noncomputable def stx_spec_MemOk_61 (x : (L_spec_MemOk_61).X) := st_spec_MemOk_61 x.1.2.1.1 x.1.2.2.1.1 x.2.1.1.1 x.2.1.1.2.1 x.2.1.1.2.2.1 x.2.1.1.2.2.2.1
def em_spec_MemOk_61 (x : (S_spec_MemOk_61).X) : (L_spec_MemOk_61).X := ((((), ()), (x.1.2.1.1, ()), (0, ()), ()), ((x.2.1.1.1, x.2.1.1.2.1, x.2.1.1.2.2.1, x.2.1.1.2.2.2.1, ()), ()), ())
noncomputable def c_spec_MemOk_61 : Code := (subN B_spec_MemOk 64 244).getD .skip
theorem a_spec_MemOk_61 : subN B_spec_MemOk 64 61 = some (.block 2 (.loop c_spec_MemOk_61)) := by kernel_rfl
theorem r_spec_MemOk_61 (x : (L_spec_MemOk_61).X) : roundT ⟨E_spec_MemOk, 91, D_spec_MemOk_1⟩ 2 c_spec_MemOk_61 244 L_spec_MemOk_61 O_spec_MemOk_61 Z_spec_MemOk_61 x = stx_spec_MemOk_61 x := by kernel_rfl
noncomputable def fu_spec_MemOk_61 (x : (S_spec_MemOk_61).X) : Nat := (fun (u0 : Int) (u1 : List (List Int)) (u2 : List dW) (u3 : Bool) (u4 : List Int) => 18446744073709551616) x.1.2.1.1 x.2.1.1.1 x.2.1.1.2.1 x.2.1.1.2.2.1 x.2.1.1.2.2.2.1
noncomputable def F_spec_MemOk_61 (x : (S_spec_MemOk_61).X) : Option ((O_spec_MemOk_61).X ⊕ (Z_spec_MemOk_61).X) := loopN stx_spec_MemOk_61 (fu_spec_MemOk_61 x) (em_spec_MemOk_61 x)
noncomputable def sg_spec_MemOk_61 : Seg := ⟨S_spec_MemOk_61, O_spec_MemOk_61, Z_spec_MemOk_61, F_spec_MemOk_61⟩
noncomputable def D_spec_MemOk_2 : Nat → Option Seg := fun q => bif Nat.beq q 61 then some sg_spec_MemOk_61 else D_spec_MemOk_1 q
theorem fr_spec_MemOk_2 : FrOk Try.prog ⟨E_spec_MemOk, 91, D_spec_MemOk_2⟩ B_spec_MemOk := (fr_spec_MemOk_1).loop (sg := sg_spec_MemOk_61) L_spec_MemOk_61 em_spec_MemOk_61 (by decide) a_spec_MemOk_61 stx_spec_MemOk_61 fu_spec_MemOk_61 (by decide) (fun _ => rfl) (fun x r _ h => h) r_spec_MemOk_61
def L_spec_MemOk_125 : Shape := ⟨[(1, false, [.ptr 0 0]), (3, false, [.int .i64]), (6, false, [.int .i64])], [(0, [.br tL, .br tW, .bool, .br tI])], []⟩
def S_spec_MemOk_125 : Shape := ⟨[(1, false, [.ptr 0 0]), (3, false, [.int .i64]), (6, false, [.ci .i64 0])], [(0, [.br tL, .br tW, .bool, .br tI])], []⟩
def O_spec_MemOk_125 : Shape := ⟨[(1, false, [.ptr 0 0]), (3, false, [.int .i64])], [(0, [.br tL, .br tW, .bool, .br tI])], []⟩
def Z_spec_MemOk_125 : Shape := ⟨[(2, false, [.bool])], [], []⟩
abbrev mk_spec_MemOk_125 (v0 : Int) (v1 : Int) (v2 : dM) : (L_spec_MemOk_125).X := ((((), ()), (v0, ()), (v1, ()), ()), ((v2.1, v2.2.1, v2.2.2.1, v2.2.2.2, ()), ()), ())
abbrev ms_spec_MemOk_125 (v0 : Int) (v1 : dM) : (S_spec_MemOk_125).X := ((((), ()), (v0, ()), ((), ()), ()), ((v1.1, v1.2.1, v1.2.2.1, v1.2.2.2, ()), ()), ())
abbrev mo_spec_MemOk_125 (v0 : Int) (v1 : dM) : (O_spec_MemOk_125).X := ((((), ()), (v0, ()), ()), ((v1.1, v1.2.1, v1.2.2.1, v1.2.2.2, ()), ()), ())
abbrev mz_spec_MemOk_125 (v0 : Bool) : (Z_spec_MemOk_125).X := (((v0, ()), ()), (), ())
noncomputable def st_spec_MemOk_125 (v0 : Int) (v1 : Int) (v2 : List (List Int)) (v3 : List dW) (v4 : Bool) (v5 : List Int) : Option ((L_spec_MemOk_125).X ⊕ ((O_spec_MemOk_125).X ⊕ (Z_spec_MemOk_125).X)) :=
  bif (ltb v1 (v5.length : Int)) then
    bif (inb v1 v5.length) then
      let r10 := n_spec_l1In (nth v5 v1 0) 0 (IntKind.i64.wrap (v0 - 1))
      bif (!(!r10)) then
        bif (ltb 0 v1) then
          bif (inb (IntKind.i64.wrap (v1 - 1)) v5.length) then
            bif (inb v1 v5.length) then
              bif (leb (nth v5 v1 0) (nth v5 (IntKind.i64.wrap (v1 - 1)) 0)) then
                some (.inr (.inr (((false, ()), ()), (), ())))
              else
                some (.inl ((((), ()), (v0, ()), ((IntKind.i64.wrap (v1 + 1)), ()), ()), ((v2, v3, v4, v5, ()), ()), ()))
            else none
          else none
        else
          some (.inl ((((), ()), (v0, ()), ((IntKind.i64.wrap (v1 + 1)), ()), ()), ((v2, v3, v4, v5, ()), ()), ()))
      else
        some (.inr (.inr (((false, ()), ()), (), ())))
    else none
  else
    some (.inr (.inl ((((), ()), (v0, ()), ()), ((v2, v3, v4, v5, ()), ()), ())))
noncomputable def stx_spec_MemOk_125 (x : (L_spec_MemOk_125).X) := st_spec_MemOk_125 x.1.2.1.1 x.1.2.2.1.1 x.2.1.1.1 x.2.1.1.2.1 x.2.1.1.2.2.1 x.2.1.1.2.2.2.1
def em_spec_MemOk_125 (x : (S_spec_MemOk_125).X) : (L_spec_MemOk_125).X := ((((), ()), (x.1.2.1.1, ()), (0, ()), ()), ((x.2.1.1.1, x.2.1.1.2.1, x.2.1.1.2.2.1, x.2.1.1.2.2.2.1, ()), ()), ())
noncomputable def c_spec_MemOk_125 : Code := (subN B_spec_MemOk 64 500).getD .skip
theorem a_spec_MemOk_125 : subN B_spec_MemOk 64 125 = some (.block 4 (.loop c_spec_MemOk_125)) := by kernel_rfl
theorem r_spec_MemOk_125 (x : (L_spec_MemOk_125).X) : roundT ⟨E_spec_MemOk, 91, D_spec_MemOk_2⟩ 4 c_spec_MemOk_125 500 L_spec_MemOk_125 O_spec_MemOk_125 Z_spec_MemOk_125 x = stx_spec_MemOk_125 x := by kernel_rfl
noncomputable def fu_spec_MemOk_125 (x : (S_spec_MemOk_125).X) : Nat := (fun (u0 : Int) (u1 : List (List Int)) (u2 : List dW) (u3 : Bool) (u4 : List Int) => 18446744073709551616) x.1.2.1.1 x.2.1.1.1 x.2.1.1.2.1 x.2.1.1.2.2.1 x.2.1.1.2.2.2.1
noncomputable def F_spec_MemOk_125 (x : (S_spec_MemOk_125).X) : Option ((O_spec_MemOk_125).X ⊕ (Z_spec_MemOk_125).X) := loopN stx_spec_MemOk_125 (fu_spec_MemOk_125 x) (em_spec_MemOk_125 x)
noncomputable def sg_spec_MemOk_125 : Seg := ⟨S_spec_MemOk_125, O_spec_MemOk_125, Z_spec_MemOk_125, F_spec_MemOk_125⟩
noncomputable def D_spec_MemOk_3 : Nat → Option Seg := fun q => bif Nat.beq q 125 then some sg_spec_MemOk_125 else D_spec_MemOk_2 q
theorem fr_spec_MemOk_3 : FrOk Try.prog ⟨E_spec_MemOk, 91, D_spec_MemOk_3⟩ B_spec_MemOk := (fr_spec_MemOk_2).loop (sg := sg_spec_MemOk_125) L_spec_MemOk_125 em_spec_MemOk_125 (by decide) a_spec_MemOk_125 stx_spec_MemOk_125 fu_spec_MemOk_125 (by decide) (fun _ => rfl) (fun x r _ h => h) r_spec_MemOk_125
abbrev I_spec_MemOk : List Par := [.rd tM]
abbrev U_spec_MemOk : List OT := [⟨false, tB, .fz⟩]
noncomputable def raw_spec_MemOk (a0 : dM) : Option (ResD U_spec_MemOk × MutD I_spec_MemOk) :=
  segM (F_spec_MemOk_29 ((((), ()), ((a0.1.length : Int), ()), ((), ()), ()), ((a0.1, a0.2.1, a0.2.2.1, a0.2.2.2, ()), ()), ())) (fun y2 =>
    segM (F_spec_MemOk_61 ((((), ()), (y2.1.2.1.1, ()), ((), ()), ()), ((y2.2.1.1.1, y2.2.1.1.2.1, y2.2.1.1.2.2.1, y2.2.1.1.2.2.2.1, ()), ()), ())) (fun y7 =>
      segM (F_spec_MemOk_125 ((((), ()), (y7.1.2.1.1, ()), ((), ()), ()), ((y7.2.1.1.1, y7.2.1.1.2.1, y7.2.1.1.2.2.1, y7.2.1.1.2.2.2.1, ()), ()), ())) (fun y10 =>
        let r12 := n_spec_l1In y10.1.2.1.1 1 20
        bif r12 then
          some (((leb (y10.2.1.1.2.1.length : Int) 60), ()), ())
        else
          some ((false, ()), ())) (fun y10 =>
        some ((y10.1.1.1, ()), ()))) (fun y7 =>
      some ((y7.1.1.1, ()), ()))) (fun y2 =>
    some ((y2.1.1.1, ()), ()))
theorem e_spec_MemOk (x : InD I_spec_MemOk) : execF ⟨E_spec_MemOk, 91, D_spec_MemOk_3⟩ Try.f133.results.toList B_spec_MemOk I_spec_MemOk U_spec_MemOk x = raw_spec_MemOk x.1 := by kernel_rfl
theorem ok0_spec_MemOk : ConOk Try.prog 133 ⟨I_spec_MemOk, U_spec_MemOk, fun x => raw_spec_MemOk x.1⟩ := conOk_exec (fr_spec_MemOk_3) Try.func133 (by kernel_rfl) (by kernel_rfl) Try.ntmps133.symm (by decide) (fun x r h => (e_spec_MemOk x).trans h)
noncomputable def n_spec_MemOk (a0 : dM) : Bool := memOk a0
theorem nn_spec_MemOk (a0 : dM) (hk : InOk I_spec_MemOk (a0, ())) : raw_spec_MemOk a0 = (fun n => some ((n, ()), ())) (n_spec_MemOk a0) := by
  have hb1 : a0.1.length * 24 ≤ 2 ^ 47 := hk.1.1.1
  have hb2 : a0.2.1.length * 32 ≤ 2 ^ 47 := hk.1.2.1.1
  have hb3 : a0.2.2.2.length * 8 ≤ 2 ^ 47 := hk.1.2.2.2.1
  have h1 : F_spec_MemOk_29 (ms_spec_MemOk_29 a0.1.length a0) = some (bif a0.1.all secOk then .inl (mo_spec_MemOk_29 a0.1.length a0) else .inr (mz_spec_MemOk_29 false)) :=
    loopN_list_all (step := stx_spec_MemOk_29) a0.1 [] (fun i => mk_spec_MemOk_29 a0.1.length i a0) secOk _ _ (fun i hi => by
      simp only [stx_spec_MemOk_29, mk_spec_MemOk_29, st_spec_MemOk_29, ltb_t (show (i : Int) < a0.1.length by omega), cond_true, wr (show -9223372036854775808 ≤ (i : Int) + 1 by omega) (by omega), Int.natCast_add, Int.natCast_one, Int.toNat_natCast, inb_nat hi, nth_nat, spec_sec_eq]
      cases secOk (a0.1.getD i []) <;> rfl) (by simp only [stx_spec_MemOk_29, mk_spec_MemOk_29, st_spec_MemOk_29, ltb_f (Int.le_refl _), cond_false]) _ (by show _ < 18446744073709551616; omega)
  have h2 : F_spec_MemOk_61 (ms_spec_MemOk_61 a0.1.length a0) = some (bif a0.2.1.all (wrOk a0.1.length) then .inl (mo_spec_MemOk_61 a0.1.length a0) else .inr (mz_spec_MemOk_61 false)) :=
    loopN_list_all (step := stx_spec_MemOk_61) a0.2.1 (0, []) (fun i => mk_spec_MemOk_61 a0.1.length i a0) (wrOk a0.1.length) _ _ (fun i hi => by
      simp only [stx_spec_MemOk_61, mk_spec_MemOk_61, st_spec_MemOk_61, ltb_t (show (i : Int) < a0.2.1.length by omega), cond_true, wr (show -9223372036854775808 ≤ (i : Int) + 1 by omega) (by omega), Int.natCast_add, Int.natCast_one, Int.toNat_natCast, inb_nat hi, nth_nat, spec_sec_eq, in_len (show a0.1.length ≤ 1152921504606846976 by omega), wrOk]
      cases inb (a0.2.1.getD i (0, [])).1 a0.1.length <;> cases secOk (a0.2.1.getD i (0, [])).2 <;> rfl) (by simp only [stx_spec_MemOk_61, mk_spec_MemOk_61, st_spec_MemOk_61, ltb_f (Int.le_refl _), cond_false]) _ (by show _ < 18446744073709551616; omega)
  have h3 : F_spec_MemOk_125 (ms_spec_MemOk_125 a0.1.length a0) = some (bif (List.range a0.2.2.2.length).any (badAt a0.1.length a0.2.2.2) then .inr (mz_spec_MemOk_125 false) else .inl (mo_spec_MemOk_125 a0.1.length a0)) :=
    loopN_all (step := stx_spec_MemOk_125) (fun i => mk_spec_MemOk_125 a0.1.length i a0) a0.2.2.2.length (badAt a0.1.length a0.2.2.2) _ _ (fun i hi => by
      simp only [stx_spec_MemOk_125, mk_spec_MemOk_125, st_spec_MemOk_125, ltb_t (show (i : Int) < a0.2.2.2.length by omega), cond_true, wr (show -9223372036854775808 ≤ (i : Int) + 1 by omega) (by omega), Int.natCast_add, Int.natCast_one, Int.toNat_natCast, inb_nat hi, nth_nat, in_len (show a0.1.length ≤ 1152921504606846976 by omega), badAt]
      rcases Nat.eq_zero_or_pos i with rfl | h0
      · cases inb (a0.2.2.2.getD 0 0) a0.1.length <;> rfl
      · rw [show IntKind.i64.wrap ((i : Int) - 1) = ((i - 1 : Nat) : Int) by rw [wr (by omega) (by omega)]; omega, inb_nat (show i - 1 < a0.2.2.2.length by omega), nth_nat, ltb_t (show (0 : Int) < i by omega), decide_eq_true h0]
        cases inb (a0.2.2.2.getD i 0) a0.1.length <;> cases leb (a0.2.2.2.getD i 0) (a0.2.2.2.getD (i - 1) 0) <;> rfl) (by simp only [stx_spec_MemOk_125, mk_spec_MemOk_125, st_spec_MemOk_125, ltb_f (Int.le_refl _), cond_false]) _ (by show _ < 18446744073709551616; omega)
  unfold raw_spec_MemOk n_spec_MemOk memOk
  rw [h1]
  cases a0.1.all secOk
  · rfl
  simp only [cond_true, segM_inl, h2]
  cases a0.2.1.all (wrOk a0.1.length)
  · rfl
  simp only [cond_true, segM_inl, h3, badAt_any, in_eq]
  cases badOk a0.1.length a0.2.2.2
  · rfl
  simp only [Bool.not_true, cond_false, segM_inl]
  cases leb 1 (a0.1.length : Int) <;> cases leb (a0.1.length : Int) 20 <;> rfl
noncomputable def con_spec_MemOk : Con := ⟨I_spec_MemOk, U_spec_MemOk, fun x => (fun n => some ((n, ()), ())) (n_spec_MemOk x.1)⟩
theorem ok_spec_MemOk : ConOk Try.prog 133 con_spec_MemOk := (ok0_spec_MemOk).mono (fun x r hk h => (nn_spec_MemOk x.1 hk).trans h)
end

/-! spec_l6Secs -/
section
noncomputable def B_spec_l6Secs : Code := (Try.f175.body).getD .skip
noncomputable def E_spec_l6Secs : Env := envOf TT [] []
theorem fr_spec_l6Secs_0 : FrOk Try.prog ⟨E_spec_l6Secs, 6, fun _ => none⟩ B_spec_l6Secs := frOk_base mixed tt_ok trivial
noncomputable def D_spec_l6Secs_0 : Nat → Option Seg := fun _ => none
abbrev I_spec_l6Secs : List Par := [.rd tG]
abbrev U_spec_l6Secs : List OT := [⟨false, tI, .fz⟩]
noncomputable def raw_spec_l6Secs (a0 : dG) : Option (ResD U_spec_l6Secs × MutD I_spec_l6Secs) :=
  some (((IntKind.i64.wrap (6 + a0.2)), ()), ())
theorem e_spec_l6Secs (x : InD I_spec_l6Secs) : execF ⟨E_spec_l6Secs, 6, D_spec_l6Secs_0⟩ Try.f175.results.toList B_spec_l6Secs I_spec_l6Secs U_spec_l6Secs x = raw_spec_l6Secs x.1 := by kernel_rfl
theorem ok0_spec_l6Secs : ConOk Try.prog 175 ⟨I_spec_l6Secs, U_spec_l6Secs, fun x => raw_spec_l6Secs x.1⟩ := conOk_exec (fr_spec_l6Secs_0) Try.func175 (by kernel_rfl) (by kernel_rfl) Try.ntmps175.symm (by decide) (fun x r h => (e_spec_l6Secs x).trans h)
noncomputable def n_spec_l6Secs (a0 : dG) : Int :=
  (IntKind.i64.wrap (6 + a0.2))
noncomputable def con_spec_l6Secs : Con := ⟨I_spec_l6Secs, U_spec_l6Secs, fun x => (fun n => some ((n, ()), ())) (n_spec_l6Secs x.1)⟩
theorem nn_spec_l6Secs (a0 : dG) : raw_spec_l6Secs a0 = (fun n => some ((n, ()), ())) (n_spec_l6Secs a0) := bif_ty (p := fun (n : Int) => ((n, ()), ())) rfl
theorem ok_spec_l6Secs : ConOk Try.prog 175 con_spec_l6Secs := (ok0_spec_l6Secs).mono (fun x r _ h => (nn_spec_l6Secs x.1).trans h)
end
end Go.Tf
