/- Functions of the program, and what they come to. -/
import Derived.Test.YtgmadfpnljibhaaModelsF6
namespace Go.Tf
open Go.Proofs
set_option synthInstance.maxHeartbeats 400000
set_option synthInstance.maxSize 10000
set_option linter.unusedVariables false
set_option linter.unusedSimpArgs false
set_option maxRecDepth 100000
/-! impl_Clash -/
section
noncomputable def B_impl_Clash : Code := (Try.f22.body).getD .skip
noncomputable def E_impl_Clash : Env := envOf TT [(53, con_impl_SpanOf)] []
theorem fr_impl_Clash_0 : FrOk Try.prog ⟨E_impl_Clash, 30, fun _ => none⟩ B_impl_Clash := frOk_base mixed tt_ok ⟨ok_impl_SpanOf, trivial⟩
noncomputable def D_impl_Clash_0 : Nat → Option Seg := fun _ => none
abbrev I_impl_Clash : List Par := [.rd tG, .rd tC, .rd tC]
abbrev U_impl_Clash : List OT := [⟨false, tB, .fz⟩]
noncomputable def raw_impl_Clash (a0 : dG) (a1 a2 : dC) : Option (ResD U_impl_Clash × MutD I_impl_Clash) :=
  let r1 := n_impl_SpanOf a0 a1
  let r2 := n_impl_SpanOf a0 a2
  some (((ltb (bif (ltb r1.1 r2.1) then r2.1 else r1.1) (bif (ltb r2.2 r1.2) then r2.2 else r1.2)), ()), ())
theorem e_impl_Clash (x : InD I_impl_Clash) : execF ⟨E_impl_Clash, 30, D_impl_Clash_0⟩ Try.f22.results.toList B_impl_Clash I_impl_Clash U_impl_Clash x = raw_impl_Clash x.1 x.2.1 x.2.2.1 := by kernel_rfl
theorem ok0_impl_Clash : ConOk Try.prog 22 ⟨I_impl_Clash, U_impl_Clash, fun x => raw_impl_Clash x.1 x.2.1 x.2.2.1⟩ := conOk_exec (fr_impl_Clash_0) Try.func22 (by kernel_rfl) (by kernel_rfl) Try.ntmps22.symm (by decide) (fun x r h => (e_impl_Clash x).trans h)
noncomputable def n_impl_Clash (a0 : dG) (a1 a2 : dC) : Bool :=
  let r1 := n_impl_SpanOf a0 a1
  let r2 := n_impl_SpanOf a0 a2
  (ltb (bif (ltb r1.1 r2.1) then r2.1 else r1.1) (bif (ltb r2.2 r1.2) then r2.2 else r1.2))
noncomputable def con_impl_Clash : Con := ⟨I_impl_Clash, U_impl_Clash, fun x => (fun n => some ((n, ()), ())) (n_impl_Clash x.1 x.2.1 x.2.2.1)⟩
theorem nn_impl_Clash (a0 : dG) (a1 a2 : dC) : raw_impl_Clash a0 a1 a2 = (fun n => some ((n, ()), ())) (n_impl_Clash a0 a1 a2) := bif_ty (p := fun (n : Bool) => ((n, ()), ())) rfl
theorem ok_impl_Clash : ConOk Try.prog 22 con_impl_Clash := (ok0_impl_Clash).mono (fun x r _ h => (nn_impl_Clash x.1 x.2.1 x.2.2.1).trans h)
theorem clash_iff {g : Int × Int} {a b : Int × Int × Int × Int × List Int} : n_impl_Clash g a b = true ↔ (n_impl_SpanOf g a).1 < (n_impl_SpanOf g a).2 ∧ (n_impl_SpanOf g b).1 < (n_impl_SpanOf g a).2 ∧ (n_impl_SpanOf g a).1 < (n_impl_SpanOf g b).2 ∧ (n_impl_SpanOf g b).1 < (n_impl_SpanOf g b).2 := by
  unfold n_impl_Clash
  simp only
  generalize (n_impl_SpanOf g a).1 = x
  generalize (n_impl_SpanOf g a).2 = y
  generalize (n_impl_SpanOf g b).1 = u
  generalize (n_impl_SpanOf g b).2 = v
  by_cases h1 : x < u <;> by_cases h2 : v < y
  · rw [ltb_t h1, ltb_t h2, bif_t, bif_t, ltb_iff]; omega
  · rw [ltb_t h1, ltb_f (show y ≤ v by omega), bif_t, bif_f, ltb_iff]; omega
  · rw [ltb_f (show u ≤ x by omega), ltb_t h2, bif_t, bif_f, ltb_iff]; omega
  · rw [ltb_f (show u ≤ x by omega), ltb_f (show y ≤ v by omega), bif_f, bif_f, ltb_iff]; omega
theorem patch_get {l m : List Int} {lo : Nat} (h : lo + m.length ≤ l.length) (i : Nat) : (patch l lo m)[i]? = if lo ≤ i ∧ i < lo + m.length then m[i - lo]? else l[i]? := by
  unfold patch
  rcases Nat.lt_or_ge i lo with h1 | h1
  · rw [if_neg (by omega), List.append_assoc, List.getElem?_append_left (by rw [List.length_take]; omega), List.getElem?_take, if_pos h1]
  · rw [List.append_assoc, List.getElem?_append_right (by rw [List.length_take]; omega), List.length_take, Nat.min_eq_left (by omega)]
    rcases Nat.lt_or_ge i (lo + m.length) with h2 | h2
    · rw [if_pos ⟨h1, h2⟩, List.getElem?_append_left (by omega)]
    · rw [if_neg (by omega), List.getElem?_append_right (by omega), List.getElem?_drop]
      congr 1; omega
theorem patch_self {l : List Int} {lo r : Nat} (h : lo + r ≤ l.length) : patch l lo ((l.drop lo).take r) = l := by
  have hl : ((l.drop lo).take r).length = r := by rw [List.length_take, List.length_drop]; omega
  apply List.ext_getElem?
  intro i
  rw [patch_get (by omega), hl]
  split
  · rename_i hi
    rw [List.getElem?_take, if_pos (by omega), List.getElem?_drop, show lo + (i - lo) = i by omega]
  · rfl
theorem set_patch {l : List Int} {lo : Nat} {x : Int} (h : lo < l.length) : l.set lo x = patch l lo [x] := by
  apply List.ext_getElem?
  intro i
  rw [patch_get (by simp only [List.length_cons, List.length_nil]; omega), List.getElem?_set]
  simp only [List.length_cons, List.length_nil]
  by_cases hi : lo = i
  · subst hi; simp [h]
  · rw [if_neg hi, if_neg (by omega)]
/-- what two stretches apart from each other come to -/
theorem patch_apart {l m : List Int} {lo lo2 r2 : Nat} (h : lo + m.length ≤ l.length) (ha : lo + m.length ≤ lo2 ∨ lo2 + r2 ≤ lo) : ((patch l lo m).drop lo2).take r2 = (l.drop lo2).take r2 := by
  apply List.ext_getElem?
  intro i
  rw [List.getElem?_take, List.getElem?_take]
  split
  · rename_i hi
    rw [List.getElem?_drop, List.getElem?_drop, patch_get h, if_neg (by omega)]
  · rfl
theorem patch_comm {l m n : List Int} {lo lo2 : Nat} (h : lo + m.length ≤ l.length) (h2 : lo2 + n.length ≤ l.length) (ha : lo + m.length ≤ lo2 ∨ lo2 + n.length ≤ lo) : patch (patch l lo m) lo2 n = patch (patch l lo2 n) lo m := by
  apply List.ext_getElem?
  intro i
  rw [patch_get (l := patch l lo m) (m := n) (lo := lo2) (by rw [patch_len h]; exact h2), patch_get (l := patch l lo2 n) (m := m) (lo := lo) (by rw [patch_len h2]; exact h), patch_get h, patch_get h2]
  by_cases g1 : lo2 ≤ i ∧ i < lo2 + n.length
  · rw [if_pos g1, if_neg (by omega), if_pos g1]
  · rw [if_neg g1, if_neg g1]
/-- a good command reads and writes its stretch alone -/
structure Acts (g : dG) (c : dC) (lo r : Nat) (fN : List Int → List Int) (fA : List Int → dN) : Prop where
  span : n_impl_SpanOf g c = ((lo : Int), ((lo + r : Nat) : Int))
  fit : (lo + r : Nat) ≤ (n_spec_Blocks g).toNat
  len : ∀ s, s.length = r → (fN s).length = r
  act : ∀ l : List Int, (l.length : Int) = n_spec_Blocks g → pDo g l c = (patch l lo (fN ((l.drop lo).take r)), fA ((l.drop lo).take r))
theorem acts {g : dG} {c : dC} (hg : n_spec_GeoOk g = true) (h : CmdOk g c) (h4 : c.1 ≠ 4) : ∃ lo r fN fA, Acts g c lo r fN fA := by
  have hB := spec_Blocks_le g
  have hr := run_ok h h4
  have hcode := code_ok hg h
  have hcode2 : n_spec_CmdCode g c = 0 := by rw [← code_eq]; exact hcode
  have hspan : n_impl_SpanOf g c = (c.2.2.1, c.2.2.1 + n_impl_runOf c) := by
    unfold n_impl_SpanOf
    rw [hcode]
    simp only [bne_self_eq_false, cond_false]
    rw [show (c.1 == 4) = false from beq_eq_false_iff_ne.2 h4, cond_false, wr (by omega) (by omega)]
  have hdo : ∀ l : List Int, (l.length : Int) = n_spec_Blocks g → pDo g l c = (bif c.1 == 1 then (l, (c.2.1, 0, (l.drop c.2.2.1.toNat).take c.2.2.2.1.toNat))
      else bif c.1 == 6 then (patch l c.2.2.1.toNat (List.replicate c.2.2.2.1.toNat 0), (c.2.1, 0, []))
      else bif c.1 == 5 then (bif nth l c.2.2.1 0 == nth c.2.2.2.2 0 0 then (l.set c.2.2.1.toNat (nth c.2.2.2.2 1 0), (c.2.1, 0, [])) else (l, (c.2.1, 4, [])))
      else (patch l c.2.2.1.toNat c.2.2.2.2, (c.2.1, 0, []))) := fun l hl => by
    unfold pDo
    rw [show ((l.length : Int) != n_spec_Blocks g) = false from bne_eq_false_iff_eq.2 hl, hcode2, show (c.1 == 4) = false from beq_eq_false_iff_ne.2 h4]; rfl
  have hsp : ∀ r : Nat, n_impl_runOf c = (r : Int) → n_impl_SpanOf g c = ((c.2.2.1.toNat : Int), ((c.2.2.1.toNat + r : Nat) : Int)) ∧ c.2.2.1.toNat + r ≤ (n_spec_Blocks g).toNat := fun r he => by
    rw [hspan, he]
    exact ⟨Prod.ext (by show c.2.2.1 = _; omega) (by show c.2.2.1 + (r : Int) = _; omega), by omega⟩
  obtain ⟨op, id, lba, n, v⟩ := c
  obtain ⟨h1, hl, h2, _, h3⟩ := h
  simp only at h1 hl h2 h3 h4 hr hdo hsp
  rcases h3.resolve_left h4 with ⟨p, ⟨rfl | rfl, q, r⟩ | ⟨rfl | rfl, q, r⟩ | ⟨rfl, q, r⟩⟩
  · obtain ⟨e1, e2⟩ := hsp n.toNat (by show n = _; omega)
    refine ⟨lba.toNat, n.toNat, fun s => s, fun s => (id, 0, s), e1, e2, fun s hs => hs, fun l hl => ?_⟩
    rw [hdo l hl, patch_self (by omega)]; rfl
  · obtain ⟨e1, e2⟩ := hsp n.toNat (by show n = _; omega)
    refine ⟨lba.toNat, n.toNat, fun s => List.replicate n.toNat 0, fun s => (id, 0, []), e1, e2, fun s hs => by simp, fun l hl => ?_⟩
    rw [hdo l hl]; rfl
  · obtain ⟨e1, e2⟩ := hsp v.length rfl
    refine ⟨lba.toNat, v.length, fun s => v, fun s => (id, 0, []), e1, e2, fun s hs => rfl, fun l hl => ?_⟩
    rw [hdo l hl]; rfl
  · obtain ⟨e1, e2⟩ := hsp v.length rfl
    refine ⟨lba.toNat, v.length, fun s => v, fun s => (id, 0, []), e1, e2, fun s hs => rfl, fun l hl => ?_⟩
    rw [hdo l hl]; rfl
  · obtain ⟨e1, e2⟩ := hsp 1 rfl
    refine ⟨lba.toNat, 1, fun s => bif s.getD 0 0 == nth v 0 0 then [nth v 1 0] else s, fun s => bif s.getD 0 0 == nth v 0 0 then (id, 0, []) else (id, 4, []), e1, e2, fun s hs => ?_, fun l hl => ?_⟩
    · cases s.getD 0 0 == nth v 0 0
      · exact hs
      · rfl
    · have hlt : lba.toNat < l.length := by omega
      rw [hdo l hl]
      have hn : nth l lba 0 = ((l.drop lba.toNat).take 1).getD 0 0 := by
        unfold nth
        rw [List.getD_eq_getElem?_getD, List.getD_eq_getElem?_getD, List.getElem?_take, if_pos (by omega), List.getElem?_drop, Nat.add_zero]
      show (bif nth l lba 0 == nth v 0 0 then (l.set lba.toNat (nth v 1 0), ((id, 0, []) : dN)) else (l, (id, 4, []))) = _
      rw [hn]
      cases hc : (((l.drop lba.toNat).take 1).getD 0 0 == nth v 0 0)
      · simp only [cond_false]
        rw [patch_self (by omega)]
      · simp only [cond_true]
        rw [set_patch hlt]
/-- two commands that do not clash may change places -/
theorem do_comm {g : dG} {a b : dC} {l : List Int} (hg : n_spec_GeoOk g = true) (ha : CmdOk g a) (hb : CmdOk g b) (hc : n_impl_Clash g a b = false) (hl : (l.length : Int) = n_spec_Blocks g) :
    (pDo g (pDo g l a).1 b).1 = (pDo g (pDo g l b).1 a).1 ∧ (pDo g (pDo g l a).1 b).2 = (pDo g l b).2 ∧ (pDo g (pDo g l b).1 a).2 = (pDo g l a).2 := by
  have sa := span_ok hg ha
  have sb := span_ok hg hb
  have hn : ¬ ((n_impl_SpanOf g a).1 < (n_impl_SpanOf g a).2 ∧ (n_impl_SpanOf g b).1 < (n_impl_SpanOf g a).2 ∧ (n_impl_SpanOf g a).1 < (n_impl_SpanOf g b).2 ∧ (n_impl_SpanOf g b).1 < (n_impl_SpanOf g b).2) := fun h => by
    have := clash_iff.2 (show (n_impl_SpanOf g a).1 < (n_impl_SpanOf g a).2 ∧ _ from h)
    rw [hc] at this; cases this
  have h4a : a.1 ≠ 4 := fun e => by have := sa.2.2.2 e; omega
  have h4b : b.1 ≠ 4 := fun e => by have := sb.2.2.2 e; omega
  obtain ⟨lo, r, fN, fA, A⟩ := acts hg ha h4a
  obtain ⟨lo2, r2, fN2, fA2, B⟩ := acts hg hb h4b
  rw [A.span, B.span] at hn
  rw [A.span] at sa
  rw [B.span] at sb
  simp only at hn sa sb
  have f1 := A.fit
  have f2 := B.fit
  have k1 : ((l.drop lo).take r).length = r := by rw [List.length_take, List.length_drop]; omega
  have k2 : ((l.drop lo2).take r2).length = r2 := by rw [List.length_take, List.length_drop]; omega
  have n1 := A.len _ k1
  have n2 := B.len _ k2
  have p1 : lo + (fN ((l.drop lo).take r)).length ≤ l.length := by omega
  have p2 : lo2 + (fN2 ((l.drop lo2).take r2)).length ≤ l.length := by omega
  have l1 : ((patch l lo (fN ((l.drop lo).take r))).length : Int) = n_spec_Blocks g := by rw [patch_len p1]; exact hl
  have l2 : ((patch l lo2 (fN2 ((l.drop lo2).take r2))).length : Int) = n_spec_Blocks g := by rw [patch_len p2]; exact hl
  rw [A.act l hl, B.act l hl]
  simp only
  rw [B.act _ l1, A.act _ l2, patch_apart p1 (by omega), patch_apart p2 (by omega)]
  exact ⟨patch_comm p1 p2 (by omega), rfl, rfl⟩
theorem fold_acc (g : dG) : ∀ (cs : List dC) (l : List Int) (acc : List dN), cs.foldl (doOne g) (l, acc) = ((cs.foldl (doOne g) (l, [])).1, acc ++ (cs.foldl (doOne g) (l, [])).2)
  | [], l, acc => by simp
  | c :: cs, l, acc => by
    rw [List.foldl_cons, List.foldl_cons]
    show cs.foldl (doOne g) ((pDo g l c).1, acc ++ [(pDo g l c).2]) = ((cs.foldl (doOne g) ((pDo g l c).1, [] ++ [(pDo g l c).2])).1, acc ++ (cs.foldl (doOne g) ((pDo g l c).1, [] ++ [(pDo g l c).2])).2)
    rw [fold_acc g cs _ (acc ++ _), fold_acc g cs _ ([] ++ _)]
    simp
theorem all_split (g : dG) (l : List Int) (cs : List dC) (k : Nat) (h : cs.length ≤ 400) : (doAll g l cs).1 = (doAll g (doAll g l (cs.take k)).1 (cs.drop k)).1 ∧ (doAll g l cs).2 = (doAll g l (cs.take k)).2 ++ (doAll g (doAll g l (cs.take k)).1 (cs.drop k)).2 := by
  unfold doAll
  rw [List.take_of_length_le h, List.take_of_length_le (l := cs.take k) (by rw [List.length_take]; omega), List.take_of_length_le (l := cs.drop k) (by rw [List.length_drop]; omega)]
  have e : cs.foldl (doOne g) (l, []) = (cs.drop k).foldl (doOne g) ((cs.take k).foldl (doOne g) (l, [])) := by rw [← List.foldl_append, List.take_append_drop]
  rw [e]
  generalize (cs.take k).foldl (doOne g) (l, []) = S
  obtain ⟨s, t⟩ := S
  rw [fold_acc g _ s t]
  exact ⟨rfl, rfl⟩
end

/-! spec_Clash -/
section
noncomputable def B_spec_Clash : Code := (Try.f23.body).getD .skip
noncomputable def E_spec_Clash : Env := envOf TT [(54, con_spec_SpanOf)] []
theorem fr_spec_Clash_0 : FrOk Try.prog ⟨E_spec_Clash, 31, fun _ => none⟩ B_spec_Clash := frOk_base mixed tt_ok ⟨ok_spec_SpanOf, trivial⟩
noncomputable def D_spec_Clash_0 : Nat → Option Seg := fun _ => none
abbrev I_spec_Clash : List Par := [.rd tG, .rd tC, .rd tC]
abbrev U_spec_Clash : List OT := [⟨false, tB, .fz⟩]
noncomputable def raw_spec_Clash (a0 : dG) (a1 a2 : dC) : Option (ResD U_spec_Clash × MutD I_spec_Clash) :=
  let r1 := n_spec_SpanOf a0 a1
  let r2 := n_spec_SpanOf a0 a2
  bif (ltb r1.1 r2.2) then
    some (((ltb r2.1 r1.2), ()), ())
  else
    some ((false, ()), ())
theorem e_spec_Clash (x : InD I_spec_Clash) : execF ⟨E_spec_Clash, 31, D_spec_Clash_0⟩ Try.f23.results.toList B_spec_Clash I_spec_Clash U_spec_Clash x = raw_spec_Clash x.1 x.2.1 x.2.2.1 := by kernel_rfl
theorem ok0_spec_Clash : ConOk Try.prog 23 ⟨I_spec_Clash, U_spec_Clash, fun x => raw_spec_Clash x.1 x.2.1 x.2.2.1⟩ := conOk_exec (fr_spec_Clash_0) Try.func23 (by kernel_rfl) (by kernel_rfl) Try.ntmps23.symm (by decide) (fun x r h => (e_spec_Clash x).trans h)
noncomputable def n_spec_Clash (a0 : dG) (a1 a2 : dC) : Bool :=
  let r1 := n_spec_SpanOf a0 a1
  let r2 := n_spec_SpanOf a0 a2
  bif (ltb r1.1 r2.2) then
    (ltb r2.1 r1.2)
  else
    false
noncomputable def con_spec_Clash : Con := ⟨I_spec_Clash, U_spec_Clash, fun x => (fun n => some ((n, ()), ())) (n_spec_Clash x.1 x.2.1 x.2.2.1)⟩
theorem nn_spec_Clash (a0 : dG) (a1 a2 : dC) : raw_spec_Clash a0 a1 a2 = (fun n => some ((n, ()), ())) (n_spec_Clash a0 a1 a2) := bif_ty (p := fun (n : Bool) => ((n, ()), ())) (bif_some (p := fun (n : Bool) => ((n, ()), ())) rfl rfl)
theorem ok_spec_Clash : ConOk Try.prog 23 con_spec_Clash := (ok0_spec_Clash).mono (fun x r _ h => (nn_spec_Clash x.1 x.2.1 x.2.2.1).trans h)
theorem clash_eq (g : dG) (a b : dC) : n_impl_Clash g a b = n_spec_Clash g a b := by
  rw [Bool.eq_iff_iff, clash_iff, span_eq, span_eq]
  unfold n_spec_Clash
  have ha := span_cases g a
  have hb := span_cases g b
  by_cases h : (n_spec_SpanOf g a).1 < (n_spec_SpanOf g b).2
  · simp only [ltb_t h, cond_true, ltb_iff]; omega
  · simp only [ltb_f (Int.not_lt.1 h), cond_false, Bool.false_eq_true, iff_false]
    rintro ⟨_, _, h3, _⟩
    exact h h3
end

/-! impl_Zeros -/
section
noncomputable def B_impl_Zeros : Code := (Try.f24.body).getD .skip
noncomputable def E_impl_Zeros : Env := envOf TT [(55, con_impl_Blocks)] []
theorem fr_impl_Zeros_0 : FrOk Try.prog ⟨E_impl_Zeros, 6, fun _ => none⟩ B_impl_Zeros := frOk_base mixed tt_ok ⟨ok_impl_Blocks, trivial⟩
noncomputable def D_impl_Zeros_0 : Nat → Option Seg := fun _ => none
abbrev I_impl_Zeros : List Par := [.rd tG]
abbrev U_impl_Zeros : List OT := [⟨false, tL, (.ow .fz)⟩]
noncomputable def raw_impl_Zeros (a0 : dG) : Option (ResD U_impl_Zeros × MutD I_impl_Zeros) :=
  let r1 := n_impl_Blocks a0
  bif (mkok r1 8) then
    some (((List.replicate (r1).toNat (0 : Int)), ()), ())
  else none
theorem e_impl_Zeros (x : InD I_impl_Zeros) : execF ⟨E_impl_Zeros, 6, D_impl_Zeros_0⟩ Try.f24.results.toList B_impl_Zeros I_impl_Zeros U_impl_Zeros x = raw_impl_Zeros x.1 := by kernel_rfl
theorem ok0_impl_Zeros : ConOk Try.prog 24 ⟨I_impl_Zeros, U_impl_Zeros, fun x => raw_impl_Zeros x.1⟩ := conOk_exec (fr_impl_Zeros_0) Try.func24 (by kernel_rfl) (by kernel_rfl) Try.ntmps24.symm (by decide) (fun x r h => (e_impl_Zeros x).trans h)
noncomputable def n_impl_Zeros (a0 : Int × Int) : List Int := List.replicate (n_spec_Blocks a0).toNat 0
theorem nn_impl_Zeros (a0 : Int × Int) (hk : InOk I_impl_Zeros (a0, ())) : raw_impl_Zeros a0 = (fun n => some ((n, ()), ())) (n_impl_Zeros a0) := by
  have hb := spec_Blocks_le a0
  unfold raw_impl_Zeros n_impl_Zeros
  simp only [impl_Blocks_eq, show mkok (n_spec_Blocks a0) 8 = true by rw [mkok_iff]; omega, cond_true]
noncomputable def con_impl_Zeros : Con := ⟨I_impl_Zeros, U_impl_Zeros, fun x => (fun n => some ((n, ()), ())) (n_impl_Zeros x.1)⟩
theorem ok_impl_Zeros : ConOk Try.prog 24 con_impl_Zeros := (ok0_impl_Zeros).mono (fun x r hk h => (nn_impl_Zeros x.1 hk).trans h)
end

/-! laws_FnModels -/
section
noncomputable def B_laws_FnModels : Code := (Try.f4.body).getD .skip
noncomputable def E_laws_FnModels : Env := envOf TT [(6, con_laws_big), (16, con_spec_DrawDoCmds), (17, con_impl_DoCmds), (18, con_laws_at), (19, con_laws_sameInts), (20, con_laws_sameAnss), (21, con_spec_DrawCmds), (22, con_impl_Clash), (23, con_spec_Clash), (24, con_impl_Zeros), (25, con_laws_sameAns)] [(57600, .fz), (61696, .fz)]
theorem fr_laws_FnModels_0 : FrOk Try.prog ⟨E_laws_FnModels, 144, fun _ => none⟩ B_laws_FnModels := frOk_base mixed tt_ok ⟨ok_laws_big, ok_spec_DrawDoCmds, ok_impl_DoCmds, ok_laws_at, ok_laws_sameInts, ok_laws_sameAnss, ok_spec_DrawCmds, ok_impl_Clash, ok_spec_Clash, ok_impl_Zeros, ok_laws_sameAns, trivial⟩
noncomputable def D_laws_FnModels_0 : Nat → Option Seg := fun _ => none
abbrev I_laws_FnModels : List Par := [.kp tYs .fz]
abbrev U_laws_FnModels : List OT := [⟨false, tB, .fz⟩]
noncomputable def raw_laws_FnModels (a0 : List Int) : Option (ResD U_laws_FnModels × MutD I_laws_FnModels) :=
  let r1 := n_laws_big a0
  bif r1 then
    some ((true, ()), ())
  else
    bnd (raw_spec_DrawDoCmds a0) fun r2 =>
    let r3 := n_impl_DoCmds r2.1.1 r2.1.2.1 r2.1.2.2.1
    bnd (raw_laws_at a0 2) fun r4 =>
    bif ((IntKind.i64.wrap ((r2.1.2.2.1.length : Int) + 1)) != 0) then
      bif (cutok 0 (r4.1.1.tmod (IntKind.i64.wrap ((r2.1.2.2.1.length : Int) + 1))) r2.1.2.2.1.length) then
        let r5 := n_impl_DoCmds r2.1.1 r2.1.2.1 ((r2.1.2.2.1.drop (0 : Int).toNat).take ((r4.1.1.tmod (IntKind.i64.wrap ((r2.1.2.2.1.length : Int) + 1))) - 0).toNat)
        bif (cutok (r4.1.1.tmod (IntKind.i64.wrap ((r2.1.2.2.1.length : Int) + 1))) (r2.1.2.2.1.length : Int) r2.1.2.2.1.length) then
          let r6 := n_impl_DoCmds r2.1.1 r5.1 ((r2.1.2.2.1.drop ((r4.1.1.tmod (IntKind.i64.wrap ((r2.1.2.2.1.length : Int) + 1)))).toNat).take ((r2.1.2.2.1.length : Int) - (r4.1.1.tmod (IntKind.i64.wrap ((r2.1.2.2.1.length : Int) + 1)))).toNat)
          let r7 := n_laws_sameInts r3.1 r6.1
          bif (!(!r7)) then
            bif (apok ([] : List dN).length r5.2.length 40) then
              bif (apok (([] : List dN) ++ r5.2).length r6.2.length 40) then
                bnd (raw_laws_sameAnss r3.2 ((([] : List dN) ++ r5.2) ++ r6.2)) fun r8 =>
                bif (!(!r8.1.1)) then
                  bif ((r3.2.length : Int) != (r2.1.2.2.1.length : Int)) then
                    some ((false, ()), ())
                  else
                    bnd (raw_spec_DrawCmds a0) fun r9 =>
                    let r10 := n_impl_Clash r9.1.1 r9.1.2.1 r9.1.2.2.1
                    bif r10 then
                      let r11 := n_spec_Clash r9.1.1 r9.1.2.1 r9.1.2.2.1
                      some ((r11, ()), ())
                    else
                      let r12 := n_impl_Zeros r9.1.1
                      let r13 := n_impl_DoCmds r9.1.1 r12 ([r9.1.2.1, r9.1.2.2.1] : List dC)
                      let r14 := n_impl_DoCmds r9.1.1 r12 ([r9.1.2.2.1, r9.1.2.1] : List dC)
                      bif (!((r13.2.length : Int) != 2)) then
                        bif ((r14.2.length : Int) != 2) then
                          some ((false, ()), ())
                        else
                          let r15 := n_laws_sameInts r13.1 r14.1
                          bif r15 then
                            bif (inb 0 r13.2.length) then
                              bif (inb 1 r14.2.length) then
                                let r16 := n_laws_sameAns ((nth r13.2 0 (0, 0, [])).1, ((nth r13.2 0 (0, 0, [])).2)) ((nth r14.2 1 (0, 0, [])).1, ((nth r14.2 1 (0, 0, [])).2))
                                bif r16 then
                                  bif (inb 1 r13.2.length) then
                                    bif (inb 0 r14.2.length) then
                                      let r17 := n_laws_sameAns ((nth r13.2 1 (0, 0, [])).1, ((nth r13.2 1 (0, 0, [])).2)) ((nth r14.2 0 (0, 0, [])).1, ((nth r14.2 0 (0, 0, [])).2))
                                      some ((r17, ()), ())
                                    else none
                                  else none
                                else
                                  some ((false, ()), ())
                              else none
                            else none
                          else
                            some ((false, ()), ())
                      else
                        some ((false, ()), ())
                else
                  some ((false, ()), ())
              else none
            else none
          else
            some ((false, ()), ())
        else none
      else none
    else none
theorem e_laws_FnModels (x : InD I_laws_FnModels) : execF ⟨E_laws_FnModels, 144, D_laws_FnModels_0⟩ Try.f4.results.toList B_laws_FnModels I_laws_FnModels U_laws_FnModels x = raw_laws_FnModels x.1 := by kernel_rfl
theorem ok0_laws_FnModels : ConOk Try.prog 4 ⟨I_laws_FnModels, U_laws_FnModels, fun x => raw_laws_FnModels x.1⟩ := conOk_exec (fr_laws_FnModels_0) Try.func4 (by kernel_rfl) (by kernel_rfl) Try.ntmps4.symm (by decide) (fun x r h => (e_laws_FnModels x).trans h)
noncomputable def n_laws_FnModels (a0 : List Int) : Bool := true
theorem nn_laws_FnModels (a0 : List Int) (hk : InOk I_laws_FnModels (a0, ())) : raw_laws_FnModels a0 = (fun n => some ((n, ()), ())) (n_laws_FnModels a0) := by
  have hb : a0.length ≤ 140737488355328 := by have : a0.length * 1 ≤ 2 ^ 47 := hk.1.1; omega
  obtain ⟨g, l, cs, e1, h1⟩ := dr_DrawDoCmds a0 hb
  obtain ⟨h, p, q, e2, hg, hp, hq⟩ := dr_DrawCmds a0 hb
  obtain ⟨e3, v0, v1⟩ := dr_at (i := 2) hb (code_bytes hk.1) (by omega) (by omega)
  unfold raw_laws_FnModels n_laws_FnModels
  simp only [e1, e3, bnd_some, n_impl_DoCmds]
  generalize atV a0 2 = V at v0 v1
  have hw : IntKind.i64.wrap ((cs.length : Int) + 1) = (cs.length : Int) + 1 := wr (by omega) (by omega)
  have k0 := Int.tmod_nonneg ((cs.length : Int) + 1) v0
  have k1 := Int.tmod_lt_of_pos V (show (0 : Int) < (cs.length : Int) + 1 by omega)
  rw [hw]
  generalize V.tmod ((cs.length : Int) + 1) = K at k0 k1
  obtain ⟨k, rfl⟩ : ∃ k : Nat, K = (k : Int) := ⟨K.toNat, by omega⟩
  have t1 : ((cs.drop (0 : Int).toNat).take ((k : Int) - 0).toNat) = cs.take k := by
    show (cs.drop 0).take _ = _
    rw [List.drop_zero, show ((k : Int) - 0).toNat = k by omega]
  have t2 : ((cs.drop ((k : Int)).toNat).take ((cs.length : Int) - (k : Int)).toNat) = cs.drop k := by
    rw [Int.toNat_natCast, List.take_of_length_le (by rw [List.length_drop]; omega)]
  obtain ⟨s1, s2⟩ := all_split g l cs k (by omega)
  have hlen : ∀ (g : dG) (l : List Int) (cs : List dC), cs.length ≤ 400 → (doAll g l cs).2.length = cs.length := fun g l cs hc => by
    unfold doAll
    rw [List.take_of_length_le hc, (doFold g cs (l, [])).2.1]; simp
  have n1 := hlen g l cs (by omega)
  have n2 := hlen g l (cs.take k) (by rw [List.length_take]; omega)
  have n3 := hlen g (doAll g l (cs.take k)).1 (cs.drop k) (by rw [List.length_drop]; omega)
  rw [List.length_take] at n2
  rw [List.length_drop] at n3
  rw [show ((cs.length : Int) + 1 != 0) = true from bne_iff_ne.2 (by omega), cutok_iff.2 (show (0 : Int) ≤ 0 ∧ 0 ≤ (k : Int) ∧ (k : Int) ≤ (cs.length : Int) by omega), cutok_iff.2 (show 0 ≤ (k : Int) ∧ (k : Int) ≤ (cs.length : Int) ∧ (cs.length : Int) ≤ (cs.length : Int) by omega), t1, t2, List.nil_append,
    apok_iff.2 (by rw [List.length_nil]; omega), apok_iff.2 (by omega), ← s1, ← s2, sameInts_refl, same_anss _ (by omega)]
  simp only [bnd_some, Bool.not_true, Bool.not_false, cond_true, cond_false, n1, bne_self_eq_false, e2]
  cases n_laws_big a0
  · rw [cond_false]
    cases hc : n_impl_Clash h p q
    · have hz : ((n_impl_Zeros h).length : Int) = n_spec_Blocks h := by
        have := (spec_Blocks_le h).1
        unfold n_impl_Zeros
        rw [List.length_replicate]; omega
      obtain ⟨c1, c2, c3⟩ := do_comm hg hp hq hc hz
      generalize n_impl_Zeros h = z at hz c1 c2 c3
      have a1 : doAll h z [p, q] = ((pDo h (pDo h z p).1 q).1, [(pDo h z p).2, (pDo h (pDo h z p).1 q).2]) := rfl
      have a2 : doAll h z [q, p] = ((pDo h (pDo h z q).1 p).1, [(pDo h z q).2, (pDo h (pDo h z q).1 p).2]) := rfl
      rw [cond_false, a1, a2, c1, c2, c3]
      simp only [sameInts_refl, cond_true]
      show (bif n_laws_sameAns (pDo h z p).2 (pDo h z p).2 then some ((n_laws_sameAns (pDo h z q).2 (pDo h z q).2, ()), ()) else some ((false, ()), ())) = (some ((true, ()), ()) : Option (ResD U_laws_FnModels × MutD I_laws_FnModels))
      rw [sameAns_refl, sameAns_refl]; rfl
    · rw [cond_true, ← clash_eq, hc]
  · rfl
noncomputable def con_laws_FnModels : Con := ⟨I_laws_FnModels, U_laws_FnModels, fun x => (fun n => some ((n, ()), ())) (n_laws_FnModels x.1)⟩
theorem ok_laws_FnModels : ConOk Try.prog 4 con_laws_FnModels := (ok0_laws_FnModels).mono (fun x r hk h => (nn_laws_FnModels x.1 hk).trans h)
end
end Go.Tf
