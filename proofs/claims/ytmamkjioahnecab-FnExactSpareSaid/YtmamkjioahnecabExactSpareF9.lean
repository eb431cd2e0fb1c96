/- Functions of the program, and what they come to. -/
import Derived.Test.YtmamkjioahnecabExactSpareF8
namespace Go.Tf
open Go.Proofs
set_option synthInstance.maxHeartbeats 400000
set_option synthInstance.maxSize 10000
set_option linter.unusedVariables false
set_option linter.unusedSimpArgs false
set_option maxRecDepth 100000
/-! spec_SuperOk -/
section
noncomputable def B_spec_SuperOk : Code := (Try.f132.body).getD .skip
noncomputable def E_spec_SuperOk : Env := envOf TT [(35, con_spec_l1In), (65, con_spec_GeoOk)] []
theorem fr_spec_SuperOk_0 : FrOk Try.prog ⟨E_spec_SuperOk, 60, fun _ => none⟩ B_spec_SuperOk := frOk_base mixed tt_ok ⟨ok_spec_l1In, ok_spec_GeoOk, trivial⟩
noncomputable def D_spec_SuperOk_0 : Nat → Option Seg := fun _ => none
abbrev I_spec_SuperOk : List Par := [.rd tS]
abbrev U_spec_SuperOk : List OT := [⟨false, tB, .fz⟩]
noncomputable def raw_spec_SuperOk (a0 : dS) : Option (ResD U_spec_SuperOk × MutD I_spec_SuperOk) :=
  let r1 := n_spec_GeoOk (a0.2.2.2.1, a0.2.2.2.2.1)
  bif (!(!r1)) then
    let r2 := n_spec_l1In a0.1 1 60000
    bif (!(!r2)) then
      let r3 := n_spec_l1In a0.2.1 0 60000
      bif (!(!r3)) then
        let r4 := n_spec_l1In a0.2.2.1 0 (IntKind.i64.wrap (a0.2.2.2.1 - 1))
        bif (!(!r4)) then
          let r5 := n_spec_l1In a0.2.2.2.2.2.1 0 60000
          bif (!r5) then
            some ((false, ()), ())
          else
            let r6 := n_spec_l1In a0.2.2.2.2.2.2.1 (-1) (IntKind.i64.wrap (a0.2.2.2.1 - 1))
            bif r6 then
              let r7 := n_spec_l1In a0.2.2.2.2.2.2.2 0 a0.2.2.2.2.1
              bif r7 then
                bif (!(leb 0 a0.2.2.2.2.2.2.1)) then
                  some (((a0.2.2.2.2.2.2.2 == 0), ()), ())
                else
                  some ((true, ()), ())
              else
                some ((false, ()), ())
            else
              some ((false, ()), ())
        else
          some ((false, ()), ())
      else
        some ((false, ()), ())
    else
      some ((false, ()), ())
  else
    some ((false, ()), ())
theorem e_spec_SuperOk (x : InD I_spec_SuperOk) : execF ⟨E_spec_SuperOk, 60, D_spec_SuperOk_0⟩ Try.f132.results.toList B_spec_SuperOk I_spec_SuperOk U_spec_SuperOk x = raw_spec_SuperOk x.1 := by kernel_rfl
theorem ok0_spec_SuperOk : ConOk Try.prog 132 ⟨I_spec_SuperOk, U_spec_SuperOk, fun x => raw_spec_SuperOk x.1⟩ := conOk_exec (fr_spec_SuperOk_0) Try.func132 (by kernel_rfl) (by kernel_rfl) Try.ntmps132.symm (by decide) (fun x r h => (e_spec_SuperOk x).trans h)
noncomputable def n_spec_SuperOk (a0 : dS) : Bool :=
  let r1 := n_spec_GeoOk (a0.2.2.2.1, a0.2.2.2.2.1)
  bif (!(!r1)) then
    let r2 := n_spec_l1In a0.1 1 60000
    bif (!(!r2)) then
      let r3 := n_spec_l1In a0.2.1 0 60000
      bif (!(!r3)) then
        let r4 := n_spec_l1In a0.2.2.1 0 (IntKind.i64.wrap (a0.2.2.2.1 - 1))
        bif (!(!r4)) then
          let r5 := n_spec_l1In a0.2.2.2.2.2.1 0 60000
          bif (!r5) then
            false
          else
            let r6 := n_spec_l1In a0.2.2.2.2.2.2.1 (-1) (IntKind.i64.wrap (a0.2.2.2.1 - 1))
            bif r6 then
              let r7 := n_spec_l1In a0.2.2.2.2.2.2.2 0 a0.2.2.2.2.1
              bif r7 then
                bif (!(leb 0 a0.2.2.2.2.2.2.1)) then
                  (a0.2.2.2.2.2.2.2 == 0)
                else
                  true
              else
                false
            else
              false
        else
          false
      else
        false
    else
      false
  else
    false
noncomputable def con_spec_SuperOk : Con := ⟨I_spec_SuperOk, U_spec_SuperOk, fun x => (fun n => some ((n, ()), ())) (n_spec_SuperOk x.1)⟩
theorem nn_spec_SuperOk (a0 : dS) : raw_spec_SuperOk a0 = (fun n => some ((n, ()), ())) (n_spec_SuperOk a0) := bif_ty (p := fun (n : Bool) => ((n, ()), ())) (bif_some (p := fun (n : Bool) => ((n, ()), ())) (bif_some (p := fun (n : Bool) => ((n, ()), ())) (bif_some (p := fun (n : Bool) => ((n, ()), ())) (bif_some (p := fun (n : Bool) => ((n, ()), ())) (bif_some (p := fun (n : Bool) => ((n, ()), ())) rfl (bif_some (p := fun (n : Bool) => ((n, ()), ())) (bif_some (p := fun (n : Bool) => ((n, ()), ())) (bif_some (p := fun (n : Bool) => ((n, ()), ())) rfl rfl) rfl) rfl)) rfl) rfl) rfl) rfl)
theorem ok_spec_SuperOk : ConOk Try.prog 132 con_spec_SuperOk := (ok0_spec_SuperOk).mono (fun x r _ h => (nn_spec_SuperOk x.1).trans h)
abbrev noSuper : dS := (0, 0, 0, 0, 0, 0, 0, 0)
theorem superOk_iff {s : dS} : n_spec_SuperOk s = true ↔ n_spec_GeoOk (s.2.2.2.1, s.2.2.2.2.1) = true ∧ (1 ≤ s.1 ∧ s.1 ≤ 60000) ∧ (0 ≤ s.2.1 ∧ s.2.1 ≤ 60000) ∧ (0 ≤ s.2.2.1 ∧ s.2.2.1 ≤ s.2.2.2.1 - 1) ∧ (0 ≤ s.2.2.2.2.2.1 ∧ s.2.2.2.2.2.1 ≤ 60000) ∧ (-1 ≤ s.2.2.2.2.2.2.1 ∧ s.2.2.2.2.2.2.1 ≤ s.2.2.2.1 - 1) ∧ (0 ≤ s.2.2.2.2.2.2.2 ∧ s.2.2.2.2.2.2.2 ≤ s.2.2.2.2.1) ∧ (0 ≤ s.2.2.2.2.2.2.1 ∨ s.2.2.2.2.2.2.2 = 0) := by
  unfold n_spec_SuperOk
  cases hg : n_spec_GeoOk (s.2.2.2.1, s.2.2.2.2.1)
  · simp
  have hg2 := geo_iff.1 hg
  simp only at hg2
  rw [wr (show -9223372036854775808 ≤ s.2.2.2.1 - 1 by omega) (by omega)]
  simp only [Bool.not_not, cond_true, true_and]
  simp only [← in_iff]
  cases n_spec_l1In s.1 1 60000
  · simp
  cases n_spec_l1In s.2.1 0 60000
  · simp
  cases n_spec_l1In s.2.2.1 0 (s.2.2.2.1 - 1)
  · simp
  cases n_spec_l1In s.2.2.2.2.2.1 0 60000
  · simp
  cases n_spec_l1In s.2.2.2.2.2.2.1 (-1) (s.2.2.2.1 - 1)
  · simp
  cases n_spec_l1In s.2.2.2.2.2.2.2 0 s.2.2.2.2.1
  · simp
  cases hl : leb 0 s.2.2.2.2.2.2.1
  · have := mt leb_t (by rw [hl]; simp : ¬ leb 0 s.2.2.2.2.2.2.1 = true)
    simp [this]
  · simp [leb_iff.1 hl]
def superAt (l : List Int) : dS := (nth l 1 0, nth l 2 0, nth l 3 0, nth l 4 0, nth l 5 0, nth l 6 0, IntKind.i64.wrap (nth l 7 0 - 1), nth l 8 0)
noncomputable def getSuper (l : List Int) : dS × Bool := bif (l.length : Int) == 9 && (nth l 0 0 == 21317 && n_spec_SuperOk (superAt l)) then (superAt l, true) else (noSuper, false)
/-- what a sector tells of an array -/
noncomputable def cand (m : dM) (i : Int) : dS := (getSuper (readSec m i).1).1
noncomputable def candOk (m : dM) (id i : Int) : Bool := (readSec m i).2 && ((getSuper (readSec m i).1).2 && ((cand m i).1 == id && (cand m i).2.1.tmod 2 == i))
/-- the better of what is known and a new one -/
def better (b : dS × Bool) (ok : Bool) (s : dS) : dS × Bool := bif ok && (!b.2 || ltb b.1.2.1 s.2.1) then (s, true) else b
noncomputable def bestSuper (m : dM) (id : Int) : dS × Bool := (List.range 2).foldl (fun s (i : Nat) => better s (candOk m id i) (cand m i)) (noSuper, false)
noncomputable def ownOk (m : dM) (i id : Int) : Bool := !m.2.2.1 && ((bestSuper m id).2 && (bestSuper m id).1.2.2.1 == i)
noncomputable def best9 (l : List dM) (id : Int) : dS × Bool := (List.range l.length).foldl (fun s (i : Nat) => better s (ownOk (nth l i noMem) i id) (bestSuper (nth l i noMem) id).1) (noSuper, false)
noncomputable def asmStep (l : List dM) (id : Int) (s : Int × Int × Bool) (i : Nat) : Int × Int × Bool := bif ownOk (nth l i noMem) i id then s else bif s.1 == -1 || s.1 == i then ((i : Int), 0, s.2.2) else (s.1, s.2.1, true)
def asmArr (b : dS) (l : List dM) (id : Int) (s : Int × Int × Bool) : dA := (id, (b.2.2.2.1, b.2.2.2.2.1), l, s.1, s.2.1, b.2.2.2.2.2.1, b.2.2.2.2.2.1, b.2.1, [], -1, false, s.2.2)
noncomputable def asmAll (l : List dM) (id : Int) : dA := asmArr (best9 l id).1 l id ((List.range l.length).foldl (asmStep l id) ((best9 l id).1.2.2.2.2.2.2.1, (best9 l id).1.2.2.2.2.2.2.2, false))
noncomputable def assemble (l : List dM) (id : Int) : dA × Bool := bif (best9 l id).2 && ((l.length : Int) == (best9 l id).1.2.2.2.1 && arrOk (asmAll l id)) then (asmAll l id, true) else (noArr, false)
theorem better_f (b : dS × Bool) (s : dS) : better b false s = b := rfl
theorem readSec_mem {m : dM} {i : Int} (h : (readSec m i).2 = true) : memOk m = true := by
  unfold readSec at h
  cases hc : canRead m i
  · rw [hc] at h; cases h
  · exact (Bool.and_eq_true_iff.1 hc).1
theorem candOk_f {m : dM} {id i : Int} (h : memOk m = false) : candOk m id i = false := by
  unfold candOk
  cases hr : (readSec m i).2
  · rfl
  · rw [readSec_mem hr] at h; cases h
theorem best_mem {m : dM} {id : Int} (h : (bestSuper m id).2 = true) : memOk m = true := by
  cases hm : memOk m
  · unfold bestSuper at h
    simp only [candOk_f hm, better_f] at h
    exact h
  · rfl
end

/-! spec_PutSuper -/
section
noncomputable def B_spec_PutSuper : Code := (Try.f108.body).getD .skip
noncomputable def E_spec_PutSuper : Env := envOf TT [(132, con_spec_SuperOk)] []
theorem fr_spec_PutSuper_0 : FrOk Try.prog ⟨E_spec_PutSuper, 25, fun _ => none⟩ B_spec_PutSuper := frOk_base mixed tt_ok ⟨ok_spec_SuperOk, trivial⟩
noncomputable def D_spec_PutSuper_0 : Nat → Option Seg := fun _ => none
abbrev I_spec_PutSuper : List Par := [.rd tS]
abbrev U_spec_PutSuper : List OT := [⟨false, tL, (.ow .fz)⟩]
noncomputable def raw_spec_PutSuper (a0 : dS) : Option (ResD U_spec_PutSuper × MutD I_spec_PutSuper) :=
  let r1 := n_spec_SuperOk a0
  bif (!r1) then
    some ((([] : List Int), ()), ())
  else
    some ((([21317, a0.1, a0.2.1, a0.2.2.1, a0.2.2.2.1, a0.2.2.2.2.1, a0.2.2.2.2.2.1, (IntKind.i64.wrap (a0.2.2.2.2.2.2.1 + 1)), a0.2.2.2.2.2.2.2] : List Int), ()), ())
theorem e_spec_PutSuper (x : InD I_spec_PutSuper) : execF ⟨E_spec_PutSuper, 25, D_spec_PutSuper_0⟩ Try.f108.results.toList B_spec_PutSuper I_spec_PutSuper U_spec_PutSuper x = raw_spec_PutSuper x.1 := by kernel_rfl
theorem ok0_spec_PutSuper : ConOk Try.prog 108 ⟨I_spec_PutSuper, U_spec_PutSuper, fun x => raw_spec_PutSuper x.1⟩ := conOk_exec (fr_spec_PutSuper_0) Try.func108 (by kernel_rfl) (by kernel_rfl) Try.ntmps108.symm (by decide) (fun x r h => (e_spec_PutSuper x).trans h)
noncomputable def n_spec_PutSuper (a0 : dS) : (List Int) :=
  let r1 := n_spec_SuperOk a0
  bif (!r1) then
    ([] : List Int)
  else
    ([21317, a0.1, a0.2.1, a0.2.2.1, a0.2.2.2.1, a0.2.2.2.2.1, a0.2.2.2.2.2.1, (IntKind.i64.wrap (a0.2.2.2.2.2.2.1 + 1)), a0.2.2.2.2.2.2.2] : List Int)
noncomputable def con_spec_PutSuper : Con := ⟨I_spec_PutSuper, U_spec_PutSuper, fun x => (fun n => some ((n, ()), ())) (n_spec_PutSuper x.1)⟩
theorem nn_spec_PutSuper (a0 : dS) : raw_spec_PutSuper a0 = (fun n => some ((n, ()), ())) (n_spec_PutSuper a0) := bif_ty (p := fun (n : (List Int)) => ((n, ()), ())) (bif_some (p := fun (n : (List Int)) => ((n, ()), ())) rfl rfl)
theorem ok_spec_PutSuper : ConOk Try.prog 108 con_spec_PutSuper := (ok0_spec_PutSuper).mono (fun x r _ h => (nn_spec_PutSuper x.1).trans h)
abbrev downA (a : dA) : Bool := a.2.2.2.2.2.2.2.2.2.2.1
def setFD (a : dA) (f : Int) (d : Bool) : dA := (a.1, a.2.1, a.2.2.1, a.2.2.2.1, a.2.2.2.2.1, a.2.2.2.2.2.1, a.2.2.2.2.2.2.1, a.2.2.2.2.2.2.2.1, a.2.2.2.2.2.2.2.2.1, f, d, a.2.2.2.2.2.2.2.2.2.2.2)
/-- an operation is counted; false: it is not done -/
def opA (a : dA) : Bool × dA := bif downA a then (false, a) else bif a.2.2.2.2.2.2.2.2.2.1 == 0 then (false, setFD a (-1) true) else bif ltb 0 a.2.2.2.2.2.2.2.2.2.1 then (true, setFD a (IntKind.i64.wrap (a.2.2.2.2.2.2.2.2.2.1 - 1)) (downA a)) else (true, a)
def setMem (a : dA) (m : Int) (x : dM) : dA := (a.1, a.2.1, a.2.2.1.set m.toNat x, a.2.2.2)
def putA (a : dA) (m n : Int) (s : List Int) : dA := bif (nth a.2.2.1 m noMem).2.2.1 then a else bif (opA a).1 then setMem (opA a).2 m (writeSec (nth a.2.2.1 m noMem) n s).1 else (opA a).2
def syncOne (a : dA) (i : Nat) : dA := bif (nth a.2.2.1 i noMem).2.2.1 then a else bif (opA a).1 then setMem (opA a).2 i (flushMem (nth a.2.2.1 i noMem)) else (opA a).2
def syncA (a : dA) : dA := (List.range a.2.2.1.length).foldl syncOne a
def supOf (a : dA) (i : Int) : dS := (a.1, a.2.2.2.2.2.2.2.1, i, a.2.1.1, a.2.1.2, a.2.2.2.2.2.2.1, a.2.2.2.1, a.2.2.2.2.1)
noncomputable def markOne (a : dA) (i : Nat) : dA := putA a i (a.2.2.2.2.2.2.2.1.tmod 2) (n_spec_PutSuper (supOf a i))
def genUp (a : dA) : dA := (a.1, a.2.1, a.2.2.1, a.2.2.2.1, a.2.2.2.2.1, a.2.2.2.2.2.1, a.2.2.2.2.2.2.1, IntKind.i64.wrap (a.2.2.2.2.2.2.2.1 + 1), a.2.2.2.2.2.2.2.2)
noncomputable def markA (a : dA) : dA := syncA ((List.range a.2.2.1.length).foldl markOne (genUp a))
theorem op_mems (a : dA) : (opA a).2.2.2.1 = a.2.2.1 := by
  unfold opA
  cases downA a
  · cases (a.2.2.2.2.2.2.2.2.2.1 == 0)
    · cases ltb 0 a.2.2.2.2.2.2.2.2.2.1 <;> rfl
    · rfl
  · rfl
theorem op_down {a : dA} (h : downA a = false) : downA (opA a).2 = !(opA a).1 := by
  unfold opA
  rw [h]
  cases (a.2.2.2.2.2.2.2.2.2.1 == 0)
  · cases ltb 0 a.2.2.2.2.2.2.2.2.2.1
    · exact h
    · rfl
  · rfl
theorem op_stop {a : dA} (h : downA a = true) : opA a = (false, a) := by unfold opA; rw [h]; rfl
theorem put_len (a : dA) (m n : Int) (s : List Int) : (putA a m n s).2.2.1.length = a.2.2.1.length := by
  unfold putA
  cases (nth a.2.2.1 m noMem).2.2.1
  · cases (opA a).1
    · show (opA a).2.2.2.1.length = _; rw [op_mems]
    · show ((opA a).2.2.2.1.set m.toNat _).length = _; rw [List.length_set, op_mems]
  · rfl
theorem syncOne_len (a : dA) (i : Nat) : (syncOne a i).2.2.1.length = a.2.2.1.length := by
  unfold syncOne
  cases (nth a.2.2.1 i noMem).2.2.1
  · cases (opA a).1
    · show (opA a).2.2.2.1.length = _; rw [op_mems]
    · show ((opA a).2.2.2.1.set _ _).length = _; rw [List.length_set, op_mems]
  · rfl
theorem fold_len {one : dA → Nat → dA} (h : ∀ a i, (one a i).2.2.1.length = a.2.2.1.length) : ∀ (l : List Nat) (a : dA), (l.foldl one a).2.2.1.length = a.2.2.1.length
  | [], _ => rfl
  | x :: l, a => by rw [List.foldl_cons, fold_len h l, h]
theorem sync_len (a : dA) : (syncA a).2.2.1.length = a.2.2.1.length := fold_len syncOne_len _ _
theorem put_stop {a : dA} (h : downA a = true) (m n : Int) (s : List Int) : putA a m n s = a := by
  unfold putA
  rw [op_stop h]
  cases (nth a.2.2.1 m noMem).2.2.1 <;> rfl
theorem syncOne_stop {a : dA} (i : Nat) (h : downA a = true) : syncOne a i = a := by
  unfold syncOne
  rw [op_stop h]
  cases (nth a.2.2.1 i noMem).2.2.1 <;> rfl
theorem fold_stop {one : dA → Nat → dA} (hs : ∀ a i, downA a = true → one a i = a) : ∀ (l : List Nat) (a : dA), downA a = true → l.foldl one a = a
  | [], _, _ => rfl
  | x :: l, a, h => by rw [List.foldl_cons, hs a x h]; exact fold_stop hs l a h
theorem sync_stop {a : dA} (h : downA a = true) : syncA a = a := fold_stop (fun _ i h => syncOne_stop i h) _ a h
theorem put_down {a : dA} (h : downA a = false) (m n : Int) (s : List Int) : downA (putA a m n s) = (!(nth a.2.2.1 m noMem).2.2.1 && !(opA a).1) := by
  have := op_down h
  unfold putA
  cases (nth a.2.2.1 m noMem).2.2.1
  · cases ho : (opA a).1
    · rw [ho] at this; exact this
    · rw [ho] at this; exact this
  · exact h
theorem syncOne_down {a : dA} (h : downA a = false) (i : Nat) : downA (syncOne a i) = (!(nth a.2.2.1 i noMem).2.2.1 && !(opA a).1) := by
  have := op_down h
  unfold syncOne
  cases (nth a.2.2.1 i noMem).2.2.1
  · cases ho : (opA a).1
    · rw [ho] at this; exact this
    · rw [ho] at this; exact this
  · exact h
theorem goE_fold {one : dA → Nat → dA} (hs : ∀ a i, downA a = true → one a i = a) : ∀ (k i : Nat) (s : dA), goE (fun i s => bif downA (one s i) then (.inr (one s i) : dA ⊕ dA) else .inl (one s i)) id k i s = (List.range' i k).foldl one s
  | 0, _, _ => rfl
  | k + 1, i, s => by
    rw [List.range'_succ, List.foldl_cons, goE]
    cases hd : downA (one s i)
    · exact goE_fold hs k (i + 1) (one s i)
    · exact (fold_stop hs _ _ hd).symm
theorem put_mems {a : dA} {m n : Int} {s : List Int} (h : okMems a.2.2.1) (hm : inb m a.2.2.1.length = true) : okMems (putA a m n s).2.2.1 := by
  unfold putA
  cases (nth a.2.2.1 m noMem).2.2.1
  · cases (opA a).1
    · show okMems (opA a).2.2.2.1; rw [op_mems]; exact h
    · show okMems ((opA a).2.2.2.1.set m.toNat _); rw [op_mems]; exact okMems_set h (write_ok _ _ (okMems_at h hm))
  · exact h
theorem syncOne_mems {a : dA} {i : Nat} (h : okMems a.2.2.1) (hi : i < a.2.2.1.length) : okMems (syncOne a i).2.2.1 := by
  unfold syncOne
  cases (nth a.2.2.1 i noMem).2.2.1
  · cases (opA a).1
    · show okMems (opA a).2.2.2.1; rw [op_mems]; exact h
    · show okMems ((opA a).2.2.2.1.set _ _); rw [op_mems]; exact okMems_set h (flush_ok (okMems_at h (inb_nat hi)))
  · exact h
theorem fold_mems {one : dA → Nat → dA} (hl : ∀ a i, (one a i).2.2.1.length = a.2.2.1.length) (ho : ∀ a i, okMems a.2.2.1 → i < a.2.2.1.length → okMems (one a i).2.2.1) : ∀ (n : Nat) (a : dA), n ≤ a.2.2.1.length → okMems a.2.2.1 → okMems ((List.range n).foldl one a).2.2.1
  | 0, _, _, h => h
  | n + 1, a, hn, h => by
    rw [List.range_succ, List.foldl_append]
    exact ho _ _ (fold_mems hl ho n a (by omega) h) (by rw [fold_len hl]; exact hn)
theorem sync_mems {a : dA} (h : okMems a.2.2.1) : okMems (syncA a).2.2.1 := fold_mems syncOne_len (fun _ _ => syncOne_mems) _ a (Nat.le_refl _) h
theorem mark_mems {a : dA} (h : okMems a.2.2.1) : okMems (markA a).2.2.1 :=
  sync_mems (fold_mems (one := markOne) (fun _ _ => put_len _ _ _ _) (fun _ _ h hi => put_mems h (inb_nat hi)) _ (genUp a) (Nat.le_refl _) h)
theorem mark_len (a : dA) : (markA a).2.2.1.length = a.2.2.1.length := (sync_len _).trans (fold_len (one := markOne) (fun _ _ => put_len _ _ _ _) _ (genUp a))
theorem op_dirty (a : dA) : (opA a).2.2.2.2.2.2.2.2.2.1 = a.2.2.2.2.2.2.2.2.1 := by
  unfold opA
  cases downA a
  · cases (a.2.2.2.2.2.2.2.2.2.1 == 0)
    · cases ltb 0 a.2.2.2.2.2.2.2.2.2.1 <;> rfl
    · rfl
  · rfl
theorem put_dirty (a : dA) (m n : Int) (s : List Int) : (putA a m n s).2.2.2.2.2.2.2.2.1 = a.2.2.2.2.2.2.2.2.1 := by
  unfold putA
  cases (nth a.2.2.1 m noMem).2.2.1
  · cases (opA a).1
    · exact op_dirty a
    · exact op_dirty a
  · rfl
theorem syncOne_dirty (a : dA) (i : Nat) : (syncOne a i).2.2.2.2.2.2.2.2.1 = a.2.2.2.2.2.2.2.2.1 := by
  unfold syncOne
  cases (nth a.2.2.1 i noMem).2.2.1
  · cases (opA a).1
    · exact op_dirty a
    · exact op_dirty a
  · rfl
theorem fold_dirty {one : dA → Nat → dA} (h : ∀ a i, (one a i).2.2.2.2.2.2.2.2.1 = a.2.2.2.2.2.2.2.2.1) : ∀ (l : List Nat) (a : dA), (l.foldl one a).2.2.2.2.2.2.2.2.1 = a.2.2.2.2.2.2.2.2.1
  | [], _ => rfl
  | x :: l, a => by rw [List.foldl_cons, fold_dirty h l, h]
theorem sync_dirty (a : dA) : (syncA a).2.2.2.2.2.2.2.2.1 = a.2.2.2.2.2.2.2.2.1 := fold_dirty syncOne_dirty _ _
theorem mark_dirty (a : dA) : (markA a).2.2.2.2.2.2.2.2.1 = a.2.2.2.2.2.2.2.2.1 := (sync_dirty _).trans (fold_dirty (one := markOne) (fun _ _ => put_dirty _ _ _ _) _ (genUp a))
/-- a bound of a result's marks -/
theorem arr_small {a x : dA} (ha : mArr a ≤ 2097152) (hl : x.2.2.1.length ≤ 5) (hm : okMems x.2.2.1) (hd : x.2.2.2.2.2.2.2.2.1 = a.2.2.2.2.2.2.2.2.1) : mArr x ≤ 2105000 := by
  have := okMems_small hm
  have : x.2.2.1.length * 1041 ≤ 5 * 1041 := Nat.mul_le_mul_right _ hl
  unfold mArr at ha ⊢
  rw [hd]
  omega
theorem arr_five {a : dA} (h : arrOk a = true) : a.2.2.1.length ≤ 5 := by
  have h1 := geo_iff.1 (arrOk_geo h)
  have h2 := arrOk_len h
  omega
def memNew (n : Int) : dM := bif leb 1 n && leb n 20 then (List.replicate n.toNat [], [], false, []) else noMem
theorem memNew_ok {n : Int} (h1 : 1 ≤ n) (h2 : n ≤ 20) : memOk (memNew n) = true := by
  unfold memNew
  rw [leb_t h1, leb_t h2]
  refine memOk_mk ?_ rfl rfl ?_ ?_ (Nat.zero_le _)
  · show (List.replicate n.toNat ([] : List Int)).all secOk = true
    rw [List.all_eq_true]
    intro x hx
    rw [(List.mem_replicate.1 hx).2]; rfl
  · show 1 ≤ (List.replicate n.toNat ([] : List Int)).length; rw [List.length_replicate]; omega
  · show (List.replicate n.toNat ([] : List Int)).length ≤ 20; rw [List.length_replicate]; omega
def spareNew (a : dA) : dA := (a.1, a.2.1, a.2.2.1.set a.2.2.2.1.toNat (memNew (6 + a.2.1.2)), a.2.2.2.1, 0, a.2.2.2.2.2)
noncomputable def spareA (a : dA) : dA × Int :=
  bif !(arrOk a) then (a, 1) else bif downA a then (a, 6) else bif a.2.2.2.1 == -1 || !((nth a.2.2.1 a.2.2.2.1 noMem).2.2.1) then (a, 2) else bif a.2.2.2.2.2.2.2.2.2.2.2 then (a, 5) else bif leb 59990 a.2.2.2.2.2.2.2.1 then (a, 7)
  else (markA (spareNew a), bif downA (markA (spareNew a)) then 6 else 0)
theorem arr_lost {a : dA} (h : arrOk a = true) : -1 ≤ a.2.2.2.1 ∧ a.2.2.2.1 ≤ a.2.1.1 - 1 := by
  simp only [arrOk, Bool.and_eq_true, leb_iff] at h
  exact h.2.2.2.2.1
theorem lost_in {a : dA} (h : arrOk a = true) (h2 : a.2.2.2.1 ≠ -1) : inb a.2.2.2.1 a.2.2.1.length = true := by
  have := arr_lost h
  have := arrOk_len h
  exact inb_iff.2 (by omega)
end

/-! spec_l7Op -/
section
noncomputable def B_spec_l7Op : Code := (Try.f130.body).getD .skip
noncomputable def E_spec_l7Op : Env := envOf TT [] []
theorem fr_spec_l7Op_0 : FrOk Try.prog ⟨E_spec_l7Op, 31, fun _ => none⟩ B_spec_l7Op := frOk_base mixed tt_ok trivial
noncomputable def D_spec_l7Op_0 : Nat → Option Seg := fun _ => none
abbrev I_spec_l7Op : List Par := [.pt tA (.pr .fz (.pr (.pr .fz .fz) (.pr (.ow (.pr (.ow .fz) (.pr (.ow (.pr .fz .fz)) (.pr .fz (.ow .fz))))) (.pr .fz (.pr .fz (.pr .fz (.pr .fz (.pr .fz (.pr (.ow (.pr .fz .fz)) (.pr .fz (.pr .fz .fz)))))))))))]
abbrev U_spec_l7Op : List OT := [⟨false, tB, .fz⟩]
noncomputable def raw_spec_l7Op (a0 : dA) : Option (ResD U_spec_l7Op × MutD I_spec_l7Op) :=
  bif a0.2.2.2.2.2.2.2.2.2.2.1 then
    some ((false, ()), (a0, ()))
  else
    bif (a0.2.2.2.2.2.2.2.2.2.1 == 0) then
      some ((false, ()), ((a0.1, a0.2.1, a0.2.2.1, a0.2.2.2.1, a0.2.2.2.2.1, a0.2.2.2.2.2.1, a0.2.2.2.2.2.2.1, a0.2.2.2.2.2.2.2.1, a0.2.2.2.2.2.2.2.2.1, (-1), true, a0.2.2.2.2.2.2.2.2.2.2.2), ()))
    else
      bif (ltb 0 a0.2.2.2.2.2.2.2.2.2.1) then
        some ((true, ()), ((a0.1, a0.2.1, a0.2.2.1, a0.2.2.2.1, a0.2.2.2.2.1, a0.2.2.2.2.2.1, a0.2.2.2.2.2.2.1, a0.2.2.2.2.2.2.2.1, a0.2.2.2.2.2.2.2.2.1, (IntKind.i64.wrap (a0.2.2.2.2.2.2.2.2.2.1 - 1)), a0.2.2.2.2.2.2.2.2.2.2), ()))
      else
        some ((true, ()), (a0, ()))
theorem e_spec_l7Op (x : InD I_spec_l7Op) : execF ⟨E_spec_l7Op, 31, D_spec_l7Op_0⟩ Try.f130.results.toList B_spec_l7Op I_spec_l7Op U_spec_l7Op x = raw_spec_l7Op x.1 := by kernel_rfl
theorem ok0_spec_l7Op : ConOk Try.prog 130 ⟨I_spec_l7Op, U_spec_l7Op, fun x => raw_spec_l7Op x.1⟩ := conOk_exec (fr_spec_l7Op_0) Try.func130 (by kernel_rfl) (by kernel_rfl) Try.ntmps130.symm (by decide) (fun x r h => (e_spec_l7Op x).trans h)
noncomputable def n_spec_l7Op (a0 : dA) : Bool × dA :=
  bif a0.2.2.2.2.2.2.2.2.2.2.1 then
    (false, a0)
  else
    bif (a0.2.2.2.2.2.2.2.2.2.1 == 0) then
      (false, (a0.1, a0.2.1, a0.2.2.1, a0.2.2.2.1, a0.2.2.2.2.1, a0.2.2.2.2.2.1, a0.2.2.2.2.2.2.1, a0.2.2.2.2.2.2.2.1, a0.2.2.2.2.2.2.2.2.1, (-1), true, a0.2.2.2.2.2.2.2.2.2.2.2))
    else
      bif (ltb 0 a0.2.2.2.2.2.2.2.2.2.1) then
        (true, (a0.1, a0.2.1, a0.2.2.1, a0.2.2.2.1, a0.2.2.2.2.1, a0.2.2.2.2.2.1, a0.2.2.2.2.2.2.1, a0.2.2.2.2.2.2.2.1, a0.2.2.2.2.2.2.2.2.1, (IntKind.i64.wrap (a0.2.2.2.2.2.2.2.2.2.1 - 1)), a0.2.2.2.2.2.2.2.2.2.2))
      else
        (true, a0)
noncomputable def con_spec_l7Op : Con := ⟨I_spec_l7Op, U_spec_l7Op, fun x => (fun n => some ((n.1, ()), (n.2, ()))) (n_spec_l7Op x.1)⟩
theorem nn_spec_l7Op (a0 : dA) : raw_spec_l7Op a0 = (fun n => some ((n.1, ()), (n.2, ()))) (n_spec_l7Op a0) := bif_ty (p := fun (n : Bool × dA) => ((n.1, ()), (n.2, ()))) (bif_some (p := fun (n : Bool × dA) => ((n.1, ()), (n.2, ()))) rfl (bif_some (p := fun (n : Bool × dA) => ((n.1, ()), (n.2, ()))) rfl (bif_some (p := fun (n : Bool × dA) => ((n.1, ()), (n.2, ()))) rfl rfl)))
theorem ok_spec_l7Op : ConOk Try.prog 130 con_spec_l7Op := (ok0_spec_l7Op).mono (fun x r _ h => (nn_spec_l7Op x.1).trans h)
theorem spec_op_eq (a : dA) : n_spec_l7Op a = opA a := by kernel_rfl
end

/-! spec_l2Without -/
section
noncomputable def B_spec_l2Without : Code := (Try.f144.body).getD .skip
noncomputable def E_spec_l2Without : Env := envOf TT [] []
theorem fr_spec_l2Without_0 : FrOk Try.prog ⟨E_spec_l2Without, 28, fun _ => none⟩ B_spec_l2Without := frOk_base mixed tt_ok trivial
noncomputable def D_spec_l2Without_0 : Nat → Option Seg := fun _ => none
def L_spec_l2Without_29 : Shape := ⟨[(0, false, [.br tI]), (1, false, [.int .i64]), (5, false, [.at 800000000]), (6, false, [.int .i64])], [], [(800000000, tI, .fz)]⟩
def S_spec_l2Without_29 : Shape := ⟨[(0, false, [.br tI]), (1, false, [.int .i64]), (5, false, [.at 800000000]), (6, false, [.ci .i64 0])], [], [(800000000, tI, .fz)]⟩
def O_spec_l2Without_29 : Shape := ⟨[(5, false, [.at 800000000])], [], [(800000000, tI, .fz)]⟩
def Z_spec_l2Without_29 : Shape := ⟨[], [], []⟩
abbrev mk_spec_l2Without_29 (v0 : List Int) (v1 : Int) (v2 : Int) (v3 : List Int) : (L_spec_l2Without_29).X := (((v0, ()), (v1, ()), ((), ()), (v2, ()), ()), (), (v3, ()))
abbrev ms_spec_l2Without_29 (v0 : List Int) (v1 : Int) (v2 : List Int) : (S_spec_l2Without_29).X := (((v0, ()), (v1, ()), ((), ()), ((), ()), ()), (), (v2, ()))
abbrev mo_spec_l2Without_29 (v0 : List Int) : (O_spec_l2Without_29).X := ((((), ()), ()), (), (v0, ()))
noncomputable def st_spec_l2Without_29 (v0 : List Int) (v1 : Int) (v2 : Int) (v3 : List Int) : Option ((L_spec_l2Without_29).X ⊕ ((O_spec_l2Without_29).X ⊕ (Z_spec_l2Without_29).X)) :=
  bif (ltb v2 (v0.length : Int)) then
    bif (inb v2 v0.length) then
      bif ((nth v0 v2 0) != v1) then
        bif (inb v2 v0.length) then
          bif (apok v3.length ([(nth v0 v2 0)] : List Int).length 8) then
            some (.inl (((v0, ()), (v1, ()), ((), ()), ((IntKind.i64.wrap (v2 + 1)), ()), ()), (), ((v3 ++ ([(nth v0 v2 0)] : List Int)), ())))
          else none
        else none
      else
        some (.inl (((v0, ()), (v1, ()), ((), ()), ((IntKind.i64.wrap (v2 + 1)), ()), ()), (), (v3, ())))
    else none
  else
    some (.inr (.inl ((((), ()), ()), (), (v3, ()))))
noncomputable def stx_spec_l2Without_29 (x : (L_spec_l2Without_29).X) := st_spec_l2Without_29 x.1.1.1 x.1.2.1.1 x.1.2.2.2.1.1 x.2.2.1
def em_spec_l2Without_29 (x : (S_spec_l2Without_29).X) : (L_spec_l2Without_29).X := (((x.1.1.1, ()), (x.1.2.1.1, ()), ((), ()), (0, ()), ()), (), (x.2.2.1, ()))
noncomputable def c_spec_l2Without_29 : Code := (subN B_spec_l2Without 64 116).getD .skip
theorem a_spec_l2Without_29 : subN B_spec_l2Without 64 29 = some (.block 0 (.loop c_spec_l2Without_29)) := by kernel_rfl
theorem r_spec_l2Without_29 (x : (L_spec_l2Without_29).X) : roundT ⟨E_spec_l2Without, 28, D_spec_l2Without_0⟩ 0 c_spec_l2Without_29 116 L_spec_l2Without_29 O_spec_l2Without_29 Z_spec_l2Without_29 x = stx_spec_l2Without_29 x := by kernel_rfl
noncomputable def fu_spec_l2Without_29 (x : (S_spec_l2Without_29).X) : Nat := (fun (u0 : List Int) (u1 : Int) (u2 : List Int) => 18446744073709551616) x.1.1.1 x.1.2.1.1 x.2.2.1
noncomputable def F_spec_l2Without_29 (x : (S_spec_l2Without_29).X) : Option ((O_spec_l2Without_29).X ⊕ (Z_spec_l2Without_29).X) := loopN stx_spec_l2Without_29 (fu_spec_l2Without_29 x) (em_spec_l2Without_29 x)
noncomputable def sg_spec_l2Without_29 : Seg := ⟨S_spec_l2Without_29, O_spec_l2Without_29, Z_spec_l2Without_29, F_spec_l2Without_29⟩
noncomputable def D_spec_l2Without_1 : Nat → Option Seg := fun q => bif Nat.beq q 29 then some sg_spec_l2Without_29 else D_spec_l2Without_0 q
theorem fr_spec_l2Without_1 : FrOk Try.prog ⟨E_spec_l2Without, 28, D_spec_l2Without_1⟩ B_spec_l2Without := (fr_spec_l2Without_0).loop (sg := sg_spec_l2Without_29) L_spec_l2Without_29 em_spec_l2Without_29 (by decide) a_spec_l2Without_29 stx_spec_l2Without_29 fu_spec_l2Without_29 (by decide) (fun _ => rfl) (fun x r _ h => h) r_spec_l2Without_29
abbrev I_spec_l2Without : List Par := [.rd tL, .rd tI]
abbrev U_spec_l2Without : List OT := [⟨false, tL, (.ow .fz)⟩]
noncomputable def raw_spec_l2Without (a0 : List Int) (a1 : Int) : Option (ResD U_spec_l2Without × MutD I_spec_l2Without) :=
  segM (F_spec_l2Without_29 (((a0, ()), (a1, ()), ((), ()), ((), ()), ()), (), (([] : List Int), ()))) (fun y0 =>
    some ((y0.2.2.1, ()), ())) (fun y0 =>
    none)
theorem e_spec_l2Without (x : InD I_spec_l2Without) : execF ⟨E_spec_l2Without, 28, D_spec_l2Without_1⟩ Try.f144.results.toList B_spec_l2Without I_spec_l2Without U_spec_l2Without x = raw_spec_l2Without x.1 x.2.1 := by kernel_rfl
theorem ok0_spec_l2Without : ConOk Try.prog 144 ⟨I_spec_l2Without, U_spec_l2Without, fun x => raw_spec_l2Without x.1 x.2.1⟩ := conOk_exec (fr_spec_l2Without_1) Try.func144 (by kernel_rfl) (by kernel_rfl) Try.ntmps144.symm (by decide) (fun x r h => (e_spec_l2Without x).trans h)
noncomputable def n_spec_l2Without (a0 : List Int) (a1 : Int) : List Int := sans a0 a1
theorem foldl_filter {α : Type} (p : α → Bool) : ∀ (l : List α) (s : List α), l.foldl (fun s x => bif p x then s ++ [x] else s) s = s ++ l.filter p
  | [], s => by simp
  | x :: l, s => by
    rw [List.foldl_cons, foldl_filter p l, List.filter_cons]
    cases p x <;> simp
theorem nn_spec_l2Without (a0 : List Int) (a1 : Int) (hk : InOk I_spec_l2Without (a0, a1, ())) : raw_spec_l2Without a0 a1 = (fun n => some ((n, ()), ())) (n_spec_l2Without a0 a1) := by
  have hb : a0.length * 8 ≤ 2 ^ 47 := hk.1.1
  have h1 := loopN_fold (step := stx_spec_l2Without_29) a0 0 (fun i s => mk_spec_l2Without_29 a0 a1 i s) (fun s x => bif x != a1 then s ++ [x] else s) (fun i s => s.length ≤ i) (fun s => .inl (mo_spec_l2Without_29 s)) (fun i s hi hs => by
      constructor
      · simp only [stx_spec_l2Without_29, mk_spec_l2Without_29, st_spec_l2Without_29, ltb_t (show (i : Int) < a0.length by omega), cond_true, wr (show -9223372036854775808 ≤ (i : Int) + 1 by omega) (by omega), Int.natCast_add, Int.natCast_one, Int.toNat_natCast, inb_nat hi, nth_nat]
        rw [apok_iff.2 (show (s.length + [a0.getD i 0].length) * 8 ≤ 140737488355328 by simp only [List.length_cons, List.length_nil]; omega)]
        cases (a0.getD i 0 != a1) <;> rfl
      · cases (a0.getD i 0 != a1)
        · show s.length ≤ _; omega
        · simp only [cond_true, List.length_append, List.length_cons, List.length_nil]; omega) (fun s _ => by simp only [stx_spec_l2Without_29, mk_spec_l2Without_29, st_spec_l2Without_29, ltb_f (Int.le_refl _), cond_false]) [] (Nat.le_refl _) 18446744073709551616 (by omega)
  unfold raw_spec_l2Without n_spec_l2Without sans
  rw [show F_spec_l2Without_29 (ms_spec_l2Without_29 a0 a1 []) = _ from h1, foldl_filter]; rfl
noncomputable def con_spec_l2Without : Con := ⟨I_spec_l2Without, U_spec_l2Without, fun x => (fun n => some ((n, ()), ())) (n_spec_l2Without x.1 x.2.1)⟩
theorem ok_spec_l2Without : ConOk Try.prog 144 con_spec_l2Without := (ok0_spec_l2Without).mono (fun x r hk h => (nn_spec_l2Without x.1 x.2.1 hk).trans h)
end

/-! spec_WriteSec -/
section
noncomputable def B_spec_WriteSec : Code := (Try.f131.body).getD .skip
noncomputable def E_spec_WriteSec : Env := envOf TT [(35, con_spec_l1In), (64, con_spec_l2Copy), (105, con_spec_MemOk), (128, con_spec_SecOk), (144, con_spec_l2Without)] [(16832, (.pr .fz .fz))]
theorem fr_spec_WriteSec_0 : FrOk Try.prog ⟨E_spec_WriteSec, 55, fun _ => none⟩ B_spec_WriteSec := frOk_base mixed tt_ok ⟨ok_spec_l1In, ok_spec_l2Copy, ok_spec_MemOk, ok_spec_SecOk, ok_spec_l2Without, trivial⟩
noncomputable def D_spec_WriteSec_0 : Nat → Option Seg := fun _ => none
abbrev I_spec_WriteSec : List Par := [.rd tM, .rd tI, .rd tL]
abbrev U_spec_WriteSec : List OT := [⟨false, tM, (.pr (.ow .fz) (.pr (.ow (.pr .fz .fz)) (.pr .fz (.ow .fz))))⟩, ⟨false, tB, .fz⟩]
noncomputable def raw_spec_WriteSec (a0 : dM) (a1 : Int) (a2 : List Int) : Option (ResD U_spec_WriteSec × MutD I_spec_WriteSec) :=
  let r1 := n_spec_l2Copy a0
  let r2 := n_spec_MemOk a0
  bif (!(!r2)) then
    bif (!a0.2.2.1) then
      let r3 := n_spec_l1In a1 0 (IntKind.i64.wrap ((a0.1.length : Int) - 1))
      bif (!(!r3)) then
        let r4 := n_spec_SecOk a2
        bif (!(!r4)) then
          bif (leb 60 (a0.2.1.length : Int)) then
            some ((r1, false, ()), ())
          else
            bif (apok ([] : List Int).length a2.length 8) then
              bif (apok r1.2.1.length ([(a1, (([] : List Int) ++ a2))] : List dW).length 32) then
                let r5 := n_spec_l2Without a0.2.2.2 a1
                some (((r1.1, (r1.2.1 ++ ([(a1, (([] : List Int) ++ a2))] : List dW)), r1.2.2.1, r5), true, ()), ())
              else none
            else none
        else
          some ((r1, false, ()), ())
      else
        some ((r1, false, ()), ())
    else
      some ((r1, false, ()), ())
  else
    some ((r1, false, ()), ())
theorem e_spec_WriteSec (x : InD I_spec_WriteSec) : execF ⟨E_spec_WriteSec, 55, D_spec_WriteSec_0⟩ Try.f131.results.toList B_spec_WriteSec I_spec_WriteSec U_spec_WriteSec x = raw_spec_WriteSec x.1 x.2.1 x.2.2.1 := by kernel_rfl
theorem ok0_spec_WriteSec : ConOk Try.prog 131 ⟨I_spec_WriteSec, U_spec_WriteSec, fun x => raw_spec_WriteSec x.1 x.2.1 x.2.2.1⟩ := conOk_exec (fr_spec_WriteSec_0) Try.func131 (by kernel_rfl) (by kernel_rfl) Try.ntmps131.symm (by decide) (fun x r h => (e_spec_WriteSec x).trans h)
noncomputable def n_spec_WriteSec (a0 : dM) (a1 : Int) (a2 : List Int) : dM × Bool := writeSec a0 a1 a2
theorem nn_spec_WriteSec (a0 : dM) (a1 : Int) (a2 : List Int) (hk : InOk I_spec_WriteSec (a0, a1, a2, ())) : raw_spec_WriteSec a0 a1 a2 = (fun n => some ((n.1, n.2, ()), ())) (n_spec_WriteSec a0 a1 a2) := by
  have hb1 : a0.1.length * 24 ≤ 2 ^ 47 := hk.1.1.1
  have hb2 : a2.length * 8 ≤ 2 ^ 47 := hk.2.2.1.1
  unfold raw_spec_WriteSec n_spec_WriteSec writeSec canWrite
  simp only [n_spec_l2Copy, n_spec_MemOk, in_len (show a0.1.length ≤ 1152921504606846976 by omega), spec_sec_eq, n_spec_l2Without, List.nil_append]
  cases memOk a0
  · rfl
  cases a0.2.2.1
  · cases inb a1 a0.1.length
    · rfl
    cases secOk a2
    · rfl
    by_cases h : (a0.2.1.length : Int) < 60
    · rw [ltb_t h, leb_f h, apok_iff.2 (show (([] : List Int).length + a2.length) * 8 ≤ 140737488355328 by rw [List.length_nil]; omega), apok_iff.2 (show (a0.2.1.length + [(a1, a2)].length) * 32 ≤ 140737488355328 by simp only [List.length_cons, List.length_nil]; omega)]; rfl
    · rw [ltb_f (by omega), leb_t (by omega)]; rfl
  · rfl
noncomputable def con_spec_WriteSec : Con := ⟨I_spec_WriteSec, U_spec_WriteSec, fun x => (fun n => some ((n.1, n.2, ()), ())) (n_spec_WriteSec x.1 x.2.1 x.2.2.1)⟩
theorem ok_spec_WriteSec : ConOk Try.prog 131 con_spec_WriteSec := (ok0_spec_WriteSec).mono (fun x r hk h => (nn_spec_WriteSec x.1 x.2.1 x.2.2.1 hk).trans h)
end

/-! spec_l7Put -/
section
noncomputable def B_spec_l7Put : Code := (Try.f107.body).getD .skip
noncomputable def E_spec_l7Put : Env := envOf TT [(130, con_spec_l7Op), (131, con_spec_WriteSec)] []
theorem fr_spec_l7Put_0 : FrOk Try.prog ⟨E_spec_l7Put, 43, fun _ => none⟩ B_spec_l7Put := frOk_base mixed tt_ok ⟨ok_spec_l7Op, ok_spec_WriteSec, trivial⟩
noncomputable def D_spec_l7Put_0 : Nat → Option Seg := fun _ => none
abbrev I_spec_l7Put : List Par := [.pt tA (.pr .fz (.pr (.pr .fz .fz) (.pr (.ow (.pr (.ow .fz) (.pr (.ow (.pr .fz .fz)) (.pr .fz (.ow .fz))))) (.pr .fz (.pr .fz (.pr .fz (.pr .fz (.pr .fz (.pr (.ow (.pr .fz .fz)) (.pr .fz (.pr .fz .fz))))))))))), .rd tI, .rd tI, .rd tL]
abbrev U_spec_l7Put : List OT := []
noncomputable def raw_spec_l7Put (a0 : dA) (a1 : Int) (a2 : Int) (a3 : List Int) : Option (ResD U_spec_l7Put × MutD I_spec_l7Put) :=
  bif (inb a1 a0.2.2.1.length) then
    bif (!((((nth a0.2.2.1 a1 ([], [], false, [])).2).2).1)) then
      let r1 := n_spec_l7Op a0
      bif (!r1.1) then
        some ((), (r1.2, ()))
      else
        bif (inb a1 r1.2.2.2.1.length) then
          let r2 := n_spec_WriteSec ((nth r1.2.2.2.1 a1 ([], [], false, [])).1, ((nth r1.2.2.2.1 a1 ([], [], false, [])).2).1, (((nth r1.2.2.2.1 a1 ([], [], false, [])).2).2)) a2 a3
          bif (inb a1 r1.2.2.2.1.length) then
            some ((), ((r1.2.1, r1.2.2.1, (r1.2.2.2.1.set (a1).toNat r2.1), r1.2.2.2.2), ()))
          else none
        else none
    else
      some ((), (a0, ()))
  else none
theorem e_spec_l7Put (x : InD I_spec_l7Put) : execF ⟨E_spec_l7Put, 43, D_spec_l7Put_0⟩ Try.f107.results.toList B_spec_l7Put I_spec_l7Put U_spec_l7Put x = raw_spec_l7Put x.1 x.2.1 x.2.2.1 x.2.2.2.1 := by kernel_rfl
theorem ok0_spec_l7Put : ConOk Try.prog 107 ⟨I_spec_l7Put, U_spec_l7Put, fun x => raw_spec_l7Put x.1 x.2.1 x.2.2.1 x.2.2.2.1⟩ := conOk_exec (fr_spec_l7Put_0) Try.func107 (by kernel_rfl) (by kernel_rfl) Try.ntmps107.symm (by decide) (fun x r h => (e_spec_l7Put x).trans h)
noncomputable def n_spec_l7Put (a0 : dA) (a1 a2 : Int) (a3 : List Int) : dA := putA a0 a1 a2 a3
noncomputable def q_spec_l7Put (a0 : dA) (a1 a2 : Int) (a3 : List Int) : Bool := inb a1 a0.2.2.1.length
theorem nn_spec_l7Put (a0 : dA) (a1 a2 : Int) (a3 : List Int) (hk : InOk I_spec_l7Put (a0, a1, a2, a3, ())) (hq : q_spec_l7Put a0 a1 a2 a3 = true) : raw_spec_l7Put a0 a1 a2 a3 = (fun n => some ((), (n, ()))) (n_spec_l7Put a0 a1 a2 a3) := by
  have hq : inb a1 a0.2.2.1.length = true := hq
  unfold raw_spec_l7Put n_spec_l7Put putA setMem
  simp only [spec_op_eq, op_mems, hq, pr_eta, n_spec_WriteSec]
  cases (nth a0.2.2.1 a1 noMem).2.2.1 <;> cases (opA a0).1 <;> rfl
noncomputable def o_spec_l7Put (a0 : dA) (a1 : Int) (a2 : Int) (a3 : List Int) : Option (ResD U_spec_l7Put × MutD I_spec_l7Put) := bif q_spec_l7Put a0 a1 a2 a3 then (fun n => some ((), (n, ()))) (n_spec_l7Put a0 a1 a2 a3) else none
theorem ot_spec_l7Put (a0 : dA) (a1 : Int) (a2 : Int) (a3 : List Int) (h : q_spec_l7Put a0 a1 a2 a3 = true) : o_spec_l7Put a0 a1 a2 a3 = (fun n => some ((), (n, ()))) (n_spec_l7Put a0 a1 a2 a3) := by unfold o_spec_l7Put; rw [h]; rfl
noncomputable def con_spec_l7Put : Con := ⟨I_spec_l7Put, U_spec_l7Put, fun x => o_spec_l7Put x.1 x.2.1 x.2.2.1 x.2.2.2.1⟩
theorem ok_spec_l7Put : ConOk Try.prog 107 con_spec_l7Put := (ok0_spec_l7Put).mono (fun x r hk h => pre_ok h (fun hq => nn_spec_l7Put x.1 x.2.1 x.2.2.1 x.2.2.2.1 hk hq))
end
end Go.Tf
