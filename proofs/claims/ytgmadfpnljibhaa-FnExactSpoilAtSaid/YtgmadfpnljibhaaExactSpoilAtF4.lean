/- Functions of the program, and what they come to. -/
import Derived.Test.YtgmadfpnljibhaaExactSpoilAtF3
namespace Go.Tf
open Go.Proofs
set_option synthInstance.maxHeartbeats 400000
set_option synthInstance.maxSize 10000
set_option linter.unusedVariables false
set_option linter.unusedSimpArgs false
set_option maxRecDepth 100000
/-! spec_SuperOk -/
section
noncomputable def B_spec_SuperOk : Code := (Try.f146.body).getD .skip
noncomputable def E_spec_SuperOk : Env := envOf TT [(60, con_spec_l1In), (91, con_spec_GeoOk)] []
theorem fr_spec_SuperOk_0 : FrOk Try.prog ⟨E_spec_SuperOk, 60, fun _ => none⟩ B_spec_SuperOk := frOk_base mixed tt_ok ⟨ok_spec_l1In, ok_spec_GeoOk, trivial⟩
noncomputable def D_spec_SuperOk_0 : Nat → Option Seg := fun _ => none
abbrev I_spec_SuperOk : List Par := [.rd tS]
abbrev U_spec_SuperOk : List OT := [⟨false, tB, .fz⟩]
noncomputable def raw_spec_SuperOk (a0 : dS) : Option (ResD U_spec_SuperOk × MutD I_spec_SuperOk) :=
  let r1 := n_spec_GeoOk (a0.2.2.2.1, a0.2.2.2.2.1)
  bif (!(!r1)) then
    let r2 := n_spec_l1In a0.1 1 60000
    bif (!(!r2)) then
      let r3 := n_spec_l1In a0.2.1 0 60000
      bif (!(!r3)) then
        let r4 := n_spec_l1In a0.2.2.1 0 (IntKind.i64.wrap (a0.2.2.2.1 - 1))
        bif (!(!r4)) then
          let r5 := n_spec_l1In a0.2.2.2.2.2.1 0 60000
          bif (!r5) then
            some ((false, ()), ())
          else
            let r6 := n_spec_l1In a0.2.2.2.2.2.2.1 (-1) (IntKind.i64.wrap (a0.2.2.2.1 - 1))
            bif r6 then
              let r7 := n_spec_l1In a0.2.2.2.2.2.2.2 0 a0.2.2.2.2.1
              bif r7 then
                bif (!(leb 0 a0.2.2.2.2.2.2.1)) then
                  some (((a0.2.2.2.2.2.2.2 == 0), ()), ())
                else
                  some ((true, ()), ())
              else
                some ((false, ()), ())
            else
              some ((false, ()), ())
        else
          some ((false, ()), ())
      else
        some ((false, ()), ())
    else
      some ((false, ()), ())
  else
    some ((false, ()), ())
theorem e_spec_SuperOk (x : InD I_spec_SuperOk) : execF ⟨E_spec_SuperOk, 60, D_spec_SuperOk_0⟩ Try.f146.results.toList B_spec_SuperOk I_spec_SuperOk U_spec_SuperOk x = raw_spec_SuperOk x.1 := by kernel_rfl
theorem ok0_spec_SuperOk : ConOk Try.prog 146 ⟨I_spec_SuperOk, U_spec_SuperOk, fun x => raw_spec_SuperOk x.1⟩ := conOk_exec (fr_spec_SuperOk_0) Try.func146 (by kernel_rfl) (by kernel_rfl) Try.ntmps146.symm (by decide) (fun x r h => (e_spec_SuperOk x).trans h)
noncomputable def n_spec_SuperOk (a0 : dS) : Bool :=
  let r1 := n_spec_GeoOk (a0.2.2.2.1, a0.2.2.2.2.1)
  bif (!(!r1)) then
    let r2 := n_spec_l1In a0.1 1 60000
    bif (!(!r2)) then
      let r3 := n_spec_l1In a0.2.1 0 60000
      bif (!(!r3)) then
        let r4 := n_spec_l1In a0.2.2.1 0 (IntKind.i64.wrap (a0.2.2.2.1 - 1))
        bif (!(!r4)) then
          let r5 := n_spec_l1In a0.2.2.2.2.2.1 0 60000
          bif (!r5) then
            false
          else
            let r6 := n_spec_l1In a0.2.2.2.2.2.2.1 (-1) (IntKind.i64.wrap (a0.2.2.2.1 - 1))
            bif r6 then
              let r7 := n_spec_l1In a0.2.2.2.2.2.2.2 0 a0.2.2.2.2.1
              bif r7 then
                bif (!(leb 0 a0.2.2.2.2.2.2.1)) then
                  (a0.2.2.2.2.2.2.2 == 0)
                else
                  true
              else
                false
            else
              false
        else
          false
      else
        false
    else
      false
  else
    false
noncomputable def con_spec_SuperOk : Con := ⟨I_spec_SuperOk, U_spec_SuperOk, fun x => (fun n => some ((n, ()), ())) (n_spec_SuperOk x.1)⟩
theorem nn_spec_SuperOk (a0 : dS) : raw_spec_SuperOk a0 = (fun n => some ((n, ()), ())) (n_spec_SuperOk a0) := bif_ty (p := fun (n : Bool) => ((n, ()), ())) (bif_some (p := fun (n : Bool) => ((n, ()), ())) (bif_some (p := fun (n : Bool) => ((n, ()), ())) (bif_some (p := fun (n : Bool) => ((n, ()), ())) (bif_some (p := fun (n : Bool) => ((n, ()), ())) (bif_some (p := fun (n : Bool) => ((n, ()), ())) rfl (bif_some (p := fun (n : Bool) => ((n, ()), ())) (bif_some (p := fun (n : Bool) => ((n, ()), ())) (bif_some (p := fun (n : Bool) => ((n, ()), ())) rfl rfl) rfl) rfl)) rfl) rfl) rfl) rfl)
theorem ok_spec_SuperOk : ConOk Try.prog 146 con_spec_SuperOk := (ok0_spec_SuperOk).mono (fun x r _ h => (nn_spec_SuperOk x.1).trans h)
end

/-! spec_PutSuper -/
section
noncomputable def B_spec_PutSuper : Code := (Try.f119.body).getD .skip
noncomputable def E_spec_PutSuper : Env := envOf TT [(146, con_spec_SuperOk)] []
theorem fr_spec_PutSuper_0 : FrOk Try.prog ⟨E_spec_PutSuper, 25, fun _ => none⟩ B_spec_PutSuper := frOk_base mixed tt_ok ⟨ok_spec_SuperOk, trivial⟩
noncomputable def D_spec_PutSuper_0 : Nat → Option Seg := fun _ => none
abbrev I_spec_PutSuper : List Par := [.rd tS]
abbrev U_spec_PutSuper : List OT := [⟨false, tL, (.ow .fz)⟩]
noncomputable def raw_spec_PutSuper (a0 : dS) : Option (ResD U_spec_PutSuper × MutD I_spec_PutSuper) :=
  let r1 := n_spec_SuperOk a0
  bif (!r1) then
    some ((([] : List Int), ()), ())
  else
    some ((([21317, a0.1, a0.2.1, a0.2.2.1, a0.2.2.2.1, a0.2.2.2.2.1, a0.2.2.2.2.2.1, (IntKind.i64.wrap (a0.2.2.2.2.2.2.1 + 1)), a0.2.2.2.2.2.2.2] : List Int), ()), ())
theorem e_spec_PutSuper (x : InD I_spec_PutSuper) : execF ⟨E_spec_PutSuper, 25, D_spec_PutSuper_0⟩ Try.f119.results.toList B_spec_PutSuper I_spec_PutSuper U_spec_PutSuper x = raw_spec_PutSuper x.1 := by kernel_rfl
theorem ok0_spec_PutSuper : ConOk Try.prog 119 ⟨I_spec_PutSuper, U_spec_PutSuper, fun x => raw_spec_PutSuper x.1⟩ := conOk_exec (fr_spec_PutSuper_0) Try.func119 (by kernel_rfl) (by kernel_rfl) Try.ntmps119.symm (by decide) (fun x r h => (e_spec_PutSuper x).trans h)
noncomputable def n_spec_PutSuper (a0 : dS) : (List Int) :=
  let r1 := n_spec_SuperOk a0
  bif (!r1) then
    ([] : List Int)
  else
    ([21317, a0.1, a0.2.1, a0.2.2.1, a0.2.2.2.1, a0.2.2.2.2.1, a0.2.2.2.2.2.1, (IntKind.i64.wrap (a0.2.2.2.2.2.2.1 + 1)), a0.2.2.2.2.2.2.2] : List Int)
noncomputable def con_spec_PutSuper : Con := ⟨I_spec_PutSuper, U_spec_PutSuper, fun x => (fun n => some ((n, ()), ())) (n_spec_PutSuper x.1)⟩
theorem nn_spec_PutSuper (a0 : dS) : raw_spec_PutSuper a0 = (fun n => some ((n, ()), ())) (n_spec_PutSuper a0) := bif_ty (p := fun (n : (List Int)) => ((n, ()), ())) (bif_some (p := fun (n : (List Int)) => ((n, ()), ())) rfl rfl)
theorem ok_spec_PutSuper : ConOk Try.prog 119 con_spec_PutSuper := (ok0_spec_PutSuper).mono (fun x r _ h => (nn_spec_PutSuper x.1).trans h)
abbrev downA (a : dA) : Bool := a.2.2.2.2.2.2.2.2.2.2.1
def setFD (a : dA) (f : Int) (d : Bool) : dA := (a.1, a.2.1, a.2.2.1, a.2.2.2.1, a.2.2.2.2.1, a.2.2.2.2.2.1, a.2.2.2.2.2.2.1, a.2.2.2.2.2.2.2.1, a.2.2.2.2.2.2.2.2.1, f, d, a.2.2.2.2.2.2.2.2.2.2.2)
/-- an operation is counted; false: it is not done -/
def opA (a : dA) : Bool × dA := bif downA a then (false, a) else bif a.2.2.2.2.2.2.2.2.2.1 == 0 then (false, setFD a (-1) true) else bif ltb 0 a.2.2.2.2.2.2.2.2.2.1 then (true, setFD a (IntKind.i64.wrap (a.2.2.2.2.2.2.2.2.2.1 - 1)) (downA a)) else (true, a)
def setMem (a : dA) (m : Int) (x : dM) : dA := (a.1, a.2.1, a.2.2.1.set m.toNat x, a.2.2.2)
def putA (a : dA) (m n : Int) (s : List Int) : dA := bif (nth a.2.2.1 m noMem).2.2.1 then a else bif (opA a).1 then setMem (opA a).2 m (writeSec (nth a.2.2.1 m noMem) n s).1 else (opA a).2
def syncOne (a : dA) (i : Nat) : dA := bif (nth a.2.2.1 i noMem).2.2.1 then a else bif (opA a).1 then setMem (opA a).2 i (flushMem (nth a.2.2.1 i noMem)) else (opA a).2
def syncA (a : dA) : dA := (List.range a.2.2.1.length).foldl syncOne a
def supOf (a : dA) (i : Int) : dS := (a.1, a.2.2.2.2.2.2.2.1, i, a.2.1.1, a.2.1.2, a.2.2.2.2.2.2.1, a.2.2.2.1, a.2.2.2.2.1)
noncomputable def markOne (a : dA) (i : Nat) : dA := putA a i (a.2.2.2.2.2.2.2.1.tmod 2) (n_spec_PutSuper (supOf a i))
def genUp (a : dA) : dA := (a.1, a.2.1, a.2.2.1, a.2.2.2.1, a.2.2.2.2.1, a.2.2.2.2.2.1, a.2.2.2.2.2.2.1, IntKind.i64.wrap (a.2.2.2.2.2.2.2.1 + 1), a.2.2.2.2.2.2.2.2)
noncomputable def markA (a : dA) : dA := syncA ((List.range a.2.2.1.length).foldl markOne (genUp a))
theorem op_mems (a : dA) : (opA a).2.2.2.1 = a.2.2.1 := by
  unfold opA
  cases downA a
  · cases (a.2.2.2.2.2.2.2.2.2.1 == 0)
    · cases ltb 0 a.2.2.2.2.2.2.2.2.2.1 <;> rfl
    · rfl
  · rfl
theorem op_down {a : dA} (h : downA a = false) : downA (opA a).2 = !(opA a).1 := by
  unfold opA
  rw [h]
  cases (a.2.2.2.2.2.2.2.2.2.1 == 0)
  · cases ltb 0 a.2.2.2.2.2.2.2.2.2.1
    · exact h
    · rfl
  · rfl
theorem op_stop {a : dA} (h : downA a = true) : opA a = (false, a) := by unfold opA; rw [h]; rfl
theorem put_len (a : dA) (m n : Int) (s : List Int) : (putA a m n s).2.2.1.length = a.2.2.1.length := by
  unfold putA
  cases (nth a.2.2.1 m noMem).2.2.1
  · cases (opA a).1
    · show (opA a).2.2.2.1.length = _; rw [op_mems]
    · show ((opA a).2.2.2.1.set m.toNat _).length = _; rw [List.length_set, op_mems]
  · rfl
theorem syncOne_len (a : dA) (i : Nat) : (syncOne a i).2.2.1.length = a.2.2.1.length := by
  unfold syncOne
  cases (nth a.2.2.1 i noMem).2.2.1
  · cases (opA a).1
    · show (opA a).2.2.2.1.length = _; rw [op_mems]
    · show ((opA a).2.2.2.1.set _ _).length = _; rw [List.length_set, op_mems]
  · rfl
theorem fold_len {one : dA → Nat → dA} (h : ∀ a i, (one a i).2.2.1.length = a.2.2.1.length) : ∀ (l : List Nat) (a : dA), (l.foldl one a).2.2.1.length = a.2.2.1.length
  | [], _ => rfl
  | x :: l, a => by rw [List.foldl_cons, fold_len h l, h]
theorem sync_len (a : dA) : (syncA a).2.2.1.length = a.2.2.1.length := fold_len syncOne_len _ _
theorem put_stop {a : dA} (h : downA a = true) (m n : Int) (s : List Int) : putA a m n s = a := by
  unfold putA
  rw [op_stop h]
  cases (nth a.2.2.1 m noMem).2.2.1 <;> rfl
theorem syncOne_stop {a : dA} (i : Nat) (h : downA a = true) : syncOne a i = a := by
  unfold syncOne
  rw [op_stop h]
  cases (nth a.2.2.1 i noMem).2.2.1 <;> rfl
theorem fold_stop {one : dA → Nat → dA} (hs : ∀ a i, downA a = true → one a i = a) : ∀ (l : List Nat) (a : dA), downA a = true → l.foldl one a = a
  | [], _, _ => rfl
  | x :: l, a, h => by rw [List.foldl_cons, hs a x h]; exact fold_stop hs l a h
theorem sync_stop {a : dA} (h : downA a = true) : syncA a = a := fold_stop (fun _ i h => syncOne_stop i h) _ a h
theorem put_down {a : dA} (h : downA a = false) (m n : Int) (s : List Int) : downA (putA a m n s) = (!(nth a.2.2.1 m noMem).2.2.1 && !(opA a).1) := by
  have := op_down h
  unfold putA
  cases (nth a.2.2.1 m noMem).2.2.1
  · cases ho : (opA a).1
    · rw [ho] at this; exact this
    · rw [ho] at this; exact this
  · exact h
theorem syncOne_down {a : dA} (h : downA a = false) (i : Nat) : downA (syncOne a i) = (!(nth a.2.2.1 i noMem).2.2.1 && !(opA a).1) := by
  have := op_down h
  unfold syncOne
  cases (nth a.2.2.1 i noMem).2.2.1
  · cases ho : (opA a).1
    · rw [ho] at this; exact this
    · rw [ho] at this; exact this
  · exact h
theorem goE_fold {one : dA → Nat → dA} (hs : ∀ a i, downA a = true → one a i = a) : ∀ (k i : Nat) (s : dA), goE (fun i s => bif downA (one s i) then (.inr (one s i) : dA ⊕ dA) else .inl (one s i)) id k i s = (List.range' i k).foldl one s
  | 0, _, _ => rfl
  | k + 1, i, s => by
    rw [List.range'_succ, List.foldl_cons, goE]
    cases hd : downA (one s i)
    · exact goE_fold hs k (i + 1) (one s i)
    · exact (fold_stop hs _ _ hd).symm
theorem put_mems {a : dA} {m n : Int} {s : List Int} (h : okMems a.2.2.1) (hm : inb m a.2.2.1.length = true) : okMems (putA a m n s).2.2.1 := by
  unfold putA
  cases (nth a.2.2.1 m noMem).2.2.1
  · cases (opA a).1
    · show okMems (opA a).2.2.2.1; rw [op_mems]; exact h
    · show okMems ((opA a).2.2.2.1.set m.toNat _); rw [op_mems]; exact okMems_set h (write_ok _ _ (okMems_at h hm))
  · exact h
theorem syncOne_mems {a : dA} {i : Nat} (h : okMems a.2.2.1) (hi : i < a.2.2.1.length) : okMems (syncOne a i).2.2.1 := by
  unfold syncOne
  cases (nth a.2.2.1 i noMem).2.2.1
  · cases (opA a).1
    · show okMems (opA a).2.2.2.1; rw [op_mems]; exact h
    · show okMems ((opA a).2.2.2.1.set _ _); rw [op_mems]; exact okMems_set h (flush_ok (okMems_at h (inb_nat hi)))
  · exact h
theorem fold_mems {one : dA → Nat → dA} (hl : ∀ a i, (one a i).2.2.1.length = a.2.2.1.length) (ho : ∀ a i, okMems a.2.2.1 → i < a.2.2.1.length → okMems (one a i).2.2.1) : ∀ (n : Nat) (a : dA), n ≤ a.2.2.1.length → okMems a.2.2.1 → okMems ((List.range n).foldl one a).2.2.1
  | 0, _, _, h => h
  | n + 1, a, hn, h => by
    rw [List.range_succ, List.foldl_append]
    exact ho _ _ (fold_mems hl ho n a (by omega) h) (by rw [fold_len hl]; exact hn)
theorem sync_mems {a : dA} (h : okMems a.2.2.1) : okMems (syncA a).2.2.1 := fold_mems syncOne_len (fun _ _ => syncOne_mems) _ a (Nat.le_refl _) h
theorem mark_mems {a : dA} (h : okMems a.2.2.1) : okMems (markA a).2.2.1 :=
  sync_mems (fold_mems (one := markOne) (fun _ _ => put_len _ _ _ _) (fun _ _ h hi => put_mems h (inb_nat hi)) _ (genUp a) (Nat.le_refl _) h)
theorem mark_len (a : dA) : (markA a).2.2.1.length = a.2.2.1.length := (sync_len _).trans (fold_len (one := markOne) (fun _ _ => put_len _ _ _ _) _ (genUp a))
theorem op_dirty (a : dA) : (opA a).2.2.2.2.2.2.2.2.2.1 = a.2.2.2.2.2.2.2.2.1 := by
  unfold opA
  cases downA a
  · cases (a.2.2.2.2.2.2.2.2.2.1 == 0)
    · cases ltb 0 a.2.2.2.2.2.2.2.2.2.1 <;> rfl
    · rfl
  · rfl
theorem put_dirty (a : dA) (m n : Int) (s : List Int) : (putA a m n s).2.2.2.2.2.2.2.2.1 = a.2.2.2.2.2.2.2.2.1 := by
  unfold putA
  cases (nth a.2.2.1 m noMem).2.2.1
  · cases (opA a).1
    · exact op_dirty a
    · exact op_dirty a
  · rfl
theorem syncOne_dirty (a : dA) (i : Nat) : (syncOne a i).2.2.2.2.2.2.2.2.1 = a.2.2.2.2.2.2.2.2.1 := by
  unfold syncOne
  cases (nth a.2.2.1 i noMem).2.2.1
  · cases (opA a).1
    · exact op_dirty a
    · exact op_dirty a
  · rfl
theorem fold_dirty {one : dA → Nat → dA} (h : ∀ a i, (one a i).2.2.2.2.2.2.2.2.1 = a.2.2.2.2.2.2.2.2.1) : ∀ (l : List Nat) (a : dA), (l.foldl one a).2.2.2.2.2.2.2.2.1 = a.2.2.2.2.2.2.2.2.1
  | [], _ => rfl
  | x :: l, a => by rw [List.foldl_cons, fold_dirty h l, h]
theorem sync_dirty (a : dA) : (syncA a).2.2.2.2.2.2.2.2.1 = a.2.2.2.2.2.2.2.2.1 := fold_dirty syncOne_dirty _ _
theorem mark_dirty (a : dA) : (markA a).2.2.2.2.2.2.2.2.1 = a.2.2.2.2.2.2.2.2.1 := (sync_dirty _).trans (fold_dirty (one := markOne) (fun _ _ => put_dirty _ _ _ _) _ (genUp a))
/-- a bound of a result's marks -/
theorem arr_small {a x : dA} (ha : mArr a ≤ 2097152) (hl : x.2.2.1.length ≤ 5) (hm : okMems x.2.2.1) (hd : x.2.2.2.2.2.2.2.2.1 = a.2.2.2.2.2.2.2.2.1) : mArr x ≤ 2105000 := by
  have := okMems_small hm
  have : x.2.2.1.length * 1041 ≤ 5 * 1041 := Nat.mul_le_mul_right _ hl
  unfold mArr at ha ⊢
  rw [hd]
  omega
theorem arr_five {a : dA} (h : arrOk a = true) : a.2.2.1.length ≤ 5 := by
  have h1 := geo_iff.1 (arrOk_geo h)
  have h2 := arrOk_len h
  omega
def tailUp (a : dA) : dA := (a.1, a.2.1, a.2.2.1, a.2.2.2.1, a.2.2.2.2.1, a.2.2.2.2.2.1, a.2.2.2.2.2.1, a.2.2.2.2.2.2.2)
noncomputable def checkA (a : dA) : dA := bif downA (syncA a) then syncA a else markA (tailUp (syncA a))
theorem check_mems {a : dA} (h : okMems a.2.2.1) : okMems (checkA a).2.2.1 := by
  unfold checkA
  cases downA (syncA a)
  · exact mark_mems (a := tailUp (syncA a)) (sync_mems h)
  · exact sync_mems h
theorem check_len (a : dA) : (checkA a).2.2.1.length = a.2.2.1.length := by
  unfold checkA
  cases downA (syncA a)
  · exact (mark_len (tailUp (syncA a))).trans (sync_len a)
  · exact sync_len a
theorem check_dirty (a : dA) : (checkA a).2.2.2.2.2.2.2.2.1 = a.2.2.2.2.2.2.2.2.1 := by
  unfold checkA
  cases downA (syncA a)
  · exact (mark_dirty (tailUp (syncA a))).trans (sync_dirty a)
  · exact sync_dirty a
def adoptEnd (b : dA) : dA := (b.1, b.2.1, b.2.2.1, -1, 0, b.2.2.2.2.2)
noncomputable def adoptOne (a : dA) : dA × Int := bif downA (checkA a) then (checkA a, 6) else (markA (adoptEnd (checkA a)), bif downA (markA (adoptEnd (checkA a))) then 6 else 0)
noncomputable def adoptA (a : dA) : dA × Int :=
  bif !(arrOk a) then (a, 1) else bif downA a then (a, 6) else bif a.2.2.2.1 == -1 || ((nth a.2.2.1 a.2.2.2.1 noMem).2.2.1 || ltb a.2.2.2.2.1 a.2.1.2) then (a, 2) else bif a.2.2.2.2.2.2.2.2.2.2.2 then (a, 5) else bif leb 59990 a.2.2.2.2.2.2.2.1 then (a, 7) else adoptOne a
theorem adopt_small {a : dA} (ha : mArr a ≤ 2097152) : mArr (adoptA a).1 ≤ 2105000 := by
  have h0 : mArr a ≤ 2105000 := by omega
  unfold adoptA
  cases hk : arrOk a
  · exact h0
  have h5 := arr_five hk
  have hc := check_mems (arr_okMems hk)
  have hn := arr_small (x := markA (adoptEnd (checkA a))) ha (by rw [mark_len, show (adoptEnd (checkA a)).2.2.1 = (checkA a).2.2.1 from rfl, check_len]; exact h5) (mark_mems (a := adoptEnd (checkA a)) hc) ((mark_dirty _).trans (check_dirty a))
  have hn2 := arr_small (x := checkA a) ha (by rw [check_len]; exact h5) hc (check_dirty a)
  cases downA a
  · cases (a.2.2.2.1 == -1 || ((nth a.2.2.1 a.2.2.2.1 noMem).2.2.1 || ltb a.2.2.2.2.1 a.2.1.2))
    · cases a.2.2.2.2.2.2.2.2.2.2.2
      · cases leb 59990 a.2.2.2.2.2.2.2.1
        · show mArr (adoptOne a).1 ≤ _
          unfold adoptOne
          cases downA (checkA a)
          · exact hn
          · exact hn2
        · exact h0
      · exact h0
    · exact h0
  · exact h0
/-- what an operation on the disks leaves -/
def coreA (a : dA) : Int × (Int × Int) × Int × Int × Int × Int × Int × List dW × Bool := (a.1, a.2.1, a.2.2.2.1, a.2.2.2.2.1, a.2.2.2.2.2.1, a.2.2.2.2.2.2.1, a.2.2.2.2.2.2.2.1, a.2.2.2.2.2.2.2.2.1, a.2.2.2.2.2.2.2.2.2.2.2)
theorem op_core (a : dA) : coreA (opA a).2 = coreA a := by
  unfold opA
  cases downA a
  · cases (a.2.2.2.2.2.2.2.2.2.1 == 0)
    · cases ltb 0 a.2.2.2.2.2.2.2.2.2.1 <;> rfl
    · rfl
  · rfl
theorem put_core (a : dA) (m n : Int) (s : List Int) : coreA (putA a m n s) = coreA a := by
  unfold putA
  cases (nth a.2.2.1 m noMem).2.2.1
  · cases (opA a).1
    · exact op_core a
    · exact op_core a
  · rfl
theorem syncOne_core (a : dA) (i : Nat) : coreA (syncOne a i) = coreA a := by
  unfold syncOne
  cases (nth a.2.2.1 i noMem).2.2.1
  · cases (opA a).1
    · exact op_core a
    · exact op_core a
  · rfl
theorem fold_core {one : dA → Nat → dA} (h : ∀ a i, coreA (one a i) = coreA a) : ∀ (l : List Nat) (a : dA), coreA (l.foldl one a) = coreA a
  | [], _ => rfl
  | x :: l, a => by rw [List.foldl_cons, fold_core h l, h]
theorem sync_core (a : dA) : coreA (syncA a) = coreA a := fold_core syncOne_core _ _
theorem mark_core (a : dA) : coreA (markA a) = coreA (genUp a) := (sync_core _).trans (fold_core (one := markOne) (fun _ _ => put_core _ _ _ _) _ _)
theorem core_geo {a b : dA} (h : coreA a = coreA b) : a.2.1 = b.2.1 := congrArg (fun x => x.2.1) h
theorem core_built {a b : dA} (h : coreA a = coreA b) : a.2.2.2.2.1 = b.2.2.2.2.1 := congrArg (fun x => x.2.2.2.1) h
theorem core_dirty {a b : dA} (h : coreA a = coreA b) : a.2.2.2.2.2.2.2.2.1 = b.2.2.2.2.2.2.2.2.1 := congrArg (fun x => x.2.2.2.2.2.2.2.1) h
/-- an array whose disks are right, with this in memory -/
def Near (d : List dW) (x : dA) : Prop := x.2.2.1.length ≤ 5 ∧ okMems x.2.2.1 ∧ x.2.2.2.2.2.2.2.2.1 = d
theorem near_arr {a : dA} (h : arrOk a = true) : Near a.2.2.2.2.2.2.2.2.1 a := ⟨arr_five h, arr_okMems h, rfl⟩
theorem near_put {d : List dW} {a : dA} {m n : Int} {s : List Int} (h : Near d a) (hm : inb m a.2.2.1.length = true) : Near d (putA a m n s) := ⟨by rw [put_len]; exact h.1, put_mems h.2.1 hm, (put_dirty _ _ _ _).trans h.2.2⟩
theorem near_sync {d : List dW} {a : dA} (h : Near d a) : Near d (syncA a) := ⟨by rw [sync_len]; exact h.1, sync_mems h.2.1, (sync_dirty _).trans h.2.2⟩
theorem near_mark {d : List dW} {a : dA} (h : Near d a) : Near d (markA a) := ⟨by rw [mark_len]; exact h.1, mark_mems h.2.1, (mark_dirty _).trans h.2.2⟩
theorem near_check {d : List dW} {a : dA} (h : Near d a) : Near d (checkA a) := ⟨by rw [check_len]; exact h.1, check_mems h.2.1, (check_dirty _).trans h.2.2⟩
theorem near_small {d : List dW} {x : dA} (h : Near d x) : mArr x ≤ mEnts d + 5205 := by
  have := okMems_small h.2.1
  have : x.2.2.1.length * 1041 ≤ 5 * 1041 := Nat.mul_le_mul_right _ h.1
  unfold mArr
  rw [h.2.2]
  omega
theorem arr_near {a x : dA} (ha : mArr a ≤ 2097152) (h : Near a.2.2.2.2.2.2.2.2.1 x) : mArr x ≤ 2105000 := by
  have := near_small h
  unfold mArr at ha
  omega
theorem near_adopt {d : List dW} {a : dA} (h : Near d a) : Near d (adoptA a).1 := by
  have hn : Near d (markA (adoptEnd (checkA a))) := near_mark (a := adoptEnd (checkA a)) (near_check h)
  unfold adoptA
  cases arrOk a
  · exact h
  cases downA a
  · cases (a.2.2.2.1 == -1 || ((nth a.2.2.1 a.2.2.2.1 noMem).2.2.1 || ltb a.2.2.2.2.1 a.2.1.2))
    · cases a.2.2.2.2.2.2.2.2.2.2.2
      · cases leb 59990 a.2.2.2.2.2.2.2.1
        · show Near d (adoptOne a).1
          unfold adoptOne
          cases downA (checkA a)
          · exact hn
          · exact near_check h
        · exact h
      · exact h
    · exact h
  · exact h
end

/-! spec_SpoilAt -/
section
noncomputable def B_spec_SpoilAt : Code := (Try.f27.body).getD .skip
noncomputable def E_spec_SpoilAt : Env := envOf TT [(58, con_spec_l6Copy), (59, con_spec_ArrOk), (60, con_spec_l1In), (61, con_spec_SpoilSec), (62, con_spec_DataAt)] []
theorem fr_spec_SpoilAt_0 : FrOk Try.prog ⟨E_spec_SpoilAt, 41, fun _ => none⟩ B_spec_SpoilAt := frOk_base mixed tt_ok ⟨ok_spec_l6Copy, ok_spec_ArrOk, ok_spec_l1In, ok_spec_SpoilSec, ok_spec_DataAt, trivial⟩
noncomputable def D_spec_SpoilAt_0 : Nat → Option Seg := fun _ => none
abbrev I_spec_SpoilAt : List Par := [.rd tA, .rd tI, .rd tI]
abbrev U_spec_SpoilAt : List OT := [⟨false, tA, (.pr .fz (.pr (.pr .fz .fz) (.pr (.ow (.pr (.ow .fz) (.pr (.ow (.pr .fz .fz)) (.pr .fz (.ow .fz))))) (.pr .fz (.pr .fz (.pr .fz (.pr .fz (.pr .fz (.pr (.ow (.pr .fz .fz)) (.pr .fz (.pr .fz .fz)))))))))))⟩]
noncomputable def raw_spec_SpoilAt (a0 : dA) (a1 a2 : Int) : Option (ResD U_spec_SpoilAt × MutD I_spec_SpoilAt) :=
  let r1 := n_spec_l6Copy a0
  let r2 := n_spec_ArrOk a0
  bif r2 then
    let r3 := n_spec_l1In a1 0 (IntKind.i64.wrap ((a0.2.2.1.length : Int) - 1))
    bif r3 then
      let r4 := n_spec_l1In a2 0 (IntKind.i64.wrap (a0.2.1.2 - 1))
      bif r4 then
        bif (inb a1 a0.2.2.1.length) then
          let r5 := n_spec_DataAt a2
          let r6 := n_spec_SpoilSec ((nth a0.2.2.1 a1 ([], [], false, [])).1, ((nth a0.2.2.1 a1 ([], [], false, [])).2).1, (((nth a0.2.2.1 a1 ([], [], false, [])).2).2)) r5
          bif (inb a1 r1.2.2.1.length) then
            some (((r1.1, r1.2.1, (r1.2.2.1.set (a1).toNat r6), r1.2.2.2), ()), ())
          else none
        else none
      else
        some ((r1, ()), ())
    else
      some ((r1, ()), ())
  else
    some ((r1, ()), ())
theorem e_spec_SpoilAt (x : InD I_spec_SpoilAt) : execF ⟨E_spec_SpoilAt, 41, D_spec_SpoilAt_0⟩ Try.f27.results.toList B_spec_SpoilAt I_spec_SpoilAt U_spec_SpoilAt x = raw_spec_SpoilAt x.1 x.2.1 x.2.2.1 := by kernel_rfl
theorem ok0_spec_SpoilAt : ConOk Try.prog 27 ⟨I_spec_SpoilAt, U_spec_SpoilAt, fun x => raw_spec_SpoilAt x.1 x.2.1 x.2.2.1⟩ := conOk_exec (fr_spec_SpoilAt_0) Try.func27 (by kernel_rfl) (by kernel_rfl) Try.ntmps27.symm (by decide) (fun x r h => (e_spec_SpoilAt x).trans h)
noncomputable def spoilAt (a : dA) (m s : Int) : dA := bif arrOk a && (inb m a.2.2.1.length && strOk a.2.1 s) then (a.1, a.2.1, a.2.2.1.set m.toNat (spoil (nth a.2.2.1 m noMem) (dataAt s)), a.2.2.2) else a
noncomputable def n_spec_SpoilAt (a0 : dA) (a1 a2 : Int) : dA := spoilAt a0 a1 a2
theorem nn_spec_SpoilAt (a0 : dA) (a1 a2 : Int) (hk : InOk I_spec_SpoilAt (a0, a1, a2, ())) : raw_spec_SpoilAt a0 a1 a2 = (fun n => some ((n, ()), ())) (n_spec_SpoilAt a0 a1 a2) := by
  unfold raw_spec_SpoilAt n_spec_SpoilAt spoilAt
  simp only [n_spec_l6Copy, n_spec_ArrOk, spec_dataAt_eq, n_spec_SpoilSec]
  cases ha : arrOk a0
  · rfl
  · have hg := geo_iff.1 (arrOk_geo ha)
    have h5 := arr_five ha
    rw [in_eq, wr (show -9223372036854775808 ≤ (a0.2.2.1.length : Int) - 1 by omega) (by omega), in_eq, wr (show -9223372036854775808 ≤ a0.2.1.2 - 1 by omega) (by omega), show (leb 0 a2 && leb a2 (a0.2.1.2 - 1)) = strOk a0.2.1 a2 by unfold strOk; rw [arrOk_geo ha]; rfl,
      show (leb 0 a1 && leb a1 ((a0.2.2.1.length : Int) - 1)) = inb a1 a0.2.2.1.length by rw [Bool.eq_iff_iff, Bool.and_eq_true, leb_iff, leb_iff, inb_iff]; omega]
    cases hi : inb a1 a0.2.2.1.length
    · rfl
    · cases strOk a0.2.1 a2 <;> rfl
noncomputable def con_spec_SpoilAt : Con := ⟨I_spec_SpoilAt, U_spec_SpoilAt, fun x => (fun n => some ((n, ()), ())) (n_spec_SpoilAt x.1 x.2.1 x.2.2.1)⟩
theorem ok_spec_SpoilAt : ConOk Try.prog 27 con_spec_SpoilAt := (ok0_spec_SpoilAt).mono (fun x r hk h => (nn_spec_SpoilAt x.1 x.2.1 x.2.2.1 hk).trans h)
end

/-! laws_toGeo -/
section
noncomputable def B_laws_toGeo : Code := (Try.f63.body).getD .skip
noncomputable def E_laws_toGeo : Env := envOf TT [] []
theorem fr_laws_toGeo_0 : FrOk Try.prog ⟨E_laws_toGeo, 11, fun _ => none⟩ B_laws_toGeo := frOk_base mixed tt_ok trivial
noncomputable def D_laws_toGeo_0 : Nat → Option Seg := fun _ => none
abbrev I_laws_toGeo : List Par := [.rd tG]
abbrev U_laws_toGeo : List OT := [⟨false, tG, (.pr .fz .fz)⟩]
noncomputable def raw_laws_toGeo (a0 : dG) : Option (ResD U_laws_toGeo × MutD I_laws_toGeo) :=
  some ((a0, ()), ())
theorem e_laws_toGeo (x : InD I_laws_toGeo) : execF ⟨E_laws_toGeo, 11, D_laws_toGeo_0⟩ Try.f63.results.toList B_laws_toGeo I_laws_toGeo U_laws_toGeo x = raw_laws_toGeo x.1 := by kernel_rfl
theorem ok0_laws_toGeo : ConOk Try.prog 63 ⟨I_laws_toGeo, U_laws_toGeo, fun x => raw_laws_toGeo x.1⟩ := conOk_exec (fr_laws_toGeo_0) Try.func63 (by kernel_rfl) (by kernel_rfl) Try.ntmps63.symm (by decide) (fun x r h => (e_laws_toGeo x).trans h)
noncomputable def n_laws_toGeo (a0 : dG) : dG :=
  a0
noncomputable def con_laws_toGeo : Con := ⟨I_laws_toGeo, U_laws_toGeo, fun x => (fun n => some ((n, ()), ())) (n_laws_toGeo x.1)⟩
theorem nn_laws_toGeo (a0 : dG) : raw_laws_toGeo a0 = (fun n => some ((n, ()), ())) (n_laws_toGeo a0) := bif_ty (p := fun (n : dG) => ((n, ()), ())) rfl
theorem ok_laws_toGeo : ConOk Try.prog 63 con_laws_toGeo := (ok0_laws_toGeo).mono (fun x r _ h => (nn_laws_toGeo x.1).trans h)
theorem id_laws_toGeo (a : dG) : n_laws_toGeo a = a := by kernel_rfl
end

/-! laws_toIntS -/
section
noncomputable def B_laws_toIntS : Code := (Try.f140.body).getD .skip
noncomputable def E_laws_toIntS : Env := envOf TT [] []
theorem fr_laws_toIntS_0 : FrOk Try.prog ⟨E_laws_toIntS, 22, fun _ => none⟩ B_laws_toIntS := frOk_base mixed tt_ok trivial
noncomputable def D_laws_toIntS_0 : Nat → Option Seg := fun _ => none
def L_laws_toIntS_29 : Shape := ⟨[(0, false, [.br tI]), (3, false, [.at 800000000]), (4, false, [.int .i64])], [], [(800000000, tI, .fz)]⟩
def S_laws_toIntS_29 : Shape := ⟨[(0, false, [.br tI]), (3, false, [.at 800000000]), (4, false, [.ci .i64 0])], [], [(800000000, tI, .fz)]⟩
def O_laws_toIntS_29 : Shape := ⟨[(3, false, [.at 800000000])], [], [(800000000, tI, .fz)]⟩
def Z_laws_toIntS_29 : Shape := ⟨[], [], []⟩
noncomputable def st_laws_toIntS_29 (v0 : List Int) (v1 : Int) (v2 : List Int) : Option ((L_laws_toIntS_29).X ⊕ ((O_laws_toIntS_29).X ⊕ (Z_laws_toIntS_29).X)) :=
  bif (ltb v1 (v0.length : Int)) then
    bif (inb v1 v0.length) then
      bif (inb v1 v2.length) then
        some (.inl (((v0, ()), ((), ()), ((IntKind.i64.wrap (v1 + 1)), ()), ()), (), ((v2.set (v1).toNat (nth v0 v1 0)), ())))
      else none
    else none
  else
    some (.inr (.inl ((((), ()), ()), (), (v2, ()))))
noncomputable def stx_laws_toIntS_29 (x : (L_laws_toIntS_29).X) := st_laws_toIntS_29 x.1.1.1 x.1.2.2.1.1 x.2.2.1
def em_laws_toIntS_29 (x : (S_laws_toIntS_29).X) : (L_laws_toIntS_29).X := (((x.1.1.1, ()), ((), ()), (0, ()), ()), (), (x.2.2.1, ()))
noncomputable def c_laws_toIntS_29 : Code := (subN B_laws_toIntS 64 116).getD .skip
theorem a_laws_toIntS_29 : subN B_laws_toIntS 64 29 = some (.block 0 (.loop c_laws_toIntS_29)) := by kernel_rfl
theorem r_laws_toIntS_29 (x : (L_laws_toIntS_29).X) : roundT ⟨E_laws_toIntS, 22, D_laws_toIntS_0⟩ 0 c_laws_toIntS_29 116 L_laws_toIntS_29 O_laws_toIntS_29 Z_laws_toIntS_29 x = stx_laws_toIntS_29 x := by kernel_rfl
def fu_laws_toIntS_29 (x : (S_laws_toIntS_29).X) : Nat := 18446744073709551616
noncomputable def F_laws_toIntS_29 (x : (S_laws_toIntS_29).X) : Option ((O_laws_toIntS_29).X ⊕ (Z_laws_toIntS_29).X) := loopN stx_laws_toIntS_29 (fu_laws_toIntS_29 x) (em_laws_toIntS_29 x)
noncomputable def sg_laws_toIntS_29 : Seg := ⟨S_laws_toIntS_29, O_laws_toIntS_29, Z_laws_toIntS_29, F_laws_toIntS_29⟩
noncomputable def D_laws_toIntS_1 : Nat → Option Seg := fun q => bif Nat.beq q 29 then some sg_laws_toIntS_29 else D_laws_toIntS_0 q
theorem fr_laws_toIntS_1 : FrOk Try.prog ⟨E_laws_toIntS, 22, D_laws_toIntS_1⟩ B_laws_toIntS := (fr_laws_toIntS_0).loop (sg := sg_laws_toIntS_29) L_laws_toIntS_29 em_laws_toIntS_29 (by decide) a_laws_toIntS_29 stx_laws_toIntS_29 fu_laws_toIntS_29 (by decide) (fun _ => rfl) (fun x r _ h => h) r_laws_toIntS_29
abbrev I_laws_toIntS : List Par := [.rd tL]
abbrev U_laws_toIntS : List OT := [⟨false, tL, (.ow .fz)⟩]
noncomputable def raw_laws_toIntS (a0 : List Int) : Option (ResD U_laws_toIntS × MutD I_laws_toIntS) :=
  bif (mkok (a0.length : Int) 8) then
    segM (F_laws_toIntS_29 (((a0, ()), ((), ()), ((), ()), ()), (), ((List.replicate ((a0.length : Int)).toNat (0 : Int)), ()))) (fun y0 =>
      some ((y0.2.2.1, ()), ())) (fun y0 =>
      none)
  else none
theorem e_laws_toIntS (x : InD I_laws_toIntS) : execF ⟨E_laws_toIntS, 22, D_laws_toIntS_1⟩ Try.f140.results.toList B_laws_toIntS I_laws_toIntS U_laws_toIntS x = raw_laws_toIntS x.1 := by kernel_rfl
theorem ok0_laws_toIntS : ConOk Try.prog 140 ⟨I_laws_toIntS, U_laws_toIntS, fun x => raw_laws_toIntS x.1⟩ := conOk_exec (fr_laws_toIntS_1) Try.func140 (by kernel_rfl) (by kernel_rfl) Try.ntmps140.symm (by decide) (fun x r h => (e_laws_toIntS x).trans h)
noncomputable def n_laws_toIntS (a0 : List Int) : List Int := a0
theorem nn_laws_toIntS (a0 : List Int) (hk : InOk I_laws_toIntS (a0, ())) : raw_laws_toIntS a0 = (fun n => some ((n, ()), ())) (n_laws_toIntS a0) := by
  have hb : a0.length * 8 ≤ 2 ^ 47 := hk.1.1
  have hs : ∀ i, i < a0.length → (a0.take i ++ List.replicate (a0.length - i) (0 : Int)).set i (a0.getD i 0) = a0.take (i + 1) ++ List.replicate (a0.length - (i + 1)) 0 := fun i hi => by
    have hl : (a0.take i).length = i := by rw [List.length_take]; omega
    rw [List.set_append_right _ _ (by rw [hl]; exact Nat.le_refl _), hl, Nat.sub_self, List.take_add_one, List.append_assoc, show a0.length - i = (a0.length - (i + 1)) + 1 by omega, List.replicate_succ]
    simp [hi]
  have hl : F_laws_toIntS_29 (((a0, ()), ((), ()), ((), ()), ()), (), ((a0.take 0 ++ List.replicate (a0.length - 0) 0), ())) = some (.inl ((((), ()), ()), (), (a0.take a0.length ++ List.replicate (a0.length - a0.length) 0, ()))) :=
    loopN_up (step := stx_laws_toIntS_29) (fun i => (((a0, ()), ((), ()), ((i : Int), ()), ()), (), (a0.take i ++ List.replicate (a0.length - i) 0, ()))) a0.length _ (fun i hi => by
      have hL : (a0.take i ++ List.replicate (a0.length - i) (0 : Int)).length = a0.length := by rw [List.length_append, List.length_take, List.length_replicate]; omega
      simp only [stx_laws_toIntS_29, st_laws_toIntS_29, hL, inb_nat hi, nth_nat, Int.toNat_natCast, ltb_t (show (i : Int) < a0.length by omega), cond_true, wr (show -9223372036854775808 ≤ (i : Int) + 1 by omega) (by omega), Int.natCast_add, Int.natCast_one, hs i hi]) (by
      simp only [stx_laws_toIntS_29, st_laws_toIntS_29, ltb_f (Int.le_refl _), cond_false]) _ (by show _ < 18446744073709551616; omega)
  unfold raw_laws_toIntS n_laws_toIntS
  rw [List.take_zero, List.nil_append, Nat.sub_zero] at hl
  rw [show mkok (a0.length : Int) 8 = true by rw [mkok_iff]; omega, bif_t, Int.toNat_natCast, hl]
  simp [segM]
noncomputable def con_laws_toIntS : Con := ⟨I_laws_toIntS, U_laws_toIntS, fun x => (fun n => some ((n, ()), ())) (n_laws_toIntS x.1)⟩
theorem ok_laws_toIntS : ConOk Try.prog 140 con_laws_toIntS := (ok0_laws_toIntS).mono (fun x r hk h => (nn_laws_toIntS x.1 hk).trans h)
theorem id_laws_toIntS (a : List Int) : n_laws_toIntS a = a := by kernel_rfl
end

/-! laws_toIntSS -/
section
noncomputable def B_laws_toIntSS : Code := (Try.f138.body).getD .skip
noncomputable def E_laws_toIntSS : Env := envOf TT [(140, con_laws_toIntS)] []
theorem fr_laws_toIntSS_0 : FrOk Try.prog ⟨E_laws_toIntSS, 23, fun _ => none⟩ B_laws_toIntSS := frOk_base mixed tt_ok ⟨ok_laws_toIntS, trivial⟩
noncomputable def D_laws_toIntSS_0 : Nat → Option Seg := fun _ => none
def L_laws_toIntSS_29 : Shape := ⟨[(0, false, [.br tL]), (3, false, [.at 800000000]), (4, false, [.int .i64])], [], [(800000000, tL, (.ow .fz))]⟩
def S_laws_toIntSS_29 : Shape := ⟨[(0, false, [.br tL]), (3, false, [.at 800000000]), (4, false, [.ci .i64 0])], [], [(800000000, tL, (.ow .fz))]⟩
def O_laws_toIntSS_29 : Shape := ⟨[(3, false, [.at 800000000])], [], [(800000000, tL, (.ow .fz))]⟩
def Z_laws_toIntSS_29 : Shape := ⟨[], [], []⟩
noncomputable def st_laws_toIntSS_29 (v0 : List (List Int)) (v1 : Int) (v2 : List (List Int)) : Option ((L_laws_toIntSS_29).X ⊕ ((O_laws_toIntSS_29).X ⊕ (Z_laws_toIntSS_29).X)) :=
  bif (ltb v1 (v0.length : Int)) then
    bif (inb v1 v0.length) then
      let r2 := n_laws_toIntS (nth v0 v1 [])
      bif (inb v1 v2.length) then
        some (.inl (((v0, ()), ((), ()), ((IntKind.i64.wrap (v1 + 1)), ()), ()), (), ((v2.set (v1).toNat r2), ())))
      else none
    else none
  else
    some (.inr (.inl ((((), ()), ()), (), (v2, ()))))
noncomputable def stx_laws_toIntSS_29 (x : (L_laws_toIntSS_29).X) := st_laws_toIntSS_29 x.1.1.1 x.1.2.2.1.1 x.2.2.1
def em_laws_toIntSS_29 (x : (S_laws_toIntSS_29).X) : (L_laws_toIntSS_29).X := (((x.1.1.1, ()), ((), ()), (0, ()), ()), (), (x.2.2.1, ()))
noncomputable def c_laws_toIntSS_29 : Code := (subN B_laws_toIntSS 64 116).getD .skip
theorem a_laws_toIntSS_29 : subN B_laws_toIntSS 64 29 = some (.block 0 (.loop c_laws_toIntSS_29)) := by kernel_rfl
theorem r_laws_toIntSS_29 (x : (L_laws_toIntSS_29).X) : roundT ⟨E_laws_toIntSS, 23, D_laws_toIntSS_0⟩ 0 c_laws_toIntSS_29 116 L_laws_toIntSS_29 O_laws_toIntSS_29 Z_laws_toIntSS_29 x = stx_laws_toIntSS_29 x := by kernel_rfl
def fu_laws_toIntSS_29 (x : (S_laws_toIntSS_29).X) : Nat := 18446744073709551616
noncomputable def F_laws_toIntSS_29 (x : (S_laws_toIntSS_29).X) : Option ((O_laws_toIntSS_29).X ⊕ (Z_laws_toIntSS_29).X) := loopN stx_laws_toIntSS_29 (fu_laws_toIntSS_29 x) (em_laws_toIntSS_29 x)
noncomputable def sg_laws_toIntSS_29 : Seg := ⟨S_laws_toIntSS_29, O_laws_toIntSS_29, Z_laws_toIntSS_29, F_laws_toIntSS_29⟩
noncomputable def D_laws_toIntSS_1 : Nat → Option Seg := fun q => bif Nat.beq q 29 then some sg_laws_toIntSS_29 else D_laws_toIntSS_0 q
theorem fr_laws_toIntSS_1 : FrOk Try.prog ⟨E_laws_toIntSS, 23, D_laws_toIntSS_1⟩ B_laws_toIntSS := (fr_laws_toIntSS_0).loop (sg := sg_laws_toIntSS_29) L_laws_toIntSS_29 em_laws_toIntSS_29 (by decide) a_laws_toIntSS_29 stx_laws_toIntSS_29 fu_laws_toIntSS_29 (by decide) (fun _ => rfl) (fun x r _ h => h) r_laws_toIntSS_29
abbrev I_laws_toIntSS : List Par := [.rd tLL]
abbrev U_laws_toIntSS : List OT := [⟨false, tLL, (.ow (.ow .fz))⟩]
noncomputable def raw_laws_toIntSS (a0 : List (List Int)) : Option (ResD U_laws_toIntSS × MutD I_laws_toIntSS) :=
  bif (mkok (a0.length : Int) 24) then
    segM (F_laws_toIntSS_29 (((a0, ()), ((), ()), ((), ()), ()), (), ((List.replicate ((a0.length : Int)).toNat ([] : List Int)), ()))) (fun y2 =>
      some ((y2.2.2.1, ()), ())) (fun y2 =>
      none)
  else none
theorem e_laws_toIntSS (x : InD I_laws_toIntSS) : execF ⟨E_laws_toIntSS, 23, D_laws_toIntSS_1⟩ Try.f138.results.toList B_laws_toIntSS I_laws_toIntSS U_laws_toIntSS x = raw_laws_toIntSS x.1 := by kernel_rfl
theorem ok0_laws_toIntSS : ConOk Try.prog 138 ⟨I_laws_toIntSS, U_laws_toIntSS, fun x => raw_laws_toIntSS x.1⟩ := conOk_exec (fr_laws_toIntSS_1) Try.func138 (by kernel_rfl) (by kernel_rfl) Try.ntmps138.symm (by decide) (fun x r h => (e_laws_toIntSS x).trans h)
noncomputable def n_laws_toIntSS (a0 : List (List Int)) : List (List Int) := a0
theorem nn_laws_toIntSS (a0 : List (List Int)) (hk : InOk I_laws_toIntSS (a0, ())) : raw_laws_toIntSS a0 = (fun n => some ((n, ()), ())) (n_laws_toIntSS a0) := by
  have hb : a0.length * 24 ≤ 2 ^ 47 := hk.1.1
  have hl : F_laws_toIntSS_29 (((a0, ()), ((), ()), ((), ()), ()), (), ((List.replicate a0.length ([] : List Int)), ())) = some (.inl ((((), ()), ()), (), (a0, ()))) :=
    loopN_fill (step := stx_laws_toIntSS_29) a0 ([] : List Int) (fun i m => (((a0, ()), ((), ()), ((i : Int), ()), ()), (), (m, ()))) (fun m => .inl ((((), ()), ()), (), (m, ()))) (fun i m hi hm => by
      simp only [stx_laws_toIntSS_29, st_laws_toIntSS_29, inb_nat (show i < m.length by omega), inb_nat hi, nth_nat, Int.toNat_natCast, ltb_t (show (i : Int) < a0.length by omega), cond_true, wr (show -9223372036854775808 ≤ (i : Int) + 1 by omega) (by omega), Int.natCast_add, Int.natCast_one, pr_eta, id_laws_toIntS]) (fun m hm => by
      simp only [stx_laws_toIntSS_29, st_laws_toIntSS_29, ltb_f (Int.le_refl _), cond_false]) _ (by show _ < 18446744073709551616; omega)
  unfold raw_laws_toIntSS n_laws_toIntSS
  rw [show mkok (a0.length : Int) 24 = true by rw [mkok_iff]; omega, bif_t, Int.toNat_natCast, hl]
  rfl
noncomputable def con_laws_toIntSS : Con := ⟨I_laws_toIntSS, U_laws_toIntSS, fun x => (fun n => some ((n, ()), ())) (n_laws_toIntSS x.1)⟩
theorem ok_laws_toIntSS : ConOk Try.prog 138 con_laws_toIntSS := (ok0_laws_toIntSS).mono (fun x r hk h => (nn_laws_toIntSS x.1 hk).trans h)
theorem id_laws_toIntSS (a : List (List Int)) : n_laws_toIntSS a = a := by kernel_rfl
end
end Go.Tf
