/- Functions of the program, and what they come to. -/
import Derived.Test.YtfpjmijaiekbgaaGreatExactBuildStepF9
namespace Go.Tf
open Go.Proofs
set_option synthInstance.maxHeartbeats 400000
set_option synthInstance.maxSize 10000
set_option linter.unusedVariables false
set_option linter.unusedSimpArgs false
set_option maxRecDepth 100000
/-! spec_PutSuper -/
section
noncomputable def B_spec_PutSuper : Code := (Tryz.f241.body).getD .skip
noncomputable def E_spec_PutSuper : Env := envOf TT [(262, con_spec_SuperOk)] []
theorem fr_spec_PutSuper_0 : FrOk Tryz.prog ⟨E_spec_PutSuper, 25, fun _ => none⟩ B_spec_PutSuper := frOk_base mixed tt_ok ⟨ok_spec_SuperOk, trivial⟩
noncomputable def D_spec_PutSuper_0 : Nat → Option Seg := fun _ => none
abbrev I_spec_PutSuper : List Par := [.rd tS]
abbrev U_spec_PutSuper : List OT := [⟨false, tL, (.ow .fz)⟩]
noncomputable def raw_spec_PutSuper (a0 : dS) : Option (ResD U_spec_PutSuper × MutD I_spec_PutSuper) :=
  let r1 := n_spec_SuperOk a0
  bif (!r1) then
    some ((([] : List Int), ()), ())
  else
    some ((([21317, a0.1, a0.2.1, a0.2.2.1, a0.2.2.2.1, a0.2.2.2.2.1, a0.2.2.2.2.2.1, (IntKind.i64.wrap (a0.2.2.2.2.2.2.1 + 1)), a0.2.2.2.2.2.2.2] : List Int), ()), ())
theorem e_spec_PutSuper (x : InD I_spec_PutSuper) : execF ⟨E_spec_PutSuper, 25, D_spec_PutSuper_0⟩ Tryz.f241.results.toList B_spec_PutSuper I_spec_PutSuper U_spec_PutSuper x = raw_spec_PutSuper x.1 := by kernel_rfl
theorem ok0_spec_PutSuper : ConOk Tryz.prog 241 ⟨I_spec_PutSuper, U_spec_PutSuper, fun x => raw_spec_PutSuper x.1⟩ := conOk_exec (fr_spec_PutSuper_0) Tryz.func241 (by kernel_rfl) (by kernel_rfl) Tryz.ntmps241.symm (by decide) (fun x r h => (e_spec_PutSuper x).trans h)
noncomputable def n_spec_PutSuper (a0 : dS) : (List Int) :=
  let r1 := n_spec_SuperOk a0
  bif (!r1) then
    ([] : List Int)
  else
    ([21317, a0.1, a0.2.1, a0.2.2.1, a0.2.2.2.1, a0.2.2.2.2.1, a0.2.2.2.2.2.1, (IntKind.i64.wrap (a0.2.2.2.2.2.2.1 + 1)), a0.2.2.2.2.2.2.2] : List Int)
noncomputable def con_spec_PutSuper : Con := ⟨I_spec_PutSuper, U_spec_PutSuper, fun x => (fun n => some ((n, ()), ())) (n_spec_PutSuper x.1)⟩
theorem nn_spec_PutSuper (a0 : dS) : raw_spec_PutSuper a0 = (fun n => some ((n, ()), ())) (n_spec_PutSuper a0) := bif_ty (p := fun (n : (List Int)) => ((n, ()), ())) (bif_some (p := fun (n : (List Int)) => ((n, ()), ())) rfl rfl)
theorem ok_spec_PutSuper : ConOk Tryz.prog 241 con_spec_PutSuper := (ok0_spec_PutSuper).mono (fun x r _ h => (nn_spec_PutSuper x.1).trans h)
abbrev downA (a : dA) : Bool := a.2.2.2.2.2.2.2.2.2.2.1
def setFD (a : dA) (f : Int) (d : Bool) : dA := (a.1, a.2.1, a.2.2.1, a.2.2.2.1, a.2.2.2.2.1, a.2.2.2.2.2.1, a.2.2.2.2.2.2.1, a.2.2.2.2.2.2.2.1, a.2.2.2.2.2.2.2.2.1, f, d, a.2.2.2.2.2.2.2.2.2.2.2)
/-- an operation is counted; false: it is not done -/
def opA (a : dA) : Bool × dA := bif downA a then (false, a) else bif a.2.2.2.2.2.2.2.2.2.1 == 0 then (false, setFD a (-1) true) else bif ltb 0 a.2.2.2.2.2.2.2.2.2.1 then (true, setFD a (IntKind.i64.wrap (a.2.2.2.2.2.2.2.2.2.1 - 1)) (downA a)) else (true, a)
def setMem (a : dA) (m : Int) (x : dM) : dA := (a.1, a.2.1, a.2.2.1.set m.toNat x, a.2.2.2)
def putA (a : dA) (m n : Int) (s : List Int) : dA := bif (nth a.2.2.1 m noMem).2.2.1 then a else bif (opA a).1 then setMem (opA a).2 m (writeSec (nth a.2.2.1 m noMem) n s).1 else (opA a).2
def syncOne (a : dA) (i : Nat) : dA := bif (nth a.2.2.1 i noMem).2.2.1 then a else bif (opA a).1 then setMem (opA a).2 i (flushMem (nth a.2.2.1 i noMem)) else (opA a).2
def syncA (a : dA) : dA := (List.range a.2.2.1.length).foldl syncOne a
def supOf (a : dA) (i : Int) : dS := (a.1, a.2.2.2.2.2.2.2.1, i, a.2.1.1, a.2.1.2, a.2.2.2.2.2.2.1, a.2.2.2.1, a.2.2.2.2.1)
noncomputable def markOne (a : dA) (i : Nat) : dA := putA a i (a.2.2.2.2.2.2.2.1.tmod 2) (n_spec_PutSuper (supOf a i))
def genUp (a : dA) : dA := (a.1, a.2.1, a.2.2.1, a.2.2.2.1, a.2.2.2.2.1, a.2.2.2.2.2.1, a.2.2.2.2.2.2.1, IntKind.i64.wrap (a.2.2.2.2.2.2.2.1 + 1), a.2.2.2.2.2.2.2.2)
noncomputable def markA (a : dA) : dA := syncA ((List.range a.2.2.1.length).foldl markOne (genUp a))
theorem op_mems (a : dA) : (opA a).2.2.2.1 = a.2.2.1 := by
  unfold opA
  cases downA a
  · cases (a.2.2.2.2.2.2.2.2.2.1 == 0)
    · cases ltb 0 a.2.2.2.2.2.2.2.2.2.1 <;> rfl
    · rfl
  · rfl
theorem op_down {a : dA} (h : downA a = false) : downA (opA a).2 = !(opA a).1 := by
  unfold opA
  rw [h]
  cases (a.2.2.2.2.2.2.2.2.2.1 == 0)
  · cases ltb 0 a.2.2.2.2.2.2.2.2.2.1
    · exact h
    · rfl
  · rfl
theorem op_stop {a : dA} (h : downA a = true) : opA a = (false, a) := by unfold opA; rw [h]; rfl
theorem put_len (a : dA) (m n : Int) (s : List Int) : (putA a m n s).2.2.1.length = a.2.2.1.length := by
  unfold putA
  cases (nth a.2.2.1 m noMem).2.2.1
  · cases (opA a).1
    · show (opA a).2.2.2.1.length = _; rw [op_mems]
    · show ((opA a).2.2.2.1.set m.toNat _).length = _; rw [List.length_set, op_mems]
  · rfl
theorem syncOne_len (a : dA) (i : Nat) : (syncOne a i).2.2.1.length = a.2.2.1.length := by
  unfold syncOne
  cases (nth a.2.2.1 i noMem).2.2.1
  · cases (opA a).1
    · show (opA a).2.2.2.1.length = _; rw [op_mems]
    · show ((opA a).2.2.2.1.set _ _).length = _; rw [List.length_set, op_mems]
  · rfl
theorem fold_len {one : dA → Nat → dA} (h : ∀ a i, (one a i).2.2.1.length = a.2.2.1.length) : ∀ (l : List Nat) (a : dA), (l.foldl one a).2.2.1.length = a.2.2.1.length
  | [], _ => rfl
  | x :: l, a => by rw [List.foldl_cons, fold_len h l, h]
theorem sync_len (a : dA) : (syncA a).2.2.1.length = a.2.2.1.length := fold_len syncOne_len _ _
theorem put_stop {a : dA} (h : downA a = true) (m n : Int) (s : List Int) : putA a m n s = a := by
  unfold putA
  rw [op_stop h]
  cases (nth a.2.2.1 m noMem).2.2.1 <;> rfl
theorem syncOne_stop {a : dA} (i : Nat) (h : downA a = true) : syncOne a i = a := by
  unfold syncOne
  rw [op_stop h]
  cases (nth a.2.2.1 i noMem).2.2.1 <;> rfl
theorem fold_stop {one : dA → Nat → dA} (hs : ∀ a i, downA a = true → one a i = a) : ∀ (l : List Nat) (a : dA), downA a = true → l.foldl one a = a
  | [], _, _ => rfl
  | x :: l, a, h => by rw [List.foldl_cons, hs a x h]; exact fold_stop hs l a h
theorem sync_stop {a : dA} (h : downA a = true) : syncA a = a := fold_stop (fun _ i h => syncOne_stop i h) _ a h
theorem put_down {a : dA} (h : downA a = false) (m n : Int) (s : List Int) : downA (putA a m n s) = (!(nth a.2.2.1 m noMem).2.2.1 && !(opA a).1) := by
  have := op_down h
  unfold putA
  cases (nth a.2.2.1 m noMem).2.2.1
  · cases ho : (opA a).1
    · rw [ho] at this; exact this
    · rw [ho] at this; exact this
  · exact h
theorem syncOne_down {a : dA} (h : downA a = false) (i : Nat) : downA (syncOne a i) = (!(nth a.2.2.1 i noMem).2.2.1 && !(opA a).1) := by
  have := op_down h
  unfold syncOne
  cases (nth a.2.2.1 i noMem).2.2.1
  · cases ho : (opA a).1
    · rw [ho] at this; exact this
    · rw [ho] at this; exact this
  · exact h
theorem goE_fold {one : dA → Nat → dA} (hs : ∀ a i, downA a = true → one a i = a) : ∀ (k i : Nat) (s : dA), goE (fun i s => bif downA (one s i) then (.inr (one s i) : dA ⊕ dA) else .inl (one s i)) id k i s = (List.range' i k).foldl one s
  | 0, _, _ => rfl
  | k + 1, i, s => by
    rw [List.range'_succ, List.foldl_cons, goE]
    cases hd : downA (one s i)
    · exact goE_fold hs k (i + 1) (one s i)
    · exact (fold_stop hs _ _ hd).symm
theorem spec_op_eq (a : dA) : n_spec_l7Op a = opA a := by kernel_rfl
theorem put_mems {a : dA} {m n : Int} {s : List Int} (h : okMems a.2.2.1) (hm : inb m a.2.2.1.length = true) : okMems (putA a m n s).2.2.1 := by
  unfold putA
  cases (nth a.2.2.1 m noMem).2.2.1
  · cases (opA a).1
    · show okMems (opA a).2.2.2.1; rw [op_mems]; exact h
    · show okMems ((opA a).2.2.2.1.set m.toNat _); rw [op_mems]; exact okMems_set h (write_ok _ _ (okMems_at h hm))
  · exact h
theorem syncOne_mems {a : dA} {i : Nat} (h : okMems a.2.2.1) (hi : i < a.2.2.1.length) : okMems (syncOne a i).2.2.1 := by
  unfold syncOne
  cases (nth a.2.2.1 i noMem).2.2.1
  · cases (opA a).1
    · show okMems (opA a).2.2.2.1; rw [op_mems]; exact h
    · show okMems ((opA a).2.2.2.1.set _ _); rw [op_mems]; exact okMems_set h (flush_ok (okMems_at h (inb_nat hi)))
  · exact h
theorem fold_mems {one : dA → Nat → dA} (hl : ∀ a i, (one a i).2.2.1.length = a.2.2.1.length) (ho : ∀ a i, okMems a.2.2.1 → i < a.2.2.1.length → okMems (one a i).2.2.1) : ∀ (n : Nat) (a : dA), n ≤ a.2.2.1.length → okMems a.2.2.1 → okMems ((List.range n).foldl one a).2.2.1
  | 0, _, _, h => h
  | n + 1, a, hn, h => by
    rw [List.range_succ, List.foldl_append]
    exact ho _ _ (fold_mems hl ho n a (by omega) h) (by rw [fold_len hl]; exact hn)
theorem sync_mems {a : dA} (h : okMems a.2.2.1) : okMems (syncA a).2.2.1 := fold_mems syncOne_len (fun _ _ => syncOne_mems) _ a (Nat.le_refl _) h
theorem mark_mems {a : dA} (h : okMems a.2.2.1) : okMems (markA a).2.2.1 :=
  sync_mems (fold_mems (one := markOne) (fun _ _ => put_len _ _ _ _) (fun _ _ h hi => put_mems h (inb_nat hi)) _ (genUp a) (Nat.le_refl _) h)
theorem mark_len (a : dA) : (markA a).2.2.1.length = a.2.2.1.length := (sync_len _).trans (fold_len (one := markOne) (fun _ _ => put_len _ _ _ _) _ (genUp a))
theorem op_dirty (a : dA) : (opA a).2.2.2.2.2.2.2.2.2.1 = a.2.2.2.2.2.2.2.2.1 := by
  unfold opA
  cases downA a
  · cases (a.2.2.2.2.2.2.2.2.2.1 == 0)
    · cases ltb 0 a.2.2.2.2.2.2.2.2.2.1 <;> rfl
    · rfl
  · rfl
theorem put_dirty (a : dA) (m n : Int) (s : List Int) : (putA a m n s).2.2.2.2.2.2.2.2.1 = a.2.2.2.2.2.2.2.2.1 := by
  unfold putA
  cases (nth a.2.2.1 m noMem).2.2.1
  · cases (opA a).1
    · exact op_dirty a
    · exact op_dirty a
  · rfl
theorem syncOne_dirty (a : dA) (i : Nat) : (syncOne a i).2.2.2.2.2.2.2.2.1 = a.2.2.2.2.2.2.2.2.1 := by
  unfold syncOne
  cases (nth a.2.2.1 i noMem).2.2.1
  · cases (opA a).1
    · exact op_dirty a
    · exact op_dirty a
  · rfl
theorem fold_dirty {one : dA → Nat → dA} (h : ∀ a i, (one a i).2.2.2.2.2.2.2.2.1 = a.2.2.2.2.2.2.2.2.1) : ∀ (l : List Nat) (a : dA), (l.foldl one a).2.2.2.2.2.2.2.2.1 = a.2.2.2.2.2.2.2.2.1
  | [], _ => rfl
  | x :: l, a => by rw [List.foldl_cons, fold_dirty h l, h]
theorem sync_dirty (a : dA) : (syncA a).2.2.2.2.2.2.2.2.1 = a.2.2.2.2.2.2.2.2.1 := fold_dirty syncOne_dirty _ _
theorem mark_dirty (a : dA) : (markA a).2.2.2.2.2.2.2.2.1 = a.2.2.2.2.2.2.2.2.1 := (sync_dirty _).trans (fold_dirty (one := markOne) (fun _ _ => put_dirty _ _ _ _) _ (genUp a))
/-- a bound of a result's marks -/
theorem arr_small {a x : dA} (ha : mArr a ≤ 2097152) (hl : x.2.2.1.length ≤ 5) (hm : okMems x.2.2.1) (hd : x.2.2.2.2.2.2.2.2.1 = a.2.2.2.2.2.2.2.2.1) : mArr x ≤ 2105000 := by
  have := okMems_small hm
  have : x.2.2.1.length * 1041 ≤ 5 * 1041 := Nat.mul_le_mul_right _ hl
  unfold mArr at ha ⊢
  rw [hd]
  omega
theorem arr_five {a : dA} (h : arrOk a = true) : a.2.2.1.length ≤ 5 := by
  have h1 := geo_iff.1 (arrOk_geo h)
  have h2 := arrOk_len h
  omega
def memNew (n : Int) : dM := bif leb 1 n && leb n 20 then (List.replicate n.toNat [], [], false, []) else noMem
theorem memNew_ok {n : Int} (h1 : 1 ≤ n) (h2 : n ≤ 20) : memOk (memNew n) = true := by
  unfold memNew
  rw [leb_t h1, leb_t h2]
  refine memOk_mk ?_ rfl rfl ?_ ?_ (Nat.zero_le _)
  · show (List.replicate n.toNat ([] : List Int)).all secOk = true
    rw [List.all_eq_true]
    intro x hx
    rw [(List.mem_replicate.1 hx).2]; rfl
  · show 1 ≤ (List.replicate n.toNat ([] : List Int)).length; rw [List.length_replicate]; omega
  · show (List.replicate n.toNat ([] : List Int)).length ≤ 20; rw [List.length_replicate]; omega
def spareNew (a : dA) : dA := (a.1, a.2.1, a.2.2.1.set a.2.2.2.1.toNat (memNew (6 + a.2.1.2)), a.2.2.2.1, 0, a.2.2.2.2.2)
noncomputable def spareA (a : dA) : dA × Int :=
  bif !(arrOk a) then (a, 1) else bif downA a then (a, 6) else bif a.2.2.2.1 == -1 || !((nth a.2.2.1 a.2.2.2.1 noMem).2.2.1) then (a, 2) else bif a.2.2.2.2.2.2.2.2.2.2.2 then (a, 5) else bif leb 59990 a.2.2.2.2.2.2.2.1 then (a, 7)
  else (markA (spareNew a), bif downA (markA (spareNew a)) then 6 else 0)
theorem arr_lost {a : dA} (h : arrOk a = true) : -1 ≤ a.2.2.2.1 ∧ a.2.2.2.1 ≤ a.2.1.1 - 1 := by
  simp only [arrOk, Bool.and_eq_true, leb_iff] at h
  exact h.2.2.2.2.1
theorem lost_in {a : dA} (h : arrOk a = true) (h2 : a.2.2.2.1 ≠ -1) : inb a.2.2.2.1 a.2.2.1.length = true := by
  have := arr_lost h
  have := arrOk_len h
  exact inb_iff.2 (by omega)
theorem spareNew_ok {a : dA} (h : arrOk a = true) : okMems (spareNew a).2.2.1 ∧ (spareNew a).2.2.1.length = a.2.2.1.length := by
  have hg := geo_iff.1 (arrOk_geo h)
  exact ⟨okMems_set (arr_okMems h) (memNew_ok (by omega) (by omega)), List.length_set⟩
def tailUp (a : dA) : dA := (a.1, a.2.1, a.2.2.1, a.2.2.2.1, a.2.2.2.2.1, a.2.2.2.2.2.1, a.2.2.2.2.2.1, a.2.2.2.2.2.2.2)
noncomputable def checkA (a : dA) : dA := bif downA (syncA a) then syncA a else markA (tailUp (syncA a))
theorem check_mems {a : dA} (h : okMems a.2.2.1) : okMems (checkA a).2.2.1 := by
  unfold checkA
  cases downA (syncA a)
  · exact mark_mems (a := tailUp (syncA a)) (sync_mems h)
  · exact sync_mems h
theorem check_len (a : dA) : (checkA a).2.2.1.length = a.2.2.1.length := by
  unfold checkA
  cases downA (syncA a)
  · exact (mark_len (tailUp (syncA a))).trans (sync_len a)
  · exact sync_len a
theorem check_dirty (a : dA) : (checkA a).2.2.2.2.2.2.2.2.1 = a.2.2.2.2.2.2.2.2.1 := by
  unfold checkA
  cases downA (syncA a)
  · exact (mark_dirty (tailUp (syncA a))).trans (sync_dirty a)
  · exact sync_dirty a
def adoptEnd (b : dA) : dA := (b.1, b.2.1, b.2.2.1, -1, 0, b.2.2.2.2.2)
noncomputable def adoptOne (a : dA) : dA × Int := bif downA (checkA a) then (checkA a, 6) else (markA (adoptEnd (checkA a)), bif downA (markA (adoptEnd (checkA a))) then 6 else 0)
noncomputable def adoptA (a : dA) : dA × Int :=
  bif !(arrOk a) then (a, 1) else bif downA a then (a, 6) else bif a.2.2.2.1 == -1 || ((nth a.2.2.1 a.2.2.2.1 noMem).2.2.1 || ltb a.2.2.2.2.1 a.2.1.2) then (a, 2) else bif a.2.2.2.2.2.2.2.2.2.2.2 then (a, 5) else bif leb 59990 a.2.2.2.2.2.2.2.1 then (a, 7) else adoptOne a
theorem adopt_small {a : dA} (ha : mArr a ≤ 2097152) : mArr (adoptA a).1 ≤ 2105000 := by
  have h0 : mArr a ≤ 2105000 := by omega
  unfold adoptA
  cases hk : arrOk a
  · exact h0
  have h5 := arr_five hk
  have hc := check_mems (arr_okMems hk)
  have hn := arr_small (x := markA (adoptEnd (checkA a))) ha (by rw [mark_len, show (adoptEnd (checkA a)).2.2.1 = (checkA a).2.2.1 from rfl, check_len]; exact h5) (mark_mems (a := adoptEnd (checkA a)) hc) ((mark_dirty _).trans (check_dirty a))
  have hn2 := arr_small (x := checkA a) ha (by rw [check_len]; exact h5) hc (check_dirty a)
  cases downA a
  · cases (a.2.2.2.1 == -1 || ((nth a.2.2.1 a.2.2.2.1 noMem).2.2.1 || ltb a.2.2.2.2.1 a.2.1.2))
    · cases a.2.2.2.2.2.2.2.2.2.2.2
      · cases leb 59990 a.2.2.2.2.2.2.2.1
        · show mArr (adoptOne a).1 ≤ _
          unfold adoptOne
          cases downA (checkA a)
          · exact hn
          · exact hn2
        · exact h0
      · exact h0
    · exact h0
  · exact h0
/-- what an operation on the disks leaves -/
def coreA (a : dA) : Int × (Int × Int) × Int × Int × Int × Int × Int × List dW × Bool := (a.1, a.2.1, a.2.2.2.1, a.2.2.2.2.1, a.2.2.2.2.2.1, a.2.2.2.2.2.2.1, a.2.2.2.2.2.2.2.1, a.2.2.2.2.2.2.2.2.1, a.2.2.2.2.2.2.2.2.2.2.2)
theorem op_core (a : dA) : coreA (opA a).2 = coreA a := by
  unfold opA
  cases downA a
  · cases (a.2.2.2.2.2.2.2.2.2.1 == 0)
    · cases ltb 0 a.2.2.2.2.2.2.2.2.2.1 <;> rfl
    · rfl
  · rfl
theorem put_core (a : dA) (m n : Int) (s : List Int) : coreA (putA a m n s) = coreA a := by
  unfold putA
  cases (nth a.2.2.1 m noMem).2.2.1
  · cases (opA a).1
    · exact op_core a
    · exact op_core a
  · rfl
theorem syncOne_core (a : dA) (i : Nat) : coreA (syncOne a i) = coreA a := by
  unfold syncOne
  cases (nth a.2.2.1 i noMem).2.2.1
  · cases (opA a).1
    · exact op_core a
    · exact op_core a
  · rfl
theorem fold_core {one : dA → Nat → dA} (h : ∀ a i, coreA (one a i) = coreA a) : ∀ (l : List Nat) (a : dA), coreA (l.foldl one a) = coreA a
  | [], _ => rfl
  | x :: l, a => by rw [List.foldl_cons, fold_core h l, h]
theorem sync_core (a : dA) : coreA (syncA a) = coreA a := fold_core syncOne_core _ _
theorem mark_core (a : dA) : coreA (markA a) = coreA (genUp a) := (sync_core _).trans (fold_core (one := markOne) (fun _ _ => put_core _ _ _ _) _ _)
theorem core_geo {a b : dA} (h : coreA a = coreA b) : a.2.1 = b.2.1 := congrArg (fun x => x.2.1) h
theorem core_built {a b : dA} (h : coreA a = coreA b) : a.2.2.2.2.1 = b.2.2.2.2.1 := congrArg (fun x => x.2.2.2.1) h
theorem core_dirty {a b : dA} (h : coreA a = coreA b) : a.2.2.2.2.2.2.2.2.1 = b.2.2.2.2.2.2.2.2.1 := congrArg (fun x => x.2.2.2.2.2.2.2.1) h
/-- an array whose disks are right, with this in memory -/
def Near (d : List dW) (x : dA) : Prop := x.2.2.1.length ≤ 5 ∧ okMems x.2.2.1 ∧ x.2.2.2.2.2.2.2.2.1 = d
theorem near_arr {a : dA} (h : arrOk a = true) : Near a.2.2.2.2.2.2.2.2.1 a := ⟨arr_five h, arr_okMems h, rfl⟩
theorem near_put {d : List dW} {a : dA} {m n : Int} {s : List Int} (h : Near d a) (hm : inb m a.2.2.1.length = true) : Near d (putA a m n s) := ⟨by rw [put_len]; exact h.1, put_mems h.2.1 hm, (put_dirty _ _ _ _).trans h.2.2⟩
theorem near_sync {d : List dW} {a : dA} (h : Near d a) : Near d (syncA a) := ⟨by rw [sync_len]; exact h.1, sync_mems h.2.1, (sync_dirty _).trans h.2.2⟩
theorem near_mark {d : List dW} {a : dA} (h : Near d a) : Near d (markA a) := ⟨by rw [mark_len]; exact h.1, mark_mems h.2.1, (mark_dirty _).trans h.2.2⟩
theorem near_check {d : List dW} {a : dA} (h : Near d a) : Near d (checkA a) := ⟨by rw [check_len]; exact h.1, check_mems h.2.1, (check_dirty _).trans h.2.2⟩
theorem near_small {d : List dW} {x : dA} (h : Near d x) : mArr x ≤ mEnts d + 5205 := by
  have := okMems_small h.2.1
  have : x.2.2.1.length * 1041 ≤ 5 * 1041 := Nat.mul_le_mul_right _ h.1
  unfold mArr
  rw [h.2.2]
  omega
theorem arr_near {a x : dA} (ha : mArr a ≤ 2097152) (h : Near a.2.2.2.2.2.2.2.2.1 x) : mArr x ≤ 2105000 := by
  have := near_small h
  unfold mArr at ha
  omega
theorem near_adopt {d : List dW} {a : dA} (h : Near d a) : Near d (adoptA a).1 := by
  have hn : Near d (markA (adoptEnd (checkA a))) := near_mark (a := adoptEnd (checkA a)) (near_check h)
  unfold adoptA
  cases arrOk a
  · exact h
  cases downA a
  · cases (a.2.2.2.1 == -1 || ((nth a.2.2.1 a.2.2.2.1 noMem).2.2.1 || ltb a.2.2.2.2.1 a.2.1.2))
    · cases a.2.2.2.2.2.2.2.2.2.2.2
      · cases leb 59990 a.2.2.2.2.2.2.2.1
        · show Near d (adoptOne a).1
          unfold adoptOne
          cases downA (checkA a)
          · exact hn
          · exact near_check h
        · exact h
      · exact h
    · exact h
  · exact h
def stepUp (b : dA) : dA := (b.1, b.2.1, b.2.2.1, b.2.2.2.1, IntKind.i64.wrap (b.2.2.2.2.1 + 1), b.2.2.2.2.2)
/-- the lost disk with one stripe's word more -/
def stepPut (a : dA) : dA := putA a a.2.2.2.1 (dataAt a.2.2.2.2.1) [nth (words a a.2.2.2.2.1).1 a.2.2.2.1 0]
def stepOne (a : dA) : Int × dA := bif (words a a.2.2.2.2.1).2 then (bif downA (stepPut a) then (6, stepPut a) else (0, stepUp (stepPut a))) else (5, a)
noncomputable def buildStep (a : dA) : dA × Int :=
  bif !(arrOk a) then (a, 1) else bif downA a then (a, 6) else bif a.2.2.2.1 == -1 || ((nth a.2.2.1 a.2.2.2.1 noMem).2.2.1 || leb a.2.1.2 a.2.2.2.2.1) then (a, 2) else bif a.2.2.2.2.2.2.2.2.2.2.2 then (a, 5) else ((stepOne a).2, (stepOne a).1)
noncomputable def bldGo : Nat → dA → dA × Int
  | 0, a => (a, 0)
  | n + 1, a => bif ltb a.2.2.2.2.1 a.2.1.2 then (bif (buildStep a).2 != 0 then buildStep a else bldGo n (buildStep a).1) else (a, 0)
noncomputable def buildAll (a : dA) : dA × Int := bif (spareA a).2 != 0 then spareA a else bif (bldGo 8 (spareA a).1).2 != 0 then bldGo 8 (spareA a).1 else adoptA (bldGo 8 (spareA a).1).1
theorem arr_built {a : dA} (h : arrOk a = true) : 0 ≤ a.2.2.2.2.1 ∧ a.2.2.2.2.1 ≤ a.2.1.2 := by
  simp only [arrOk, Bool.and_eq_true, leb_iff] at h
  exact h.2.2.2.2.2.1
theorem near_step {d : List dW} {a : dA} (h : Near d a) (hl : inb a.2.2.2.1 a.2.2.1.length = true) : Near d (stepOne a).2 := by
  unfold stepOne
  have hp : Near d (stepPut a) := near_put h hl
  cases (words a a.2.2.2.2.1).2
  · exact h
  · cases downA (stepPut a)
    · exact hp
    · exact hp
theorem near_buildStep {d : List dW} {a : dA} (h : Near d a) : Near d (buildStep a).1 := by
  unfold buildStep
  cases ha : arrOk a
  · exact h
  cases downA a
  · cases hl : (a.2.2.2.1 == -1)
    · cases ((nth a.2.2.1 a.2.2.2.1 noMem).2.2.1 || leb a.2.1.2 a.2.2.2.2.1)
      · cases a.2.2.2.2.2.2.2.2.2.2.2
        · exact near_step h (lost_in ha (beq_eq_false_iff_ne.1 hl))
        · exact h
      · exact h
    · exact h
  · exact h
theorem near_bld {d : List dW} : ∀ {n : Nat} {a : dA}, Near d a → Near d (bldGo n a).1
  | 0, _, h => h
  | n + 1, a, h => by
    unfold bldGo
    cases ltb a.2.2.2.2.1 a.2.1.2
    · exact h
    · cases ((buildStep a).2 != 0)
      · exact near_bld (near_buildStep h)
      · exact near_buildStep h
theorem near_spare {d : List dW} {a : dA} (h : Near d a) : Near d (spareA a).1 := by
  unfold spareA
  cases ha : arrOk a
  · exact h
  have hs := spareNew_ok ha
  cases downA a
  · cases (a.2.2.2.1 == -1 || !((nth a.2.2.1 a.2.2.2.1 noMem).2.2.1))
    · cases a.2.2.2.2.2.2.2.2.2.2.2
      · cases leb 59990 a.2.2.2.2.2.2.2.1
        · exact near_mark (a := spareNew a) ⟨by rw [hs.2]; exact h.1, hs.1, h.2.2⟩
        · exact h
      · exact h
    · exact h
  · exact h
theorem near_buildAll {d : List dW} {a : dA} (h : Near d a) : Near d (buildAll a).1 := by
  unfold buildAll
  cases ((spareA a).2 != 0)
  · cases ((bldGo 8 (spareA a).1).2 != 0)
    · exact near_adopt (near_bld (near_spare h))
    · exact near_bld (near_spare h)
  · exact near_spare h
/-- a step that is good -/
theorem step_good {a : dA} (h : (buildStep a).2 = 0) : arrOk a = true ∧ a.2.2.2.2.1 < a.2.1.2 ∧ (buildStep a).1.2.1 = a.2.1 ∧ (buildStep a).1.2.2.2.2.1 = a.2.2.2.2.1 + 1 := by
  unfold buildStep at h ⊢
  cases ha : arrOk a
  · rw [ha] at h; exact absurd (show (1 : Int) = 0 from h) (by decide)
  rw [ha] at h
  have hg := geo_iff.1 (arrOk_geo ha)
  have hb := arr_built ha
  cases hd : downA a
  · rw [hd] at h
    cases hc : (a.2.2.2.1 == -1 || ((nth a.2.2.1 a.2.2.2.1 noMem).2.2.1 || leb a.2.1.2 a.2.2.2.2.1))
    · rw [hc] at h
      simp only [Bool.or_eq_false_iff] at hc
      have hS : a.2.2.2.2.1 < a.2.1.2 := by
        rcases Int.lt_or_le a.2.2.2.2.1 a.2.1.2 with h1 | h1
        · exact h1
        · have := hc.2.2; rw [leb_t h1] at this; cases this
      cases hbr : a.2.2.2.2.2.2.2.2.2.2.2
      · rw [hbr] at h
        simp only [Bool.not_true, cond_false] at h ⊢
        unfold stepOne at h ⊢
        cases hw : (words a a.2.2.2.2.1).2
        · rw [hw] at h; exact absurd (show (5 : Int) = 0 from h) (by decide)
        · rw [hw] at h
          cases hp : downA (stepPut a)
          · have hc2 := put_core a a.2.2.2.1 (dataAt a.2.2.2.2.1) [nth (words a a.2.2.2.2.1).1 a.2.2.2.1 0]
            refine ⟨trivial, hS, (show (stepPut a).2.1 = a.2.1 from core_geo hc2), ?_⟩
            show IntKind.i64.wrap ((stepPut a).2.2.2.2.1 + 1) = _
            rw [show (stepPut a).2.2.2.2.1 = a.2.2.2.2.1 from core_built hc2, wr (by omega) (by omega)]
          · rw [hp] at h; exact absurd (show (6 : Int) = 0 from h) (by decide)
      · rw [hbr] at h; exact absurd (show (5 : Int) = 0 from h) (by decide)
    · rw [hc] at h; exact absurd (show (2 : Int) = 0 from h) (by decide)
  · rw [hd] at h; exact absurd (show (6 : Int) = 0 from h) (by decide)
theorem bld_big {n : Nat} {a : dA} (h : ltb a.2.2.2.2.1 a.2.1.2 = false) : bldGo n a = (a, 0) := by
  cases n
  · rfl
  · unfold bldGo; rw [h]; rfl
theorem spare_good {a : dA} (h : (spareA a).2 = 0) : (spareA a).1.2.1 = a.2.1 ∧ (spareA a).1.2.2.2.2.1 = 0 ∧ n_spec_GeoOk a.2.1 = true := by
  unfold spareA at h ⊢
  cases ha : arrOk a
  · rw [ha] at h; exact absurd (show (1 : Int) = 0 from h) (by decide)
  rw [ha] at h
  cases hd : downA a
  · rw [hd] at h
    cases hc : (a.2.2.2.1 == -1 || !((nth a.2.2.1 a.2.2.2.1 noMem).2.2.1))
    · rw [hc] at h
      cases hb : a.2.2.2.2.2.2.2.2.2.2.2
      · rw [hb] at h
        cases hg : leb 59990 a.2.2.2.2.2.2.2.1
        · have hm := mark_core (spareNew a)
          exact ⟨(show (markA (spareNew a)).2.1 = (genUp (spareNew a)).2.1 from core_geo hm), (show (markA (spareNew a)).2.2.2.2.1 = (genUp (spareNew a)).2.2.2.2.1 from core_built hm), arrOk_geo ha⟩
        · rw [hg] at h; exact absurd (show (7 : Int) = 0 from h) (by decide)
      · rw [hb] at h; exact absurd (show (5 : Int) = 0 from h) (by decide)
    · rw [hc] at h; exact absurd (show (2 : Int) = 0 from h) (by decide)
  · rw [hd] at h; exact absurd (show (6 : Int) = 0 from h) (by decide)
end

/-! spec_l7Put -/
section
noncomputable def B_spec_l7Put : Code := (Tryz.f149.body).getD .skip
noncomputable def E_spec_l7Put : Env := envOf TT [(213, con_spec_l7Op), (214, con_spec_WriteSec)] []
theorem fr_spec_l7Put_0 : FrOk Tryz.prog ⟨E_spec_l7Put, 43, fun _ => none⟩ B_spec_l7Put := frOk_base mixed tt_ok ⟨ok_spec_l7Op, ok_spec_WriteSec, trivial⟩
noncomputable def D_spec_l7Put_0 : Nat → Option Seg := fun _ => none
abbrev I_spec_l7Put : List Par := [.pt tA (.pr .fz (.pr (.pr .fz .fz) (.pr (.ow (.pr (.ow .fz) (.pr (.ow (.pr .fz .fz)) (.pr .fz (.ow .fz))))) (.pr .fz (.pr .fz (.pr .fz (.pr .fz (.pr .fz (.pr (.ow (.pr .fz .fz)) (.pr .fz (.pr .fz .fz))))))))))), .rd tI, .rd tI, .rd tL]
abbrev U_spec_l7Put : List OT := []
noncomputable def raw_spec_l7Put (a0 : dA) (a1 : Int) (a2 : Int) (a3 : List Int) : Option (ResD U_spec_l7Put × MutD I_spec_l7Put) :=
  bif (inb a1 a0.2.2.1.length) then
    bif (!((((nth a0.2.2.1 a1 ([], [], false, [])).2).2).1)) then
      let r1 := n_spec_l7Op a0
      bif (!r1.1) then
        some ((), (r1.2, ()))
      else
        bif (inb a1 r1.2.2.2.1.length) then
          let r2 := n_spec_WriteSec ((nth r1.2.2.2.1 a1 ([], [], false, [])).1, ((nth r1.2.2.2.1 a1 ([], [], false, [])).2).1, (((nth r1.2.2.2.1 a1 ([], [], false, [])).2).2)) a2 a3
          bif (inb a1 r1.2.2.2.1.length) then
            some ((), ((r1.2.1, r1.2.2.1, (r1.2.2.2.1.set (a1).toNat r2.1), r1.2.2.2.2), ()))
          else none
        else none
    else
      some ((), (a0, ()))
  else none
theorem e_spec_l7Put (x : InD I_spec_l7Put) : execF ⟨E_spec_l7Put, 43, D_spec_l7Put_0⟩ Tryz.f149.results.toList B_spec_l7Put I_spec_l7Put U_spec_l7Put x = raw_spec_l7Put x.1 x.2.1 x.2.2.1 x.2.2.2.1 := by kernel_rfl
theorem ok0_spec_l7Put : ConOk Tryz.prog 149 ⟨I_spec_l7Put, U_spec_l7Put, fun x => raw_spec_l7Put x.1 x.2.1 x.2.2.1 x.2.2.2.1⟩ := conOk_exec (fr_spec_l7Put_0) Tryz.func149 (by kernel_rfl) (by kernel_rfl) Tryz.ntmps149.symm (by decide) (fun x r h => (e_spec_l7Put x).trans h)
noncomputable def n_spec_l7Put (a0 : dA) (a1 a2 : Int) (a3 : List Int) : dA := putA a0 a1 a2 a3
noncomputable def q_spec_l7Put (a0 : dA) (a1 a2 : Int) (a3 : List Int) : Bool := inb a1 a0.2.2.1.length
theorem nn_spec_l7Put (a0 : dA) (a1 a2 : Int) (a3 : List Int) (hk : InOk I_spec_l7Put (a0, a1, a2, a3, ())) (hq : q_spec_l7Put a0 a1 a2 a3 = true) : raw_spec_l7Put a0 a1 a2 a3 = (fun n => some ((), (n, ()))) (n_spec_l7Put a0 a1 a2 a3) := by
  have hq : inb a1 a0.2.2.1.length = true := hq
  unfold raw_spec_l7Put n_spec_l7Put putA setMem
  simp only [spec_op_eq, op_mems, hq, pr_eta, n_spec_WriteSec]
  cases (nth a0.2.2.1 a1 noMem).2.2.1 <;> cases (opA a0).1 <;> rfl
noncomputable def o_spec_l7Put (a0 : dA) (a1 : Int) (a2 : Int) (a3 : List Int) : Option (ResD U_spec_l7Put × MutD I_spec_l7Put) := bif q_spec_l7Put a0 a1 a2 a3 then (fun n => some ((), (n, ()))) (n_spec_l7Put a0 a1 a2 a3) else none
theorem ot_spec_l7Put (a0 : dA) (a1 : Int) (a2 : Int) (a3 : List Int) (h : q_spec_l7Put a0 a1 a2 a3 = true) : o_spec_l7Put a0 a1 a2 a3 = (fun n => some ((), (n, ()))) (n_spec_l7Put a0 a1 a2 a3) := by unfold o_spec_l7Put; rw [h]; rfl
noncomputable def con_spec_l7Put : Con := ⟨I_spec_l7Put, U_spec_l7Put, fun x => o_spec_l7Put x.1 x.2.1 x.2.2.1 x.2.2.2.1⟩
theorem ok_spec_l7Put : ConOk Tryz.prog 149 con_spec_l7Put := (ok0_spec_l7Put).mono (fun x r hk h => pre_ok h (fun hq => nn_spec_l7Put x.1 x.2.1 x.2.2.1 x.2.2.2.1 hk hq))
end

/-! spec_l12Step -/
section
noncomputable def B_spec_l12Step : Code := (Tryz.f75.body).getD .skip
noncomputable def E_spec_l12Step : Env := envOf TT [(148, con_spec_l6Words), (149, con_spec_l7Put), (150, con_spec_DataAt)] []
theorem fr_spec_l12Step_0 : FrOk Tryz.prog ⟨E_spec_l12Step, 49, fun _ => none⟩ B_spec_l12Step := frOk_base mixed tt_ok ⟨ok_spec_l6Words, ok_spec_l7Put, ok_spec_DataAt, trivial⟩
noncomputable def D_spec_l12Step_0 : Nat → Option Seg := fun _ => none
abbrev I_spec_l12Step : List Par := [.pt tA (.pr .fz (.pr (.pr .fz .fz) (.pr (.ow (.pr (.ow .fz) (.pr (.ow (.pr .fz .fz)) (.pr .fz (.ow .fz))))) (.pr .fz (.pr .fz (.pr .fz (.pr .fz (.pr .fz (.pr (.ow (.pr .fz .fz)) (.pr .fz (.pr .fz .fz)))))))))))]
abbrev U_spec_l12Step : List OT := [⟨false, tI, .fz⟩]
noncomputable def raw_spec_l12Step (a0 : dA) : Option (ResD U_spec_l12Step × MutD I_spec_l12Step) :=
  bnd (o_spec_l6Words a0 a0.2.2.2.2.1) fun r1 =>
  bif (!r1.1.2.1) then
    some ((5, ()), (a0, ()))
  else
    let r2 := n_spec_DataAt a0.2.2.2.2.1
    bif (inb a0.2.2.2.1 r1.1.1.length) then
      bnd (o_spec_l7Put a0 a0.2.2.2.1 r2 ([(nth r1.1.1 a0.2.2.2.1 0)] : List Int)) fun r3 =>
      bif r3.2.1.2.2.2.2.2.2.2.2.2.2.1 then
        some ((6, ()), (r3.2.1, ()))
      else
        some ((0, ()), ((r3.2.1.1, r3.2.1.2.1, r3.2.1.2.2.1, r3.2.1.2.2.2.1, (IntKind.i64.wrap (r3.2.1.2.2.2.2.1 + 1)), r3.2.1.2.2.2.2.2), ()))
    else none
theorem e_spec_l12Step (x : InD I_spec_l12Step) : execF ⟨E_spec_l12Step, 49, D_spec_l12Step_0⟩ Tryz.f75.results.toList B_spec_l12Step I_spec_l12Step U_spec_l12Step x = raw_spec_l12Step x.1 := by kernel_rfl
theorem ok0_spec_l12Step : ConOk Tryz.prog 75 ⟨I_spec_l12Step, U_spec_l12Step, fun x => raw_spec_l12Step x.1⟩ := conOk_exec (fr_spec_l12Step_0) Tryz.func75 (by kernel_rfl) (by kernel_rfl) Tryz.ntmps75.symm (by decide) (fun x r h => (e_spec_l12Step x).trans h)
noncomputable def n_spec_l12Step (a0 : dA) : Int × dA := stepOne a0
noncomputable def q_spec_l12Step (a0 : dA) : Bool := n_spec_GeoOk a0.2.1 && (inb a0.2.2.2.1 a0.2.2.1.length && inb a0.2.2.2.1 a0.2.1.1.toNat)
theorem nn_spec_l12Step (a0 : dA) (hk : InOk I_spec_l12Step (a0, ())) (hq : q_spec_l12Step a0 = true) : raw_spec_l12Step a0 = (fun n => some ((n.1, ()), (n.2, ()))) (n_spec_l12Step a0) := by
  simp only [q_spec_l12Step, Bool.and_eq_true] at hq
  unfold raw_spec_l12Step n_spec_l12Step stepOne
  rw [ot_spec_l6Words a0 a0.2.2.2.2.1 hq.1]
  simp only [bnd_some, n_spec_l6Words, spec_dataAt_eq]
  cases hw : (words a0 a0.2.2.2.2.1).2
  · rfl
  · rw [words_len hw, hq.2.2, ot_spec_l7Put a0 a0.2.2.2.1 (dataAt a0.2.2.2.2.1) [nth (words a0 a0.2.2.2.2.1).1 a0.2.2.2.1 0] hq.2.1]
    simp only [bnd_some, n_spec_l7Put, Bool.not_true, cond_false, cond_true]
    show (bif downA (stepPut a0) then some ((6, ()), (stepPut a0, ())) else some ((0, ()), (stepUp (stepPut a0), ()))) = _
    cases downA (stepPut a0) <;> rfl
noncomputable def o_spec_l12Step (a0 : dA) : Option (ResD U_spec_l12Step × MutD I_spec_l12Step) := bif q_spec_l12Step a0 then (fun n => some ((n.1, ()), (n.2, ()))) (n_spec_l12Step a0) else none
theorem ot_spec_l12Step (a0 : dA) (h : q_spec_l12Step a0 = true) : o_spec_l12Step a0 = (fun n => some ((n.1, ()), (n.2, ()))) (n_spec_l12Step a0) := by unfold o_spec_l12Step; rw [h]; rfl
noncomputable def con_spec_l12Step : Con := ⟨I_spec_l12Step, U_spec_l12Step, fun x => o_spec_l12Step x.1⟩
theorem ok_spec_l12Step : ConOk Tryz.prog 75 con_spec_l12Step := (ok0_spec_l12Step).mono (fun x r hk h => pre_ok h (fun hq => nn_spec_l12Step x.1 hk hq))
end

/-! spec_BuildStep -/
section
noncomputable def B_spec_BuildStep : Code := (Tryz.f22.body).getD .skip
noncomputable def E_spec_BuildStep : Env := envOf TT [(73, con_spec_l6Copy), (74, con_spec_l8May), (75, con_spec_l12Step)] []
theorem fr_spec_BuildStep_0 : FrOk Tryz.prog ⟨E_spec_BuildStep, 44, fun _ => none⟩ B_spec_BuildStep := frOk_base mixed tt_ok ⟨ok_spec_l6Copy, ok_spec_l8May, ok_spec_l12Step, trivial⟩
noncomputable def D_spec_BuildStep_0 : Nat → Option Seg := fun _ => none
abbrev I_spec_BuildStep : List Par := [.rd tA]
abbrev U_spec_BuildStep : List OT := [⟨false, tA, (.pr .fz (.pr (.pr .fz .fz) (.pr (.ow (.pr (.ow .fz) (.pr (.ow (.pr .fz .fz)) (.pr .fz (.ow .fz))))) (.pr .fz (.pr .fz (.pr .fz (.pr .fz (.pr .fz (.pr (.ow (.pr .fz .fz)) (.pr .fz (.pr .fz .fz)))))))))))⟩, ⟨false, tI, .fz⟩]
noncomputable def raw_spec_BuildStep (a0 : dA) : Option (ResD U_spec_BuildStep × MutD I_spec_BuildStep) :=
  let r1 := n_spec_l6Copy a0
  let r2 := n_spec_l8May a0
  bif (r2 != 0) then
    some ((r1, r2, ()), ())
  else
    bif (!(a0.2.2.2.1 == (-1))) then
      bif (inb a0.2.2.2.1 a0.2.2.1.length) then
        bif (!((((nth a0.2.2.1 a0.2.2.2.1 ([], [], false, [])).2).2).1)) then
          bif (leb a0.2.1.2 a0.2.2.2.2.1) then
            some ((r1, 2, ()), ())
          else
            bif a0.2.2.2.2.2.2.2.2.2.2.2 then
              some ((r1, 5, ()), ())
            else
              bnd (o_spec_l12Step r1) fun r3 =>
              some ((r3.2.1, r3.1.1, ()), ())
        else
          some ((r1, 2, ()), ())
      else none
    else
      some ((r1, 2, ()), ())
theorem e_spec_BuildStep (x : InD I_spec_BuildStep) : execF ⟨E_spec_BuildStep, 44, D_spec_BuildStep_0⟩ Tryz.f22.results.toList B_spec_BuildStep I_spec_BuildStep U_spec_BuildStep x = raw_spec_BuildStep x.1 := by kernel_rfl
theorem ok0_spec_BuildStep : ConOk Tryz.prog 22 ⟨I_spec_BuildStep, U_spec_BuildStep, fun x => raw_spec_BuildStep x.1⟩ := conOk_exec (fr_spec_BuildStep_0) Tryz.func22 (by kernel_rfl) (by kernel_rfl) Tryz.ntmps22.symm (by decide) (fun x r h => (e_spec_BuildStep x).trans h)
noncomputable def n_spec_BuildStep (a0 : dA) : dA × Int := buildStep a0
theorem lost_in2 {a : dA} (h : arrOk a = true) (h2 : a.2.2.2.1 ≠ -1) : inb a.2.2.2.1 a.2.1.1.toNat = true := by
  have := arr_lost h
  exact inb_iff.2 (by omega)
theorem nn_spec_BuildStep (a0 : dA) (hk : InOk I_spec_BuildStep (a0, ())) : raw_spec_BuildStep a0 = (fun n => some ((n.1, n.2, ()), ())) (n_spec_BuildStep a0) := by
  unfold raw_spec_BuildStep n_spec_BuildStep buildStep
  simp only [n_spec_l6Copy, n_spec_l8May, n_spec_ArrOk]
  cases ha : arrOk a0
  · rfl
  cases hd : downA a0
  · rw [show a0.2.2.2.2.2.2.2.2.2.2.1 = false from hd]
    cases hl : (a0.2.2.2.1 == -1)
    · have hi := lost_in ha (beq_eq_false_iff_ne.1 hl)
      rw [hi, ot_spec_l12Step a0 (by unfold q_spec_l12Step; rw [arrOk_geo ha, hi, lost_in2 ha (beq_eq_false_iff_ne.1 hl)]; rfl)]
      cases (nth a0.2.2.1 a0.2.2.2.1 noMem).2.2.1 <;> cases leb a0.2.1.2 a0.2.2.2.2.1 <;> cases a0.2.2.2.2.2.2.2.2.2.2.2 <;> rfl
    · rfl
  · rw [show a0.2.2.2.2.2.2.2.2.2.2.1 = true from hd]; rfl
noncomputable def con_spec_BuildStep : Con := ⟨I_spec_BuildStep, U_spec_BuildStep, fun x => (fun n => some ((n.1, n.2, ()), ())) (n_spec_BuildStep x.1)⟩
theorem ok_spec_BuildStep : ConOk Tryz.prog 22 con_spec_BuildStep := (ok0_spec_BuildStep).mono (fun x r hk h => (nn_spec_BuildStep x.1 hk).trans h)
end

/-! impl_within -/
section
noncomputable def B_impl_within : Code := (Tryz.f114.body).getD .skip
noncomputable def E_impl_within : Env := envOf TT [] []
theorem fr_impl_within_0 : FrOk Tryz.prog ⟨E_impl_within, 15, fun _ => none⟩ B_impl_within := frOk_base mixed tt_ok trivial
noncomputable def D_impl_within_0 : Nat → Option Seg := fun _ => none
abbrev I_impl_within : List Par := [.rd tI, .rd tI, .rd tI]
abbrev U_impl_within : List OT := [⟨false, tB, .fz⟩]
noncomputable def raw_impl_within (a0 : Int) (a1 : Int) (a2 : Int) : Option (ResD U_impl_within × MutD I_impl_within) :=
  bif (leb a1 a0) then
    some (((leb a0 a2), ()), ())
  else
    some ((false, ()), ())
theorem e_impl_within (x : InD I_impl_within) : execF ⟨E_impl_within, 15, D_impl_within_0⟩ Tryz.f114.results.toList B_impl_within I_impl_within U_impl_within x = raw_impl_within x.1 x.2.1 x.2.2.1 := by kernel_rfl
theorem ok0_impl_within : ConOk Tryz.prog 114 ⟨I_impl_within, U_impl_within, fun x => raw_impl_within x.1 x.2.1 x.2.2.1⟩ := conOk_exec (fr_impl_within_0) Tryz.func114 (by kernel_rfl) (by kernel_rfl) Tryz.ntmps114.symm (by decide) (fun x r h => (e_impl_within x).trans h)
noncomputable def n_impl_within (a0 : Int) (a1 : Int) (a2 : Int) : Bool :=
  bif (leb a1 a0) then
    (leb a0 a2)
  else
    false
noncomputable def con_impl_within : Con := ⟨I_impl_within, U_impl_within, fun x => (fun n => some ((n, ()), ())) (n_impl_within x.1 x.2.1 x.2.2.1)⟩
theorem nn_impl_within (a0 : Int) (a1 : Int) (a2 : Int) : raw_impl_within a0 a1 a2 = (fun n => some ((n, ()), ())) (n_impl_within a0 a1 a2) := bif_ty (p := fun (n : Bool) => ((n, ()), ())) (bif_some (p := fun (n : Bool) => ((n, ()), ())) rfl rfl)
theorem ok_impl_within : ConOk Tryz.prog 114 con_impl_within := (ok0_impl_within).mono (fun x r _ h => (nn_impl_within x.1 x.2.1 x.2.2.1).trans h)
theorem impl_in_eq (a b c : Int) : n_impl_within a b c = n_spec_l1In a b c := by kernel_rfl
end

/-! impl_GeoOk -/
section
noncomputable def B_impl_GeoOk : Code := (Tryz.f129.body).getD .skip
noncomputable def E_impl_GeoOk : Env := envOf TT [(114, con_impl_within)] []
theorem fr_impl_GeoOk_0 : FrOk Tryz.prog ⟨E_impl_GeoOk, 11, fun _ => none⟩ B_impl_GeoOk := frOk_base mixed tt_ok ⟨ok_impl_within, trivial⟩
noncomputable def D_impl_GeoOk_0 : Nat → Option Seg := fun _ => none
abbrev I_impl_GeoOk : List Par := [.rd tG]
abbrev U_impl_GeoOk : List OT := [⟨false, tB, .fz⟩]
noncomputable def raw_impl_GeoOk (a0 : dG) : Option (ResD U_impl_GeoOk × MutD I_impl_GeoOk) :=
  let r1 := n_impl_within a0.1 3 5
  bif r1 then
    let r2 := n_impl_within a0.2 1 8
    some ((r2, ()), ())
  else
    some ((false, ()), ())
theorem e_impl_GeoOk (x : InD I_impl_GeoOk) : execF ⟨E_impl_GeoOk, 11, D_impl_GeoOk_0⟩ Tryz.f129.results.toList B_impl_GeoOk I_impl_GeoOk U_impl_GeoOk x = raw_impl_GeoOk x.1 := by kernel_rfl
theorem ok0_impl_GeoOk : ConOk Tryz.prog 129 ⟨I_impl_GeoOk, U_impl_GeoOk, fun x => raw_impl_GeoOk x.1⟩ := conOk_exec (fr_impl_GeoOk_0) Tryz.func129 (by kernel_rfl) (by kernel_rfl) Tryz.ntmps129.symm (by decide) (fun x r h => (e_impl_GeoOk x).trans h)
noncomputable def n_impl_GeoOk (a0 : dG) : Bool :=
  let r1 := n_impl_within a0.1 3 5
  bif r1 then
    let r2 := n_impl_within a0.2 1 8
    r2
  else
    false
noncomputable def con_impl_GeoOk : Con := ⟨I_impl_GeoOk, U_impl_GeoOk, fun x => (fun n => some ((n, ()), ())) (n_impl_GeoOk x.1)⟩
theorem nn_impl_GeoOk (a0 : dG) : raw_impl_GeoOk a0 = (fun n => some ((n, ()), ())) (n_impl_GeoOk a0) := bif_ty (p := fun (n : Bool) => ((n, ()), ())) (bif_some (p := fun (n : Bool) => ((n, ()), ())) rfl rfl)
theorem ok_impl_GeoOk : ConOk Tryz.prog 129 con_impl_GeoOk := (ok0_impl_GeoOk).mono (fun x r _ h => (nn_impl_GeoOk x.1).trans h)
theorem geo_eq (a : Int × Int) : n_impl_GeoOk a = n_spec_GeoOk a := by kernel_rfl
end
end Go.Tf
