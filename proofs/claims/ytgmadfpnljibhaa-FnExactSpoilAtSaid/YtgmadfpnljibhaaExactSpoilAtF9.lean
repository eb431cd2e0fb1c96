/- Functions of the program, and what they come to. -/
import Derived.Test.YtgmadfpnljibhaaExactSpoilAtF8
import Derived.Shelf.SlLaysM
import Derived.Shelf.SlLaysN
import Derived.Shelf.SlicesG.CompactI
import Derived.Shelf.SortM.Plain
namespace Go.Tf
open Go.Proofs
set_option synthInstance.maxHeartbeats 400000
set_option synthInstance.maxSize 10000
set_option linter.unusedVariables false
set_option linter.unusedSimpArgs false
set_option maxRecDepth 100000
/-! impl_hasDisk -/
section
noncomputable def B_impl_hasDisk : Code := (Try.f67.body).getD .skip
noncomputable def E_impl_hasDisk : Env := envOf TT [(39, con_impl_within)] []
theorem fr_impl_hasDisk_0 : FrOk Try.prog ⟨E_impl_hasDisk, 11, fun _ => none⟩ B_impl_hasDisk := frOk_base mixed tt_ok ⟨ok_impl_within, trivial⟩
noncomputable def D_impl_hasDisk_0 : Nat → Option Seg := fun _ => none
abbrev I_impl_hasDisk : List Par := [.rd tA, .rd tI]
abbrev U_impl_hasDisk : List OT := [⟨false, tB, .fz⟩]
noncomputable def raw_impl_hasDisk (a0 : dA) (a1 : Int) : Option (ResD U_impl_hasDisk × MutD I_impl_hasDisk) :=
  let r1 := n_impl_within a1 0 (IntKind.i64.wrap ((a0.2.2.1.length : Int) - 1))
  some ((r1, ()), ())
theorem e_impl_hasDisk (x : InD I_impl_hasDisk) : execF ⟨E_impl_hasDisk, 11, D_impl_hasDisk_0⟩ Try.f67.results.toList B_impl_hasDisk I_impl_hasDisk U_impl_hasDisk x = raw_impl_hasDisk x.1 x.2.1 := by kernel_rfl
theorem ok0_impl_hasDisk : ConOk Try.prog 67 ⟨I_impl_hasDisk, U_impl_hasDisk, fun x => raw_impl_hasDisk x.1 x.2.1⟩ := conOk_exec (fr_impl_hasDisk_0) Try.func67 (by kernel_rfl) (by kernel_rfl) Try.ntmps67.symm (by decide) (fun x r h => (e_impl_hasDisk x).trans h)
noncomputable def n_impl_hasDisk (a0 : dA) (a1 : Int) : Bool :=
  let r1 := n_impl_within a1 0 (IntKind.i64.wrap ((a0.2.2.1.length : Int) - 1))
  r1
noncomputable def con_impl_hasDisk : Con := ⟨I_impl_hasDisk, U_impl_hasDisk, fun x => (fun n => some ((n, ()), ())) (n_impl_hasDisk x.1 x.2.1)⟩
theorem nn_impl_hasDisk (a0 : dA) (a1 : Int) : raw_impl_hasDisk a0 a1 = (fun n => some ((n, ()), ())) (n_impl_hasDisk a0 a1) := bif_ty (p := fun (n : Bool) => ((n, ()), ())) rfl
theorem ok_impl_hasDisk : ConOk Try.prog 67 con_impl_hasDisk := (ok0_impl_hasDisk).mono (fun x r _ h => (nn_impl_hasDisk x.1 x.2.1).trans h)
end

/-! slices_Sort_int -/
abbrev I_slices_Sort_int : List Par := [.mt tL (.ow .fz)]
abbrev U_slices_Sort_int : List OT := []
end Go.Tf
namespace Go.Proofs
open Go.Tf Go.RowKit Go.Lib Go.Shelf Go.Sort
set_option synthInstance.maxHeartbeats 400000
set_option synthInstance.maxSize 10000
set_option linter.unusedVariables false
set_option linter.unusedSimpArgs false
set_option maxRecDepth 100000
def Try.sortL_ren : Go.Shelf.Ren := ⟨fun | 5 => 107 | 8 => 142 | 7 => 141 | 19 => 173 | 20 => 174 | 10 => 164 | 11 => 165 | 12 => 166 | 13 => 167 | 14 => 168 | 15 => 169 | 16 => 170 | 17 => 171 | 18 => 172 | 30 => 184 | 31 => 185 | 32 => 186 | 33 => 187 | 34 => 188 | 35 => 189 | 40 => 198 | n => n, fun | 23 => 31 | 25 => 3 | 3 => 3 | 32 => 152 | 22 => 31 | 0 => 0 | 44 => 179 | 46 => 181 | 4 => 4 | 36 => 172 | 35 => 171 | 41 => 71 | 5 => 5 | 9 => 9 | 53 => 190 | 57 => 194 | 63 => 198 | 64 => 90 | n => n, fun | n => n⟩
theorem Try.sortL : Go.Proofs.SlLaysM.n5 Try.prog Try.sortL_ren where
  mixed := by kernel_rfl
  f5 := ⟨ "slices.Sort[[]int,int]", by decide, Try.func107.trans (congrArg some (by kernel_rfl))⟩
  f7 := ⟨ "slices.pdqsortOrdered[int]", by decide, Try.func141.trans (congrArg some (by kernel_rfl))⟩
  f8 := Try.func142.trans (congrArg some (by kernel_rfl))
  f10 := ⟨ "slices.insertionSortOrdered[int]", by decide, Try.func164.trans (congrArg some (by kernel_rfl))⟩
  f11 := ⟨ "slices.heapSortOrdered[int]", by decide, Try.func165.trans (congrArg some (by kernel_rfl))⟩
  f12 := ⟨ "slices.breakPatternsOrdered[int]", by decide, Try.func166.trans (congrArg some (by kernel_rfl))⟩
  f13 := ⟨ "slices.choosePivotOrdered[int]", by decide, Try.func167.trans (congrArg some (by kernel_rfl))⟩
  f14 := ⟨ "slices.reverseRangeOrdered[int]", by decide, Try.func168.trans (congrArg some (by kernel_rfl))⟩
  f15 := ⟨ "slices.partialInsertionSortOrdered[int]", by decide, Try.func169.trans (congrArg some (by kernel_rfl))⟩
  f16 := ⟨ "cmp.Less[int]", by decide, Try.func170.trans (congrArg some (by kernel_rfl))⟩
  f17 := ⟨ "slices.partitionEqualOrdered[int]", by decide, Try.func171.trans (congrArg some (by kernel_rfl))⟩
  f18 := ⟨ "slices.partitionOrdered[int]", by decide, Try.func172.trans (congrArg some (by kernel_rfl))⟩
  f19 := Try.func173.trans (congrArg some (by kernel_rfl))
  f20 := Try.func174.trans (congrArg some (by kernel_rfl))
  f30 := ⟨ "slices.siftDownOrdered[int]", by decide, Try.func184.trans (congrArg some (by kernel_rfl))⟩
  f31 := Try.func185.trans (congrArg some (by kernel_rfl))
  f32 := Try.func186.trans (congrArg some (by kernel_rfl))
  f33 := ⟨ "slices.medianAdjacentOrdered[int]", by decide, Try.func187.trans (congrArg some (by kernel_rfl))⟩
  f34 := ⟨ "slices.medianOrdered[int]", by decide, Try.func188.trans (congrArg some (by kernel_rfl))⟩
  f35 := ⟨ "cmp.isNaN[int]", by decide, Try.func189.trans (congrArg some (by kernel_rfl))⟩
  f40 := ⟨ "slices.order2Ordered[int]", by decide, Try.func198.trans (congrArg some (by kernel_rfl))⟩
  t0 := Try.underlying0
  a0 := Try.isAgg0
  z0 := Try.sizeOf0
  v0 := Try.zeroValue0
  t3 := Try.underlying3
  a3 := Try.isAgg3
  z3 := Try.sizeOf3
  v3 := Try.zeroValue3
  t4 := Try.underlying4
  a4 := Try.isAgg4
  z4 := Try.sizeOf4
  v4 := Try.zeroValue4
  t5 := Try.underlying5
  a5 := Try.isAgg5
  z5 := Try.sizeOf5
  v5 := Try.zeroValue5
  t9 := Try.underlying9
  a9 := Try.isAgg9
  z9 := Try.sizeOf9
  v9 := Try.zeroValue9
  t22 := Try.underlying31
  a22 := Try.isAgg31
  z22 := Try.sizeOf31
  v22 := Try.zeroValue31
  t23 := Try.underlying31
  a23 := Try.isAgg31
  z23 := Try.sizeOf31
  v23 := Try.zeroValue31
  t25 := Try.underlying3
  a25 := Try.isAgg3
  z25 := Try.sizeOf3
  v25 := Try.zeroValue3
  t32 := Try.underlying152
  a32 := Try.isAgg152
  z32 := Try.sizeOf152
  v32 := Try.zeroValue152
  t35 := Try.underlying171
  a35 := Try.isAgg171
  z35 := Try.sizeOf171
  v35 := Try.zeroValue171
  t36 := Try.underlying172
  a36 := Try.isAgg172
  z36 := Try.sizeOf172
  v36 := Try.zeroValue172
  t41 := Try.underlying71
  a41 := Try.isAgg71
  z41 := Try.sizeOf71
  v41 := Try.zeroValue71
  t44 := Try.underlying179
  a44 := Try.isAgg179
  z44 := Try.sizeOf179
  v44 := Try.zeroValue179
  t46 := Try.underlying181
  a46 := Try.isAgg181
  z46 := Try.sizeOf181
  v46 := Try.zeroValue181
  t53 := Try.underlying190
  a53 := Try.isAgg190
  z53 := Try.sizeOf190
  v53 := Try.zeroValue190
  t57 := Try.underlying194
  a57 := Try.isAgg194
  z57 := Try.sizeOf194
  v57 := Try.zeroValue194
  t63 := Try.underlying198
  a63 := Try.isAgg198
  z63 := Try.sizeOf198
  v63 := Try.zeroValue198
  t64 := Try.underlying90
  a64 := Try.isAgg90
  z64 := Try.sizeOf90
  v64 := Try.zeroValue90
end Go.Proofs
namespace Go.Tf
open Go.Proofs
set_option synthInstance.maxHeartbeats 400000
set_option synthInstance.maxSize 10000
set_option linter.unusedVariables false
set_option linter.unusedSimpArgs false
set_option maxRecDepth 100000
theorem ints_elems {h : Heap} {Z : Nat → Prop} {l : List Int} {vs : List Value} {fps : List (List Nat)} (e : Elems h Z tI .fz l vs fps) : vs = l.map (Value.int .i64) ∧ fps.flatten = [] ∧ ∀ x ∈ l, Rd h Z tI x [.int .i64 x] := by
  have hs : tI.size = 1 := rfl
  have key : ∀ i x, l[i]? = some x → vs[i]? = some (Value.int .i64 x) ∧ fps[i]? = some [] ∧ Rd h Z tI x [.int .i64 x] := fun i x hx => by
    obtain ⟨f, h1, h2⟩ := e.el i x hx
    obtain ⟨h3, rfl⟩ := h2
    have h4 := h3
    obtain ⟨h5, _⟩ := h3
    rw [hs, Nat.mul_one] at h5 h4
    refine ⟨?_, h1, by rw [h5] at h4; exact h4⟩
    have := congrArg (fun q : List Value => q[0]?) h5
    simpa [List.getElem?_take, List.getElem?_drop] using this
  have hl := e.len
  rw [hs, Nat.mul_one] at hl
  refine ⟨?_, ?_, fun x hx => ?_⟩
  · apply List.ext_getElem?
    intro i
    rw [List.getElem?_map]
    cases hq : l[i]? with
    | none =>
      have := List.getElem?_eq_none_iff.1 hq
      rw [List.getElem?_eq_none (by omega)]; rfl
    | some x => exact (key i x hq).1
  · rw [List.flatten_eq_nil_iff]
    intro f hf
    obtain ⟨i, hi, rfl⟩ := List.getElem_of_mem hf
    have hi2 : i < l.length := by rw [← e.fl]; exact hi
    have := (key i l[i] (List.getElem?_eq_getElem hi2)).2.1
    rw [List.getElem?_eq_getElem hi] at this
    exact Option.some.inj this
  · obtain ⟨i, hi, rfl⟩ := List.getElem_of_mem hx
    exact (key i l[i] (List.getElem?_eq_getElem hi)).2.2
theorem elems_ints {h : Heap} {Z : Nat → Prop} {l : List Int} (hl : ∀ x ∈ l, Rd h Z tI x [.int .i64 x]) : Elems h Z tI .fz l (l.map (Value.int .i64)) (List.replicate l.length []) := by
  refine ⟨by rw [List.length_map]; show l.length = l.length * 1; omega, by simp, fun i x hx => ⟨[], ?_, ?_⟩⟩
  · have hi := (List.getElem?_eq_some_iff.1 hx).1
    simp [List.getElem?_replicate, hi]
  · have hi := (List.getElem?_eq_some_iff.1 hx).1
    have h1 : ((l.map (Value.int .i64)).drop (i * tI.size)).take tI.size = [.int .i64 x] := by
      show ((l.map (Value.int .i64)).drop (i * 1)).take 1 = _
      rw [Nat.mul_one]
      apply List.ext_getElem?
      intro j
      rw [List.getElem?_take, List.getElem?_drop, List.getElem?_map]
      cases j with
      | zero => simp [hx]
      | succ j => simp
    rw [h1]
    exact ⟨hl x (List.mem_of_getElem? hx), rfl⟩
theorem hp_putRow {w : World} {b o : Nat} {d : Array Int} {c : Array Value} {T : TypeId} (hb : hp w b = some (.cells c T (0, 0))) (n : Nat) (os : Array Obj) : hp (Sort.grow (Sort.putRow (Value.int .i64) (Sort.ahead w n) b o d) os) b = some (.cells (Sort.putCells (Value.int .i64) o d c) T (0, 0)) := by
  have hb' : w.heap[b]? = some (.cells c T (0, 0)) := hb
  have hlt : b < w.heap.size := (Array.getElem?_eq_some_iff.1 hb').1
  show (w.heap.modify b (Sort.onCells (Sort.putCells (Value.int .i64) o d)) ++ os)[b]? = _
  rw [Array.getElem?_append_left (by rw [Array.size_modify]; exact hlt), Array.getElem?_modify, if_pos rfl, hb']
  rfl
theorem hp_putRow_ne {w : World} {b b' o : Nat} {d : Array Int} (hlt : b' < w.heap.size) (hne : b' ≠ b) (n : Nat) (os : Array Obj) : hp (Sort.grow (Sort.putRow (Value.int .i64) (Sort.ahead w n) b o d) os) b' = hp w b' := by
  show (w.heap.modify b (Sort.onCells (Sort.putCells (Value.int .i64) o d)) ++ os)[b']? = _
  rw [Array.getElem?_append_left (by rw [Array.size_modify]; exact hlt), Array.getElem?_modify, if_neg (fun e => hne e.symm)]
  rfl
theorem cells_putRow {h : Heap} {b o m : Nat} {l : List Int} {c : Array Value} {T : TypeId} (hb : h b = some (.cells (Sort.putCells (Value.int .i64) o l.toArray c) T (0, 0))) (ho : o + l.length ≤ c.size) (hm : m ≤ l.length) : cellsAt h b o m = some ((l.take m).map (Value.int .i64)) := by
  have hl : ((l.take m).map (Value.int .i64)).length = m := by rw [List.length_map, List.length_take]; omega
  have := cellsAt_mk (h := h) (b := b) ((l.take m).map (Value.int .i64)) o (fun j hj => by
    rw [hl] at hj
    unfold cellOf
    rw [hb]
    show (Sort.putCells (Value.int .i64) o l.toArray c)[o + j]? = _
    unfold Sort.putCells
    rw [Array.getElem?_mapIdx, Array.getElem?_eq_getElem (show o + j < c.size by omega), Option.map_some, if_pos (by rw [List.size_toArray]; omega), List.getElem?_map, List.getElem?_take, if_pos hj]
    have hjl : j < l.length := by omega
    rw [List.getElem?_eq_getElem hjl, show o + j - o = j by omega]
    simp [hjl])
  rw [hl] at this; exact this
theorem holds_ints {w : World} {b o : Nat} {l : List Int} {c : Array Value} {T : TypeId} (hb : hp w b = some (.cells c T (0, 0))) (hc : cellsAt (hp w) b o l.length = some (l.map (Value.int .i64))) : Sort.Holds (Value.int .i64) w b o l.toArray := by
  intro j hj
  rw [List.size_toArray] at hj
  refine ⟨?_, ?_⟩
  · rw [cellOf_world, ← cellsAt_get hc j hj, List.getElem?_map, List.getElem?_eq_getElem hj]
    simp [hj]
  · unfold World.frozen?
    have : w.heap[b]? = some (.cells c T (0, 0)) := hb
    simp [this]
def q_slices_Sort_int (l : List Int) : Bool := decide (0 < l.length ∧ l.length ≤ 1000)
def n_slices_Sort_int (l : List Int) : List Int := l.mergeSort fun x y => decide (x ≤ y)
noncomputable def con_sort : Con := ⟨I_slices_Sort_int, U_slices_Sort_int, fun x => bif q_slices_Sort_int x.1 then some ((), (n_slices_Sort_int x.1, ())) else none⟩
theorem sort_ok : ConOk Try.prog 107 con_sort where
  fn := ⟨_, Try.func107, by kernel_rfl, by kernel_rfl⟩
  run := fun w Z R xs args fs r ha hF hz hnd hfr => by
    obtain ⟨l, _⟩ := xs
    rcases args with _ | ⟨a0, _ | ⟨a1, t⟩⟩ <;> rcases fs with _ | ⟨f0, _ | ⟨f1, u⟩⟩ <;> try (simp [ArgsOk, con_sort] at ha; done)
    obtain ⟨⟨cs0, rfl, o0⟩, _⟩ := ha
    have hF' : (bif q_slices_Sort_int l then some (((), (n_slices_Sort_int l, ())) : ResD U_slices_Sort_int × MutD I_slices_Sort_int) else none) = some r := hF
    cases hq : q_slices_Sort_int l with
    | false => rw [hq] at hF'; cases hF'
    | true =>
      rw [hq] at hF'
      obtain rfl := Option.some.inj hF'
      have hq := of_decide_eq_true hq
      have hl1 := Own.len o0
      obtain ⟨a0, rfl⟩ := List.length_eq_one_iff.1 hl1
      have hfl : ([f0] : List (List Nat)).flatten = f0 := by simp
      rw [hfl] at hfr hnd
      obtain ⟨hd, cap, hv0, hbnd, hlc, hc0⟩ := Own.elems o0
      subst hv0
      have hlc : l.length ≤ cap := hlc
      have hbnd : l.length * tI.bytes ≤ 2 ^ 47 := hbnd
      rcases hc0 with ⟨rfl, _⟩ | ⟨b, o, c, T, vs0, fp0, rfl, hB, hcap, hf0, hcs0, e0⟩
      · exact absurd hq.1 (Nat.lt_irrefl 0)
      · obtain ⟨rfl, hfn, hrd⟩ := ints_elems e0
        rw [hfn] at hf0
        have hs : tI.size = 1 := rfl
        rw [hs, Nat.mul_one] at hcs0 hcap
        have hbf : b ∈ f0 := by rw [hf0]; exact List.mem_cons_self
        obtain ⟨hblt, hbZ, _⟩ := hfr b hbf
        have hsl : (n_slices_Sort_int l).length = l.length := (List.mergeSort_perm l _).length_eq
        refine (AnyM.slices_Sort_int Try.sortL b o cap l w (holds_ints hB hcs0) hblt (by omega)).mono fun e w2 ⟨he, n, os, hw2⟩ => ?_
        subst he hw2
        have hB2 := hp_putRow (o := o) (d := (n_slices_Sort_int l).toArray) hB n os
        have oth : ∀ b', b' < w.heap.size → b' ≠ b → hp (Sort.grow (Sort.putRow (Value.int .i64) (Sort.ahead w n) b o (n_slices_Sort_int l).toArray) os) b' = hp w b' := fun b' h1 h2 => hp_putRow_ne h1 h2 n os
        have hcs := cells_putRow hB2 (by omega) (Nat.le_refl _)
        rw [List.take_length] at hcs
        have hrd2 : ∀ x ∈ n_slices_Sort_int l, Rd (hp (Sort.grow (Sort.putRow (Value.int .i64) (Sort.ahead w n) b o (n_slices_Sort_int l).toArray) os)) Z tI x [.int .i64 x] := fun x hx => Rd.keep (fun b' hb' => oth b' (hz b' (.inl hb')) (fun e => hbZ (e ▸ hb'))) (fun _ h => h) (hrd x ((List.mergeSort_perm l _).mem_iff.1 hx))
        have hown := (elems_ints hrd2).own (b := b) (o := o) (cap := cap) hB2 (by rw [hs, Nat.mul_one]; exact hcs) (by rw [hs, Nat.mul_one]; unfold Sort.putCells; rw [Array.size_mapIdx]; exact hcap) (by omega) (by rw [hsl]; exact hbnd)
        rw [flatten_replicate_nil, hsl] at hown
        refine ⟨[], Z, [], [[b]], rfl, rfl, ?_, fun b' h1 h2 => oth b' h1 (fun e => h2 (by rw [hfl, e]; exact hbf)), fun _ h => h, fun _ h => .inl h, trivial, ⟨⟨_, rfl, hown⟩, trivial⟩, by simp, fun b' hb' => ?_⟩
        · show w.heap.size ≤ (w.heap.modify b _ ++ os).size
          rw [Array.size_append, Array.size_modify]; omega
        · simp at hb'
          subst hb'
          exact ⟨.inr (by rw [hfl]; exact hbf), hbZ⟩
noncomputable def o_slices_Sort_int (a0 : List Int) : Option (ResD U_slices_Sort_int × MutD I_slices_Sort_int) := bif q_slices_Sort_int a0 then (fun n => some ((), (n, ()))) (n_slices_Sort_int a0) else none
theorem ot_slices_Sort_int (a0 : List Int) (h : q_slices_Sort_int a0 = true) : o_slices_Sort_int a0 = (fun n => some ((), (n, ()))) (n_slices_Sort_int a0) := by unfold o_slices_Sort_int; rw [h]; rfl
noncomputable def con_slices_Sort_int : Con := ⟨I_slices_Sort_int, U_slices_Sort_int, fun x => o_slices_Sort_int x.1⟩
theorem ok_slices_Sort_int : ConOk Try.prog 107 con_slices_Sort_int := sort_ok

/-! slices_Compact_int -/
abbrev I_slices_Compact_int : List Par := [.kp tL (.ow .fz)]
abbrev U_slices_Compact_int : List OT := [⟨false, tL, (.ow .fz)⟩]
end Go.Tf
namespace Go.Proofs
open Go.Tf Go.RowKit Go.Lib Go.Shelf Go.Sort
set_option synthInstance.maxHeartbeats 400000
set_option synthInstance.maxSize 10000
set_option linter.unusedVariables false
set_option linter.unusedSimpArgs false
set_option maxRecDepth 100000
def Try.compL_ren : Go.Shelf.Ren := ⟨fun | 43 => 108 | n => n, fun | 22 => 31 | 23 => 3 | 3 => 3 | 4 => 4 | 0 => 0 | n => n, fun | n => n⟩
theorem Try.compL : Go.Proofs.SlLaysN.n43 Try.prog Try.compL_ren where
  mixed := by kernel_rfl
  f43 := ⟨ "slices.Compact[[]int,int]", by decide, Try.func108.trans (congrArg some (by kernel_rfl))⟩
  t0 := Try.underlying0
  a0 := Try.isAgg0
  z0 := Try.sizeOf0
  v0 := Try.zeroValue0
  t3 := Try.underlying3
  a3 := Try.isAgg3
  z3 := Try.sizeOf3
  v3 := Try.zeroValue3
  t4 := Try.underlying4
  a4 := Try.isAgg4
  z4 := Try.sizeOf4
  v4 := Try.zeroValue4
  t22 := Try.underlying31
  a22 := Try.isAgg31
  z22 := Try.sizeOf31
  v22 := Try.zeroValue31
  t23 := Try.underlying3
  a23 := Try.isAgg3
  z23 := Try.sizeOf3
  v23 := Try.zeroValue3
  i23 := by kernel_rfl
end Go.Proofs
namespace Go.Tf
open Go.Proofs
set_option synthInstance.maxHeartbeats 400000
set_option synthInstance.maxSize 10000
set_option linter.unusedVariables false
set_option linter.unusedSimpArgs false
set_option maxRecDepth 100000
def q_slices_Compact_int (l : List Int) : Bool := q_slices_Sort_int l
def n_slices_Compact_int (l : List Int) : List Int := Lib.compact l
noncomputable def con_comp : Con := ⟨I_slices_Compact_int, U_slices_Compact_int, fun x => bif q_slices_Compact_int x.1 then some ((n_slices_Compact_int x.1, ()), ()) else none⟩
theorem comp_le (l : List Int) : (Lib.compact l).length ≤ l.length := by
  unfold Lib.compact Lib.compactUpTo
  rw [List.length_map]
  exact Nat.le_trans (List.length_filter_le _ _) (by simp)
theorem comp_mem {l : List Int} {x : Int} (h : x ∈ Lib.compact l) : x ∈ l := by
  unfold Lib.compact Lib.compactUpTo at h
  obtain ⟨i, hi, rfl⟩ := List.mem_map.1 h
  have hi := List.mem_range.1 (List.mem_filter.1 hi).1
  simp [hi]
theorem comp_ok : ConOk Try.prog 108 con_comp where
  fn := ⟨_, Try.func108, by kernel_rfl, by kernel_rfl⟩
  run := fun w Z R xs args fs r ha hF hz hnd hfr => by
    obtain ⟨l, _⟩ := xs
    rcases args with _ | ⟨a0, _ | ⟨a1, t⟩⟩ <;> rcases fs with _ | ⟨f0, _ | ⟨f1, u⟩⟩ <;> try (simp [ArgsOk, con_comp] at ha; done)
    obtain ⟨⟨cs0, rfl, o0⟩, _⟩ := ha
    have hF' : (bif q_slices_Compact_int l then some (((n_slices_Compact_int l, ()), ()) : ResD U_slices_Compact_int × MutD I_slices_Compact_int) else none) = some r := hF
    cases hq : q_slices_Compact_int l with
    | false => rw [hq] at hF'; cases hF'
    | true =>
      rw [hq] at hF'
      obtain rfl := Option.some.inj hF'
      have hq := of_decide_eq_true hq
      have hl1 := Own.len o0
      obtain ⟨a0, rfl⟩ := List.length_eq_one_iff.1 hl1
      have hfl : ([f0] : List (List Nat)).flatten = f0 := by simp
      rw [hfl] at hfr hnd
      obtain ⟨hd, cap, hv0, hbnd, hlc, hc0⟩ := Own.elems o0
      subst hv0
      have hlc : l.length ≤ cap := hlc
      have hbnd : l.length * tI.bytes ≤ 2 ^ 47 := hbnd
      rcases hc0 with ⟨rfl, _⟩ | ⟨b, o, c, T, vs0, fp0, rfl, hB, hcap, hf0, hcs0, e0⟩
      · exact absurd hq.1 (Nat.lt_irrefl 0)
      · obtain ⟨rfl, hfn, hrd⟩ := ints_elems e0
        rw [hfn] at hf0
        have hs : tI.size = 1 := rfl
        rw [hs, Nat.mul_one] at hcs0 hcap
        have hbf : b ∈ f0 := by rw [hf0]; exact List.mem_cons_self
        obtain ⟨hblt, hbZ, _⟩ := hfr b hbf
        have hcl := comp_le l
        have hL : (Lib.compact l ++ List.replicate (l.length - (Lib.compact l).length) (0 : Int)).length = l.length := by rw [List.length_append, List.length_replicate]; omega
        refine (AnyG.slices_Compact_int Try.compL b o cap l w (holds_ints hB hcs0) (by omega) hlc).mono fun e w2 ⟨he, n, hw2⟩ => ?_
        rw [← Sort.grow_empty (Sort.putRow _ _ _ _ _)] at hw2
        subst he hw2
        have hB2 := hp_putRow (o := o) (d := (Lib.compact l ++ List.replicate (l.length - (Lib.compact l).length) (0 : Int)).toArray) hB n #[]
        have oth : ∀ b', b' < w.heap.size → b' ≠ b → hp (Sort.grow (Sort.putRow (Value.int .i64) (Sort.ahead w n) b o (Lib.compact l ++ List.replicate (l.length - (Lib.compact l).length) (0 : Int)).toArray) #[]) b' = hp w b' := fun b' h1 h2 => hp_putRow_ne h1 h2 n #[]
        have hcs := cells_putRow (m := (Lib.compact l).length) hB2 (by omega) (by omega)
        rw [List.take_left] at hcs
        have hrd2 : ∀ x ∈ Lib.compact l, Rd (hp (Sort.grow (Sort.putRow (Value.int .i64) (Sort.ahead w n) b o (Lib.compact l ++ List.replicate (l.length - (Lib.compact l).length) (0 : Int)).toArray) #[])) Z tI x [.int .i64 x] := fun x hx => Rd.keep (fun b' hb' => oth b' (hz b' (.inl hb')) (fun e => hbZ (e ▸ hb'))) (fun _ h => h) (hrd x (comp_mem hx))
        have hown := (elems_ints hrd2).own (b := b) (o := o) (cap := cap) hB2 (by rw [hs, Nat.mul_one]; exact hcs) (by rw [hs, Nat.mul_one]; unfold Sort.putCells; rw [Array.size_mapIdx]; exact hcap) (by omega) (by have : tI.bytes = 8 := rfl; rw [this] at hbnd ⊢; omega)
        rw [flatten_replicate_nil] at hown
        refine ⟨[_], Z, [[b]], [[]], rfl, rfl, ?_, fun b' h1 h2 => oth b' h1 (fun e => h2 (by rw [hfl, e]; exact hbf)), fun _ h => h, fun _ h => .inl h, ⟨⟨_, rfl, hown⟩, trivial⟩, ⟨rfl, trivial⟩, by simp, fun b' hb' => ?_⟩
        · show w.heap.size ≤ (w.heap.modify b _ ++ #[]).size
          rw [Array.size_append, Array.size_modify]; omega
        · simp at hb'
          subst hb'
          exact ⟨.inr (by rw [hfl]; exact hbf), hbZ⟩
noncomputable def o_slices_Compact_int (a0 : List Int) : Option (ResD U_slices_Compact_int × MutD I_slices_Compact_int) := bif q_slices_Compact_int a0 then (fun n => some ((n, ()), ())) (n_slices_Compact_int a0) else none
theorem ot_slices_Compact_int (a0 : List Int) (h : q_slices_Compact_int a0 = true) : o_slices_Compact_int a0 = (fun n => some ((n, ()), ())) (n_slices_Compact_int a0) := by unfold o_slices_Compact_int; rw [h]; rfl
noncomputable def con_slices_Compact_int : Con := ⟨I_slices_Compact_int, U_slices_Compact_int, fun x => o_slices_Compact_int x.1⟩
theorem ok_slices_Compact_int : ConOk Try.prog 108 con_slices_Compact_int := comp_ok

/-! impl_SpoilSec -/
section
noncomputable def B_impl_SpoilSec : Code := (Try.f68.body).getD .skip
noncomputable def E_impl_SpoilSec : Env := envOf TT [(43, con_impl_MemOk), (84, con_impl_hasSec), (106, con_impl_copyMem), (107, con_slices_Sort_int), (108, con_slices_Compact_int)] []
theorem fr_impl_SpoilSec_0 : FrOk Try.prog ⟨E_impl_SpoilSec, 32, fun _ => none⟩ B_impl_SpoilSec := frOk_base mixed tt_ok ⟨ok_impl_MemOk, ok_impl_hasSec, ok_impl_copyMem, ok_slices_Sort_int, ok_slices_Compact_int, trivial⟩
noncomputable def D_impl_SpoilSec_0 : Nat → Option Seg := fun _ => none
abbrev I_impl_SpoilSec : List Par := [.rd tM, .rd tI]
abbrev U_impl_SpoilSec : List OT := [⟨false, tM, (.pr (.ow (.ow .fz)) (.pr (.ow (.pr .fz (.ow .fz))) (.pr .fz (.ow .fz))))⟩]
noncomputable def raw_impl_SpoilSec (a0 : dM) (a1 : Int) : Option (ResD U_impl_SpoilSec × MutD I_impl_SpoilSec) :=
  let r1 := n_impl_copyMem a0
  let r2 := n_impl_MemOk a0
  bif (!(!r2)) then
    let r3 := n_impl_hasSec a0 a1
    bif (!r3) then
      some ((r1, ()), ())
    else
      bif (apok r1.2.2.2.length ([a1] : List Int).length 8) then
        bnd (o_slices_Sort_int (r1.2.2.2 ++ ([a1] : List Int))) fun r4 =>
        bnd (o_slices_Compact_int r4.2.1) fun r5 =>
        some (((r1.1, r1.2.1, r1.2.2.1, r5.1.1), ()), ())
      else none
  else
    some ((r1, ()), ())
theorem e_impl_SpoilSec (x : InD I_impl_SpoilSec) : execF ⟨E_impl_SpoilSec, 32, D_impl_SpoilSec_0⟩ Try.f68.results.toList B_impl_SpoilSec I_impl_SpoilSec U_impl_SpoilSec x = raw_impl_SpoilSec x.1 x.2.1 := by kernel_rfl
theorem ok0_impl_SpoilSec : ConOk Try.prog 68 ⟨I_impl_SpoilSec, U_impl_SpoilSec, fun x => raw_impl_SpoilSec x.1 x.2.1⟩ := conOk_exec (fr_impl_SpoilSec_0) Try.func68 (by kernel_rfl) (by kernel_rfl) Try.ntmps68.symm (by decide) (fun x r h => (e_impl_SpoilSec x).trans h)
/-- what lies sorted, each once -/
theorem comp_sorted {zs : List Int} (h : zs.Pairwise (· ≤ ·)) : (Lib.compact zs).Pairwise (· < ·) ∧ ∀ x, x ∈ Lib.compact zs ↔ x ∈ zs := by
  have hle : ∀ i j, i ≤ j → j < zs.length → zs.toArray[i]! ≤ zs.toArray[j]! := fun i j hij hj => by
    have e : ∀ k, k < zs.length → zs.toArray[k]! = zs[k]! := fun k hk => by simp [hk]
    rw [e i (by omega), e j hj]
    rcases Nat.lt_or_ge i j with g | g
    · have := List.pairwise_iff_getElem.1 h i j (by omega) hj g
      rwa [getElem!_pos zs i (by omega), getElem!_pos zs j hj]
    · have : i = j := by omega
      subst this; exact Int.le_refl _
  have key : ∀ m, m ≤ zs.length → (Lib.compactUpTo zs.toArray m).Pairwise (· < ·) ∧ (∀ x ∈ Lib.compactUpTo zs.toArray m, ∃ j, j < m ∧ x = zs.toArray[j]!) ∧ ∀ j, j < m → zs.toArray[j]! ∈ Lib.compactUpTo zs.toArray m := by
    intro m
    induction m with
    | zero => intro _; exact ⟨List.Pairwise.nil, (fun x hx => nomatch hx), fun j hj => absurd hj (Nat.not_lt_zero j)⟩
    | succ m ih =>
      intro hm
      obtain ⟨i1, i2, i3⟩ := ih (by omega)
      rw [Lib.compactUpTo_succ]
      cases hk : Lib.keeps zs.toArray m
      · rw [if_neg (by simp), List.append_nil]
        have hk2 : ¬ (m = 0 ∨ zs.toArray[m]! ≠ zs.toArray[m - 1]!) := of_decide_eq_false hk
        have h0 : m ≠ 0 := fun e => hk2 (.inl e)
        have he : zs.toArray[m]! = zs.toArray[m - 1]! := Classical.byContradiction fun e => hk2 (.inr e)
        refine ⟨i1, fun x hx => ?_, fun j hj => ?_⟩
        · obtain ⟨j, hj, e⟩ := i2 x hx
          exact ⟨j, by omega, e⟩
        · by_cases hjm : j = m
          · subst hjm; rw [he]; exact i3 _ (by omega)
          · exact i3 j (by omega)
      · rw [if_pos rfl]
        have hk2 : m = 0 ∨ zs.toArray[m]! ≠ zs.toArray[m - 1]! := of_decide_eq_true hk
        refine ⟨?_, fun x hx => ?_, fun j hj => ?_⟩
        · rw [List.pairwise_append]
          refine ⟨i1, List.pairwise_singleton _ _, fun x hx y hy => ?_⟩
          rw [List.mem_singleton] at hy
          subst hy
          obtain ⟨j, hj, rfl⟩ := i2 x hx
          rcases hk2 with rfl | hk2
          · omega
          · have g1 := hle j (m - 1) (by omega) (by omega)
            have g2 := hle (m - 1) m (by omega) (by omega)
            omega
        · rcases List.mem_append.1 hx with hx | hx
          · obtain ⟨j, hj, e⟩ := i2 x hx
            exact ⟨j, by omega, e⟩
          · exact ⟨m, by omega, List.mem_singleton.1 hx⟩
        · by_cases hjm : j = m
          · subst hjm; exact List.mem_append.2 (.inr (List.mem_singleton.2 rfl))
          · exact List.mem_append.2 (.inl (i3 j (by omega)))
  obtain ⟨k1, k2, k3⟩ := key zs.length (Nat.le_refl _)
  refine ⟨k1, fun x => ⟨fun hx => comp_mem hx, fun hx => ?_⟩⟩
  obtain ⟨i, hi, rfl⟩ := List.getElem_of_mem hx
  have := k3 i hi
  have e : zs.toArray[i]! = zs[i] := by simp [hi]
  rw [e] at this
  exact this
theorem asc_ext {l m : List Int} (hl : l.Pairwise (· < ·)) (hm : m.Pairwise (· < ·)) (h : ∀ x, x ∈ l ↔ x ∈ m) : l = m := by
  have nl : l.Nodup := hl.imp (fun h => by omega)
  have nm : m.Nodup := hm.imp (fun h => by omega)
  exact List.Perm.eq_of_pairwise (le := (· < ·)) (fun a b _ _ h1 h2 => by omega) hl hm ((List.perm_ext_iff_of_nodup nl nm).2 h)
theorem sort_bad {l : List Int} {n : Int} (h : l.Pairwise (· < ·)) : n_slices_Compact_int (n_slices_Sort_int (l ++ [n])) = bif l.any (· == n) then l else insBad l n := by
  have hs : (n_slices_Sort_int (l ++ [n])).Pairwise (· ≤ ·) := (List.pairwise_mergeSort (le := fun x y : Int => decide (x ≤ y)) (fun a b c h1 h2 => decide_eq_true (by have := of_decide_eq_true h1; have := of_decide_eq_true h2; omega)) (fun a b => by
    by_cases hab : a ≤ b
    · simp [hab]
    · have : b ≤ a := by omega
      simp [this]) (l ++ [n])).imp (fun h => of_decide_eq_true h)
  obtain ⟨c1, c2⟩ := comp_sorted hs
  have hm : ∀ x, x ∈ n_slices_Compact_int (n_slices_Sort_int (l ++ [n])) ↔ (x ∈ l ∨ x = n) := fun x => by
    refine (c2 x).trans (((List.mergeSort_perm (l ++ [n]) _).mem_iff).trans ?_)
    rw [List.mem_append, List.mem_singleton]
  cases hn : l.any (· == n)
  · refine asc_ext c1 ?_ fun x => (hm x).trans ?_
    · show (insBad l n).Pairwise (· < ·)
      unfold insBad
      rw [List.pairwise_append, List.pairwise_cons]
      refine ⟨h.filter _, ⟨fun y hy => ltb_iff.1 (List.mem_filter.1 hy).2, h.filter _⟩, fun x hx y hy => ?_⟩
      have g1 := ltb_iff.1 (List.mem_filter.1 hx).2
      rcases List.mem_cons.1 hy with rfl | hy
      · exact g1
      · exact Int.lt_trans g1 (ltb_iff.1 (List.mem_filter.1 hy).2)
    · show _ ↔ x ∈ insBad l n
      unfold insBad
      rw [List.mem_append, List.mem_cons, List.mem_filter, List.mem_filter, ltb_iff, ltb_iff]
      constructor
      · rintro (hx | rfl)
        · rcases Int.lt_trichotomy x n with g | g | g
          · exact .inl ⟨hx, g⟩
          · exact .inr (.inl g)
          · exact .inr (.inr ⟨hx, g⟩)
        · exact .inr (.inl rfl)
      · rintro (g | g | g)
        · exact .inl g.1
        · exact .inr g
        · exact .inl g.1
  · refine asc_ext c1 h fun x => (hm x).trans ?_
    constructor
    · rintro (hx | rfl)
      · exact hx
      · obtain ⟨y, hy, e⟩ := List.any_eq_true.1 hn
        rw [← beq_iff_eq.1 e]; exact hy
    · exact .inl
noncomputable def n_impl_SpoilSec (a0 : dM) (a1 : Int) : dM := spoil a0 a1
theorem nn_impl_SpoilSec (a0 : dM) (a1 : Int) (hk : InOk I_impl_SpoilSec (a0, a1, ())) : raw_impl_SpoilSec a0 a1 = (fun n => some ((n, ()), ())) (n_impl_SpoilSec a0 a1) := by
  have hb : a0.1.length * 24 ≤ 2 ^ 47 := hk.1.1.1
  unfold raw_impl_SpoilSec n_impl_SpoilSec spoil
  simp only [n_impl_copyMem, n_impl_MemOk, n_impl_hasSec, impl_in_eq, in_len (show a0.1.length ≤ 1152921504606846976 by omega), Bool.not_not]
  cases hm : memOk a0
  · rfl
  · obtain ⟨h1, h2, h3, h4, h5, h6⟩ := memOk_parts hm
    rw [badOk_iff] at h3
    cases hi : inb a1 a0.1.length
    · rfl
    · have hl : a0.2.2.2.length ≤ 64 := by
        have := asc_len (l := a0.2.2.2) (lo := 0) (n := (a0.1.length : Int)) h3.2 (fun x hx => by have := h3.1 x hx; omega) (by omega)
        omega
      have hap : apok a0.2.2.2.length ([a1] : List Int).length 8 = true := apok_iff.2 (by simp only [List.length_cons, List.length_nil]; omega)
      have hq : q_slices_Sort_int (a0.2.2.2 ++ [a1]) = true := decide_eq_true (by simp only [List.length_append, List.length_cons, List.length_nil]; omega)
      have hq2 : q_slices_Compact_int (n_slices_Sort_int (a0.2.2.2 ++ [a1])) = true := by
        have : (n_slices_Sort_int (a0.2.2.2 ++ [a1])).length = (a0.2.2.2 ++ [a1]).length := (List.mergeSort_perm _ _).length_eq
        unfold q_slices_Compact_int q_slices_Sort_int
        rw [this]; exact hq
      simp only [hap, cond_true, Bool.not_true, cond_false, ot_slices_Sort_int _ hq, bnd_some, ot_slices_Compact_int _ hq2, sort_bad h3.2]
      cases a0.2.2.2.any (· == a1) <;> rfl
noncomputable def con_impl_SpoilSec : Con := ⟨I_impl_SpoilSec, U_impl_SpoilSec, fun x => (fun n => some ((n, ()), ())) (n_impl_SpoilSec x.1 x.2.1)⟩
theorem ok_impl_SpoilSec : ConOk Try.prog 68 con_impl_SpoilSec := (ok0_impl_SpoilSec).mono (fun x r hk h => (nn_impl_SpoilSec x.1 x.2.1 hk).trans h)
end

/-! impl_DataAt -/
section
noncomputable def B_impl_DataAt : Code := (Try.f69.body).getD .skip
noncomputable def E_impl_DataAt : Env := envOf TT [(39, con_impl_within)] []
theorem fr_impl_DataAt_0 : FrOk Try.prog ⟨E_impl_DataAt, 9, fun _ => none⟩ B_impl_DataAt := frOk_base mixed tt_ok ⟨ok_impl_within, trivial⟩
noncomputable def D_impl_DataAt_0 : Nat → Option Seg := fun _ => none
abbrev I_impl_DataAt : List Par := [.rd tI]
abbrev U_impl_DataAt : List OT := [⟨false, tI, .fz⟩]
noncomputable def raw_impl_DataAt (a0 : Int) : Option (ResD U_impl_DataAt × MutD I_impl_DataAt) :=
  let r1 := n_impl_within a0 0 1099511627776
  bif (!r1) then
    some (((-1), ()), ())
  else
    some (((IntKind.i64.wrap ((IntKind.i64.wrap (a0 + 2)) + 4)), ()), ())
theorem e_impl_DataAt (x : InD I_impl_DataAt) : execF ⟨E_impl_DataAt, 9, D_impl_DataAt_0⟩ Try.f69.results.toList B_impl_DataAt I_impl_DataAt U_impl_DataAt x = raw_impl_DataAt x.1 := by kernel_rfl
theorem ok0_impl_DataAt : ConOk Try.prog 69 ⟨I_impl_DataAt, U_impl_DataAt, fun x => raw_impl_DataAt x.1⟩ := conOk_exec (fr_impl_DataAt_0) Try.func69 (by kernel_rfl) (by kernel_rfl) Try.ntmps69.symm (by decide) (fun x r h => (e_impl_DataAt x).trans h)
noncomputable def n_impl_DataAt (a0 : Int) : Int :=
  let r1 := n_impl_within a0 0 1099511627776
  bif (!r1) then
    (-1)
  else
    (IntKind.i64.wrap ((IntKind.i64.wrap (a0 + 2)) + 4))
noncomputable def con_impl_DataAt : Con := ⟨I_impl_DataAt, U_impl_DataAt, fun x => (fun n => some ((n, ()), ())) (n_impl_DataAt x.1)⟩
theorem nn_impl_DataAt (a0 : Int) : raw_impl_DataAt a0 = (fun n => some ((n, ()), ())) (n_impl_DataAt a0) := bif_ty (p := fun (n : Int) => ((n, ()), ())) (bif_some (p := fun (n : Int) => ((n, ()), ())) rfl rfl)
theorem ok_impl_DataAt : ConOk Try.prog 69 con_impl_DataAt := (ok0_impl_DataAt).mono (fun x r _ h => (nn_impl_DataAt x.1).trans h)
theorem impl_dataAt_eq (s : Int) : n_impl_DataAt s = dataAt s := spec_dataAt_eq s
end

/-! impl_SpoilAt -/
section
noncomputable def B_impl_SpoilAt : Code := (Try.f29.body).getD .skip
noncomputable def E_impl_SpoilAt : Env := envOf TT [(15, con_impl_ArrOk), (36, con_impl_hasStripe), (66, con_impl_copyArr), (67, con_impl_hasDisk), (68, con_impl_SpoilSec), (69, con_impl_DataAt)] []
theorem fr_impl_SpoilAt_0 : FrOk Try.prog ⟨E_impl_SpoilAt, 36, fun _ => none⟩ B_impl_SpoilAt := frOk_base mixed tt_ok ⟨ok_impl_ArrOk, ok_impl_hasStripe, ok_impl_copyArr, ok_impl_hasDisk, ok_impl_SpoilSec, ok_impl_DataAt, trivial⟩
noncomputable def D_impl_SpoilAt_0 : Nat → Option Seg := fun _ => none
abbrev I_impl_SpoilAt : List Par := [.rd tA, .rd tI, .rd tI]
abbrev U_impl_SpoilAt : List OT := [⟨false, tA, (.pr .fz (.pr (.pr .fz .fz) (.pr (.ow (.pr (.ow (.ow .fz)) (.pr (.ow (.pr .fz (.ow .fz))) (.pr .fz (.ow .fz))))) (.pr .fz (.pr .fz (.pr .fz (.pr .fz (.pr .fz (.pr (.ow (.pr .fz (.ow .fz))) (.pr .fz (.pr .fz .fz)))))))))))⟩]
noncomputable def raw_impl_SpoilAt (a0 : dA) (a1 a2 : Int) : Option (ResD U_impl_SpoilAt × MutD I_impl_SpoilAt) :=
  let r1 := n_impl_copyArr a0
  let r2 := n_impl_ArrOk a0
  bif r2 then
    let r3 := n_impl_hasDisk a0 a1
    bif r3 then
      let r4 := n_impl_hasStripe a0.2.1 a2
      bif r4 then
        bif (inb a1 a0.2.2.1.length) then
          let r5 := n_impl_DataAt a2
          let r6 := n_impl_SpoilSec ((nth a0.2.2.1 a1 ([], [], false, [])).1, ((nth a0.2.2.1 a1 ([], [], false, [])).2).1, (((nth a0.2.2.1 a1 ([], [], false, [])).2).2)) r5
          bif (inb a1 r1.2.2.1.length) then
            some (((r1.1, r1.2.1, (r1.2.2.1.set (a1).toNat r6), r1.2.2.2), ()), ())
          else none
        else none
      else
        some ((r1, ()), ())
    else
      some ((r1, ()), ())
  else
    some ((r1, ()), ())
theorem e_impl_SpoilAt (x : InD I_impl_SpoilAt) : execF ⟨E_impl_SpoilAt, 36, D_impl_SpoilAt_0⟩ Try.f29.results.toList B_impl_SpoilAt I_impl_SpoilAt U_impl_SpoilAt x = raw_impl_SpoilAt x.1 x.2.1 x.2.2.1 := by kernel_rfl
theorem ok0_impl_SpoilAt : ConOk Try.prog 29 ⟨I_impl_SpoilAt, U_impl_SpoilAt, fun x => raw_impl_SpoilAt x.1 x.2.1 x.2.2.1⟩ := conOk_exec (fr_impl_SpoilAt_0) Try.func29 (by kernel_rfl) (by kernel_rfl) Try.ntmps29.symm (by decide) (fun x r h => (e_impl_SpoilAt x).trans h)
noncomputable def n_impl_SpoilAt (a0 : dA) (a1 a2 : Int) : dA := spoilAt a0 a1 a2
theorem nn_impl_SpoilAt (a0 : dA) (a1 a2 : Int) (hk : InOk I_impl_SpoilAt (a0, a1, a2, ())) : raw_impl_SpoilAt a0 a1 a2 = (fun n => some ((n, ()), ())) (n_impl_SpoilAt a0 a1 a2) := by
  unfold raw_impl_SpoilAt n_impl_SpoilAt spoilAt
  simp only [n_impl_copyArr, n_impl_ArrOk, n_impl_SpoilSec, impl_str_eq, impl_dataAt_eq]
  cases ha : arrOk a0
  · rfl
  · have h5 := arr_five ha
    have hd : n_impl_hasDisk a0 a1 = inb a1 a0.2.2.1.length := by
      unfold n_impl_hasDisk
      rw [impl_in_eq, in_len (show a0.2.2.1.length ≤ 1152921504606846976 by omega)]
    rw [hd]
    cases hi : inb a1 a0.2.2.1.length
    · rfl
    · cases strOk a0.2.1 a2 <;> rfl
noncomputable def con_impl_SpoilAt : Con := ⟨I_impl_SpoilAt, U_impl_SpoilAt, fun x => (fun n => some ((n, ()), ())) (n_impl_SpoilAt x.1 x.2.1 x.2.2.1)⟩
theorem ok_impl_SpoilAt : ConOk Try.prog 29 con_impl_SpoilAt := (ok0_impl_SpoilAt).mono (fun x r hk h => (nn_impl_SpoilAt x.1 x.2.1 x.2.2.1 hk).trans h)
end
end Go.Tf
