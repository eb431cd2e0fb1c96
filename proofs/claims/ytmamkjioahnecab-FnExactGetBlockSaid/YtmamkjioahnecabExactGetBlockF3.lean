/- Functions of the program, and what they come to. -/
import Derived.Test.YtmamkjioahnecabExactGetBlockF2
namespace Go.Tf
open Go.Proofs
set_option synthInstance.maxHeartbeats 400000
set_option synthInstance.maxSize 10000
set_option linter.unusedVariables false
set_option linter.unusedSimpArgs false
set_option maxRecDepth 100000
/-! spec_ArrOk -/
section
noncomputable def B_spec_ArrOk : Code := (Try.f34.body).getD .skip
noncomputable def E_spec_ArrOk : Env := envOf TT [(35, con_spec_l1In), (65, con_spec_GeoOk), (66, con_spec_l6Mems), (67, con_spec_l6Dirty)] []
theorem fr_spec_ArrOk_0 : FrOk Try.prog ⟨E_spec_ArrOk, 78, fun _ => none⟩ B_spec_ArrOk := frOk_base mixed tt_ok ⟨ok_spec_l1In, ok_spec_GeoOk, ok_spec_l6Mems, ok_spec_l6Dirty, trivial⟩
noncomputable def D_spec_ArrOk_0 : Nat → Option Seg := fun _ => none
abbrev I_spec_ArrOk : List Par := [.rd tA]
abbrev U_spec_ArrOk : List OT := [⟨false, tB, .fz⟩]
noncomputable def raw_spec_ArrOk (a0 : dA) : Option (ResD U_spec_ArrOk × MutD I_spec_ArrOk) :=
  let r1 := n_spec_GeoOk a0.2.1
  bif (!(!r1)) then
    let r2 := n_spec_l1In a0.1 1 60000
    bif (!(!r2)) then
      bnd (o_spec_l6Mems a0) fun r3 =>
      bif (!(!r3.1.1)) then
        bnd (o_spec_l6Dirty a0) fun r4 =>
        bif (!r4.1.1) then
          some ((false, ()), ())
        else
          let r5 := n_spec_l1In a0.2.2.2.1 (-1) (IntKind.i64.wrap (a0.2.1.1 - 1))
          bif (!(!r5)) then
            let r6 := n_spec_l1In a0.2.2.2.2.1 0 a0.2.1.2
            bif (!(!r6)) then
              bif (a0.2.2.2.1 == (-1)) then
                bif (a0.2.2.2.2.1 != 0) then
                  some ((false, ()), ())
                else
                  let r7 := n_spec_l1In a0.2.2.2.2.2.2.1 0 60000
                  bif r7 then
                    let r8 := n_spec_l1In a0.2.2.2.2.2.1 a0.2.2.2.2.2.2.1 60000
                    bif r8 then
                      bif (leb a0.2.2.2.2.2.1 (IntKind.i64.wrap (a0.2.2.2.2.2.2.1 + 4))) then
                        let r9 := n_spec_l1In a0.2.2.2.2.2.2.2.1 0 60000
                        bif r9 then
                          let r10 := n_spec_l1In a0.2.2.2.2.2.2.2.2.2.1 (-1) 1000
                          some ((r10, ()), ())
                        else
                          some ((false, ()), ())
                      else
                        some ((false, ()), ())
                    else
                      some ((false, ()), ())
                  else
                    some ((false, ()), ())
              else
                let r11 := n_spec_l1In a0.2.2.2.2.2.2.1 0 60000
                bif r11 then
                  let r12 := n_spec_l1In a0.2.2.2.2.2.1 a0.2.2.2.2.2.2.1 60000
                  bif r12 then
                    bif (leb a0.2.2.2.2.2.1 (IntKind.i64.wrap (a0.2.2.2.2.2.2.1 + 4))) then
                      let r13 := n_spec_l1In a0.2.2.2.2.2.2.2.1 0 60000
                      bif r13 then
                        let r14 := n_spec_l1In a0.2.2.2.2.2.2.2.2.2.1 (-1) 1000
                        some ((r14, ()), ())
                      else
                        some ((false, ()), ())
                    else
                      some ((false, ()), ())
                  else
                    some ((false, ()), ())
                else
                  some ((false, ()), ())
            else
              some ((false, ()), ())
          else
            some ((false, ()), ())
      else
        some ((false, ()), ())
    else
      some ((false, ()), ())
  else
    some ((false, ()), ())
theorem e_spec_ArrOk (x : InD I_spec_ArrOk) : execF ⟨E_spec_ArrOk, 78, D_spec_ArrOk_0⟩ Try.f34.results.toList B_spec_ArrOk I_spec_ArrOk U_spec_ArrOk x = raw_spec_ArrOk x.1 := by kernel_rfl
theorem ok0_spec_ArrOk : ConOk Try.prog 34 ⟨I_spec_ArrOk, U_spec_ArrOk, fun x => raw_spec_ArrOk x.1⟩ := conOk_exec (fr_spec_ArrOk_0) Try.func34 (by kernel_rfl) (by kernel_rfl) Try.ntmps34.symm (by decide) (fun x r h => (e_spec_ArrOk x).trans h)
noncomputable def n_spec_ArrOk (a0 : dA) : Bool := arrOk a0
theorem nn_spec_ArrOk (a0 : dA) (hk : InOk I_spec_ArrOk (a0, ())) : raw_spec_ArrOk a0 = (fun n => some ((n, ()), ())) (n_spec_ArrOk a0) := by
  unfold raw_spec_ArrOk n_spec_ArrOk arrOk
  simp only [in_eq]
  cases hg : n_spec_GeoOk a0.2.1
  · rfl
  have hg2 := geo_iff.1 hg
  rw [ot_spec_l6Mems a0 hg, ot_spec_l6Dirty a0 hg, wr (show -9223372036854775808 ≤ a0.2.1.1 - 1 by omega) (by omega)]
  simp only [bnd_some, n_spec_l6Mems, n_spec_l6Dirty, Bool.not_not, cond_true]
  cases (leb 1 a0.1 && leb a0.1 60000)
  · rfl
  cases memsOk a0
  · rfl
  cases dirtyOk a0.2.1 a0.2.2.2.2.2.2.2.2.1
  · rfl
  cases (leb (-1) a0.2.2.2.1 && leb a0.2.2.2.1 (a0.2.1.1 - 1))
  · rfl
  cases (leb 0 a0.2.2.2.2.1 && leb a0.2.2.2.2.1 a0.2.1.2)
  · rfl
  have ht : (leb 0 a0.2.2.2.2.2.2.1 && leb a0.2.2.2.2.2.2.1 60000) = true → IntKind.i64.wrap (a0.2.2.2.2.2.2.1 + 4) = a0.2.2.2.2.2.2.1 + 4 := fun h => by
    rw [Bool.and_eq_true, leb_iff, leb_iff] at h
    exact wr (by omega) (by omega)
  cases hT : (leb 0 a0.2.2.2.2.2.2.1 && leb a0.2.2.2.2.2.2.1 60000)
  · cases (a0.2.2.2.1 == -1) <;> cases (a0.2.2.2.2.1 != 0) <;> rfl
  rw [ht hT]
  cases (leb a0.2.2.2.2.2.2.1 a0.2.2.2.2.2.1 && leb a0.2.2.2.2.2.1 60000)
  · cases (a0.2.2.2.1 == -1) <;> cases (a0.2.2.2.2.1 != 0) <;> rfl
  cases leb a0.2.2.2.2.2.1 (a0.2.2.2.2.2.2.1 + 4)
  · cases (a0.2.2.2.1 == -1) <;> cases (a0.2.2.2.2.1 != 0) <;> rfl
  cases (leb 0 a0.2.2.2.2.2.2.2.1 && leb a0.2.2.2.2.2.2.2.1 60000) <;> cases (a0.2.2.2.1 == -1) <;> cases (a0.2.2.2.2.1 != 0) <;> rfl
noncomputable def con_spec_ArrOk : Con := ⟨I_spec_ArrOk, U_spec_ArrOk, fun x => (fun n => some ((n, ()), ())) (n_spec_ArrOk x.1)⟩
theorem ok_spec_ArrOk : ConOk Try.prog 34 con_spec_ArrOk := (ok0_spec_ArrOk).mono (fun x r hk h => (nn_spec_ArrOk x.1 hk).trans h)
end

/-! spec_Blocks -/
section
noncomputable def B_spec_Blocks : Code := (Try.f53.body).getD .skip
noncomputable def E_spec_Blocks : Env := envOf TT [(65, con_spec_GeoOk)] []
theorem fr_spec_Blocks_0 : FrOk Try.prog ⟨E_spec_Blocks, 12, fun _ => none⟩ B_spec_Blocks := frOk_base mixed tt_ok ⟨ok_spec_GeoOk, trivial⟩
noncomputable def D_spec_Blocks_0 : Nat → Option Seg := fun _ => none
abbrev I_spec_Blocks : List Par := [.rd tG]
abbrev U_spec_Blocks : List OT := [⟨false, tI, .fz⟩]
noncomputable def raw_spec_Blocks (a0 : dG) : Option (ResD U_spec_Blocks × MutD I_spec_Blocks) :=
  let r1 := n_spec_GeoOk a0
  bif (!r1) then
    some ((0, ()), ())
  else
    some (((IntKind.i64.wrap (a0.2 * (IntKind.i64.wrap (a0.1 - 1)))), ()), ())
theorem e_spec_Blocks (x : InD I_spec_Blocks) : execF ⟨E_spec_Blocks, 12, D_spec_Blocks_0⟩ Try.f53.results.toList B_spec_Blocks I_spec_Blocks U_spec_Blocks x = raw_spec_Blocks x.1 := by kernel_rfl
theorem ok0_spec_Blocks : ConOk Try.prog 53 ⟨I_spec_Blocks, U_spec_Blocks, fun x => raw_spec_Blocks x.1⟩ := conOk_exec (fr_spec_Blocks_0) Try.func53 (by kernel_rfl) (by kernel_rfl) Try.ntmps53.symm (by decide) (fun x r h => (e_spec_Blocks x).trans h)
noncomputable def n_spec_Blocks (a0 : dG) : Int :=
  let r1 := n_spec_GeoOk a0
  bif (!r1) then
    0
  else
    (IntKind.i64.wrap (a0.2 * (IntKind.i64.wrap (a0.1 - 1))))
noncomputable def con_spec_Blocks : Con := ⟨I_spec_Blocks, U_spec_Blocks, fun x => (fun n => some ((n, ()), ())) (n_spec_Blocks x.1)⟩
theorem nn_spec_Blocks (a0 : dG) : raw_spec_Blocks a0 = (fun n => some ((n, ()), ())) (n_spec_Blocks a0) := bif_ty (p := fun (n : Int) => ((n, ()), ())) (bif_some (p := fun (n : Int) => ((n, ()), ())) rfl rfl)
theorem ok_spec_Blocks : ConOk Try.prog 53 con_spec_Blocks := (ok0_spec_Blocks).mono (fun x r _ h => (nn_spec_Blocks x.1).trans h)
theorem spec_Blocks_le (a : Int × Int) : 0 ≤ n_spec_Blocks a ∧ n_spec_Blocks a ≤ 32 := by
  unfold n_spec_Blocks
  cases h : n_spec_GeoOk a
  · simp
  · obtain ⟨⟨h1, h2⟩, h3, h4⟩ := geo_iff.1 h
    have h5 : 0 ≤ a.2 * (a.1 - 1) := Int.mul_nonneg (by omega) (by omega)
    have h6 : a.2 * (a.1 - 1) ≤ 8 * 4 := Int.mul_le_mul h4 (by omega) (by omega) (by omega)
    simp only [Bool.not_true, cond_false, wr (show -9223372036854775808 ≤ a.1 - 1 by omega) (by omega), wr (show -9223372036854775808 ≤ a.2 * (a.1 - 1) by omega) (by omega)]
    omega
theorem spec_Blocks_eq {a : Int × Int} (h : n_spec_GeoOk a = true) : n_spec_Blocks a = a.2 * (a.1 - 1) := by
  unfold n_spec_Blocks
  obtain ⟨⟨h1, h2⟩, h3, h4⟩ := geo_iff.1 h
  have h5 : 0 ≤ a.2 * (a.1 - 1) := Int.mul_nonneg (by omega) (by omega)
  have h6 : a.2 * (a.1 - 1) ≤ 8 * 4 := Int.mul_le_mul h4 (by omega) (by omega) (by omega)
  simp only [h, Bool.not_true, cond_false, wr (show -9223372036854775808 ≤ a.1 - 1 by omega) (by omega), wr (show -9223372036854775808 ≤ a.2 * (a.1 - 1) by omega) (by omega)]
def entAt (l : List dW) (s : Int) : Int := idxOf (fun e : dW => e.1 == s) l
noncomputable def blkOk (g : dG) (b : Int) : Bool := leb 0 b && leb b (n_spec_Blocks g - 1)
noncomputable def stripeOf (g : dG) (b : Int) : Int := bif blkOk g b then b.tdiv (g.1 - 1) else -1
noncomputable def indexIn (g : dG) (b : Int) : Int := bif blkOk g b then b.tmod (g.1 - 1) else -1
theorem blk_split {g : dG} {b : Int} (h : blkOk g b = true) : n_spec_GeoOk g = true ∧ (0 ≤ b.tdiv (g.1 - 1) ∧ b.tdiv (g.1 - 1) ≤ g.2 - 1) ∧ (0 ≤ b.tmod (g.1 - 1) ∧ b.tmod (g.1 - 1) ≤ g.1 - 2) := by
  simp only [blkOk, Bool.and_eq_true, leb_iff] at h
  cases hg : n_spec_GeoOk g
  · have : n_spec_Blocks g = 0 := by unfold n_spec_Blocks; rw [hg]; rfl
    omega
  · rw [spec_Blocks_eq hg] at h
    have h2 := geo_iff.1 hg
    rw [Int.tdiv_eq_ediv_of_nonneg h.1, Int.tmod_eq_emod_of_nonneg h.1]
    have h3 := Int.ediv_lt_of_lt_mul (show 0 < g.1 - 1 by omega) (show b < g.2 * (g.1 - 1) by omega)
    have h4 := Int.ediv_nonneg h.1 (show 0 ≤ g.1 - 1 by omega)
    have h5 := Int.emod_nonneg b (show g.1 - 1 ≠ 0 by omega)
    have h6 := Int.emod_lt_of_pos b (show 0 < g.1 - 1 by omega)
    exact ⟨rfl, ⟨h4, by omega⟩, h5, by omega⟩
theorem stripeOf_ok {g : dG} {b : Int} (h : blkOk g b = true) : strOk g (stripeOf g b) = true := by
  obtain ⟨h1, h2, _⟩ := blk_split h
  unfold stripeOf
  rw [h, cond_true, strOk_iff]
  exact ⟨h1, h2⟩
noncomputable def blockCode (a : dA) (b : Int) : Int := bif !(arrOk a) then 1 else bif a.2.2.2.2.2.2.2.2.2.2.1 then 6 else bif blkOk a.2.1 b then 0 else 2
/-- a stripe as it is asked -/
noncomputable def stripeNow (a : dA) (s : Int) : List Int × Bool := bif leb 0 (entAt a.2.2.2.2.2.2.2.2.1 s) then ((nth a.2.2.2.2.2.2.2.2.1 (entAt a.2.2.2.2.2.2.2.2.1 s) (0, [])).2, true) else bif a.2.2.2.2.2.2.2.2.2.2.2 then ([], false) else dataA a s
noncomputable def getBlock (a : dA) (b : Int) : Int × Int := bif blockCode a b != 0 then (0, blockCode a b) else bif (stripeNow a (stripeOf a.2.1 b)).2 then (nth (stripeNow a (stripeOf a.2.1 b)).1 (indexIn a.2.1 b) 0, 0) else (0, 5)
theorem code_good {a : dA} {b : Int} (h : blockCode a b = 0) : arrOk a = true ∧ blkOk a.2.1 b = true ∧ a.2.2.2.2.2.2.2.2.2.2.1 = false := by
  unfold blockCode at h
  cases ha : arrOk a
  · rw [ha] at h; exact absurd (show (1 : Int) = 0 from h) (by decide)
  · rw [ha] at h
    cases hd : a.2.2.2.2.2.2.2.2.2.2.1
    · rw [hd] at h
      cases hb : blkOk a.2.1 b
      · rw [hb] at h; exact absurd (show (2 : Int) = 0 from h) (by decide)
      · exact ⟨rfl, rfl, rfl⟩
    · rw [hd] at h; exact absurd (show (6 : Int) = 0 from h) (by decide)
theorem dirty_at {a : dA} (h : arrOk a = true) {i : Nat} (hi : i < a.2.2.2.2.2.2.2.2.1.length) : (0 ≤ (nth a.2.2.2.2.2.2.2.2.1 i (0, [])).1 ∧ (nth a.2.2.2.2.2.2.2.2.1 i (0, [])).1 ≤ a.2.1.2 - 1) ∧ ((nth a.2.2.2.2.2.2.2.2.1 i (0, [])).2.length : Int) = a.2.1.1 - 1 ∧ (nth a.2.2.2.2.2.2.2.2.1 i (0, [])).2.all isW = true ∧ (0 < i → (nth a.2.2.2.2.2.2.2.2.1 ((i - 1 : Nat) : Int) (0, [])).1 < (nth a.2.2.2.2.2.2.2.2.1 i (0, [])).1) := by
  have h1 : dirtyOk a.2.1 a.2.2.2.2.2.2.2.2.1 = true := by simp only [arrOk, Bool.and_eq_true] at h; exact h.2.2.2.1
  simp only [dirtyOk, Bool.not_eq_true', List.any_eq_false, List.mem_range] at h1
  have h2 := h1 i hi
  simp only [dirtBad, Bool.not_eq_true, Bool.or_eq_false_iff, Bool.not_eq_false', bne_eq_false_iff_eq, Bool.and_eq_true, Bool.and_eq_false_iff, decide_eq_false_iff_not, leb_iff] at h2
  refine ⟨h2.1, h2.2.1, h2.2.2.1, fun h0 => ?_⟩
  rcases h2.2.2.2 with h3 | h3
  · exact absurd h0 h3
  · have := mt leb_t (by rw [h3]; simp : ¬ leb (nth a.2.2.2.2.2.2.2.2.1 i (0, [])).1 (nth a.2.2.2.2.2.2.2.2.1 ((i - 1 : Nat) : Int) (0, [])).1 = true)
    omega
theorem stripeNow_len {a : dA} {s : Int} (h : arrOk a = true) (hs : strOk a.2.1 s = true) (h2 : (stripeNow a s).2 = true) : ((stripeNow a s).1.length : Int) = a.2.1.1 - 1 := by
  have hg := geo_iff.1 (arrOk_geo h)
  unfold stripeNow at h2 ⊢
  cases hk : leb 0 (entAt a.2.2.2.2.2.2.2.2.1 s)
  · rw [hk] at h2
    simp only [cond_false] at h2 ⊢
    cases hb : a.2.2.2.2.2.2.2.2.2.2.2
    · rw [hb] at h2
      simp only [cond_false] at h2 ⊢
      unfold dataA at h2 ⊢
      cases hw : (words a s).2
      · rw [hw] at h2; cases h2
      · simp only [cond_true, List.length_map, List.length_range]; omega
    · rw [hb] at h2; cases h2
  · have h3 := inb_iff.1 (idxOf_in (d := ((0, []) : dW)) hk).1
    have := (dirty_at h (i := (entAt a.2.2.2.2.2.2.2.2.1 s).toNat) (by unfold entAt; omega)).2.1
    rw [show (((entAt a.2.2.2.2.2.2.2.2.1 s).toNat : Nat) : Int) = entAt a.2.2.2.2.2.2.2.2.1 s by have := leb_iff.1 hk; omega] at this
    exact this
theorem blk_in (g : dG) (b : Int) : n_spec_l1In b 0 (IntKind.i64.wrap (n_spec_Blocks g - 1)) = blkOk g b := by
  have := spec_Blocks_le g
  rw [wr (by omega) (by omega), in_eq]; rfl
end

/-! spec_l8Code -/
section
noncomputable def B_spec_l8Code : Code := (Try.f19.body).getD .skip
noncomputable def E_spec_l8Code : Env := envOf TT [(34, con_spec_ArrOk), (35, con_spec_l1In), (53, con_spec_Blocks)] []
theorem fr_spec_l8Code_0 : FrOk Try.prog ⟨E_spec_l8Code, 20, fun _ => none⟩ B_spec_l8Code := frOk_base mixed tt_ok ⟨ok_spec_ArrOk, ok_spec_l1In, ok_spec_Blocks, trivial⟩
noncomputable def D_spec_l8Code_0 : Nat → Option Seg := fun _ => none
abbrev I_spec_l8Code : List Par := [.rd tA, .rd tI]
abbrev U_spec_l8Code : List OT := [⟨false, tI, .fz⟩]
noncomputable def raw_spec_l8Code (a0 : dA) (a1 : Int) : Option (ResD U_spec_l8Code × MutD I_spec_l8Code) :=
  let r1 := n_spec_ArrOk a0
  bif (!r1) then
    some ((1, ()), ())
  else
    bif a0.2.2.2.2.2.2.2.2.2.2.1 then
      some ((6, ()), ())
    else
      let r2 := n_spec_Blocks a0.2.1
      let r3 := n_spec_l1In a1 0 (IntKind.i64.wrap (r2 - 1))
      bif (!r3) then
        some ((2, ()), ())
      else
        some ((0, ()), ())
theorem e_spec_l8Code (x : InD I_spec_l8Code) : execF ⟨E_spec_l8Code, 20, D_spec_l8Code_0⟩ Try.f19.results.toList B_spec_l8Code I_spec_l8Code U_spec_l8Code x = raw_spec_l8Code x.1 x.2.1 := by kernel_rfl
theorem ok0_spec_l8Code : ConOk Try.prog 19 ⟨I_spec_l8Code, U_spec_l8Code, fun x => raw_spec_l8Code x.1 x.2.1⟩ := conOk_exec (fr_spec_l8Code_0) Try.func19 (by kernel_rfl) (by kernel_rfl) Try.ntmps19.symm (by decide) (fun x r h => (e_spec_l8Code x).trans h)
noncomputable def n_spec_l8Code (a0 : dA) (a1 : Int) : Int :=
  let r1 := n_spec_ArrOk a0
  bif (!r1) then
    1
  else
    bif a0.2.2.2.2.2.2.2.2.2.2.1 then
      6
    else
      let r2 := n_spec_Blocks a0.2.1
      let r3 := n_spec_l1In a1 0 (IntKind.i64.wrap (r2 - 1))
      bif (!r3) then
        2
      else
        0
noncomputable def con_spec_l8Code : Con := ⟨I_spec_l8Code, U_spec_l8Code, fun x => (fun n => some ((n, ()), ())) (n_spec_l8Code x.1 x.2.1)⟩
theorem nn_spec_l8Code (a0 : dA) (a1 : Int) : raw_spec_l8Code a0 a1 = (fun n => some ((n, ()), ())) (n_spec_l8Code a0 a1) := bif_ty (p := fun (n : Int) => ((n, ()), ())) (bif_some (p := fun (n : Int) => ((n, ()), ())) rfl (bif_some (p := fun (n : Int) => ((n, ()), ())) rfl (bif_some (p := fun (n : Int) => ((n, ()), ())) rfl rfl)))
theorem ok_spec_l8Code : ConOk Try.prog 19 con_spec_l8Code := (ok0_spec_l8Code).mono (fun x r _ h => (nn_spec_l8Code x.1 x.2.1).trans h)
theorem spec_code_eq (a : dA) (b : Int) : n_spec_l8Code a b = blockCode a b := by
  unfold n_spec_l8Code blockCode n_spec_ArrOk
  simp only [blk_in]
  cases arrOk a <;> cases a.2.2.2.2.2.2.2.2.2.2.1 <;> cases blkOk a.2.1 b <;> rfl
end

/-! spec_l8At -/
section
noncomputable def B_spec_l8At : Code := (Try.f54.body).getD .skip
noncomputable def E_spec_l8At : Env := envOf TT [] []
theorem fr_spec_l8At_0 : FrOk Try.prog ⟨E_spec_l8At, 22, fun _ => none⟩ B_spec_l8At := frOk_base mixed tt_ok trivial
noncomputable def D_spec_l8At_0 : Nat → Option Seg := fun _ => none
def L_spec_l8At_13 : Shape := ⟨[(1, false, [.int .i64]), (2, false, [.ptr 0 0]), (5, false, [.int .i64])], [(0, [.int .i64, .int .i64, .int .i64, .br tM, .int .i64, .int .i64, .int .i64, .int .i64, .int .i64, .br tW, .int .i64, .bool, .bool])], []⟩
def S_spec_l8At_13 : Shape := ⟨[(1, false, [.int .i64]), (2, false, [.ptr 0 0]), (5, false, [.ci .i64 0])], [(0, [.int .i64, .int .i64, .int .i64, .br tM, .int .i64, .int .i64, .int .i64, .int .i64, .int .i64, .br tW, .int .i64, .bool, .bool])], []⟩
def O_spec_l8At_13 : Shape := ⟨[], [], []⟩
def Z_spec_l8At_13 : Shape := ⟨[(4, false, [.int .i64])], [], []⟩
abbrev mk_spec_l8At_13 (v0 : Int) (v1 : Int) (v2 : dA) : (L_spec_l8At_13).X := (((v0, ()), ((), ()), (v1, ()), ()), ((v2.1, v2.2.1.1, v2.2.1.2, v2.2.2.1, v2.2.2.2.1, v2.2.2.2.2.1, v2.2.2.2.2.2.1, v2.2.2.2.2.2.2.1, v2.2.2.2.2.2.2.2.1, v2.2.2.2.2.2.2.2.2.1, v2.2.2.2.2.2.2.2.2.2.1, v2.2.2.2.2.2.2.2.2.2.2.1, v2.2.2.2.2.2.2.2.2.2.2.2, ()), ()), ())
abbrev ms_spec_l8At_13 (v0 : Int) (v1 : dA) : (S_spec_l8At_13).X := (((v0, ()), ((), ()), ((), ()), ()), ((v1.1, v1.2.1.1, v1.2.1.2, v1.2.2.1, v1.2.2.2.1, v1.2.2.2.2.1, v1.2.2.2.2.2.1, v1.2.2.2.2.2.2.1, v1.2.2.2.2.2.2.2.1, v1.2.2.2.2.2.2.2.2.1, v1.2.2.2.2.2.2.2.2.2.1, v1.2.2.2.2.2.2.2.2.2.2.1, v1.2.2.2.2.2.2.2.2.2.2.2, ()), ()), ())
abbrev mo_spec_l8At_13  : (O_spec_l8At_13).X := ((), (), ())
abbrev mz_spec_l8At_13 (v0 : Int) : (Z_spec_l8At_13).X := (((v0, ()), ()), (), ())
noncomputable def st_spec_l8At_13 (v0 : Int) (v1 : Int) (v2 : Int) (v3 : Int) (v4 : Int) (v5 : List dM) (v6 : Int) (v7 : Int) (v8 : Int) (v9 : Int) (v10 : Int) (v11 : List dW) (v12 : Int) (v13 : Bool) (v14 : Bool) : Option ((L_spec_l8At_13).X ⊕ ((O_spec_l8At_13).X ⊕ (Z_spec_l8At_13).X)) :=
  bif (ltb v1 (v11.length : Int)) then
    bif (inb v1 v11.length) then
      bif ((nth v11 v1 (0, [])).1 == v0) then
        some (.inr (.inr (((v1, ()), ()), (), ())))
      else
        some (.inl (((v0, ()), ((), ()), ((IntKind.i64.wrap (v1 + 1)), ()), ()), ((v2, v3, v4, v5, v6, v7, v8, v9, v10, v11, v12, v13, v14, ()), ()), ()))
    else none
  else
    some (.inr (.inl ((), (), ())))
noncomputable def stx_spec_l8At_13 (x : (L_spec_l8At_13).X) := st_spec_l8At_13 x.1.1.1 x.1.2.2.1.1 x.2.1.1.1 x.2.1.1.2.1 x.2.1.1.2.2.1 x.2.1.1.2.2.2.1 x.2.1.1.2.2.2.2.1 x.2.1.1.2.2.2.2.2.1 x.2.1.1.2.2.2.2.2.2.1 x.2.1.1.2.2.2.2.2.2.2.1 x.2.1.1.2.2.2.2.2.2.2.2.1 x.2.1.1.2.2.2.2.2.2.2.2.2.1 x.2.1.1.2.2.2.2.2.2.2.2.2.2.1 x.2.1.1.2.2.2.2.2.2.2.2.2.2.2.1 x.2.1.1.2.2.2.2.2.2.2.2.2.2.2.2.1
def em_spec_l8At_13 (x : (S_spec_l8At_13).X) : (L_spec_l8At_13).X := (((x.1.1.1, ()), ((), ()), (0, ()), ()), ((x.2.1.1.1, x.2.1.1.2.1, x.2.1.1.2.2.1, x.2.1.1.2.2.2.1, x.2.1.1.2.2.2.2.1, x.2.1.1.2.2.2.2.2.1, x.2.1.1.2.2.2.2.2.2.1, x.2.1.1.2.2.2.2.2.2.2.1, x.2.1.1.2.2.2.2.2.2.2.2.1, x.2.1.1.2.2.2.2.2.2.2.2.2.1, x.2.1.1.2.2.2.2.2.2.2.2.2.2.1, x.2.1.1.2.2.2.2.2.2.2.2.2.2.2.1, x.2.1.1.2.2.2.2.2.2.2.2.2.2.2.2.1, ()), ()), ())
noncomputable def c_spec_l8At_13 : Code := (subN B_spec_l8At 64 52).getD .skip
theorem a_spec_l8At_13 : subN B_spec_l8At 64 13 = some (.block 0 (.loop c_spec_l8At_13)) := by kernel_rfl
theorem r_spec_l8At_13 (x : (L_spec_l8At_13).X) : roundT ⟨E_spec_l8At, 22, D_spec_l8At_0⟩ 0 c_spec_l8At_13 52 L_spec_l8At_13 O_spec_l8At_13 Z_spec_l8At_13 x = stx_spec_l8At_13 x := by kernel_rfl
noncomputable def fu_spec_l8At_13 (x : (S_spec_l8At_13).X) : Nat := (fun (u0 : Int) (u1 : Int) (u2 : Int) (u3 : Int) (u4 : List dM) (u5 : Int) (u6 : Int) (u7 : Int) (u8 : Int) (u9 : Int) (u10 : List dW) (u11 : Int) (u12 : Bool) (u13 : Bool) => 18446744073709551616) x.1.1.1 x.2.1.1.1 x.2.1.1.2.1 x.2.1.1.2.2.1 x.2.1.1.2.2.2.1 x.2.1.1.2.2.2.2.1 x.2.1.1.2.2.2.2.2.1 x.2.1.1.2.2.2.2.2.2.1 x.2.1.1.2.2.2.2.2.2.2.1 x.2.1.1.2.2.2.2.2.2.2.2.1 x.2.1.1.2.2.2.2.2.2.2.2.2.1 x.2.1.1.2.2.2.2.2.2.2.2.2.2.1 x.2.1.1.2.2.2.2.2.2.2.2.2.2.2.1 x.2.1.1.2.2.2.2.2.2.2.2.2.2.2.2.1
noncomputable def F_spec_l8At_13 (x : (S_spec_l8At_13).X) : Option ((O_spec_l8At_13).X ⊕ (Z_spec_l8At_13).X) := loopN stx_spec_l8At_13 (fu_spec_l8At_13 x) (em_spec_l8At_13 x)
noncomputable def sg_spec_l8At_13 : Seg := ⟨S_spec_l8At_13, O_spec_l8At_13, Z_spec_l8At_13, F_spec_l8At_13⟩
noncomputable def D_spec_l8At_1 : Nat → Option Seg := fun q => bif Nat.beq q 13 then some sg_spec_l8At_13 else D_spec_l8At_0 q
theorem fr_spec_l8At_1 : FrOk Try.prog ⟨E_spec_l8At, 22, D_spec_l8At_1⟩ B_spec_l8At := (fr_spec_l8At_0).loop (sg := sg_spec_l8At_13) L_spec_l8At_13 em_spec_l8At_13 (by decide) a_spec_l8At_13 stx_spec_l8At_13 fu_spec_l8At_13 (by decide) (fun _ => rfl) (fun x r _ h => h) r_spec_l8At_13
abbrev I_spec_l8At : List Par := [.rd tA, .rd tI]
abbrev U_spec_l8At : List OT := [⟨false, tI, .fz⟩]
noncomputable def raw_spec_l8At (a0 : dA) (a1 : Int) : Option (ResD U_spec_l8At × MutD I_spec_l8At) :=
  segM (F_spec_l8At_13 (((a1, ()), ((), ()), ((), ()), ()), ((a0.1, a0.2.1.1, a0.2.1.2, a0.2.2.1, a0.2.2.2.1, a0.2.2.2.2.1, a0.2.2.2.2.2.1, a0.2.2.2.2.2.2.1, a0.2.2.2.2.2.2.2.1, a0.2.2.2.2.2.2.2.2.1, a0.2.2.2.2.2.2.2.2.2.1, a0.2.2.2.2.2.2.2.2.2.2.1, a0.2.2.2.2.2.2.2.2.2.2.2, ()), ()), ())) (fun y0 =>
    some (((-1), ()), ())) (fun y0 =>
    some ((y0.1.1.1, ()), ()))
theorem e_spec_l8At (x : InD I_spec_l8At) : execF ⟨E_spec_l8At, 22, D_spec_l8At_1⟩ Try.f54.results.toList B_spec_l8At I_spec_l8At U_spec_l8At x = raw_spec_l8At x.1 x.2.1 := by kernel_rfl
theorem ok0_spec_l8At : ConOk Try.prog 54 ⟨I_spec_l8At, U_spec_l8At, fun x => raw_spec_l8At x.1 x.2.1⟩ := conOk_exec (fr_spec_l8At_1) Try.func54 (by kernel_rfl) (by kernel_rfl) Try.ntmps54.symm (by decide) (fun x r h => (e_spec_l8At x).trans h)
noncomputable def n_spec_l8At (a0 : dA) (a1 : Int) : Int := entAt a0.2.2.2.2.2.2.2.2.1 a1
theorem nn_spec_l8At (a0 : dA) (a1 : Int) (hk : InOk I_spec_l8At (a0, a1, ())) : raw_spec_l8At a0 a1 = (fun n => some ((n, ()), ())) (n_spec_l8At a0 a1) := by
  have hb : a0.2.2.2.2.2.2.2.2.1.length * 32 ≤ 2 ^ 47 := hk.1.2.2.2.2.2.2.2.2.1.1
  have h1 : F_spec_l8At_13 (ms_spec_l8At_13 a1 a0) = some (bif leb 0 (entAt a0.2.2.2.2.2.2.2.2.1 a1) then .inr (mz_spec_l8At_13 (entAt a0.2.2.2.2.2.2.2.2.1 a1)) else .inl mo_spec_l8At_13) :=
    loopN_idx (step := stx_spec_l8At_13) a0.2.2.2.2.2.2.2.2.1 (0, []) (fun i => mk_spec_l8At_13 a1 i a0) (fun e : dW => e.1 == a1) (fun i => .inr (mz_spec_l8At_13 i)) _ (fun i hi => by
      simp only [stx_spec_l8At_13, mk_spec_l8At_13, st_spec_l8At_13, ltb_t (show (i : Int) < a0.2.2.2.2.2.2.2.2.1.length by omega), cond_true, wr (show -9223372036854775808 ≤ (i : Int) + 1 by omega) (by omega), Int.natCast_add, Int.natCast_one, Int.toNat_natCast, inb_nat hi, nth_nat]
      cases ((a0.2.2.2.2.2.2.2.2.1.getD i (0, [])).1 == a1) <;> rfl) (by simp only [stx_spec_l8At_13, mk_spec_l8At_13, st_spec_l8At_13, ltb_f (Int.le_refl _), cond_false]) _ (by show _ < 18446744073709551616; omega)
  unfold raw_spec_l8At n_spec_l8At
  rw [h1]
  cases h : leb 0 (entAt a0.2.2.2.2.2.2.2.2.1 a1)
  · rw [show entAt a0.2.2.2.2.2.2.2.2.1 a1 = -1 from idx_neg h]; rfl
  · rfl
noncomputable def con_spec_l8At : Con := ⟨I_spec_l8At, U_spec_l8At, fun x => (fun n => some ((n, ()), ())) (n_spec_l8At x.1 x.2.1)⟩
theorem ok_spec_l8At : ConOk Try.prog 54 con_spec_l8At := (ok0_spec_l8At).mono (fun x r hk h => (nn_spec_l8At x.1 x.2.1 hk).trans h)
end

/-! spec_LiveAt -/
section
noncomputable def B_spec_LiveAt : Code := (Try.f137.body).getD .skip
noncomputable def E_spec_LiveAt : Env := envOf TT [(35, con_spec_l1In)] []
theorem fr_spec_LiveAt_0 : FrOk Try.prog ⟨E_spec_LiveAt, 34, fun _ => none⟩ B_spec_LiveAt := frOk_base mixed tt_ok ⟨ok_spec_l1In, trivial⟩
noncomputable def D_spec_LiveAt_0 : Nat → Option Seg := fun _ => none
abbrev I_spec_LiveAt : List Par := [.rd tA, .rd tI, .rd tI]
abbrev U_spec_LiveAt : List OT := [⟨false, tB, .fz⟩]
noncomputable def raw_spec_LiveAt (a0 : dA) (a1 : Int) (a2 : Int) : Option (ResD U_spec_LiveAt × MutD I_spec_LiveAt) :=
  let r1 := n_spec_l1In a1 0 (IntKind.i64.wrap ((a0.2.2.1.length : Int) - 1))
  bif r1 then
    bif (inb a1 a0.2.2.1.length) then
      bif (!((((nth a0.2.2.1 a1 ([], [], false, [])).2).2).1)) then
        bif (!(a1 != a0.2.2.2.1)) then
          some (((ltb a2 a0.2.2.2.2.1), ()), ())
        else
          some ((true, ()), ())
      else
        some ((false, ()), ())
    else none
  else
    some ((false, ()), ())
theorem e_spec_LiveAt (x : InD I_spec_LiveAt) : execF ⟨E_spec_LiveAt, 34, D_spec_LiveAt_0⟩ Try.f137.results.toList B_spec_LiveAt I_spec_LiveAt U_spec_LiveAt x = raw_spec_LiveAt x.1 x.2.1 x.2.2.1 := by kernel_rfl
theorem ok0_spec_LiveAt : ConOk Try.prog 137 ⟨I_spec_LiveAt, U_spec_LiveAt, fun x => raw_spec_LiveAt x.1 x.2.1 x.2.2.1⟩ := conOk_exec (fr_spec_LiveAt_0) Try.func137 (by kernel_rfl) (by kernel_rfl) Try.ntmps137.symm (by decide) (fun x r h => (e_spec_LiveAt x).trans h)
noncomputable def n_spec_LiveAt (a0 : dA) (a1 a2 : Int) : Bool := liveAt a0 a1 a2
theorem nn_spec_LiveAt (a0 : dA) (a1 a2 : Int) (hk : InOk I_spec_LiveAt (a0, a1, a2, ())) : raw_spec_LiveAt a0 a1 a2 = (fun n => some ((n, ()), ())) (n_spec_LiveAt a0 a1 a2) := by
  have hb : a0.2.2.1.length * 80 ≤ 2 ^ 47 := hk.1.2.2.1.1
  unfold raw_spec_LiveAt n_spec_LiveAt liveAt noMem
  rw [in_len (show a0.2.2.1.length ≤ 1152921504606846976 by omega)]
  cases inb a1 a0.2.2.1.length
  · rfl
  · cases (nth a0.2.2.1 a1 ([], [], false, [])).2.2.1 <;> cases (a1 != a0.2.2.2.1) <;> rfl
noncomputable def con_spec_LiveAt : Con := ⟨I_spec_LiveAt, U_spec_LiveAt, fun x => (fun n => some ((n, ()), ())) (n_spec_LiveAt x.1 x.2.1 x.2.2.1)⟩
theorem ok_spec_LiveAt : ConOk Try.prog 137 con_spec_LiveAt := (ok0_spec_LiveAt).mono (fun x r hk h => (nn_spec_LiveAt x.1 x.2.1 x.2.2.1 hk).trans h)
end

/-! spec_l2Has -/
section
noncomputable def B_spec_l2Has : Code := (Try.f147.body).getD .skip
noncomputable def E_spec_l2Has : Env := envOf TT [] []
theorem fr_spec_l2Has_0 : FrOk Try.prog ⟨E_spec_l2Has, 18, fun _ => none⟩ B_spec_l2Has := frOk_base mixed tt_ok trivial
noncomputable def D_spec_l2Has_0 : Nat → Option Seg := fun _ => none
def L_spec_l2Has_13 : Shape := ⟨[(0, false, [.br tI]), (1, false, [.int .i64]), (5, false, [.int .i64])], [], []⟩
def S_spec_l2Has_13 : Shape := ⟨[(0, false, [.br tI]), (1, false, [.int .i64]), (5, false, [.ci .i64 0])], [], []⟩
def O_spec_l2Has_13 : Shape := ⟨[], [], []⟩
def Z_spec_l2Has_13 : Shape := ⟨[(4, false, [.bool])], [], []⟩
abbrev mk_spec_l2Has_13 (v0 : List Int) (v1 : Int) (v2 : Int) : (L_spec_l2Has_13).X := (((v0, ()), (v1, ()), (v2, ()), ()), (), ())
abbrev ms_spec_l2Has_13 (v0 : List Int) (v1 : Int) : (S_spec_l2Has_13).X := (((v0, ()), (v1, ()), ((), ()), ()), (), ())
abbrev mo_spec_l2Has_13  : (O_spec_l2Has_13).X := ((), (), ())
abbrev mz_spec_l2Has_13 (v0 : Bool) : (Z_spec_l2Has_13).X := (((v0, ()), ()), (), ())
noncomputable def st_spec_l2Has_13 (v0 : List Int) (v1 : Int) (v2 : Int) : Option ((L_spec_l2Has_13).X ⊕ ((O_spec_l2Has_13).X ⊕ (Z_spec_l2Has_13).X)) :=
  bif (ltb v2 (v0.length : Int)) then
    bif (inb v2 v0.length) then
      bif ((nth v0 v2 0) == v1) then
        some (.inr (.inr (((true, ()), ()), (), ())))
      else
        some (.inl (((v0, ()), (v1, ()), ((IntKind.i64.wrap (v2 + 1)), ()), ()), (), ()))
    else none
  else
    some (.inr (.inl ((), (), ())))
noncomputable def stx_spec_l2Has_13 (x : (L_spec_l2Has_13).X) := st_spec_l2Has_13 x.1.1.1 x.1.2.1.1 x.1.2.2.1.1
def em_spec_l2Has_13 (x : (S_spec_l2Has_13).X) : (L_spec_l2Has_13).X := (((x.1.1.1, ()), (x.1.2.1.1, ()), (0, ()), ()), (), ())
noncomputable def c_spec_l2Has_13 : Code := (subN B_spec_l2Has 64 52).getD .skip
theorem a_spec_l2Has_13 : subN B_spec_l2Has 64 13 = some (.block 0 (.loop c_spec_l2Has_13)) := by kernel_rfl
theorem r_spec_l2Has_13 (x : (L_spec_l2Has_13).X) : roundT ⟨E_spec_l2Has, 18, D_spec_l2Has_0⟩ 0 c_spec_l2Has_13 52 L_spec_l2Has_13 O_spec_l2Has_13 Z_spec_l2Has_13 x = stx_spec_l2Has_13 x := by kernel_rfl
noncomputable def fu_spec_l2Has_13 (x : (S_spec_l2Has_13).X) : Nat := (fun (u0 : List Int) (u1 : Int) => 18446744073709551616) x.1.1.1 x.1.2.1.1
noncomputable def F_spec_l2Has_13 (x : (S_spec_l2Has_13).X) : Option ((O_spec_l2Has_13).X ⊕ (Z_spec_l2Has_13).X) := loopN stx_spec_l2Has_13 (fu_spec_l2Has_13 x) (em_spec_l2Has_13 x)
noncomputable def sg_spec_l2Has_13 : Seg := ⟨S_spec_l2Has_13, O_spec_l2Has_13, Z_spec_l2Has_13, F_spec_l2Has_13⟩
noncomputable def D_spec_l2Has_1 : Nat → Option Seg := fun q => bif Nat.beq q 13 then some sg_spec_l2Has_13 else D_spec_l2Has_0 q
theorem fr_spec_l2Has_1 : FrOk Try.prog ⟨E_spec_l2Has, 18, D_spec_l2Has_1⟩ B_spec_l2Has := (fr_spec_l2Has_0).loop (sg := sg_spec_l2Has_13) L_spec_l2Has_13 em_spec_l2Has_13 (by decide) a_spec_l2Has_13 stx_spec_l2Has_13 fu_spec_l2Has_13 (by decide) (fun _ => rfl) (fun x r _ h => h) r_spec_l2Has_13
abbrev I_spec_l2Has : List Par := [.rd tL, .rd tI]
abbrev U_spec_l2Has : List OT := [⟨false, tB, .fz⟩]
noncomputable def raw_spec_l2Has (a0 : List Int) (a1 : Int) : Option (ResD U_spec_l2Has × MutD I_spec_l2Has) :=
  segM (F_spec_l2Has_13 (((a0, ()), (a1, ()), ((), ()), ()), (), ())) (fun y0 =>
    some ((false, ()), ())) (fun y0 =>
    some ((y0.1.1.1, ()), ()))
theorem e_spec_l2Has (x : InD I_spec_l2Has) : execF ⟨E_spec_l2Has, 18, D_spec_l2Has_1⟩ Try.f147.results.toList B_spec_l2Has I_spec_l2Has U_spec_l2Has x = raw_spec_l2Has x.1 x.2.1 := by kernel_rfl
theorem ok0_spec_l2Has : ConOk Try.prog 147 ⟨I_spec_l2Has, U_spec_l2Has, fun x => raw_spec_l2Has x.1 x.2.1⟩ := conOk_exec (fr_spec_l2Has_1) Try.func147 (by kernel_rfl) (by kernel_rfl) Try.ntmps147.symm (by decide) (fun x r h => (e_spec_l2Has x).trans h)
noncomputable def n_spec_l2Has (a0 : List Int) (a1 : Int) : Bool := a0.any (· == a1)
theorem nn_spec_l2Has (a0 : List Int) (a1 : Int) (hk : InOk I_spec_l2Has (a0, a1, ())) : raw_spec_l2Has a0 a1 = (fun n => some ((n, ()), ())) (n_spec_l2Has a0 a1) := by
  have hb : a0.length * 8 ≤ 2 ^ 47 := hk.1.1
  have h1 : F_spec_l2Has_13 (ms_spec_l2Has_13 a0 a1) = some (bif a0.all (· != a1) then .inl mo_spec_l2Has_13 else .inr (mz_spec_l2Has_13 true)) :=
    loopN_list_all (step := stx_spec_l2Has_13) a0 0 (fun i => mk_spec_l2Has_13 a0 a1 i) (· != a1) _ _ (fun i hi => by
      simp only [stx_spec_l2Has_13, mk_spec_l2Has_13, st_spec_l2Has_13, ltb_t (show (i : Int) < a0.length by omega), cond_true, wr (show -9223372036854775808 ≤ (i : Int) + 1 by omega) (by omega), Int.natCast_add, Int.natCast_one, Int.toNat_natCast, inb_nat hi, nth_nat, bne]
      cases (a0.getD i 0 == a1) <;> rfl) (by simp only [stx_spec_l2Has_13, mk_spec_l2Has_13, st_spec_l2Has_13, ltb_f (Int.le_refl _), cond_false]) _ (by show _ < 18446744073709551616; omega)
  unfold raw_spec_l2Has n_spec_l2Has
  rw [h1, show a0.any (· == a1) = !(a0.all (· != a1)) by simp [List.all_eq_not_any_not, bne]]
  cases a0.all (· != a1) <;> rfl
noncomputable def con_spec_l2Has : Con := ⟨I_spec_l2Has, U_spec_l2Has, fun x => (fun n => some ((n, ()), ())) (n_spec_l2Has x.1 x.2.1)⟩
theorem ok_spec_l2Has : ConOk Try.prog 147 con_spec_l2Has := (ok0_spec_l2Has).mono (fun x r hk h => (nn_spec_l2Has x.1 x.2.1 hk).trans h)
end
end Go.Tf
