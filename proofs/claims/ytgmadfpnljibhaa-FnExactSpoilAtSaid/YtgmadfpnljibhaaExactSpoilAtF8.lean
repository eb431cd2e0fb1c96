/- Functions of the program, and what they come to. -/
import Derived.Test.YtgmadfpnljibhaaExactSpoilAtF7
namespace Go.Tf
open Go.Proofs
set_option synthInstance.maxHeartbeats 400000
set_option synthInstance.maxSize 10000
set_option linter.unusedVariables false
set_option linter.unusedSimpArgs false
set_option maxRecDepth 100000
/-! impl_sectors -/
section
noncomputable def B_impl_sectors : Code := (Try.f44.body).getD .skip
noncomputable def E_impl_sectors : Env := envOf TT [] []
theorem fr_impl_sectors_0 : FrOk Try.prog ⟨E_impl_sectors, 6, fun _ => none⟩ B_impl_sectors := frOk_base mixed tt_ok trivial
noncomputable def D_impl_sectors_0 : Nat → Option Seg := fun _ => none
abbrev I_impl_sectors : List Par := [.rd tG]
abbrev U_impl_sectors : List OT := [⟨false, tI, .fz⟩]
noncomputable def raw_impl_sectors (a0 : dG) : Option (ResD U_impl_sectors × MutD I_impl_sectors) :=
  some (((IntKind.i64.wrap (6 + a0.2)), ()), ())
theorem e_impl_sectors (x : InD I_impl_sectors) : execF ⟨E_impl_sectors, 6, D_impl_sectors_0⟩ Try.f44.results.toList B_impl_sectors I_impl_sectors U_impl_sectors x = raw_impl_sectors x.1 := by kernel_rfl
theorem ok0_impl_sectors : ConOk Try.prog 44 ⟨I_impl_sectors, U_impl_sectors, fun x => raw_impl_sectors x.1⟩ := conOk_exec (fr_impl_sectors_0) Try.func44 (by kernel_rfl) (by kernel_rfl) Try.ntmps44.symm (by decide) (fun x r h => (e_impl_sectors x).trans h)
noncomputable def n_impl_sectors (a0 : dG) : Int :=
  (IntKind.i64.wrap (6 + a0.2))
noncomputable def con_impl_sectors : Con := ⟨I_impl_sectors, U_impl_sectors, fun x => (fun n => some ((n, ()), ())) (n_impl_sectors x.1)⟩
theorem nn_impl_sectors (a0 : dG) : raw_impl_sectors a0 = (fun n => some ((n, ()), ())) (n_impl_sectors a0) := bif_ty (p := fun (n : Int) => ((n, ()), ())) rfl
theorem ok_impl_sectors : ConOk Try.prog 44 con_impl_sectors := (ok0_impl_sectors).mono (fun x r _ h => (nn_impl_sectors x.1).trans h)
end

/-! impl_ArrOk -/
section
noncomputable def B_impl_ArrOk : Code := (Try.f15.body).getD .skip
noncomputable def E_impl_ArrOk : Env := envOf TT [(39, con_impl_within), (40, con_impl_GeoOk), (41, con_impl_lostOk), (42, con_impl_dirtyOk), (43, con_impl_MemOk), (44, con_impl_sectors)] []
theorem fr_impl_ArrOk_0 : FrOk Try.prog ⟨E_impl_ArrOk, 103, fun _ => none⟩ B_impl_ArrOk := frOk_base mixed tt_ok ⟨ok_impl_within, ok_impl_GeoOk, ok_impl_lostOk, ok_impl_dirtyOk, ok_impl_MemOk, ok_impl_sectors, trivial⟩
noncomputable def D_impl_ArrOk_0 : Nat → Option Seg := fun _ => none
def L_impl_ArrOk_29 : Shape := ⟨[(1, false, [.ptr 0 0]), (41, false, [.br tM]), (42, false, [.int .i64]), (43, false, [.int .i64])], [(0, [.int .i64, .int .i64, .int .i64, .br tM, .int .i64, .int .i64, .int .i64, .int .i64, .int .i64, .br tW, .int .i64, .bool, .bool])], []⟩
def S_impl_ArrOk_29 : Shape := ⟨[(1, false, [.ptr 0 0]), (41, false, [.br tM]), (42, false, [.int .i64]), (43, false, [.ci .i64 0])], [(0, [.int .i64, .int .i64, .int .i64, .br tM, .int .i64, .int .i64, .int .i64, .int .i64, .int .i64, .br tW, .int .i64, .bool, .bool])], []⟩
def O_impl_ArrOk_29 : Shape := ⟨[(1, false, [.ptr 0 0])], [(0, [.int .i64, .int .i64, .int .i64, .br tM, .int .i64, .int .i64, .int .i64, .int .i64, .int .i64, .br tW, .int .i64, .bool, .bool])], []⟩
def Z_impl_ArrOk_29 : Shape := ⟨[(2, false, [.bool])], [], []⟩
abbrev mk_impl_ArrOk_29 (v0 : List dM) (v1 v2 : Int) (v3 : dA) : (L_impl_ArrOk_29).X := ((((), ()), (v0, ()), (v1, ()), (v2, ()), ()), ((v3.1, v3.2.1.1, v3.2.1.2, v3.2.2.1, v3.2.2.2.1, v3.2.2.2.2.1, v3.2.2.2.2.2.1, v3.2.2.2.2.2.2.1, v3.2.2.2.2.2.2.2.1, v3.2.2.2.2.2.2.2.2.1, v3.2.2.2.2.2.2.2.2.2.1, v3.2.2.2.2.2.2.2.2.2.2.1, v3.2.2.2.2.2.2.2.2.2.2.2, ()), ()), ())
abbrev ms_impl_ArrOk_29 (v0 : List dM) (v1 : Int) (v2 : dA) : (S_impl_ArrOk_29).X := ((((), ()), (v0, ()), (v1, ()), ((), ()), ()), ((v2.1, v2.2.1.1, v2.2.1.2, v2.2.2.1, v2.2.2.2.1, v2.2.2.2.2.1, v2.2.2.2.2.2.1, v2.2.2.2.2.2.2.1, v2.2.2.2.2.2.2.2.1, v2.2.2.2.2.2.2.2.2.1, v2.2.2.2.2.2.2.2.2.2.1, v2.2.2.2.2.2.2.2.2.2.2.1, v2.2.2.2.2.2.2.2.2.2.2.2, ()), ()), ())
abbrev mo_impl_ArrOk_29 (v0 : dA) : (O_impl_ArrOk_29).X := ((((), ()), ()), ((v0.1, v0.2.1.1, v0.2.1.2, v0.2.2.1, v0.2.2.2.1, v0.2.2.2.2.1, v0.2.2.2.2.2.1, v0.2.2.2.2.2.2.1, v0.2.2.2.2.2.2.2.1, v0.2.2.2.2.2.2.2.2.1, v0.2.2.2.2.2.2.2.2.2.1, v0.2.2.2.2.2.2.2.2.2.2.1, v0.2.2.2.2.2.2.2.2.2.2.2, ()), ()), ())
abbrev mz_impl_ArrOk_29 (v0 : Bool) : (Z_impl_ArrOk_29).X := (((v0, ()), ()), (), ())
noncomputable def st_impl_ArrOk_29 (v0 : List dM) (v1 v2 v3 v4 v5 : Int) (v6 : List dM) (v7 v8 v9 v10 v11 : Int) (v12 : List dW) (v13 : Int) (v14 v15 : Bool) : Option ((L_impl_ArrOk_29).X ⊕ ((O_impl_ArrOk_29).X ⊕ (Z_impl_ArrOk_29).X)) :=
  bif (ltb v2 v1) then
    bif (inb v2 v0.length) then
      let r7 := n_impl_MemOk ((nth v0 v2 ([], [], false, [])).1, ((nth v0 v2 ([], [], false, [])).2).1, (((nth v0 v2 ([], [], false, [])).2).2))
      bif (!(!r7)) then
        let r8 := n_impl_sectors (v4, v5)
        bif (!((((nth v0 v2 ([], [], false, [])).1).length : Int) != r8)) then
          bif (((nth v0 v2 ([], [], false, [])).2).2).1 then
            bif (v7 != v2) then
              bif (!v15) then
                some (.inr (.inr (((false, ()), ()), (), ())))
              else
                some (.inl ((((), ()), (v0, ()), (v1, ()), ((IntKind.i64.wrap (v2 + 1)), ()), ()), ((v3, v4, v5, v6, v7, v8, v9, v10, v11, v12, v13, v14, v15, ()), ()), ()))
            else
              some (.inl ((((), ()), (v0, ()), (v1, ()), ((IntKind.i64.wrap (v2 + 1)), ()), ()), ((v3, v4, v5, v6, v7, v8, v9, v10, v11, v12, v13, v14, v15, ()), ()), ()))
          else
            some (.inl ((((), ()), (v0, ()), (v1, ()), ((IntKind.i64.wrap (v2 + 1)), ()), ()), ((v3, v4, v5, v6, v7, v8, v9, v10, v11, v12, v13, v14, v15, ()), ()), ()))
        else
          some (.inr (.inr (((false, ()), ()), (), ())))
      else
        some (.inr (.inr (((false, ()), ()), (), ())))
    else none
  else
    some (.inr (.inl ((((), ()), ()), ((v3, v4, v5, v6, v7, v8, v9, v10, v11, v12, v13, v14, v15, ()), ()), ())))
noncomputable def stx_impl_ArrOk_29 (x : (L_impl_ArrOk_29).X) := st_impl_ArrOk_29 x.1.2.1.1 x.1.2.2.1.1 x.1.2.2.2.1.1 x.2.1.1.1 x.2.1.1.2.1 x.2.1.1.2.2.1 x.2.1.1.2.2.2.1 x.2.1.1.2.2.2.2.1 x.2.1.1.2.2.2.2.2.1 x.2.1.1.2.2.2.2.2.2.1 x.2.1.1.2.2.2.2.2.2.2.1 x.2.1.1.2.2.2.2.2.2.2.2.1 x.2.1.1.2.2.2.2.2.2.2.2.2.1 x.2.1.1.2.2.2.2.2.2.2.2.2.2.1 x.2.1.1.2.2.2.2.2.2.2.2.2.2.2.1 x.2.1.1.2.2.2.2.2.2.2.2.2.2.2.2.1
def em_impl_ArrOk_29 (x : (S_impl_ArrOk_29).X) : (L_impl_ArrOk_29).X := ((((), ()), (x.1.2.1.1, ()), (x.1.2.2.1.1, ()), (0, ()), ()), ((x.2.1.1.1, x.2.1.1.2.1, x.2.1.1.2.2.1, x.2.1.1.2.2.2.1, x.2.1.1.2.2.2.2.1, x.2.1.1.2.2.2.2.2.1, x.2.1.1.2.2.2.2.2.2.1, x.2.1.1.2.2.2.2.2.2.2.1, x.2.1.1.2.2.2.2.2.2.2.2.1, x.2.1.1.2.2.2.2.2.2.2.2.2.1, x.2.1.1.2.2.2.2.2.2.2.2.2.2.1, x.2.1.1.2.2.2.2.2.2.2.2.2.2.2.1, x.2.1.1.2.2.2.2.2.2.2.2.2.2.2.2.1, ()), ()), ())
noncomputable def c_impl_ArrOk_29 : Code := (subN B_impl_ArrOk 64 116).getD .skip
theorem a_impl_ArrOk_29 : subN B_impl_ArrOk 64 29 = some (.block 0 (.loop c_impl_ArrOk_29)) := by kernel_rfl
theorem r_impl_ArrOk_29 (x : (L_impl_ArrOk_29).X) : roundT ⟨E_impl_ArrOk, 103, D_impl_ArrOk_0⟩ 0 c_impl_ArrOk_29 116 L_impl_ArrOk_29 O_impl_ArrOk_29 Z_impl_ArrOk_29 x = stx_impl_ArrOk_29 x := by kernel_rfl
def fu_impl_ArrOk_29 (x : (S_impl_ArrOk_29).X) : Nat := 18446744073709551616
noncomputable def F_impl_ArrOk_29 (x : (S_impl_ArrOk_29).X) : Option ((O_impl_ArrOk_29).X ⊕ (Z_impl_ArrOk_29).X) := loopN stx_impl_ArrOk_29 (fu_impl_ArrOk_29 x) (em_impl_ArrOk_29 x)
noncomputable def sg_impl_ArrOk_29 : Seg := ⟨S_impl_ArrOk_29, O_impl_ArrOk_29, Z_impl_ArrOk_29, F_impl_ArrOk_29⟩
noncomputable def D_impl_ArrOk_1 : Nat → Option Seg := fun q => bif Nat.beq q 29 then some sg_impl_ArrOk_29 else D_impl_ArrOk_0 q
theorem fr_impl_ArrOk_1 : FrOk Try.prog ⟨E_impl_ArrOk, 103, D_impl_ArrOk_1⟩ B_impl_ArrOk := (fr_impl_ArrOk_0).loop (sg := sg_impl_ArrOk_29) L_impl_ArrOk_29 em_impl_ArrOk_29 (by decide) a_impl_ArrOk_29 stx_impl_ArrOk_29 fu_impl_ArrOk_29 (by decide) (fun _ => rfl) (fun x r _ h => h) r_impl_ArrOk_29
abbrev I_impl_ArrOk : List Par := [.rd tA]
abbrev U_impl_ArrOk : List OT := [⟨false, tB, .fz⟩]
noncomputable def raw_impl_ArrOk (a0 : dA) : Option (ResD U_impl_ArrOk × MutD I_impl_ArrOk) :=
  let r1 := n_impl_GeoOk a0.2.1
  bif (!(!r1)) then
    bif (!((a0.2.2.1.length : Int) != a0.2.1.1)) then
      let r2 := n_impl_within a0.1 1 60000
      bif (!(!r2)) then
        let r3 := n_impl_lostOk a0.2.1 a0.2.2.2.1 a0.2.2.2.2.1
        bif (!(!r3)) then
          bnd (o_impl_dirtyOk a0) fun r4 =>
          bif (!r4.1.1) then
            some ((false, ()), ())
          else
            segM (F_impl_ArrOk_29 ((((), ()), (a0.2.2.1, ()), ((a0.2.2.1.length : Int), ()), ((), ()), ()), ((a0.1, a0.2.1.1, a0.2.1.2, a0.2.2.1, a0.2.2.2.1, a0.2.2.2.2.1, a0.2.2.2.2.2.1, a0.2.2.2.2.2.2.1, a0.2.2.2.2.2.2.2.1, a0.2.2.2.2.2.2.2.2.1, a0.2.2.2.2.2.2.2.2.2.1, a0.2.2.2.2.2.2.2.2.2.2.1, a0.2.2.2.2.2.2.2.2.2.2.2, ()), ()), ())) (fun y8 =>
              let r10 := n_impl_within y8.2.1.1.2.2.2.2.2.2.1 0 60000
              bif r10 then
                let r11 := n_impl_within y8.2.1.1.2.2.2.2.2.2.2.1 0 60000
                bif r11 then
                  let r12 := n_impl_within y8.2.1.1.2.2.2.2.2.2.2.2.1 0 60000
                  bif r12 then
                    let r13 := n_impl_within (IntKind.i64.wrap (y8.2.1.1.2.2.2.2.2.2.1 - y8.2.1.1.2.2.2.2.2.2.2.1)) 0 4
                    bif r13 then
                      let r14 := n_impl_within y8.2.1.1.2.2.2.2.2.2.2.2.2.2.1 (-1) 1000
                      some ((r14, ()), ())
                    else
                      some ((false, ()), ())
                  else
                    some ((false, ()), ())
                else
                  some ((false, ()), ())
              else
                some ((false, ()), ())) (fun y8 =>
              some ((y8.1.1.1, ()), ()))
        else
          some ((false, ()), ())
      else
        some ((false, ()), ())
    else
      some ((false, ()), ())
  else
    some ((false, ()), ())
theorem e_impl_ArrOk (x : InD I_impl_ArrOk) : execF ⟨E_impl_ArrOk, 103, D_impl_ArrOk_1⟩ Try.f15.results.toList B_impl_ArrOk I_impl_ArrOk U_impl_ArrOk x = raw_impl_ArrOk x.1 := by kernel_rfl
theorem ok0_impl_ArrOk : ConOk Try.prog 15 ⟨I_impl_ArrOk, U_impl_ArrOk, fun x => raw_impl_ArrOk x.1⟩ := conOk_exec (fr_impl_ArrOk_1) Try.func15 (by kernel_rfl) (by kernel_rfl) Try.ntmps15.symm (by decide) (fun x r h => (e_impl_ArrOk x).trans h)
theorem seq_fin {S T G F z TS le : Bool} (h1 : T = true → TS = true → S = true) (h2 : S = true → T = true → z = (TS && le)) :
    (bif S then bif T then bif G then bif z then some ((F, ()), ()) else some ((false, ()), ()) else some ((false, ()), ()) else some ((false, ()), ()) else some ((false, ()), ())) = some (((T && (TS && (le && (G && F)))), ()), ()) := by
  cases S
  · cases T
    · rfl
    · cases TS
      · rfl
      · exact absurd (h1 rfl rfl) Bool.false_ne_true
  · cases T
    · cases G <;> rfl
    · rw [h2 rfl rfl]
      cases TS <;> cases le <;> cases G <;> rfl
noncomputable def n_impl_ArrOk (a0 : dA) : Bool := arrOk a0
theorem nn_impl_ArrOk (a0 : dA) (hk : InOk I_impl_ArrOk (a0, ())) : raw_impl_ArrOk a0 = (fun n => some ((n, ()), ())) (n_impl_ArrOk a0) := by
  have hb : a0.2.2.1.length * 80 ≤ 2 ^ 47 := hk.1.2.2.1.1
  unfold raw_impl_ArrOk n_impl_ArrOk arrOk
  simp only [geo_eq, impl_in_eq, in_eq]
  cases hg : n_spec_GeoOk a0.2.1
  · rfl
  have hg2 := geo_iff.1 hg
  have h1 : F_impl_ArrOk_29 (ms_impl_ArrOk_29 a0.2.2.1 a0.2.2.1.length a0) = some (bif (List.range a0.2.2.1.length).any (memBad a0) then .inr (mz_impl_ArrOk_29 false) else .inl (mo_impl_ArrOk_29 a0)) :=
    loopN_all (step := stx_impl_ArrOk_29) (fun i => mk_impl_ArrOk_29 a0.2.2.1 a0.2.2.1.length i a0) a0.2.2.1.length (memBad a0) _ _ (fun i hi => by
      simp only [stx_impl_ArrOk_29, mk_impl_ArrOk_29, st_impl_ArrOk_29, ltb_t (show (i : Int) < a0.2.2.1.length by omega), cond_true, wr (show -9223372036854775808 ≤ (i : Int) + 1 by omega) (by omega), Int.natCast_add, Int.natCast_one, Int.toNat_natCast, inb_nat hi, pr_eta, n_impl_MemOk, memBad, n_impl_sectors, wr (show -9223372036854775808 ≤ 6 + a0.2.1.2 by omega) (by omega), noMem]
      rw [show (a0.2.2.2.1 != (i : Int)) = ((i : Int) != a0.2.2.2.1) from bne_comm]
      cases memOk (nth a0.2.2.1 i ([], [], false, [])) <;> cases (((nth a0.2.2.1 i ([], [], false, [])).1.length : Int) != 6 + a0.2.1.2) <;> cases (nth a0.2.2.1 i ([], [], false, [])).2.2.1 <;> cases ((i : Int) != a0.2.2.2.1) <;> cases a0.2.2.2.2.2.2.2.2.2.2.2 <;> rfl) (by simp only [stx_impl_ArrOk_29, mk_impl_ArrOk_29, st_impl_ArrOk_29, ltb_f (Int.le_refl _), cond_false]) _ (by show _ < 18446744073709551616; omega)
  rw [ot_impl_dirtyOk a0 hg, h1]
  simp only [bnd_some, n_impl_dirtyOk, n_impl_lostOk, impl_in_eq, in_eq, wr (show -9223372036854775808 ≤ a0.2.1.1 - 1 by omega) (by omega), memsOk]
  have hw : (leb 0 a0.2.2.2.2.2.1 && leb a0.2.2.2.2.2.1 60000) = true → (leb 0 a0.2.2.2.2.2.2.1 && leb a0.2.2.2.2.2.2.1 60000) = true → IntKind.i64.wrap (a0.2.2.2.2.2.1 - a0.2.2.2.2.2.2.1) = a0.2.2.2.2.2.1 - a0.2.2.2.2.2.2.1 := fun h h' => by
    rw [Bool.and_eq_true, leb_iff, leb_iff] at h h'
    exact wr (by omega) (by omega)
  simp only [bne, Bool.not_not, cond_true, Bool.true_and]
  have h2 : (leb 0 a0.2.2.2.2.2.1 && leb a0.2.2.2.2.2.1 60000) = true → (leb 0 a0.2.2.2.2.2.2.1 && leb a0.2.2.2.2.2.2.1 60000) = true → (leb 0 (IntKind.i64.wrap (a0.2.2.2.2.2.1 - a0.2.2.2.2.2.2.1)) && leb (IntKind.i64.wrap (a0.2.2.2.2.2.1 - a0.2.2.2.2.2.2.1)) 4) = ((leb a0.2.2.2.2.2.2.1 a0.2.2.2.2.2.1 && leb a0.2.2.2.2.2.1 60000) && leb a0.2.2.2.2.2.1 (a0.2.2.2.2.2.2.1 + 4)) := fun h h' => by
    rw [hw h h', Bool.eq_iff_iff]
    simp only [Bool.and_eq_true, leb_iff] at h h' ⊢
    omega
  have h3 : (leb 0 a0.2.2.2.2.2.2.1 && leb a0.2.2.2.2.2.2.1 60000) = true → (leb a0.2.2.2.2.2.2.1 a0.2.2.2.2.2.1 && leb a0.2.2.2.2.2.1 60000) = true → (leb 0 a0.2.2.2.2.2.1 && leb a0.2.2.2.2.2.1 60000) = true := fun h h' => by
    simp only [Bool.and_eq_true, leb_iff] at h h' ⊢
    omega
  cases ((a0.2.2.1.length : Int) == a0.2.1.1)
  · cases (leb 1 a0.1 && leb a0.1 60000) <;> cases (List.range a0.2.2.1.length).any (memBad a0) <;> rfl
  cases (leb 1 a0.1 && leb a0.1 60000)
  · rfl
  cases (leb (-1) a0.2.2.2.1 && leb a0.2.2.2.1 (a0.2.1.1 - 1))
  · cases (List.range a0.2.2.1.length).any (memBad a0) <;> cases dirtyOk a0.2.1 a0.2.2.2.2.2.2.2.2.1 <;> rfl
  cases (leb 0 a0.2.2.2.2.1 && leb a0.2.2.2.2.1 a0.2.1.2)
  · cases (List.range a0.2.2.1.length).any (memBad a0) <;> cases dirtyOk a0.2.1 a0.2.2.2.2.2.2.2.2.1 <;> rfl
  cases dirtyOk a0.2.1 a0.2.2.2.2.2.2.2.2.1
  · cases (List.range a0.2.2.1.length).any (memBad a0) <;> cases (a0.2.2.2.1 == -1) <;> cases (a0.2.2.2.2.1 == 0) <;> rfl
  cases (List.range a0.2.2.1.length).any (memBad a0)
  · cases (a0.2.2.2.1 == -1) <;> cases (a0.2.2.2.2.1 == 0)
    case true.false => rfl
    all_goals exact seq_fin h3 h2
  · cases (a0.2.2.2.1 == -1) <;> cases (a0.2.2.2.2.1 == 0) <;> rfl
noncomputable def con_impl_ArrOk : Con := ⟨I_impl_ArrOk, U_impl_ArrOk, fun x => (fun n => some ((n, ()), ())) (n_impl_ArrOk x.1)⟩
theorem ok_impl_ArrOk : ConOk Try.prog 15 con_impl_ArrOk := (ok0_impl_ArrOk).mono (fun x r hk h => (nn_impl_ArrOk x.1 hk).trans h)
end

/-! impl_copyInts -/
section
noncomputable def B_impl_copyInts : Code := (Try.f49.body).getD .skip
noncomputable def E_impl_copyInts : Env := envOf TT [] []
theorem fr_impl_copyInts_0 : FrOk Try.prog ⟨E_impl_copyInts, 6, fun _ => none⟩ B_impl_copyInts := frOk_base mixed tt_ok trivial
noncomputable def D_impl_copyInts_0 : Nat → Option Seg := fun _ => none
abbrev I_impl_copyInts : List Par := [.rd tL]
abbrev U_impl_copyInts : List OT := [⟨false, tL, (.ow .fz)⟩]
noncomputable def raw_impl_copyInts (a0 : List Int) : Option (ResD U_impl_copyInts × MutD I_impl_copyInts) :=
  bif (apok ([] : List Int).length a0.length 8) then
    some (((([] : List Int) ++ a0), ()), ())
  else none
theorem e_impl_copyInts (x : InD I_impl_copyInts) : execF ⟨E_impl_copyInts, 6, D_impl_copyInts_0⟩ Try.f49.results.toList B_impl_copyInts I_impl_copyInts U_impl_copyInts x = raw_impl_copyInts x.1 := by kernel_rfl
theorem ok0_impl_copyInts : ConOk Try.prog 49 ⟨I_impl_copyInts, U_impl_copyInts, fun x => raw_impl_copyInts x.1⟩ := conOk_exec (fr_impl_copyInts_0) Try.func49 (by kernel_rfl) (by kernel_rfl) Try.ntmps49.symm (by decide) (fun x r h => (e_impl_copyInts x).trans h)
noncomputable def n_impl_copyInts (a0 : List Int) : List Int := a0
theorem nn_impl_copyInts (a0 : List Int) (hk : InOk I_impl_copyInts (a0, ())) : raw_impl_copyInts a0 = (fun n => some ((n, ()), ())) (n_impl_copyInts a0) := by
  have hb : a0.length * 8 ≤ 2 ^ 47 := hk.1.1
  unfold raw_impl_copyInts n_impl_copyInts
  rw [show apok ([] : List Int).length a0.length 8 = true by rw [apok_iff, List.length_nil]; omega]
  rfl
noncomputable def con_impl_copyInts : Con := ⟨I_impl_copyInts, U_impl_copyInts, fun x => (fun n => some ((n, ()), ())) (n_impl_copyInts x.1)⟩
theorem ok_impl_copyInts : ConOk Try.prog 49 con_impl_copyInts := (ok0_impl_copyInts).mono (fun x r hk h => (nn_impl_copyInts x.1 hk).trans h)
end

/-! impl_copyMem -/
section
noncomputable def B_impl_copyMem : Code := (Try.f106.body).getD .skip
noncomputable def E_impl_copyMem : Env := envOf TT [(49, con_impl_copyInts)] []
theorem fr_impl_copyMem_0 : FrOk Try.prog ⟨E_impl_copyMem, 49, fun _ => none⟩ B_impl_copyMem := frOk_base mixed tt_ok ⟨ok_impl_copyInts, trivial⟩
noncomputable def D_impl_copyMem_0 : Nat → Option Seg := fun _ => none
def L_impl_copyMem_29 : Shape := ⟨[(1, false, [.ptr 0 0]), (2, false, [.ptr 64 0]), (3, false, [.ptr 4480 0]), (15, false, [.br tL]), (16, false, [.int .i64]), (17, false, [.int .i64])], [(0, [.br tL, .br tW, .bool, .br tI]), (64, [.nil, .nil, .bool, .nil]), (4480, [.at 800000001, .nil, .bool, .at 800000000])], [(800000001, tL, (.ow .fz)), (800000000, tI, .fz)]⟩
def S_impl_copyMem_29 : Shape := ⟨[(1, false, [.ptr 0 0]), (2, false, [.ptr 64 0]), (3, false, [.ptr 4480 0]), (15, false, [.br tL]), (16, false, [.int .i64]), (17, false, [.ci .i64 0])], [(0, [.br tL, .br tW, .bool, .br tI]), (64, [.nil, .nil, .bool, .nil]), (4480, [.at 800000001, .nil, .bool, .at 800000000])], [(800000001, tL, (.ow .fz)), (800000000, tI, .fz)]⟩
def O_impl_copyMem_29 : Shape := ⟨[(1, false, [.ptr 0 0]), (2, false, [.ptr 64 0]), (3, false, [.ptr 4480 0])], [(0, [.br tL, .br tW, .bool, .br tI]), (64, [.nil, .nil, .bool, .nil]), (4480, [.at 800000000, .nil, .bool, .at 800000001])], [(800000000, tL, (.ow .fz)), (800000001, tI, .fz)]⟩
def Z_impl_copyMem_29 : Shape := ⟨[], [], []⟩
abbrev mk_impl_copyMem_29 (v0 : List (List Int)) (v1 v2 : Int) (v3 v4 v5 : dM) : (L_impl_copyMem_29).X := ((((), ()), ((), ()), ((), ()), (v0, ()), (v1, ()), (v2, ()), ()), ((v3.1, v3.2.1, v3.2.2.1, v3.2.2.2, ()), ((), (), v4.2.2.1, (), ()), ((), (), v5.2.2.1, (), ()), ()), (v5.1, v5.2.2.2, ()))
abbrev ms_impl_copyMem_29 (v0 : List (List Int)) (v1 : Int) (v2 v3 v4 : dM) : (S_impl_copyMem_29).X := ((((), ()), ((), ()), ((), ()), (v0, ()), (v1, ()), ((), ()), ()), ((v2.1, v2.2.1, v2.2.2.1, v2.2.2.2, ()), ((), (), v3.2.2.1, (), ()), ((), (), v4.2.2.1, (), ()), ()), (v4.1, v4.2.2.2, ()))
abbrev mo_impl_copyMem_29 (v0 v1 v2 : dM) : (O_impl_copyMem_29).X := ((((), ()), ((), ()), ((), ()), ()), ((v0.1, v0.2.1, v0.2.2.1, v0.2.2.2, ()), ((), (), v1.2.2.1, (), ()), ((), (), v2.2.2.1, (), ()), ()), (v2.1, v2.2.2.2, ()))
noncomputable def st_impl_copyMem_29 (v0 : List (List Int)) (v1 v2 : Int) (v3 : List (List Int)) (v4 : List dW) (v5 : Bool) (v6 : List Int) (v7 v8 : Bool) (v9 : List (List Int)) (v10 : List Int) : Option ((L_impl_copyMem_29).X ⊕ ((O_impl_copyMem_29).X ⊕ (Z_impl_copyMem_29).X)) :=
  bif (ltb v2 v1) then
    bif (inb v2 v0.length) then
      let r4 := n_impl_copyInts (nth v0 v2 [])
      bif (apok v9.length ([r4] : List (List Int)).length 24) then
        some (.inl ((((), ()), ((), ()), ((), ()), (v0, ()), (v1, ()), ((IntKind.i64.wrap (v2 + 1)), ()), ()), ((v3, v4, v5, v6, ()), ((), (), v7, (), ()), ((), (), v8, (), ()), ()), ((v9 ++ ([r4] : List (List Int))), v10, ())))
      else none
    else none
  else
    some (.inr (.inl ((((), ()), ((), ()), ((), ()), ()), ((v3, v4, v5, v6, ()), ((), (), v7, (), ()), ((), (), v8, (), ()), ()), (v9, v10, ()))))
noncomputable def stx_impl_copyMem_29 (x : (L_impl_copyMem_29).X) := st_impl_copyMem_29 x.1.2.2.2.1.1 x.1.2.2.2.2.1.1 x.1.2.2.2.2.2.1.1 x.2.1.1.1 x.2.1.1.2.1 x.2.1.1.2.2.1 x.2.1.1.2.2.2.1 x.2.1.2.1.2.2.1 x.2.1.2.2.1.2.2.1 x.2.2.1 x.2.2.2.1
def em_impl_copyMem_29 (x : (S_impl_copyMem_29).X) : (L_impl_copyMem_29).X := ((((), ()), ((), ()), ((), ()), (x.1.2.2.2.1.1, ()), (x.1.2.2.2.2.1.1, ()), (0, ()), ()), ((x.2.1.1.1, x.2.1.1.2.1, x.2.1.1.2.2.1, x.2.1.1.2.2.2.1, ()), ((), (), x.2.1.2.1.2.2.1, (), ()), ((), (), x.2.1.2.2.1.2.2.1, (), ()), ()), (x.2.2.1, x.2.2.2.1, ()))
noncomputable def c_impl_copyMem_29 : Code := (subN B_impl_copyMem 64 116).getD .skip
theorem a_impl_copyMem_29 : subN B_impl_copyMem 64 29 = some (.block 0 (.loop c_impl_copyMem_29)) := by kernel_rfl
theorem r_impl_copyMem_29 (x : (L_impl_copyMem_29).X) : roundT ⟨E_impl_copyMem, 49, D_impl_copyMem_0⟩ 0 c_impl_copyMem_29 116 L_impl_copyMem_29 O_impl_copyMem_29 Z_impl_copyMem_29 x = stx_impl_copyMem_29 x := by kernel_rfl
def fu_impl_copyMem_29 (x : (S_impl_copyMem_29).X) : Nat := 18446744073709551616
noncomputable def F_impl_copyMem_29 (x : (S_impl_copyMem_29).X) : Option ((O_impl_copyMem_29).X ⊕ (Z_impl_copyMem_29).X) := loopN stx_impl_copyMem_29 (fu_impl_copyMem_29 x) (em_impl_copyMem_29 x)
noncomputable def sg_impl_copyMem_29 : Seg := ⟨S_impl_copyMem_29, O_impl_copyMem_29, Z_impl_copyMem_29, F_impl_copyMem_29⟩
noncomputable def D_impl_copyMem_1 : Nat → Option Seg := fun q => bif Nat.beq q 29 then some sg_impl_copyMem_29 else D_impl_copyMem_0 q
theorem fr_impl_copyMem_1 : FrOk Try.prog ⟨E_impl_copyMem, 49, D_impl_copyMem_1⟩ B_impl_copyMem := (fr_impl_copyMem_0).loop (sg := sg_impl_copyMem_29) L_impl_copyMem_29 em_impl_copyMem_29 (by decide) a_impl_copyMem_29 stx_impl_copyMem_29 fu_impl_copyMem_29 (by decide) (fun _ => rfl) (fun x r _ h => h) r_impl_copyMem_29
def L_impl_copyMem_61 : Shape := ⟨[(2, false, [.ptr 64 0]), (3, false, [.ptr 4480 0]), (30, false, [.br tW]), (31, false, [.int .i64]), (32, false, [.int .i64])], [(64, [.nil, .nil, .bool, .nil]), (4480, [.at 800000000, .at 800000002, .bool, .at 800000001])], [(800000000, tL, (.ow .fz)), (800000002, tW, (.pr .fz (.ow .fz))), (800000001, tI, .fz)]⟩
def S_impl_copyMem_61 : Shape := ⟨[(2, false, [.ptr 64 0]), (3, false, [.ptr 4480 0]), (30, false, [.br tW]), (31, false, [.int .i64]), (32, false, [.ci .i64 0])], [(64, [.nil, .nil, .bool, .nil]), (4480, [.at 800000000, .at 800000002, .bool, .at 800000001])], [(800000000, tL, (.ow .fz)), (800000002, tW, (.pr .fz (.ow .fz))), (800000001, tI, .fz)]⟩
def O_impl_copyMem_61 : Shape := ⟨[(2, false, [.ptr 64 0]), (3, false, [.ptr 4480 0])], [(64, [.nil, .nil, .bool, .nil]), (4480, [.at 800000000, .at 800000001, .bool, .at 800000002])], [(800000000, tL, (.ow .fz)), (800000001, tW, (.pr .fz (.ow .fz))), (800000002, tI, .fz)]⟩
def Z_impl_copyMem_61 : Shape := ⟨[], [], []⟩
abbrev mk_impl_copyMem_61 (v0 : List dW) (v1 v2 : Int) (v3 v4 : dM) : (L_impl_copyMem_61).X := ((((), ()), ((), ()), (v0, ()), (v1, ()), (v2, ()), ()), (((), (), v3.2.2.1, (), ()), ((), (), v4.2.2.1, (), ()), ()), (v4.1, v4.2.1, v4.2.2.2, ()))
abbrev ms_impl_copyMem_61 (v0 : List dW) (v1 : Int) (v2 v3 : dM) : (S_impl_copyMem_61).X := ((((), ()), ((), ()), (v0, ()), (v1, ()), ((), ()), ()), (((), (), v2.2.2.1, (), ()), ((), (), v3.2.2.1, (), ()), ()), (v3.1, v3.2.1, v3.2.2.2, ()))
abbrev mo_impl_copyMem_61 (v0 v1 : dM) : (O_impl_copyMem_61).X := ((((), ()), ((), ()), ()), (((), (), v0.2.2.1, (), ()), ((), (), v1.2.2.1, (), ()), ()), (v1.1, v1.2.1, v1.2.2.2, ()))
noncomputable def st_impl_copyMem_61 (v0 : List dW) (v1 v2 : Int) (v3 v4 : Bool) (v5 : List (List Int)) (v6 : List dW) (v7 : List Int) : Option ((L_impl_copyMem_61).X ⊕ ((O_impl_copyMem_61).X ⊕ (Z_impl_copyMem_61).X)) :=
  bif (ltb v2 v1) then
    bif (inb v2 v0.length) then
      let r8 := n_impl_copyInts ((nth v0 v2 (0, [])).2)
      bif (apok v6.length ([((nth v0 v2 (0, [])).1, r8)] : List dW).length 32) then
        some (.inl ((((), ()), ((), ()), (v0, ()), (v1, ()), ((IntKind.i64.wrap (v2 + 1)), ()), ()), (((), (), v3, (), ()), ((), (), v4, (), ()), ()), (v5, (v6 ++ ([((nth v0 v2 (0, [])).1, r8)] : List dW)), v7, ())))
      else none
    else none
  else
    some (.inr (.inl ((((), ()), ((), ()), ()), (((), (), v3, (), ()), ((), (), v4, (), ()), ()), (v5, v6, v7, ()))))
noncomputable def stx_impl_copyMem_61 (x : (L_impl_copyMem_61).X) := st_impl_copyMem_61 x.1.2.2.1.1 x.1.2.2.2.1.1 x.1.2.2.2.2.1.1 x.2.1.1.2.2.1 x.2.1.2.1.2.2.1 x.2.2.1 x.2.2.2.1 x.2.2.2.2.1
def em_impl_copyMem_61 (x : (S_impl_copyMem_61).X) : (L_impl_copyMem_61).X := ((((), ()), ((), ()), (x.1.2.2.1.1, ()), (x.1.2.2.2.1.1, ()), (0, ()), ()), (((), (), x.2.1.1.2.2.1, (), ()), ((), (), x.2.1.2.1.2.2.1, (), ()), ()), (x.2.2.1, x.2.2.2.1, x.2.2.2.2.1, ()))
noncomputable def c_impl_copyMem_61 : Code := (subN B_impl_copyMem 64 244).getD .skip
theorem a_impl_copyMem_61 : subN B_impl_copyMem 64 61 = some (.block 2 (.loop c_impl_copyMem_61)) := by kernel_rfl
theorem r_impl_copyMem_61 (x : (L_impl_copyMem_61).X) : roundT ⟨E_impl_copyMem, 49, D_impl_copyMem_1⟩ 2 c_impl_copyMem_61 244 L_impl_copyMem_61 O_impl_copyMem_61 Z_impl_copyMem_61 x = stx_impl_copyMem_61 x := by kernel_rfl
def fu_impl_copyMem_61 (x : (S_impl_copyMem_61).X) : Nat := 18446744073709551616
noncomputable def F_impl_copyMem_61 (x : (S_impl_copyMem_61).X) : Option ((O_impl_copyMem_61).X ⊕ (Z_impl_copyMem_61).X) := loopN stx_impl_copyMem_61 (fu_impl_copyMem_61 x) (em_impl_copyMem_61 x)
noncomputable def sg_impl_copyMem_61 : Seg := ⟨S_impl_copyMem_61, O_impl_copyMem_61, Z_impl_copyMem_61, F_impl_copyMem_61⟩
noncomputable def D_impl_copyMem_2 : Nat → Option Seg := fun q => bif Nat.beq q 61 then some sg_impl_copyMem_61 else D_impl_copyMem_1 q
theorem fr_impl_copyMem_2 : FrOk Try.prog ⟨E_impl_copyMem, 49, D_impl_copyMem_2⟩ B_impl_copyMem := (fr_impl_copyMem_1).loop (sg := sg_impl_copyMem_61) L_impl_copyMem_61 em_impl_copyMem_61 (by decide) a_impl_copyMem_61 stx_impl_copyMem_61 fu_impl_copyMem_61 (by decide) (fun _ => rfl) (fun x r _ h => h) r_impl_copyMem_61
abbrev I_impl_copyMem : List Par := [.rd tM]
abbrev U_impl_copyMem : List OT := [⟨false, tM, (.pr (.ow (.ow .fz)) (.pr (.ow (.pr .fz (.ow .fz))) (.pr .fz (.ow .fz))))⟩]
noncomputable def raw_impl_copyMem (a0 : dM) : Option (ResD U_impl_copyMem × MutD I_impl_copyMem) :=
  let r1 := n_impl_copyInts a0.2.2.2
  segM (F_impl_copyMem_29 ((((), ()), ((), ()), ((), ()), (a0.1, ()), ((a0.1.length : Int), ()), ((), ()), ()), ((a0.1, a0.2.1, a0.2.2.1, a0.2.2.2, ()), ((), (), false, (), ()), ((), (), a0.2.2.1, (), ()), ()), ([], r1, ()))) (fun y4 =>
    segM (F_impl_copyMem_61 ((((), ()), ((), ()), (y4.2.1.1.2.1, ()), ((y4.2.1.1.2.1.length : Int), ()), ((), ()), ()), (((), (), y4.2.1.2.1.2.2.1, (), ()), ((), (), y4.2.1.2.2.1.2.2.1, (), ()), ()), (y4.2.2.1, [], y4.2.2.2.1, ()))) (fun y8 =>
      some (((y8.2.2.1, y8.2.2.2.1, y8.2.1.2.1.2.2.1, y8.2.2.2.2.1), ()), ())) (fun y8 =>
      none)) (fun y4 =>
    none)
theorem e_impl_copyMem (x : InD I_impl_copyMem) : execF ⟨E_impl_copyMem, 49, D_impl_copyMem_2⟩ Try.f106.results.toList B_impl_copyMem I_impl_copyMem U_impl_copyMem x = raw_impl_copyMem x.1 := by kernel_rfl
theorem ok0_impl_copyMem : ConOk Try.prog 106 ⟨I_impl_copyMem, U_impl_copyMem, fun x => raw_impl_copyMem x.1⟩ := conOk_exec (fr_impl_copyMem_2) Try.func106 (by kernel_rfl) (by kernel_rfl) Try.ntmps106.symm (by decide) (fun x r h => (e_impl_copyMem x).trans h)
noncomputable def n_impl_copyMem (a0 : dM) : dM := a0
theorem nn_impl_copyMem (a0 : dM) (hk : InOk I_impl_copyMem (a0, ())) : raw_impl_copyMem a0 = (fun n => some ((n, ()), ())) (n_impl_copyMem a0) := by
  have hb1 : a0.1.length * 24 ≤ 2 ^ 47 := hk.1.1.1
  have hb2 : a0.2.1.length * 32 ≤ 2 ^ 47 := hk.1.2.1.1
  have h1 : F_impl_copyMem_29 (ms_impl_copyMem_29 a0.1 a0.1.length a0 noMem ([], [], a0.2.2.1, a0.2.2.2)) = some (.inl (mo_impl_copyMem_29 a0 noMem (a0.1, [], a0.2.2.1, a0.2.2.2))) := by
    have := loopN_fold (step := stx_impl_copyMem_29) a0.1 [] (fun i s => mk_impl_copyMem_29 a0.1 a0.1.length i a0 noMem (s, [], a0.2.2.1, a0.2.2.2)) (fun s x => s ++ [x]) (fun i s => s.length = i) (fun s => .inl (mo_impl_copyMem_29 a0 noMem (s, [], a0.2.2.1, a0.2.2.2))) (fun i s hi hs2 => ⟨by
      simp only [stx_impl_copyMem_29, mk_impl_copyMem_29, st_impl_copyMem_29, ltb_t (show (i : Int) < a0.1.length by omega), cond_true, wr (show -9223372036854775808 ≤ (i : Int) + 1 by omega) (by omega), Int.natCast_add, Int.natCast_one, Int.toNat_natCast, inb_nat hi, nth_nat, n_impl_copyInts]
      rw [apok_iff.2 (show (s.length + [a0.1.getD i []].length) * 24 ≤ 140737488355328 by simp only [List.length_cons, List.length_nil]; omega)]; rfl, by simp [hs2]⟩) (fun s _ => by simp only [stx_impl_copyMem_29, mk_impl_copyMem_29, st_impl_copyMem_29, ltb_f (Int.le_refl _), cond_false]) [] rfl 18446744073709551616 (by omega)
    rw [foldl_id] at this
    exact this
  have h2 : F_impl_copyMem_61 (ms_impl_copyMem_61 a0.2.1 a0.2.1.length noMem (a0.1, [], a0.2.2.1, a0.2.2.2)) = some (.inl (mo_impl_copyMem_61 noMem a0)) := by
    have := loopN_fold (step := stx_impl_copyMem_61) a0.2.1 (0, []) (fun i s => mk_impl_copyMem_61 a0.2.1 a0.2.1.length i noMem (a0.1, s, a0.2.2.1, a0.2.2.2)) (fun s x => s ++ [x]) (fun i s => s.length = i) (fun s => .inl (mo_impl_copyMem_61 noMem (a0.1, s, a0.2.2.1, a0.2.2.2))) (fun i s hi hs2 => ⟨by
      simp only [stx_impl_copyMem_61, mk_impl_copyMem_61, st_impl_copyMem_61, ltb_t (show (i : Int) < a0.2.1.length by omega), cond_true, wr (show -9223372036854775808 ≤ (i : Int) + 1 by omega) (by omega), Int.natCast_add, Int.natCast_one, Int.toNat_natCast, inb_nat hi, nth_nat, n_impl_copyInts, pr_eta]
      rw [apok_iff.2 (show (s.length + [a0.2.1.getD i (0, [])].length) * 32 ≤ 140737488355328 by simp only [List.length_cons, List.length_nil]; omega)]; rfl, by simp [hs2]⟩) (fun s _ => by simp only [stx_impl_copyMem_61, mk_impl_copyMem_61, st_impl_copyMem_61, ltb_f (Int.le_refl _), cond_false]) [] rfl 18446744073709551616 (by omega)
    rw [foldl_id] at this
    exact this
  unfold raw_impl_copyMem n_impl_copyMem
  simp only [n_impl_copyInts, h1, segM_inl, h2]
noncomputable def con_impl_copyMem : Con := ⟨I_impl_copyMem, U_impl_copyMem, fun x => (fun n => some ((n, ()), ())) (n_impl_copyMem x.1)⟩
theorem ok_impl_copyMem : ConOk Try.prog 106 con_impl_copyMem := (ok0_impl_copyMem).mono (fun x r hk h => (nn_impl_copyMem x.1 hk).trans h)
end

/-! impl_copyMems -/
section
noncomputable def B_impl_copyMems : Code := (Try.f105.body).getD .skip
noncomputable def E_impl_copyMems : Env := envOf TT [(106, con_impl_copyMem)] []
theorem fr_impl_copyMems_0 : FrOk Try.prog ⟨E_impl_copyMems, 20, fun _ => none⟩ B_impl_copyMems := frOk_base mixed tt_ok ⟨ok_impl_copyMem, trivial⟩
noncomputable def D_impl_copyMems_0 : Nat → Option Seg := fun _ => none
def L_impl_copyMems_29 : Shape := ⟨[(3, false, [.at 800000000]), (7, false, [.br tM]), (8, false, [.int .i64]), (9, false, [.int .i64])], [], [(800000000, tM, (.pr (.ow (.ow .fz)) (.pr (.ow (.pr .fz (.ow .fz))) (.pr .fz (.ow .fz)))))]⟩
def S_impl_copyMems_29 : Shape := ⟨[(3, false, [.at 800000000]), (7, false, [.br tM]), (8, false, [.int .i64]), (9, false, [.ci .i64 0])], [], [(800000000, tM, (.pr (.ow (.ow .fz)) (.pr (.ow (.pr .fz (.ow .fz))) (.pr .fz (.ow .fz)))))]⟩
def O_impl_copyMems_29 : Shape := ⟨[(3, false, [.at 800000000])], [], [(800000000, tM, (.pr (.ow (.ow .fz)) (.pr (.ow (.pr .fz (.ow .fz))) (.pr .fz (.ow .fz)))))]⟩
def Z_impl_copyMems_29 : Shape := ⟨[], [], []⟩
abbrev mk_impl_copyMems_29 (v0 : List dM) (v1 v2 : Int) (v3 : List dM) : (L_impl_copyMems_29).X := ((((), ()), (v0, ()), (v1, ()), (v2, ()), ()), (), (v3, ()))
abbrev ms_impl_copyMems_29 (v0 : List dM) (v1 : Int) (v2 : List dM) : (S_impl_copyMems_29).X := ((((), ()), (v0, ()), (v1, ()), ((), ()), ()), (), (v2, ()))
abbrev mo_impl_copyMems_29 (v0 : List dM) : (O_impl_copyMems_29).X := ((((), ()), ()), (), (v0, ()))
noncomputable def st_impl_copyMems_29 (v0 : List dM) (v1 v2 : Int) (v3 : List dM) : Option ((L_impl_copyMems_29).X ⊕ ((O_impl_copyMems_29).X ⊕ (Z_impl_copyMems_29).X)) :=
  bif (ltb v2 v1) then
    bif (inb v2 v0.length) then
      let r2 := n_impl_copyMem ((nth v0 v2 ([], [], false, [])).1, ((nth v0 v2 ([], [], false, [])).2).1, (((nth v0 v2 ([], [], false, [])).2).2))
      bif (apok v3.length ([r2] : List dM).length 80) then
        some (.inl ((((), ()), (v0, ()), (v1, ()), ((IntKind.i64.wrap (v2 + 1)), ()), ()), (), ((v3 ++ ([r2] : List dM)), ())))
      else none
    else none
  else
    some (.inr (.inl ((((), ()), ()), (), (v3, ()))))
noncomputable def stx_impl_copyMems_29 (x : (L_impl_copyMems_29).X) := st_impl_copyMems_29 x.1.2.1.1 x.1.2.2.1.1 x.1.2.2.2.1.1 x.2.2.1
def em_impl_copyMems_29 (x : (S_impl_copyMems_29).X) : (L_impl_copyMems_29).X := ((((), ()), (x.1.2.1.1, ()), (x.1.2.2.1.1, ()), (0, ()), ()), (), (x.2.2.1, ()))
noncomputable def c_impl_copyMems_29 : Code := (subN B_impl_copyMems 64 116).getD .skip
theorem a_impl_copyMems_29 : subN B_impl_copyMems 64 29 = some (.block 0 (.loop c_impl_copyMems_29)) := by kernel_rfl
theorem r_impl_copyMems_29 (x : (L_impl_copyMems_29).X) : roundT ⟨E_impl_copyMems, 20, D_impl_copyMems_0⟩ 0 c_impl_copyMems_29 116 L_impl_copyMems_29 O_impl_copyMems_29 Z_impl_copyMems_29 x = stx_impl_copyMems_29 x := by kernel_rfl
def fu_impl_copyMems_29 (x : (S_impl_copyMems_29).X) : Nat := 18446744073709551616
noncomputable def F_impl_copyMems_29 (x : (S_impl_copyMems_29).X) : Option ((O_impl_copyMems_29).X ⊕ (Z_impl_copyMems_29).X) := loopN stx_impl_copyMems_29 (fu_impl_copyMems_29 x) (em_impl_copyMems_29 x)
noncomputable def sg_impl_copyMems_29 : Seg := ⟨S_impl_copyMems_29, O_impl_copyMems_29, Z_impl_copyMems_29, F_impl_copyMems_29⟩
noncomputable def D_impl_copyMems_1 : Nat → Option Seg := fun q => bif Nat.beq q 29 then some sg_impl_copyMems_29 else D_impl_copyMems_0 q
theorem fr_impl_copyMems_1 : FrOk Try.prog ⟨E_impl_copyMems, 20, D_impl_copyMems_1⟩ B_impl_copyMems := (fr_impl_copyMems_0).loop (sg := sg_impl_copyMems_29) L_impl_copyMems_29 em_impl_copyMems_29 (by decide) a_impl_copyMems_29 stx_impl_copyMems_29 fu_impl_copyMems_29 (by decide) (fun _ => rfl) (fun x r _ h => h) r_impl_copyMems_29
abbrev I_impl_copyMems : List Par := [.rd tMs]
abbrev U_impl_copyMems : List OT := [⟨false, tMs, (.ow (.pr (.ow (.ow .fz)) (.pr (.ow (.pr .fz (.ow .fz))) (.pr .fz (.ow .fz)))))⟩]
noncomputable def raw_impl_copyMems (a0 : List dM) : Option (ResD U_impl_copyMems × MutD I_impl_copyMems) :=
  segM (F_impl_copyMems_29 ((((), ()), (a0, ()), ((a0.length : Int), ()), ((), ()), ()), (), (([] : List dM), ()))) (fun y2 =>
    some ((y2.2.2.1, ()), ())) (fun y2 =>
    none)
theorem e_impl_copyMems (x : InD I_impl_copyMems) : execF ⟨E_impl_copyMems, 20, D_impl_copyMems_1⟩ Try.f105.results.toList B_impl_copyMems I_impl_copyMems U_impl_copyMems x = raw_impl_copyMems x.1 := by kernel_rfl
theorem ok0_impl_copyMems : ConOk Try.prog 105 ⟨I_impl_copyMems, U_impl_copyMems, fun x => raw_impl_copyMems x.1⟩ := conOk_exec (fr_impl_copyMems_1) Try.func105 (by kernel_rfl) (by kernel_rfl) Try.ntmps105.symm (by decide) (fun x r h => (e_impl_copyMems x).trans h)
noncomputable def n_impl_copyMems (a0 : List dM) : List dM := a0
theorem nn_impl_copyMems (a0 : List dM) (hk : InOk I_impl_copyMems (a0, ())) : raw_impl_copyMems a0 = (fun n => some ((n, ()), ())) (n_impl_copyMems a0) := by
  have hb : a0.length * 80 ≤ 2 ^ 47 := hk.1.1
  have h1 := loopN_fold (step := stx_impl_copyMems_29) a0 noMem (fun i s => mk_impl_copyMems_29 a0 a0.length i s) (fun s x => s ++ [x]) (fun i s => s.length = i) (fun s => .inl (mo_impl_copyMems_29 s)) (fun i s hi hs => ⟨by
      simp only [stx_impl_copyMems_29, mk_impl_copyMems_29, st_impl_copyMems_29, ltb_t (show (i : Int) < a0.length by omega), cond_true, wr (show -9223372036854775808 ≤ (i : Int) + 1 by omega) (by omega), Int.natCast_add, Int.natCast_one, Int.toNat_natCast, inb_nat hi, nth_nat, n_impl_copyMem, pr_eta]
      rw [apok_iff.2 (show (s.length + [a0.getD i ([], [], false, [])].length) * 80 ≤ 140737488355328 by simp only [List.length_cons, List.length_nil]; omega)]; rfl, by simp [hs]⟩) (fun s hs => by simp only [stx_impl_copyMems_29, mk_impl_copyMems_29, st_impl_copyMems_29, ltb_f (Int.le_refl _), cond_false]) [] rfl 18446744073709551616 (by omega)
  rw [foldl_id] at h1
  unfold raw_impl_copyMems n_impl_copyMems
  rw [show F_impl_copyMems_29 (ms_impl_copyMems_29 a0 a0.length []) = _ from h1]; rfl
noncomputable def con_impl_copyMems : Con := ⟨I_impl_copyMems, U_impl_copyMems, fun x => (fun n => some ((n, ()), ())) (n_impl_copyMems x.1)⟩
theorem ok_impl_copyMems : ConOk Try.prog 105 con_impl_copyMems := (ok0_impl_copyMems).mono (fun x r hk h => (nn_impl_copyMems x.1 hk).trans h)
end

/-! impl_copyArr -/
section
noncomputable def B_impl_copyArr : Code := (Try.f66.body).getD .skip
noncomputable def E_impl_copyArr : Env := envOf TT [(49, con_impl_copyInts), (105, con_impl_copyMems)] []
theorem fr_impl_copyArr_0 : FrOk Try.prog ⟨E_impl_copyArr, 31, fun _ => none⟩ B_impl_copyArr := frOk_base mixed tt_ok ⟨ok_impl_copyInts, ok_impl_copyMems, trivial⟩
noncomputable def D_impl_copyArr_0 : Nat → Option Seg := fun _ => none
def L_impl_copyArr_29 : Shape := ⟨[(1, false, [.ptr 0 0]), (2, false, [.ptr 64 0]), (3, false, [.at 800000000]), (8, false, [.br tW]), (9, false, [.int .i64]), (10, false, [.int .i64])], [(0, [.int .i64, .int .i64, .int .i64, .br tM, .int .i64, .int .i64, .int .i64, .int .i64, .int .i64, .br tW, .int .i64, .bool, .bool]), (64, [.int .i64, .int .i64, .int .i64, .nil, .int .i64, .int .i64, .int .i64, .int .i64, .int .i64, .nil, .int .i64, .bool, .bool])], [(800000000, tW, (.pr .fz (.ow .fz)))]⟩
def S_impl_copyArr_29 : Shape := ⟨[(1, false, [.ptr 0 0]), (2, false, [.ptr 64 0]), (3, false, [.at 800000000]), (8, false, [.br tW]), (9, false, [.int .i64]), (10, false, [.ci .i64 0])], [(0, [.int .i64, .int .i64, .int .i64, .br tM, .int .i64, .int .i64, .int .i64, .int .i64, .int .i64, .br tW, .int .i64, .bool, .bool]), (64, [.int .i64, .int .i64, .int .i64, .nil, .int .i64, .int .i64, .int .i64, .int .i64, .int .i64, .nil, .int .i64, .bool, .bool])], [(800000000, tW, (.pr .fz (.ow .fz)))]⟩
def O_impl_copyArr_29 : Shape := ⟨[(1, false, [.ptr 0 0]), (2, false, [.ptr 64 0]), (3, false, [.at 800000000])], [(0, [.int .i64, .int .i64, .int .i64, .br tM, .int .i64, .int .i64, .int .i64, .int .i64, .int .i64, .br tW, .int .i64, .bool, .bool]), (64, [.int .i64, .int .i64, .int .i64, .nil, .int .i64, .int .i64, .int .i64, .int .i64, .int .i64, .nil, .int .i64, .bool, .bool])], [(800000000, tW, (.pr .fz (.ow .fz)))]⟩
def Z_impl_copyArr_29 : Shape := ⟨[], [], []⟩
abbrev mk_impl_copyArr_29 (v0 : List dW) (v1 v2 : Int) (v3 v4 : dA) (v5 : List dW) : (L_impl_copyArr_29).X := ((((), ()), ((), ()), ((), ()), (v0, ()), (v1, ()), (v2, ()), ()), ((v3.1, v3.2.1.1, v3.2.1.2, v3.2.2.1, v3.2.2.2.1, v3.2.2.2.2.1, v3.2.2.2.2.2.1, v3.2.2.2.2.2.2.1, v3.2.2.2.2.2.2.2.1, v3.2.2.2.2.2.2.2.2.1, v3.2.2.2.2.2.2.2.2.2.1, v3.2.2.2.2.2.2.2.2.2.2.1, v3.2.2.2.2.2.2.2.2.2.2.2, ()), (v4.1, v4.2.1.1, v4.2.1.2, (), v4.2.2.2.1, v4.2.2.2.2.1, v4.2.2.2.2.2.1, v4.2.2.2.2.2.2.1, v4.2.2.2.2.2.2.2.1, (), v4.2.2.2.2.2.2.2.2.2.1, v4.2.2.2.2.2.2.2.2.2.2.1, v4.2.2.2.2.2.2.2.2.2.2.2, ()), ()), (v5, ()))
abbrev ms_impl_copyArr_29 (v0 : List dW) (v1 : Int) (v2 v3 : dA) (v4 : List dW) : (S_impl_copyArr_29).X := ((((), ()), ((), ()), ((), ()), (v0, ()), (v1, ()), ((), ()), ()), ((v2.1, v2.2.1.1, v2.2.1.2, v2.2.2.1, v2.2.2.2.1, v2.2.2.2.2.1, v2.2.2.2.2.2.1, v2.2.2.2.2.2.2.1, v2.2.2.2.2.2.2.2.1, v2.2.2.2.2.2.2.2.2.1, v2.2.2.2.2.2.2.2.2.2.1, v2.2.2.2.2.2.2.2.2.2.2.1, v2.2.2.2.2.2.2.2.2.2.2.2, ()), (v3.1, v3.2.1.1, v3.2.1.2, (), v3.2.2.2.1, v3.2.2.2.2.1, v3.2.2.2.2.2.1, v3.2.2.2.2.2.2.1, v3.2.2.2.2.2.2.2.1, (), v3.2.2.2.2.2.2.2.2.2.1, v3.2.2.2.2.2.2.2.2.2.2.1, v3.2.2.2.2.2.2.2.2.2.2.2, ()), ()), (v4, ()))
abbrev mo_impl_copyArr_29 (v0 v1 : dA) (v2 : List dW) : (O_impl_copyArr_29).X := ((((), ()), ((), ()), ((), ()), ()), ((v0.1, v0.2.1.1, v0.2.1.2, v0.2.2.1, v0.2.2.2.1, v0.2.2.2.2.1, v0.2.2.2.2.2.1, v0.2.2.2.2.2.2.1, v0.2.2.2.2.2.2.2.1, v0.2.2.2.2.2.2.2.2.1, v0.2.2.2.2.2.2.2.2.2.1, v0.2.2.2.2.2.2.2.2.2.2.1, v0.2.2.2.2.2.2.2.2.2.2.2, ()), (v1.1, v1.2.1.1, v1.2.1.2, (), v1.2.2.2.1, v1.2.2.2.2.1, v1.2.2.2.2.2.1, v1.2.2.2.2.2.2.1, v1.2.2.2.2.2.2.2.1, (), v1.2.2.2.2.2.2.2.2.2.1, v1.2.2.2.2.2.2.2.2.2.2.1, v1.2.2.2.2.2.2.2.2.2.2.2, ()), ()), (v2, ()))
noncomputable def st_impl_copyArr_29 (v0 : List dW) (v1 v2 v3 v4 v5 : Int) (v6 : List dM) (v7 v8 v9 v10 v11 : Int) (v12 : List dW) (v13 : Int) (v14 v15 : Bool) (v16 v17 v18 v19 v20 v21 v22 v23 v24 : Int) (v25 v26 : Bool) (v27 : List dW) : Option ((L_impl_copyArr_29).X ⊕ ((O_impl_copyArr_29).X ⊕ (Z_impl_copyArr_29).X)) :=
  bif (ltb v2 v1) then
    bif (inb v2 v0.length) then
      let r2 := n_impl_copyInts ((nth v0 v2 (0, [])).2)
      bif (apok v27.length ([((nth v0 v2 (0, [])).1, r2)] : List dW).length 32) then
        some (.inl ((((), ()), ((), ()), ((), ()), (v0, ()), (v1, ()), ((IntKind.i64.wrap (v2 + 1)), ()), ()), ((v3, v4, v5, v6, v7, v8, v9, v10, v11, v12, v13, v14, v15, ()), (v16, v17, v18, (), v19, v20, v21, v22, v23, (), v24, v25, v26, ()), ()), ((v27 ++ ([((nth v0 v2 (0, [])).1, r2)] : List dW)), ())))
      else none
    else none
  else
    some (.inr (.inl ((((), ()), ((), ()), ((), ()), ()), ((v3, v4, v5, v6, v7, v8, v9, v10, v11, v12, v13, v14, v15, ()), (v16, v17, v18, (), v19, v20, v21, v22, v23, (), v24, v25, v26, ()), ()), (v27, ()))))
noncomputable def stx_impl_copyArr_29 (x : (L_impl_copyArr_29).X) := st_impl_copyArr_29 x.1.2.2.2.1.1 x.1.2.2.2.2.1.1 x.1.2.2.2.2.2.1.1 x.2.1.1.1 x.2.1.1.2.1 x.2.1.1.2.2.1 x.2.1.1.2.2.2.1 x.2.1.1.2.2.2.2.1 x.2.1.1.2.2.2.2.2.1 x.2.1.1.2.2.2.2.2.2.1 x.2.1.1.2.2.2.2.2.2.2.1 x.2.1.1.2.2.2.2.2.2.2.2.1 x.2.1.1.2.2.2.2.2.2.2.2.2.1 x.2.1.1.2.2.2.2.2.2.2.2.2.2.1 x.2.1.1.2.2.2.2.2.2.2.2.2.2.2.1 x.2.1.1.2.2.2.2.2.2.2.2.2.2.2.2.1 x.2.1.2.1.1 x.2.1.2.1.2.1 x.2.1.2.1.2.2.1 x.2.1.2.1.2.2.2.2.1 x.2.1.2.1.2.2.2.2.2.1 x.2.1.2.1.2.2.2.2.2.2.1 x.2.1.2.1.2.2.2.2.2.2.2.1 x.2.1.2.1.2.2.2.2.2.2.2.2.1 x.2.1.2.1.2.2.2.2.2.2.2.2.2.2.1 x.2.1.2.1.2.2.2.2.2.2.2.2.2.2.2.1 x.2.1.2.1.2.2.2.2.2.2.2.2.2.2.2.2.1 x.2.2.1
def em_impl_copyArr_29 (x : (S_impl_copyArr_29).X) : (L_impl_copyArr_29).X := ((((), ()), ((), ()), ((), ()), (x.1.2.2.2.1.1, ()), (x.1.2.2.2.2.1.1, ()), (0, ()), ()), ((x.2.1.1.1, x.2.1.1.2.1, x.2.1.1.2.2.1, x.2.1.1.2.2.2.1, x.2.1.1.2.2.2.2.1, x.2.1.1.2.2.2.2.2.1, x.2.1.1.2.2.2.2.2.2.1, x.2.1.1.2.2.2.2.2.2.2.1, x.2.1.1.2.2.2.2.2.2.2.2.1, x.2.1.1.2.2.2.2.2.2.2.2.2.1, x.2.1.1.2.2.2.2.2.2.2.2.2.2.1, x.2.1.1.2.2.2.2.2.2.2.2.2.2.2.1, x.2.1.1.2.2.2.2.2.2.2.2.2.2.2.2.1, ()), (x.2.1.2.1.1, x.2.1.2.1.2.1, x.2.1.2.1.2.2.1, (), x.2.1.2.1.2.2.2.2.1, x.2.1.2.1.2.2.2.2.2.1, x.2.1.2.1.2.2.2.2.2.2.1, x.2.1.2.1.2.2.2.2.2.2.2.1, x.2.1.2.1.2.2.2.2.2.2.2.2.1, (), x.2.1.2.1.2.2.2.2.2.2.2.2.2.2.1, x.2.1.2.1.2.2.2.2.2.2.2.2.2.2.2.1, x.2.1.2.1.2.2.2.2.2.2.2.2.2.2.2.2.1, ()), ()), (x.2.2.1, ()))
noncomputable def c_impl_copyArr_29 : Code := (subN B_impl_copyArr 64 116).getD .skip
theorem a_impl_copyArr_29 : subN B_impl_copyArr 64 29 = some (.block 0 (.loop c_impl_copyArr_29)) := by kernel_rfl
theorem r_impl_copyArr_29 (x : (L_impl_copyArr_29).X) : roundT ⟨E_impl_copyArr, 31, D_impl_copyArr_0⟩ 0 c_impl_copyArr_29 116 L_impl_copyArr_29 O_impl_copyArr_29 Z_impl_copyArr_29 x = stx_impl_copyArr_29 x := by kernel_rfl
def fu_impl_copyArr_29 (x : (S_impl_copyArr_29).X) : Nat := 18446744073709551616
noncomputable def F_impl_copyArr_29 (x : (S_impl_copyArr_29).X) : Option ((O_impl_copyArr_29).X ⊕ (Z_impl_copyArr_29).X) := loopN stx_impl_copyArr_29 (fu_impl_copyArr_29 x) (em_impl_copyArr_29 x)
noncomputable def sg_impl_copyArr_29 : Seg := ⟨S_impl_copyArr_29, O_impl_copyArr_29, Z_impl_copyArr_29, F_impl_copyArr_29⟩
noncomputable def D_impl_copyArr_1 : Nat → Option Seg := fun q => bif Nat.beq q 29 then some sg_impl_copyArr_29 else D_impl_copyArr_0 q
theorem fr_impl_copyArr_1 : FrOk Try.prog ⟨E_impl_copyArr, 31, D_impl_copyArr_1⟩ B_impl_copyArr := (fr_impl_copyArr_0).loop (sg := sg_impl_copyArr_29) L_impl_copyArr_29 em_impl_copyArr_29 (by decide) a_impl_copyArr_29 stx_impl_copyArr_29 fu_impl_copyArr_29 (by decide) (fun _ => rfl) (fun x r _ h => h) r_impl_copyArr_29
abbrev I_impl_copyArr : List Par := [.rd tA]
abbrev U_impl_copyArr : List OT := [⟨false, tA, (.pr .fz (.pr (.pr .fz .fz) (.pr (.ow (.pr (.ow (.ow .fz)) (.pr (.ow (.pr .fz (.ow .fz))) (.pr .fz (.ow .fz))))) (.pr .fz (.pr .fz (.pr .fz (.pr .fz (.pr .fz (.pr (.ow (.pr .fz (.ow .fz))) (.pr .fz (.pr .fz .fz)))))))))))⟩]
noncomputable def raw_impl_copyArr (a0 : dA) : Option (ResD U_impl_copyArr × MutD I_impl_copyArr) :=
  segM (F_impl_copyArr_29 ((((), ()), ((), ()), ((), ()), (a0.2.2.2.2.2.2.2.2.1, ()), ((a0.2.2.2.2.2.2.2.2.1.length : Int), ()), ((), ()), ()), ((a0.1, a0.2.1.1, a0.2.1.2, a0.2.2.1, a0.2.2.2.1, a0.2.2.2.2.1, a0.2.2.2.2.2.1, a0.2.2.2.2.2.2.1, a0.2.2.2.2.2.2.2.1, a0.2.2.2.2.2.2.2.2.1, a0.2.2.2.2.2.2.2.2.2.1, a0.2.2.2.2.2.2.2.2.2.2.1, a0.2.2.2.2.2.2.2.2.2.2.2, ()), (0, 0, 0, (), 0, 0, 0, 0, 0, (), 0, false, false, ()), ()), (([] : List dW), ()))) (fun y2 =>
    let r4 := n_impl_copyMems y2.2.1.1.2.2.2.1
    some (((y2.2.1.1.1, (y2.2.1.1.2.1, y2.2.1.1.2.2.1), r4, y2.2.1.1.2.2.2.2.1, y2.2.1.1.2.2.2.2.2.1, y2.2.1.1.2.2.2.2.2.2.1, y2.2.1.1.2.2.2.2.2.2.2.1, y2.2.1.1.2.2.2.2.2.2.2.2.1, y2.2.2.1, y2.2.1.1.2.2.2.2.2.2.2.2.2.2.1, y2.2.1.1.2.2.2.2.2.2.2.2.2.2.2.1, y2.2.1.1.2.2.2.2.2.2.2.2.2.2.2.2.1), ()), ())) (fun y2 =>
    none)
theorem e_impl_copyArr (x : InD I_impl_copyArr) : execF ⟨E_impl_copyArr, 31, D_impl_copyArr_1⟩ Try.f66.results.toList B_impl_copyArr I_impl_copyArr U_impl_copyArr x = raw_impl_copyArr x.1 := by kernel_rfl
theorem ok0_impl_copyArr : ConOk Try.prog 66 ⟨I_impl_copyArr, U_impl_copyArr, fun x => raw_impl_copyArr x.1⟩ := conOk_exec (fr_impl_copyArr_1) Try.func66 (by kernel_rfl) (by kernel_rfl) Try.ntmps66.symm (by decide) (fun x r h => (e_impl_copyArr x).trans h)
noncomputable def n_impl_copyArr (a0 : dA) : dA := a0
theorem nn_impl_copyArr (a0 : dA) (hk : InOk I_impl_copyArr (a0, ())) : raw_impl_copyArr a0 = (fun n => some ((n, ()), ())) (n_impl_copyArr a0) := by
  have hb : a0.2.2.2.2.2.2.2.2.1.length * 32 ≤ 2 ^ 47 := hk.1.2.2.2.2.2.2.2.2.1.1
  have h1 := loopN_fold (step := stx_impl_copyArr_29) a0.2.2.2.2.2.2.2.2.1 (0, []) (fun i s => mk_impl_copyArr_29 a0.2.2.2.2.2.2.2.2.1 a0.2.2.2.2.2.2.2.2.1.length i a0 noArr s) (fun s x => s ++ [x]) (fun i s => s.length = i) (fun s => .inl (mo_impl_copyArr_29 a0 noArr s)) (fun i s hi hs => ⟨by
      simp only [stx_impl_copyArr_29, mk_impl_copyArr_29, st_impl_copyArr_29, ltb_t (show (i : Int) < a0.2.2.2.2.2.2.2.2.1.length by omega), cond_true, wr (show -9223372036854775808 ≤ (i : Int) + 1 by omega) (by omega), Int.natCast_add, Int.natCast_one, Int.toNat_natCast, inb_nat hi, nth_nat, n_impl_copyInts, pr_eta]
      rw [apok_iff.2 (show (s.length + [a0.2.2.2.2.2.2.2.2.1.getD i (0, [])].length) * 32 ≤ 140737488355328 by simp only [List.length_cons, List.length_nil]; omega)]; rfl, by simp [hs]⟩) (fun s hs => by simp only [stx_impl_copyArr_29, mk_impl_copyArr_29, st_impl_copyArr_29, ltb_f (Int.le_refl _), cond_false]) [] rfl 18446744073709551616 (by omega)
  rw [foldl_id] at h1
  unfold raw_impl_copyArr n_impl_copyArr
  rw [show F_impl_copyArr_29 (ms_impl_copyArr_29 a0.2.2.2.2.2.2.2.2.1 a0.2.2.2.2.2.2.2.2.1.length a0 noArr []) = _ from h1]; rfl
noncomputable def con_impl_copyArr : Con := ⟨I_impl_copyArr, U_impl_copyArr, fun x => (fun n => some ((n, ()), ())) (n_impl_copyArr x.1)⟩
theorem ok_impl_copyArr : ConOk Try.prog 66 con_impl_copyArr := (ok0_impl_copyArr).mono (fun x r hk h => (nn_impl_copyArr x.1 hk).trans h)
end
end Go.Tf
