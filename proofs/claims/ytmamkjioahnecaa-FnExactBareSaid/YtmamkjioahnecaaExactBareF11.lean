/- Functions of the program, and what they come to. -/
import Derived.Test.YtmamkjioahnecaaExactBareF10
namespace Go.Tf
open Go.Proofs
set_option synthInstance.maxHeartbeats 400000
set_option synthInstance.maxSize 10000
set_option linter.unusedVariables false
set_option linter.unusedSimpArgs false
set_option maxRecDepth 100000
/-! impl_sectors -/
section
noncomputable def B_impl_sectors : Code := (Try.f129.body).getD .skip
noncomputable def E_impl_sectors : Env := envOf TT [] []
theorem fr_impl_sectors_0 : FrOk Try.prog ⟨E_impl_sectors, 6, fun _ => none⟩ B_impl_sectors := frOk_base mixed tt_ok trivial
noncomputable def D_impl_sectors_0 : Nat → Option Seg := fun _ => none
abbrev I_impl_sectors : List Par := [.rd tG]
abbrev U_impl_sectors : List OT := [⟨false, tI, .fz⟩]
noncomputable def raw_impl_sectors (a0 : dG) : Option (ResD U_impl_sectors × MutD I_impl_sectors) :=
  some (((IntKind.i64.wrap (6 + a0.2)), ()), ())
theorem e_impl_sectors (x : InD I_impl_sectors) : execF ⟨E_impl_sectors, 6, D_impl_sectors_0⟩ Try.f129.results.toList B_impl_sectors I_impl_sectors U_impl_sectors x = raw_impl_sectors x.1 := by kernel_rfl
theorem ok0_impl_sectors : ConOk Try.prog 129 ⟨I_impl_sectors, U_impl_sectors, fun x => raw_impl_sectors x.1⟩ := conOk_exec (fr_impl_sectors_0) Try.func129 (by kernel_rfl) (by kernel_rfl) Try.ntmps129.symm (by decide) (fun x r h => (e_impl_sectors x).trans h)
noncomputable def n_impl_sectors (a0 : dG) : Int :=
  (IntKind.i64.wrap (6 + a0.2))
noncomputable def con_impl_sectors : Con := ⟨I_impl_sectors, U_impl_sectors, fun x => (fun n => some ((n, ()), ())) (n_impl_sectors x.1)⟩
theorem nn_impl_sectors (a0 : dG) : raw_impl_sectors a0 = (fun n => some ((n, ()), ())) (n_impl_sectors a0) := bif_ty (p := fun (n : Int) => ((n, ()), ())) rfl
theorem ok_impl_sectors : ConOk Try.prog 129 con_impl_sectors := (ok0_impl_sectors).mono (fun x r _ h => (nn_impl_sectors x.1).trans h)
end

/-! impl_ArrOk -/
section
noncomputable def B_impl_ArrOk : Code := (Try.f70.body).getD .skip
noncomputable def E_impl_ArrOk : Env := envOf TT [(121, con_impl_GeoOk), (125, con_impl_within), (126, con_impl_lostOk), (127, con_impl_dirtyOk), (128, con_impl_MemOk), (129, con_impl_sectors)] []
theorem fr_impl_ArrOk_0 : FrOk Try.prog ⟨E_impl_ArrOk, 103, fun _ => none⟩ B_impl_ArrOk := frOk_base mixed tt_ok ⟨ok_impl_GeoOk, ok_impl_within, ok_impl_lostOk, ok_impl_dirtyOk, ok_impl_MemOk, ok_impl_sectors, trivial⟩
noncomputable def D_impl_ArrOk_0 : Nat → Option Seg := fun _ => none
def L_impl_ArrOk_29 : Shape := ⟨[(1, false, [.ptr 0 0]), (41, false, [.br tM]), (42, false, [.int .i64]), (43, false, [.int .i64])], [(0, [.int .i64, .int .i64, .int .i64, .br tM, .int .i64, .int .i64, .int .i64, .int .i64, .int .i64, .br tW, .int .i64, .bool, .bool])], []⟩
def S_impl_ArrOk_29 : Shape := ⟨[(1, false, [.ptr 0 0]), (41, false, [.br tM]), (42, false, [.int .i64]), (43, false, [.ci .i64 0])], [(0, [.int .i64, .int .i64, .int .i64, .br tM, .int .i64, .int .i64, .int .i64, .int .i64, .int .i64, .br tW, .int .i64, .bool, .bool])], []⟩
def O_impl_ArrOk_29 : Shape := ⟨[(1, false, [.ptr 0 0])], [(0, [.int .i64, .int .i64, .int .i64, .br tM, .int .i64, .int .i64, .int .i64, .int .i64, .int .i64, .br tW, .int .i64, .bool, .bool])], []⟩
def Z_impl_ArrOk_29 : Shape := ⟨[(2, false, [.bool])], [], []⟩
abbrev mk_impl_ArrOk_29 (v0 : List dM) (v1 : Int) (v2 : Int) (v3 : dA) : (L_impl_ArrOk_29).X := ((((), ()), (v0, ()), (v1, ()), (v2, ()), ()), ((v3.1, v3.2.1.1, v3.2.1.2, v3.2.2.1, v3.2.2.2.1, v3.2.2.2.2.1, v3.2.2.2.2.2.1, v3.2.2.2.2.2.2.1, v3.2.2.2.2.2.2.2.1, v3.2.2.2.2.2.2.2.2.1, v3.2.2.2.2.2.2.2.2.2.1, v3.2.2.2.2.2.2.2.2.2.2.1, v3.2.2.2.2.2.2.2.2.2.2.2, ()), ()), ())
abbrev ms_impl_ArrOk_29 (v0 : List dM) (v1 : Int) (v2 : dA) : (S_impl_ArrOk_29).X := ((((), ()), (v0, ()), (v1, ()), ((), ()), ()), ((v2.1, v2.2.1.1, v2.2.1.2, v2.2.2.1, v2.2.2.2.1, v2.2.2.2.2.1, v2.2.2.2.2.2.1, v2.2.2.2.2.2.2.1, v2.2.2.2.2.2.2.2.1, v2.2.2.2.2.2.2.2.2.1, v2.2.2.2.2.2.2.2.2.2.1, v2.2.2.2.2.2.2.2.2.2.2.1, v2.2.2.2.2.2.2.2.2.2.2.2, ()), ()), ())
abbrev mo_impl_ArrOk_29 (v0 : dA) : (O_impl_ArrOk_29).X := ((((), ()), ()), ((v0.1, v0.2.1.1, v0.2.1.2, v0.2.2.1, v0.2.2.2.1, v0.2.2.2.2.1, v0.2.2.2.2.2.1, v0.2.2.2.2.2.2.1, v0.2.2.2.2.2.2.2.1, v0.2.2.2.2.2.2.2.2.1, v0.2.2.2.2.2.2.2.2.2.1, v0.2.2.2.2.2.2.2.2.2.2.1, v0.2.2.2.2.2.2.2.2.2.2.2, ()), ()), ())
abbrev mz_impl_ArrOk_29 (v0 : Bool) : (Z_impl_ArrOk_29).X := (((v0, ()), ()), (), ())
noncomputable def st_impl_ArrOk_29 (v0 : List dM) (v1 : Int) (v2 : Int) (v3 : Int) (v4 : Int) (v5 : Int) (v6 : List dM) (v7 : Int) (v8 : Int) (v9 : Int) (v10 : Int) (v11 : Int) (v12 : List dW) (v13 : Int) (v14 : Bool) (v15 : Bool) : Option ((L_impl_ArrOk_29).X ⊕ ((O_impl_ArrOk_29).X ⊕ (Z_impl_ArrOk_29).X)) :=
  bif (ltb v2 v1) then
    bif (inb v2 v0.length) then
      let r7 := n_impl_MemOk ((nth v0 v2 ([], [], false, [])).1, ((nth v0 v2 ([], [], false, [])).2).1, (((nth v0 v2 ([], [], false, [])).2).2))
      bif (!(!r7)) then
        let r8 := n_impl_sectors (v4, v5)
        bif (!((((nth v0 v2 ([], [], false, [])).1).length : Int) != r8)) then
          bif (((nth v0 v2 ([], [], false, [])).2).2).1 then
            bif (v7 != v2) then
              bif (!v15) then
                some (.inr (.inr (((false, ()), ()), (), ())))
              else
                some (.inl ((((), ()), (v0, ()), (v1, ()), ((IntKind.i64.wrap (v2 + 1)), ()), ()), ((v3, v4, v5, v6, v7, v8, v9, v10, v11, v12, v13, v14, v15, ()), ()), ()))
            else
              some (.inl ((((), ()), (v0, ()), (v1, ()), ((IntKind.i64.wrap (v2 + 1)), ()), ()), ((v3, v4, v5, v6, v7, v8, v9, v10, v11, v12, v13, v14, v15, ()), ()), ()))
          else
            some (.inl ((((), ()), (v0, ()), (v1, ()), ((IntKind.i64.wrap (v2 + 1)), ()), ()), ((v3, v4, v5, v6, v7, v8, v9, v10, v11, v12, v13, v14, v15, ()), ()), ()))
        else
          some (.inr (.inr (((false, ()), ()), (), ())))
      else
        some (.inr (.inr (((false, ()), ()), (), ())))
    else none
  else
    some (.inr (.inl ((((), ()), ()), ((v3, v4, v5, v6, v7, v8, v9, v10, v11, v12, v13, v14, v15, ()), ()), ())))
noncomputable def stx_impl_ArrOk_29 (x : (L_impl_ArrOk_29).X) := st_impl_ArrOk_29 x.1.2.1.1 x.1.2.2.1.1 x.1.2.2.2.1.1 x.2.1.1.1 x.2.1.1.2.1 x.2.1.1.2.2.1 x.2.1.1.2.2.2.1 x.2.1.1.2.2.2.2.1 x.2.1.1.2.2.2.2.2.1 x.2.1.1.2.2.2.2.2.2.1 x.2.1.1.2.2.2.2.2.2.2.1 x.2.1.1.2.2.2.2.2.2.2.2.1 x.2.1.1.2.2.2.2.2.2.2.2.2.1 x.2.1.1.2.2.2.2.2.2.2.2.2.2.1 x.2.1.1.2.2.2.2.2.2.2.2.2.2.2.1 x.2.1.1.2.2.2.2.2.2.2.2.2.2.2.2.1
def em_impl_ArrOk_29 (x : (S_impl_ArrOk_29).X) : (L_impl_ArrOk_29).X := ((((), ()), (x.1.2.1.1, ()), (x.1.2.2.1.1, ()), (0, ()), ()), ((x.2.1.1.1, x.2.1.1.2.1, x.2.1.1.2.2.1, x.2.1.1.2.2.2.1, x.2.1.1.2.2.2.2.1, x.2.1.1.2.2.2.2.2.1, x.2.1.1.2.2.2.2.2.2.1, x.2.1.1.2.2.2.2.2.2.2.1, x.2.1.1.2.2.2.2.2.2.2.2.1, x.2.1.1.2.2.2.2.2.2.2.2.2.1, x.2.1.1.2.2.2.2.2.2.2.2.2.2.1, x.2.1.1.2.2.2.2.2.2.2.2.2.2.2.1, x.2.1.1.2.2.2.2.2.2.2.2.2.2.2.2.1, ()), ()), ())
noncomputable def c_impl_ArrOk_29 : Code := (subN B_impl_ArrOk 64 116).getD .skip
theorem a_impl_ArrOk_29 : subN B_impl_ArrOk 64 29 = some (.block 0 (.loop c_impl_ArrOk_29)) := by kernel_rfl
theorem r_impl_ArrOk_29 (x : (L_impl_ArrOk_29).X) : roundT ⟨E_impl_ArrOk, 103, D_impl_ArrOk_0⟩ 0 c_impl_ArrOk_29 116 L_impl_ArrOk_29 O_impl_ArrOk_29 Z_impl_ArrOk_29 x = stx_impl_ArrOk_29 x := by kernel_rfl
noncomputable def fu_impl_ArrOk_29 (x : (S_impl_ArrOk_29).X) : Nat := (fun (u0 : List dM) (u1 : Int) (u2 : Int) (u3 : Int) (u4 : Int) (u5 : List dM) (u6 : Int) (u7 : Int) (u8 : Int) (u9 : Int) (u10 : Int) (u11 : List dW) (u12 : Int) (u13 : Bool) (u14 : Bool) => 18446744073709551616) x.1.2.1.1 x.1.2.2.1.1 x.2.1.1.1 x.2.1.1.2.1 x.2.1.1.2.2.1 x.2.1.1.2.2.2.1 x.2.1.1.2.2.2.2.1 x.2.1.1.2.2.2.2.2.1 x.2.1.1.2.2.2.2.2.2.1 x.2.1.1.2.2.2.2.2.2.2.1 x.2.1.1.2.2.2.2.2.2.2.2.1 x.2.1.1.2.2.2.2.2.2.2.2.2.1 x.2.1.1.2.2.2.2.2.2.2.2.2.2.1 x.2.1.1.2.2.2.2.2.2.2.2.2.2.2.1 x.2.1.1.2.2.2.2.2.2.2.2.2.2.2.2.1
noncomputable def F_impl_ArrOk_29 (x : (S_impl_ArrOk_29).X) : Option ((O_impl_ArrOk_29).X ⊕ (Z_impl_ArrOk_29).X) := loopN stx_impl_ArrOk_29 (fu_impl_ArrOk_29 x) (em_impl_ArrOk_29 x)
noncomputable def sg_impl_ArrOk_29 : Seg := ⟨S_impl_ArrOk_29, O_impl_ArrOk_29, Z_impl_ArrOk_29, F_impl_ArrOk_29⟩
noncomputable def D_impl_ArrOk_1 : Nat → Option Seg := fun q => bif Nat.beq q 29 then some sg_impl_ArrOk_29 else D_impl_ArrOk_0 q
theorem fr_impl_ArrOk_1 : FrOk Try.prog ⟨E_impl_ArrOk, 103, D_impl_ArrOk_1⟩ B_impl_ArrOk := (fr_impl_ArrOk_0).loop (sg := sg_impl_ArrOk_29) L_impl_ArrOk_29 em_impl_ArrOk_29 (by decide) a_impl_ArrOk_29 stx_impl_ArrOk_29 fu_impl_ArrOk_29 (by decide) (fun _ => rfl) (fun x r _ h => h) r_impl_ArrOk_29
abbrev I_impl_ArrOk : List Par := [.rd tA]
abbrev U_impl_ArrOk : List OT := [⟨false, tB, .fz⟩]
noncomputable def raw_impl_ArrOk (a0 : dA) : Option (ResD U_impl_ArrOk × MutD I_impl_ArrOk) :=
  let r1 := n_impl_GeoOk a0.2.1
  bif (!(!r1)) then
    bif (!((a0.2.2.1.length : Int) != a0.2.1.1)) then
      let r2 := n_impl_within a0.1 1 60000
      bif (!(!r2)) then
        let r3 := n_impl_lostOk a0.2.1 a0.2.2.2.1 a0.2.2.2.2.1
        bif (!(!r3)) then
          bnd (o_impl_dirtyOk a0) fun r4 =>
          bif (!r4.1.1) then
            some ((false, ()), ())
          else
            segM (F_impl_ArrOk_29 ((((), ()), (a0.2.2.1, ()), ((a0.2.2.1.length : Int), ()), ((), ()), ()), ((a0.1, a0.2.1.1, a0.2.1.2, a0.2.2.1, a0.2.2.2.1, a0.2.2.2.2.1, a0.2.2.2.2.2.1, a0.2.2.2.2.2.2.1, a0.2.2.2.2.2.2.2.1, a0.2.2.2.2.2.2.2.2.1, a0.2.2.2.2.2.2.2.2.2.1, a0.2.2.2.2.2.2.2.2.2.2.1, a0.2.2.2.2.2.2.2.2.2.2.2, ()), ()), ())) (fun y8 =>
              let r10 := n_impl_within y8.2.1.1.2.2.2.2.2.2.1 0 60000
              bif r10 then
                let r11 := n_impl_within y8.2.1.1.2.2.2.2.2.2.2.1 0 60000
                bif r11 then
                  let r12 := n_impl_within y8.2.1.1.2.2.2.2.2.2.2.2.1 0 60000
                  bif r12 then
                    let r13 := n_impl_within (IntKind.i64.wrap (y8.2.1.1.2.2.2.2.2.2.1 - y8.2.1.1.2.2.2.2.2.2.2.1)) 0 4
                    bif r13 then
                      let r14 := n_impl_within y8.2.1.1.2.2.2.2.2.2.2.2.2.2.1 (-1) 1000
                      some ((r14, ()), ())
                    else
                      some ((false, ()), ())
                  else
                    some ((false, ()), ())
                else
                  some ((false, ()), ())
              else
                some ((false, ()), ())) (fun y8 =>
              some ((y8.1.1.1, ()), ()))
        else
          some ((false, ()), ())
      else
        some ((false, ()), ())
    else
      some ((false, ()), ())
  else
    some ((false, ()), ())
theorem e_impl_ArrOk (x : InD I_impl_ArrOk) : execF ⟨E_impl_ArrOk, 103, D_impl_ArrOk_1⟩ Try.f70.results.toList B_impl_ArrOk I_impl_ArrOk U_impl_ArrOk x = raw_impl_ArrOk x.1 := by kernel_rfl
theorem ok0_impl_ArrOk : ConOk Try.prog 70 ⟨I_impl_ArrOk, U_impl_ArrOk, fun x => raw_impl_ArrOk x.1⟩ := conOk_exec (fr_impl_ArrOk_1) Try.func70 (by kernel_rfl) (by kernel_rfl) Try.ntmps70.symm (by decide) (fun x r h => (e_impl_ArrOk x).trans h)
theorem seq_fin {S T G F z TS le : Bool} (h1 : T = true → TS = true → S = true) (h2 : S = true → T = true → z = (TS && le)) :
    (bif S then bif T then bif G then bif z then some ((F, ()), ()) else some ((false, ()), ()) else some ((false, ()), ()) else some ((false, ()), ()) else some ((false, ()), ())) = some (((T && (TS && (le && (G && F)))), ()), ()) := by
  cases S
  · cases T
    · rfl
    · cases TS
      · rfl
      · exact absurd (h1 rfl rfl) Bool.false_ne_true
  · cases T
    · cases G <;> rfl
    · rw [h2 rfl rfl]
      cases TS <;> cases le <;> cases G <;> rfl
noncomputable def n_impl_ArrOk (a0 : dA) : Bool := arrOk a0
theorem nn_impl_ArrOk (a0 : dA) (hk : InOk I_impl_ArrOk (a0, ())) : raw_impl_ArrOk a0 = (fun n => some ((n, ()), ())) (n_impl_ArrOk a0) := by
  have hb : a0.2.2.1.length * 80 ≤ 2 ^ 47 := hk.1.2.2.1.1
  unfold raw_impl_ArrOk n_impl_ArrOk arrOk
  simp only [geo_eq, impl_in_eq, in_eq]
  cases hg : n_spec_GeoOk a0.2.1
  · rfl
  have hg2 := geo_iff.1 hg
  have h1 : F_impl_ArrOk_29 (ms_impl_ArrOk_29 a0.2.2.1 a0.2.2.1.length a0) = some (bif (List.range a0.2.2.1.length).any (memBad a0) then .inr (mz_impl_ArrOk_29 false) else .inl (mo_impl_ArrOk_29 a0)) :=
    loopN_all (step := stx_impl_ArrOk_29) (fun i => mk_impl_ArrOk_29 a0.2.2.1 a0.2.2.1.length i a0) a0.2.2.1.length (memBad a0) _ _ (fun i hi => by
      simp only [stx_impl_ArrOk_29, mk_impl_ArrOk_29, st_impl_ArrOk_29, ltb_t (show (i : Int) < a0.2.2.1.length by omega), cond_true, wr (show -9223372036854775808 ≤ (i : Int) + 1 by omega) (by omega), Int.natCast_add, Int.natCast_one, Int.toNat_natCast, inb_nat hi, pr_eta, n_impl_MemOk, memBad, n_impl_sectors, wr (show -9223372036854775808 ≤ 6 + a0.2.1.2 by omega) (by omega), noMem]
      rw [show (a0.2.2.2.1 != (i : Int)) = ((i : Int) != a0.2.2.2.1) from bne_comm]
      cases memOk (nth a0.2.2.1 i ([], [], false, [])) <;> cases (((nth a0.2.2.1 i ([], [], false, [])).1.length : Int) != 6 + a0.2.1.2) <;> cases (nth a0.2.2.1 i ([], [], false, [])).2.2.1 <;> cases ((i : Int) != a0.2.2.2.1) <;> cases a0.2.2.2.2.2.2.2.2.2.2.2 <;> rfl) (by simp only [stx_impl_ArrOk_29, mk_impl_ArrOk_29, st_impl_ArrOk_29, ltb_f (Int.le_refl _), cond_false]) _ (by show _ < 18446744073709551616; omega)
  rw [ot_impl_dirtyOk a0 hg, h1]
  simp only [bnd_some, n_impl_dirtyOk, n_impl_lostOk, impl_in_eq, in_eq, wr (show -9223372036854775808 ≤ a0.2.1.1 - 1 by omega) (by omega), memsOk]
  have hw : (leb 0 a0.2.2.2.2.2.1 && leb a0.2.2.2.2.2.1 60000) = true → (leb 0 a0.2.2.2.2.2.2.1 && leb a0.2.2.2.2.2.2.1 60000) = true → IntKind.i64.wrap (a0.2.2.2.2.2.1 - a0.2.2.2.2.2.2.1) = a0.2.2.2.2.2.1 - a0.2.2.2.2.2.2.1 := fun h h' => by
    rw [Bool.and_eq_true, leb_iff, leb_iff] at h h'
    exact wr (by omega) (by omega)
  simp only [bne, Bool.not_not, cond_true, Bool.true_and]
  have h2 : (leb 0 a0.2.2.2.2.2.1 && leb a0.2.2.2.2.2.1 60000) = true → (leb 0 a0.2.2.2.2.2.2.1 && leb a0.2.2.2.2.2.2.1 60000) = true → (leb 0 (IntKind.i64.wrap (a0.2.2.2.2.2.1 - a0.2.2.2.2.2.2.1)) && leb (IntKind.i64.wrap (a0.2.2.2.2.2.1 - a0.2.2.2.2.2.2.1)) 4) = ((leb a0.2.2.2.2.2.2.1 a0.2.2.2.2.2.1 && leb a0.2.2.2.2.2.1 60000) && leb a0.2.2.2.2.2.1 (a0.2.2.2.2.2.2.1 + 4)) := fun h h' => by
    rw [hw h h', Bool.eq_iff_iff]
    simp only [Bool.and_eq_true, leb_iff] at h h' ⊢
    omega
  have h3 : (leb 0 a0.2.2.2.2.2.2.1 && leb a0.2.2.2.2.2.2.1 60000) = true → (leb a0.2.2.2.2.2.2.1 a0.2.2.2.2.2.1 && leb a0.2.2.2.2.2.1 60000) = true → (leb 0 a0.2.2.2.2.2.1 && leb a0.2.2.2.2.2.1 60000) = true := fun h h' => by
    simp only [Bool.and_eq_true, leb_iff] at h h' ⊢
    omega
  cases ((a0.2.2.1.length : Int) == a0.2.1.1)
  · cases (leb 1 a0.1 && leb a0.1 60000) <;> cases (List.range a0.2.2.1.length).any (memBad a0) <;> rfl
  cases (leb 1 a0.1 && leb a0.1 60000)
  · rfl
  cases (leb (-1) a0.2.2.2.1 && leb a0.2.2.2.1 (a0.2.1.1 - 1))
  · cases (List.range a0.2.2.1.length).any (memBad a0) <;> cases dirtyOk a0.2.1 a0.2.2.2.2.2.2.2.2.1 <;> rfl
  cases (leb 0 a0.2.2.2.2.1 && leb a0.2.2.2.2.1 a0.2.1.2)
  · cases (List.range a0.2.2.1.length).any (memBad a0) <;> cases dirtyOk a0.2.1 a0.2.2.2.2.2.2.2.2.1 <;> rfl
  cases dirtyOk a0.2.1 a0.2.2.2.2.2.2.2.2.1
  · cases (List.range a0.2.2.1.length).any (memBad a0) <;> cases (a0.2.2.2.1 == -1) <;> cases (a0.2.2.2.2.1 == 0) <;> rfl
  cases (List.range a0.2.2.1.length).any (memBad a0)
  · cases (a0.2.2.2.1 == -1) <;> cases (a0.2.2.2.2.1 == 0)
    case true.false => rfl
    all_goals exact seq_fin h3 h2
  · cases (a0.2.2.2.1 == -1) <;> cases (a0.2.2.2.2.1 == 0) <;> rfl
noncomputable def con_impl_ArrOk : Con := ⟨I_impl_ArrOk, U_impl_ArrOk, fun x => (fun n => some ((n, ()), ())) (n_impl_ArrOk x.1)⟩
theorem ok_impl_ArrOk : ConOk Try.prog 70 con_impl_ArrOk := (ok0_impl_ArrOk).mono (fun x r hk h => (nn_impl_ArrOk x.1 hk).trans h)
end

/-! impl_Bare -/
section
noncomputable def B_impl_Bare : Code := (Try.f54.body).getD .skip
noncomputable def E_impl_Bare : Env := envOf TT [(31, con_impl_XorAt), (70, con_impl_ArrOk)] []
theorem fr_impl_Bare_0 : FrOk Try.prog ⟨E_impl_Bare, 29, fun _ => none⟩ B_impl_Bare := frOk_base mixed tt_ok ⟨ok_impl_XorAt, ok_impl_ArrOk, trivial⟩
noncomputable def D_impl_Bare_0 : Nat → Option Seg := fun _ => none
def L_impl_Bare_61 : Shape := ⟨[(1, false, [.ptr 0 0]), (3, false, [.int .i64]), (13, false, [.int .i64]), (14, false, [.int .i64])], [(0, [.int .i64, .int .i64, .int .i64, .br tM, .int .i64, .int .i64, .int .i64, .int .i64, .int .i64, .br tW, .int .i64, .bool, .bool])], []⟩
def S_impl_Bare_61 : Shape := ⟨[(1, false, [.ptr 0 0]), (3, false, [.ci .i64 0]), (13, false, [.int .i64]), (14, false, [.ci .i64 0])], [(0, [.int .i64, .int .i64, .int .i64, .br tM, .int .i64, .int .i64, .int .i64, .int .i64, .int .i64, .br tW, .int .i64, .bool, .bool])], []⟩
def O_impl_Bare_61 : Shape := ⟨[(3, false, [.int .i64])], [], []⟩
def Z_impl_Bare_61 : Shape := ⟨[], [], []⟩
abbrev mk_impl_Bare_61 (v0 : Int) (v1 : Int) (v2 : Int) (v3 : dA) : (L_impl_Bare_61).X := ((((), ()), (v0, ()), (v1, ()), (v2, ()), ()), ((v3.1, v3.2.1.1, v3.2.1.2, v3.2.2.1, v3.2.2.2.1, v3.2.2.2.2.1, v3.2.2.2.2.2.1, v3.2.2.2.2.2.2.1, v3.2.2.2.2.2.2.2.1, v3.2.2.2.2.2.2.2.2.1, v3.2.2.2.2.2.2.2.2.2.1, v3.2.2.2.2.2.2.2.2.2.2.1, v3.2.2.2.2.2.2.2.2.2.2.2, ()), ()), ())
abbrev ms_impl_Bare_61 (v0 : Int) (v1 : dA) : (S_impl_Bare_61).X := ((((), ()), ((), ()), (v0, ()), ((), ()), ()), ((v1.1, v1.2.1.1, v1.2.1.2, v1.2.2.1, v1.2.2.2.1, v1.2.2.2.2.1, v1.2.2.2.2.2.1, v1.2.2.2.2.2.2.1, v1.2.2.2.2.2.2.2.1, v1.2.2.2.2.2.2.2.2.1, v1.2.2.2.2.2.2.2.2.2.1, v1.2.2.2.2.2.2.2.2.2.2.1, v1.2.2.2.2.2.2.2.2.2.2.2, ()), ()), ())
abbrev mo_impl_Bare_61 (v0 : Int) : (O_impl_Bare_61).X := (((v0, ()), ()), (), ())
noncomputable def st_impl_Bare_61 (v0 : Int) (v1 : Int) (v2 : Int) (v3 : Int) (v4 : Int) (v5 : Int) (v6 : List dM) (v7 : Int) (v8 : Int) (v9 : Int) (v10 : Int) (v11 : Int) (v12 : List dW) (v13 : Int) (v14 : Bool) (v15 : Bool) : Option ((L_impl_Bare_61).X ⊕ ((O_impl_Bare_61).X ⊕ (Z_impl_Bare_61).X)) :=
  bif (ltb v2 v1) then
    let r3 := n_impl_XorAt (v3, (v4, v5), v6, v7, v8, v9, v10, v11, v12, v13, v14, v15) v2
    bif (!r3.2) then
      some (.inl ((((), ()), ((IntKind.i64.wrap (v0 + 1)), ()), (v1, ()), ((IntKind.i64.wrap (v2 + 1)), ()), ()), ((v3, v4, v5, v6, v7, v8, v9, v10, v11, v12, v13, v14, v15, ()), ()), ()))
    else
      some (.inl ((((), ()), (v0, ()), (v1, ()), ((IntKind.i64.wrap (v2 + 1)), ()), ()), ((v3, v4, v5, v6, v7, v8, v9, v10, v11, v12, v13, v14, v15, ()), ()), ()))
  else
    some (.inr (.inl (((v0, ()), ()), (), ())))
noncomputable def stx_impl_Bare_61 (x : (L_impl_Bare_61).X) := st_impl_Bare_61 x.1.2.1.1 x.1.2.2.1.1 x.1.2.2.2.1.1 x.2.1.1.1 x.2.1.1.2.1 x.2.1.1.2.2.1 x.2.1.1.2.2.2.1 x.2.1.1.2.2.2.2.1 x.2.1.1.2.2.2.2.2.1 x.2.1.1.2.2.2.2.2.2.1 x.2.1.1.2.2.2.2.2.2.2.1 x.2.1.1.2.2.2.2.2.2.2.2.1 x.2.1.1.2.2.2.2.2.2.2.2.2.1 x.2.1.1.2.2.2.2.2.2.2.2.2.2.1 x.2.1.1.2.2.2.2.2.2.2.2.2.2.2.1 x.2.1.1.2.2.2.2.2.2.2.2.2.2.2.2.1
def em_impl_Bare_61 (x : (S_impl_Bare_61).X) : (L_impl_Bare_61).X := ((((), ()), (0, ()), (x.1.2.2.1.1, ()), (0, ()), ()), ((x.2.1.1.1, x.2.1.1.2.1, x.2.1.1.2.2.1, x.2.1.1.2.2.2.1, x.2.1.1.2.2.2.2.1, x.2.1.1.2.2.2.2.2.1, x.2.1.1.2.2.2.2.2.2.1, x.2.1.1.2.2.2.2.2.2.2.1, x.2.1.1.2.2.2.2.2.2.2.2.1, x.2.1.1.2.2.2.2.2.2.2.2.2.1, x.2.1.1.2.2.2.2.2.2.2.2.2.2.1, x.2.1.1.2.2.2.2.2.2.2.2.2.2.2.1, x.2.1.1.2.2.2.2.2.2.2.2.2.2.2.2.1, ()), ()), ())
noncomputable def c_impl_Bare_61 : Code := (subN B_impl_Bare 64 244).getD .skip
theorem a_impl_Bare_61 : subN B_impl_Bare 64 61 = some (.block 0 (.loop c_impl_Bare_61)) := by kernel_rfl
theorem r_impl_Bare_61 (x : (L_impl_Bare_61).X) : roundT ⟨E_impl_Bare, 29, D_impl_Bare_0⟩ 0 c_impl_Bare_61 244 L_impl_Bare_61 O_impl_Bare_61 Z_impl_Bare_61 x = stx_impl_Bare_61 x := by kernel_rfl
noncomputable def fu_impl_Bare_61 (x : (S_impl_Bare_61).X) : Nat := (fun (u0 : Int) (u1 : Int) (u2 : Int) (u3 : Int) (u4 : List dM) (u5 : Int) (u6 : Int) (u7 : Int) (u8 : Int) (u9 : Int) (u10 : List dW) (u11 : Int) (u12 : Bool) (u13 : Bool) => 18446744073709551616) x.1.2.2.1.1 x.2.1.1.1 x.2.1.1.2.1 x.2.1.1.2.2.1 x.2.1.1.2.2.2.1 x.2.1.1.2.2.2.2.1 x.2.1.1.2.2.2.2.2.1 x.2.1.1.2.2.2.2.2.2.1 x.2.1.1.2.2.2.2.2.2.2.1 x.2.1.1.2.2.2.2.2.2.2.2.1 x.2.1.1.2.2.2.2.2.2.2.2.2.1 x.2.1.1.2.2.2.2.2.2.2.2.2.2.1 x.2.1.1.2.2.2.2.2.2.2.2.2.2.2.1 x.2.1.1.2.2.2.2.2.2.2.2.2.2.2.2.1
noncomputable def F_impl_Bare_61 (x : (S_impl_Bare_61).X) : Option ((O_impl_Bare_61).X ⊕ (Z_impl_Bare_61).X) := loopN stx_impl_Bare_61 (fu_impl_Bare_61 x) (em_impl_Bare_61 x)
noncomputable def sg_impl_Bare_61 : Seg := ⟨S_impl_Bare_61, O_impl_Bare_61, Z_impl_Bare_61, F_impl_Bare_61⟩
noncomputable def D_impl_Bare_1 : Nat → Option Seg := fun q => bif Nat.beq q 61 then some sg_impl_Bare_61 else D_impl_Bare_0 q
theorem fr_impl_Bare_1 : FrOk Try.prog ⟨E_impl_Bare, 29, D_impl_Bare_1⟩ B_impl_Bare := (fr_impl_Bare_0).loop (sg := sg_impl_Bare_61) L_impl_Bare_61 em_impl_Bare_61 (by decide) a_impl_Bare_61 stx_impl_Bare_61 fu_impl_Bare_61 (by decide) (fun _ => rfl) (fun x r _ h => h) r_impl_Bare_61
abbrev I_impl_Bare : List Par := [.rd tA]
abbrev U_impl_Bare : List OT := [⟨false, tI, .fz⟩]
noncomputable def raw_impl_Bare (a0 : dA) : Option (ResD U_impl_Bare × MutD I_impl_Bare) :=
  let r1 := n_impl_ArrOk a0
  bif (!r1) then
    some ((0, ()), ())
  else
    segM (F_impl_Bare_61 ((((), ()), ((), ()), (a0.2.1.2, ()), ((), ()), ()), ((a0.1, a0.2.1.1, a0.2.1.2, a0.2.2.1, a0.2.2.2.1, a0.2.2.2.2.1, a0.2.2.2.2.2.1, a0.2.2.2.2.2.2.1, a0.2.2.2.2.2.2.2.1, a0.2.2.2.2.2.2.2.2.1, a0.2.2.2.2.2.2.2.2.2.1, a0.2.2.2.2.2.2.2.2.2.2.1, a0.2.2.2.2.2.2.2.2.2.2.2, ()), ()), ())) (fun y3 =>
      some ((y3.1.1.1, ()), ())) (fun y3 =>
      none)
theorem e_impl_Bare (x : InD I_impl_Bare) : execF ⟨E_impl_Bare, 29, D_impl_Bare_1⟩ Try.f54.results.toList B_impl_Bare I_impl_Bare U_impl_Bare x = raw_impl_Bare x.1 := by kernel_rfl
theorem ok0_impl_Bare : ConOk Try.prog 54 ⟨I_impl_Bare, U_impl_Bare, fun x => raw_impl_Bare x.1⟩ := conOk_exec (fr_impl_Bare_1) Try.func54 (by kernel_rfl) (by kernel_rfl) Try.ntmps54.symm (by decide) (fun x r h => (e_impl_Bare x).trans h)
noncomputable def n_impl_Bare (a0 : dA) : Int := bare a0
theorem nn_impl_Bare (a0 : dA) (hk : InOk I_impl_Bare (a0, ())) : raw_impl_Bare a0 = (fun n => some ((n, ()), ())) (n_impl_Bare a0) := by
  unfold raw_impl_Bare n_impl_Bare bare n_impl_ArrOk
  cases ha : arrOk a0
  · rfl
  have hg := geo_iff.1 (arrOk_geo ha)
  have h1 : F_impl_Bare_61 (ms_impl_Bare_61 a0.2.1.2 a0) = some (.inl (mo_impl_Bare_61 ((lacks (fun (s : Nat) => (xorAt a0 s).2) a0.2.1.2.toNat : Nat) : Int))) :=
    loopN_up (step := stx_impl_Bare_61) (fun i => mk_impl_Bare_61 ((lacks (fun (s : Nat) => (xorAt a0 s).2) i : Nat) : Int) a0.2.1.2 i a0) a0.2.1.2.toNat _ (fun i hi => by
      have := lacks_le (fun (s : Nat) => (xorAt a0 s).2) i
      simp only [stx_impl_Bare_61, mk_impl_Bare_61, st_impl_Bare_61, ltb_t (show (i : Int) < a0.2.1.2 by omega), cond_true, wr (show -9223372036854775808 ≤ (i : Int) + 1 by omega) (by omega), Int.natCast_add, Int.natCast_one, Int.toNat_natCast, pr_eta, n_impl_XorAt, lacks_succ, wr (show -9223372036854775808 ≤ ((lacks (fun (s : Nat) => (xorAt a0 s).2) i : Nat) : Int) + 1 by omega) (by omega)]
      cases (xorAt a0 i).2 <;> rfl) (by simp only [stx_impl_Bare_61, mk_impl_Bare_61, st_impl_Bare_61, ltb_f (show a0.2.1.2 ≤ (a0.2.1.2.toNat : Int) by omega), cond_false]) _ (by show _ < 18446744073709551616; omega)
  rw [h1]; rfl
noncomputable def con_impl_Bare : Con := ⟨I_impl_Bare, U_impl_Bare, fun x => (fun n => some ((n, ()), ())) (n_impl_Bare x.1)⟩
theorem ok_impl_Bare : ConOk Try.prog 54 con_impl_Bare := (ok0_impl_Bare).mono (fun x r hk h => (nn_impl_Bare x.1 hk).trans h)
end

/-! laws_FnExactBare -/
section
noncomputable def B_laws_FnExactBare : Code := (Try.f10.body).getD .skip
noncomputable def E_laws_FnExactBare : Env := envOf TT [(25, con_laws_szArr), (27, con_laws_toArr), (29, con_laws_eqArr), (53, con_spec_Bare), (54, con_impl_Bare)] []
theorem fr_laws_FnExactBare_0 : FrOk Try.prog ⟨E_laws_FnExactBare, 27, fun _ => none⟩ B_laws_FnExactBare := frOk_base mixed tt_ok ⟨ok_laws_szArr, ok_laws_toArr, ok_laws_eqArr, ok_spec_Bare, ok_impl_Bare, trivial⟩
noncomputable def D_laws_FnExactBare_0 : Nat → Option Seg := fun _ => none
abbrev I_laws_FnExactBare : List Par := [.rd tA]
abbrev U_laws_FnExactBare : List OT := [⟨false, tB, .fz⟩]
noncomputable def raw_laws_FnExactBare (a0 : dA) : Option (ResD U_laws_FnExactBare × MutD I_laws_FnExactBare) :=
  let r1 := n_laws_szArr a0 1048576
  bif (ltb r1 0) then
    some ((true, ()), ())
  else
    let r2 := n_laws_toArr a0
    let r3 := n_spec_Bare r2
    let r4 := n_laws_toArr a0
    let r5 := n_impl_Bare r4
    bif (r5 != r3) then
      some ((false, ()), ())
    else
      let r6 := n_laws_toArr a0
      let r7 := n_laws_eqArr r4 r6
      bif (!r7) then
        some ((false, ()), ())
      else
        some ((true, ()), ())
theorem e_laws_FnExactBare (x : InD I_laws_FnExactBare) : execF ⟨E_laws_FnExactBare, 27, D_laws_FnExactBare_0⟩ Try.f10.results.toList B_laws_FnExactBare I_laws_FnExactBare U_laws_FnExactBare x = raw_laws_FnExactBare x.1 := by kernel_rfl
theorem ok0_laws_FnExactBare : ConOk Try.prog 10 ⟨I_laws_FnExactBare, U_laws_FnExactBare, fun x => raw_laws_FnExactBare x.1⟩ := conOk_exec (fr_laws_FnExactBare_0) Try.func10 (by kernel_rfl) (by kernel_rfl) Try.ntmps10.symm (by decide) (fun x r h => (e_laws_FnExactBare x).trans h)
noncomputable def n_laws_FnExactBare (a0 : dA) : Bool := true
theorem nn_laws_FnExactBare (a0 : dA) (hk : InOk I_laws_FnExactBare (a0, ())) : raw_laws_FnExactBare a0 = (fun n => some ((n, ()), ())) (n_laws_FnExactBare a0) := by
  unfold raw_laws_FnExactBare n_laws_FnExactBare n_impl_Bare n_spec_Bare
  simp only [id_laws_toArr, bne_self_eq_false, Bool.not_true, cond_false, eqr_laws_eqArr]
  cases ltb (n_laws_szArr a0 1048576) 0 <;> rfl
noncomputable def con_laws_FnExactBare : Con := ⟨I_laws_FnExactBare, U_laws_FnExactBare, fun x => (fun n => some ((n, ()), ())) (n_laws_FnExactBare x.1)⟩
theorem ok_laws_FnExactBare : ConOk Try.prog 10 con_laws_FnExactBare := (ok0_laws_FnExactBare).mono (fun x r hk h => (nn_laws_FnExactBare x.1 hk).trans h)
end
end Go.Tf
