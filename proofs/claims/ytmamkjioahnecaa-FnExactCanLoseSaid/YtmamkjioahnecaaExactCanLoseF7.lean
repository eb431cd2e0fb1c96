/- Functions of the program, and what they come to. -/
import Derived.Test.YtmamkjioahnecaaExactCanLoseF6
namespace Go.Tf
open Go.Proofs
set_option synthInstance.maxHeartbeats 400000
set_option synthInstance.maxSize 10000
set_option linter.unusedVariables false
set_option linter.unusedSimpArgs false
set_option maxRecDepth 100000
/-! impl_sectors -/
section
noncomputable def B_impl_sectors : Code := (Try.f129.body).getD .skip
noncomputable def E_impl_sectors : Env := envOf TT [] []
theorem fr_impl_sectors_0 : FrOk Try.prog ⟨E_impl_sectors, 6, fun _ => none⟩ B_impl_sectors := frOk_base mixed tt_ok trivial
noncomputable def D_impl_sectors_0 : Nat → Option Seg := fun _ => none
abbrev I_impl_sectors : List Par := [.rd tG]
abbrev U_impl_sectors : List OT := [⟨false, tI, .fz⟩]
noncomputable def raw_impl_sectors (a0 : dG) : Option (ResD U_impl_sectors × MutD I_impl_sectors) :=
  some (((IntKind.i64.wrap (6 + a0.2)), ()), ())
theorem e_impl_sectors (x : InD I_impl_sectors) : execF ⟨E_impl_sectors, 6, D_impl_sectors_0⟩ Try.f129.results.toList B_impl_sectors I_impl_sectors U_impl_sectors x = raw_impl_sectors x.1 := by kernel_rfl
theorem ok0_impl_sectors : ConOk Try.prog 129 ⟨I_impl_sectors, U_impl_sectors, fun x => raw_impl_sectors x.1⟩ := conOk_exec (fr_impl_sectors_0) Try.func129 (by kernel_rfl) (by kernel_rfl) Try.ntmps129.symm (by decide) (fun x r h => (e_impl_sectors x).trans h)
noncomputable def n_impl_sectors (a0 : dG) : Int :=
  (IntKind.i64.wrap (6 + a0.2))
noncomputable def con_impl_sectors : Con := ⟨I_impl_sectors, U_impl_sectors, fun x => (fun n => some ((n, ()), ())) (n_impl_sectors x.1)⟩
theorem nn_impl_sectors (a0 : dG) : raw_impl_sectors a0 = (fun n => some ((n, ()), ())) (n_impl_sectors a0) := bif_ty (p := fun (n : Int) => ((n, ()), ())) rfl
theorem ok_impl_sectors : ConOk Try.prog 129 con_impl_sectors := (ok0_impl_sectors).mono (fun x r _ h => (nn_impl_sectors x.1).trans h)
end

/-! impl_ArrOk -/
section
noncomputable def B_impl_ArrOk : Code := (Try.f70.body).getD .skip
noncomputable def E_impl_ArrOk : Env := envOf TT [(121, con_impl_GeoOk), (125, con_impl_within), (126, con_impl_lostOk), (127, con_impl_dirtyOk), (128, con_impl_MemOk), (129, con_impl_sectors)] []
theorem fr_impl_ArrOk_0 : FrOk Try.prog ⟨E_impl_ArrOk, 103, fun _ => none⟩ B_impl_ArrOk := frOk_base mixed tt_ok ⟨ok_impl_GeoOk, ok_impl_within, ok_impl_lostOk, ok_impl_dirtyOk, ok_impl_MemOk, ok_impl_sectors, trivial⟩
noncomputable def D_impl_ArrOk_0 : Nat → Option Seg := fun _ => none
def L_impl_ArrOk_29 : Shape := ⟨[(1, false, [.ptr 0 0]), (41, false, [.br tM]), (42, false, [.int .i64]), (43, false, [.int .i64])], [(0, [.int .i64, .int .i64, .int .i64, .br tM, .int .i64, .int .i64, .int .i64, .int .i64, .int .i64, .br tW, .int .i64, .bool, .bool])], []⟩
def S_impl_ArrOk_29 : Shape := ⟨[(1, false, [.ptr 0 0]), (41, false, [.br tM]), (42, false, [.int .i64]), (43, false, [.ci .i64 0])], [(0, [.int .i64, .int .i64, .int .i64, .br tM, .int .i64, .int .i64, .int .i64, .int .i64, .int .i64, .br tW, .int .i64, .bool, .bool])], []⟩
def O_impl_ArrOk_29 : Shape := ⟨[(1, false, [.ptr 0 0])], [(0, [.int .i64, .int .i64, .int .i64, .br tM, .int .i64, .int .i64, .int .i64, .int .i64, .int .i64, .br tW, .int .i64, .bool, .bool])], []⟩
def Z_impl_ArrOk_29 : Shape := ⟨[(2, false, [.bool])], [], []⟩
abbrev mk_impl_ArrOk_29 (v0 : List dM) (v1 : Int) (v2 : Int) (v3 : dA) : (L_impl_ArrOk_29).X := ((((), ()), (v0, ()), (v1, ()), (v2, ()), ()), ((v3.1, v3.2.1.1, v3.2.1.2, v3.2.2.1, v3.2.2.2.1, v3.2.2.2.2.1, v3.2.2.2.2.2.1, v3.2.2.2.2.2.2.1, v3.2.2.2.2.2.2.2.1, v3.2.2.2.2.2.2.2.2.1, v3.2.2.2.2.2.2.2.2.2.1, v3.2.2.2.2.2.2.2.2.2.2.1, v3.2.2.2.2.2.2.2.2.2.2.2, ()), ()), ())
abbrev ms_impl_ArrOk_29 (v0 : List dM) (v1 : Int) (v2 : dA) : (S_impl_ArrOk_29).X := ((((), ()), (v0, ()), (v1, ()), ((), ()), ()), ((v2.1, v2.2.1.1, v2.2.1.2, v2.2.2.1, v2.2.2.2.1, v2.2.2.2.2.1, v2.2.2.2.2.2.1, v2.2.2.2.2.2.2.1, v2.2.2.2.2.2.2.2.1, v2.2.2.2.2.2.2.2.2.1, v2.2.2.2.2.2.2.2.2.2.1, v2.2.2.2.2.2.2.2.2.2.2.1, v2.2.2.2.2.2.2.2.2.2.2.2, ()), ()), ())
abbrev mo_impl_ArrOk_29 (v0 : dA) : (O_impl_ArrOk_29).X := ((((), ()), ()), ((v0.1, v0.2.1.1, v0.2.1.2, v0.2.2.1, v0.2.2.2.1, v0.2.2.2.2.1, v0.2.2.2.2.2.1, v0.2.2.2.2.2.2.1, v0.2.2.2.2.2.2.2.1, v0.2.2.2.2.2.2.2.2.1, v0.2.2.2.2.2.2.2.2.2.1, v0.2.2.2.2.2.2.2.2.2.2.1, v0.2.2.2.2.2.2.2.2.2.2.2, ()), ()), ())
abbrev mz_impl_ArrOk_29 (v0 : Bool) : (Z_impl_ArrOk_29).X := (((v0, ()), ()), (), ())
noncomputable def st_impl_ArrOk_29 (v0 : List dM) (v1 : Int) (v2 : Int) (v3 : Int) (v4 : Int) (v5 : Int) (v6 : List dM) (v7 : Int) (v8 : Int) (v9 : Int) (v10 : Int) (v11 : Int) (v12 : List dW) (v13 : Int) (v14 : Bool) (v15 : Bool) : Option ((L_impl_ArrOk_29).X ⊕ ((O_impl_ArrOk_29).X ⊕ (Z_impl_ArrOk_29).X)) :=
  bif (ltb v2 v1) then
    bif (inb v2 v0.length) then
      let r7 := n_impl_MemOk ((nth v0 v2 ([], [], false, [])).1, ((nth v0 v2 ([], [], false, [])).2).1, (((nth v0 v2 ([], [], false, [])).2).2))
      bif (!(!r7)) then
        let r8 := n_impl_sectors (v4, v5)
        bif (!((((nth v0 v2 ([], [], false, [])).1).length : Int) != r8)) then
          bif (((nth v0 v2 ([], [], false, [])).2).2).1 then
            bif (v7 != v2) then
              bif (!v15) then
                some (.inr (.inr (((false, ()), ()), (), ())))
              else
                some (.inl ((((), ()), (v0, ()), (v1, ()), ((IntKind.i64.wrap (v2 + 1)), ()), ()), ((v3, v4, v5, v6, v7, v8, v9, v10, v11, v12, v13, v14, v15, ()), ()), ()))
            else
              some (.inl ((((), ()), (v0, ()), (v1, ()), ((IntKind.i64.wrap (v2 + 1)), ()), ()), ((v3, v4, v5, v6, v7, v8, v9, v10, v11, v12, v13, v14, v15, ()), ()), ()))
          else
            some (.inl ((((), ()), (v0, ()), (v1, ()), ((IntKind.i64.wrap (v2 + 1)), ()), ()), ((v3, v4, v5, v6, v7, v8, v9, v10, v11, v12, v13, v14, v15, ()), ()), ()))
        else
          some (.inr (.inr (((false, ()), ()), (), ())))
      else
        some (.inr (.inr (((false, ()), ()), (), ())))
    else none
  else
    some (.inr (.inl ((((), ()), ()), ((v3, v4, v5, v6, v7, v8, v9, v10, v11, v12, v13, v14, v15, ()), ()), ())))
noncomputable def stx_impl_ArrOk_29 (x : (L_impl_ArrOk_29).X) := st_impl_ArrOk_29 x.1.2.1.1 x.1.2.2.1.1 x.1.2.2.2.1.1 x.2.1.1.1 x.2.1.1.2.1 x.2.1.1.2.2.1 x.2.1.1.2.2.2.1 x.2.1.1.2.2.2.2.1 x.2.1.1.2.2.2.2.2.1 x.2.1.1.2.2.2.2.2.2.1 x.2.1.1.2.2.2.2.2.2.2.1 x.2.1.1.2.2.2.2.2.2.2.2.1 x.2.1.1.2.2.2.2.2.2.2.2.2.1 x.2.1.1.2.2.2.2.2.2.2.2.2.2.1 x.2.1.1.2.2.2.2.2.2.2.2.2.2.2.1 x.2.1.1.2.2.2.2.2.2.2.2.2.2.2.2.1
def em_impl_ArrOk_29 (x : (S_impl_ArrOk_29).X) : (L_impl_ArrOk_29).X := ((((), ()), (x.1.2.1.1, ()), (x.1.2.2.1.1, ()), (0, ()), ()), ((x.2.1.1.1, x.2.1.1.2.1, x.2.1.1.2.2.1, x.2.1.1.2.2.2.1, x.2.1.1.2.2.2.2.1, x.2.1.1.2.2.2.2.2.1, x.2.1.1.2.2.2.2.2.2.1, x.2.1.1.2.2.2.2.2.2.2.1, x.2.1.1.2.2.2.2.2.2.2.2.1, x.2.1.1.2.2.2.2.2.2.2.2.2.1, x.2.1.1.2.2.2.2.2.2.2.2.2.2.1, x.2.1.1.2.2.2.2.2.2.2.2.2.2.2.1, x.2.1.1.2.2.2.2.2.2.2.2.2.2.2.2.1, ()), ()), ())
noncomputable def c_impl_ArrOk_29 : Code := (subN B_impl_ArrOk 64 116).getD .skip
theorem a_impl_ArrOk_29 : subN B_impl_ArrOk 64 29 = some (.block 0 (.loop c_impl_ArrOk_29)) := by kernel_rfl
theorem r_impl_ArrOk_29 (x : (L_impl_ArrOk_29).X) : roundT ⟨E_impl_ArrOk, 103, D_impl_ArrOk_0⟩ 0 c_impl_ArrOk_29 116 L_impl_ArrOk_29 O_impl_ArrOk_29 Z_impl_ArrOk_29 x = stx_impl_ArrOk_29 x := by kernel_rfl
noncomputable def fu_impl_ArrOk_29 (x : (S_impl_ArrOk_29).X) : Nat := (fun (u0 : List dM) (u1 : Int) (u2 : Int) (u3 : Int) (u4 : Int) (u5 : List dM) (u6 : Int) (u7 : Int) (u8 : Int) (u9 : Int) (u10 : Int) (u11 : List dW) (u12 : Int) (u13 : Bool) (u14 : Bool) => 18446744073709551616) x.1.2.1.1 x.1.2.2.1.1 x.2.1.1.1 x.2.1.1.2.1 x.2.1.1.2.2.1 x.2.1.1.2.2.2.1 x.2.1.1.2.2.2.2.1 x.2.1.1.2.2.2.2.2.1 x.2.1.1.2.2.2.2.2.2.1 x.2.1.1.2.2.2.2.2.2.2.1 x.2.1.1.2.2.2.2.2.2.2.2.1 x.2.1.1.2.2.2.2.2.2.2.2.2.1 x.2.1.1.2.2.2.2.2.2.2.2.2.2.1 x.2.1.1.2.2.2.2.2.2.2.2.2.2.2.1 x.2.1.1.2.2.2.2.2.2.2.2.2.2.2.2.1
noncomputable def F_impl_ArrOk_29 (x : (S_impl_ArrOk_29).X) : Option ((O_impl_ArrOk_29).X ⊕ (Z_impl_ArrOk_29).X) := loopN stx_impl_ArrOk_29 (fu_impl_ArrOk_29 x) (em_impl_ArrOk_29 x)
noncomputable def sg_impl_ArrOk_29 : Seg := ⟨S_impl_ArrOk_29, O_impl_ArrOk_29, Z_impl_ArrOk_29, F_impl_ArrOk_29⟩
noncomputable def D_impl_ArrOk_1 : Nat → Option Seg := fun q => bif Nat.beq q 29 then some sg_impl_ArrOk_29 else D_impl_ArrOk_0 q
theorem fr_impl_ArrOk_1 : FrOk Try.prog ⟨E_impl_ArrOk, 103, D_impl_ArrOk_1⟩ B_impl_ArrOk := (fr_impl_ArrOk_0).loop (sg := sg_impl_ArrOk_29) L_impl_ArrOk_29 em_impl_ArrOk_29 (by decide) a_impl_ArrOk_29 stx_impl_ArrOk_29 fu_impl_ArrOk_29 (by decide) (fun _ => rfl) (fun x r _ h => h) r_impl_ArrOk_29
abbrev I_impl_ArrOk : List Par := [.rd tA]
abbrev U_impl_ArrOk : List OT := [⟨false, tB, .fz⟩]
noncomputable def raw_impl_ArrOk (a0 : dA) : Option (ResD U_impl_ArrOk × MutD I_impl_ArrOk) :=
  let r1 := n_impl_GeoOk a0.2.1
  bif (!(!r1)) then
    bif (!((a0.2.2.1.length : Int) != a0.2.1.1)) then
      let r2 := n_impl_within a0.1 1 60000
      bif (!(!r2)) then
        let r3 := n_impl_lostOk a0.2.1 a0.2.2.2.1 a0.2.2.2.2.1
        bif (!(!r3)) then
          bnd (o_impl_dirtyOk a0) fun r4 =>
          bif (!r4.1.1) then
            some ((false, ()), ())
          else
            segM (F_impl_ArrOk_29 ((((), ()), (a0.2.2.1, ()), ((a0.2.2.1.length : Int), ()), ((), ()), ()), ((a0.1, a0.2.1.1, a0.2.1.2, a0.2.2.1, a0.2.2.2.1, a0.2.2.2.2.1, a0.2.2.2.2.2.1, a0.2.2.2.2.2.2.1, a0.2.2.2.2.2.2.2.1, a0.2.2.2.2.2.2.2.2.1, a0.2.2.2.2.2.2.2.2.2.1, a0.2.2.2.2.2.2.2.2.2.2.1, a0.2.2.2.2.2.2.2.2.2.2.2, ()), ()), ())) (fun y8 =>
              let r10 := n_impl_within y8.2.1.1.2.2.2.2.2.2.1 0 60000
              bif r10 then
                let r11 := n_impl_within y8.2.1.1.2.2.2.2.2.2.2.1 0 60000
                bif r11 then
                  let r12 := n_impl_within y8.2.1.1.2.2.2.2.2.2.2.2.1 0 60000
                  bif r12 then
                    let r13 := n_impl_within (IntKind.i64.wrap (y8.2.1.1.2.2.2.2.2.2.1 - y8.2.1.1.2.2.2.2.2.2.2.1)) 0 4
                    bif r13 then
                      let r14 := n_impl_within y8.2.1.1.2.2.2.2.2.2.2.2.2.2.1 (-1) 1000
                      some ((r14, ()), ())
                    else
                      some ((false, ()), ())
                  else
                    some ((false, ()), ())
                else
                  some ((false, ()), ())
              else
                some ((false, ()), ())) (fun y8 =>
              some ((y8.1.1.1, ()), ()))
        else
          some ((false, ()), ())
      else
        some ((false, ()), ())
    else
      some ((false, ()), ())
  else
    some ((false, ()), ())
theorem e_impl_ArrOk (x : InD I_impl_ArrOk) : execF ⟨E_impl_ArrOk, 103, D_impl_ArrOk_1⟩ Try.f70.results.toList B_impl_ArrOk I_impl_ArrOk U_impl_ArrOk x = raw_impl_ArrOk x.1 := by kernel_rfl
theorem ok0_impl_ArrOk : ConOk Try.prog 70 ⟨I_impl_ArrOk, U_impl_ArrOk, fun x => raw_impl_ArrOk x.1⟩ := conOk_exec (fr_impl_ArrOk_1) Try.func70 (by kernel_rfl) (by kernel_rfl) Try.ntmps70.symm (by decide) (fun x r h => (e_impl_ArrOk x).trans h)
theorem seq_fin {S T G F z TS le : Bool} (h1 : T = true → TS = true → S = true) (h2 : S = true → T = true → z = (TS && le)) :
    (bif S then bif T then bif G then bif z then some ((F, ()), ()) else some ((false, ()), ()) else some ((false, ()), ()) else some ((false, ()), ()) else some ((false, ()), ())) = some (((T && (TS && (le && (G && F)))), ()), ()) := by
  cases S
  · cases T
    · rfl
    · cases TS
      · rfl
      · exact absurd (h1 rfl rfl) Bool.false_ne_true
  · cases T
    · cases G <;> rfl
    · rw [h2 rfl rfl]
      cases TS <;> cases le <;> cases G <;> rfl
noncomputable def n_impl_ArrOk (a0 : dA) : Bool := arrOk a0
theorem nn_impl_ArrOk (a0 : dA) (hk : InOk I_impl_ArrOk (a0, ())) : raw_impl_ArrOk a0 = (fun n => some ((n, ()), ())) (n_impl_ArrOk a0) := by
  have hb : a0.2.2.1.length * 80 ≤ 2 ^ 47 := hk.1.2.2.1.1
  unfold raw_impl_ArrOk n_impl_ArrOk arrOk
  simp only [geo_eq, impl_in_eq, in_eq]
  cases hg : n_spec_GeoOk a0.2.1
  · rfl
  have hg2 := geo_iff.1 hg
  have h1 : F_impl_ArrOk_29 (ms_impl_ArrOk_29 a0.2.2.1 a0.2.2.1.length a0) = some (bif (List.range a0.2.2.1.length).any (memBad a0) then .inr (mz_impl_ArrOk_29 false) else .inl (mo_impl_ArrOk_29 a0)) :=
    loopN_all (step := stx_impl_ArrOk_29) (fun i => mk_impl_ArrOk_29 a0.2.2.1 a0.2.2.1.length i a0) a0.2.2.1.length (memBad a0) _ _ (fun i hi => by
      simp only [stx_impl_ArrOk_29, mk_impl_ArrOk_29, st_impl_ArrOk_29, ltb_t (show (i : Int) < a0.2.2.1.length by omega), cond_true, wr (show -9223372036854775808 ≤ (i : Int) + 1 by omega) (by omega), Int.natCast_add, Int.natCast_one, Int.toNat_natCast, inb_nat hi, pr_eta, n_impl_MemOk, memBad, n_impl_sectors, wr (show -9223372036854775808 ≤ 6 + a0.2.1.2 by omega) (by omega), noMem]
      rw [show (a0.2.2.2.1 != (i : Int)) = ((i : Int) != a0.2.2.2.1) from bne_comm]
      cases memOk (nth a0.2.2.1 i ([], [], false, [])) <;> cases (((nth a0.2.2.1 i ([], [], false, [])).1.length : Int) != 6 + a0.2.1.2) <;> cases (nth a0.2.2.1 i ([], [], false, [])).2.2.1 <;> cases ((i : Int) != a0.2.2.2.1) <;> cases a0.2.2.2.2.2.2.2.2.2.2.2 <;> rfl) (by simp only [stx_impl_ArrOk_29, mk_impl_ArrOk_29, st_impl_ArrOk_29, ltb_f (Int.le_refl _), cond_false]) _ (by show _ < 18446744073709551616; omega)
  rw [ot_impl_dirtyOk a0 hg, h1]
  simp only [bnd_some, n_impl_dirtyOk, n_impl_lostOk, impl_in_eq, in_eq, wr (show -9223372036854775808 ≤ a0.2.1.1 - 1 by omega) (by omega), memsOk]
  have hw : (leb 0 a0.2.2.2.2.2.1 && leb a0.2.2.2.2.2.1 60000) = true → (leb 0 a0.2.2.2.2.2.2.1 && leb a0.2.2.2.2.2.2.1 60000) = true → IntKind.i64.wrap (a0.2.2.2.2.2.1 - a0.2.2.2.2.2.2.1) = a0.2.2.2.2.2.1 - a0.2.2.2.2.2.2.1 := fun h h' => by
    rw [Bool.and_eq_true, leb_iff, leb_iff] at h h'
    exact wr (by omega) (by omega)
  simp only [bne, Bool.not_not, cond_true, Bool.true_and]
  have h2 : (leb 0 a0.2.2.2.2.2.1 && leb a0.2.2.2.2.2.1 60000) = true → (leb 0 a0.2.2.2.2.2.2.1 && leb a0.2.2.2.2.2.2.1 60000) = true → (leb 0 (IntKind.i64.wrap (a0.2.2.2.2.2.1 - a0.2.2.2.2.2.2.1)) && leb (IntKind.i64.wrap (a0.2.2.2.2.2.1 - a0.2.2.2.2.2.2.1)) 4) = ((leb a0.2.2.2.2.2.2.1 a0.2.2.2.2.2.1 && leb a0.2.2.2.2.2.1 60000) && leb a0.2.2.2.2.2.1 (a0.2.2.2.2.2.2.1 + 4)) := fun h h' => by
    rw [hw h h', Bool.eq_iff_iff]
    simp only [Bool.and_eq_true, leb_iff] at h h' ⊢
    omega
  have h3 : (leb 0 a0.2.2.2.2.2.2.1 && leb a0.2.2.2.2.2.2.1 60000) = true → (leb a0.2.2.2.2.2.2.1 a0.2.2.2.2.2.1 && leb a0.2.2.2.2.2.1 60000) = true → (leb 0 a0.2.2.2.2.2.1 && leb a0.2.2.2.2.2.1 60000) = true := fun h h' => by
    simp only [Bool.and_eq_true, leb_iff] at h h' ⊢
    omega
  cases ((a0.2.2.1.length : Int) == a0.2.1.1)
  · cases (leb 1 a0.1 && leb a0.1 60000) <;> cases (List.range a0.2.2.1.length).any (memBad a0) <;> rfl
  cases (leb 1 a0.1 && leb a0.1 60000)
  · rfl
  cases (leb (-1) a0.2.2.2.1 && leb a0.2.2.2.1 (a0.2.1.1 - 1))
  · cases (List.range a0.2.2.1.length).any (memBad a0) <;> cases dirtyOk a0.2.1 a0.2.2.2.2.2.2.2.2.1 <;> rfl
  cases (leb 0 a0.2.2.2.2.1 && leb a0.2.2.2.2.1 a0.2.1.2)
  · cases (List.range a0.2.2.1.length).any (memBad a0) <;> cases dirtyOk a0.2.1 a0.2.2.2.2.2.2.2.2.1 <;> rfl
  cases dirtyOk a0.2.1 a0.2.2.2.2.2.2.2.2.1
  · cases (List.range a0.2.2.1.length).any (memBad a0) <;> cases (a0.2.2.2.1 == -1) <;> cases (a0.2.2.2.2.1 == 0) <;> rfl
  cases (List.range a0.2.2.1.length).any (memBad a0)
  · cases (a0.2.2.2.1 == -1) <;> cases (a0.2.2.2.2.1 == 0)
    case true.false => rfl
    all_goals exact seq_fin h3 h2
  · cases (a0.2.2.2.1 == -1) <;> cases (a0.2.2.2.2.1 == 0) <;> rfl
noncomputable def con_impl_ArrOk : Con := ⟨I_impl_ArrOk, U_impl_ArrOk, fun x => (fun n => some ((n, ()), ())) (n_impl_ArrOk x.1)⟩
theorem ok_impl_ArrOk : ConOk Try.prog 70 con_impl_ArrOk := (ok0_impl_ArrOk).mono (fun x r hk h => (nn_impl_ArrOk x.1 hk).trans h)
end

/-! impl_hasDisk -/
section
noncomputable def B_impl_hasDisk : Code := (Try.f86.body).getD .skip
noncomputable def E_impl_hasDisk : Env := envOf TT [(125, con_impl_within)] []
theorem fr_impl_hasDisk_0 : FrOk Try.prog ⟨E_impl_hasDisk, 11, fun _ => none⟩ B_impl_hasDisk := frOk_base mixed tt_ok ⟨ok_impl_within, trivial⟩
noncomputable def D_impl_hasDisk_0 : Nat → Option Seg := fun _ => none
abbrev I_impl_hasDisk : List Par := [.rd tA, .rd tI]
abbrev U_impl_hasDisk : List OT := [⟨false, tB, .fz⟩]
noncomputable def raw_impl_hasDisk (a0 : dA) (a1 : Int) : Option (ResD U_impl_hasDisk × MutD I_impl_hasDisk) :=
  let r1 := n_impl_within a1 0 (IntKind.i64.wrap ((a0.2.2.1.length : Int) - 1))
  some ((r1, ()), ())
theorem e_impl_hasDisk (x : InD I_impl_hasDisk) : execF ⟨E_impl_hasDisk, 11, D_impl_hasDisk_0⟩ Try.f86.results.toList B_impl_hasDisk I_impl_hasDisk U_impl_hasDisk x = raw_impl_hasDisk x.1 x.2.1 := by kernel_rfl
theorem ok0_impl_hasDisk : ConOk Try.prog 86 ⟨I_impl_hasDisk, U_impl_hasDisk, fun x => raw_impl_hasDisk x.1 x.2.1⟩ := conOk_exec (fr_impl_hasDisk_0) Try.func86 (by kernel_rfl) (by kernel_rfl) Try.ntmps86.symm (by decide) (fun x r h => (e_impl_hasDisk x).trans h)
noncomputable def n_impl_hasDisk (a0 : dA) (a1 : Int) : Bool :=
  let r1 := n_impl_within a1 0 (IntKind.i64.wrap ((a0.2.2.1.length : Int) - 1))
  r1
noncomputable def con_impl_hasDisk : Con := ⟨I_impl_hasDisk, U_impl_hasDisk, fun x => (fun n => some ((n, ()), ())) (n_impl_hasDisk x.1 x.2.1)⟩
theorem nn_impl_hasDisk (a0 : dA) (a1 : Int) : raw_impl_hasDisk a0 a1 = (fun n => some ((n, ()), ())) (n_impl_hasDisk a0 a1) := bif_ty (p := fun (n : Bool) => ((n, ()), ())) rfl
theorem ok_impl_hasDisk : ConOk Try.prog 86 con_impl_hasDisk := (ok0_impl_hasDisk).mono (fun x r _ h => (nn_impl_hasDisk x.1 x.2.1).trans h)
end

/-! impl_DataAt -/
section
noncomputable def B_impl_DataAt : Code := (Try.f144.body).getD .skip
noncomputable def E_impl_DataAt : Env := envOf TT [(125, con_impl_within)] []
theorem fr_impl_DataAt_0 : FrOk Try.prog ⟨E_impl_DataAt, 9, fun _ => none⟩ B_impl_DataAt := frOk_base mixed tt_ok ⟨ok_impl_within, trivial⟩
noncomputable def D_impl_DataAt_0 : Nat → Option Seg := fun _ => none
abbrev I_impl_DataAt : List Par := [.rd tI]
abbrev U_impl_DataAt : List OT := [⟨false, tI, .fz⟩]
noncomputable def raw_impl_DataAt (a0 : Int) : Option (ResD U_impl_DataAt × MutD I_impl_DataAt) :=
  let r1 := n_impl_within a0 0 1099511627776
  bif (!r1) then
    some (((-1), ()), ())
  else
    some (((IntKind.i64.wrap ((IntKind.i64.wrap (a0 + 2)) + 4)), ()), ())
theorem e_impl_DataAt (x : InD I_impl_DataAt) : execF ⟨E_impl_DataAt, 9, D_impl_DataAt_0⟩ Try.f144.results.toList B_impl_DataAt I_impl_DataAt U_impl_DataAt x = raw_impl_DataAt x.1 := by kernel_rfl
theorem ok0_impl_DataAt : ConOk Try.prog 144 ⟨I_impl_DataAt, U_impl_DataAt, fun x => raw_impl_DataAt x.1⟩ := conOk_exec (fr_impl_DataAt_0) Try.func144 (by kernel_rfl) (by kernel_rfl) Try.ntmps144.symm (by decide) (fun x r h => (e_impl_DataAt x).trans h)
noncomputable def n_impl_DataAt (a0 : Int) : Int :=
  let r1 := n_impl_within a0 0 1099511627776
  bif (!r1) then
    (-1)
  else
    (IntKind.i64.wrap ((IntKind.i64.wrap (a0 + 2)) + 4))
noncomputable def con_impl_DataAt : Con := ⟨I_impl_DataAt, U_impl_DataAt, fun x => (fun n => some ((n, ()), ())) (n_impl_DataAt x.1)⟩
theorem nn_impl_DataAt (a0 : Int) : raw_impl_DataAt a0 = (fun n => some ((n, ()), ())) (n_impl_DataAt a0) := bif_ty (p := fun (n : Int) => ((n, ()), ())) (bif_some (p := fun (n : Int) => ((n, ()), ())) rfl rfl)
theorem ok_impl_DataAt : ConOk Try.prog 144 con_impl_DataAt := (ok0_impl_DataAt).mono (fun x r _ h => (nn_impl_DataAt x.1).trans h)
theorem impl_dataAt_eq (s : Int) : n_impl_DataAt s = dataAt s := spec_dataAt_eq s
end

/-! impl_isSpoilt -/
section
noncomputable def B_impl_isSpoilt : Code := (Try.f87.body).getD .skip
noncomputable def E_impl_isSpoilt : Env := envOf TT [(144, con_impl_DataAt)] []
theorem fr_impl_isSpoilt_0 : FrOk Try.prog ⟨E_impl_isSpoilt, 16, fun _ => none⟩ B_impl_isSpoilt := frOk_base mixed tt_ok ⟨ok_impl_DataAt, trivial⟩
noncomputable def D_impl_isSpoilt_0 : Nat → Option Seg := fun _ => none
def L_impl_isSpoilt_13 : Shape := ⟨[(6, false, [.br tI]), (7, false, [.int .i64]), (8, false, [.int .i64])], [], []⟩
def S_impl_isSpoilt_13 : Shape := ⟨[(6, false, [.br tI]), (7, false, [.int .i64]), (8, false, [.ci .i64 0])], [], []⟩
def O_impl_isSpoilt_13 : Shape := ⟨[], [], []⟩
def Z_impl_isSpoilt_13 : Shape := ⟨[(2, false, [.bool])], [], []⟩
abbrev mk_impl_isSpoilt_13 (v0 : List Int) (v1 : Int) (v2 : Int) : (L_impl_isSpoilt_13).X := (((v0, ()), (v1, ()), (v2, ()), ()), (), ())
abbrev ms_impl_isSpoilt_13 (v0 : List Int) (v1 : Int) : (S_impl_isSpoilt_13).X := (((v0, ()), (v1, ()), ((), ()), ()), (), ())
abbrev mo_impl_isSpoilt_13  : (O_impl_isSpoilt_13).X := ((), (), ())
abbrev mz_impl_isSpoilt_13 (v0 : Bool) : (Z_impl_isSpoilt_13).X := (((v0, ()), ()), (), ())
noncomputable def st_impl_isSpoilt_13 (v0 : List Int) (v1 : Int) (v2 : Int) : Option ((L_impl_isSpoilt_13).X ⊕ ((O_impl_isSpoilt_13).X ⊕ (Z_impl_isSpoilt_13).X)) :=
  bif (ltb v2 v1) then
    bif (inb v2 v0.length) then
      let r2 := n_impl_DataAt 0
      bif (leb r2 (nth v0 v2 0)) then
        some (.inr (.inr (((true, ()), ()), (), ())))
      else
        some (.inl (((v0, ()), (v1, ()), ((IntKind.i64.wrap (v2 + 1)), ()), ()), (), ()))
    else none
  else
    some (.inr (.inl ((), (), ())))
noncomputable def stx_impl_isSpoilt_13 (x : (L_impl_isSpoilt_13).X) := st_impl_isSpoilt_13 x.1.1.1 x.1.2.1.1 x.1.2.2.1.1
def em_impl_isSpoilt_13 (x : (S_impl_isSpoilt_13).X) : (L_impl_isSpoilt_13).X := (((x.1.1.1, ()), (x.1.2.1.1, ()), (0, ()), ()), (), ())
noncomputable def c_impl_isSpoilt_13 : Code := (subN B_impl_isSpoilt 64 52).getD .skip
theorem a_impl_isSpoilt_13 : subN B_impl_isSpoilt 64 13 = some (.block 0 (.loop c_impl_isSpoilt_13)) := by kernel_rfl
theorem r_impl_isSpoilt_13 (x : (L_impl_isSpoilt_13).X) : roundT ⟨E_impl_isSpoilt, 16, D_impl_isSpoilt_0⟩ 0 c_impl_isSpoilt_13 52 L_impl_isSpoilt_13 O_impl_isSpoilt_13 Z_impl_isSpoilt_13 x = stx_impl_isSpoilt_13 x := by kernel_rfl
noncomputable def fu_impl_isSpoilt_13 (x : (S_impl_isSpoilt_13).X) : Nat := (fun (u0 : List Int) (u1 : Int) => 18446744073709551616) x.1.1.1 x.1.2.1.1
noncomputable def F_impl_isSpoilt_13 (x : (S_impl_isSpoilt_13).X) : Option ((O_impl_isSpoilt_13).X ⊕ (Z_impl_isSpoilt_13).X) := loopN stx_impl_isSpoilt_13 (fu_impl_isSpoilt_13 x) (em_impl_isSpoilt_13 x)
noncomputable def sg_impl_isSpoilt_13 : Seg := ⟨S_impl_isSpoilt_13, O_impl_isSpoilt_13, Z_impl_isSpoilt_13, F_impl_isSpoilt_13⟩
noncomputable def D_impl_isSpoilt_1 : Nat → Option Seg := fun q => bif Nat.beq q 13 then some sg_impl_isSpoilt_13 else D_impl_isSpoilt_0 q
theorem fr_impl_isSpoilt_1 : FrOk Try.prog ⟨E_impl_isSpoilt, 16, D_impl_isSpoilt_1⟩ B_impl_isSpoilt := (fr_impl_isSpoilt_0).loop (sg := sg_impl_isSpoilt_13) L_impl_isSpoilt_13 em_impl_isSpoilt_13 (by decide) a_impl_isSpoilt_13 stx_impl_isSpoilt_13 fu_impl_isSpoilt_13 (by decide) (fun _ => rfl) (fun x r _ h => h) r_impl_isSpoilt_13
abbrev I_impl_isSpoilt : List Par := [.rd tM]
abbrev U_impl_isSpoilt : List OT := [⟨false, tB, .fz⟩]
noncomputable def raw_impl_isSpoilt (a0 : dM) : Option (ResD U_impl_isSpoilt × MutD I_impl_isSpoilt) :=
  segM (F_impl_isSpoilt_13 (((a0.2.2.2, ()), ((a0.2.2.2.length : Int), ()), ((), ()), ()), (), ())) (fun y2 =>
    some ((false, ()), ())) (fun y2 =>
    some ((y2.1.1.1, ()), ()))
theorem e_impl_isSpoilt (x : InD I_impl_isSpoilt) : execF ⟨E_impl_isSpoilt, 16, D_impl_isSpoilt_1⟩ Try.f87.results.toList B_impl_isSpoilt I_impl_isSpoilt U_impl_isSpoilt x = raw_impl_isSpoilt x.1 := by kernel_rfl
theorem ok0_impl_isSpoilt : ConOk Try.prog 87 ⟨I_impl_isSpoilt, U_impl_isSpoilt, fun x => raw_impl_isSpoilt x.1⟩ := conOk_exec (fr_impl_isSpoilt_1) Try.func87 (by kernel_rfl) (by kernel_rfl) Try.ntmps87.symm (by decide) (fun x r h => (e_impl_isSpoilt x).trans h)
noncomputable def n_impl_isSpoilt (a0 : dM) : Bool := spoilt a0
theorem nn_impl_isSpoilt (a0 : dM) (hk : InOk I_impl_isSpoilt (a0, ())) : raw_impl_isSpoilt a0 = (fun n => some ((n, ()), ())) (n_impl_isSpoilt a0) := by
  have hb : a0.2.2.2.length * 8 ≤ 2 ^ 47 := hk.1.2.2.2.1
  have h1 : F_impl_isSpoilt_13 (ms_impl_isSpoilt_13 a0.2.2.2 a0.2.2.2.length) = some (bif a0.2.2.2.all (fun n => !(leb 6 n)) then .inl mo_impl_isSpoilt_13 else .inr (mz_impl_isSpoilt_13 true)) :=
    loopN_list_all (step := stx_impl_isSpoilt_13) a0.2.2.2 0 (fun i => mk_impl_isSpoilt_13 a0.2.2.2 a0.2.2.2.length i) _ _ _ (fun i hi => by
      simp only [stx_impl_isSpoilt_13, mk_impl_isSpoilt_13, st_impl_isSpoilt_13, ltb_t (show (i : Int) < a0.2.2.2.length by omega), cond_true, wr (show -9223372036854775808 ≤ (i : Int) + 1 by omega) (by omega), Int.natCast_add, Int.natCast_one, Int.toNat_natCast, inb_nat hi, nth_nat, impl_dataAt_eq, show dataAt 0 = 6 from rfl]
      cases leb 6 (a0.2.2.2.getD i 0) <;> rfl) (by simp only [stx_impl_isSpoilt_13, mk_impl_isSpoilt_13, st_impl_isSpoilt_13, ltb_f (Int.le_refl _), cond_false]) _ (by show _ < 18446744073709551616; omega)
  unfold raw_impl_isSpoilt n_impl_isSpoilt spoilt
  rw [h1, List.all_eq_not_any_not]
  simp only [Bool.not_not]
  cases a0.2.2.2.any (fun n => leb 6 n) <;> rfl
noncomputable def con_impl_isSpoilt : Con := ⟨I_impl_isSpoilt, U_impl_isSpoilt, fun x => (fun n => some ((n, ()), ())) (n_impl_isSpoilt x.1)⟩
theorem ok_impl_isSpoilt : ConOk Try.prog 87 con_impl_isSpoilt := (ok0_impl_isSpoilt).mono (fun x r hk h => (nn_impl_isSpoilt x.1 hk).trans h)
end

/-! impl_CanLose -/
section
noncomputable def B_impl_CanLose : Code := (Try.f28.body).getD .skip
noncomputable def E_impl_CanLose : Env := envOf TT [(70, con_impl_ArrOk), (86, con_impl_hasDisk), (87, con_impl_isSpoilt)] []
theorem fr_impl_CanLose_0 : FrOk Try.prog ⟨E_impl_CanLose, 47, fun _ => none⟩ B_impl_CanLose := frOk_base mixed tt_ok ⟨ok_impl_ArrOk, ok_impl_hasDisk, ok_impl_isSpoilt, trivial⟩
noncomputable def D_impl_CanLose_0 : Nat → Option Seg := fun _ => none
def L_impl_CanLose_29 : Shape := ⟨[(1, false, [.int .i64]), (32, false, [.br tM]), (33, false, [.int .i64]), (34, false, [.int .i64])], [], []⟩
def S_impl_CanLose_29 : Shape := ⟨[(1, false, [.int .i64]), (32, false, [.br tM]), (33, false, [.int .i64]), (34, false, [.ci .i64 0])], [], []⟩
def O_impl_CanLose_29 : Shape := ⟨[], [], []⟩
def Z_impl_CanLose_29 : Shape := ⟨[(4, false, [.bool])], [], []⟩
abbrev mk_impl_CanLose_29 (v0 : Int) (v1 : List dM) (v2 : Int) (v3 : Int) : (L_impl_CanLose_29).X := (((v0, ()), (v1, ()), (v2, ()), (v3, ()), ()), (), ())
abbrev ms_impl_CanLose_29 (v0 : Int) (v1 : List dM) (v2 : Int) : (S_impl_CanLose_29).X := (((v0, ()), (v1, ()), (v2, ()), ((), ()), ()), (), ())
abbrev mo_impl_CanLose_29  : (O_impl_CanLose_29).X := ((), (), ())
abbrev mz_impl_CanLose_29 (v0 : Bool) : (Z_impl_CanLose_29).X := (((v0, ()), ()), (), ())
noncomputable def st_impl_CanLose_29 (v0 : Int) (v1 : List dM) (v2 : Int) (v3 : Int) : Option ((L_impl_CanLose_29).X ⊕ ((O_impl_CanLose_29).X ⊕ (Z_impl_CanLose_29).X)) :=
  bif (ltb v3 v2) then
    bif (inb v3 v1.length) then
      bif (v3 != v0) then
        let r4 := n_impl_isSpoilt ((nth v1 v3 ([], [], false, [])).1, ((nth v1 v3 ([], [], false, [])).2).1, (((nth v1 v3 ([], [], false, [])).2).2))
        bif r4 then
          some (.inr (.inr (((false, ()), ()), (), ())))
        else
          some (.inl (((v0, ()), (v1, ()), (v2, ()), ((IntKind.i64.wrap (v3 + 1)), ()), ()), (), ()))
      else
        some (.inl (((v0, ()), (v1, ()), (v2, ()), ((IntKind.i64.wrap (v3 + 1)), ()), ()), (), ()))
    else none
  else
    some (.inr (.inl ((), (), ())))
noncomputable def stx_impl_CanLose_29 (x : (L_impl_CanLose_29).X) := st_impl_CanLose_29 x.1.1.1 x.1.2.1.1 x.1.2.2.1.1 x.1.2.2.2.1.1
def em_impl_CanLose_29 (x : (S_impl_CanLose_29).X) : (L_impl_CanLose_29).X := (((x.1.1.1, ()), (x.1.2.1.1, ()), (x.1.2.2.1.1, ()), (0, ()), ()), (), ())
noncomputable def c_impl_CanLose_29 : Code := (subN B_impl_CanLose 64 116).getD .skip
theorem a_impl_CanLose_29 : subN B_impl_CanLose 64 29 = some (.block 0 (.loop c_impl_CanLose_29)) := by kernel_rfl
theorem r_impl_CanLose_29 (x : (L_impl_CanLose_29).X) : roundT ⟨E_impl_CanLose, 47, D_impl_CanLose_0⟩ 0 c_impl_CanLose_29 116 L_impl_CanLose_29 O_impl_CanLose_29 Z_impl_CanLose_29 x = stx_impl_CanLose_29 x := by kernel_rfl
noncomputable def fu_impl_CanLose_29 (x : (S_impl_CanLose_29).X) : Nat := (fun (u0 : Int) (u1 : List dM) (u2 : Int) => 18446744073709551616) x.1.1.1 x.1.2.1.1 x.1.2.2.1.1
noncomputable def F_impl_CanLose_29 (x : (S_impl_CanLose_29).X) : Option ((O_impl_CanLose_29).X ⊕ (Z_impl_CanLose_29).X) := loopN stx_impl_CanLose_29 (fu_impl_CanLose_29 x) (em_impl_CanLose_29 x)
noncomputable def sg_impl_CanLose_29 : Seg := ⟨S_impl_CanLose_29, O_impl_CanLose_29, Z_impl_CanLose_29, F_impl_CanLose_29⟩
noncomputable def D_impl_CanLose_1 : Nat → Option Seg := fun q => bif Nat.beq q 29 then some sg_impl_CanLose_29 else D_impl_CanLose_0 q
theorem fr_impl_CanLose_1 : FrOk Try.prog ⟨E_impl_CanLose, 47, D_impl_CanLose_1⟩ B_impl_CanLose := (fr_impl_CanLose_0).loop (sg := sg_impl_CanLose_29) L_impl_CanLose_29 em_impl_CanLose_29 (by decide) a_impl_CanLose_29 stx_impl_CanLose_29 fu_impl_CanLose_29 (by decide) (fun _ => rfl) (fun x r _ h => h) r_impl_CanLose_29
abbrev I_impl_CanLose : List Par := [.rd tA, .rd tI]
abbrev U_impl_CanLose : List OT := [⟨false, tB, .fz⟩]
noncomputable def raw_impl_CanLose (a0 : dA) (a1 : Int) : Option (ResD U_impl_CanLose × MutD I_impl_CanLose) :=
  let r1 := n_impl_ArrOk a0
  bif (!(!r1)) then
    let r2 := n_impl_hasDisk a0 a1
    bif (!(!r2)) then
      bif (!a0.2.2.2.2.2.2.2.2.2.2.2) then
        bif (a0.2.2.2.1 != (-1)) then
          bif (a0.2.2.2.1 != a1) then
            some ((false, ()), ())
          else
            segM (F_impl_CanLose_29 (((a1, ()), (a0.2.2.1, ()), ((a0.2.2.1.length : Int), ()), ((), ()), ()), (), ())) (fun y4 =>
              some ((true, ()), ())) (fun y4 =>
              some ((y4.1.1.1, ()), ()))
        else
          segM (F_impl_CanLose_29 (((a1, ()), (a0.2.2.1, ()), ((a0.2.2.1.length : Int), ()), ((), ()), ()), (), ())) (fun y5 =>
            some ((true, ()), ())) (fun y5 =>
            some ((y5.1.1.1, ()), ()))
      else
        some ((false, ()), ())
    else
      some ((false, ()), ())
  else
    some ((false, ()), ())
theorem e_impl_CanLose (x : InD I_impl_CanLose) : execF ⟨E_impl_CanLose, 47, D_impl_CanLose_1⟩ Try.f28.results.toList B_impl_CanLose I_impl_CanLose U_impl_CanLose x = raw_impl_CanLose x.1 x.2.1 := by kernel_rfl
theorem ok0_impl_CanLose : ConOk Try.prog 28 ⟨I_impl_CanLose, U_impl_CanLose, fun x => raw_impl_CanLose x.1 x.2.1⟩ := conOk_exec (fr_impl_CanLose_1) Try.func28 (by kernel_rfl) (by kernel_rfl) Try.ntmps28.symm (by decide) (fun x r h => (e_impl_CanLose x).trans h)
noncomputable def n_impl_CanLose (a0 : dA) (a1 : Int) : Bool := n_spec_CanLose a0 a1
theorem nn_impl_CanLose (a0 : dA) (a1 : Int) (hk : InOk I_impl_CanLose (a0, a1, ())) : raw_impl_CanLose a0 a1 = (fun n => some ((n, ()), ())) (n_impl_CanLose a0 a1) := by
  have hb : a0.2.2.1.length * 80 ≤ 2 ^ 47 := hk.1.2.2.1.1
  have h1 : F_impl_CanLose_29 (ms_impl_CanLose_29 a1 a0.2.2.1 a0.2.2.1.length) = some (bif (List.range a0.2.2.1.length).any (fun (i : Nat) => !((i : Int) == a1 || !(spoilt (nth a0.2.2.1 i noMem)))) then .inr (mz_impl_CanLose_29 false) else .inl mo_impl_CanLose_29) :=
    loopN_all (step := stx_impl_CanLose_29) (fun i => mk_impl_CanLose_29 a1 a0.2.2.1 a0.2.2.1.length i) a0.2.2.1.length (fun (i : Nat) => !((i : Int) == a1 || !(spoilt (nth a0.2.2.1 i noMem)))) _ _ (fun i hi => by
      simp only [stx_impl_CanLose_29, mk_impl_CanLose_29, st_impl_CanLose_29, ltb_t (show (i : Int) < a0.2.2.1.length by omega), cond_true, wr (show -9223372036854775808 ≤ (i : Int) + 1 by omega) (by omega), Int.natCast_add, Int.natCast_one, Int.toNat_natCast, inb_nat hi, pr_eta, n_impl_isSpoilt, noMem, bne]
      cases ((i : Int) == a1) <;> cases spoilt (nth a0.2.2.1 i ([], [], false, [])) <;> rfl) (by simp only [stx_impl_CanLose_29, mk_impl_CanLose_29, st_impl_CanLose_29, ltb_f (Int.le_refl _), cond_false]) _ (by show _ < 18446744073709551616; omega)
  unfold raw_impl_CanLose n_impl_CanLose n_spec_CanLose canLose n_impl_ArrOk n_impl_hasDisk
  rw [impl_in_eq, in_len (show a0.2.2.1.length ≤ 1152921504606846976 by omega), h1, List.all_eq_not_any_not]
  simp only [bne]
  cases arrOk a0
  · rfl
  cases inb a1 a0.2.2.1.length
  · cases a0.2.2.2.2.2.2.2.2.2.2.2 <;> rfl
  cases a0.2.2.2.2.2.2.2.2.2.2.2
  · cases (a0.2.2.2.1 == -1) <;> cases (a0.2.2.2.1 == a1) <;> cases ((List.range a0.2.2.1.length).any (fun (i : Nat) => !((i : Int) == a1 || !(spoilt (nth a0.2.2.1 i noMem))))) <;> rfl
  · rfl
noncomputable def con_impl_CanLose : Con := ⟨I_impl_CanLose, U_impl_CanLose, fun x => (fun n => some ((n, ()), ())) (n_impl_CanLose x.1 x.2.1)⟩
theorem ok_impl_CanLose : ConOk Try.prog 28 con_impl_CanLose := (ok0_impl_CanLose).mono (fun x r hk h => (nn_impl_CanLose x.1 x.2.1 hk).trans h)
end
end Go.Tf
