/- Functions of the program, and what they come to. -/
import Derived.Test.YtfpjmijaiekbgaaGreatExactContentsF9
namespace Go.Tf
open Go.Proofs
set_option synthInstance.maxHeartbeats 400000
set_option synthInstance.maxSize 10000
set_option linter.unusedVariables false
set_option linter.unusedSimpArgs false
set_option maxRecDepth 100000
/-! impl_sectors -/
section
noncomputable def B_impl_sectors : Code := (Tryz.f133.body).getD .skip
noncomputable def E_impl_sectors : Env := envOf TT [] []
theorem fr_impl_sectors_0 : FrOk Tryz.prog ⟨E_impl_sectors, 6, fun _ => none⟩ B_impl_sectors := frOk_base mixed tt_ok trivial
noncomputable def D_impl_sectors_0 : Nat → Option Seg := fun _ => none
abbrev I_impl_sectors : List Par := [.rd tG]
abbrev U_impl_sectors : List OT := [⟨false, tI, .fz⟩]
noncomputable def raw_impl_sectors (a0 : dG) : Option (ResD U_impl_sectors × MutD I_impl_sectors) :=
  some (((IntKind.i64.wrap (6 + a0.2)), ()), ())
theorem e_impl_sectors (x : InD I_impl_sectors) : execF ⟨E_impl_sectors, 6, D_impl_sectors_0⟩ Tryz.f133.results.toList B_impl_sectors I_impl_sectors U_impl_sectors x = raw_impl_sectors x.1 := by kernel_rfl
theorem ok0_impl_sectors : ConOk Tryz.prog 133 ⟨I_impl_sectors, U_impl_sectors, fun x => raw_impl_sectors x.1⟩ := conOk_exec (fr_impl_sectors_0) Tryz.func133 (by kernel_rfl) (by kernel_rfl) Tryz.ntmps133.symm (by decide) (fun x r h => (e_impl_sectors x).trans h)
noncomputable def n_impl_sectors (a0 : dG) : Int :=
  (IntKind.i64.wrap (6 + a0.2))
noncomputable def con_impl_sectors : Con := ⟨I_impl_sectors, U_impl_sectors, fun x => (fun n => some ((n, ()), ())) (n_impl_sectors x.1)⟩
theorem nn_impl_sectors (a0 : dG) : raw_impl_sectors a0 = (fun n => some ((n, ()), ())) (n_impl_sectors a0) := bif_ty (p := fun (n : Int) => ((n, ()), ())) rfl
theorem ok_impl_sectors : ConOk Tryz.prog 133 con_impl_sectors := (ok0_impl_sectors).mono (fun x r _ h => (nn_impl_sectors x.1).trans h)
end

/-! impl_ArrOk -/
section
noncomputable def B_impl_ArrOk : Code := (Tryz.f51.body).getD .skip
noncomputable def E_impl_ArrOk : Env := envOf TT [(114, con_impl_within), (129, con_impl_GeoOk), (130, con_impl_lostOk), (131, con_impl_dirtyOk), (132, con_impl_MemOk), (133, con_impl_sectors)] []
theorem fr_impl_ArrOk_0 : FrOk Tryz.prog ⟨E_impl_ArrOk, 103, fun _ => none⟩ B_impl_ArrOk := frOk_base mixed tt_ok ⟨ok_impl_within, ok_impl_GeoOk, ok_impl_lostOk, ok_impl_dirtyOk, ok_impl_MemOk, ok_impl_sectors, trivial⟩
noncomputable def D_impl_ArrOk_0 : Nat → Option Seg := fun _ => none
def L_impl_ArrOk_29 : Shape := ⟨[(1, false, [.ptr 0 0]), (41, false, [.br tM]), (42, false, [.int .i64]), (43, false, [.int .i64])], [(0, [.int .i64, .int .i64, .int .i64, .br tM, .int .i64, .int .i64, .int .i64, .int .i64, .int .i64, .br tW, .int .i64, .bool, .bool])], []⟩
def S_impl_ArrOk_29 : Shape := ⟨[(1, false, [.ptr 0 0]), (41, false, [.br tM]), (42, false, [.int .i64]), (43, false, [.ci .i64 0])], [(0, [.int .i64, .int .i64, .int .i64, .br tM, .int .i64, .int .i64, .int .i64, .int .i64, .int .i64, .br tW, .int .i64, .bool, .bool])], []⟩
def O_impl_ArrOk_29 : Shape := ⟨[(1, false, [.ptr 0 0])], [(0, [.int .i64, .int .i64, .int .i64, .br tM, .int .i64, .int .i64, .int .i64, .int .i64, .int .i64, .br tW, .int .i64, .bool, .bool])], []⟩
def Z_impl_ArrOk_29 : Shape := ⟨[(2, false, [.bool])], [], []⟩
abbrev mk_impl_ArrOk_29 (v0 : List dM) (v1 : Int) (v2 : Int) (v3 : dA) : (L_impl_ArrOk_29).X := ((((), ()), (v0, ()), (v1, ()), (v2, ()), ()), ((v3.1, v3.2.1.1, v3.2.1.2, v3.2.2.1, v3.2.2.2.1, v3.2.2.2.2.1, v3.2.2.2.2.2.1, v3.2.2.2.2.2.2.1, v3.2.2.2.2.2.2.2.1, v3.2.2.2.2.2.2.2.2.1, v3.2.2.2.2.2.2.2.2.2.1, v3.2.2.2.2.2.2.2.2.2.2.1, v3.2.2.2.2.2.2.2.2.2.2.2, ()), ()), ())
abbrev ms_impl_ArrOk_29 (v0 : List dM) (v1 : Int) (v2 : dA) : (S_impl_ArrOk_29).X := ((((), ()), (v0, ()), (v1, ()), ((), ()), ()), ((v2.1, v2.2.1.1, v2.2.1.2, v2.2.2.1, v2.2.2.2.1, v2.2.2.2.2.1, v2.2.2.2.2.2.1, v2.2.2.2.2.2.2.1, v2.2.2.2.2.2.2.2.1, v2.2.2.2.2.2.2.2.2.1, v2.2.2.2.2.2.2.2.2.2.1, v2.2.2.2.2.2.2.2.2.2.2.1, v2.2.2.2.2.2.2.2.2.2.2.2, ()), ()), ())
abbrev mo_impl_ArrOk_29 (v0 : dA) : (O_impl_ArrOk_29).X := ((((), ()), ()), ((v0.1, v0.2.1.1, v0.2.1.2, v0.2.2.1, v0.2.2.2.1, v0.2.2.2.2.1, v0.2.2.2.2.2.1, v0.2.2.2.2.2.2.1, v0.2.2.2.2.2.2.2.1, v0.2.2.2.2.2.2.2.2.1, v0.2.2.2.2.2.2.2.2.2.1, v0.2.2.2.2.2.2.2.2.2.2.1, v0.2.2.2.2.2.2.2.2.2.2.2, ()), ()), ())
abbrev mz_impl_ArrOk_29 (v0 : Bool) : (Z_impl_ArrOk_29).X := (((v0, ()), ()), (), ())
noncomputable def st_impl_ArrOk_29 (v0 : List dM) (v1 : Int) (v2 : Int) (v3 : Int) (v4 : Int) (v5 : Int) (v6 : List dM) (v7 : Int) (v8 : Int) (v9 : Int) (v10 : Int) (v11 : Int) (v12 : List dW) (v13 : Int) (v14 : Bool) (v15 : Bool) : Option ((L_impl_ArrOk_29).X ⊕ ((O_impl_ArrOk_29).X ⊕ (Z_impl_ArrOk_29).X)) :=
  bif (ltb v2 v1) then
    bif (inb v2 v0.length) then
      let r7 := n_impl_MemOk ((nth v0 v2 ([], [], false, [])).1, ((nth v0 v2 ([], [], false, [])).2).1, (((nth v0 v2 ([], [], false, [])).2).2))
      bif (!(!r7)) then
        let r8 := n_impl_sectors (v4, v5)
        bif (!((((nth v0 v2 ([], [], false, [])).1).length : Int) != r8)) then
          bif (((nth v0 v2 ([], [], false, [])).2).2).1 then
            bif (v7 != v2) then
              bif (!v15) then
                some (.inr (.inr (((false, ()), ()), (), ())))
              else
                some (.inl ((((), ()), (v0, ()), (v1, ()), ((IntKind.i64.wrap (v2 + 1)), ()), ()), ((v3, v4, v5, v6, v7, v8, v9, v10, v11, v12, v13, v14, v15, ()), ()), ()))
            else
              some (.inl ((((), ()), (v0, ()), (v1, ()), ((IntKind.i64.wrap (v2 + 1)), ()), ()), ((v3, v4, v5, v6, v7, v8, v9, v10, v11, v12, v13, v14, v15, ()), ()), ()))
          else
            some (.inl ((((), ()), (v0, ()), (v1, ()), ((IntKind.i64.wrap (v2 + 1)), ()), ()), ((v3, v4, v5, v6, v7, v8, v9, v10, v11, v12, v13, v14, v15, ()), ()), ()))
        else
          some (.inr (.inr (((false, ()), ()), (), ())))
      else
        some (.inr (.inr (((false, ()), ()), (), ())))
    else none
  else
    some (.inr (.inl ((((), ()), ()), ((v3, v4, v5, v6, v7, v8, v9, v10, v11, v12, v13, v14, v15, ()), ()), ())))
noncomputable def stx_impl_ArrOk_29 (x : (L_impl_ArrOk_29).X) := st_impl_ArrOk_29 x.1.2.1.1 x.1.2.2.1.1 x.1.2.2.2.1.1 x.2.1.1.1 x.2.1.1.2.1 x.2.1.1.2.2.1 x.2.1.1.2.2.2.1 x.2.1.1.2.2.2.2.1 x.2.1.1.2.2.2.2.2.1 x.2.1.1.2.2.2.2.2.2.1 x.2.1.1.2.2.2.2.2.2.2.1 x.2.1.1.2.2.2.2.2.2.2.2.1 x.2.1.1.2.2.2.2.2.2.2.2.2.1 x.2.1.1.2.2.2.2.2.2.2.2.2.2.1 x.2.1.1.2.2.2.2.2.2.2.2.2.2.2.1 x.2.1.1.2.2.2.2.2.2.2.2.2.2.2.2.1
def em_impl_ArrOk_29 (x : (S_impl_ArrOk_29).X) : (L_impl_ArrOk_29).X := ((((), ()), (x.1.2.1.1, ()), (x.1.2.2.1.1, ()), (0, ()), ()), ((x.2.1.1.1, x.2.1.1.2.1, x.2.1.1.2.2.1, x.2.1.1.2.2.2.1, x.2.1.1.2.2.2.2.1, x.2.1.1.2.2.2.2.2.1, x.2.1.1.2.2.2.2.2.2.1, x.2.1.1.2.2.2.2.2.2.2.1, x.2.1.1.2.2.2.2.2.2.2.2.1, x.2.1.1.2.2.2.2.2.2.2.2.2.1, x.2.1.1.2.2.2.2.2.2.2.2.2.2.1, x.2.1.1.2.2.2.2.2.2.2.2.2.2.2.1, x.2.1.1.2.2.2.2.2.2.2.2.2.2.2.2.1, ()), ()), ())
noncomputable def c_impl_ArrOk_29 : Code := (subN B_impl_ArrOk 64 116).getD .skip
theorem a_impl_ArrOk_29 : subN B_impl_ArrOk 64 29 = some (.block 0 (.loop c_impl_ArrOk_29)) := by kernel_rfl
theorem r_impl_ArrOk_29 (x : (L_impl_ArrOk_29).X) : roundT ⟨E_impl_ArrOk, 103, D_impl_ArrOk_0⟩ 0 c_impl_ArrOk_29 116 L_impl_ArrOk_29 O_impl_ArrOk_29 Z_impl_ArrOk_29 x = stx_impl_ArrOk_29 x := by kernel_rfl
noncomputable def fu_impl_ArrOk_29 (x : (S_impl_ArrOk_29).X) : Nat := (fun (u0 : List dM) (u1 : Int) (u2 : Int) (u3 : Int) (u4 : Int) (u5 : List dM) (u6 : Int) (u7 : Int) (u8 : Int) (u9 : Int) (u10 : Int) (u11 : List dW) (u12 : Int) (u13 : Bool) (u14 : Bool) => 18446744073709551616) x.1.2.1.1 x.1.2.2.1.1 x.2.1.1.1 x.2.1.1.2.1 x.2.1.1.2.2.1 x.2.1.1.2.2.2.1 x.2.1.1.2.2.2.2.1 x.2.1.1.2.2.2.2.2.1 x.2.1.1.2.2.2.2.2.2.1 x.2.1.1.2.2.2.2.2.2.2.1 x.2.1.1.2.2.2.2.2.2.2.2.1 x.2.1.1.2.2.2.2.2.2.2.2.2.1 x.2.1.1.2.2.2.2.2.2.2.2.2.2.1 x.2.1.1.2.2.2.2.2.2.2.2.2.2.2.1 x.2.1.1.2.2.2.2.2.2.2.2.2.2.2.2.1
noncomputable def F_impl_ArrOk_29 (x : (S_impl_ArrOk_29).X) : Option ((O_impl_ArrOk_29).X ⊕ (Z_impl_ArrOk_29).X) := loopN stx_impl_ArrOk_29 (fu_impl_ArrOk_29 x) (em_impl_ArrOk_29 x)
noncomputable def sg_impl_ArrOk_29 : Seg := ⟨S_impl_ArrOk_29, O_impl_ArrOk_29, Z_impl_ArrOk_29, F_impl_ArrOk_29⟩
noncomputable def D_impl_ArrOk_1 : Nat → Option Seg := fun q => bif Nat.beq q 29 then some sg_impl_ArrOk_29 else D_impl_ArrOk_0 q
theorem fr_impl_ArrOk_1 : FrOk Tryz.prog ⟨E_impl_ArrOk, 103, D_impl_ArrOk_1⟩ B_impl_ArrOk := (fr_impl_ArrOk_0).loop (sg := sg_impl_ArrOk_29) L_impl_ArrOk_29 em_impl_ArrOk_29 (by decide) a_impl_ArrOk_29 stx_impl_ArrOk_29 fu_impl_ArrOk_29 (by decide) (fun _ => rfl) (fun x r _ h => h) r_impl_ArrOk_29
abbrev I_impl_ArrOk : List Par := [.rd tA]
abbrev U_impl_ArrOk : List OT := [⟨false, tB, .fz⟩]
noncomputable def raw_impl_ArrOk (a0 : dA) : Option (ResD U_impl_ArrOk × MutD I_impl_ArrOk) :=
  let r1 := n_impl_GeoOk a0.2.1
  bif (!(!r1)) then
    bif (!((a0.2.2.1.length : Int) != a0.2.1.1)) then
      let r2 := n_impl_within a0.1 1 60000
      bif (!(!r2)) then
        let r3 := n_impl_lostOk a0.2.1 a0.2.2.2.1 a0.2.2.2.2.1
        bif (!(!r3)) then
          bnd (o_impl_dirtyOk a0) fun r4 =>
          bif (!r4.1.1) then
            some ((false, ()), ())
          else
            segM (F_impl_ArrOk_29 ((((), ()), (a0.2.2.1, ()), ((a0.2.2.1.length : Int), ()), ((), ()), ()), ((a0.1, a0.2.1.1, a0.2.1.2, a0.2.2.1, a0.2.2.2.1, a0.2.2.2.2.1, a0.2.2.2.2.2.1, a0.2.2.2.2.2.2.1, a0.2.2.2.2.2.2.2.1, a0.2.2.2.2.2.2.2.2.1, a0.2.2.2.2.2.2.2.2.2.1, a0.2.2.2.2.2.2.2.2.2.2.1, a0.2.2.2.2.2.2.2.2.2.2.2, ()), ()), ())) (fun y8 =>
              let r10 := n_impl_within y8.2.1.1.2.2.2.2.2.2.1 0 60000
              bif r10 then
                let r11 := n_impl_within y8.2.1.1.2.2.2.2.2.2.2.1 0 60000
                bif r11 then
                  let r12 := n_impl_within y8.2.1.1.2.2.2.2.2.2.2.2.1 0 60000
                  bif r12 then
                    let r13 := n_impl_within (IntKind.i64.wrap (y8.2.1.1.2.2.2.2.2.2.1 - y8.2.1.1.2.2.2.2.2.2.2.1)) 0 4
                    bif r13 then
                      let r14 := n_impl_within y8.2.1.1.2.2.2.2.2.2.2.2.2.2.1 (-1) 1000
                      some ((r14, ()), ())
                    else
                      some ((false, ()), ())
                  else
                    some ((false, ()), ())
                else
                  some ((false, ()), ())
              else
                some ((false, ()), ())) (fun y8 =>
              some ((y8.1.1.1, ()), ()))
        else
          some ((false, ()), ())
      else
        some ((false, ()), ())
    else
      some ((false, ()), ())
  else
    some ((false, ()), ())
theorem e_impl_ArrOk (x : InD I_impl_ArrOk) : execF ⟨E_impl_ArrOk, 103, D_impl_ArrOk_1⟩ Tryz.f51.results.toList B_impl_ArrOk I_impl_ArrOk U_impl_ArrOk x = raw_impl_ArrOk x.1 := by kernel_rfl
theorem ok0_impl_ArrOk : ConOk Tryz.prog 51 ⟨I_impl_ArrOk, U_impl_ArrOk, fun x => raw_impl_ArrOk x.1⟩ := conOk_exec (fr_impl_ArrOk_1) Tryz.func51 (by kernel_rfl) (by kernel_rfl) Tryz.ntmps51.symm (by decide) (fun x r h => (e_impl_ArrOk x).trans h)
theorem seq_fin {S T G F z TS le : Bool} (h1 : T = true → TS = true → S = true) (h2 : S = true → T = true → z = (TS && le)) :
    (bif S then bif T then bif G then bif z then some ((F, ()), ()) else some ((false, ()), ()) else some ((false, ()), ()) else some ((false, ()), ()) else some ((false, ()), ())) = some (((T && (TS && (le && (G && F)))), ()), ()) := by
  cases S
  · cases T
    · rfl
    · cases TS
      · rfl
      · exact absurd (h1 rfl rfl) Bool.false_ne_true
  · cases T
    · cases G <;> rfl
    · rw [h2 rfl rfl]
      cases TS <;> cases le <;> cases G <;> rfl
noncomputable def n_impl_ArrOk (a0 : dA) : Bool := arrOk a0
theorem nn_impl_ArrOk (a0 : dA) (hk : InOk I_impl_ArrOk (a0, ())) : raw_impl_ArrOk a0 = (fun n => some ((n, ()), ())) (n_impl_ArrOk a0) := by
  have hb : a0.2.2.1.length * 80 ≤ 2 ^ 47 := hk.1.2.2.1.1
  unfold raw_impl_ArrOk n_impl_ArrOk arrOk
  simp only [geo_eq, impl_in_eq, in_eq]
  cases hg : n_spec_GeoOk a0.2.1
  · rfl
  have hg2 := geo_iff.1 hg
  have h1 : F_impl_ArrOk_29 (ms_impl_ArrOk_29 a0.2.2.1 a0.2.2.1.length a0) = some (bif (List.range a0.2.2.1.length).any (memBad a0) then .inr (mz_impl_ArrOk_29 false) else .inl (mo_impl_ArrOk_29 a0)) :=
    loopN_all (step := stx_impl_ArrOk_29) (fun i => mk_impl_ArrOk_29 a0.2.2.1 a0.2.2.1.length i a0) a0.2.2.1.length (memBad a0) _ _ (fun i hi => by
      simp only [stx_impl_ArrOk_29, mk_impl_ArrOk_29, st_impl_ArrOk_29, ltb_t (show (i : Int) < a0.2.2.1.length by omega), cond_true, wr (show -9223372036854775808 ≤ (i : Int) + 1 by omega) (by omega), Int.natCast_add, Int.natCast_one, Int.toNat_natCast, inb_nat hi, pr_eta, n_impl_MemOk, memBad, n_impl_sectors, wr (show -9223372036854775808 ≤ 6 + a0.2.1.2 by omega) (by omega), noMem]
      rw [show (a0.2.2.2.1 != (i : Int)) = ((i : Int) != a0.2.2.2.1) from bne_comm]
      cases memOk (nth a0.2.2.1 i ([], [], false, [])) <;> cases (((nth a0.2.2.1 i ([], [], false, [])).1.length : Int) != 6 + a0.2.1.2) <;> cases (nth a0.2.2.1 i ([], [], false, [])).2.2.1 <;> cases ((i : Int) != a0.2.2.2.1) <;> cases a0.2.2.2.2.2.2.2.2.2.2.2 <;> rfl) (by simp only [stx_impl_ArrOk_29, mk_impl_ArrOk_29, st_impl_ArrOk_29, ltb_f (Int.le_refl _), cond_false]) _ (by show _ < 18446744073709551616; omega)
  rw [ot_impl_dirtyOk a0 hg, h1]
  simp only [bnd_some, n_impl_dirtyOk, n_impl_lostOk, impl_in_eq, in_eq, wr (show -9223372036854775808 ≤ a0.2.1.1 - 1 by omega) (by omega), memsOk]
  have hw : (leb 0 a0.2.2.2.2.2.1 && leb a0.2.2.2.2.2.1 60000) = true → (leb 0 a0.2.2.2.2.2.2.1 && leb a0.2.2.2.2.2.2.1 60000) = true → IntKind.i64.wrap (a0.2.2.2.2.2.1 - a0.2.2.2.2.2.2.1) = a0.2.2.2.2.2.1 - a0.2.2.2.2.2.2.1 := fun h h' => by
    rw [Bool.and_eq_true, leb_iff, leb_iff] at h h'
    exact wr (by omega) (by omega)
  simp only [bne, Bool.not_not, cond_true, Bool.true_and]
  have h2 : (leb 0 a0.2.2.2.2.2.1 && leb a0.2.2.2.2.2.1 60000) = true → (leb 0 a0.2.2.2.2.2.2.1 && leb a0.2.2.2.2.2.2.1 60000) = true → (leb 0 (IntKind.i64.wrap (a0.2.2.2.2.2.1 - a0.2.2.2.2.2.2.1)) && leb (IntKind.i64.wrap (a0.2.2.2.2.2.1 - a0.2.2.2.2.2.2.1)) 4) = ((leb a0.2.2.2.2.2.2.1 a0.2.2.2.2.2.1 && leb a0.2.2.2.2.2.1 60000) && leb a0.2.2.2.2.2.1 (a0.2.2.2.2.2.2.1 + 4)) := fun h h' => by
    rw [hw h h', Bool.eq_iff_iff]
    simp only [Bool.and_eq_true, leb_iff] at h h' ⊢
    omega
  have h3 : (leb 0 a0.2.2.2.2.2.2.1 && leb a0.2.2.2.2.2.2.1 60000) = true → (leb a0.2.2.2.2.2.2.1 a0.2.2.2.2.2.1 && leb a0.2.2.2.2.2.1 60000) = true → (leb 0 a0.2.2.2.2.2.1 && leb a0.2.2.2.2.2.1 60000) = true := fun h h' => by
    simp only [Bool.and_eq_true, leb_iff] at h h' ⊢
    omega
  cases ((a0.2.2.1.length : Int) == a0.2.1.1)
  · cases (leb 1 a0.1 && leb a0.1 60000) <;> cases (List.range a0.2.2.1.length).any (memBad a0) <;> rfl
  cases (leb 1 a0.1 && leb a0.1 60000)
  · rfl
  cases (leb (-1) a0.2.2.2.1 && leb a0.2.2.2.1 (a0.2.1.1 - 1))
  · cases (List.range a0.2.2.1.length).any (memBad a0) <;> cases dirtyOk a0.2.1 a0.2.2.2.2.2.2.2.2.1 <;> rfl
  cases (leb 0 a0.2.2.2.2.1 && leb a0.2.2.2.2.1 a0.2.1.2)
  · cases (List.range a0.2.2.1.length).any (memBad a0) <;> cases dirtyOk a0.2.1 a0.2.2.2.2.2.2.2.2.1 <;> rfl
  cases dirtyOk a0.2.1 a0.2.2.2.2.2.2.2.2.1
  · cases (List.range a0.2.2.1.length).any (memBad a0) <;> cases (a0.2.2.2.1 == -1) <;> cases (a0.2.2.2.2.1 == 0) <;> rfl
  cases (List.range a0.2.2.1.length).any (memBad a0)
  · cases (a0.2.2.2.1 == -1) <;> cases (a0.2.2.2.2.1 == 0)
    case true.false => rfl
    all_goals exact seq_fin h3 h2
  · cases (a0.2.2.2.1 == -1) <;> cases (a0.2.2.2.2.1 == 0) <;> rfl
noncomputable def con_impl_ArrOk : Con := ⟨I_impl_ArrOk, U_impl_ArrOk, fun x => (fun n => some ((n, ()), ())) (n_impl_ArrOk x.1)⟩
theorem ok_impl_ArrOk : ConOk Tryz.prog 51 con_impl_ArrOk := (ok0_impl_ArrOk).mono (fun x r hk h => (nn_impl_ArrOk x.1 hk).trans h)
end

/-! impl_hasBlock -/
section
noncomputable def B_impl_hasBlock : Code := (Tryz.f174.body).getD .skip
noncomputable def E_impl_hasBlock : Env := envOf TT [(68, con_impl_Blocks), (114, con_impl_within)] []
theorem fr_impl_hasBlock_0 : FrOk Tryz.prog ⟨E_impl_hasBlock, 10, fun _ => none⟩ B_impl_hasBlock := frOk_base mixed tt_ok ⟨ok_impl_Blocks, ok_impl_within, trivial⟩
noncomputable def D_impl_hasBlock_0 : Nat → Option Seg := fun _ => none
abbrev I_impl_hasBlock : List Par := [.rd tG, .rd tI]
abbrev U_impl_hasBlock : List OT := [⟨false, tB, .fz⟩]
noncomputable def raw_impl_hasBlock (a0 : dG) (a1 : Int) : Option (ResD U_impl_hasBlock × MutD I_impl_hasBlock) :=
  let r1 := n_impl_Blocks a0
  let r2 := n_impl_within a1 0 (IntKind.i64.wrap (r1 - 1))
  some ((r2, ()), ())
theorem e_impl_hasBlock (x : InD I_impl_hasBlock) : execF ⟨E_impl_hasBlock, 10, D_impl_hasBlock_0⟩ Tryz.f174.results.toList B_impl_hasBlock I_impl_hasBlock U_impl_hasBlock x = raw_impl_hasBlock x.1 x.2.1 := by kernel_rfl
theorem ok0_impl_hasBlock : ConOk Tryz.prog 174 ⟨I_impl_hasBlock, U_impl_hasBlock, fun x => raw_impl_hasBlock x.1 x.2.1⟩ := conOk_exec (fr_impl_hasBlock_0) Tryz.func174 (by kernel_rfl) (by kernel_rfl) Tryz.ntmps174.symm (by decide) (fun x r h => (e_impl_hasBlock x).trans h)
noncomputable def n_impl_hasBlock (a0 : dG) (a1 : Int) : Bool :=
  let r1 := n_impl_Blocks a0
  let r2 := n_impl_within a1 0 (IntKind.i64.wrap (r1 - 1))
  r2
noncomputable def con_impl_hasBlock : Con := ⟨I_impl_hasBlock, U_impl_hasBlock, fun x => (fun n => some ((n, ()), ())) (n_impl_hasBlock x.1 x.2.1)⟩
theorem nn_impl_hasBlock (a0 : dG) (a1 : Int) : raw_impl_hasBlock a0 a1 = (fun n => some ((n, ()), ())) (n_impl_hasBlock a0 a1) := bif_ty (p := fun (n : Bool) => ((n, ()), ())) rfl
theorem ok_impl_hasBlock : ConOk Tryz.prog 174 con_impl_hasBlock := (ok0_impl_hasBlock).mono (fun x r _ h => (nn_impl_hasBlock x.1 x.2.1).trans h)
theorem impl_blk_eq (g : dG) (b : Int) : n_impl_hasBlock g b = blkOk g b := by
  unfold n_impl_hasBlock
  simp only [impl_Blocks_eq, impl_in_eq, blk_in]
end

/-! impl_blockCode -/
section
noncomputable def B_impl_blockCode : Code := (Tryz.f92.body).getD .skip
noncomputable def E_impl_blockCode : Env := envOf TT [(51, con_impl_ArrOk), (174, con_impl_hasBlock)] []
theorem fr_impl_blockCode_0 : FrOk Tryz.prog ⟨E_impl_blockCode, 18, fun _ => none⟩ B_impl_blockCode := frOk_base mixed tt_ok ⟨ok_impl_ArrOk, ok_impl_hasBlock, trivial⟩
noncomputable def D_impl_blockCode_0 : Nat → Option Seg := fun _ => none
abbrev I_impl_blockCode : List Par := [.rd tA, .rd tI]
abbrev U_impl_blockCode : List OT := [⟨false, tI, .fz⟩]
noncomputable def raw_impl_blockCode (a0 : dA) (a1 : Int) : Option (ResD U_impl_blockCode × MutD I_impl_blockCode) :=
  let r1 := n_impl_ArrOk a0
  bif (!r1) then
    some ((1, ()), ())
  else
    bif a0.2.2.2.2.2.2.2.2.2.2.1 then
      some ((6, ()), ())
    else
      let r2 := n_impl_hasBlock a0.2.1 a1
      bif (!r2) then
        some ((2, ()), ())
      else
        some ((0, ()), ())
theorem e_impl_blockCode (x : InD I_impl_blockCode) : execF ⟨E_impl_blockCode, 18, D_impl_blockCode_0⟩ Tryz.f92.results.toList B_impl_blockCode I_impl_blockCode U_impl_blockCode x = raw_impl_blockCode x.1 x.2.1 := by kernel_rfl
theorem ok0_impl_blockCode : ConOk Tryz.prog 92 ⟨I_impl_blockCode, U_impl_blockCode, fun x => raw_impl_blockCode x.1 x.2.1⟩ := conOk_exec (fr_impl_blockCode_0) Tryz.func92 (by kernel_rfl) (by kernel_rfl) Tryz.ntmps92.symm (by decide) (fun x r h => (e_impl_blockCode x).trans h)
noncomputable def n_impl_blockCode (a0 : dA) (a1 : Int) : Int :=
  let r1 := n_impl_ArrOk a0
  bif (!r1) then
    1
  else
    bif a0.2.2.2.2.2.2.2.2.2.2.1 then
      6
    else
      let r2 := n_impl_hasBlock a0.2.1 a1
      bif (!r2) then
        2
      else
        0
noncomputable def con_impl_blockCode : Con := ⟨I_impl_blockCode, U_impl_blockCode, fun x => (fun n => some ((n, ()), ())) (n_impl_blockCode x.1 x.2.1)⟩
theorem nn_impl_blockCode (a0 : dA) (a1 : Int) : raw_impl_blockCode a0 a1 = (fun n => some ((n, ()), ())) (n_impl_blockCode a0 a1) := bif_ty (p := fun (n : Int) => ((n, ()), ())) (bif_some (p := fun (n : Int) => ((n, ()), ())) rfl (bif_some (p := fun (n : Int) => ((n, ()), ())) rfl (bif_some (p := fun (n : Int) => ((n, ()), ())) rfl rfl)))
theorem ok_impl_blockCode : ConOk Tryz.prog 92 con_impl_blockCode := (ok0_impl_blockCode).mono (fun x r _ h => (nn_impl_blockCode x.1 x.2.1).trans h)
theorem impl_code_eq (a : dA) (b : Int) : n_impl_blockCode a b = blockCode a b := by
  unfold n_impl_blockCode blockCode n_impl_ArrOk
  simp only [impl_blk_eq]
  cases arrOk a <;> cases a.2.2.2.2.2.2.2.2.2.2.1 <;> cases blkOk a.2.1 b <;> rfl
end

/-! impl_StripeOf -/
section
noncomputable def B_impl_StripeOf : Code := (Tryz.f94.body).getD .skip
noncomputable def E_impl_StripeOf : Env := envOf TT [(174, con_impl_hasBlock)] []
theorem fr_impl_StripeOf_0 : FrOk Tryz.prog ⟨E_impl_StripeOf, 14, fun _ => none⟩ B_impl_StripeOf := frOk_base mixed tt_ok ⟨ok_impl_hasBlock, trivial⟩
noncomputable def D_impl_StripeOf_0 : Nat → Option Seg := fun _ => none
abbrev I_impl_StripeOf : List Par := [.rd tG, .rd tI]
abbrev U_impl_StripeOf : List OT := [⟨false, tI, .fz⟩]
noncomputable def raw_impl_StripeOf (a0 : dG) (a1 : Int) : Option (ResD U_impl_StripeOf × MutD I_impl_StripeOf) :=
  let r1 := n_impl_hasBlock a0 a1
  bif (!r1) then
    some (((-1), ()), ())
  else
    bif ((IntKind.i64.wrap (a0.1 - 1)) != 0) then
      some (((IntKind.i64.wrap (a1.tdiv (IntKind.i64.wrap (a0.1 - 1)))), ()), ())
    else none
theorem e_impl_StripeOf (x : InD I_impl_StripeOf) : execF ⟨E_impl_StripeOf, 14, D_impl_StripeOf_0⟩ Tryz.f94.results.toList B_impl_StripeOf I_impl_StripeOf U_impl_StripeOf x = raw_impl_StripeOf x.1 x.2.1 := by kernel_rfl
theorem ok0_impl_StripeOf : ConOk Tryz.prog 94 ⟨I_impl_StripeOf, U_impl_StripeOf, fun x => raw_impl_StripeOf x.1 x.2.1⟩ := conOk_exec (fr_impl_StripeOf_0) Tryz.func94 (by kernel_rfl) (by kernel_rfl) Tryz.ntmps94.symm (by decide) (fun x r h => (e_impl_StripeOf x).trans h)
noncomputable def n_impl_StripeOf (a0 : dG) (a1 : Int) : Int := stripeOf a0 a1
theorem nn_impl_StripeOf (a0 : dG) (a1 : Int) (hk : InOk I_impl_StripeOf (a0, a1, ())) : raw_impl_StripeOf a0 a1 = (fun n => some ((n, ()), ())) (n_impl_StripeOf a0 a1) := by
  unfold raw_impl_StripeOf n_impl_StripeOf stripeOf
  rw [impl_blk_eq]
  cases hb : blkOk a0 a1
  · rfl
  · obtain ⟨h1, h2, h3⟩ := blk_split hb
    have h4 := geo_iff.1 h1
    rw [wr (show -9223372036854775808 ≤ a0.1 - 1 by omega) (by omega), show (a0.1 - 1 != 0) = true from bne_iff_ne.2 (by omega), wr (by omega) (by omega)]; rfl
noncomputable def con_impl_StripeOf : Con := ⟨I_impl_StripeOf, U_impl_StripeOf, fun x => (fun n => some ((n, ()), ())) (n_impl_StripeOf x.1 x.2.1)⟩
theorem ok_impl_StripeOf : ConOk Tryz.prog 94 con_impl_StripeOf := (ok0_impl_StripeOf).mono (fun x r hk h => (nn_impl_StripeOf x.1 x.2.1 hk).trans h)
end

/-! impl_DataAt -/
section
noncomputable def B_impl_DataAt : Code := (Tryz.f79.body).getD .skip
noncomputable def E_impl_DataAt : Env := envOf TT [(114, con_impl_within)] []
theorem fr_impl_DataAt_0 : FrOk Tryz.prog ⟨E_impl_DataAt, 9, fun _ => none⟩ B_impl_DataAt := frOk_base mixed tt_ok ⟨ok_impl_within, trivial⟩
noncomputable def D_impl_DataAt_0 : Nat → Option Seg := fun _ => none
abbrev I_impl_DataAt : List Par := [.rd tI]
abbrev U_impl_DataAt : List OT := [⟨false, tI, .fz⟩]
noncomputable def raw_impl_DataAt (a0 : Int) : Option (ResD U_impl_DataAt × MutD I_impl_DataAt) :=
  let r1 := n_impl_within a0 0 1099511627776
  bif (!r1) then
    some (((-1), ()), ())
  else
    some (((IntKind.i64.wrap ((IntKind.i64.wrap (a0 + 2)) + 4)), ()), ())
theorem e_impl_DataAt (x : InD I_impl_DataAt) : execF ⟨E_impl_DataAt, 9, D_impl_DataAt_0⟩ Tryz.f79.results.toList B_impl_DataAt I_impl_DataAt U_impl_DataAt x = raw_impl_DataAt x.1 := by kernel_rfl
theorem ok0_impl_DataAt : ConOk Tryz.prog 79 ⟨I_impl_DataAt, U_impl_DataAt, fun x => raw_impl_DataAt x.1⟩ := conOk_exec (fr_impl_DataAt_0) Tryz.func79 (by kernel_rfl) (by kernel_rfl) Tryz.ntmps79.symm (by decide) (fun x r h => (e_impl_DataAt x).trans h)
noncomputable def n_impl_DataAt (a0 : Int) : Int :=
  let r1 := n_impl_within a0 0 1099511627776
  bif (!r1) then
    (-1)
  else
    (IntKind.i64.wrap ((IntKind.i64.wrap (a0 + 2)) + 4))
noncomputable def con_impl_DataAt : Con := ⟨I_impl_DataAt, U_impl_DataAt, fun x => (fun n => some ((n, ()), ())) (n_impl_DataAt x.1)⟩
theorem nn_impl_DataAt (a0 : Int) : raw_impl_DataAt a0 = (fun n => some ((n, ()), ())) (n_impl_DataAt a0) := bif_ty (p := fun (n : Int) => ((n, ()), ())) (bif_some (p := fun (n : Int) => ((n, ()), ())) rfl rfl)
theorem ok_impl_DataAt : ConOk Tryz.prog 79 con_impl_DataAt := (ok0_impl_DataAt).mono (fun x r _ h => (nn_impl_DataAt x.1).trans h)
theorem impl_dataAt_eq (s : Int) : n_impl_DataAt s = dataAt s := spec_dataAt_eq s
end
end Go.Tf
