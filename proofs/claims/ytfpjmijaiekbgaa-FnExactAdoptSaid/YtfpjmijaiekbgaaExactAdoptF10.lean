/- Functions of the program, and what they come to. -/
import Derived.Test.YtfpjmijaiekbgaaExactAdoptF9
namespace Go.Tf
open Go.Proofs
set_option synthInstance.maxHeartbeats 400000
set_option synthInstance.maxSize 10000
set_option linter.unusedVariables false
set_option linter.unusedSimpArgs false
set_option maxRecDepth 100000
/-! impl_ArrOk -/
section
noncomputable def B_impl_ArrOk : Code := (Try.f23.body).getD .skip
noncomputable def E_impl_ArrOk : Env := envOf TT [(51, con_impl_GeoOk), (52, con_impl_within), (53, con_impl_lostOk), (54, con_impl_dirtyOk), (55, con_impl_MemOk), (56, con_impl_sectors)] []
theorem fr_impl_ArrOk_0 : FrOk Try.prog ⟨E_impl_ArrOk, 103, fun _ => none⟩ B_impl_ArrOk := frOk_base mixed tt_ok ⟨ok_impl_GeoOk, ok_impl_within, ok_impl_lostOk, ok_impl_dirtyOk, ok_impl_MemOk, ok_impl_sectors, trivial⟩
noncomputable def D_impl_ArrOk_0 : Nat → Option Seg := fun _ => none
def L_impl_ArrOk_29 : Shape := ⟨[(1, false, [.ptr 0 0]), (41, false, [.br tM]), (42, false, [.int .i64]), (43, false, [.int .i64])], [(0, [.int .i64, .int .i64, .int .i64, .br tM, .int .i64, .int .i64, .int .i64, .int .i64, .int .i64, .br tW, .int .i64, .bool, .bool])], []⟩
def S_impl_ArrOk_29 : Shape := ⟨[(1, false, [.ptr 0 0]), (41, false, [.br tM]), (42, false, [.int .i64]), (43, false, [.ci .i64 0])], [(0, [.int .i64, .int .i64, .int .i64, .br tM, .int .i64, .int .i64, .int .i64, .int .i64, .int .i64, .br tW, .int .i64, .bool, .bool])], []⟩
def O_impl_ArrOk_29 : Shape := ⟨[(1, false, [.ptr 0 0])], [(0, [.int .i64, .int .i64, .int .i64, .br tM, .int .i64, .int .i64, .int .i64, .int .i64, .int .i64, .br tW, .int .i64, .bool, .bool])], []⟩
def Z_impl_ArrOk_29 : Shape := ⟨[(2, false, [.bool])], [], []⟩
abbrev mk_impl_ArrOk_29 (v0 : List dM) (v1 : Int) (v2 : Int) (v3 : dA) : (L_impl_ArrOk_29).X := ((((), ()), (v0, ()), (v1, ()), (v2, ()), ()), ((v3.1, v3.2.1.1, v3.2.1.2, v3.2.2.1, v3.2.2.2.1, v3.2.2.2.2.1, v3.2.2.2.2.2.1, v3.2.2.2.2.2.2.1, v3.2.2.2.2.2.2.2.1, v3.2.2.2.2.2.2.2.2.1, v3.2.2.2.2.2.2.2.2.2.1, v3.2.2.2.2.2.2.2.2.2.2.1, v3.2.2.2.2.2.2.2.2.2.2.2, ()), ()), ())
abbrev ms_impl_ArrOk_29 (v0 : List dM) (v1 : Int) (v2 : dA) : (S_impl_ArrOk_29).X := ((((), ()), (v0, ()), (v1, ()), ((), ()), ()), ((v2.1, v2.2.1.1, v2.2.1.2, v2.2.2.1, v2.2.2.2.1, v2.2.2.2.2.1, v2.2.2.2.2.2.1, v2.2.2.2.2.2.2.1, v2.2.2.2.2.2.2.2.1, v2.2.2.2.2.2.2.2.2.1, v2.2.2.2.2.2.2.2.2.2.1, v2.2.2.2.2.2.2.2.2.2.2.1, v2.2.2.2.2.2.2.2.2.2.2.2, ()), ()), ())
abbrev mo_impl_ArrOk_29 (v0 : dA) : (O_impl_ArrOk_29).X := ((((), ()), ()), ((v0.1, v0.2.1.1, v0.2.1.2, v0.2.2.1, v0.2.2.2.1, v0.2.2.2.2.1, v0.2.2.2.2.2.1, v0.2.2.2.2.2.2.1, v0.2.2.2.2.2.2.2.1, v0.2.2.2.2.2.2.2.2.1, v0.2.2.2.2.2.2.2.2.2.1, v0.2.2.2.2.2.2.2.2.2.2.1, v0.2.2.2.2.2.2.2.2.2.2.2, ()), ()), ())
abbrev mz_impl_ArrOk_29 (v0 : Bool) : (Z_impl_ArrOk_29).X := (((v0, ()), ()), (), ())
noncomputable def st_impl_ArrOk_29 (v0 : List dM) (v1 : Int) (v2 : Int) (v3 : Int) (v4 : Int) (v5 : Int) (v6 : List dM) (v7 : Int) (v8 : Int) (v9 : Int) (v10 : Int) (v11 : Int) (v12 : List dW) (v13 : Int) (v14 : Bool) (v15 : Bool) : Option ((L_impl_ArrOk_29).X ⊕ ((O_impl_ArrOk_29).X ⊕ (Z_impl_ArrOk_29).X)) :=
  bif (ltb v2 v1) then
    bif (inb v2 v0.length) then
      let r7 := n_impl_MemOk ((nth v0 v2 ([], [], false, [])).1, ((nth v0 v2 ([], [], false, [])).2).1, (((nth v0 v2 ([], [], false, [])).2).2))
      bif (!(!r7)) then
        let r8 := n_impl_sectors (v4, v5)
        bif (!((((nth v0 v2 ([], [], false, [])).1).length : Int) != r8)) then
          bif (((nth v0 v2 ([], [], false, [])).2).2).1 then
            bif (v7 != v2) then
              bif (!v15) then
                some (.inr (.inr (((false, ()), ()), (), ())))
              else
                some (.inl ((((), ()), (v0, ()), (v1, ()), ((IntKind.i64.wrap (v2 + 1)), ()), ()), ((v3, v4, v5, v6, v7, v8, v9, v10, v11, v12, v13, v14, v15, ()), ()), ()))
            else
              some (.inl ((((), ()), (v0, ()), (v1, ()), ((IntKind.i64.wrap (v2 + 1)), ()), ()), ((v3, v4, v5, v6, v7, v8, v9, v10, v11, v12, v13, v14, v15, ()), ()), ()))
          else
            some (.inl ((((), ()), (v0, ()), (v1, ()), ((IntKind.i64.wrap (v2 + 1)), ()), ()), ((v3, v4, v5, v6, v7, v8, v9, v10, v11, v12, v13, v14, v15, ()), ()), ()))
        else
          some (.inr (.inr (((false, ()), ()), (), ())))
      else
        some (.inr (.inr (((false, ()), ()), (), ())))
    else none
  else
    some (.inr (.inl ((((), ()), ()), ((v3, v4, v5, v6, v7, v8, v9, v10, v11, v12, v13, v14, v15, ()), ()), ())))
noncomputable def stx_impl_ArrOk_29 (x : (L_impl_ArrOk_29).X) := st_impl_ArrOk_29 x.1.2.1.1 x.1.2.2.1.1 x.1.2.2.2.1.1 x.2.1.1.1 x.2.1.1.2.1 x.2.1.1.2.2.1 x.2.1.1.2.2.2.1 x.2.1.1.2.2.2.2.1 x.2.1.1.2.2.2.2.2.1 x.2.1.1.2.2.2.2.2.2.1 x.2.1.1.2.2.2.2.2.2.2.1 x.2.1.1.2.2.2.2.2.2.2.2.1 x.2.1.1.2.2.2.2.2.2.2.2.2.1 x.2.1.1.2.2.2.2.2.2.2.2.2.2.1 x.2.1.1.2.2.2.2.2.2.2.2.2.2.2.1 x.2.1.1.2.2.2.2.2.2.2.2.2.2.2.2.1
def em_impl_ArrOk_29 (x : (S_impl_ArrOk_29).X) : (L_impl_ArrOk_29).X := ((((), ()), (x.1.2.1.1, ()), (x.1.2.2.1.1, ()), (0, ()), ()), ((x.2.1.1.1, x.2.1.1.2.1, x.2.1.1.2.2.1, x.2.1.1.2.2.2.1, x.2.1.1.2.2.2.2.1, x.2.1.1.2.2.2.2.2.1, x.2.1.1.2.2.2.2.2.2.1, x.2.1.1.2.2.2.2.2.2.2.1, x.2.1.1.2.2.2.2.2.2.2.2.1, x.2.1.1.2.2.2.2.2.2.2.2.2.1, x.2.1.1.2.2.2.2.2.2.2.2.2.2.1, x.2.1.1.2.2.2.2.2.2.2.2.2.2.2.1, x.2.1.1.2.2.2.2.2.2.2.2.2.2.2.2.1, ()), ()), ())
noncomputable def c_impl_ArrOk_29 : Code := (subN B_impl_ArrOk 64 116).getD .skip
theorem a_impl_ArrOk_29 : subN B_impl_ArrOk 64 29 = some (.block 0 (.loop c_impl_ArrOk_29)) := by kernel_rfl
theorem r_impl_ArrOk_29 (x : (L_impl_ArrOk_29).X) : roundT ⟨E_impl_ArrOk, 103, D_impl_ArrOk_0⟩ 0 c_impl_ArrOk_29 116 L_impl_ArrOk_29 O_impl_ArrOk_29 Z_impl_ArrOk_29 x = stx_impl_ArrOk_29 x := by kernel_rfl
noncomputable def fu_impl_ArrOk_29 (x : (S_impl_ArrOk_29).X) : Nat := (fun (u0 : List dM) (u1 : Int) (u2 : Int) (u3 : Int) (u4 : Int) (u5 : List dM) (u6 : Int) (u7 : Int) (u8 : Int) (u9 : Int) (u10 : Int) (u11 : List dW) (u12 : Int) (u13 : Bool) (u14 : Bool) => 18446744073709551616) x.1.2.1.1 x.1.2.2.1.1 x.2.1.1.1 x.2.1.1.2.1 x.2.1.1.2.2.1 x.2.1.1.2.2.2.1 x.2.1.1.2.2.2.2.1 x.2.1.1.2.2.2.2.2.1 x.2.1.1.2.2.2.2.2.2.1 x.2.1.1.2.2.2.2.2.2.2.1 x.2.1.1.2.2.2.2.2.2.2.2.1 x.2.1.1.2.2.2.2.2.2.2.2.2.1 x.2.1.1.2.2.2.2.2.2.2.2.2.2.1 x.2.1.1.2.2.2.2.2.2.2.2.2.2.2.1 x.2.1.1.2.2.2.2.2.2.2.2.2.2.2.2.1
noncomputable def F_impl_ArrOk_29 (x : (S_impl_ArrOk_29).X) : Option ((O_impl_ArrOk_29).X ⊕ (Z_impl_ArrOk_29).X) := loopN stx_impl_ArrOk_29 (fu_impl_ArrOk_29 x) (em_impl_ArrOk_29 x)
noncomputable def sg_impl_ArrOk_29 : Seg := ⟨S_impl_ArrOk_29, O_impl_ArrOk_29, Z_impl_ArrOk_29, F_impl_ArrOk_29⟩
noncomputable def D_impl_ArrOk_1 : Nat → Option Seg := fun q => bif Nat.beq q 29 then some sg_impl_ArrOk_29 else D_impl_ArrOk_0 q
theorem fr_impl_ArrOk_1 : FrOk Try.prog ⟨E_impl_ArrOk, 103, D_impl_ArrOk_1⟩ B_impl_ArrOk := (fr_impl_ArrOk_0).loop (sg := sg_impl_ArrOk_29) L_impl_ArrOk_29 em_impl_ArrOk_29 (by decide) a_impl_ArrOk_29 stx_impl_ArrOk_29 fu_impl_ArrOk_29 (by decide) (fun _ => rfl) (fun x r _ h => h) r_impl_ArrOk_29
abbrev I_impl_ArrOk : List Par := [.rd tA]
abbrev U_impl_ArrOk : List OT := [⟨false, tB, .fz⟩]
noncomputable def raw_impl_ArrOk (a0 : dA) : Option (ResD U_impl_ArrOk × MutD I_impl_ArrOk) :=
  let r1 := n_impl_GeoOk a0.2.1
  bif (!(!r1)) then
    bif (!((a0.2.2.1.length : Int) != a0.2.1.1)) then
      let r2 := n_impl_within a0.1 1 60000
      bif (!(!r2)) then
        let r3 := n_impl_lostOk a0.2.1 a0.2.2.2.1 a0.2.2.2.2.1
        bif (!(!r3)) then
          bnd (o_impl_dirtyOk a0) fun r4 =>
          bif (!r4.1.1) then
            some ((false, ()), ())
          else
            segM (F_impl_ArrOk_29 ((((), ()), (a0.2.2.1, ()), ((a0.2.2.1.length : Int), ()), ((), ()), ()), ((a0.1, a0.2.1.1, a0.2.1.2, a0.2.2.1, a0.2.2.2.1, a0.2.2.2.2.1, a0.2.2.2.2.2.1, a0.2.2.2.2.2.2.1, a0.2.2.2.2.2.2.2.1, a0.2.2.2.2.2.2.2.2.1, a0.2.2.2.2.2.2.2.2.2.1, a0.2.2.2.2.2.2.2.2.2.2.1, a0.2.2.2.2.2.2.2.2.2.2.2, ()), ()), ())) (fun y8 =>
              let r10 := n_impl_within y8.2.1.1.2.2.2.2.2.2.1 0 60000
              bif r10 then
                let r11 := n_impl_within y8.2.1.1.2.2.2.2.2.2.2.1 0 60000
                bif r11 then
                  let r12 := n_impl_within y8.2.1.1.2.2.2.2.2.2.2.2.1 0 60000
                  bif r12 then
                    let r13 := n_impl_within (IntKind.i64.wrap (y8.2.1.1.2.2.2.2.2.2.1 - y8.2.1.1.2.2.2.2.2.2.2.1)) 0 4
                    bif r13 then
                      let r14 := n_impl_within y8.2.1.1.2.2.2.2.2.2.2.2.2.2.1 (-1) 1000
                      some ((r14, ()), ())
                    else
                      some ((false, ()), ())
                  else
                    some ((false, ()), ())
                else
                  some ((false, ()), ())
              else
                some ((false, ()), ())) (fun y8 =>
              some ((y8.1.1.1, ()), ()))
        else
          some ((false, ()), ())
      else
        some ((false, ()), ())
    else
      some ((false, ()), ())
  else
    some ((false, ()), ())
theorem e_impl_ArrOk (x : InD I_impl_ArrOk) : execF ⟨E_impl_ArrOk, 103, D_impl_ArrOk_1⟩ Try.f23.results.toList B_impl_ArrOk I_impl_ArrOk U_impl_ArrOk x = raw_impl_ArrOk x.1 := by kernel_rfl
theorem ok0_impl_ArrOk : ConOk Try.prog 23 ⟨I_impl_ArrOk, U_impl_ArrOk, fun x => raw_impl_ArrOk x.1⟩ := conOk_exec (fr_impl_ArrOk_1) Try.func23 (by kernel_rfl) (by kernel_rfl) Try.ntmps23.symm (by decide) (fun x r h => (e_impl_ArrOk x).trans h)
theorem seq_fin {S T G F z TS le : Bool} (h1 : T = true → TS = true → S = true) (h2 : S = true → T = true → z = (TS && le)) :
    (bif S then bif T then bif G then bif z then some ((F, ()), ()) else some ((false, ()), ()) else some ((false, ()), ()) else some ((false, ()), ()) else some ((false, ()), ())) = some (((T && (TS && (le && (G && F)))), ()), ()) := by
  cases S
  · cases T
    · rfl
    · cases TS
      · rfl
      · exact absurd (h1 rfl rfl) Bool.false_ne_true
  · cases T
    · cases G <;> rfl
    · rw [h2 rfl rfl]
      cases TS <;> cases le <;> cases G <;> rfl
noncomputable def n_impl_ArrOk (a0 : dA) : Bool := arrOk a0
theorem nn_impl_ArrOk (a0 : dA) (hk : InOk I_impl_ArrOk (a0, ())) : raw_impl_ArrOk a0 = (fun n => some ((n, ()), ())) (n_impl_ArrOk a0) := by
  have hb : a0.2.2.1.length * 80 ≤ 2 ^ 47 := hk.1.2.2.1.1
  unfold raw_impl_ArrOk n_impl_ArrOk arrOk
  simp only [geo_eq, impl_in_eq, in_eq]
  cases hg : n_spec_GeoOk a0.2.1
  · rfl
  have hg2 := geo_iff.1 hg
  have h1 : F_impl_ArrOk_29 (ms_impl_ArrOk_29 a0.2.2.1 a0.2.2.1.length a0) = some (bif (List.range a0.2.2.1.length).any (memBad a0) then .inr (mz_impl_ArrOk_29 false) else .inl (mo_impl_ArrOk_29 a0)) :=
    loopN_all (step := stx_impl_ArrOk_29) (fun i => mk_impl_ArrOk_29 a0.2.2.1 a0.2.2.1.length i a0) a0.2.2.1.length (memBad a0) _ _ (fun i hi => by
      simp only [stx_impl_ArrOk_29, mk_impl_ArrOk_29, st_impl_ArrOk_29, ltb_t (show (i : Int) < a0.2.2.1.length by omega), cond_true, wr (show -9223372036854775808 ≤ (i : Int) + 1 by omega) (by omega), Int.natCast_add, Int.natCast_one, Int.toNat_natCast, inb_nat hi, pr_eta, n_impl_MemOk, memBad, n_impl_sectors, wr (show -9223372036854775808 ≤ 6 + a0.2.1.2 by omega) (by omega), noMem]
      rw [show (a0.2.2.2.1 != (i : Int)) = ((i : Int) != a0.2.2.2.1) from bne_comm]
      cases memOk (nth a0.2.2.1 i ([], [], false, [])) <;> cases (((nth a0.2.2.1 i ([], [], false, [])).1.length : Int) != 6 + a0.2.1.2) <;> cases (nth a0.2.2.1 i ([], [], false, [])).2.2.1 <;> cases ((i : Int) != a0.2.2.2.1) <;> cases a0.2.2.2.2.2.2.2.2.2.2.2 <;> rfl) (by simp only [stx_impl_ArrOk_29, mk_impl_ArrOk_29, st_impl_ArrOk_29, ltb_f (Int.le_refl _), cond_false]) _ (by show _ < 18446744073709551616; omega)
  rw [ot_impl_dirtyOk a0 hg, h1]
  simp only [bnd_some, n_impl_dirtyOk, n_impl_lostOk, impl_in_eq, in_eq, wr (show -9223372036854775808 ≤ a0.2.1.1 - 1 by omega) (by omega), memsOk]
  have hw : (leb 0 a0.2.2.2.2.2.1 && leb a0.2.2.2.2.2.1 60000) = true → (leb 0 a0.2.2.2.2.2.2.1 && leb a0.2.2.2.2.2.2.1 60000) = true → IntKind.i64.wrap (a0.2.2.2.2.2.1 - a0.2.2.2.2.2.2.1) = a0.2.2.2.2.2.1 - a0.2.2.2.2.2.2.1 := fun h h' => by
    rw [Bool.and_eq_true, leb_iff, leb_iff] at h h'
    exact wr (by omega) (by omega)
  simp only [bne, Bool.not_not, cond_true, Bool.true_and]
  have h2 : (leb 0 a0.2.2.2.2.2.1 && leb a0.2.2.2.2.2.1 60000) = true → (leb 0 a0.2.2.2.2.2.2.1 && leb a0.2.2.2.2.2.2.1 60000) = true → (leb 0 (IntKind.i64.wrap (a0.2.2.2.2.2.1 - a0.2.2.2.2.2.2.1)) && leb (IntKind.i64.wrap (a0.2.2.2.2.2.1 - a0.2.2.2.2.2.2.1)) 4) = ((leb a0.2.2.2.2.2.2.1 a0.2.2.2.2.2.1 && leb a0.2.2.2.2.2.1 60000) && leb a0.2.2.2.2.2.1 (a0.2.2.2.2.2.2.1 + 4)) := fun h h' => by
    rw [hw h h', Bool.eq_iff_iff]
    simp only [Bool.and_eq_true, leb_iff] at h h' ⊢
    omega
  have h3 : (leb 0 a0.2.2.2.2.2.2.1 && leb a0.2.2.2.2.2.2.1 60000) = true → (leb a0.2.2.2.2.2.2.1 a0.2.2.2.2.2.1 && leb a0.2.2.2.2.2.1 60000) = true → (leb 0 a0.2.2.2.2.2.1 && leb a0.2.2.2.2.2.1 60000) = true := fun h h' => by
    simp only [Bool.and_eq_true, leb_iff] at h h' ⊢
    omega
  cases ((a0.2.2.1.length : Int) == a0.2.1.1)
  · cases (leb 1 a0.1 && leb a0.1 60000) <;> cases (List.range a0.2.2.1.length).any (memBad a0) <;> rfl
  cases (leb 1 a0.1 && leb a0.1 60000)
  · rfl
  cases (leb (-1) a0.2.2.2.1 && leb a0.2.2.2.1 (a0.2.1.1 - 1))
  · cases (List.range a0.2.2.1.length).any (memBad a0) <;> cases dirtyOk a0.2.1 a0.2.2.2.2.2.2.2.2.1 <;> rfl
  cases (leb 0 a0.2.2.2.2.1 && leb a0.2.2.2.2.1 a0.2.1.2)
  · cases (List.range a0.2.2.1.length).any (memBad a0) <;> cases dirtyOk a0.2.1 a0.2.2.2.2.2.2.2.2.1 <;> rfl
  cases dirtyOk a0.2.1 a0.2.2.2.2.2.2.2.2.1
  · cases (List.range a0.2.2.1.length).any (memBad a0) <;> cases (a0.2.2.2.1 == -1) <;> cases (a0.2.2.2.2.1 == 0) <;> rfl
  cases (List.range a0.2.2.1.length).any (memBad a0)
  · cases (a0.2.2.2.1 == -1) <;> cases (a0.2.2.2.2.1 == 0)
    case true.false => rfl
    all_goals exact seq_fin h3 h2
  · cases (a0.2.2.2.1 == -1) <;> cases (a0.2.2.2.2.1 == 0) <;> rfl
noncomputable def con_impl_ArrOk : Con := ⟨I_impl_ArrOk, U_impl_ArrOk, fun x => (fun n => some ((n, ()), ())) (n_impl_ArrOk x.1)⟩
theorem ok_impl_ArrOk : ConOk Try.prog 23 con_impl_ArrOk := (ok0_impl_ArrOk).mono (fun x r hk h => (nn_impl_ArrOk x.1 hk).trans h)
end

/-! impl_Arr_op -/
section
noncomputable def B_impl_Arr_op : Code := (Try.f89.body).getD .skip
noncomputable def E_impl_Arr_op : Env := envOf TT [] []
theorem fr_impl_Arr_op_0 : FrOk Try.prog ⟨E_impl_Arr_op, 26, fun _ => none⟩ B_impl_Arr_op := frOk_base mixed tt_ok trivial
noncomputable def D_impl_Arr_op_0 : Nat → Option Seg := fun _ => none
abbrev I_impl_Arr_op : List Par := [.pt tA (.pr .fz (.pr (.pr .fz .fz) (.pr (.ow (.pr (.ow (.ow .fz)) (.pr (.ow (.pr .fz (.ow .fz))) (.pr .fz (.ow .fz))))) (.pr .fz (.pr .fz (.pr .fz (.pr .fz (.pr .fz (.pr (.ow (.pr .fz (.ow .fz))) (.pr .fz (.pr .fz .fz)))))))))))]
abbrev U_impl_Arr_op : List OT := [⟨false, tB, .fz⟩]
noncomputable def raw_impl_Arr_op (a0 : dA) : Option (ResD U_impl_Arr_op × MutD I_impl_Arr_op) :=
  bif (a0.2.2.2.2.2.2.2.2.2.1 == 0) then
    some ((false, ()), ((a0.1, a0.2.1, a0.2.2.1, a0.2.2.2.1, a0.2.2.2.2.1, a0.2.2.2.2.2.1, a0.2.2.2.2.2.2.1, a0.2.2.2.2.2.2.2.1, a0.2.2.2.2.2.2.2.2.1, (-1), true, a0.2.2.2.2.2.2.2.2.2.2.2), ()))
  else
    bif (ltb 0 a0.2.2.2.2.2.2.2.2.2.1) then
      some ((true, ()), ((a0.1, a0.2.1, a0.2.2.1, a0.2.2.2.1, a0.2.2.2.2.1, a0.2.2.2.2.2.1, a0.2.2.2.2.2.2.1, a0.2.2.2.2.2.2.2.1, a0.2.2.2.2.2.2.2.2.1, (IntKind.i64.wrap (a0.2.2.2.2.2.2.2.2.2.1 - 1)), a0.2.2.2.2.2.2.2.2.2.2), ()))
    else
      some ((true, ()), (a0, ()))
theorem e_impl_Arr_op (x : InD I_impl_Arr_op) : execF ⟨E_impl_Arr_op, 26, D_impl_Arr_op_0⟩ Try.f89.results.toList B_impl_Arr_op I_impl_Arr_op U_impl_Arr_op x = raw_impl_Arr_op x.1 := by kernel_rfl
theorem ok0_impl_Arr_op : ConOk Try.prog 89 ⟨I_impl_Arr_op, U_impl_Arr_op, fun x => raw_impl_Arr_op x.1⟩ := conOk_exec (fr_impl_Arr_op_0) Try.func89 (by kernel_rfl) (by kernel_rfl) Try.ntmps89.symm (by decide) (fun x r h => (e_impl_Arr_op x).trans h)
noncomputable def n_impl_Arr_op (a0 : dA) : Bool × dA :=
  bif (a0.2.2.2.2.2.2.2.2.2.1 == 0) then
    (false, (a0.1, a0.2.1, a0.2.2.1, a0.2.2.2.1, a0.2.2.2.2.1, a0.2.2.2.2.2.1, a0.2.2.2.2.2.2.1, a0.2.2.2.2.2.2.2.1, a0.2.2.2.2.2.2.2.2.1, (-1), true, a0.2.2.2.2.2.2.2.2.2.2.2))
  else
    bif (ltb 0 a0.2.2.2.2.2.2.2.2.2.1) then
      (true, (a0.1, a0.2.1, a0.2.2.1, a0.2.2.2.1, a0.2.2.2.2.1, a0.2.2.2.2.2.1, a0.2.2.2.2.2.2.1, a0.2.2.2.2.2.2.2.1, a0.2.2.2.2.2.2.2.2.1, (IntKind.i64.wrap (a0.2.2.2.2.2.2.2.2.2.1 - 1)), a0.2.2.2.2.2.2.2.2.2.2))
    else
      (true, a0)
noncomputable def con_impl_Arr_op : Con := ⟨I_impl_Arr_op, U_impl_Arr_op, fun x => (fun n => some ((n.1, ()), (n.2, ()))) (n_impl_Arr_op x.1)⟩
theorem nn_impl_Arr_op (a0 : dA) : raw_impl_Arr_op a0 = (fun n => some ((n.1, ()), (n.2, ()))) (n_impl_Arr_op a0) := bif_ty (p := fun (n : Bool × dA) => ((n.1, ()), (n.2, ()))) (bif_some (p := fun (n : Bool × dA) => ((n.1, ()), (n.2, ()))) rfl (bif_some (p := fun (n : Bool × dA) => ((n.1, ()), (n.2, ()))) rfl rfl))
theorem ok_impl_Arr_op : ConOk Try.prog 89 con_impl_Arr_op := (ok0_impl_Arr_op).mono (fun x r _ h => (nn_impl_Arr_op x.1).trans h)
theorem impl_op_eq {a : dA} (h : downA a = false) : n_impl_Arr_op a = opA a := by
  unfold n_impl_Arr_op opA
  rw [h]
  cases (a.2.2.2.2.2.2.2.2.2.1 == 0)
  · cases ltb 0 a.2.2.2.2.2.2.2.2.2.1
    · rfl
    · show (true, _) = (true, setFD a _ false)
      unfold setFD
      rw [show a.2.2.2.2.2.2.2.2.2.2 = (downA a, a.2.2.2.2.2.2.2.2.2.2.2) from rfl, h]
  · rfl
end

/-! impl_FlushMem -/
section
noncomputable def B_impl_FlushMem : Code := (Try.f90.body).getD .skip
noncomputable def E_impl_FlushMem : Env := envOf TT [(49, con_impl_copyInts), (55, con_impl_MemOk), (74, con_impl_copyMem)] []
theorem fr_impl_FlushMem_0 : FrOk Try.prog ⟨E_impl_FlushMem, 34, fun _ => none⟩ B_impl_FlushMem := frOk_base mixed tt_ok ⟨ok_impl_copyInts, ok_impl_MemOk, ok_impl_copyMem, trivial⟩
noncomputable def D_impl_FlushMem_0 : Nat → Option Seg := fun _ => none
def L_impl_FlushMem_61 : Shape := ⟨[(2, false, [.ptr 64 0]), (3, false, [.ptr 4224 0]), (17, false, [.br tW]), (18, false, [.int .i64]), (19, false, [.int .i64])], [(64, [.nil, .nil, .bool, .nil]), (4224, [.at 800000000, .at 800000001, .bool, .at 800000002])], [(800000000, tL, (.ow .fz)), (800000001, tW, (.pr .fz (.ow .fz))), (800000002, tI, .fz)]⟩
def S_impl_FlushMem_61 : Shape := ⟨[(2, false, [.ptr 64 0]), (3, false, [.ptr 4224 0]), (17, false, [.br tW]), (18, false, [.int .i64]), (19, false, [.ci .i64 0])], [(64, [.nil, .nil, .bool, .nil]), (4224, [.at 800000000, .at 800000001, .bool, .at 800000002])], [(800000000, tL, (.ow .fz)), (800000001, tW, (.pr .fz (.ow .fz))), (800000002, tI, .fz)]⟩
def O_impl_FlushMem_61 : Shape := ⟨[(2, false, [.ptr 64 0]), (3, false, [.ptr 4224 0])], [(64, [.nil, .nil, .bool, .nil]), (4224, [.at 800000000, .at 800000001, .bool, .at 800000002])], [(800000000, tL, (.ow .fz)), (800000001, tW, (.pr .fz (.ow .fz))), (800000002, tI, .fz)]⟩
def Z_impl_FlushMem_61 : Shape := ⟨[], [], []⟩
abbrev mk_impl_FlushMem_61 (v0 : List dW) (v1 : Int) (v2 : Int) (v3 : dM) (v4 : dM) : (L_impl_FlushMem_61).X := ((((), ()), ((), ()), (v0, ()), (v1, ()), (v2, ()), ()), (((), (), v3.2.2.1, (), ()), ((), (), v4.2.2.1, (), ()), ()), (v4.1, v4.2.1, v4.2.2.2, ()))
abbrev ms_impl_FlushMem_61 (v0 : List dW) (v1 : Int) (v2 : dM) (v3 : dM) : (S_impl_FlushMem_61).X := ((((), ()), ((), ()), (v0, ()), (v1, ()), ((), ()), ()), (((), (), v2.2.2.1, (), ()), ((), (), v3.2.2.1, (), ()), ()), (v3.1, v3.2.1, v3.2.2.2, ()))
abbrev mo_impl_FlushMem_61 (v0 : dM) (v1 : dM) : (O_impl_FlushMem_61).X := ((((), ()), ((), ()), ()), (((), (), v0.2.2.1, (), ()), ((), (), v1.2.2.1, (), ()), ()), (v1.1, v1.2.1, v1.2.2.2, ()))
noncomputable def st_impl_FlushMem_61 (v0 : List dW) (v1 : Int) (v2 : Int) (v3 : Bool) (v4 : Bool) (v5 : List (List Int)) (v6 : List dW) (v7 : List Int) : Option ((L_impl_FlushMem_61).X ⊕ ((O_impl_FlushMem_61).X ⊕ (Z_impl_FlushMem_61).X)) :=
  bif (ltb v2 v1) then
    bif (inb v2 v0.length) then
      let r4 := n_impl_copyInts ((nth v0 v2 (0, [])).2)
      bif (inb ((nth v0 v2 (0, [])).1) v5.length) then
        some (.inl ((((), ()), ((), ()), (v0, ()), (v1, ()), ((IntKind.i64.wrap (v2 + 1)), ()), ()), (((), (), v3, (), ()), ((), (), v4, (), ()), ()), ((v5.set ((nth v0 v2 (0, [])).1).toNat r4), v6, v7, ())))
      else none
    else none
  else
    some (.inr (.inl ((((), ()), ((), ()), ()), (((), (), v3, (), ()), ((), (), v4, (), ()), ()), (v5, v6, v7, ()))))
noncomputable def stx_impl_FlushMem_61 (x : (L_impl_FlushMem_61).X) := st_impl_FlushMem_61 x.1.2.2.1.1 x.1.2.2.2.1.1 x.1.2.2.2.2.1.1 x.2.1.1.2.2.1 x.2.1.2.1.2.2.1 x.2.2.1 x.2.2.2.1 x.2.2.2.2.1
def em_impl_FlushMem_61 (x : (S_impl_FlushMem_61).X) : (L_impl_FlushMem_61).X := ((((), ()), ((), ()), (x.1.2.2.1.1, ()), (x.1.2.2.2.1.1, ()), (0, ()), ()), (((), (), x.2.1.1.2.2.1, (), ()), ((), (), x.2.1.2.1.2.2.1, (), ()), ()), (x.2.2.1, x.2.2.2.1, x.2.2.2.2.1, ()))
noncomputable def c_impl_FlushMem_61 : Code := (subN B_impl_FlushMem 64 244).getD .skip
theorem a_impl_FlushMem_61 : subN B_impl_FlushMem 64 61 = some (.block 0 (.loop c_impl_FlushMem_61)) := by kernel_rfl
theorem r_impl_FlushMem_61 (x : (L_impl_FlushMem_61).X) : roundT ⟨E_impl_FlushMem, 34, D_impl_FlushMem_0⟩ 0 c_impl_FlushMem_61 244 L_impl_FlushMem_61 O_impl_FlushMem_61 Z_impl_FlushMem_61 x = stx_impl_FlushMem_61 x := by kernel_rfl
noncomputable def fu_impl_FlushMem_61 (x : (S_impl_FlushMem_61).X) : Nat := (fun (u0 : List dW) (u1 : Int) (u2 : Bool) (u3 : Bool) (u4 : List (List Int)) (u5 : List dW) (u6 : List Int) => 18446744073709551616) x.1.2.2.1.1 x.1.2.2.2.1.1 x.2.1.1.2.2.1 x.2.1.2.1.2.2.1 x.2.2.1 x.2.2.2.1 x.2.2.2.2.1
noncomputable def F_impl_FlushMem_61 (x : (S_impl_FlushMem_61).X) : Option ((O_impl_FlushMem_61).X ⊕ (Z_impl_FlushMem_61).X) := loopN stx_impl_FlushMem_61 (fu_impl_FlushMem_61 x) (em_impl_FlushMem_61 x)
noncomputable def sg_impl_FlushMem_61 : Seg := ⟨S_impl_FlushMem_61, O_impl_FlushMem_61, Z_impl_FlushMem_61, F_impl_FlushMem_61⟩
noncomputable def D_impl_FlushMem_1 : Nat → Option Seg := fun q => bif Nat.beq q 61 then some sg_impl_FlushMem_61 else D_impl_FlushMem_0 q
theorem fr_impl_FlushMem_1 : FrOk Try.prog ⟨E_impl_FlushMem, 34, D_impl_FlushMem_1⟩ B_impl_FlushMem := (fr_impl_FlushMem_0).loop (sg := sg_impl_FlushMem_61) L_impl_FlushMem_61 em_impl_FlushMem_61 (by decide) a_impl_FlushMem_61 stx_impl_FlushMem_61 fu_impl_FlushMem_61 (by decide) (fun _ => rfl) (fun x r _ h => h) r_impl_FlushMem_61
abbrev I_impl_FlushMem : List Par := [.rd tM]
abbrev U_impl_FlushMem : List OT := [⟨false, tM, (.pr (.ow (.ow .fz)) (.pr (.ow (.pr .fz (.ow .fz))) (.pr .fz (.ow .fz))))⟩]
noncomputable def raw_impl_FlushMem (a0 : dM) : Option (ResD U_impl_FlushMem × MutD I_impl_FlushMem) :=
  let r1 := n_impl_copyMem a0
  let r2 := n_impl_MemOk a0
  bif (!(!r2)) then
    bif a0.2.2.1 then
      some ((r1, ()), ())
    else
      segM (F_impl_FlushMem_61 ((((), ()), ((), ()), (a0.2.1, ()), ((a0.2.1.length : Int), ()), ((), ()), ()), (((), (), false, (), ()), ((), (), r1.2.2.1, (), ()), ()), (r1.1, r1.2.1, r1.2.2.2, ()))) (fun y4 =>
        some (((y4.2.2.1, [], y4.2.1.2.1.2.2.1, y4.2.2.2.2.1), ()), ())) (fun y4 =>
        none)
  else
    some ((r1, ()), ())
theorem e_impl_FlushMem (x : InD I_impl_FlushMem) : execF ⟨E_impl_FlushMem, 34, D_impl_FlushMem_1⟩ Try.f90.results.toList B_impl_FlushMem I_impl_FlushMem U_impl_FlushMem x = raw_impl_FlushMem x.1 := by kernel_rfl
theorem ok0_impl_FlushMem : ConOk Try.prog 90 ⟨I_impl_FlushMem, U_impl_FlushMem, fun x => raw_impl_FlushMem x.1⟩ := conOk_exec (fr_impl_FlushMem_1) Try.func90 (by kernel_rfl) (by kernel_rfl) Try.ntmps90.symm (by decide) (fun x r h => (e_impl_FlushMem x).trans h)
noncomputable def n_impl_FlushMem (a0 : dM) : dM := flushMem a0
theorem nn_impl_FlushMem (a0 : dM) (hk : InOk I_impl_FlushMem (a0, ())) : raw_impl_FlushMem a0 = (fun n => some ((n, ()), ())) (n_impl_FlushMem a0) := by
  have hb2 : a0.2.1.length * 32 ≤ 2 ^ 47 := hk.1.2.1.1
  unfold raw_impl_FlushMem n_impl_FlushMem flushMem
  simp only [n_impl_copyMem, n_impl_MemOk]
  cases hm : memOk a0
  · rfl
  have h1 : F_impl_FlushMem_61 (ms_impl_FlushMem_61 a0.2.1 a0.2.1.length noMem a0) = some (.inl (mo_impl_FlushMem_61 noMem (layKept (fun _ => true) a0.2.1 a0.1, a0.2))) :=
    loopN_rng (step := stx_impl_FlushMem_61) a0.2.1.length (fun i s => mk_impl_FlushMem_61 a0.2.1 a0.2.1.length i noMem (s, a0.2)) (layOne (fun _ => true) a0.2.1) (fun i s => s.length = a0.1.length) (fun s => .inl (mo_impl_FlushMem_61 noMem (s, a0.2))) (fun i s hi hs => by
      have hw := (memOk_wr hm hi).1
      refine ⟨?_, layOne_len.trans hs⟩
      simp only [stx_impl_FlushMem_61, mk_impl_FlushMem_61, st_impl_FlushMem_61, ltb_t (show (i : Int) < a0.2.1.length by omega), cond_true, wr (show -9223372036854775808 ≤ (i : Int) + 1 by omega) (by omega), Int.natCast_add, Int.natCast_one, Int.toNat_natCast, inb_nat hi, hs, hw, layOne, n_impl_copyInts]) (fun s hs => by simp only [stx_impl_FlushMem_61, mk_impl_FlushMem_61, st_impl_FlushMem_61, ltb_f (Int.le_refl _), cond_false]) a0.1 rfl _ (by show _ < 18446744073709551616; omega)
  rw [h1]
  cases hf : a0.2.2.1
  · exact congrArg (fun z => some (((layKept (fun _ => true) a0.2.1 a0.1, ([] : List dW), z, a0.2.2.2), ()), ())) hf
  · rfl
noncomputable def con_impl_FlushMem : Con := ⟨I_impl_FlushMem, U_impl_FlushMem, fun x => (fun n => some ((n, ()), ())) (n_impl_FlushMem x.1)⟩
theorem ok_impl_FlushMem : ConOk Try.prog 90 con_impl_FlushMem := (ok0_impl_FlushMem).mono (fun x r hk h => (nn_impl_FlushMem x.1 hk).trans h)
end

/-! impl_Arr_sync -/
section
noncomputable def B_impl_Arr_sync : Code := (Try.f57.body).getD .skip
noncomputable def E_impl_Arr_sync : Env := envOf TT [(89, con_impl_Arr_op), (90, con_impl_FlushMem)] []
theorem fr_impl_Arr_sync_0 : FrOk Try.prog ⟨E_impl_Arr_sync, 38, fun _ => none⟩ B_impl_Arr_sync := frOk_base mixed tt_ok ⟨ok_impl_Arr_op, ok_impl_FlushMem, trivial⟩
noncomputable def D_impl_Arr_sync_0 : Nat → Option Seg := fun _ => none
def L_impl_Arr_sync_13 : Shape := ⟨[(0, false, [.ptr 1000000000 0]), (8, false, [.int .i64]), (9, false, [.int .i64])], [(1000000000, [.int .i64, .int .i64, .int .i64, .at 800000000, .int .i64, .int .i64, .int .i64, .int .i64, .int .i64, .at 800000001, .int .i64, .bool, .bool])], [(800000000, tM, (.pr (.ow (.ow .fz)) (.pr (.ow (.pr .fz (.ow .fz))) (.pr .fz (.ow .fz))))), (800000001, tW, (.pr .fz (.ow .fz)))]⟩
def S_impl_Arr_sync_13 : Shape := ⟨[(0, false, [.ptr 1000000000 0]), (8, false, [.int .i64]), (9, false, [.ci .i64 0])], [(1000000000, [.int .i64, .int .i64, .int .i64, .at 800000000, .int .i64, .int .i64, .int .i64, .int .i64, .int .i64, .at 800000001, .int .i64, .bool, .bool])], [(800000000, tM, (.pr (.ow (.ow .fz)) (.pr (.ow (.pr .fz (.ow .fz))) (.pr .fz (.ow .fz))))), (800000001, tW, (.pr .fz (.ow .fz)))]⟩
def O_impl_Arr_sync_13 : Shape := ⟨[], [(1000000000, [.int .i64, .int .i64, .int .i64, .at 800000000, .int .i64, .int .i64, .int .i64, .int .i64, .int .i64, .at 800000001, .int .i64, .bool, .bool])], [(800000000, tM, (.pr (.ow (.ow .fz)) (.pr (.ow (.pr .fz (.ow .fz))) (.pr .fz (.ow .fz))))), (800000001, tW, (.pr .fz (.ow .fz)))]⟩
def Z_impl_Arr_sync_13 : Shape := ⟨[(2, false, [.bool])], [(1000000000, [.int .i64, .int .i64, .int .i64, .at 800000000, .int .i64, .int .i64, .int .i64, .int .i64, .int .i64, .at 800000001, .int .i64, .bool, .bool])], [(800000000, tM, (.pr (.ow (.ow .fz)) (.pr (.ow (.pr .fz (.ow .fz))) (.pr .fz (.ow .fz))))), (800000001, tW, (.pr .fz (.ow .fz)))]⟩
abbrev mk_impl_Arr_sync_13 (v0 : Int) (v1 : Int) (v2 : dA) : (L_impl_Arr_sync_13).X := ((((), ()), (v0, ()), (v1, ()), ()), ((v2.1, v2.2.1.1, v2.2.1.2, (), v2.2.2.2.1, v2.2.2.2.2.1, v2.2.2.2.2.2.1, v2.2.2.2.2.2.2.1, v2.2.2.2.2.2.2.2.1, (), v2.2.2.2.2.2.2.2.2.2.1, v2.2.2.2.2.2.2.2.2.2.2.1, v2.2.2.2.2.2.2.2.2.2.2.2, ()), ()), (v2.2.2.1, v2.2.2.2.2.2.2.2.2.1, ()))
abbrev ms_impl_Arr_sync_13 (v0 : Int) (v1 : dA) : (S_impl_Arr_sync_13).X := ((((), ()), (v0, ()), ((), ()), ()), ((v1.1, v1.2.1.1, v1.2.1.2, (), v1.2.2.2.1, v1.2.2.2.2.1, v1.2.2.2.2.2.1, v1.2.2.2.2.2.2.1, v1.2.2.2.2.2.2.2.1, (), v1.2.2.2.2.2.2.2.2.2.1, v1.2.2.2.2.2.2.2.2.2.2.1, v1.2.2.2.2.2.2.2.2.2.2.2, ()), ()), (v1.2.2.1, v1.2.2.2.2.2.2.2.2.1, ()))
abbrev mo_impl_Arr_sync_13 (v0 : dA) : (O_impl_Arr_sync_13).X := ((), ((v0.1, v0.2.1.1, v0.2.1.2, (), v0.2.2.2.1, v0.2.2.2.2.1, v0.2.2.2.2.2.1, v0.2.2.2.2.2.2.1, v0.2.2.2.2.2.2.2.1, (), v0.2.2.2.2.2.2.2.2.2.1, v0.2.2.2.2.2.2.2.2.2.2.1, v0.2.2.2.2.2.2.2.2.2.2.2, ()), ()), (v0.2.2.1, v0.2.2.2.2.2.2.2.2.1, ()))
abbrev mz_impl_Arr_sync_13 (v0 : Bool) (v1 : dA) : (Z_impl_Arr_sync_13).X := (((v0, ()), ()), ((v1.1, v1.2.1.1, v1.2.1.2, (), v1.2.2.2.1, v1.2.2.2.2.1, v1.2.2.2.2.2.1, v1.2.2.2.2.2.2.1, v1.2.2.2.2.2.2.2.1, (), v1.2.2.2.2.2.2.2.2.2.1, v1.2.2.2.2.2.2.2.2.2.2.1, v1.2.2.2.2.2.2.2.2.2.2.2, ()), ()), (v1.2.2.1, v1.2.2.2.2.2.2.2.2.1, ()))
noncomputable def st_impl_Arr_sync_13 (v0 : Int) (v1 : Int) (v2 : Int) (v3 : Int) (v4 : Int) (v5 : Int) (v6 : Int) (v7 : Int) (v8 : Int) (v9 : Int) (v10 : Int) (v11 : Bool) (v12 : Bool) (v13 : List dM) (v14 : List dW) : Option ((L_impl_Arr_sync_13).X ⊕ ((O_impl_Arr_sync_13).X ⊕ (Z_impl_Arr_sync_13).X)) :=
  bif (ltb v1 v0) then
    bif (inb v1 v13.length) then
      bif (((nth v13 v1 ([], [], false, [])).2).2).1 then
        some (.inl ((((), ()), (v0, ()), ((IntKind.i64.wrap (v1 + 1)), ()), ()), ((v2, v3, v4, (), v5, v6, v7, v8, v9, (), v10, v11, v12, ()), ()), (v13, v14, ())))
      else
        let r3 := n_impl_Arr_op (v2, (v3, v4), v13, v5, v6, v7, v8, v9, v14, v10, v11, v12)
        bif (!r3.1) then
          some (.inr (.inr (((false, ()), ()), ((r3.2.1, r3.2.2.1.1, r3.2.2.1.2, (), r3.2.2.2.2.1, r3.2.2.2.2.2.1, r3.2.2.2.2.2.2.1, r3.2.2.2.2.2.2.2.1, r3.2.2.2.2.2.2.2.2.1, (), r3.2.2.2.2.2.2.2.2.2.2.1, r3.2.2.2.2.2.2.2.2.2.2.2.1, r3.2.2.2.2.2.2.2.2.2.2.2.2, ()), ()), (r3.2.2.2.1, r3.2.2.2.2.2.2.2.2.2.1, ()))))
        else
          bif (inb v1 r3.2.2.2.1.length) then
            let r4 := n_impl_FlushMem ((nth r3.2.2.2.1 v1 ([], [], false, [])).1, ((nth r3.2.2.2.1 v1 ([], [], false, [])).2).1, (((nth r3.2.2.2.1 v1 ([], [], false, [])).2).2))
            bif (inb v1 r3.2.2.2.1.length) then
              some (.inl ((((), ()), (v0, ()), ((IntKind.i64.wrap (v1 + 1)), ()), ()), ((r3.2.1, r3.2.2.1.1, r3.2.2.1.2, (), r3.2.2.2.2.1, r3.2.2.2.2.2.1, r3.2.2.2.2.2.2.1, r3.2.2.2.2.2.2.2.1, r3.2.2.2.2.2.2.2.2.1, (), r3.2.2.2.2.2.2.2.2.2.2.1, r3.2.2.2.2.2.2.2.2.2.2.2.1, r3.2.2.2.2.2.2.2.2.2.2.2.2, ()), ()), ((r3.2.2.2.1.set (v1).toNat r4), r3.2.2.2.2.2.2.2.2.2.1, ())))
            else none
          else none
    else none
  else
    some (.inr (.inl ((), ((v2, v3, v4, (), v5, v6, v7, v8, v9, (), v10, v11, v12, ()), ()), (v13, v14, ()))))
noncomputable def stx_impl_Arr_sync_13 (x : (L_impl_Arr_sync_13).X) := st_impl_Arr_sync_13 x.1.2.1.1 x.1.2.2.1.1 x.2.1.1.1 x.2.1.1.2.1 x.2.1.1.2.2.1 x.2.1.1.2.2.2.2.1 x.2.1.1.2.2.2.2.2.1 x.2.1.1.2.2.2.2.2.2.1 x.2.1.1.2.2.2.2.2.2.2.1 x.2.1.1.2.2.2.2.2.2.2.2.1 x.2.1.1.2.2.2.2.2.2.2.2.2.2.1 x.2.1.1.2.2.2.2.2.2.2.2.2.2.2.1 x.2.1.1.2.2.2.2.2.2.2.2.2.2.2.2.1 x.2.2.1 x.2.2.2.1
def em_impl_Arr_sync_13 (x : (S_impl_Arr_sync_13).X) : (L_impl_Arr_sync_13).X := ((((), ()), (x.1.2.1.1, ()), (0, ()), ()), ((x.2.1.1.1, x.2.1.1.2.1, x.2.1.1.2.2.1, (), x.2.1.1.2.2.2.2.1, x.2.1.1.2.2.2.2.2.1, x.2.1.1.2.2.2.2.2.2.1, x.2.1.1.2.2.2.2.2.2.2.1, x.2.1.1.2.2.2.2.2.2.2.2.1, (), x.2.1.1.2.2.2.2.2.2.2.2.2.2.1, x.2.1.1.2.2.2.2.2.2.2.2.2.2.2.1, x.2.1.1.2.2.2.2.2.2.2.2.2.2.2.2.1, ()), ()), (x.2.2.1, x.2.2.2.1, ()))
noncomputable def c_impl_Arr_sync_13 : Code := (subN B_impl_Arr_sync 64 52).getD .skip
theorem a_impl_Arr_sync_13 : subN B_impl_Arr_sync 64 13 = some (.block 0 (.loop c_impl_Arr_sync_13)) := by kernel_rfl
theorem r_impl_Arr_sync_13 (x : (L_impl_Arr_sync_13).X) : roundT ⟨E_impl_Arr_sync, 38, D_impl_Arr_sync_0⟩ 0 c_impl_Arr_sync_13 52 L_impl_Arr_sync_13 O_impl_Arr_sync_13 Z_impl_Arr_sync_13 x = stx_impl_Arr_sync_13 x := by kernel_rfl
noncomputable def fu_impl_Arr_sync_13 (x : (S_impl_Arr_sync_13).X) : Nat := (fun (u0 : Int) (u1 : Int) (u2 : Int) (u3 : Int) (u4 : Int) (u5 : Int) (u6 : Int) (u7 : Int) (u8 : Int) (u9 : Int) (u10 : Bool) (u11 : Bool) (u12 : List dM) (u13 : List dW) => 18446744073709551616) x.1.2.1.1 x.2.1.1.1 x.2.1.1.2.1 x.2.1.1.2.2.1 x.2.1.1.2.2.2.2.1 x.2.1.1.2.2.2.2.2.1 x.2.1.1.2.2.2.2.2.2.1 x.2.1.1.2.2.2.2.2.2.2.1 x.2.1.1.2.2.2.2.2.2.2.2.1 x.2.1.1.2.2.2.2.2.2.2.2.2.2.1 x.2.1.1.2.2.2.2.2.2.2.2.2.2.2.1 x.2.1.1.2.2.2.2.2.2.2.2.2.2.2.2.1 x.2.2.1 x.2.2.2.1
noncomputable def F_impl_Arr_sync_13 (x : (S_impl_Arr_sync_13).X) : Option ((O_impl_Arr_sync_13).X ⊕ (Z_impl_Arr_sync_13).X) := loopN stx_impl_Arr_sync_13 (fu_impl_Arr_sync_13 x) (em_impl_Arr_sync_13 x)
noncomputable def sg_impl_Arr_sync_13 : Seg := ⟨S_impl_Arr_sync_13, O_impl_Arr_sync_13, Z_impl_Arr_sync_13, F_impl_Arr_sync_13⟩
noncomputable def D_impl_Arr_sync_1 : Nat → Option Seg := fun q => bif Nat.beq q 13 then some sg_impl_Arr_sync_13 else D_impl_Arr_sync_0 q
theorem fr_impl_Arr_sync_1 : FrOk Try.prog ⟨E_impl_Arr_sync, 38, D_impl_Arr_sync_1⟩ B_impl_Arr_sync := (fr_impl_Arr_sync_0).loop (sg := sg_impl_Arr_sync_13) L_impl_Arr_sync_13 em_impl_Arr_sync_13 (by decide) a_impl_Arr_sync_13 stx_impl_Arr_sync_13 fu_impl_Arr_sync_13 (by decide) (fun _ => rfl) (fun x r _ h => h) r_impl_Arr_sync_13
abbrev I_impl_Arr_sync : List Par := [.pt tA (.pr .fz (.pr (.pr .fz .fz) (.pr (.ow (.pr (.ow (.ow .fz)) (.pr (.ow (.pr .fz (.ow .fz))) (.pr .fz (.ow .fz))))) (.pr .fz (.pr .fz (.pr .fz (.pr .fz (.pr .fz (.pr (.ow (.pr .fz (.ow .fz))) (.pr .fz (.pr .fz .fz)))))))))))]
abbrev U_impl_Arr_sync : List OT := [⟨false, tB, .fz⟩]
noncomputable def raw_impl_Arr_sync (a0 : dA) : Option (ResD U_impl_Arr_sync × MutD I_impl_Arr_sync) :=
  segM (F_impl_Arr_sync_13 ((((), ()), ((a0.2.2.1.length : Int), ()), ((), ()), ()), ((a0.1, a0.2.1.1, a0.2.1.2, (), a0.2.2.2.1, a0.2.2.2.2.1, a0.2.2.2.2.2.1, a0.2.2.2.2.2.2.1, a0.2.2.2.2.2.2.2.1, (), a0.2.2.2.2.2.2.2.2.2.1, a0.2.2.2.2.2.2.2.2.2.2.1, a0.2.2.2.2.2.2.2.2.2.2.2, ()), ()), (a0.2.2.1, a0.2.2.2.2.2.2.2.2.1, ()))) (fun y4 =>
    some ((true, ()), ((y4.2.1.1.1, (y4.2.1.1.2.1, y4.2.1.1.2.2.1), y4.2.2.1, y4.2.1.1.2.2.2.2.1, y4.2.1.1.2.2.2.2.2.1, y4.2.1.1.2.2.2.2.2.2.1, y4.2.1.1.2.2.2.2.2.2.2.1, y4.2.1.1.2.2.2.2.2.2.2.2.1, y4.2.2.2.1, y4.2.1.1.2.2.2.2.2.2.2.2.2.2.1, y4.2.1.1.2.2.2.2.2.2.2.2.2.2.2.1, y4.2.1.1.2.2.2.2.2.2.2.2.2.2.2.2.1), ()))) (fun y4 =>
    some ((y4.1.1.1, ()), ((y4.2.1.1.1, (y4.2.1.1.2.1, y4.2.1.1.2.2.1), y4.2.2.1, y4.2.1.1.2.2.2.2.1, y4.2.1.1.2.2.2.2.2.1, y4.2.1.1.2.2.2.2.2.2.1, y4.2.1.1.2.2.2.2.2.2.2.1, y4.2.1.1.2.2.2.2.2.2.2.2.1, y4.2.2.2.1, y4.2.1.1.2.2.2.2.2.2.2.2.2.2.1, y4.2.1.1.2.2.2.2.2.2.2.2.2.2.2.1, y4.2.1.1.2.2.2.2.2.2.2.2.2.2.2.2.1), ())))
theorem e_impl_Arr_sync (x : InD I_impl_Arr_sync) : execF ⟨E_impl_Arr_sync, 38, D_impl_Arr_sync_1⟩ Try.f57.results.toList B_impl_Arr_sync I_impl_Arr_sync U_impl_Arr_sync x = raw_impl_Arr_sync x.1 := by kernel_rfl
theorem ok0_impl_Arr_sync : ConOk Try.prog 57 ⟨I_impl_Arr_sync, U_impl_Arr_sync, fun x => raw_impl_Arr_sync x.1⟩ := conOk_exec (fr_impl_Arr_sync_1) Try.func57 (by kernel_rfl) (by kernel_rfl) Try.ntmps57.symm (by decide) (fun x r h => (e_impl_Arr_sync x).trans h)
noncomputable def n_impl_Arr_sync (a0 : dA) : Bool × dA := (!(downA (syncA a0)), syncA a0)
noncomputable def q_impl_Arr_sync (a0 : dA) : Bool := !(downA a0)
theorem nn_impl_Arr_sync (a0 : dA) (hk : InOk I_impl_Arr_sync (a0, ())) (hq : q_impl_Arr_sync a0 = true) : raw_impl_Arr_sync a0 = (fun n => some ((n.1, ()), (n.2, ()))) (n_impl_Arr_sync a0) := by
  have hb : a0.2.2.1.length * 80 ≤ 2 ^ 47 := hk.1.2.2.1.1
  have h1 : F_impl_Arr_sync_13 (ms_impl_Arr_sync_13 a0.2.2.1.length a0) = some (bif downA (syncA a0) then .inr (mz_impl_Arr_sync_13 false (syncA a0)) else .inl (mo_impl_Arr_sync_13 (syncA a0))) := by
    have := loopN_goE (step := stx_impl_Arr_sync_13) a0.2.2.1.length (fun i s => mk_impl_Arr_sync_13 a0.2.2.1.length i s) (fun i s => bif downA (syncOne s i) then (.inr (syncOne s i) : dA ⊕ dA) else .inl (syncOne s i)) (fun _ s => s.2.2.1.length = a0.2.2.1.length ∧ downA s = false) id
      (fun b => bif downA b then .inr (mz_impl_Arr_sync_13 false b) else .inl (mo_impl_Arr_sync_13 b)) (fun i s hi hs => by
        constructor
        · rw [syncOne_down hs.2]
          simp only [stx_impl_Arr_sync_13, mk_impl_Arr_sync_13, st_impl_Arr_sync_13, hs.1, ltb_t (show (i : Int) < a0.2.2.1.length by omega), cond_true, wr (show -9223372036854775808 ≤ (i : Int) + 1 by omega) (by omega), Int.natCast_add, Int.natCast_one, Int.toNat_natCast, inb_nat hi, pr_eta, impl_op_eq hs.2, op_mems, n_impl_FlushMem]
          cases hf : (nth s.2.2.1 i noMem).2.2.1
          · cases ho : (opA s).1
            · have e : syncOne s i = (opA s).2 := by unfold syncOne; rw [hf, ho]; rfl
              have d : downA (opA s).2 = true := by rw [op_down hs.2, ho]; rfl
              rw [e]
              simp only [Bool.not_false, Bool.and_self, cond_true, cond_false, d, op_mems, mz_impl_Arr_sync_13]
            · have e : syncOne s i = setMem (opA s).2 i (flushMem (nth s.2.2.1 i noMem)) := by unfold syncOne; rw [hf, ho]; rfl
              rw [e]
              simp only [Bool.not_true, Bool.not_false, Bool.and_false, cond_true, cond_false, mk_impl_Arr_sync_13, setMem, op_mems, Int.toNat_natCast]
          · have e : syncOne s i = s := by unfold syncOne; rw [hf]; rfl
            rw [e]; rfl
        · intro s' h
          cases hd : downA (syncOne s i)
          · rw [hd] at h
            cases h
            exact ⟨(syncOne_len s i).trans hs.1, hd⟩
          · rw [hd] at h; cases h) (fun s hs => by simp only [stx_impl_Arr_sync_13, mk_impl_Arr_sync_13, st_impl_Arr_sync_13, hs.2, ltb_f (Int.le_refl _), cond_false, id, mo_impl_Arr_sync_13]) a0 ⟨rfl, by simpa [q_impl_Arr_sync] using hq⟩ 18446744073709551616 (by omega)
    rw [goE_fold (fun a i h => syncOne_stop i h), ← List.range_eq_range'] at this
    exact this
  unfold raw_impl_Arr_sync n_impl_Arr_sync
  rw [h1]
  cases hd : downA (syncA a0) <;> rfl
noncomputable def o_impl_Arr_sync (a0 : dA) : Option (ResD U_impl_Arr_sync × MutD I_impl_Arr_sync) := bif q_impl_Arr_sync a0 then (fun n => some ((n.1, ()), (n.2, ()))) (n_impl_Arr_sync a0) else none
theorem ot_impl_Arr_sync (a0 : dA) (h : q_impl_Arr_sync a0 = true) : o_impl_Arr_sync a0 = (fun n => some ((n.1, ()), (n.2, ()))) (n_impl_Arr_sync a0) := by unfold o_impl_Arr_sync; rw [h]; rfl
noncomputable def con_impl_Arr_sync : Con := ⟨I_impl_Arr_sync, U_impl_Arr_sync, fun x => o_impl_Arr_sync x.1⟩
theorem ok_impl_Arr_sync : ConOk Try.prog 57 con_impl_Arr_sync := (ok0_impl_Arr_sync).mono (fun x r hk h => pre_ok h (fun hq => nn_impl_Arr_sync x.1 hk hq))
end

/-! impl_WriteSec_1 -/
section
noncomputable def B_impl_WriteSec_1 : Code := (Try.f109.body).getD .skip
noncomputable def E_impl_WriteSec_1 : Env := envOf TT [] []
theorem fr_impl_WriteSec_1_0 : FrOk Try.prog ⟨E_impl_WriteSec_1, 7, fun _ => none⟩ B_impl_WriteSec_1 := frOk_base mixed tt_ok trivial
noncomputable def D_impl_WriteSec_1_0 : Nat → Option Seg := fun _ => none
abbrev I_impl_WriteSec_1 : List Par := [.rd tI, .rp tI]
abbrev U_impl_WriteSec_1 : List OT := [⟨false, tB, .fz⟩]
noncomputable def raw_impl_WriteSec_1 (a0 : Int) (a1 : Int) : Option (ResD U_impl_WriteSec_1 × MutD I_impl_WriteSec_1) :=
  some (((a0 == a1), ()), ())
theorem e_impl_WriteSec_1 (x : InD I_impl_WriteSec_1) : execF ⟨E_impl_WriteSec_1, 7, D_impl_WriteSec_1_0⟩ Try.f109.results.toList B_impl_WriteSec_1 I_impl_WriteSec_1 U_impl_WriteSec_1 x = raw_impl_WriteSec_1 x.1 x.2.1 := by kernel_rfl
theorem ok0_impl_WriteSec_1 : ConOk Try.prog 109 ⟨I_impl_WriteSec_1, U_impl_WriteSec_1, fun x => raw_impl_WriteSec_1 x.1 x.2.1⟩ := conOk_exec (fr_impl_WriteSec_1_0) Try.func109 (by kernel_rfl) (by kernel_rfl) Try.ntmps109.symm (by decide) (fun x r h => (e_impl_WriteSec_1 x).trans h)
noncomputable def n_impl_WriteSec_1 (a0 : Int) (a1 : Int) : Bool :=
  (a0 == a1)
noncomputable def con_impl_WriteSec_1 : Con := ⟨I_impl_WriteSec_1, U_impl_WriteSec_1, fun x => (fun n => some ((n, ()), ())) (n_impl_WriteSec_1 x.1 x.2.1)⟩
theorem nn_impl_WriteSec_1 (a0 : Int) (a1 : Int) : raw_impl_WriteSec_1 a0 a1 = (fun n => some ((n, ()), ())) (n_impl_WriteSec_1 a0 a1) := bif_ty (p := fun (n : Bool) => ((n, ()), ())) rfl
theorem ok_impl_WriteSec_1 : ConOk Try.prog 109 con_impl_WriteSec_1 := (ok0_impl_WriteSec_1).mono (fun x r _ h => (nn_impl_WriteSec_1 x.1 x.2.1).trans h)
end

/-! slices_IndexFunc_int -/
section
noncomputable def B_slices_IndexFunc_int : Code := (Try.f125.body).getD .skip
noncomputable def E_slices_IndexFunc_int : Env := envOf TT [(109, con_impl_WriteSec_1)] []
theorem fr_slices_IndexFunc_int_0 : FrOk Try.prog ⟨E_slices_IndexFunc_int, 19, fun _ => none⟩ B_slices_IndexFunc_int := frOk_base mixed tt_ok ⟨ok_impl_WriteSec_1, trivial⟩
noncomputable def D_slices_IndexFunc_int_0 : Nat → Option Seg := fun _ => none
def L_slices_IndexFunc_int_13 : Shape := ⟨[(0, false, [.br tI]), (1, false, [.fx 109 tI]), (7, false, [.int .i64]), (8, false, [.int .i64])], [], []⟩
def S_slices_IndexFunc_int_13 : Shape := ⟨[(0, false, [.br tI]), (1, false, [.fx 109 tI]), (7, false, [.int .i64]), (8, false, [.ci .i64 0])], [], []⟩
def O_slices_IndexFunc_int_13 : Shape := ⟨[], [], []⟩
def Z_slices_IndexFunc_int_13 : Shape := ⟨[(4, false, [.int .i64])], [], []⟩
abbrev mk_slices_IndexFunc_int_13 (v0 : List Int) (v1 : Int) (v2 : Int) (v3 : Int) : (L_slices_IndexFunc_int_13).X := (((v0, ()), (v1, ()), (v2, ()), (v3, ()), ()), (), ())
abbrev ms_slices_IndexFunc_int_13 (v0 : List Int) (v1 : Int) (v2 : Int) : (S_slices_IndexFunc_int_13).X := (((v0, ()), (v1, ()), (v2, ()), ((), ()), ()), (), ())
abbrev mo_slices_IndexFunc_int_13  : (O_slices_IndexFunc_int_13).X := ((), (), ())
abbrev mz_slices_IndexFunc_int_13 (v0 : Int) : (Z_slices_IndexFunc_int_13).X := (((v0, ()), ()), (), ())
noncomputable def st_slices_IndexFunc_int_13 (v0 : List Int) (v1 : Int) (v2 : Int) (v3 : Int) : Option ((L_slices_IndexFunc_int_13).X ⊕ ((O_slices_IndexFunc_int_13).X ⊕ (Z_slices_IndexFunc_int_13).X)) :=
  bif (ltb v3 v2) then
    bif (inb v3 v0.length) then
      let r2 := n_impl_WriteSec_1 (nth v0 v3 0) v1
      bif r2 then
        some (.inr (.inr (((v3, ()), ()), (), ())))
      else
        some (.inl (((v0, ()), (v1, ()), (v2, ()), ((IntKind.i64.wrap (v3 + 1)), ()), ()), (), ()))
    else none
  else
    some (.inr (.inl ((), (), ())))
noncomputable def stx_slices_IndexFunc_int_13 (x : (L_slices_IndexFunc_int_13).X) := st_slices_IndexFunc_int_13 x.1.1.1 x.1.2.1.1 x.1.2.2.1.1 x.1.2.2.2.1.1
def em_slices_IndexFunc_int_13 (x : (S_slices_IndexFunc_int_13).X) : (L_slices_IndexFunc_int_13).X := (((x.1.1.1, ()), (x.1.2.1.1, ()), (x.1.2.2.1.1, ()), (0, ()), ()), (), ())
noncomputable def c_slices_IndexFunc_int_13 : Code := (subN B_slices_IndexFunc_int 64 52).getD .skip
theorem a_slices_IndexFunc_int_13 : subN B_slices_IndexFunc_int 64 13 = some (.block 0 (.loop c_slices_IndexFunc_int_13)) := by kernel_rfl
theorem r_slices_IndexFunc_int_13 (x : (L_slices_IndexFunc_int_13).X) : roundT ⟨E_slices_IndexFunc_int, 19, D_slices_IndexFunc_int_0⟩ 0 c_slices_IndexFunc_int_13 52 L_slices_IndexFunc_int_13 O_slices_IndexFunc_int_13 Z_slices_IndexFunc_int_13 x = stx_slices_IndexFunc_int_13 x := by kernel_rfl
noncomputable def fu_slices_IndexFunc_int_13 (x : (S_slices_IndexFunc_int_13).X) : Nat := (fun (u0 : List Int) (u1 : Int) (u2 : Int) => 18446744073709551616) x.1.1.1 x.1.2.1.1 x.1.2.2.1.1
noncomputable def F_slices_IndexFunc_int_13 (x : (S_slices_IndexFunc_int_13).X) : Option ((O_slices_IndexFunc_int_13).X ⊕ (Z_slices_IndexFunc_int_13).X) := loopN stx_slices_IndexFunc_int_13 (fu_slices_IndexFunc_int_13 x) (em_slices_IndexFunc_int_13 x)
noncomputable def sg_slices_IndexFunc_int_13 : Seg := ⟨S_slices_IndexFunc_int_13, O_slices_IndexFunc_int_13, Z_slices_IndexFunc_int_13, F_slices_IndexFunc_int_13⟩
noncomputable def D_slices_IndexFunc_int_1 : Nat → Option Seg := fun q => bif Nat.beq q 13 then some sg_slices_IndexFunc_int_13 else D_slices_IndexFunc_int_0 q
theorem fr_slices_IndexFunc_int_1 : FrOk Try.prog ⟨E_slices_IndexFunc_int, 19, D_slices_IndexFunc_int_1⟩ B_slices_IndexFunc_int := (fr_slices_IndexFunc_int_0).loop (sg := sg_slices_IndexFunc_int_13) L_slices_IndexFunc_int_13 em_slices_IndexFunc_int_13 (by decide) a_slices_IndexFunc_int_13 stx_slices_IndexFunc_int_13 fu_slices_IndexFunc_int_13 (by decide) (fun _ => rfl) (fun x r _ h => h) r_slices_IndexFunc_int_13
abbrev I_slices_IndexFunc_int : List Par := [.rd tL, .fn 109 tI]
abbrev U_slices_IndexFunc_int : List OT := [⟨false, tI, .fz⟩]
noncomputable def raw_slices_IndexFunc_int (a0 : List Int) (a1 : Int) : Option (ResD U_slices_IndexFunc_int × MutD I_slices_IndexFunc_int) :=
  segM (F_slices_IndexFunc_int_13 (((a0, ()), (a1, ()), ((a0.length : Int), ()), ((), ()), ()), (), ())) (fun y2 =>
    some (((-1), ()), ())) (fun y2 =>
    some ((y2.1.1.1, ()), ()))
theorem e_slices_IndexFunc_int (x : InD I_slices_IndexFunc_int) : execF ⟨E_slices_IndexFunc_int, 19, D_slices_IndexFunc_int_1⟩ Try.f125.results.toList B_slices_IndexFunc_int I_slices_IndexFunc_int U_slices_IndexFunc_int x = raw_slices_IndexFunc_int x.1 x.2.1 := by kernel_rfl
theorem ok0_slices_IndexFunc_int : ConOk Try.prog 125 ⟨I_slices_IndexFunc_int, U_slices_IndexFunc_int, fun x => raw_slices_IndexFunc_int x.1 x.2.1⟩ := conOk_exec (fr_slices_IndexFunc_int_1) Try.func125 (by kernel_rfl) (by kernel_rfl) Try.ntmps125.symm (by decide) (fun x r h => (e_slices_IndexFunc_int x).trans h)
noncomputable def n_slices_IndexFunc_int (a0 : List Int) (a1 : Int) : Int := idxOf (fun e : Int => e == a1) a0
theorem nn_slices_IndexFunc_int (a0 : List Int) (a1 : Int) (hk : InOk I_slices_IndexFunc_int (a0, a1, ())) : raw_slices_IndexFunc_int a0 a1 = (fun n => some ((n, ()), ())) (n_slices_IndexFunc_int a0 a1) := by
  have hb : a0.length * 8 ≤ 2 ^ 47 := hk.1.1
  have h1 : F_slices_IndexFunc_int_13 (ms_slices_IndexFunc_int_13 a0 a1 a0.length) = some (bif leb 0 (idxOf (fun e : Int => e == a1) a0) then .inr (mz_slices_IndexFunc_int_13 (idxOf (fun e : Int => e == a1) a0)) else .inl mo_slices_IndexFunc_int_13) :=
    loopN_idx (step := stx_slices_IndexFunc_int_13) a0 0 (fun i => mk_slices_IndexFunc_int_13 a0 a1 a0.length i) (fun e : Int => e == a1) (fun i => .inr (mz_slices_IndexFunc_int_13 i)) _ (fun i hi => by
      simp only [stx_slices_IndexFunc_int_13, mk_slices_IndexFunc_int_13, st_slices_IndexFunc_int_13, ltb_t (show (i : Int) < a0.length by omega), cond_true, wr (show -9223372036854775808 ≤ (i : Int) + 1 by omega) (by omega), Int.natCast_add, Int.natCast_one, Int.toNat_natCast, inb_nat hi, nth_nat, n_impl_WriteSec_1]
      cases (a0.getD i 0 == a1) <;> rfl) (by simp only [stx_slices_IndexFunc_int_13, mk_slices_IndexFunc_int_13, st_slices_IndexFunc_int_13, ltb_f (Int.le_refl _), cond_false]) _ (by show _ < 18446744073709551616; omega)
  unfold raw_slices_IndexFunc_int n_slices_IndexFunc_int
  rw [h1]
  cases h : leb 0 (idxOf (fun e : Int => e == a1) a0)
  · rw [idx_neg h]; rfl
  · rfl
noncomputable def con_slices_IndexFunc_int : Con := ⟨I_slices_IndexFunc_int, U_slices_IndexFunc_int, fun x => (fun n => some ((n, ()), ())) (n_slices_IndexFunc_int x.1 x.2.1)⟩
theorem ok_slices_IndexFunc_int : ConOk Try.prog 125 con_slices_IndexFunc_int := (ok0_slices_IndexFunc_int).mono (fun x r hk h => (nn_slices_IndexFunc_int x.1 x.2.1 hk).trans h)
end
end Go.Tf
