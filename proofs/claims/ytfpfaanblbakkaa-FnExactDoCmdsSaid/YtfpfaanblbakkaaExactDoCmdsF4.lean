/- Functions of the program, and what they come to. -/
import Derived.Test.YtfpfaanblbakkaaExactDoCmdsF3
namespace Go.Tf
open Go.Proofs
set_option synthInstance.maxHeartbeats 400000
set_option synthInstance.maxSize 10000
set_option linter.unusedVariables false
set_option linter.unusedSimpArgs false
set_option maxRecDepth 100000
/-! impl_SpanOf -/
section
noncomputable def B_impl_SpanOf : Code := (Try.f17.body).getD .skip
noncomputable def E_impl_SpanOf : Env := envOf TT [(70, con_impl_CmdCode), (71, con_impl_Blocks), (72, con_impl_runOf)] []
theorem fr_impl_SpanOf_0 : FrOk Try.prog ⟨E_impl_SpanOf, 24, fun _ => none⟩ B_impl_SpanOf := frOk_base mixed tt_ok ⟨ok_impl_CmdCode, ok_impl_Blocks, ok_impl_runOf, trivial⟩
noncomputable def D_impl_SpanOf_0 : Nat → Option Seg := fun _ => none
abbrev I_impl_SpanOf : List Par := [.rd tG, .rd tC]
abbrev U_impl_SpanOf : List OT := [⟨false, tI, .fz⟩, ⟨false, tI, .fz⟩]
noncomputable def raw_impl_SpanOf (a0 : Int × Int) (a1 : Int × Int × Int × Int × (List Int)) : Option (ResD U_impl_SpanOf × MutD I_impl_SpanOf) :=
  let r1 := n_impl_CmdCode a0 a1
  bif (r1 != 0) then
    some ((0, 0, ()), ())
  else
    bif (a1.1 == 4) then
      let r2 := n_impl_Blocks a0
      some ((0, r2, ()), ())
    else
      let r3 := n_impl_runOf a1
      some ((a1.2.2.1, (IntKind.i64.wrap (a1.2.2.1 + r3)), ()), ())
theorem e_impl_SpanOf (x : InD I_impl_SpanOf) : execF ⟨E_impl_SpanOf, 24, D_impl_SpanOf_0⟩ Try.f17.results.toList B_impl_SpanOf I_impl_SpanOf U_impl_SpanOf x = raw_impl_SpanOf x.1 x.2.1 := by kernel_rfl
theorem ok0_impl_SpanOf : ConOk Try.prog 17 ⟨I_impl_SpanOf, U_impl_SpanOf, fun x => raw_impl_SpanOf x.1 x.2.1⟩ := conOk_exec (fr_impl_SpanOf_0) Try.func17 (by kernel_rfl) (by kernel_rfl) Try.ntmps17.symm (by decide) (fun x r h => (e_impl_SpanOf x).trans h)
noncomputable def n_impl_SpanOf (a0 : Int × Int) (a1 : Int × Int × Int × Int × (List Int)) : Int × Int :=
  let r1 := n_impl_CmdCode a0 a1
  bif (r1 != 0) then
    (0, 0)
  else
    bif (a1.1 == 4) then
      let r2 := n_impl_Blocks a0
      (0, r2)
    else
      let r3 := n_impl_runOf a1
      (a1.2.2.1, (IntKind.i64.wrap (a1.2.2.1 + r3)))
noncomputable def con_impl_SpanOf : Con := ⟨I_impl_SpanOf, U_impl_SpanOf, fun x => (fun n => some ((n.1, n.2, ()), ())) (n_impl_SpanOf x.1 x.2.1)⟩
theorem nn_impl_SpanOf (a0 : Int × Int) (a1 : Int × Int × Int × Int × (List Int)) : raw_impl_SpanOf a0 a1 = (fun n => some ((n.1, n.2, ()), ())) (n_impl_SpanOf a0 a1) := bif_ty (p := fun (n : Int × Int) => ((n.1, n.2, ()), ())) (bif_some (p := fun (n : Int × Int) => ((n.1, n.2, ()), ())) rfl (bif_some (p := fun (n : Int × Int) => ((n.1, n.2, ()), ())) rfl rfl))
theorem ok_impl_SpanOf : ConOk Try.prog 17 con_impl_SpanOf := (ok0_impl_SpanOf).mono (fun x r _ h => (nn_impl_SpanOf x.1 x.2.1).trans h)
theorem span_eq (g : dG) (a : dC) : n_impl_SpanOf g a = n_spec_SpanOf g a := by
  unfold n_impl_SpanOf n_spec_SpanOf
  simp only [code_eq, impl_Blocks_eq, impl_run_eq]
theorem span_good {g : dG} {op id lba n : Int} {v : List Int} (h : n_spec_CmdCode g (op, id, lba, n, v) = 0) (h4 : op ≠ 4) : n_impl_SpanOf g (op, id, lba, n, v) = (lba, lba + n_spec_l13Len (op, id, lba, n, v)) := by
  rw [span_eq]
  unfold n_spec_SpanOf
  have hB := spec_Blocks_le g
  obtain ⟨hg, ho, _, hs, hl⟩ := code0 h
  have hz := size_len hs ho h4
  have hl : 0 ≤ lba ∧ lba ≤ IntKind.i64.wrap (n_spec_Blocks g - n_spec_l13Len (op, id, lba, n, v)) := hl.resolve_left h4
  rw [wr (by omega) (by omega)] at hl
  simp only [h, bne_self_eq_false, cond_false, show (op == 4) = false from beq_eq_false_iff_ne.2 h4, wr (show -9223372036854775808 ≤ lba + n_spec_l13Len (op, id, lba, n, v) by omega) (by omega)]
end

/-! impl_copyInts -/
section
noncomputable def B_impl_copyInts : Code := (Try.f74.body).getD .skip
noncomputable def E_impl_copyInts : Env := envOf TT [] []
theorem fr_impl_copyInts_0 : FrOk Try.prog ⟨E_impl_copyInts, 6, fun _ => none⟩ B_impl_copyInts := frOk_base mixed tt_ok trivial
noncomputable def D_impl_copyInts_0 : Nat → Option Seg := fun _ => none
abbrev I_impl_copyInts : List Par := [.rd tL]
abbrev U_impl_copyInts : List OT := [⟨false, tL, (.ow .fz)⟩]
noncomputable def raw_impl_copyInts (a0 : List Int) : Option (ResD U_impl_copyInts × MutD I_impl_copyInts) :=
  bif (apok ([] : List Int).length a0.length 8) then
    some (((([] : List Int) ++ a0), ()), ())
  else none
theorem e_impl_copyInts (x : InD I_impl_copyInts) : execF ⟨E_impl_copyInts, 6, D_impl_copyInts_0⟩ Try.f74.results.toList B_impl_copyInts I_impl_copyInts U_impl_copyInts x = raw_impl_copyInts x.1 := by kernel_rfl
theorem ok0_impl_copyInts : ConOk Try.prog 74 ⟨I_impl_copyInts, U_impl_copyInts, fun x => raw_impl_copyInts x.1⟩ := conOk_exec (fr_impl_copyInts_0) Try.func74 (by kernel_rfl) (by kernel_rfl) Try.ntmps74.symm (by decide) (fun x r h => (e_impl_copyInts x).trans h)
noncomputable def n_impl_copyInts (a0 : List Int) : List Int := a0
theorem nn_impl_copyInts (a0 : List Int) (hk : InOk I_impl_copyInts (a0, ())) : raw_impl_copyInts a0 = (fun n => some ((n, ()), ())) (n_impl_copyInts a0) := by
  have hb : a0.length * 8 ≤ 2 ^ 47 := hk.1.1
  unfold raw_impl_copyInts n_impl_copyInts
  rw [show apok ([] : List Int).length a0.length 8 = true by rw [apok_iff, List.length_nil]; omega]
  rfl
noncomputable def con_impl_copyInts : Con := ⟨I_impl_copyInts, U_impl_copyInts, fun x => (fun n => some ((n, ()), ())) (n_impl_copyInts x.1)⟩
theorem ok_impl_copyInts : ConOk Try.prog 74 con_impl_copyInts := (ok0_impl_copyInts).mono (fun x r hk h => (nn_impl_copyInts x.1 hk).trans h)
end

/-! impl_DoCmd -/
section
noncomputable def B_impl_DoCmd : Code := (Try.f23.body).getD .skip
noncomputable def E_impl_DoCmd : Env := envOf TT [(17, con_impl_SpanOf), (70, con_impl_CmdCode), (71, con_impl_Blocks), (74, con_impl_copyInts)] []
theorem fr_impl_DoCmd_0 : FrOk Try.prog ⟨E_impl_DoCmd, 84, fun _ => none⟩ B_impl_DoCmd := frOk_base mixed tt_ok ⟨ok_impl_SpanOf, ok_impl_CmdCode, ok_impl_Blocks, ok_impl_copyInts, trivial⟩
noncomputable def D_impl_DoCmd_0 : Nat → Option Seg := fun _ => none
abbrev I_impl_DoCmd : List Par := [.rd tG, .rd tL, .rd tC]
abbrev U_impl_DoCmd : List OT := [⟨false, tL, (.ow .fz)⟩, ⟨false, tN, (.pr .fz (.pr .fz (.ow .fz)))⟩]
noncomputable def raw_impl_DoCmd (a0 : Int × Int) (a1 : List Int) (a2 : Int × Int × Int × Int × (List Int)) : Option (ResD U_impl_DoCmd × MutD I_impl_DoCmd) :=
  let r1 := n_impl_copyInts a1
  let r2 := n_impl_CmdCode a0 a2
  let r3 := n_impl_Blocks a0
  bif ((a1.length : Int) != r3) then
    some ((r1, (a2.2.1, 1, []), ()), ())
  else
    bif (r2 != 0) then
      some ((r1, (a2.2.1, r2, []), ()), ())
    else
      let r4 := n_impl_SpanOf a0 a2
      bif (a2.1 == 1) then
        bif (cutok r4.1 r4.2 a1.length) then
          let r5 := n_impl_copyInts ((a1.drop (r4.1).toNat).take (r4.2 - r4.1).toNat)
          some ((r1, (a2.2.1, r2, r5), ()), ())
        else none
      else
        bif (a2.1 == 2) then
          bif (a2.1 == 2) then
            bif (cutok r4.1 r4.2 r1.length) then
              some (((r1.take (r4.1).toNat ++ (a2.2.2.2.2.take (r4.2 - r4.1).toNat) ++ r1.drop ((r4.1).toNat + (a2.2.2.2.2.take (r4.2 - r4.1).toNat).length)), (a2.2.1, r2, []), ()), ())
            else none
          else
            bif (a2.1 == 6) then
              bif (cutok r4.1 r4.2 r1.length) then
                some (((r1.take (r4.1).toNat ++ (List.replicate (r4.2 - r4.1).toNat (0 : Int)) ++ r1.drop ((r4.1).toNat + (List.replicate (r4.2 - r4.1).toNat (0 : Int)).length)), (a2.2.1, r2, []), ()), ())
              else none
            else
              bif (a2.1 == 5) then
                bif (inb r4.1 a1.length) then
                  bif (inb 0 a2.2.2.2.2.length) then
                    bif ((nth a1 r4.1 0) == (nth a2.2.2.2.2 0 0)) then
                      bif (inb 1 a2.2.2.2.2.length) then
                        bif (inb r4.1 r1.length) then
                          some (((r1.set (r4.1).toNat (nth a2.2.2.2.2 1 0)), (a2.2.1, r2, []), ()), ())
                        else none
                      else none
                    else
                      some ((r1, (a2.2.1, 4, []), ()), ())
                  else none
                else none
              else
                some ((r1, (a2.2.1, r2, []), ()), ())
        else
          bif (a2.1 == 3) then
            bif (cutok r4.1 r4.2 r1.length) then
              some (((r1.take (r4.1).toNat ++ (a2.2.2.2.2.take (r4.2 - r4.1).toNat) ++ r1.drop ((r4.1).toNat + (a2.2.2.2.2.take (r4.2 - r4.1).toNat).length)), (a2.2.1, r2, []), ()), ())
            else none
          else
            bif (a2.1 == 6) then
              bif (cutok r4.1 r4.2 r1.length) then
                some (((r1.take (r4.1).toNat ++ (List.replicate (r4.2 - r4.1).toNat (0 : Int)) ++ r1.drop ((r4.1).toNat + (List.replicate (r4.2 - r4.1).toNat (0 : Int)).length)), (a2.2.1, r2, []), ()), ())
              else none
            else
              bif (a2.1 == 5) then
                bif (inb r4.1 a1.length) then
                  bif (inb 0 a2.2.2.2.2.length) then
                    bif ((nth a1 r4.1 0) == (nth a2.2.2.2.2 0 0)) then
                      bif (inb 1 a2.2.2.2.2.length) then
                        bif (inb r4.1 r1.length) then
                          some (((r1.set (r4.1).toNat (nth a2.2.2.2.2 1 0)), (a2.2.1, r2, []), ()), ())
                        else none
                      else none
                    else
                      some ((r1, (a2.2.1, 4, []), ()), ())
                  else none
                else none
              else
                some ((r1, (a2.2.1, r2, []), ()), ())
theorem e_impl_DoCmd (x : InD I_impl_DoCmd) : execF ⟨E_impl_DoCmd, 84, D_impl_DoCmd_0⟩ Try.f23.results.toList B_impl_DoCmd I_impl_DoCmd U_impl_DoCmd x = raw_impl_DoCmd x.1 x.2.1 x.2.2.1 := by kernel_rfl
theorem ok0_impl_DoCmd : ConOk Try.prog 23 ⟨I_impl_DoCmd, U_impl_DoCmd, fun x => raw_impl_DoCmd x.1 x.2.1 x.2.2.1⟩ := conOk_exec (fr_impl_DoCmd_0) Try.func23 (by kernel_rfl) (by kernel_rfl) Try.ntmps23.symm (by decide) (fun x r h => (e_impl_DoCmd x).trans h)
noncomputable def n_impl_DoCmd (a0 : dG) (a1 : List Int) (a2 : dC) : List Int × dN := pDo a0 a1 a2
theorem nn_impl_DoCmd (a0 : dG) (a1 : List Int) (a2 : dC) (hk : InOk I_impl_DoCmd (a0, a1, a2, ())) : raw_impl_DoCmd a0 a1 a2 = (fun n => some ((n.1, n.2, ()), ())) (n_impl_DoCmd a0 a1 a2) := by
  have hB := spec_Blocks_le a0
  unfold raw_impl_DoCmd n_impl_DoCmd pDo
  simp only [code_eq, impl_Blocks_eq, n_impl_copyInts]
  by_cases h1 : (a1.length : Int) = n_spec_Blocks a0
  · by_cases h2 : n_spec_CmdCode a0 a2 = 0
    · rw [show ((a1.length : Int) != n_spec_Blocks a0) = false by simp [h1], show (n_spec_CmdCode a0 a2 != 0) = false by simp [h2]]
      obtain ⟨op, id, lba, n, v⟩ := a2
      simp only [cond_false, h2]
      rcases good_cmd h2 with rfl | ⟨p, ⟨rfl | rfl, q1, q2, q3⟩ | ⟨rfl | rfl, q1, q2, q3⟩ | ⟨rfl, q1, q3⟩⟩
      · rfl
      · rw [span_good h2 (by decide)]
        show (bif cutok lba (lba + n) a1.length then some ((a1, (id, 0, (a1.drop lba.toNat).take (lba + n - lba).toNat), ()), ()) else none) = _
        rw [cutok_iff.2 (show 0 ≤ lba ∧ lba ≤ lba + n ∧ lba + n ≤ a1.length by omega), show (lba + n - lba).toNat = n.toNat by omega]
        rfl
      · rw [span_good h2 (by decide)]
        show (bif cutok lba (lba + n) a1.length then some ((patch a1 lba.toNat (List.replicate (lba + n - lba).toNat 0), (id, 0, []), ()), ()) else none) = _
        rw [cutok_iff.2 (show 0 ≤ lba ∧ lba ≤ lba + n ∧ lba + n ≤ a1.length by omega), show (lba + n - lba).toNat = n.toNat by omega]
        rfl
      · rw [span_good h2 (by decide)]
        show (bif cutok lba (lba + v.length) a1.length then some ((patch a1 lba.toNat (v.take (lba + v.length - lba).toNat), (id, 0, []), ()), ()) else none) = _
        rw [cutok_iff.2 (show 0 ≤ lba ∧ lba ≤ lba + v.length ∧ lba + v.length ≤ a1.length by omega), show (lba + (v.length : Int) - lba).toNat = v.length by omega, List.take_length]
        rfl
      · rw [span_good h2 (by decide)]
        show (bif cutok lba (lba + v.length) a1.length then some ((patch a1 lba.toNat (v.take (lba + v.length - lba).toNat), (id, 0, []), ()), ()) else none) = _
        rw [cutok_iff.2 (show 0 ≤ lba ∧ lba ≤ lba + v.length ∧ lba + v.length ≤ a1.length by omega), show (lba + (v.length : Int) - lba).toNat = v.length by omega, List.take_length]
        rfl
      · rw [span_good h2 (by decide)]
        show (bif inb lba a1.length then bif inb 0 v.length then bif nth a1 lba 0 == nth v 0 0 then bif inb 1 v.length then bif inb lba a1.length then some ((a1.set lba.toNat (nth v 1 0), (id, 0, []), ()), ()) else none else none else some ((a1, (id, 4, []), ()), ()) else none else none) = _
        rw [inb_iff.2 (show 0 ≤ lba ∧ lba < a1.length by omega), inb_iff.2 (show (0 : Int) ≤ 0 ∧ (0 : Int) < v.length by omega), inb_iff.2 (show (0 : Int) ≤ 1 ∧ (1 : Int) < v.length by omega)]
        cases (nth a1 lba 0 == nth v 0 0) <;> rfl
    · rw [show ((a1.length : Int) != n_spec_Blocks a0) = false by simp [h1], show (n_spec_CmdCode a0 a2 != 0) = true from bne_iff_ne.2 h2]
      rfl
  · rw [show ((a1.length : Int) != n_spec_Blocks a0) = true from bne_iff_ne.2 h1]
    rfl
noncomputable def con_impl_DoCmd : Con := ⟨I_impl_DoCmd, U_impl_DoCmd, fun x => (fun n => some ((n.1, n.2, ()), ())) (n_impl_DoCmd x.1 x.2.1 x.2.2.1)⟩
theorem ok_impl_DoCmd : ConOk Try.prog 23 con_impl_DoCmd := (ok0_impl_DoCmd).mono (fun x r hk h => (nn_impl_DoCmd x.1 x.2.1 x.2.2.1 hk).trans h)
end

/-! impl_DoCmds -/
section
noncomputable def B_impl_DoCmds : Code := (Try.f38.body).getD .skip
noncomputable def E_impl_DoCmds : Env := envOf TT [(23, con_impl_DoCmd), (74, con_impl_copyInts)] []
theorem fr_impl_DoCmds_0 : FrOk Try.prog ⟨E_impl_DoCmds, 42, fun _ => none⟩ B_impl_DoCmds := frOk_base mixed tt_ok ⟨ok_impl_DoCmd, ok_impl_copyInts, trivial⟩
noncomputable def D_impl_DoCmds_0 : Nat → Option Seg := fun _ => none
def L_impl_DoCmds_61 : Shape := ⟨[(3, false, [.ptr 0 0]), (8, false, [.at 800000000]), (9, false, [.at 800000001]), (21, false, [.br tC]), (22, false, [.int .i64]), (23, false, [.int .i64])], [(0, [.int .i64, .int .i64])], [(800000000, tI, .fz), (800000001, tN, (.pr .fz (.pr .fz (.ow .fz))))]⟩
def S_impl_DoCmds_61 : Shape := ⟨[(3, false, [.ptr 0 0]), (8, false, [.at 800000000]), (9, false, [.at 800000001]), (21, false, [.br tC]), (22, false, [.int .i64]), (23, false, [.ci .i64 0])], [(0, [.int .i64, .int .i64])], [(800000000, tI, .fz), (800000001, tN, (.pr .fz (.pr .fz (.ow .fz))))]⟩
def O_impl_DoCmds_61 : Shape := ⟨[(8, false, [.at 800000000]), (9, false, [.at 800000001])], [], [(800000000, tI, .fz), (800000001, tN, (.pr .fz (.pr .fz (.ow .fz))))]⟩
def Z_impl_DoCmds_61 : Shape := ⟨[], [], []⟩
noncomputable def st_impl_DoCmds_61 (v0 : List (Int × Int × Int × Int × (List Int))) (v1 : Int) (v2 : Int) (v3 : Int) (v4 : Int) (v5 : List Int) (v6 : List (Int × Int × (List Int))) : Option ((L_impl_DoCmds_61).X ⊕ ((O_impl_DoCmds_61).X ⊕ (Z_impl_DoCmds_61).X)) :=
  bif (ltb v2 v1) then
    bif (inb v2 v0.length) then
      let r3 := n_impl_DoCmd (v3, v4) v5 ((nth v0 v2 (0, 0, 0, 0, [])).1, ((nth v0 v2 (0, 0, 0, 0, [])).2).1, (((nth v0 v2 (0, 0, 0, 0, [])).2).2).1, ((((nth v0 v2 (0, 0, 0, 0, [])).2).2).2))
      bif (apok v6.length ([r3.2] : List (Int × Int × (List Int))).length 40) then
        some (.inl ((((), ()), ((), ()), ((), ()), (v0, ()), (v1, ()), ((IntKind.i64.wrap (v2 + 1)), ()), ()), ((v3, v4, ()), ()), (r3.1, (v6 ++ ([r3.2] : List (Int × Int × (List Int)))), ())))
      else none
    else none
  else
    some (.inr (.inl ((((), ()), ((), ()), ()), (), (v5, v6, ()))))
noncomputable def stx_impl_DoCmds_61 (x : (L_impl_DoCmds_61).X) := st_impl_DoCmds_61 x.1.2.2.2.1.1 x.1.2.2.2.2.1.1 x.1.2.2.2.2.2.1.1 x.2.1.1.1 x.2.1.1.2.1 x.2.2.1 x.2.2.2.1
def em_impl_DoCmds_61 (x : (S_impl_DoCmds_61).X) : (L_impl_DoCmds_61).X := ((((), ()), ((), ()), ((), ()), (x.1.2.2.2.1.1, ()), (x.1.2.2.2.2.1.1, ()), (0, ()), ()), ((x.2.1.1.1, x.2.1.1.2.1, ()), ()), (x.2.2.1, x.2.2.2.1, ()))
noncomputable def c_impl_DoCmds_61 : Code := (subN B_impl_DoCmds 64 244).getD .skip
theorem a_impl_DoCmds_61 : subN B_impl_DoCmds 64 61 = some (.block 0 (.loop c_impl_DoCmds_61)) := by kernel_rfl
theorem r_impl_DoCmds_61 (x : (L_impl_DoCmds_61).X) : roundT ⟨E_impl_DoCmds, 42, D_impl_DoCmds_0⟩ 0 c_impl_DoCmds_61 244 L_impl_DoCmds_61 O_impl_DoCmds_61 Z_impl_DoCmds_61 x = stx_impl_DoCmds_61 x := by kernel_rfl
noncomputable def fu_impl_DoCmds_61 (x : (S_impl_DoCmds_61).X) : Nat := (fun (u0 : List (Int × Int × Int × Int × (List Int))) (u1 : Int) (u2 : Int) (u3 : Int) (u4 : List Int) (u5 : List (Int × Int × (List Int))) => 18446744073709551616) x.1.2.2.2.1.1 x.1.2.2.2.2.1.1 x.2.1.1.1 x.2.1.1.2.1 x.2.2.1 x.2.2.2.1
noncomputable def F_impl_DoCmds_61 (x : (S_impl_DoCmds_61).X) : Option ((O_impl_DoCmds_61).X ⊕ (Z_impl_DoCmds_61).X) := loopN stx_impl_DoCmds_61 (fu_impl_DoCmds_61 x) (em_impl_DoCmds_61 x)
noncomputable def sg_impl_DoCmds_61 : Seg := ⟨S_impl_DoCmds_61, O_impl_DoCmds_61, Z_impl_DoCmds_61, F_impl_DoCmds_61⟩
noncomputable def D_impl_DoCmds_1 : Nat → Option Seg := fun q => bif Nat.beq q 61 then some sg_impl_DoCmds_61 else D_impl_DoCmds_0 q
theorem fr_impl_DoCmds_1 : FrOk Try.prog ⟨E_impl_DoCmds, 42, D_impl_DoCmds_1⟩ B_impl_DoCmds := (fr_impl_DoCmds_0).loop (sg := sg_impl_DoCmds_61) L_impl_DoCmds_61 em_impl_DoCmds_61 (by decide) a_impl_DoCmds_61 stx_impl_DoCmds_61 fu_impl_DoCmds_61 (by decide) (fun _ => rfl) (fun x r _ h => h) r_impl_DoCmds_61
abbrev I_impl_DoCmds : List Par := [.rd tG, .rd tL, .rd tCs]
abbrev U_impl_DoCmds : List OT := [⟨false, tL, (.ow .fz)⟩, ⟨false, tNs, (.ow (.pr .fz (.pr .fz (.ow .fz))))⟩]
noncomputable def raw_impl_DoCmds (a0 : Int × Int) (a1 : List Int) (a2 : List (Int × Int × Int × Int × (List Int))) : Option (ResD U_impl_DoCmds × MutD I_impl_DoCmds) :=
  let r1 := n_impl_copyInts a1
  bif (cutok 0 (bif (ltb 400 (a2.length : Int)) then 400 else (a2.length : Int)) a2.length) then
    segM (F_impl_DoCmds_61 ((((), ()), ((), ()), ((), ()), (((a2.drop (0 : Int).toNat).take ((bif (ltb 400 (a2.length : Int)) then 400 else (a2.length : Int)) - 0).toNat), ()), ((((a2.drop (0 : Int).toNat).take ((bif (ltb 400 (a2.length : Int)) then 400 else (a2.length : Int)) - 0).toNat).length : Int), ()), ((), ()), ()), ((a0.1, a0.2, ()), ()), (r1, ([] : List (Int × Int × (List Int))), ()))) (fun y3 =>
      some ((y3.2.2.1, y3.2.2.2.1, ()), ())) (fun y3 =>
      none)
  else none
theorem e_impl_DoCmds (x : InD I_impl_DoCmds) : execF ⟨E_impl_DoCmds, 42, D_impl_DoCmds_1⟩ Try.f38.results.toList B_impl_DoCmds I_impl_DoCmds U_impl_DoCmds x = raw_impl_DoCmds x.1 x.2.1 x.2.2.1 := by kernel_rfl
theorem ok0_impl_DoCmds : ConOk Try.prog 38 ⟨I_impl_DoCmds, U_impl_DoCmds, fun x => raw_impl_DoCmds x.1 x.2.1 x.2.2.1⟩ := conOk_exec (fr_impl_DoCmds_1) Try.func38 (by kernel_rfl) (by kernel_rfl) Try.ntmps38.symm (by decide) (fun x r h => (e_impl_DoCmds x).trans h)
noncomputable def n_impl_DoCmds (a0 : dG) (a1 : List Int) (a2 : List dC) : List Int × List dN := doAll a0 a1 a2
theorem nn_impl_DoCmds (a0 : dG) (a1 : List Int) (a2 : List dC) (hk : InOk I_impl_DoCmds (a0, a1, a2, ())) : raw_impl_DoCmds a0 a1 a2 = (fun n => some ((n.1, n.2, ()), ())) (n_impl_DoCmds a0 a1 a2) := by
  have hc : a2.length * 56 ≤ 2 ^ 47 := hk.2.2.1.1
  have hm : (bif (ltb 400 (a2.length : Int)) then 400 else (a2.length : Int)) = min 400 (a2.length : Int) := by
    by_cases h : 400 < (a2.length : Int)
    · rw [ltb_t h, bif_t]; omega
    · rw [ltb_f (by omega), bif_f]; omega
  have ht : ((a2.drop (0 : Int).toNat).take (min 400 (a2.length : Int) - 0).toNat) = a2.take 400 := by
    show (a2.drop 0).take _ = _
    rw [List.drop_zero]
    by_cases h : a2.length ≤ 400
    · rw [List.take_of_length_le (by omega), List.take_of_length_le h]
    · rw [show (min 400 (a2.length : Int) - 0).toNat = 400 by omega]
  have hT : (a2.take 400).length ≤ 400 := by rw [List.length_take]; omega
  have hl : F_impl_DoCmds_61 ((((), ()), ((), ()), ((), ()), (a2.take 400, ()), (((a2.take 400).length : Int), ()), ((), ()), ()), ((a0.1, a0.2, ()), ()), (a1, ([] : List dN), ())) = some (.inl ((((), ()), ((), ()), ()), (), ((doAll a0 a1 a2).1, (doAll a0 a1 a2).2, ()))) :=
    loopN_fold (step := stx_impl_DoCmds_61) (a2.take 400) ((0, 0, 0, 0, []) : dC) (fun (i : Nat) (s : List Int × List dN) => ((((), ()), ((), ()), ((), ()), (a2.take 400, ()), (((a2.take 400).length : Int), ()), ((i : Int), ()), ()), ((a0.1, a0.2, ()), ()), (s.1, s.2, ()))) (doOne a0) (fun i s => s.2.length = i) (fun s => .inl ((((), ()), ((), ()), ()), (), (s.1, s.2, ())))
      (fun i s hi hs => by
        refine ⟨?_, by show (s.2 ++ [_]).length = i + 1; rw [List.length_append, hs]; rfl⟩
        simp only [stx_impl_DoCmds_61, st_impl_DoCmds_61, ltb_t (show (i : Int) < (a2.take 400).length by omega), inb_nat hi, nth_nat, cond_true, wr (show -9223372036854775808 ≤ (i : Int) + 1 by omega) (by omega), Int.natCast_add, Int.natCast_one, pr_eta, n_impl_DoCmd]
        rw [show apok s.2.length ([(pDo a0 s.1 ((a2.take 400).getD i (0, 0, 0, 0, []))).2] : List dN).length 40 = true from apok_iff.2 (by rw [hs]; simp only [List.length_cons, List.length_nil]; omega)]
        rfl)
      (fun s hs => by simp only [stx_impl_DoCmds_61, st_impl_DoCmds_61, ltb_f (Int.le_refl _), cond_false]) (a1, []) rfl _ (by show _ < 18446744073709551616; omega)
  unfold raw_impl_DoCmds n_impl_DoCmds
  simp only [hm, ht, n_impl_copyInts, cutok_iff.2 (show (0 : Int) ≤ 0 ∧ 0 ≤ min 400 (a2.length : Int) ∧ min 400 (a2.length : Int) ≤ a2.length by omega), cond_true]
  rw [hl]; rfl
noncomputable def con_impl_DoCmds : Con := ⟨I_impl_DoCmds, U_impl_DoCmds, fun x => (fun n => some ((n.1, n.2, ()), ())) (n_impl_DoCmds x.1 x.2.1 x.2.2.1)⟩
theorem ok_impl_DoCmds : ConOk Try.prog 38 con_impl_DoCmds := (ok0_impl_DoCmds).mono (fun x r hk h => (nn_impl_DoCmds x.1 x.2.1 x.2.2.1 hk).trans h)
end

/-! laws_szIntS -/
section
noncomputable def B_laws_szIntS : Code := (Try.f66.body).getD .skip
noncomputable def E_laws_szIntS : Env := envOf TT [] []
theorem fr_laws_szIntS_0 : FrOk Try.prog ⟨E_laws_szIntS, 12, fun _ => none⟩ B_laws_szIntS := frOk_base mixed tt_ok trivial
noncomputable def D_laws_szIntS_0 : Nat → Option Seg := fun _ => none
abbrev I_laws_szIntS : List Par := [.rd tL, .rd tI]
abbrev U_laws_szIntS : List OT := [⟨false, tI, .fz⟩]
noncomputable def raw_laws_szIntS (a0 : List Int) (a1 : Int) : Option (ResD U_laws_szIntS × MutD I_laws_szIntS) :=
  bif (ltb (IntKind.i64.wrap (a1 - (a0.length : Int))) 0) then
    some (((-1), ()), ())
  else
    some (((IntKind.i64.wrap (a1 - (a0.length : Int))), ()), ())
theorem e_laws_szIntS (x : InD I_laws_szIntS) : execF ⟨E_laws_szIntS, 12, D_laws_szIntS_0⟩ Try.f66.results.toList B_laws_szIntS I_laws_szIntS U_laws_szIntS x = raw_laws_szIntS x.1 x.2.1 := by kernel_rfl
theorem ok0_laws_szIntS : ConOk Try.prog 66 ⟨I_laws_szIntS, U_laws_szIntS, fun x => raw_laws_szIntS x.1 x.2.1⟩ := conOk_exec (fr_laws_szIntS_0) Try.func66 (by kernel_rfl) (by kernel_rfl) Try.ntmps66.symm (by decide) (fun x r h => (e_laws_szIntS x).trans h)
noncomputable def n_laws_szIntS (a0 : List Int) (a1 : Int) : Int :=
  bif (ltb (IntKind.i64.wrap (a1 - (a0.length : Int))) 0) then
    (-1)
  else
    (IntKind.i64.wrap (a1 - (a0.length : Int)))
noncomputable def con_laws_szIntS : Con := ⟨I_laws_szIntS, U_laws_szIntS, fun x => (fun n => some ((n, ()), ())) (n_laws_szIntS x.1 x.2.1)⟩
theorem nn_laws_szIntS (a0 : List Int) (a1 : Int) : raw_laws_szIntS a0 a1 = (fun n => some ((n, ()), ())) (n_laws_szIntS a0 a1) := bif_ty (p := fun (n : Int) => ((n, ()), ())) (bif_some (p := fun (n : Int) => ((n, ()), ())) rfl rfl)
theorem ok_laws_szIntS : ConOk Try.prog 66 con_laws_szIntS := (ok0_laws_szIntS).mono (fun x r _ h => (nn_laws_szIntS x.1 x.2.1).trans h)
theorem szIntS_nn {a : List Int} {k : Int} (hk : 0 ≤ k) (hk2 : k ≤ 1048576) (ha : a.length ≤ 17592186044416) (h : ¬ n_laws_szIntS a k < 0) : (a.length : Int) ≤ k ∧ n_laws_szIntS a k = k - a.length := by
  unfold n_laws_szIntS at h ⊢
  rw [wr (by omega) (by omega)] at h ⊢
  by_cases h1 : k - (a.length : Int) < 0
  · rw [ltb_t h1] at h; exact absurd (show (-1 : Int) < 0 by omega) h
  · rw [ltb_f (Int.not_lt.1 h1)]; exact ⟨by omega, rfl⟩
end

/-! laws_szCmd -/
section
noncomputable def B_laws_szCmd : Code := (Try.f13.body).getD .skip
noncomputable def E_laws_szCmd : Env := envOf TT [(66, con_laws_szIntS)] []
theorem fr_laws_szCmd_0 : FrOk Try.prog ⟨E_laws_szCmd, 12, fun _ => none⟩ B_laws_szCmd := frOk_base mixed tt_ok ⟨ok_laws_szIntS, trivial⟩
noncomputable def D_laws_szCmd_0 : Nat → Option Seg := fun _ => none
abbrev I_laws_szCmd : List Par := [.rd tC, .rd tI]
abbrev U_laws_szCmd : List OT := [⟨false, tI, .fz⟩]
noncomputable def raw_laws_szCmd (a0 : Int × Int × Int × Int × (List Int)) (a1 : Int) : Option (ResD U_laws_szCmd × MutD I_laws_szCmd) :=
  let r1 := n_laws_szIntS a0.2.2.2.2 a1
  bif (ltb r1 0) then
    some (((-1), ()), ())
  else
    some ((r1, ()), ())
theorem e_laws_szCmd (x : InD I_laws_szCmd) : execF ⟨E_laws_szCmd, 12, D_laws_szCmd_0⟩ Try.f13.results.toList B_laws_szCmd I_laws_szCmd U_laws_szCmd x = raw_laws_szCmd x.1 x.2.1 := by kernel_rfl
theorem ok0_laws_szCmd : ConOk Try.prog 13 ⟨I_laws_szCmd, U_laws_szCmd, fun x => raw_laws_szCmd x.1 x.2.1⟩ := conOk_exec (fr_laws_szCmd_0) Try.func13 (by kernel_rfl) (by kernel_rfl) Try.ntmps13.symm (by decide) (fun x r h => (e_laws_szCmd x).trans h)
noncomputable def n_laws_szCmd (a0 : Int × Int × Int × Int × (List Int)) (a1 : Int) : Int :=
  let r1 := n_laws_szIntS a0.2.2.2.2 a1
  bif (ltb r1 0) then
    (-1)
  else
    r1
noncomputable def con_laws_szCmd : Con := ⟨I_laws_szCmd, U_laws_szCmd, fun x => (fun n => some ((n, ()), ())) (n_laws_szCmd x.1 x.2.1)⟩
theorem nn_laws_szCmd (a0 : Int × Int × Int × Int × (List Int)) (a1 : Int) : raw_laws_szCmd a0 a1 = (fun n => some ((n, ()), ())) (n_laws_szCmd a0 a1) := bif_ty (p := fun (n : Int) => ((n, ()), ())) (bif_some (p := fun (n : Int) => ((n, ()), ())) rfl rfl)
theorem ok_laws_szCmd : ConOk Try.prog 13 con_laws_szCmd := (ok0_laws_szCmd).mono (fun x r _ h => (nn_laws_szCmd x.1 x.2.1).trans h)
end
end Go.Tf
