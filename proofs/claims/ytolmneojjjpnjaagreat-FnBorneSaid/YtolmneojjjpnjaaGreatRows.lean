/-
  No cell of these rows narrows 'for every input' (looked for: loops, veiled, ifaces, maps, wideKeys, modest, calm, conditions, laid).
  DERIVED. THE GIVEN ROWS OF THIS SEAT. 11 by the template 'for every input the law returns true; each argument reads behind the call as it read before'; 0 by the template 'total and deterministic' (their statements: YtolmneojjjpnjaaGreatTotals.lean).
  GIVEN WITH THE SEED: the statements are not yours to turn. If you find one false, say at which input.
  Laid BY PROGRAM, IN A SANDBOX (cutbox-rows.mjs): the forced cells as the released guide's own fill.sh prints them over the translation 43bcdef329048164… (all of the seat's roots in one cut). By AI agents, Wed Nov 11 2026. No macro, syntax, notation, axiom, sorry.
-/
import Derived.Test.YtolmneojjjpnjaaGreatChecked
import GoSem.Claim
import GoSem.ClaimJoined
import GoSem.ClaimMapViews
import Derived.JoinedTies
import Derived.KernelRfl
namespace Go.Proofs.YtolmneojjjpnjaaGreat
/- THE CELL 'sum', in the pinned program and in every row, IS THE sha256 OF THE DUMP (.gsa) THAT YtolmneojjjpnjaaGreatProg.lean LOADS. Nothing in Lean hashes anything: it is a label: what it is worth is what the hold of that sum in a sandbox is worth. -/
noncomputable def Tryz.pinned : Pinned := { name := "ytolmneojjjpnjaagreat", sum := "43bcdef3290481641a44cf09d0f7eeac23dce92f5133a70a619337f770f92876", checked := Tryz.checked }
namespace Rows
def none {H : Type} : Left H := { results := [], args := [] }

/-- 'laws.FnFallsBent': WHATEVER THE INPUT: true; the input reads as it did. -/
def fnFallsBentSpec : ChangeSpec := { name := "fnFallsBent", fn := fun _ => fun
  | [d] => { results := [.lit (.bool true)], args := [d] }
  | _ => none }
def fnFallsBentRow : OpenClaim := { program := "ytolmneojjjpnjaagreat", sum := "43bcdef3290481641a44cf09d0f7eeac23dce92f5133a70a619337f770f92876", func := "loop.example/g00398/laws.FnFallsBent", spec := "fnFallsBent", unfollowed := true, recurses := true, apart := false }
def FnFallsBentSaid : Prop := fnFallsBentRow.holds Tryz.pinned (OpenSpec.ofChange fnFallsBentSpec)

/-- ITS FALSE NEIGHBOUR: 'it returns false'. Refute it at one input. -/
def fnFallsBentWrong : ChangeSpec := { name := "fnFallsBent", fn := fun _ => fun
  | [d] => { results := [.lit (.bool false)], args := [d] }
  | _ => none }
def FnFallsBentWrongFalsely : Prop := fnFallsBentRow.holds Tryz.pinned (OpenSpec.ofChange fnFallsBentWrong)

/-- 'laws.FnFailsBent': WHATEVER THE INPUT: true; the input reads as it did. -/
def fnFailsBentSpec : ChangeSpec := { name := "fnFailsBent", fn := fun _ => fun
  | [d] => { results := [.lit (.bool true)], args := [d] }
  | _ => none }
def fnFailsBentRow : OpenClaim := { program := "ytolmneojjjpnjaagreat", sum := "43bcdef3290481641a44cf09d0f7eeac23dce92f5133a70a619337f770f92876", func := "loop.example/g00398/laws.FnFailsBent", spec := "fnFailsBent", unfollowed := true, recurses := true, apart := false }
def FnFailsBentSaid : Prop := fnFailsBentRow.holds Tryz.pinned (OpenSpec.ofChange fnFailsBentSpec)

/-- ITS FALSE NEIGHBOUR: 'it returns false'. Refute it at one input. -/
def fnFailsBentWrong : ChangeSpec := { name := "fnFailsBent", fn := fun _ => fun
  | [d] => { results := [.lit (.bool false)], args := [d] }
  | _ => none }
def FnFailsBentWrongFalsely : Prop := fnFailsBentRow.holds Tryz.pinned (OpenSpec.ofChange fnFailsBentWrong)

/-- 'laws.FnBuilt': WHATEVER THE INPUT: true; the input reads as it did. -/
def fnBuiltSpec : ChangeSpec := { name := "fnBuilt", fn := fun _ => fun
  | [d] => { results := [.lit (.bool true)], args := [d] }
  | _ => none }
def fnBuiltRow : OpenClaim := { program := "ytolmneojjjpnjaagreat", sum := "43bcdef3290481641a44cf09d0f7eeac23dce92f5133a70a619337f770f92876", func := "loop.example/g00398/laws.FnBuilt", spec := "fnBuilt", unfollowed := true, recurses := true, apart := false }
def FnBuiltSaid : Prop := fnBuiltRow.holds Tryz.pinned (OpenSpec.ofChange fnBuiltSpec)

/-- ITS FALSE NEIGHBOUR: 'it returns false'. Refute it at one input. -/
def fnBuiltWrong : ChangeSpec := { name := "fnBuilt", fn := fun _ => fun
  | [d] => { results := [.lit (.bool false)], args := [d] }
  | _ => none }
def FnBuiltWrongFalsely : Prop := fnBuiltRow.holds Tryz.pinned (OpenSpec.ofChange fnBuiltWrong)

/-- 'laws.FnSure': WHATEVER THE INPUT: true; the input reads as it did. -/
def fnSureSpec : ChangeSpec := { name := "fnSure", fn := fun _ => fun
  | [d] => { results := [.lit (.bool true)], args := [d] }
  | _ => none }
def fnSureRow : OpenClaim := { program := "ytolmneojjjpnjaagreat", sum := "43bcdef3290481641a44cf09d0f7eeac23dce92f5133a70a619337f770f92876", func := "loop.example/g00398/laws.FnSure", spec := "fnSure", unfollowed := true, recurses := true, apart := false }
def FnSureSaid : Prop := fnSureRow.holds Tryz.pinned (OpenSpec.ofChange fnSureSpec)

/-- ITS FALSE NEIGHBOUR: 'it returns false'. Refute it at one input. -/
def fnSureWrong : ChangeSpec := { name := "fnSure", fn := fun _ => fun
  | [d] => { results := [.lit (.bool false)], args := [d] }
  | _ => none }
def FnSureWrongFalsely : Prop := fnSureRow.holds Tryz.pinned (OpenSpec.ofChange fnSureWrong)

/-- 'laws.FnAgain': WHATEVER THE INPUT: true; the input reads as it did. -/
def fnAgainSpec : ChangeSpec := { name := "fnAgain", fn := fun _ => fun
  | [d] => { results := [.lit (.bool true)], args := [d] }
  | _ => none }
def fnAgainRow : OpenClaim := { program := "ytolmneojjjpnjaagreat", sum := "43bcdef3290481641a44cf09d0f7eeac23dce92f5133a70a619337f770f92876", func := "loop.example/g00398/laws.FnAgain", spec := "fnAgain", unfollowed := true, recurses := true, apart := false }
def FnAgainSaid : Prop := fnAgainRow.holds Tryz.pinned (OpenSpec.ofChange fnAgainSpec)

/-- ITS FALSE NEIGHBOUR: 'it returns false'. Refute it at one input. -/
def fnAgainWrong : ChangeSpec := { name := "fnAgain", fn := fun _ => fun
  | [d] => { results := [.lit (.bool false)], args := [d] }
  | _ => none }
def FnAgainWrongFalsely : Prop := fnAgainRow.holds Tryz.pinned (OpenSpec.ofChange fnAgainWrong)

/-- 'laws.FnTorn': WHATEVER THE INPUT: true; the input reads as it did. -/
def fnTornSpec : ChangeSpec := { name := "fnTorn", fn := fun _ => fun
  | [d] => { results := [.lit (.bool true)], args := [d] }
  | _ => none }
def fnTornRow : OpenClaim := { program := "ytolmneojjjpnjaagreat", sum := "43bcdef3290481641a44cf09d0f7eeac23dce92f5133a70a619337f770f92876", func := "loop.example/g00398/laws.FnTorn", spec := "fnTorn", unfollowed := true, recurses := true, apart := false }
def FnTornSaid : Prop := fnTornRow.holds Tryz.pinned (OpenSpec.ofChange fnTornSpec)

/-- ITS FALSE NEIGHBOUR: 'it returns false'. Refute it at one input. -/
def fnTornWrong : ChangeSpec := { name := "fnTorn", fn := fun _ => fun
  | [d] => { results := [.lit (.bool false)], args := [d] }
  | _ => none }
def FnTornWrongFalsely : Prop := fnTornRow.holds Tryz.pinned (OpenSpec.ofChange fnTornWrong)

/-- 'laws.FnTornLost': WHATEVER THE INPUT: true; the input reads as it did. -/
def fnTornLostSpec : ChangeSpec := { name := "fnTornLost", fn := fun _ => fun
  | [d] => { results := [.lit (.bool true)], args := [d] }
  | _ => none }
def fnTornLostRow : OpenClaim := { program := "ytolmneojjjpnjaagreat", sum := "43bcdef3290481641a44cf09d0f7eeac23dce92f5133a70a619337f770f92876", func := "loop.example/g00398/laws.FnTornLost", spec := "fnTornLost", unfollowed := true, recurses := true, apart := false }
def FnTornLostSaid : Prop := fnTornLostRow.holds Tryz.pinned (OpenSpec.ofChange fnTornLostSpec)

/-- ITS FALSE NEIGHBOUR: 'it returns false'. Refute it at one input. -/
def fnTornLostWrong : ChangeSpec := { name := "fnTornLost", fn := fun _ => fun
  | [d] => { results := [.lit (.bool false)], args := [d] }
  | _ => none }
def FnTornLostWrongFalsely : Prop := fnTornLostRow.holds Tryz.pinned (OpenSpec.ofChange fnTornLostWrong)

/-- 'laws.FnBorne': WHATEVER THE INPUT: true; the input reads as it did. -/
def fnBorneSpec : ChangeSpec := { name := "fnBorne", fn := fun _ => fun
  | [d] => { results := [.lit (.bool true)], args := [d] }
  | _ => none }
def fnBorneRow : OpenClaim := { program := "ytolmneojjjpnjaagreat", sum := "43bcdef3290481641a44cf09d0f7eeac23dce92f5133a70a619337f770f92876", func := "loop.example/g00398/laws.FnBorne", spec := "fnBorne", inPlace := ["slices.overlaps[loop.example/g00398/impl.Ent]"], unfollowed := true, recurses := true, apart := false }
def FnBorneSaid : Prop := fnBorneRow.holds Tryz.pinned (OpenSpec.ofChange fnBorneSpec)

/-- ITS FALSE NEIGHBOUR: 'it returns false'. Refute it at one input. -/
def fnBorneWrong : ChangeSpec := { name := "fnBorne", fn := fun _ => fun
  | [d] => { results := [.lit (.bool false)], args := [d] }
  | _ => none }
def FnBorneWrongFalsely : Prop := fnBorneRow.holds Tryz.pinned (OpenSpec.ofChange fnBorneWrong)

/-- 'laws.FnBuiltTorn': WHATEVER THE INPUT: true; the input reads as it did. -/
def fnBuiltTornSpec : ChangeSpec := { name := "fnBuiltTorn", fn := fun _ => fun
  | [d] => { results := [.lit (.bool true)], args := [d] }
  | _ => none }
def fnBuiltTornRow : OpenClaim := { program := "ytolmneojjjpnjaagreat", sum := "43bcdef3290481641a44cf09d0f7eeac23dce92f5133a70a619337f770f92876", func := "loop.example/g00398/laws.FnBuiltTorn", spec := "fnBuiltTorn", unfollowed := true, recurses := true, apart := false }
def FnBuiltTornSaid : Prop := fnBuiltTornRow.holds Tryz.pinned (OpenSpec.ofChange fnBuiltTornSpec)

/-- ITS FALSE NEIGHBOUR: 'it returns false'. Refute it at one input. -/
def fnBuiltTornWrong : ChangeSpec := { name := "fnBuiltTorn", fn := fun _ => fun
  | [d] => { results := [.lit (.bool false)], args := [d] }
  | _ => none }
def FnBuiltTornWrongFalsely : Prop := fnBuiltTornRow.holds Tryz.pinned (OpenSpec.ofChange fnBuiltTornWrong)

/-- 'laws.FnBlocks': WHATEVER THE INPUT: true; the input reads as it did. -/
def fnBlocksSpec : ChangeSpec := { name := "fnBlocks", fn := fun _ => fun
  | [d] => { results := [.lit (.bool true)], args := [d] }
  | _ => none }
def fnBlocksRow : OpenClaim := { program := "ytolmneojjjpnjaagreat", sum := "43bcdef3290481641a44cf09d0f7eeac23dce92f5133a70a619337f770f92876", func := "loop.example/g00398/laws.FnBlocks", spec := "fnBlocks", inPlace := ["slices.overlaps[loop.example/g00398/impl.Ent]"], unfollowed := true, recurses := true, apart := false }
def FnBlocksSaid : Prop := fnBlocksRow.holds Tryz.pinned (OpenSpec.ofChange fnBlocksSpec)

/-- ITS FALSE NEIGHBOUR: 'it returns false'. Refute it at one input. -/
def fnBlocksWrong : ChangeSpec := { name := "fnBlocks", fn := fun _ => fun
  | [d] => { results := [.lit (.bool false)], args := [d] }
  | _ => none }
def FnBlocksWrongFalsely : Prop := fnBlocksRow.holds Tryz.pinned (OpenSpec.ofChange fnBlocksWrong)

/-- 'laws.FnSpoilt': WHATEVER THE INPUT: true; the input reads as it did. -/
def fnSpoiltSpec : ChangeSpec := { name := "fnSpoilt", fn := fun _ => fun
  | [d] => { results := [.lit (.bool true)], args := [d] }
  | _ => none }
def fnSpoiltRow : OpenClaim := { program := "ytolmneojjjpnjaagreat", sum := "43bcdef3290481641a44cf09d0f7eeac23dce92f5133a70a619337f770f92876", func := "loop.example/g00398/laws.FnSpoilt", spec := "fnSpoilt", unfollowed := true, recurses := true, apart := false }
def FnSpoiltSaid : Prop := fnSpoiltRow.holds Tryz.pinned (OpenSpec.ofChange fnSpoiltSpec)

/-- ITS FALSE NEIGHBOUR: 'it returns false'. Refute it at one input. -/
def fnSpoiltWrong : ChangeSpec := { name := "fnSpoilt", fn := fun _ => fun
  | [d] => { results := [.lit (.bool false)], args := [d] }
  | _ => none }
def FnSpoiltWrongFalsely : Prop := fnSpoiltRow.holds Tryz.pinned (OpenSpec.ofChange fnSpoiltWrong)

/- THE SECOND FORM. 'bulk': how many values and letters a reading holds, each counted each time it is reached (what is shared counts as often as it is met; a slice's spare places count too). A statement '..UptoSaid' is the law's where the arguments, and the package variables that the reading takes, are together of bulk at most 1048576: NARROWER than '..Said'. Prove '..Said' where nothing that the law and all that it calls make is longer than what came in: it says more and counts as full. Else prove '..UptoSaid'. A law counts once. -/
mutual
def uptoBulk {H : Type} : DataW H → Nat
  | .lit (.string bytes) => bytes.length + 1
  | .lit _ => 1
  | .nil => 1
  | .ptr d => uptoBulk d + 1
  | .slice elems spare => uptoBulkAll elems + uptoBulkAll spare + 1
  | .agg parts => uptoBulkAll parts + 1
  | .iface _ d => uptoBulk d + 1
  | .map entries => uptoBulkEntries entries + 1
  | .held _ => 1
def uptoBulkAll {H : Type} : List (DataW H) → Nat
  | [] => 0
  | d :: r => uptoBulk d + uptoBulkAll r
def uptoBulkEntries {H : Type} : List (Lit × DataW H) → Nat
  | [] => 0
  | x :: r => uptoBulkEntry x + uptoBulkEntries r
def uptoBulkEntry {H : Type} : Lit × DataW H → Nat
  | (.string bytes, d) => bytes.length + uptoBulk d + 1
  | (_, d) => uptoBulk d + 1
 end
def uptoSmall : (H : Type) → List (DataW H) → Bool := fun _ ds => decide (uptoBulkAll ds ≤ 1048576)
def OpenSpec.upto (s : _root_.Go.ChangeSpec) : _root_.Go.OpenSpec := { _root_.Go.OpenSpec.ofChange s with cond := some uptoSmall }

/-- 'laws.FnFallsBent', WHERE WHAT IT READS IS OF BULK AT MOST 1048576: true; the input reads as it did. -/
def fnFallsBentUptoRow : OpenClaim := { program := "ytolmneojjjpnjaagreat", sum := "43bcdef3290481641a44cf09d0f7eeac23dce92f5133a70a619337f770f92876", func := "loop.example/g00398/laws.FnFallsBent", spec := "fnFallsBent", unfollowed := true, recurses := true, apart := false, narrowed := true }
def FnFallsBentUptoSaid : Prop := fnFallsBentUptoRow.holds Tryz.pinned (OpenSpec.upto fnFallsBentSpec)

/-- 'laws.FnFailsBent', WHERE WHAT IT READS IS OF BULK AT MOST 1048576: true; the input reads as it did. -/
def fnFailsBentUptoRow : OpenClaim := { program := "ytolmneojjjpnjaagreat", sum := "43bcdef3290481641a44cf09d0f7eeac23dce92f5133a70a619337f770f92876", func := "loop.example/g00398/laws.FnFailsBent", spec := "fnFailsBent", unfollowed := true, recurses := true, apart := false, narrowed := true }
def FnFailsBentUptoSaid : Prop := fnFailsBentUptoRow.holds Tryz.pinned (OpenSpec.upto fnFailsBentSpec)

/-- 'laws.FnBuilt', WHERE WHAT IT READS IS OF BULK AT MOST 1048576: true; the input reads as it did. -/
def fnBuiltUptoRow : OpenClaim := { program := "ytolmneojjjpnjaagreat", sum := "43bcdef3290481641a44cf09d0f7eeac23dce92f5133a70a619337f770f92876", func := "loop.example/g00398/laws.FnBuilt", spec := "fnBuilt", unfollowed := true, recurses := true, apart := false, narrowed := true }
def FnBuiltUptoSaid : Prop := fnBuiltUptoRow.holds Tryz.pinned (OpenSpec.upto fnBuiltSpec)

/-- 'laws.FnSure', WHERE WHAT IT READS IS OF BULK AT MOST 1048576: true; the input reads as it did. -/
def fnSureUptoRow : OpenClaim := { program := "ytolmneojjjpnjaagreat", sum := "43bcdef3290481641a44cf09d0f7eeac23dce92f5133a70a619337f770f92876", func := "loop.example/g00398/laws.FnSure", spec := "fnSure", unfollowed := true, recurses := true, apart := false, narrowed := true }
def FnSureUptoSaid : Prop := fnSureUptoRow.holds Tryz.pinned (OpenSpec.upto fnSureSpec)

/-- 'laws.FnAgain', WHERE WHAT IT READS IS OF BULK AT MOST 1048576: true; the input reads as it did. -/
def fnAgainUptoRow : OpenClaim := { program := "ytolmneojjjpnjaagreat", sum := "43bcdef3290481641a44cf09d0f7eeac23dce92f5133a70a619337f770f92876", func := "loop.example/g00398/laws.FnAgain", spec := "fnAgain", unfollowed := true, recurses := true, apart := false, narrowed := true }
def FnAgainUptoSaid : Prop := fnAgainUptoRow.holds Tryz.pinned (OpenSpec.upto fnAgainSpec)

/-- 'laws.FnTorn', WHERE WHAT IT READS IS OF BULK AT MOST 1048576: true; the input reads as it did. -/
def fnTornUptoRow : OpenClaim := { program := "ytolmneojjjpnjaagreat", sum := "43bcdef3290481641a44cf09d0f7eeac23dce92f5133a70a619337f770f92876", func := "loop.example/g00398/laws.FnTorn", spec := "fnTorn", unfollowed := true, recurses := true, apart := false, narrowed := true }
def FnTornUptoSaid : Prop := fnTornUptoRow.holds Tryz.pinned (OpenSpec.upto fnTornSpec)

/-- 'laws.FnTornLost', WHERE WHAT IT READS IS OF BULK AT MOST 1048576: true; the input reads as it did. -/
def fnTornLostUptoRow : OpenClaim := { program := "ytolmneojjjpnjaagreat", sum := "43bcdef3290481641a44cf09d0f7eeac23dce92f5133a70a619337f770f92876", func := "loop.example/g00398/laws.FnTornLost", spec := "fnTornLost", unfollowed := true, recurses := true, apart := false, narrowed := true }
def FnTornLostUptoSaid : Prop := fnTornLostUptoRow.holds Tryz.pinned (OpenSpec.upto fnTornLostSpec)

/-- 'laws.FnBorne', WHERE WHAT IT READS IS OF BULK AT MOST 1048576: true; the input reads as it did. -/
def fnBorneUptoRow : OpenClaim := { program := "ytolmneojjjpnjaagreat", sum := "43bcdef3290481641a44cf09d0f7eeac23dce92f5133a70a619337f770f92876", func := "loop.example/g00398/laws.FnBorne", spec := "fnBorne", inPlace := ["slices.overlaps[loop.example/g00398/impl.Ent]"], unfollowed := true, recurses := true, apart := false, narrowed := true }
def FnBorneUptoSaid : Prop := fnBorneUptoRow.holds Tryz.pinned (OpenSpec.upto fnBorneSpec)

/-- 'laws.FnBuiltTorn', WHERE WHAT IT READS IS OF BULK AT MOST 1048576: true; the input reads as it did. -/
def fnBuiltTornUptoRow : OpenClaim := { program := "ytolmneojjjpnjaagreat", sum := "43bcdef3290481641a44cf09d0f7eeac23dce92f5133a70a619337f770f92876", func := "loop.example/g00398/laws.FnBuiltTorn", spec := "fnBuiltTorn", unfollowed := true, recurses := true, apart := false, narrowed := true }
def FnBuiltTornUptoSaid : Prop := fnBuiltTornUptoRow.holds Tryz.pinned (OpenSpec.upto fnBuiltTornSpec)

/-- 'laws.FnBlocks', WHERE WHAT IT READS IS OF BULK AT MOST 1048576: true; the input reads as it did. -/
def fnBlocksUptoRow : OpenClaim := { program := "ytolmneojjjpnjaagreat", sum := "43bcdef3290481641a44cf09d0f7eeac23dce92f5133a70a619337f770f92876", func := "loop.example/g00398/laws.FnBlocks", spec := "fnBlocks", inPlace := ["slices.overlaps[loop.example/g00398/impl.Ent]"], unfollowed := true, recurses := true, apart := false, narrowed := true }
def FnBlocksUptoSaid : Prop := fnBlocksUptoRow.holds Tryz.pinned (OpenSpec.upto fnBlocksSpec)

/-- 'laws.FnSpoilt', WHERE WHAT IT READS IS OF BULK AT MOST 1048576: true; the input reads as it did. -/
def fnSpoiltUptoRow : OpenClaim := { program := "ytolmneojjjpnjaagreat", sum := "43bcdef3290481641a44cf09d0f7eeac23dce92f5133a70a619337f770f92876", func := "loop.example/g00398/laws.FnSpoilt", spec := "fnSpoilt", unfollowed := true, recurses := true, apart := false, narrowed := true }
def FnSpoiltUptoSaid : Prop := fnSpoiltUptoRow.holds Tryz.pinned (OpenSpec.upto fnSpoiltSpec)

end Rows
end Go.Proofs.YtolmneojjjpnjaaGreat
