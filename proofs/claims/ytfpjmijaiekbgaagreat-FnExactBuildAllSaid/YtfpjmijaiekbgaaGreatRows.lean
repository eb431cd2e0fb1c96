/-
  No cell of these rows narrows 'for every input' (looked for: loops, veiled, ifaces, maps, wideKeys, modest, calm, conditions, laid).
  DERIVED. THE GIVEN ROWS OF THIS SEAT. 10 by the template 'for every input the law returns true; each argument reads behind the call as it read before'; 0 by the template 'total and deterministic' (their statements: YtfpjmijaiekbgaaGreatTotals.lean).
  GIVEN WITH THE SEED: the statements are not yours to turn. If you find one false, say at which input.
  Laid BY PROGRAM, IN A SANDBOX (cutbox-rows.mjs): the forced cells as the released guide's own fill.sh prints them over the translation be1fb3d6d24087d6… (all of the seat's roots in one cut). By AI agents, Wed Nov 11 2026. No macro, syntax, notation, axiom, sorry.
-/
import Derived.Test.YtfpjmijaiekbgaaGreatChecked
import GoSem.Claim
import GoSem.ClaimJoined
import GoSem.ClaimMapViews
import Derived.JoinedTies
import Derived.KernelRfl
namespace Go.Proofs.YtfpjmijaiekbgaaGreat
/- THE CELL 'sum', in the pinned program and in every row, IS THE sha256 OF THE DUMP (.gsa) THAT YtfpjmijaiekbgaaGreatProg.lean LOADS. Nothing in Lean hashes anything: it is a label: what it is worth is what the hold of that sum in a sandbox is worth. -/
noncomputable def Tryz.pinned : Pinned := { name := "ytfpjmijaiekbgaagreat", sum := "be1fb3d6d24087d6aaa8709780d3cd0737c9855aa49a4f925abff5be29746224", checked := Tryz.checked }
namespace Rows
def none {H : Type} : Left H := { results := [], args := [] }

/-- 'laws.FnExactContents': WHATEVER THE INPUT: true; the input reads as it did. -/
def fnExactContentsSpec : ChangeSpec := { name := "fnExactContents", fn := fun _ => fun
  | [d] => { results := [.lit (.bool true)], args := [d] }
  | _ => none }
def fnExactContentsRow : OpenClaim := { program := "ytfpjmijaiekbgaagreat", sum := "be1fb3d6d24087d6aaa8709780d3cd0737c9855aa49a4f925abff5be29746224", func := "loop.example/g00398/laws.FnExactContents", spec := "fnExactContents", unfollowed := true, recurses := true, apart := false }
def FnExactContentsSaid : Prop := fnExactContentsRow.holds Tryz.pinned (OpenSpec.ofChange fnExactContentsSpec)

/-- ITS FALSE NEIGHBOUR: 'it returns false'. Refute it at one input. -/
def fnExactContentsWrong : ChangeSpec := { name := "fnExactContents", fn := fun _ => fun
  | [d] => { results := [.lit (.bool false)], args := [d] }
  | _ => none }
def FnExactContentsWrongFalsely : Prop := fnExactContentsRow.holds Tryz.pinned (OpenSpec.ofChange fnExactContentsWrong)

/-- 'laws.FnExactBuildStep': WHATEVER THE INPUT: true; the input reads as it did. -/
def fnExactBuildStepSpec : ChangeSpec := { name := "fnExactBuildStep", fn := fun _ => fun
  | [d] => { results := [.lit (.bool true)], args := [d] }
  | _ => none }
def fnExactBuildStepRow : OpenClaim := { program := "ytfpjmijaiekbgaagreat", sum := "be1fb3d6d24087d6aaa8709780d3cd0737c9855aa49a4f925abff5be29746224", func := "loop.example/g00398/laws.FnExactBuildStep", spec := "fnExactBuildStep", unfollowed := true, recurses := true, apart := false }
def FnExactBuildStepSaid : Prop := fnExactBuildStepRow.holds Tryz.pinned (OpenSpec.ofChange fnExactBuildStepSpec)

/-- ITS FALSE NEIGHBOUR: 'it returns false'. Refute it at one input. -/
def fnExactBuildStepWrong : ChangeSpec := { name := "fnExactBuildStep", fn := fun _ => fun
  | [d] => { results := [.lit (.bool false)], args := [d] }
  | _ => none }
def FnExactBuildStepWrongFalsely : Prop := fnExactBuildStepRow.holds Tryz.pinned (OpenSpec.ofChange fnExactBuildStepWrong)

/-- 'laws.FnExactReplay': WHATEVER THE INPUT: true; the input reads as it did. -/
def fnExactReplaySpec : ChangeSpec := { name := "fnExactReplay", fn := fun _ => fun
  | [d] => { results := [.lit (.bool true)], args := [d] }
  | _ => none }
def fnExactReplayRow : OpenClaim := { program := "ytfpjmijaiekbgaagreat", sum := "be1fb3d6d24087d6aaa8709780d3cd0737c9855aa49a4f925abff5be29746224", func := "loop.example/g00398/laws.FnExactReplay", spec := "fnExactReplay", unfollowed := true, recurses := true, apart := false }
def FnExactReplaySaid : Prop := fnExactReplayRow.holds Tryz.pinned (OpenSpec.ofChange fnExactReplaySpec)

/-- ITS FALSE NEIGHBOUR: 'it returns false'. Refute it at one input. -/
def fnExactReplayWrong : ChangeSpec := { name := "fnExactReplay", fn := fun _ => fun
  | [d] => { results := [.lit (.bool false)], args := [d] }
  | _ => none }
def FnExactReplayWrongFalsely : Prop := fnExactReplayRow.holds Tryz.pinned (OpenSpec.ofChange fnExactReplayWrong)

/-- 'laws.FnExactSetBlock': WHATEVER THE INPUT: true; the input reads as it did. -/
def fnExactSetBlockSpec : ChangeSpec := { name := "fnExactSetBlock", fn := fun _ => fun
  | [d1, d2, d3] => { results := [.lit (.bool true)], args := [d1, d2, d3] }
  | _ => none }
def fnExactSetBlockRow : OpenClaim := { program := "ytfpjmijaiekbgaagreat", sum := "be1fb3d6d24087d6aaa8709780d3cd0737c9855aa49a4f925abff5be29746224", func := "loop.example/g00398/laws.FnExactSetBlock", spec := "fnExactSetBlock", inPlace := ["slices.overlaps[loop.example/g00398/impl.Ent]"], unfollowed := true, recurses := true, apart := false }
def FnExactSetBlockSaid : Prop := fnExactSetBlockRow.holds Tryz.pinned (OpenSpec.ofChange fnExactSetBlockSpec)

/-- ITS FALSE NEIGHBOUR: 'it returns false'. Refute it at one input. -/
def fnExactSetBlockWrong : ChangeSpec := { name := "fnExactSetBlock", fn := fun _ => fun
  | [d1, d2, d3] => { results := [.lit (.bool false)], args := [d1, d2, d3] }
  | _ => none }
def FnExactSetBlockWrongFalsely : Prop := fnExactSetBlockRow.holds Tryz.pinned (OpenSpec.ofChange fnExactSetBlockWrong)

/-- 'laws.FnExactFlushStripe': WHATEVER THE INPUT: true; the input reads as it did. -/
def fnExactFlushStripeSpec : ChangeSpec := { name := "fnExactFlushStripe", fn := fun _ => fun
  | [d1, d2] => { results := [.lit (.bool true)], args := [d1, d2] }
  | _ => none }
def fnExactFlushStripeRow : OpenClaim := { program := "ytfpjmijaiekbgaagreat", sum := "be1fb3d6d24087d6aaa8709780d3cd0737c9855aa49a4f925abff5be29746224", func := "loop.example/g00398/laws.FnExactFlushStripe", spec := "fnExactFlushStripe", unfollowed := true, recurses := true, apart := false }
def FnExactFlushStripeSaid : Prop := fnExactFlushStripeRow.holds Tryz.pinned (OpenSpec.ofChange fnExactFlushStripeSpec)

/-- ITS FALSE NEIGHBOUR: 'it returns false'. Refute it at one input. -/
def fnExactFlushStripeWrong : ChangeSpec := { name := "fnExactFlushStripe", fn := fun _ => fun
  | [d1, d2] => { results := [.lit (.bool false)], args := [d1, d2] }
  | _ => none }
def FnExactFlushStripeWrongFalsely : Prop := fnExactFlushStripeRow.holds Tryz.pinned (OpenSpec.ofChange fnExactFlushStripeWrong)

/-- 'laws.FnExactFlushAll': WHATEVER THE INPUT: true; the input reads as it did. -/
def fnExactFlushAllSpec : ChangeSpec := { name := "fnExactFlushAll", fn := fun _ => fun
  | [d] => { results := [.lit (.bool true)], args := [d] }
  | _ => none }
def fnExactFlushAllRow : OpenClaim := { program := "ytfpjmijaiekbgaagreat", sum := "be1fb3d6d24087d6aaa8709780d3cd0737c9855aa49a4f925abff5be29746224", func := "loop.example/g00398/laws.FnExactFlushAll", spec := "fnExactFlushAll", unfollowed := true, recurses := true, apart := false }
def FnExactFlushAllSaid : Prop := fnExactFlushAllRow.holds Tryz.pinned (OpenSpec.ofChange fnExactFlushAllSpec)

/-- ITS FALSE NEIGHBOUR: 'it returns false'. Refute it at one input. -/
def fnExactFlushAllWrong : ChangeSpec := { name := "fnExactFlushAll", fn := fun _ => fun
  | [d] => { results := [.lit (.bool false)], args := [d] }
  | _ => none }
def FnExactFlushAllWrongFalsely : Prop := fnExactFlushAllRow.holds Tryz.pinned (OpenSpec.ofChange fnExactFlushAllWrong)

/-- 'laws.FnExactBuildAll': WHATEVER THE INPUT: true; the input reads as it did. -/
def fnExactBuildAllSpec : ChangeSpec := { name := "fnExactBuildAll", fn := fun _ => fun
  | [d] => { results := [.lit (.bool true)], args := [d] }
  | _ => none }
def fnExactBuildAllRow : OpenClaim := { program := "ytfpjmijaiekbgaagreat", sum := "be1fb3d6d24087d6aaa8709780d3cd0737c9855aa49a4f925abff5be29746224", func := "loop.example/g00398/laws.FnExactBuildAll", spec := "fnExactBuildAll", unfollowed := true, recurses := true, apart := false }
def FnExactBuildAllSaid : Prop := fnExactBuildAllRow.holds Tryz.pinned (OpenSpec.ofChange fnExactBuildAllSpec)

/-- ITS FALSE NEIGHBOUR: 'it returns false'. Refute it at one input. -/
def fnExactBuildAllWrong : ChangeSpec := { name := "fnExactBuildAll", fn := fun _ => fun
  | [d] => { results := [.lit (.bool false)], args := [d] }
  | _ => none }
def FnExactBuildAllWrongFalsely : Prop := fnExactBuildAllRow.holds Tryz.pinned (OpenSpec.ofChange fnExactBuildAllWrong)

/-- 'laws.FnExactRecover': WHATEVER THE INPUT: true; the input reads as it did. -/
def fnExactRecoverSpec : ChangeSpec := { name := "fnExactRecover", fn := fun _ => fun
  | [d1, d2, d3, d4] => { results := [.lit (.bool true)], args := [d1, d2, d3, d4] }
  | _ => none }
def fnExactRecoverRow : OpenClaim := { program := "ytfpjmijaiekbgaagreat", sum := "be1fb3d6d24087d6aaa8709780d3cd0737c9855aa49a4f925abff5be29746224", func := "loop.example/g00398/laws.FnExactRecover", spec := "fnExactRecover", unfollowed := true, recurses := true, apart := false }
def FnExactRecoverSaid : Prop := fnExactRecoverRow.holds Tryz.pinned (OpenSpec.ofChange fnExactRecoverSpec)

/-- ITS FALSE NEIGHBOUR: 'it returns false'. Refute it at one input. -/
def fnExactRecoverWrong : ChangeSpec := { name := "fnExactRecover", fn := fun _ => fun
  | [d1, d2, d3, d4] => { results := [.lit (.bool false)], args := [d1, d2, d3, d4] }
  | _ => none }
def FnExactRecoverWrongFalsely : Prop := fnExactRecoverRow.holds Tryz.pinned (OpenSpec.ofChange fnExactRecoverWrong)

/-- 'laws.FnStripes': WHATEVER THE INPUT: true; the input reads as it did. -/
def fnStripesSpec : ChangeSpec := { name := "fnStripes", fn := fun _ => fun
  | [d] => { results := [.lit (.bool true)], args := [d] }
  | _ => none }
def fnStripesRow : OpenClaim := { program := "ytfpjmijaiekbgaagreat", sum := "be1fb3d6d24087d6aaa8709780d3cd0737c9855aa49a4f925abff5be29746224", func := "loop.example/g00398/laws.FnStripes", spec := "fnStripes", unfollowed := true, recurses := true, apart := false }
def FnStripesSaid : Prop := fnStripesRow.holds Tryz.pinned (OpenSpec.ofChange fnStripesSpec)

/-- ITS FALSE NEIGHBOUR: 'it returns false'. Refute it at one input. -/
def fnStripesWrong : ChangeSpec := { name := "fnStripes", fn := fun _ => fun
  | [d] => { results := [.lit (.bool false)], args := [d] }
  | _ => none }
def FnStripesWrongFalsely : Prop := fnStripesRow.holds Tryz.pinned (OpenSpec.ofChange fnStripesWrong)

/-- 'laws.FnScrubs': WHATEVER THE INPUT: true; the input reads as it did. -/
def fnScrubsSpec : ChangeSpec := { name := "fnScrubs", fn := fun _ => fun
  | [d] => { results := [.lit (.bool true)], args := [d] }
  | _ => none }
def fnScrubsRow : OpenClaim := { program := "ytfpjmijaiekbgaagreat", sum := "be1fb3d6d24087d6aaa8709780d3cd0737c9855aa49a4f925abff5be29746224", func := "loop.example/g00398/laws.FnScrubs", spec := "fnScrubs", unfollowed := true, recurses := true, apart := false }
def FnScrubsSaid : Prop := fnScrubsRow.holds Tryz.pinned (OpenSpec.ofChange fnScrubsSpec)

/-- ITS FALSE NEIGHBOUR: 'it returns false'. Refute it at one input. -/
def fnScrubsWrong : ChangeSpec := { name := "fnScrubs", fn := fun _ => fun
  | [d] => { results := [.lit (.bool false)], args := [d] }
  | _ => none }
def FnScrubsWrongFalsely : Prop := fnScrubsRow.holds Tryz.pinned (OpenSpec.ofChange fnScrubsWrong)

/- THE SECOND FORM. 'bulk': how many values and letters a reading holds, each counted each time it is reached (what is shared counts as often as it is met; a slice's spare places count too). A statement '..UptoSaid' is the law's where the arguments, and the package variables that the reading takes, are together of bulk at most 1048576: NARROWER than '..Said'. Prove '..Said' where nothing that the law and all that it calls make is longer than what came in: it says more and counts as full. Else prove '..UptoSaid'. A law counts once. -/
mutual
def uptoBulk {H : Type} : DataW H → Nat
  | .lit (.string bytes) => bytes.length + 1
  | .lit _ => 1
  | .nil => 1
  | .ptr d => uptoBulk d + 1
  | .slice elems spare => uptoBulkAll elems + uptoBulkAll spare + 1
  | .agg parts => uptoBulkAll parts + 1
  | .iface _ d => uptoBulk d + 1
  | .map entries => uptoBulkEntries entries + 1
  | .held _ => 1
def uptoBulkAll {H : Type} : List (DataW H) → Nat
  | [] => 0
  | d :: r => uptoBulk d + uptoBulkAll r
def uptoBulkEntries {H : Type} : List (Lit × DataW H) → Nat
  | [] => 0
  | x :: r => uptoBulkEntry x + uptoBulkEntries r
def uptoBulkEntry {H : Type} : Lit × DataW H → Nat
  | (.string bytes, d) => bytes.length + uptoBulk d + 1
  | (_, d) => uptoBulk d + 1
 end
def uptoSmall : (H : Type) → List (DataW H) → Bool := fun _ ds => decide (uptoBulkAll ds ≤ 1048576)
def OpenSpec.upto (s : _root_.Go.ChangeSpec) : _root_.Go.OpenSpec := { _root_.Go.OpenSpec.ofChange s with cond := some uptoSmall }

/-- 'laws.FnExactContents', WHERE WHAT IT READS IS OF BULK AT MOST 1048576: true; the input reads as it did. -/
def fnExactContentsUptoRow : OpenClaim := { program := "ytfpjmijaiekbgaagreat", sum := "be1fb3d6d24087d6aaa8709780d3cd0737c9855aa49a4f925abff5be29746224", func := "loop.example/g00398/laws.FnExactContents", spec := "fnExactContents", unfollowed := true, recurses := true, apart := false, narrowed := true }
def FnExactContentsUptoSaid : Prop := fnExactContentsUptoRow.holds Tryz.pinned (OpenSpec.upto fnExactContentsSpec)

/-- 'laws.FnExactBuildStep', WHERE WHAT IT READS IS OF BULK AT MOST 1048576: true; the input reads as it did. -/
def fnExactBuildStepUptoRow : OpenClaim := { program := "ytfpjmijaiekbgaagreat", sum := "be1fb3d6d24087d6aaa8709780d3cd0737c9855aa49a4f925abff5be29746224", func := "loop.example/g00398/laws.FnExactBuildStep", spec := "fnExactBuildStep", unfollowed := true, recurses := true, apart := false, narrowed := true }
def FnExactBuildStepUptoSaid : Prop := fnExactBuildStepUptoRow.holds Tryz.pinned (OpenSpec.upto fnExactBuildStepSpec)

/-- 'laws.FnExactReplay', WHERE WHAT IT READS IS OF BULK AT MOST 1048576: true; the input reads as it did. -/
def fnExactReplayUptoRow : OpenClaim := { program := "ytfpjmijaiekbgaagreat", sum := "be1fb3d6d24087d6aaa8709780d3cd0737c9855aa49a4f925abff5be29746224", func := "loop.example/g00398/laws.FnExactReplay", spec := "fnExactReplay", unfollowed := true, recurses := true, apart := false, narrowed := true }
def FnExactReplayUptoSaid : Prop := fnExactReplayUptoRow.holds Tryz.pinned (OpenSpec.upto fnExactReplaySpec)

/-- 'laws.FnExactSetBlock', WHERE WHAT IT READS IS OF BULK AT MOST 1048576: true; the input reads as it did. -/
def fnExactSetBlockUptoRow : OpenClaim := { program := "ytfpjmijaiekbgaagreat", sum := "be1fb3d6d24087d6aaa8709780d3cd0737c9855aa49a4f925abff5be29746224", func := "loop.example/g00398/laws.FnExactSetBlock", spec := "fnExactSetBlock", inPlace := ["slices.overlaps[loop.example/g00398/impl.Ent]"], unfollowed := true, recurses := true, apart := false, narrowed := true }
def FnExactSetBlockUptoSaid : Prop := fnExactSetBlockUptoRow.holds Tryz.pinned (OpenSpec.upto fnExactSetBlockSpec)

/-- 'laws.FnExactFlushStripe', WHERE WHAT IT READS IS OF BULK AT MOST 1048576: true; the input reads as it did. -/
def fnExactFlushStripeUptoRow : OpenClaim := { program := "ytfpjmijaiekbgaagreat", sum := "be1fb3d6d24087d6aaa8709780d3cd0737c9855aa49a4f925abff5be29746224", func := "loop.example/g00398/laws.FnExactFlushStripe", spec := "fnExactFlushStripe", unfollowed := true, recurses := true, apart := false, narrowed := true }
def FnExactFlushStripeUptoSaid : Prop := fnExactFlushStripeUptoRow.holds Tryz.pinned (OpenSpec.upto fnExactFlushStripeSpec)

/-- 'laws.FnExactFlushAll', WHERE WHAT IT READS IS OF BULK AT MOST 1048576: true; the input reads as it did. -/
def fnExactFlushAllUptoRow : OpenClaim := { program := "ytfpjmijaiekbgaagreat", sum := "be1fb3d6d24087d6aaa8709780d3cd0737c9855aa49a4f925abff5be29746224", func := "loop.example/g00398/laws.FnExactFlushAll", spec := "fnExactFlushAll", unfollowed := true, recurses := true, apart := false, narrowed := true }
def FnExactFlushAllUptoSaid : Prop := fnExactFlushAllUptoRow.holds Tryz.pinned (OpenSpec.upto fnExactFlushAllSpec)

/-- 'laws.FnExactBuildAll', WHERE WHAT IT READS IS OF BULK AT MOST 1048576: true; the input reads as it did. -/
def fnExactBuildAllUptoRow : OpenClaim := { program := "ytfpjmijaiekbgaagreat", sum := "be1fb3d6d24087d6aaa8709780d3cd0737c9855aa49a4f925abff5be29746224", func := "loop.example/g00398/laws.FnExactBuildAll", spec := "fnExactBuildAll", unfollowed := true, recurses := true, apart := false, narrowed := true }
def FnExactBuildAllUptoSaid : Prop := fnExactBuildAllUptoRow.holds Tryz.pinned (OpenSpec.upto fnExactBuildAllSpec)

/-- 'laws.FnExactRecover', WHERE WHAT IT READS IS OF BULK AT MOST 1048576: true; the input reads as it did. -/
def fnExactRecoverUptoRow : OpenClaim := { program := "ytfpjmijaiekbgaagreat", sum := "be1fb3d6d24087d6aaa8709780d3cd0737c9855aa49a4f925abff5be29746224", func := "loop.example/g00398/laws.FnExactRecover", spec := "fnExactRecover", unfollowed := true, recurses := true, apart := false, narrowed := true }
def FnExactRecoverUptoSaid : Prop := fnExactRecoverUptoRow.holds Tryz.pinned (OpenSpec.upto fnExactRecoverSpec)

/-- 'laws.FnStripes', WHERE WHAT IT READS IS OF BULK AT MOST 1048576: true; the input reads as it did. -/
def fnStripesUptoRow : OpenClaim := { program := "ytfpjmijaiekbgaagreat", sum := "be1fb3d6d24087d6aaa8709780d3cd0737c9855aa49a4f925abff5be29746224", func := "loop.example/g00398/laws.FnStripes", spec := "fnStripes", unfollowed := true, recurses := true, apart := false, narrowed := true }
def FnStripesUptoSaid : Prop := fnStripesUptoRow.holds Tryz.pinned (OpenSpec.upto fnStripesSpec)

/-- 'laws.FnScrubs', WHERE WHAT IT READS IS OF BULK AT MOST 1048576: true; the input reads as it did. -/
def fnScrubsUptoRow : OpenClaim := { program := "ytfpjmijaiekbgaagreat", sum := "be1fb3d6d24087d6aaa8709780d3cd0737c9855aa49a4f925abff5be29746224", func := "loop.example/g00398/laws.FnScrubs", spec := "fnScrubs", unfollowed := true, recurses := true, apart := false, narrowed := true }
def FnScrubsUptoSaid : Prop := fnScrubsUptoRow.holds Tryz.pinned (OpenSpec.upto fnScrubsSpec)

end Rows
end Go.Proofs.YtfpjmijaiekbgaaGreat
