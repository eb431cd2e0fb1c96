/-
  No cell of these rows narrows 'for every input' (looked for: loops, veiled, ifaces, maps, wideKeys, modest, calm, conditions, laid).
  DERIVED. THE GIVEN ROWS OF THIS SEAT. 9 by the template 'for every input the law returns true; each argument reads behind the call as it read before'; 0 by the template 'total and deterministic' (their statements: YtgmadfpnljibhaaGreatTotals.lean).
  GIVEN WITH THE SEED: the statements are not yours to turn. If you find one false, say at which input.
  Laid BY PROGRAM, IN A SANDBOX (cutbox-rows.mjs): the forced cells as the released guide's own fill.sh prints them over the translation d27d571302365065… (all of the seat's roots in one cut). By AI agents, Wed Nov 11 2026. No macro, syntax, notation, axiom, sorry.
-/
import Derived.Test.YtgmadfpnljibhaaGreatChecked
import GoSem.Claim
import GoSem.ClaimJoined
import GoSem.ClaimMapViews
import Derived.JoinedTies
import Derived.KernelRfl
namespace Go.Proofs.YtgmadfpnljibhaaGreat
/- THE CELL 'sum', in the pinned program and in every row, IS THE sha256 OF THE DUMP (.gsa) THAT YtgmadfpnljibhaaGreatProg.lean LOADS. Nothing in Lean hashes anything: it is a label: what it is worth is what the hold of that sum in a sandbox is worth. -/
noncomputable def Tryz.pinned : Pinned := { name := "ytgmadfpnljibhaagreat", sum := "d27d57130236506566ea291d3950c191ef8d14d0b778e340fb5c92fef12a622c", checked := Tryz.checked }
namespace Rows
def none {H : Type} : Left H := { results := [], args := [] }

/-- 'laws.FnBuiltBent': WHATEVER THE INPUT: true; the input reads as it did. -/
def fnBuiltBentSpec : ChangeSpec := { name := "fnBuiltBent", fn := fun _ => fun
  | [d] => { results := [.lit (.bool true)], args := [d] }
  | _ => none }
def fnBuiltBentRow : OpenClaim := { program := "ytgmadfpnljibhaagreat", sum := "d27d57130236506566ea291d3950c191ef8d14d0b778e340fb5c92fef12a622c", func := "loop.example/g00398/laws.FnBuiltBent", spec := "fnBuiltBent", unfollowed := true, recurses := true, apart := false }
def FnBuiltBentSaid : Prop := fnBuiltBentRow.holds Tryz.pinned (OpenSpec.ofChange fnBuiltBentSpec)

/-- ITS FALSE NEIGHBOUR: 'it returns false'. Refute it at one input. -/
def fnBuiltBentWrong : ChangeSpec := { name := "fnBuiltBent", fn := fun _ => fun
  | [d] => { results := [.lit (.bool false)], args := [d] }
  | _ => none }
def FnBuiltBentWrongFalsely : Prop := fnBuiltBentRow.holds Tryz.pinned (OpenSpec.ofChange fnBuiltBentWrong)

/-- 'laws.FnScrubs': WHATEVER THE INPUT: true; the input reads as it did. -/
def fnScrubsSpec : ChangeSpec := { name := "fnScrubs", fn := fun _ => fun
  | [d] => { results := [.lit (.bool true)], args := [d] }
  | _ => none }
def fnScrubsRow : OpenClaim := { program := "ytgmadfpnljibhaagreat", sum := "d27d57130236506566ea291d3950c191ef8d14d0b778e340fb5c92fef12a622c", func := "loop.example/g00398/laws.FnScrubs", spec := "fnScrubs", unfollowed := true, recurses := true, apart := false }
def FnScrubsSaid : Prop := fnScrubsRow.holds Tryz.pinned (OpenSpec.ofChange fnScrubsSpec)

/-- ITS FALSE NEIGHBOUR: 'it returns false'. Refute it at one input. -/
def fnScrubsWrong : ChangeSpec := { name := "fnScrubs", fn := fun _ => fun
  | [d] => { results := [.lit (.bool false)], args := [d] }
  | _ => none }
def FnScrubsWrongFalsely : Prop := fnScrubsRow.holds Tryz.pinned (OpenSpec.ofChange fnScrubsWrong)

/-- 'laws.FnArrs': WHATEVER THE INPUT: true; the input reads as it did. -/
def fnArrsSpec : ChangeSpec := { name := "fnArrs", fn := fun _ => fun
  | [d] => { results := [.lit (.bool true)], args := [d] }
  | _ => none }
def fnArrsRow : OpenClaim := { program := "ytgmadfpnljibhaagreat", sum := "d27d57130236506566ea291d3950c191ef8d14d0b778e340fb5c92fef12a622c", func := "loop.example/g00398/laws.FnArrs", spec := "fnArrs", unfollowed := true, recurses := true, apart := false }
def FnArrsSaid : Prop := fnArrsRow.holds Tryz.pinned (OpenSpec.ofChange fnArrsSpec)

/-- ITS FALSE NEIGHBOUR: 'it returns false'. Refute it at one input. -/
def fnArrsWrong : ChangeSpec := { name := "fnArrs", fn := fun _ => fun
  | [d] => { results := [.lit (.bool false)], args := [d] }
  | _ => none }
def FnArrsWrongFalsely : Prop := fnArrsRow.holds Tryz.pinned (OpenSpec.ofChange fnArrsWrong)

/-- 'laws.FnStripes': WHATEVER THE INPUT: true; the input reads as it did. -/
def fnStripesSpec : ChangeSpec := { name := "fnStripes", fn := fun _ => fun
  | [d] => { results := [.lit (.bool true)], args := [d] }
  | _ => none }
def fnStripesRow : OpenClaim := { program := "ytgmadfpnljibhaagreat", sum := "d27d57130236506566ea291d3950c191ef8d14d0b778e340fb5c92fef12a622c", func := "loop.example/g00398/laws.FnStripes", spec := "fnStripes", unfollowed := true, recurses := true, apart := false }
def FnStripesSaid : Prop := fnStripesRow.holds Tryz.pinned (OpenSpec.ofChange fnStripesSpec)

/-- ITS FALSE NEIGHBOUR: 'it returns false'. Refute it at one input. -/
def fnStripesWrong : ChangeSpec := { name := "fnStripes", fn := fun _ => fun
  | [d] => { results := [.lit (.bool false)], args := [d] }
  | _ => none }
def FnStripesWrongFalsely : Prop := fnStripesRow.holds Tryz.pinned (OpenSpec.ofChange fnStripesWrong)

/-- 'laws.FnFallsBent': WHATEVER THE INPUT: true; the input reads as it did. -/
def fnFallsBentSpec : ChangeSpec := { name := "fnFallsBent", fn := fun _ => fun
  | [d] => { results := [.lit (.bool true)], args := [d] }
  | _ => none }
def fnFallsBentRow : OpenClaim := { program := "ytgmadfpnljibhaagreat", sum := "d27d57130236506566ea291d3950c191ef8d14d0b778e340fb5c92fef12a622c", func := "loop.example/g00398/laws.FnFallsBent", spec := "fnFallsBent", unfollowed := true, recurses := true, apart := false }
def FnFallsBentSaid : Prop := fnFallsBentRow.holds Tryz.pinned (OpenSpec.ofChange fnFallsBentSpec)

/-- ITS FALSE NEIGHBOUR: 'it returns false'. Refute it at one input. -/
def fnFallsBentWrong : ChangeSpec := { name := "fnFallsBent", fn := fun _ => fun
  | [d] => { results := [.lit (.bool false)], args := [d] }
  | _ => none }
def FnFallsBentWrongFalsely : Prop := fnFallsBentRow.holds Tryz.pinned (OpenSpec.ofChange fnFallsBentWrong)

/-- 'laws.FnBlocksBent': WHATEVER THE INPUT: true; the input reads as it did. -/
def fnBlocksBentSpec : ChangeSpec := { name := "fnBlocksBent", fn := fun _ => fun
  | [d] => { results := [.lit (.bool true)], args := [d] }
  | _ => none }
def fnBlocksBentRow : OpenClaim := { program := "ytgmadfpnljibhaagreat", sum := "d27d57130236506566ea291d3950c191ef8d14d0b778e340fb5c92fef12a622c", func := "loop.example/g00398/laws.FnBlocksBent", spec := "fnBlocksBent", inPlace := ["slices.overlaps[loop.example/g00398/impl.Ent]"], unfollowed := true, recurses := true, apart := false }
def FnBlocksBentSaid : Prop := fnBlocksBentRow.holds Tryz.pinned (OpenSpec.ofChange fnBlocksBentSpec)

/-- ITS FALSE NEIGHBOUR: 'it returns false'. Refute it at one input. -/
def fnBlocksBentWrong : ChangeSpec := { name := "fnBlocksBent", fn := fun _ => fun
  | [d] => { results := [.lit (.bool false)], args := [d] }
  | _ => none }
def FnBlocksBentWrongFalsely : Prop := fnBlocksBentRow.holds Tryz.pinned (OpenSpec.ofChange fnBlocksBentWrong)

/-- 'laws.FnExactSetBlock': WHATEVER THE INPUT: true; the input reads as it did. -/
def fnExactSetBlockSpec : ChangeSpec := { name := "fnExactSetBlock", fn := fun _ => fun
  | [d1, d2, d3] => { results := [.lit (.bool true)], args := [d1, d2, d3] }
  | _ => none }
def fnExactSetBlockRow : OpenClaim := { program := "ytgmadfpnljibhaagreat", sum := "d27d57130236506566ea291d3950c191ef8d14d0b778e340fb5c92fef12a622c", func := "loop.example/g00398/laws.FnExactSetBlock", spec := "fnExactSetBlock", inPlace := ["slices.overlaps[loop.example/g00398/impl.Ent]"], unfollowed := true, recurses := true, apart := false }
def FnExactSetBlockSaid : Prop := fnExactSetBlockRow.holds Tryz.pinned (OpenSpec.ofChange fnExactSetBlockSpec)

/-- ITS FALSE NEIGHBOUR: 'it returns false'. Refute it at one input. -/
def fnExactSetBlockWrong : ChangeSpec := { name := "fnExactSetBlock", fn := fun _ => fun
  | [d1, d2, d3] => { results := [.lit (.bool false)], args := [d1, d2, d3] }
  | _ => none }
def FnExactSetBlockWrongFalsely : Prop := fnExactSetBlockRow.holds Tryz.pinned (OpenSpec.ofChange fnExactSetBlockWrong)

/-- 'laws.FnExactFlushStripe': WHATEVER THE INPUT: true; the input reads as it did. -/
def fnExactFlushStripeSpec : ChangeSpec := { name := "fnExactFlushStripe", fn := fun _ => fun
  | [d1, d2] => { results := [.lit (.bool true)], args := [d1, d2] }
  | _ => none }
def fnExactFlushStripeRow : OpenClaim := { program := "ytgmadfpnljibhaagreat", sum := "d27d57130236506566ea291d3950c191ef8d14d0b778e340fb5c92fef12a622c", func := "loop.example/g00398/laws.FnExactFlushStripe", spec := "fnExactFlushStripe", unfollowed := true, recurses := true, apart := false }
def FnExactFlushStripeSaid : Prop := fnExactFlushStripeRow.holds Tryz.pinned (OpenSpec.ofChange fnExactFlushStripeSpec)

/-- ITS FALSE NEIGHBOUR: 'it returns false'. Refute it at one input. -/
def fnExactFlushStripeWrong : ChangeSpec := { name := "fnExactFlushStripe", fn := fun _ => fun
  | [d1, d2] => { results := [.lit (.bool false)], args := [d1, d2] }
  | _ => none }
def FnExactFlushStripeWrongFalsely : Prop := fnExactFlushStripeRow.holds Tryz.pinned (OpenSpec.ofChange fnExactFlushStripeWrong)

/-- 'laws.FnExactFlushAll': WHATEVER THE INPUT: true; the input reads as it did. -/
def fnExactFlushAllSpec : ChangeSpec := { name := "fnExactFlushAll", fn := fun _ => fun
  | [d] => { results := [.lit (.bool true)], args := [d] }
  | _ => none }
def fnExactFlushAllRow : OpenClaim := { program := "ytgmadfpnljibhaagreat", sum := "d27d57130236506566ea291d3950c191ef8d14d0b778e340fb5c92fef12a622c", func := "loop.example/g00398/laws.FnExactFlushAll", spec := "fnExactFlushAll", unfollowed := true, recurses := true, apart := false }
def FnExactFlushAllSaid : Prop := fnExactFlushAllRow.holds Tryz.pinned (OpenSpec.ofChange fnExactFlushAllSpec)

/-- ITS FALSE NEIGHBOUR: 'it returns false'. Refute it at one input. -/
def fnExactFlushAllWrong : ChangeSpec := { name := "fnExactFlushAll", fn := fun _ => fun
  | [d] => { results := [.lit (.bool false)], args := [d] }
  | _ => none }
def FnExactFlushAllWrongFalsely : Prop := fnExactFlushAllRow.holds Tryz.pinned (OpenSpec.ofChange fnExactFlushAllWrong)

/- THE SECOND FORM. 'bulk': how many values and letters a reading holds, each counted each time it is reached (what is shared counts as often as it is met; a slice's spare places count too). A statement '..UptoSaid' is the law's where the arguments, and the package variables that the reading takes, are together of bulk at most 1048576: NARROWER than '..Said'. Prove '..Said' where nothing that the law and all that it calls make is longer than what came in: it says more and counts as full. Else prove '..UptoSaid'. A law counts once. -/
mutual
def uptoBulk {H : Type} : DataW H → Nat
  | .lit (.string bytes) => bytes.length + 1
  | .lit _ => 1
  | .nil => 1
  | .ptr d => uptoBulk d + 1
  | .slice elems spare => uptoBulkAll elems + uptoBulkAll spare + 1
  | .agg parts => uptoBulkAll parts + 1
  | .iface _ d => uptoBulk d + 1
  | .map entries => uptoBulkEntries entries + 1
  | .held _ => 1
def uptoBulkAll {H : Type} : List (DataW H) → Nat
  | [] => 0
  | d :: r => uptoBulk d + uptoBulkAll r
def uptoBulkEntries {H : Type} : List (Lit × DataW H) → Nat
  | [] => 0
  | x :: r => uptoBulkEntry x + uptoBulkEntries r
def uptoBulkEntry {H : Type} : Lit × DataW H → Nat
  | (.string bytes, d) => bytes.length + uptoBulk d + 1
  | (_, d) => uptoBulk d + 1
 end
def uptoSmall : (H : Type) → List (DataW H) → Bool := fun _ ds => decide (uptoBulkAll ds ≤ 1048576)
def OpenSpec.upto (s : _root_.Go.ChangeSpec) : _root_.Go.OpenSpec := { _root_.Go.OpenSpec.ofChange s with cond := some uptoSmall }

/-- 'laws.FnBuiltBent', WHERE WHAT IT READS IS OF BULK AT MOST 1048576: true; the input reads as it did. -/
def fnBuiltBentUptoRow : OpenClaim := { program := "ytgmadfpnljibhaagreat", sum := "d27d57130236506566ea291d3950c191ef8d14d0b778e340fb5c92fef12a622c", func := "loop.example/g00398/laws.FnBuiltBent", spec := "fnBuiltBent", unfollowed := true, recurses := true, apart := false, narrowed := true }
def FnBuiltBentUptoSaid : Prop := fnBuiltBentUptoRow.holds Tryz.pinned (OpenSpec.upto fnBuiltBentSpec)

/-- 'laws.FnScrubs', WHERE WHAT IT READS IS OF BULK AT MOST 1048576: true; the input reads as it did. -/
def fnScrubsUptoRow : OpenClaim := { program := "ytgmadfpnljibhaagreat", sum := "d27d57130236506566ea291d3950c191ef8d14d0b778e340fb5c92fef12a622c", func := "loop.example/g00398/laws.FnScrubs", spec := "fnScrubs", unfollowed := true, recurses := true, apart := false, narrowed := true }
def FnScrubsUptoSaid : Prop := fnScrubsUptoRow.holds Tryz.pinned (OpenSpec.upto fnScrubsSpec)

/-- 'laws.FnArrs', WHERE WHAT IT READS IS OF BULK AT MOST 1048576: true; the input reads as it did. -/
def fnArrsUptoRow : OpenClaim := { program := "ytgmadfpnljibhaagreat", sum := "d27d57130236506566ea291d3950c191ef8d14d0b778e340fb5c92fef12a622c", func := "loop.example/g00398/laws.FnArrs", spec := "fnArrs", unfollowed := true, recurses := true, apart := false, narrowed := true }
def FnArrsUptoSaid : Prop := fnArrsUptoRow.holds Tryz.pinned (OpenSpec.upto fnArrsSpec)

/-- 'laws.FnStripes', WHERE WHAT IT READS IS OF BULK AT MOST 1048576: true; the input reads as it did. -/
def fnStripesUptoRow : OpenClaim := { program := "ytgmadfpnljibhaagreat", sum := "d27d57130236506566ea291d3950c191ef8d14d0b778e340fb5c92fef12a622c", func := "loop.example/g00398/laws.FnStripes", spec := "fnStripes", unfollowed := true, recurses := true, apart := false, narrowed := true }
def FnStripesUptoSaid : Prop := fnStripesUptoRow.holds Tryz.pinned (OpenSpec.upto fnStripesSpec)

/-- 'laws.FnFallsBent', WHERE WHAT IT READS IS OF BULK AT MOST 1048576: true; the input reads as it did. -/
def fnFallsBentUptoRow : OpenClaim := { program := "ytgmadfpnljibhaagreat", sum := "d27d57130236506566ea291d3950c191ef8d14d0b778e340fb5c92fef12a622c", func := "loop.example/g00398/laws.FnFallsBent", spec := "fnFallsBent", unfollowed := true, recurses := true, apart := false, narrowed := true }
def FnFallsBentUptoSaid : Prop := fnFallsBentUptoRow.holds Tryz.pinned (OpenSpec.upto fnFallsBentSpec)

/-- 'laws.FnBlocksBent', WHERE WHAT IT READS IS OF BULK AT MOST 1048576: true; the input reads as it did. -/
def fnBlocksBentUptoRow : OpenClaim := { program := "ytgmadfpnljibhaagreat", sum := "d27d57130236506566ea291d3950c191ef8d14d0b778e340fb5c92fef12a622c", func := "loop.example/g00398/laws.FnBlocksBent", spec := "fnBlocksBent", inPlace := ["slices.overlaps[loop.example/g00398/impl.Ent]"], unfollowed := true, recurses := true, apart := false, narrowed := true }
def FnBlocksBentUptoSaid : Prop := fnBlocksBentUptoRow.holds Tryz.pinned (OpenSpec.upto fnBlocksBentSpec)

/-- 'laws.FnExactSetBlock', WHERE WHAT IT READS IS OF BULK AT MOST 1048576: true; the input reads as it did. -/
def fnExactSetBlockUptoRow : OpenClaim := { program := "ytgmadfpnljibhaagreat", sum := "d27d57130236506566ea291d3950c191ef8d14d0b778e340fb5c92fef12a622c", func := "loop.example/g00398/laws.FnExactSetBlock", spec := "fnExactSetBlock", inPlace := ["slices.overlaps[loop.example/g00398/impl.Ent]"], unfollowed := true, recurses := true, apart := false, narrowed := true }
def FnExactSetBlockUptoSaid : Prop := fnExactSetBlockUptoRow.holds Tryz.pinned (OpenSpec.upto fnExactSetBlockSpec)

/-- 'laws.FnExactFlushStripe', WHERE WHAT IT READS IS OF BULK AT MOST 1048576: true; the input reads as it did. -/
def fnExactFlushStripeUptoRow : OpenClaim := { program := "ytgmadfpnljibhaagreat", sum := "d27d57130236506566ea291d3950c191ef8d14d0b778e340fb5c92fef12a622c", func := "loop.example/g00398/laws.FnExactFlushStripe", spec := "fnExactFlushStripe", unfollowed := true, recurses := true, apart := false, narrowed := true }
def FnExactFlushStripeUptoSaid : Prop := fnExactFlushStripeUptoRow.holds Tryz.pinned (OpenSpec.upto fnExactFlushStripeSpec)

/-- 'laws.FnExactFlushAll', WHERE WHAT IT READS IS OF BULK AT MOST 1048576: true; the input reads as it did. -/
def fnExactFlushAllUptoRow : OpenClaim := { program := "ytgmadfpnljibhaagreat", sum := "d27d57130236506566ea291d3950c191ef8d14d0b778e340fb5c92fef12a622c", func := "loop.example/g00398/laws.FnExactFlushAll", spec := "fnExactFlushAll", unfollowed := true, recurses := true, apart := false, narrowed := true }
def FnExactFlushAllUptoSaid : Prop := fnExactFlushAllUptoRow.holds Tryz.pinned (OpenSpec.upto fnExactFlushAllSpec)

end Rows
end Go.Proofs.YtgmadfpnljibhaaGreat
