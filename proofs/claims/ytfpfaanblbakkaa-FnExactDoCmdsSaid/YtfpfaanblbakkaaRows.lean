/-
  No cell of these rows narrows 'for every input' (looked for: loops, veiled, ifaces, maps, wideKeys, modest, calm, conditions, laid).
  DERIVED. THE GIVEN ROWS OF THIS SEAT. 10 by the template 'for every input the law returns true; each argument reads behind the call as it read before'; 0 by the template 'total and deterministic' (their statements: YtfpfaanblbakkaaTotals.lean).
  GIVEN WITH THE SEED: the statements are not yours to turn. If you find one false, say at which input.
  Laid BY PROGRAM, IN A SANDBOX (cutbox-rows.mjs): the forced cells as the released guide's own fill.sh prints them over the translation c8c80b0491f6a600… (all of the seat's roots in one cut). By AI agents, Wed Nov 11 2026. No macro, syntax, notation, axiom, sorry.
-/
import Derived.Test.YtfpfaanblbakkaaChecked
import GoSem.Claim
import GoSem.ClaimJoined
import GoSem.ClaimMapViews
import Derived.JoinedTies
import Derived.KernelRfl
namespace Go.Proofs.Ytfpfaanblbakkaa
/- THE CELL 'sum', in the pinned program and in every row, IS THE sha256 OF THE DUMP (.gsa) THAT YtfpfaanblbakkaaProg.lean LOADS. Nothing in Lean hashes anything: it is a label: what it is worth is what the hold of that sum in a sandbox is worth. -/
noncomputable def Try.pinned : Pinned := { name := "ytfpfaanblbakkaa", sum := "c8c80b0491f6a600f9541e9fea28cfc74cf70275582b222c18dcb45b2ec0df86", checked := Try.checked }
namespace Rows
def none {H : Type} : Left H := { results := [], args := [] }

/-- 'laws.FnExactSpanOf': WHATEVER THE INPUT: true; the input reads as it did. -/
def fnExactSpanOfSpec : ChangeSpec := { name := "fnExactSpanOf", fn := fun _ => fun
  | [d1, d2] => { results := [.lit (.bool true)], args := [d1, d2] }
  | _ => none }
def fnExactSpanOfRow : OpenClaim := { program := "ytfpfaanblbakkaa", sum := "c8c80b0491f6a600f9541e9fea28cfc74cf70275582b222c18dcb45b2ec0df86", func := "loop.example/g00398/laws.FnExactSpanOf", spec := "fnExactSpanOf", apart := false }
def FnExactSpanOfSaid : Prop := fnExactSpanOfRow.holds Try.pinned (OpenSpec.ofChange fnExactSpanOfSpec)

/-- ITS FALSE NEIGHBOUR: 'it returns false'. Refute it at one input. -/
def fnExactSpanOfWrong : ChangeSpec := { name := "fnExactSpanOf", fn := fun _ => fun
  | [d1, d2] => { results := [.lit (.bool false)], args := [d1, d2] }
  | _ => none }
def FnExactSpanOfWrongFalsely : Prop := fnExactSpanOfRow.holds Try.pinned (OpenSpec.ofChange fnExactSpanOfWrong)

/-- 'laws.FnExactClash': WHATEVER THE INPUT: true; the input reads as it did. -/
def fnExactClashSpec : ChangeSpec := { name := "fnExactClash", fn := fun _ => fun
  | [d1, d2, d3] => { results := [.lit (.bool true)], args := [d1, d2, d3] }
  | _ => none }
def fnExactClashRow : OpenClaim := { program := "ytfpfaanblbakkaa", sum := "c8c80b0491f6a600f9541e9fea28cfc74cf70275582b222c18dcb45b2ec0df86", func := "loop.example/g00398/laws.FnExactClash", spec := "fnExactClash", apart := false }
def FnExactClashSaid : Prop := fnExactClashRow.holds Try.pinned (OpenSpec.ofChange fnExactClashSpec)

/-- ITS FALSE NEIGHBOUR: 'it returns false'. Refute it at one input. -/
def fnExactClashWrong : ChangeSpec := { name := "fnExactClash", fn := fun _ => fun
  | [d1, d2, d3] => { results := [.lit (.bool false)], args := [d1, d2, d3] }
  | _ => none }
def FnExactClashWrongFalsely : Prop := fnExactClashRow.holds Try.pinned (OpenSpec.ofChange fnExactClashWrong)

/-- 'laws.FnExactDoCmd': WHATEVER THE INPUT: true; the input reads as it did. -/
def fnExactDoCmdSpec : ChangeSpec := { name := "fnExactDoCmd", fn := fun _ => fun
  | [d1, d2, d3] => { results := [.lit (.bool true)], args := [d1, d2, d3] }
  | _ => none }
def fnExactDoCmdRow : OpenClaim := { program := "ytfpfaanblbakkaa", sum := "c8c80b0491f6a600f9541e9fea28cfc74cf70275582b222c18dcb45b2ec0df86", func := "loop.example/g00398/laws.FnExactDoCmd", spec := "fnExactDoCmd", apart := false }
def FnExactDoCmdSaid : Prop := fnExactDoCmdRow.holds Try.pinned (OpenSpec.ofChange fnExactDoCmdSpec)

/-- ITS FALSE NEIGHBOUR: 'it returns false'. Refute it at one input. -/
def fnExactDoCmdWrong : ChangeSpec := { name := "fnExactDoCmd", fn := fun _ => fun
  | [d1, d2, d3] => { results := [.lit (.bool false)], args := [d1, d2, d3] }
  | _ => none }
def FnExactDoCmdWrongFalsely : Prop := fnExactDoCmdRow.holds Try.pinned (OpenSpec.ofChange fnExactDoCmdWrong)

/-- 'laws.FnExactClean': WHATEVER THE INPUT: true; the input reads as it did. -/
def fnExactCleanSpec : ChangeSpec := { name := "fnExactClean", fn := fun _ => fun
  | [d] => { results := [.lit (.bool true)], args := [d] }
  | _ => none }
def fnExactCleanRow : OpenClaim := { program := "ytfpfaanblbakkaa", sum := "c8c80b0491f6a600f9541e9fea28cfc74cf70275582b222c18dcb45b2ec0df86", func := "loop.example/g00398/laws.FnExactClean", spec := "fnExactClean", apart := false }
def FnExactCleanSaid : Prop := fnExactCleanRow.holds Try.pinned (OpenSpec.ofChange fnExactCleanSpec)

/-- ITS FALSE NEIGHBOUR: 'it returns false'. Refute it at one input. -/
def fnExactCleanWrong : ChangeSpec := { name := "fnExactClean", fn := fun _ => fun
  | [d] => { results := [.lit (.bool false)], args := [d] }
  | _ => none }
def FnExactCleanWrongFalsely : Prop := fnExactCleanRow.holds Try.pinned (OpenSpec.ofChange fnExactCleanWrong)

/-- 'laws.FnModels': WHATEVER THE INPUT: true; the input reads as it did. -/
def fnModelsSpec : ChangeSpec := { name := "fnModels", fn := fun _ => fun
  | [d] => { results := [.lit (.bool true)], args := [d] }
  | _ => none }
def fnModelsRow : OpenClaim := { program := "ytfpfaanblbakkaa", sum := "c8c80b0491f6a600f9541e9fea28cfc74cf70275582b222c18dcb45b2ec0df86", func := "loop.example/g00398/laws.FnModels", spec := "fnModels", apart := false }
def FnModelsSaid : Prop := fnModelsRow.holds Try.pinned (OpenSpec.ofChange fnModelsSpec)

/-- ITS FALSE NEIGHBOUR: 'it returns false'. Refute it at one input. -/
def fnModelsWrong : ChangeSpec := { name := "fnModels", fn := fun _ => fun
  | [d] => { results := [.lit (.bool false)], args := [d] }
  | _ => none }
def FnModelsWrongFalsely : Prop := fnModelsRow.holds Try.pinned (OpenSpec.ofChange fnModelsWrong)

/-- 'laws.FnExactDoCmds': WHATEVER THE INPUT: true; the input reads as it did. -/
def fnExactDoCmdsSpec : ChangeSpec := { name := "fnExactDoCmds", fn := fun _ => fun
  | [d1, d2, d3] => { results := [.lit (.bool true)], args := [d1, d2, d3] }
  | _ => none }
def fnExactDoCmdsRow : OpenClaim := { program := "ytfpfaanblbakkaa", sum := "c8c80b0491f6a600f9541e9fea28cfc74cf70275582b222c18dcb45b2ec0df86", func := "loop.example/g00398/laws.FnExactDoCmds", spec := "fnExactDoCmds", apart := false }
def FnExactDoCmdsSaid : Prop := fnExactDoCmdsRow.holds Try.pinned (OpenSpec.ofChange fnExactDoCmdsSpec)

/-- ITS FALSE NEIGHBOUR: 'it returns false'. Refute it at one input. -/
def fnExactDoCmdsWrong : ChangeSpec := { name := "fnExactDoCmds", fn := fun _ => fun
  | [d1, d2, d3] => { results := [.lit (.bool false)], args := [d1, d2, d3] }
  | _ => none }
def FnExactDoCmdsWrongFalsely : Prop := fnExactDoCmdsRow.holds Try.pinned (OpenSpec.ofChange fnExactDoCmdsWrong)

/-- 'laws.FnExactFall': WHATEVER THE INPUT: true; the input reads as it did. -/
def fnExactFallSpec : ChangeSpec := { name := "fnExactFall", fn := fun _ => fun
  | [d1, d2] => { results := [.lit (.bool true)], args := [d1, d2] }
  | _ => none }
def fnExactFallRow : OpenClaim := { program := "ytfpfaanblbakkaa", sum := "c8c80b0491f6a600f9541e9fea28cfc74cf70275582b222c18dcb45b2ec0df86", func := "loop.example/g00398/laws.FnExactFall", spec := "fnExactFall", apart := false }
def FnExactFallSaid : Prop := fnExactFallRow.holds Try.pinned (OpenSpec.ofChange fnExactFallSpec)

/-- ITS FALSE NEIGHBOUR: 'it returns false'. Refute it at one input. -/
def fnExactFallWrong : ChangeSpec := { name := "fnExactFall", fn := fun _ => fun
  | [d1, d2] => { results := [.lit (.bool false)], args := [d1, d2] }
  | _ => none }
def FnExactFallWrongFalsely : Prop := fnExactFallRow.holds Try.pinned (OpenSpec.ofChange fnExactFallWrong)

/-- 'laws.FnExactCanLose': WHATEVER THE INPUT: true; the input reads as it did. -/
def fnExactCanLoseSpec : ChangeSpec := { name := "fnExactCanLose", fn := fun _ => fun
  | [d1, d2] => { results := [.lit (.bool true)], args := [d1, d2] }
  | _ => none }
def fnExactCanLoseRow : OpenClaim := { program := "ytfpfaanblbakkaa", sum := "c8c80b0491f6a600f9541e9fea28cfc74cf70275582b222c18dcb45b2ec0df86", func := "loop.example/g00398/laws.FnExactCanLose", spec := "fnExactCanLose", apart := false }
def FnExactCanLoseSaid : Prop := fnExactCanLoseRow.holds Try.pinned (OpenSpec.ofChange fnExactCanLoseSpec)

/-- ITS FALSE NEIGHBOUR: 'it returns false'. Refute it at one input. -/
def fnExactCanLoseWrong : ChangeSpec := { name := "fnExactCanLose", fn := fun _ => fun
  | [d1, d2] => { results := [.lit (.bool false)], args := [d1, d2] }
  | _ => none }
def FnExactCanLoseWrongFalsely : Prop := fnExactCanLoseRow.holds Try.pinned (OpenSpec.ofChange fnExactCanLoseWrong)

/-- 'laws.FnExactXorAt': WHATEVER THE INPUT: true; the input reads as it did. -/
def fnExactXorAtSpec : ChangeSpec := { name := "fnExactXorAt", fn := fun _ => fun
  | [d1, d2] => { results := [.lit (.bool true)], args := [d1, d2] }
  | _ => none }
def fnExactXorAtRow : OpenClaim := { program := "ytfpfaanblbakkaa", sum := "c8c80b0491f6a600f9541e9fea28cfc74cf70275582b222c18dcb45b2ec0df86", func := "loop.example/g00398/laws.FnExactXorAt", spec := "fnExactXorAt", apart := false }
def FnExactXorAtSaid : Prop := fnExactXorAtRow.holds Try.pinned (OpenSpec.ofChange fnExactXorAtSpec)

/-- ITS FALSE NEIGHBOUR: 'it returns false'. Refute it at one input. -/
def fnExactXorAtWrong : ChangeSpec := { name := "fnExactXorAt", fn := fun _ => fun
  | [d1, d2] => { results := [.lit (.bool false)], args := [d1, d2] }
  | _ => none }
def FnExactXorAtWrongFalsely : Prop := fnExactXorAtRow.holds Try.pinned (OpenSpec.ofChange fnExactXorAtWrong)

/-- 'laws.FnExactEven': WHATEVER THE INPUT: true; the input reads as it did. -/
def fnExactEvenSpec : ChangeSpec := { name := "fnExactEven", fn := fun _ => fun
  | [d] => { results := [.lit (.bool true)], args := [d] }
  | _ => none }
def fnExactEvenRow : OpenClaim := { program := "ytfpfaanblbakkaa", sum := "c8c80b0491f6a600f9541e9fea28cfc74cf70275582b222c18dcb45b2ec0df86", func := "loop.example/g00398/laws.FnExactEven", spec := "fnExactEven", apart := false }
def FnExactEvenSaid : Prop := fnExactEvenRow.holds Try.pinned (OpenSpec.ofChange fnExactEvenSpec)

/-- ITS FALSE NEIGHBOUR: 'it returns false'. Refute it at one input. -/
def fnExactEvenWrong : ChangeSpec := { name := "fnExactEven", fn := fun _ => fun
  | [d] => { results := [.lit (.bool false)], args := [d] }
  | _ => none }
def FnExactEvenWrongFalsely : Prop := fnExactEvenRow.holds Try.pinned (OpenSpec.ofChange fnExactEvenWrong)

/- THE SECOND FORM. 'bulk': how many values and letters a reading holds, each counted each time it is reached (what is shared counts as often as it is met; a slice's spare places count too). A statement '..UptoSaid' is the law's where the arguments, and the package variables that the reading takes, are together of bulk at most 1048576: NARROWER than '..Said'. Prove '..Said' where nothing that the law and all that it calls make is longer than what came in: it says more and counts as full. Else prove '..UptoSaid'. A law counts once. -/
mutual
def uptoBulk {H : Type} : DataW H → Nat
  | .lit (.string bytes) => bytes.length + 1
  | .lit _ => 1
  | .nil => 1
  | .ptr d => uptoBulk d + 1
  | .slice elems spare => uptoBulkAll elems + uptoBulkAll spare + 1
  | .agg parts => uptoBulkAll parts + 1
  | .iface _ d => uptoBulk d + 1
  | .map entries => uptoBulkEntries entries + 1
  | .held _ => 1
def uptoBulkAll {H : Type} : List (DataW H) → Nat
  | [] => 0
  | d :: r => uptoBulk d + uptoBulkAll r
def uptoBulkEntries {H : Type} : List (Lit × DataW H) → Nat
  | [] => 0
  | x :: r => uptoBulkEntry x + uptoBulkEntries r
def uptoBulkEntry {H : Type} : Lit × DataW H → Nat
  | (.string bytes, d) => bytes.length + uptoBulk d + 1
  | (_, d) => uptoBulk d + 1
 end
def uptoSmall : (H : Type) → List (DataW H) → Bool := fun _ ds => decide (uptoBulkAll ds ≤ 1048576)
def OpenSpec.upto (s : _root_.Go.ChangeSpec) : _root_.Go.OpenSpec := { _root_.Go.OpenSpec.ofChange s with cond := some uptoSmall }

/-- 'laws.FnExactSpanOf', WHERE WHAT IT READS IS OF BULK AT MOST 1048576: true; the input reads as it did. -/
def fnExactSpanOfUptoRow : OpenClaim := { program := "ytfpfaanblbakkaa", sum := "c8c80b0491f6a600f9541e9fea28cfc74cf70275582b222c18dcb45b2ec0df86", func := "loop.example/g00398/laws.FnExactSpanOf", spec := "fnExactSpanOf", apart := false, narrowed := true }
def FnExactSpanOfUptoSaid : Prop := fnExactSpanOfUptoRow.holds Try.pinned (OpenSpec.upto fnExactSpanOfSpec)

/-- 'laws.FnExactClash', WHERE WHAT IT READS IS OF BULK AT MOST 1048576: true; the input reads as it did. -/
def fnExactClashUptoRow : OpenClaim := { program := "ytfpfaanblbakkaa", sum := "c8c80b0491f6a600f9541e9fea28cfc74cf70275582b222c18dcb45b2ec0df86", func := "loop.example/g00398/laws.FnExactClash", spec := "fnExactClash", apart := false, narrowed := true }
def FnExactClashUptoSaid : Prop := fnExactClashUptoRow.holds Try.pinned (OpenSpec.upto fnExactClashSpec)

/-- 'laws.FnExactDoCmd', WHERE WHAT IT READS IS OF BULK AT MOST 1048576: true; the input reads as it did. -/
def fnExactDoCmdUptoRow : OpenClaim := { program := "ytfpfaanblbakkaa", sum := "c8c80b0491f6a600f9541e9fea28cfc74cf70275582b222c18dcb45b2ec0df86", func := "loop.example/g00398/laws.FnExactDoCmd", spec := "fnExactDoCmd", apart := false, narrowed := true }
def FnExactDoCmdUptoSaid : Prop := fnExactDoCmdUptoRow.holds Try.pinned (OpenSpec.upto fnExactDoCmdSpec)

/-- 'laws.FnExactClean', WHERE WHAT IT READS IS OF BULK AT MOST 1048576: true; the input reads as it did. -/
def fnExactCleanUptoRow : OpenClaim := { program := "ytfpfaanblbakkaa", sum := "c8c80b0491f6a600f9541e9fea28cfc74cf70275582b222c18dcb45b2ec0df86", func := "loop.example/g00398/laws.FnExactClean", spec := "fnExactClean", apart := false, narrowed := true }
def FnExactCleanUptoSaid : Prop := fnExactCleanUptoRow.holds Try.pinned (OpenSpec.upto fnExactCleanSpec)

/-- 'laws.FnModels', WHERE WHAT IT READS IS OF BULK AT MOST 1048576: true; the input reads as it did. -/
def fnModelsUptoRow : OpenClaim := { program := "ytfpfaanblbakkaa", sum := "c8c80b0491f6a600f9541e9fea28cfc74cf70275582b222c18dcb45b2ec0df86", func := "loop.example/g00398/laws.FnModels", spec := "fnModels", apart := false, narrowed := true }
def FnModelsUptoSaid : Prop := fnModelsUptoRow.holds Try.pinned (OpenSpec.upto fnModelsSpec)

/-- 'laws.FnExactDoCmds', WHERE WHAT IT READS IS OF BULK AT MOST 1048576: true; the input reads as it did. -/
def fnExactDoCmdsUptoRow : OpenClaim := { program := "ytfpfaanblbakkaa", sum := "c8c80b0491f6a600f9541e9fea28cfc74cf70275582b222c18dcb45b2ec0df86", func := "loop.example/g00398/laws.FnExactDoCmds", spec := "fnExactDoCmds", apart := false, narrowed := true }
def FnExactDoCmdsUptoSaid : Prop := fnExactDoCmdsUptoRow.holds Try.pinned (OpenSpec.upto fnExactDoCmdsSpec)

/-- 'laws.FnExactFall', WHERE WHAT IT READS IS OF BULK AT MOST 1048576: true; the input reads as it did. -/
def fnExactFallUptoRow : OpenClaim := { program := "ytfpfaanblbakkaa", sum := "c8c80b0491f6a600f9541e9fea28cfc74cf70275582b222c18dcb45b2ec0df86", func := "loop.example/g00398/laws.FnExactFall", spec := "fnExactFall", apart := false, narrowed := true }
def FnExactFallUptoSaid : Prop := fnExactFallUptoRow.holds Try.pinned (OpenSpec.upto fnExactFallSpec)

/-- 'laws.FnExactCanLose', WHERE WHAT IT READS IS OF BULK AT MOST 1048576: true; the input reads as it did. -/
def fnExactCanLoseUptoRow : OpenClaim := { program := "ytfpfaanblbakkaa", sum := "c8c80b0491f6a600f9541e9fea28cfc74cf70275582b222c18dcb45b2ec0df86", func := "loop.example/g00398/laws.FnExactCanLose", spec := "fnExactCanLose", apart := false, narrowed := true }
def FnExactCanLoseUptoSaid : Prop := fnExactCanLoseUptoRow.holds Try.pinned (OpenSpec.upto fnExactCanLoseSpec)

/-- 'laws.FnExactXorAt', WHERE WHAT IT READS IS OF BULK AT MOST 1048576: true; the input reads as it did. -/
def fnExactXorAtUptoRow : OpenClaim := { program := "ytfpfaanblbakkaa", sum := "c8c80b0491f6a600f9541e9fea28cfc74cf70275582b222c18dcb45b2ec0df86", func := "loop.example/g00398/laws.FnExactXorAt", spec := "fnExactXorAt", apart := false, narrowed := true }
def FnExactXorAtUptoSaid : Prop := fnExactXorAtUptoRow.holds Try.pinned (OpenSpec.upto fnExactXorAtSpec)

/-- 'laws.FnExactEven', WHERE WHAT IT READS IS OF BULK AT MOST 1048576: true; the input reads as it did. -/
def fnExactEvenUptoRow : OpenClaim := { program := "ytfpfaanblbakkaa", sum := "c8c80b0491f6a600f9541e9fea28cfc74cf70275582b222c18dcb45b2ec0df86", func := "loop.example/g00398/laws.FnExactEven", spec := "fnExactEven", apart := false, narrowed := true }
def FnExactEvenUptoSaid : Prop := fnExactEvenUptoRow.holds Try.pinned (OpenSpec.upto fnExactEvenSpec)

end Rows
end Go.Proofs.Ytfpfaanblbakkaa
