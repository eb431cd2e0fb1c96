/-
  No cell of these rows narrows 'for every input' (looked for: loops, veiled, ifaces, maps, wideKeys, modest, calm, conditions, laid).
  DERIVED. THE GIVEN ROWS OF THIS SEAT. 12 by the template 'for every input the law returns true; each argument reads behind the call as it read before'; 0 by the template 'total and deterministic' (their statements: YtmamkjioahnecaaTotals.lean).
  GIVEN WITH THE SEED: the statements are not yours to turn. If you find one false, say at which input.
  Laid BY PROGRAM, IN A SANDBOX (cutbox-rows.mjs): the forced cells as the released guide's own fill.sh prints them over the translation 8b90efb447993225… (all of the seat's roots in one cut). By AI agents, Wed Nov 11 2026. No macro, syntax, notation, axiom, sorry.
-/
import Derived.Test.YtmamkjioahnecaaChecked
import GoSem.Claim
import GoSem.ClaimJoined
import GoSem.ClaimMapViews
import Derived.JoinedTies
import Derived.KernelRfl
namespace Go.Proofs.Ytmamkjioahnecaa
/- THE CELL 'sum', in the pinned program and in every row, IS THE sha256 OF THE DUMP (.gsa) THAT YtmamkjioahnecaaProg.lean LOADS. Nothing in Lean hashes anything: it is a label: what it is worth is what the hold of that sum in a sandbox is worth. -/
noncomputable def Try.pinned : Pinned := { name := "ytmamkjioahnecaa", sum := "8b90efb4479932253e7100ed0c943919164e2c5d0d5be853c5e8644c5729cf3d", checked := Try.checked }
namespace Rows
def none {H : Type} : Left H := { results := [], args := [] }

/-- 'laws.FnExactFall': WHATEVER THE INPUT: true; the input reads as it did. -/
def fnExactFallSpec : ChangeSpec := { name := "fnExactFall", fn := fun _ => fun
  | [d1, d2] => { results := [.lit (.bool true)], args := [d1, d2] }
  | _ => none }
def fnExactFallRow : OpenClaim := { program := "ytmamkjioahnecaa", sum := "8b90efb4479932253e7100ed0c943919164e2c5d0d5be853c5e8644c5729cf3d", func := "loop.example/g00398/laws.FnExactFall", spec := "fnExactFall", apart := false }
def FnExactFallSaid : Prop := fnExactFallRow.holds Try.pinned (OpenSpec.ofChange fnExactFallSpec)

/-- ITS FALSE NEIGHBOUR: 'it returns false'. Refute it at one input. -/
def fnExactFallWrong : ChangeSpec := { name := "fnExactFall", fn := fun _ => fun
  | [d1, d2] => { results := [.lit (.bool false)], args := [d1, d2] }
  | _ => none }
def FnExactFallWrongFalsely : Prop := fnExactFallRow.holds Try.pinned (OpenSpec.ofChange fnExactFallWrong)

/-- 'laws.FnExactCanLose': WHATEVER THE INPUT: true; the input reads as it did. -/
def fnExactCanLoseSpec : ChangeSpec := { name := "fnExactCanLose", fn := fun _ => fun
  | [d1, d2] => { results := [.lit (.bool true)], args := [d1, d2] }
  | _ => none }
def fnExactCanLoseRow : OpenClaim := { program := "ytmamkjioahnecaa", sum := "8b90efb4479932253e7100ed0c943919164e2c5d0d5be853c5e8644c5729cf3d", func := "loop.example/g00398/laws.FnExactCanLose", spec := "fnExactCanLose", apart := false }
def FnExactCanLoseSaid : Prop := fnExactCanLoseRow.holds Try.pinned (OpenSpec.ofChange fnExactCanLoseSpec)

/-- ITS FALSE NEIGHBOUR: 'it returns false'. Refute it at one input. -/
def fnExactCanLoseWrong : ChangeSpec := { name := "fnExactCanLose", fn := fun _ => fun
  | [d1, d2] => { results := [.lit (.bool false)], args := [d1, d2] }
  | _ => none }
def FnExactCanLoseWrongFalsely : Prop := fnExactCanLoseRow.holds Try.pinned (OpenSpec.ofChange fnExactCanLoseWrong)

/-- 'laws.FnExactXorAt': WHATEVER THE INPUT: true; the input reads as it did. -/
def fnExactXorAtSpec : ChangeSpec := { name := "fnExactXorAt", fn := fun _ => fun
  | [d1, d2] => { results := [.lit (.bool true)], args := [d1, d2] }
  | _ => none }
def fnExactXorAtRow : OpenClaim := { program := "ytmamkjioahnecaa", sum := "8b90efb4479932253e7100ed0c943919164e2c5d0d5be853c5e8644c5729cf3d", func := "loop.example/g00398/laws.FnExactXorAt", spec := "fnExactXorAt", apart := false }
def FnExactXorAtSaid : Prop := fnExactXorAtRow.holds Try.pinned (OpenSpec.ofChange fnExactXorAtSpec)

/-- ITS FALSE NEIGHBOUR: 'it returns false'. Refute it at one input. -/
def fnExactXorAtWrong : ChangeSpec := { name := "fnExactXorAt", fn := fun _ => fun
  | [d1, d2] => { results := [.lit (.bool false)], args := [d1, d2] }
  | _ => none }
def FnExactXorAtWrongFalsely : Prop := fnExactXorAtRow.holds Try.pinned (OpenSpec.ofChange fnExactXorAtWrong)

/-- 'laws.FnExactEven': WHATEVER THE INPUT: true; the input reads as it did. -/
def fnExactEvenSpec : ChangeSpec := { name := "fnExactEven", fn := fun _ => fun
  | [d] => { results := [.lit (.bool true)], args := [d] }
  | _ => none }
def fnExactEvenRow : OpenClaim := { program := "ytmamkjioahnecaa", sum := "8b90efb4479932253e7100ed0c943919164e2c5d0d5be853c5e8644c5729cf3d", func := "loop.example/g00398/laws.FnExactEven", spec := "fnExactEven", apart := false }
def FnExactEvenSaid : Prop := fnExactEvenRow.holds Try.pinned (OpenSpec.ofChange fnExactEvenSpec)

/-- ITS FALSE NEIGHBOUR: 'it returns false'. Refute it at one input. -/
def fnExactEvenWrong : ChangeSpec := { name := "fnExactEven", fn := fun _ => fun
  | [d] => { results := [.lit (.bool false)], args := [d] }
  | _ => none }
def FnExactEvenWrongFalsely : Prop := fnExactEvenRow.holds Try.pinned (OpenSpec.ofChange fnExactEvenWrong)

/-- 'laws.FnModels': WHATEVER THE INPUT: true; the input reads as it did. -/
def fnModelsSpec : ChangeSpec := { name := "fnModels", fn := fun _ => fun
  | [d] => { results := [.lit (.bool true)], args := [d] }
  | _ => none }
def fnModelsRow : OpenClaim := { program := "ytmamkjioahnecaa", sum := "8b90efb4479932253e7100ed0c943919164e2c5d0d5be853c5e8644c5729cf3d", func := "loop.example/g00398/laws.FnModels", spec := "fnModels", apart := false }
def FnModelsSaid : Prop := fnModelsRow.holds Try.pinned (OpenSpec.ofChange fnModelsSpec)

/-- ITS FALSE NEIGHBOUR: 'it returns false'. Refute it at one input. -/
def fnModelsWrong : ChangeSpec := { name := "fnModels", fn := fun _ => fun
  | [d] => { results := [.lit (.bool false)], args := [d] }
  | _ => none }
def FnModelsWrongFalsely : Prop := fnModelsRow.holds Try.pinned (OpenSpec.ofChange fnModelsWrong)

/-- 'laws.FnExactLostAt': WHATEVER THE INPUT: true; the input reads as it did. -/
def fnExactLostAtSpec : ChangeSpec := { name := "fnExactLostAt", fn := fun _ => fun
  | [d1, d2] => { results := [.lit (.bool true)], args := [d1, d2] }
  | _ => none }
def fnExactLostAtRow : OpenClaim := { program := "ytmamkjioahnecaa", sum := "8b90efb4479932253e7100ed0c943919164e2c5d0d5be853c5e8644c5729cf3d", func := "loop.example/g00398/laws.FnExactLostAt", spec := "fnExactLostAt", apart := false }
def FnExactLostAtSaid : Prop := fnExactLostAtRow.holds Try.pinned (OpenSpec.ofChange fnExactLostAtSpec)

/-- ITS FALSE NEIGHBOUR: 'it returns false'. Refute it at one input. -/
def fnExactLostAtWrong : ChangeSpec := { name := "fnExactLostAt", fn := fun _ => fun
  | [d1, d2] => { results := [.lit (.bool false)], args := [d1, d2] }
  | _ => none }
def FnExactLostAtWrongFalsely : Prop := fnExactLostAtRow.holds Try.pinned (OpenSpec.ofChange fnExactLostAtWrong)

/-- 'laws.FnExactFindRec': WHATEVER THE INPUT: true; the input reads as it did. -/
def fnExactFindRecSpec : ChangeSpec := { name := "fnExactFindRec", fn := fun _ => fun
  | [d1, d2] => { results := [.lit (.bool true)], args := [d1, d2] }
  | _ => none }
def fnExactFindRecRow : OpenClaim := { program := "ytmamkjioahnecaa", sum := "8b90efb4479932253e7100ed0c943919164e2c5d0d5be853c5e8644c5729cf3d", func := "loop.example/g00398/laws.FnExactFindRec", spec := "fnExactFindRec", apart := false }
def FnExactFindRecSaid : Prop := fnExactFindRecRow.holds Try.pinned (OpenSpec.ofChange fnExactFindRecSpec)

/-- ITS FALSE NEIGHBOUR: 'it returns false'. Refute it at one input. -/
def fnExactFindRecWrong : ChangeSpec := { name := "fnExactFindRec", fn := fun _ => fun
  | [d1, d2] => { results := [.lit (.bool false)], args := [d1, d2] }
  | _ => none }
def FnExactFindRecWrongFalsely : Prop := fnExactFindRecRow.holds Try.pinned (OpenSpec.ofChange fnExactFindRecWrong)

/-- 'laws.FnExactBare': WHATEVER THE INPUT: true; the input reads as it did. -/
def fnExactBareSpec : ChangeSpec := { name := "fnExactBare", fn := fun _ => fun
  | [d] => { results := [.lit (.bool true)], args := [d] }
  | _ => none }
def fnExactBareRow : OpenClaim := { program := "ytmamkjioahnecaa", sum := "8b90efb4479932253e7100ed0c943919164e2c5d0d5be853c5e8644c5729cf3d", func := "loop.example/g00398/laws.FnExactBare", spec := "fnExactBare", apart := false }
def FnExactBareSaid : Prop := fnExactBareRow.holds Try.pinned (OpenSpec.ofChange fnExactBareSpec)

/-- ITS FALSE NEIGHBOUR: 'it returns false'. Refute it at one input. -/
def fnExactBareWrong : ChangeSpec := { name := "fnExactBare", fn := fun _ => fun
  | [d] => { results := [.lit (.bool false)], args := [d] }
  | _ => none }
def FnExactBareWrongFalsely : Prop := fnExactBareRow.holds Try.pinned (OpenSpec.ofChange fnExactBareWrong)

/-- 'laws.FnExactPowerOff': WHATEVER THE INPUT: true; the input reads as it did. -/
def fnExactPowerOffSpec : ChangeSpec := { name := "fnExactPowerOff", fn := fun _ => fun
  | [d] => { results := [.lit (.bool true)], args := [d] }
  | _ => none }
def fnExactPowerOffRow : OpenClaim := { program := "ytmamkjioahnecaa", sum := "8b90efb4479932253e7100ed0c943919164e2c5d0d5be853c5e8644c5729cf3d", func := "loop.example/g00398/laws.FnExactPowerOff", spec := "fnExactPowerOff", apart := false }
def FnExactPowerOffSaid : Prop := fnExactPowerOffRow.holds Try.pinned (OpenSpec.ofChange fnExactPowerOffSpec)

/-- ITS FALSE NEIGHBOUR: 'it returns false'. Refute it at one input. -/
def fnExactPowerOffWrong : ChangeSpec := { name := "fnExactPowerOff", fn := fun _ => fun
  | [d] => { results := [.lit (.bool false)], args := [d] }
  | _ => none }
def FnExactPowerOffWrongFalsely : Prop := fnExactPowerOffRow.holds Try.pinned (OpenSpec.ofChange fnExactPowerOffWrong)

/-- 'laws.FnExactAssemble': WHATEVER THE INPUT: true; the input reads as it did. -/
def fnExactAssembleSpec : ChangeSpec := { name := "fnExactAssemble", fn := fun _ => fun
  | [d1, d2] => { results := [.lit (.bool true)], args := [d1, d2] }
  | _ => none }
def fnExactAssembleRow : OpenClaim := { program := "ytmamkjioahnecaa", sum := "8b90efb4479932253e7100ed0c943919164e2c5d0d5be853c5e8644c5729cf3d", func := "loop.example/g00398/laws.FnExactAssemble", spec := "fnExactAssemble", apart := false }
def FnExactAssembleSaid : Prop := fnExactAssembleRow.holds Try.pinned (OpenSpec.ofChange fnExactAssembleSpec)

/-- ITS FALSE NEIGHBOUR: 'it returns false'. Refute it at one input. -/
def fnExactAssembleWrong : ChangeSpec := { name := "fnExactAssemble", fn := fun _ => fun
  | [d1, d2] => { results := [.lit (.bool false)], args := [d1, d2] }
  | _ => none }
def FnExactAssembleWrongFalsely : Prop := fnExactAssembleRow.holds Try.pinned (OpenSpec.ofChange fnExactAssembleWrong)

/-- 'laws.FnExactDurable': WHATEVER THE INPUT: true; the input reads as it did. -/
def fnExactDurableSpec : ChangeSpec := { name := "fnExactDurable", fn := fun _ => fun
  | [d] => { results := [.lit (.bool true)], args := [d] }
  | _ => none }
def fnExactDurableRow : OpenClaim := { program := "ytmamkjioahnecaa", sum := "8b90efb4479932253e7100ed0c943919164e2c5d0d5be853c5e8644c5729cf3d", func := "loop.example/g00398/laws.FnExactDurable", spec := "fnExactDurable", apart := false }
def FnExactDurableSaid : Prop := fnExactDurableRow.holds Try.pinned (OpenSpec.ofChange fnExactDurableSpec)

/-- ITS FALSE NEIGHBOUR: 'it returns false'. Refute it at one input. -/
def fnExactDurableWrong : ChangeSpec := { name := "fnExactDurable", fn := fun _ => fun
  | [d] => { results := [.lit (.bool false)], args := [d] }
  | _ => none }
def FnExactDurableWrongFalsely : Prop := fnExactDurableRow.holds Try.pinned (OpenSpec.ofChange fnExactDurableWrong)

/-- 'laws.FnWords': WHATEVER THE INPUT: true; the input reads as it did. -/
def fnWordsSpec : ChangeSpec := { name := "fnWords", fn := fun _ => fun
  | [d] => { results := [.lit (.bool true)], args := [d] }
  | _ => none }
def fnWordsRow : OpenClaim := { program := "ytmamkjioahnecaa", sum := "8b90efb4479932253e7100ed0c943919164e2c5d0d5be853c5e8644c5729cf3d", func := "loop.example/g00398/laws.FnWords", spec := "fnWords", apart := false }
def FnWordsSaid : Prop := fnWordsRow.holds Try.pinned (OpenSpec.ofChange fnWordsSpec)

/-- ITS FALSE NEIGHBOUR: 'it returns false'. Refute it at one input. -/
def fnWordsWrong : ChangeSpec := { name := "fnWords", fn := fun _ => fun
  | [d] => { results := [.lit (.bool false)], args := [d] }
  | _ => none }
def FnWordsWrongFalsely : Prop := fnWordsRow.holds Try.pinned (OpenSpec.ofChange fnWordsWrong)

/- THE SECOND FORM. 'bulk': how many values and letters a reading holds, each counted each time it is reached (what is shared counts as often as it is met; a slice's spare places count too). A statement '..UptoSaid' is the law's where the arguments, and the package variables that the reading takes, are together of bulk at most 1048576: NARROWER than '..Said'. Prove '..Said' where nothing that the law and all that it calls make is longer than what came in: it says more and counts as full. Else prove '..UptoSaid'. A law counts once. -/
mutual
def uptoBulk {H : Type} : DataW H → Nat
  | .lit (.string bytes) => bytes.length + 1
  | .lit _ => 1
  | .nil => 1
  | .ptr d => uptoBulk d + 1
  | .slice elems spare => uptoBulkAll elems + uptoBulkAll spare + 1
  | .agg parts => uptoBulkAll parts + 1
  | .iface _ d => uptoBulk d + 1
  | .map entries => uptoBulkEntries entries + 1
  | .held _ => 1
def uptoBulkAll {H : Type} : List (DataW H) → Nat
  | [] => 0
  | d :: r => uptoBulk d + uptoBulkAll r
def uptoBulkEntries {H : Type} : List (Lit × DataW H) → Nat
  | [] => 0
  | x :: r => uptoBulkEntry x + uptoBulkEntries r
def uptoBulkEntry {H : Type} : Lit × DataW H → Nat
  | (.string bytes, d) => bytes.length + uptoBulk d + 1
  | (_, d) => uptoBulk d + 1
 end
def uptoSmall : (H : Type) → List (DataW H) → Bool := fun _ ds => decide (uptoBulkAll ds ≤ 1048576)
def OpenSpec.upto (s : _root_.Go.ChangeSpec) : _root_.Go.OpenSpec := { _root_.Go.OpenSpec.ofChange s with cond := some uptoSmall }

/-- 'laws.FnExactFall', WHERE WHAT IT READS IS OF BULK AT MOST 1048576: true; the input reads as it did. -/
def fnExactFallUptoRow : OpenClaim := { program := "ytmamkjioahnecaa", sum := "8b90efb4479932253e7100ed0c943919164e2c5d0d5be853c5e8644c5729cf3d", func := "loop.example/g00398/laws.FnExactFall", spec := "fnExactFall", apart := false, narrowed := true }
def FnExactFallUptoSaid : Prop := fnExactFallUptoRow.holds Try.pinned (OpenSpec.upto fnExactFallSpec)

/-- 'laws.FnExactCanLose', WHERE WHAT IT READS IS OF BULK AT MOST 1048576: true; the input reads as it did. -/
def fnExactCanLoseUptoRow : OpenClaim := { program := "ytmamkjioahnecaa", sum := "8b90efb4479932253e7100ed0c943919164e2c5d0d5be853c5e8644c5729cf3d", func := "loop.example/g00398/laws.FnExactCanLose", spec := "fnExactCanLose", apart := false, narrowed := true }
def FnExactCanLoseUptoSaid : Prop := fnExactCanLoseUptoRow.holds Try.pinned (OpenSpec.upto fnExactCanLoseSpec)

/-- 'laws.FnExactXorAt', WHERE WHAT IT READS IS OF BULK AT MOST 1048576: true; the input reads as it did. -/
def fnExactXorAtUptoRow : OpenClaim := { program := "ytmamkjioahnecaa", sum := "8b90efb4479932253e7100ed0c943919164e2c5d0d5be853c5e8644c5729cf3d", func := "loop.example/g00398/laws.FnExactXorAt", spec := "fnExactXorAt", apart := false, narrowed := true }
def FnExactXorAtUptoSaid : Prop := fnExactXorAtUptoRow.holds Try.pinned (OpenSpec.upto fnExactXorAtSpec)

/-- 'laws.FnExactEven', WHERE WHAT IT READS IS OF BULK AT MOST 1048576: true; the input reads as it did. -/
def fnExactEvenUptoRow : OpenClaim := { program := "ytmamkjioahnecaa", sum := "8b90efb4479932253e7100ed0c943919164e2c5d0d5be853c5e8644c5729cf3d", func := "loop.example/g00398/laws.FnExactEven", spec := "fnExactEven", apart := false, narrowed := true }
def FnExactEvenUptoSaid : Prop := fnExactEvenUptoRow.holds Try.pinned (OpenSpec.upto fnExactEvenSpec)

/-- 'laws.FnModels', WHERE WHAT IT READS IS OF BULK AT MOST 1048576: true; the input reads as it did. -/
def fnModelsUptoRow : OpenClaim := { program := "ytmamkjioahnecaa", sum := "8b90efb4479932253e7100ed0c943919164e2c5d0d5be853c5e8644c5729cf3d", func := "loop.example/g00398/laws.FnModels", spec := "fnModels", apart := false, narrowed := true }
def FnModelsUptoSaid : Prop := fnModelsUptoRow.holds Try.pinned (OpenSpec.upto fnModelsSpec)

/-- 'laws.FnExactLostAt', WHERE WHAT IT READS IS OF BULK AT MOST 1048576: true; the input reads as it did. -/
def fnExactLostAtUptoRow : OpenClaim := { program := "ytmamkjioahnecaa", sum := "8b90efb4479932253e7100ed0c943919164e2c5d0d5be853c5e8644c5729cf3d", func := "loop.example/g00398/laws.FnExactLostAt", spec := "fnExactLostAt", apart := false, narrowed := true }
def FnExactLostAtUptoSaid : Prop := fnExactLostAtUptoRow.holds Try.pinned (OpenSpec.upto fnExactLostAtSpec)

/-- 'laws.FnExactFindRec', WHERE WHAT IT READS IS OF BULK AT MOST 1048576: true; the input reads as it did. -/
def fnExactFindRecUptoRow : OpenClaim := { program := "ytmamkjioahnecaa", sum := "8b90efb4479932253e7100ed0c943919164e2c5d0d5be853c5e8644c5729cf3d", func := "loop.example/g00398/laws.FnExactFindRec", spec := "fnExactFindRec", apart := false, narrowed := true }
def FnExactFindRecUptoSaid : Prop := fnExactFindRecUptoRow.holds Try.pinned (OpenSpec.upto fnExactFindRecSpec)

/-- 'laws.FnExactBare', WHERE WHAT IT READS IS OF BULK AT MOST 1048576: true; the input reads as it did. -/
def fnExactBareUptoRow : OpenClaim := { program := "ytmamkjioahnecaa", sum := "8b90efb4479932253e7100ed0c943919164e2c5d0d5be853c5e8644c5729cf3d", func := "loop.example/g00398/laws.FnExactBare", spec := "fnExactBare", apart := false, narrowed := true }
def FnExactBareUptoSaid : Prop := fnExactBareUptoRow.holds Try.pinned (OpenSpec.upto fnExactBareSpec)

/-- 'laws.FnExactPowerOff', WHERE WHAT IT READS IS OF BULK AT MOST 1048576: true; the input reads as it did. -/
def fnExactPowerOffUptoRow : OpenClaim := { program := "ytmamkjioahnecaa", sum := "8b90efb4479932253e7100ed0c943919164e2c5d0d5be853c5e8644c5729cf3d", func := "loop.example/g00398/laws.FnExactPowerOff", spec := "fnExactPowerOff", apart := false, narrowed := true }
def FnExactPowerOffUptoSaid : Prop := fnExactPowerOffUptoRow.holds Try.pinned (OpenSpec.upto fnExactPowerOffSpec)

/-- 'laws.FnExactAssemble', WHERE WHAT IT READS IS OF BULK AT MOST 1048576: true; the input reads as it did. -/
def fnExactAssembleUptoRow : OpenClaim := { program := "ytmamkjioahnecaa", sum := "8b90efb4479932253e7100ed0c943919164e2c5d0d5be853c5e8644c5729cf3d", func := "loop.example/g00398/laws.FnExactAssemble", spec := "fnExactAssemble", apart := false, narrowed := true }
def FnExactAssembleUptoSaid : Prop := fnExactAssembleUptoRow.holds Try.pinned (OpenSpec.upto fnExactAssembleSpec)

/-- 'laws.FnExactDurable', WHERE WHAT IT READS IS OF BULK AT MOST 1048576: true; the input reads as it did. -/
def fnExactDurableUptoRow : OpenClaim := { program := "ytmamkjioahnecaa", sum := "8b90efb4479932253e7100ed0c943919164e2c5d0d5be853c5e8644c5729cf3d", func := "loop.example/g00398/laws.FnExactDurable", spec := "fnExactDurable", apart := false, narrowed := true }
def FnExactDurableUptoSaid : Prop := fnExactDurableUptoRow.holds Try.pinned (OpenSpec.upto fnExactDurableSpec)

/-- 'laws.FnWords', WHERE WHAT IT READS IS OF BULK AT MOST 1048576: true; the input reads as it did. -/
def fnWordsUptoRow : OpenClaim := { program := "ytmamkjioahnecaa", sum := "8b90efb4479932253e7100ed0c943919164e2c5d0d5be853c5e8644c5729cf3d", func := "loop.example/g00398/laws.FnWords", spec := "fnWords", apart := false, narrowed := true }
def FnWordsUptoSaid : Prop := fnWordsUptoRow.holds Try.pinned (OpenSpec.upto fnWordsSpec)

end Rows
end Go.Proofs.Ytmamkjioahnecaa
