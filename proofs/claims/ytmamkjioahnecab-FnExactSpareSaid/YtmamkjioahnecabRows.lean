/-
  No cell of these rows narrows 'for every input' (looked for: loops, veiled, ifaces, maps, wideKeys, modest, calm, conditions, laid).
  DERIVED. THE GIVEN ROWS OF THIS SEAT. 3 by the template 'for every input the law returns true; each argument reads behind the call as it read before'; 0 by the template 'total and deterministic' (their statements: YtmamkjioahnecabTotals.lean).
  GIVEN WITH THE SEED: the statements are not yours to turn. If you find one false, say at which input.
  Laid BY PROGRAM, IN A SANDBOX (cutbox-rows.mjs): the forced cells as the released guide's own fill.sh prints them over the translation 159c76d229748b20… (all of the seat's roots in one cut). By AI agents, Wed Nov 11 2026. No macro, syntax, notation, axiom, sorry.
-/
import Derived.Test.YtmamkjioahnecabChecked
import GoSem.Claim
import GoSem.ClaimJoined
import GoSem.ClaimMapViews
import Derived.JoinedTies
import Derived.KernelRfl
namespace Go.Proofs.Ytmamkjioahnecab
/- THE CELL 'sum', in the pinned program and in every row, IS THE sha256 OF THE DUMP (.gsa) THAT YtmamkjioahnecabProg.lean LOADS. Nothing in Lean hashes anything: it is a label: what it is worth is what the hold of that sum in a sandbox is worth. -/
noncomputable def Try.pinned : Pinned := { name := "ytmamkjioahnecab", sum := "159c76d229748b20c7e2a5dfcc572352a1d110c7d19efd067fc8fd0cd46f41c6", checked := Try.checked }
namespace Rows
def none {H : Type} : Left H := { results := [], args := [] }

/-- 'laws.FnExactGetBlock': WHATEVER THE INPUT: true; the input reads as it did. -/
def fnExactGetBlockSpec : ChangeSpec := { name := "fnExactGetBlock", fn := fun _ => fun
  | [d1, d2] => { results := [.lit (.bool true)], args := [d1, d2] }
  | _ => none }
def fnExactGetBlockRow : OpenClaim := { program := "ytmamkjioahnecab", sum := "159c76d229748b20c7e2a5dfcc572352a1d110c7d19efd067fc8fd0cd46f41c6", func := "loop.example/g00398/laws.FnExactGetBlock", spec := "fnExactGetBlock", unfollowed := true, recurses := true, apart := false }
def FnExactGetBlockSaid : Prop := fnExactGetBlockRow.holds Try.pinned (OpenSpec.ofChange fnExactGetBlockSpec)

/-- ITS FALSE NEIGHBOUR: 'it returns false'. Refute it at one input. -/
def fnExactGetBlockWrong : ChangeSpec := { name := "fnExactGetBlock", fn := fun _ => fun
  | [d1, d2] => { results := [.lit (.bool false)], args := [d1, d2] }
  | _ => none }
def FnExactGetBlockWrongFalsely : Prop := fnExactGetBlockRow.holds Try.pinned (OpenSpec.ofChange fnExactGetBlockWrong)

/-- 'laws.FnExactFailDisk': WHATEVER THE INPUT: true; the input reads as it did. -/
def fnExactFailDiskSpec : ChangeSpec := { name := "fnExactFailDisk", fn := fun _ => fun
  | [d1, d2] => { results := [.lit (.bool true)], args := [d1, d2] }
  | _ => none }
def fnExactFailDiskRow : OpenClaim := { program := "ytmamkjioahnecab", sum := "159c76d229748b20c7e2a5dfcc572352a1d110c7d19efd067fc8fd0cd46f41c6", func := "loop.example/g00398/laws.FnExactFailDisk", spec := "fnExactFailDisk", unfollowed := true, recurses := true, apart := false }
def FnExactFailDiskSaid : Prop := fnExactFailDiskRow.holds Try.pinned (OpenSpec.ofChange fnExactFailDiskSpec)

/-- ITS FALSE NEIGHBOUR: 'it returns false'. Refute it at one input. -/
def fnExactFailDiskWrong : ChangeSpec := { name := "fnExactFailDisk", fn := fun _ => fun
  | [d1, d2] => { results := [.lit (.bool false)], args := [d1, d2] }
  | _ => none }
def FnExactFailDiskWrongFalsely : Prop := fnExactFailDiskRow.holds Try.pinned (OpenSpec.ofChange fnExactFailDiskWrong)

/-- 'laws.FnExactSpare': WHATEVER THE INPUT: true; the input reads as it did. -/
def fnExactSpareSpec : ChangeSpec := { name := "fnExactSpare", fn := fun _ => fun
  | [d] => { results := [.lit (.bool true)], args := [d] }
  | _ => none }
def fnExactSpareRow : OpenClaim := { program := "ytmamkjioahnecab", sum := "159c76d229748b20c7e2a5dfcc572352a1d110c7d19efd067fc8fd0cd46f41c6", func := "loop.example/g00398/laws.FnExactSpare", spec := "fnExactSpare", unfollowed := true, recurses := true, apart := false }
def FnExactSpareSaid : Prop := fnExactSpareRow.holds Try.pinned (OpenSpec.ofChange fnExactSpareSpec)

/-- ITS FALSE NEIGHBOUR: 'it returns false'. Refute it at one input. -/
def fnExactSpareWrong : ChangeSpec := { name := "fnExactSpare", fn := fun _ => fun
  | [d] => { results := [.lit (.bool false)], args := [d] }
  | _ => none }
def FnExactSpareWrongFalsely : Prop := fnExactSpareRow.holds Try.pinned (OpenSpec.ofChange fnExactSpareWrong)

/- THE SECOND FORM. 'bulk': how many values and letters a reading holds, each counted each time it is reached (what is shared counts as often as it is met; a slice's spare places count too). A statement '..UptoSaid' is the law's where the arguments, and the package variables that the reading takes, are together of bulk at most 1048576: NARROWER than '..Said'. Prove '..Said' where nothing that the law and all that it calls make is longer than what came in: it says more and counts as full. Else prove '..UptoSaid'. A law counts once. -/
mutual
def uptoBulk {H : Type} : DataW H → Nat
  | .lit (.string bytes) => bytes.length + 1
  | .lit _ => 1
  | .nil => 1
  | .ptr d => uptoBulk d + 1
  | .slice elems spare => uptoBulkAll elems + uptoBulkAll spare + 1
  | .agg parts => uptoBulkAll parts + 1
  | .iface _ d => uptoBulk d + 1
  | .map entries => uptoBulkEntries entries + 1
  | .held _ => 1
def uptoBulkAll {H : Type} : List (DataW H) → Nat
  | [] => 0
  | d :: r => uptoBulk d + uptoBulkAll r
def uptoBulkEntries {H : Type} : List (Lit × DataW H) → Nat
  | [] => 0
  | x :: r => uptoBulkEntry x + uptoBulkEntries r
def uptoBulkEntry {H : Type} : Lit × DataW H → Nat
  | (.string bytes, d) => bytes.length + uptoBulk d + 1
  | (_, d) => uptoBulk d + 1
 end
def uptoSmall : (H : Type) → List (DataW H) → Bool := fun _ ds => decide (uptoBulkAll ds ≤ 1048576)
def OpenSpec.upto (s : _root_.Go.ChangeSpec) : _root_.Go.OpenSpec := { _root_.Go.OpenSpec.ofChange s with cond := some uptoSmall }

/-- 'laws.FnExactGetBlock', WHERE WHAT IT READS IS OF BULK AT MOST 1048576: true; the input reads as it did. -/
def fnExactGetBlockUptoRow : OpenClaim := { program := "ytmamkjioahnecab", sum := "159c76d229748b20c7e2a5dfcc572352a1d110c7d19efd067fc8fd0cd46f41c6", func := "loop.example/g00398/laws.FnExactGetBlock", spec := "fnExactGetBlock", unfollowed := true, recurses := true, apart := false, narrowed := true }
def FnExactGetBlockUptoSaid : Prop := fnExactGetBlockUptoRow.holds Try.pinned (OpenSpec.upto fnExactGetBlockSpec)

/-- 'laws.FnExactFailDisk', WHERE WHAT IT READS IS OF BULK AT MOST 1048576: true; the input reads as it did. -/
def fnExactFailDiskUptoRow : OpenClaim := { program := "ytmamkjioahnecab", sum := "159c76d229748b20c7e2a5dfcc572352a1d110c7d19efd067fc8fd0cd46f41c6", func := "loop.example/g00398/laws.FnExactFailDisk", spec := "fnExactFailDisk", unfollowed := true, recurses := true, apart := false, narrowed := true }
def FnExactFailDiskUptoSaid : Prop := fnExactFailDiskUptoRow.holds Try.pinned (OpenSpec.upto fnExactFailDiskSpec)

/-- 'laws.FnExactSpare', WHERE WHAT IT READS IS OF BULK AT MOST 1048576: true; the input reads as it did. -/
def fnExactSpareUptoRow : OpenClaim := { program := "ytmamkjioahnecab", sum := "159c76d229748b20c7e2a5dfcc572352a1d110c7d19efd067fc8fd0cd46f41c6", func := "loop.example/g00398/laws.FnExactSpare", spec := "fnExactSpare", unfollowed := true, recurses := true, apart := false, narrowed := true }
def FnExactSpareUptoSaid : Prop := fnExactSpareUptoRow.holds Try.pinned (OpenSpec.upto fnExactSpareSpec)

end Rows
end Go.Proofs.Ytmamkjioahnecab
