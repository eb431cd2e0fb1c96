/-
  No cell of these rows narrows 'for every input' (looked for: loops, veiled, ifaces, maps, wideKeys, modest, calm, conditions, laid).
  DERIVED. THE GIVEN ROWS OF THIS SEAT. 6 by the template 'for every input the law returns true; each argument reads behind the call as it read before'; 0 by the template 'total and deterministic' (their statements: YtljhekjbdmnmnaaTotals.lean).
  GIVEN WITH THE SEED: the statements are not yours to turn. If you find one false, say at which input.
  Laid BY PROGRAM, IN A SANDBOX (cutbox-rows.mjs): the forced cells as the released guide's own fill.sh prints them over the translation 4348f6c96055b3d2… (all of the seat's roots in one cut). By AI agents, Wed Nov 11 2026. No macro, syntax, notation, axiom, sorry.
-/
import Derived.Test.YtljhekjbdmnmnaaChecked
import GoSem.Claim
import GoSem.ClaimJoined
import GoSem.ClaimMapViews
import Derived.JoinedTies
import Derived.KernelRfl
namespace Go.Proofs.Ytljhekjbdmnmnaa
/- THE CELL 'sum', in the pinned program and in every row, IS THE sha256 OF THE DUMP (.gsa) THAT YtljhekjbdmnmnaaProg.lean LOADS. Nothing in Lean hashes anything: it is a label: what it is worth is what the hold of that sum in a sandbox is worth. -/
noncomputable def Try.pinned : Pinned := { name := "ytljhekjbdmnmnaa", sum := "4348f6c96055b3d242204f85dac34aef8edcd8225f9f78f274d2573525fb2b97", checked := Try.checked }
namespace Rows
def none {H : Type} : Left H := { results := [], args := [] }

/-- 'laws.FnExactZeros': WHATEVER THE INPUT: true; the input reads as it did. -/
def fnExactZerosSpec : ChangeSpec := { name := "fnExactZeros", fn := fun _ => fun
  | [d] => { results := [.lit (.bool true)], args := [d] }
  | _ => none }
def fnExactZerosRow : OpenClaim := { program := "ytljhekjbdmnmnaa", sum := "4348f6c96055b3d242204f85dac34aef8edcd8225f9f78f274d2573525fb2b97", func := "loop.example/g00398/laws.FnExactZeros", spec := "fnExactZeros", apart := false }
def FnExactZerosSaid : Prop := fnExactZerosRow.holds Try.pinned (OpenSpec.ofChange fnExactZerosSpec)

/-- ITS FALSE NEIGHBOUR: 'it returns false'. Refute it at one input. -/
def fnExactZerosWrong : ChangeSpec := { name := "fnExactZeros", fn := fun _ => fun
  | [d] => { results := [.lit (.bool false)], args := [d] }
  | _ => none }
def FnExactZerosWrongFalsely : Prop := fnExactZerosRow.holds Try.pinned (OpenSpec.ofChange fnExactZerosWrong)

/-- 'laws.FnExactPutCmd': WHATEVER THE INPUT: true; the input reads as it did. -/
def fnExactPutCmdSpec : ChangeSpec := { name := "fnExactPutCmd", fn := fun _ => fun
  | [d] => { results := [.lit (.bool true)], args := [d] }
  | _ => none }
def fnExactPutCmdRow : OpenClaim := { program := "ytljhekjbdmnmnaa", sum := "4348f6c96055b3d242204f85dac34aef8edcd8225f9f78f274d2573525fb2b97", func := "loop.example/g00398/laws.FnExactPutCmd", spec := "fnExactPutCmd", apart := false }
def FnExactPutCmdSaid : Prop := fnExactPutCmdRow.holds Try.pinned (OpenSpec.ofChange fnExactPutCmdSpec)

/-- ITS FALSE NEIGHBOUR: 'it returns false'. Refute it at one input. -/
def fnExactPutCmdWrong : ChangeSpec := { name := "fnExactPutCmd", fn := fun _ => fun
  | [d] => { results := [.lit (.bool false)], args := [d] }
  | _ => none }
def FnExactPutCmdWrongFalsely : Prop := fnExactPutCmdRow.holds Try.pinned (OpenSpec.ofChange fnExactPutCmdWrong)

/-- 'laws.FnExactGetCmd': WHATEVER THE INPUT: true; the input reads as it did. -/
def fnExactGetCmdSpec : ChangeSpec := { name := "fnExactGetCmd", fn := fun _ => fun
  | [d] => { results := [.lit (.bool true)], args := [d] }
  | _ => none }
def fnExactGetCmdRow : OpenClaim := { program := "ytljhekjbdmnmnaa", sum := "4348f6c96055b3d242204f85dac34aef8edcd8225f9f78f274d2573525fb2b97", func := "loop.example/g00398/laws.FnExactGetCmd", spec := "fnExactGetCmd", apart := false }
def FnExactGetCmdSaid : Prop := fnExactGetCmdRow.holds Try.pinned (OpenSpec.ofChange fnExactGetCmdSpec)

/-- ITS FALSE NEIGHBOUR: 'it returns false'. Refute it at one input. -/
def fnExactGetCmdWrong : ChangeSpec := { name := "fnExactGetCmd", fn := fun _ => fun
  | [d] => { results := [.lit (.bool false)], args := [d] }
  | _ => none }
def FnExactGetCmdWrongFalsely : Prop := fnExactGetCmdRow.holds Try.pinned (OpenSpec.ofChange fnExactGetCmdWrong)

/-- 'laws.FnClashes': WHATEVER THE INPUT: true; the input reads as it did. -/
def fnClashesSpec : ChangeSpec := { name := "fnClashes", fn := fun _ => fun
  | [d] => { results := [.lit (.bool true)], args := [d] }
  | _ => none }
def fnClashesRow : OpenClaim := { program := "ytljhekjbdmnmnaa", sum := "4348f6c96055b3d242204f85dac34aef8edcd8225f9f78f274d2573525fb2b97", func := "loop.example/g00398/laws.FnClashes", spec := "fnClashes", apart := false }
def FnClashesSaid : Prop := fnClashesRow.holds Try.pinned (OpenSpec.ofChange fnClashesSpec)

/-- ITS FALSE NEIGHBOUR: 'it returns false'. Refute it at one input. -/
def fnClashesWrong : ChangeSpec := { name := "fnClashes", fn := fun _ => fun
  | [d] => { results := [.lit (.bool false)], args := [d] }
  | _ => none }
def FnClashesWrongFalsely : Prop := fnClashesRow.holds Try.pinned (OpenSpec.ofChange fnClashesWrong)

/-- 'laws.FnExactCmdCode': WHATEVER THE INPUT: true; the input reads as it did. -/
def fnExactCmdCodeSpec : ChangeSpec := { name := "fnExactCmdCode", fn := fun _ => fun
  | [d1, d2] => { results := [.lit (.bool true)], args := [d1, d2] }
  | _ => none }
def fnExactCmdCodeRow : OpenClaim := { program := "ytljhekjbdmnmnaa", sum := "4348f6c96055b3d242204f85dac34aef8edcd8225f9f78f274d2573525fb2b97", func := "loop.example/g00398/laws.FnExactCmdCode", spec := "fnExactCmdCode", apart := false }
def FnExactCmdCodeSaid : Prop := fnExactCmdCodeRow.holds Try.pinned (OpenSpec.ofChange fnExactCmdCodeSpec)

/-- ITS FALSE NEIGHBOUR: 'it returns false'. Refute it at one input. -/
def fnExactCmdCodeWrong : ChangeSpec := { name := "fnExactCmdCode", fn := fun _ => fun
  | [d1, d2] => { results := [.lit (.bool false)], args := [d1, d2] }
  | _ => none }
def FnExactCmdCodeWrongFalsely : Prop := fnExactCmdCodeRow.holds Try.pinned (OpenSpec.ofChange fnExactCmdCodeWrong)

/-- 'laws.FnCmds': WHATEVER THE INPUT: true; the input reads as it did. -/
def fnCmdsSpec : ChangeSpec := { name := "fnCmds", fn := fun _ => fun
  | [d] => { results := [.lit (.bool true)], args := [d] }
  | _ => none }
def fnCmdsRow : OpenClaim := { program := "ytljhekjbdmnmnaa", sum := "4348f6c96055b3d242204f85dac34aef8edcd8225f9f78f274d2573525fb2b97", func := "loop.example/g00398/laws.FnCmds", spec := "fnCmds", apart := false }
def FnCmdsSaid : Prop := fnCmdsRow.holds Try.pinned (OpenSpec.ofChange fnCmdsSpec)

/-- ITS FALSE NEIGHBOUR: 'it returns false'. Refute it at one input. -/
def fnCmdsWrong : ChangeSpec := { name := "fnCmds", fn := fun _ => fun
  | [d] => { results := [.lit (.bool false)], args := [d] }
  | _ => none }
def FnCmdsWrongFalsely : Prop := fnCmdsRow.holds Try.pinned (OpenSpec.ofChange fnCmdsWrong)

/- THE SECOND FORM. 'bulk': how many values and letters a reading holds, each counted each time it is reached (what is shared counts as often as it is met; a slice's spare places count too). A statement '..UptoSaid' is the law's where the arguments, and the package variables that the reading takes, are together of bulk at most 1048576: NARROWER than '..Said'. Prove '..Said' where nothing that the law and all that it calls make is longer than what came in: it says more and counts as full. Else prove '..UptoSaid'. A law counts once. -/
mutual
def uptoBulk {H : Type} : DataW H → Nat
  | .lit (.string bytes) => bytes.length + 1
  | .lit _ => 1
  | .nil => 1
  | .ptr d => uptoBulk d + 1
  | .slice elems spare => uptoBulkAll elems + uptoBulkAll spare + 1
  | .agg parts => uptoBulkAll parts + 1
  | .iface _ d => uptoBulk d + 1
  | .map entries => uptoBulkEntries entries + 1
  | .held _ => 1
def uptoBulkAll {H : Type} : List (DataW H) → Nat
  | [] => 0
  | d :: r => uptoBulk d + uptoBulkAll r
def uptoBulkEntries {H : Type} : List (Lit × DataW H) → Nat
  | [] => 0
  | x :: r => uptoBulkEntry x + uptoBulkEntries r
def uptoBulkEntry {H : Type} : Lit × DataW H → Nat
  | (.string bytes, d) => bytes.length + uptoBulk d + 1
  | (_, d) => uptoBulk d + 1
 end
def uptoSmall : (H : Type) → List (DataW H) → Bool := fun _ ds => decide (uptoBulkAll ds ≤ 1048576)
def OpenSpec.upto (s : _root_.Go.ChangeSpec) : _root_.Go.OpenSpec := { _root_.Go.OpenSpec.ofChange s with cond := some uptoSmall }

/-- 'laws.FnExactZeros', WHERE WHAT IT READS IS OF BULK AT MOST 1048576: true; the input reads as it did. -/
def fnExactZerosUptoRow : OpenClaim := { program := "ytljhekjbdmnmnaa", sum := "4348f6c96055b3d242204f85dac34aef8edcd8225f9f78f274d2573525fb2b97", func := "loop.example/g00398/laws.FnExactZeros", spec := "fnExactZeros", apart := false, narrowed := true }
def FnExactZerosUptoSaid : Prop := fnExactZerosUptoRow.holds Try.pinned (OpenSpec.upto fnExactZerosSpec)

/-- 'laws.FnExactPutCmd', WHERE WHAT IT READS IS OF BULK AT MOST 1048576: true; the input reads as it did. -/
def fnExactPutCmdUptoRow : OpenClaim := { program := "ytljhekjbdmnmnaa", sum := "4348f6c96055b3d242204f85dac34aef8edcd8225f9f78f274d2573525fb2b97", func := "loop.example/g00398/laws.FnExactPutCmd", spec := "fnExactPutCmd", apart := false, narrowed := true }
def FnExactPutCmdUptoSaid : Prop := fnExactPutCmdUptoRow.holds Try.pinned (OpenSpec.upto fnExactPutCmdSpec)

/-- 'laws.FnExactGetCmd', WHERE WHAT IT READS IS OF BULK AT MOST 1048576: true; the input reads as it did. -/
def fnExactGetCmdUptoRow : OpenClaim := { program := "ytljhekjbdmnmnaa", sum := "4348f6c96055b3d242204f85dac34aef8edcd8225f9f78f274d2573525fb2b97", func := "loop.example/g00398/laws.FnExactGetCmd", spec := "fnExactGetCmd", apart := false, narrowed := true }
def FnExactGetCmdUptoSaid : Prop := fnExactGetCmdUptoRow.holds Try.pinned (OpenSpec.upto fnExactGetCmdSpec)

/-- 'laws.FnClashes', WHERE WHAT IT READS IS OF BULK AT MOST 1048576: true; the input reads as it did. -/
def fnClashesUptoRow : OpenClaim := { program := "ytljhekjbdmnmnaa", sum := "4348f6c96055b3d242204f85dac34aef8edcd8225f9f78f274d2573525fb2b97", func := "loop.example/g00398/laws.FnClashes", spec := "fnClashes", apart := false, narrowed := true }
def FnClashesUptoSaid : Prop := fnClashesUptoRow.holds Try.pinned (OpenSpec.upto fnClashesSpec)

/-- 'laws.FnExactCmdCode', WHERE WHAT IT READS IS OF BULK AT MOST 1048576: true; the input reads as it did. -/
def fnExactCmdCodeUptoRow : OpenClaim := { program := "ytljhekjbdmnmnaa", sum := "4348f6c96055b3d242204f85dac34aef8edcd8225f9f78f274d2573525fb2b97", func := "loop.example/g00398/laws.FnExactCmdCode", spec := "fnExactCmdCode", apart := false, narrowed := true }
def FnExactCmdCodeUptoSaid : Prop := fnExactCmdCodeUptoRow.holds Try.pinned (OpenSpec.upto fnExactCmdCodeSpec)

/-- 'laws.FnCmds', WHERE WHAT IT READS IS OF BULK AT MOST 1048576: true; the input reads as it did. -/
def fnCmdsUptoRow : OpenClaim := { program := "ytljhekjbdmnmnaa", sum := "4348f6c96055b3d242204f85dac34aef8edcd8225f9f78f274d2573525fb2b97", func := "loop.example/g00398/laws.FnCmds", spec := "fnCmds", apart := false, narrowed := true }
def FnCmdsUptoSaid : Prop := fnCmdsUptoRow.holds Try.pinned (OpenSpec.upto fnCmdsSpec)

end Rows
end Go.Proofs.Ytljhekjbdmnmnaa
