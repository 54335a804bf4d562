/-
  No cell of these rows narrows 'for every input' (looked for: loops, veiled, ifaces, maps, wideKeys, modest, calm, conditions, laid).
  DERIVED. THE GIVEN ROWS OF THIS SEAT. 5 by the template 'for every input the law returns true; each argument reads behind the call as it read before'; 0 by the template 'total and deterministic' (their statements: YtcdiobcldhiemaaTotals.lean).
  GIVEN WITH THE SEED: the statements are not yours to turn. If you find one false, say at which input.
  Laid BY PROGRAM, IN A SANDBOX (cutbox-rows.mjs): the forced cells as the released guide's own fill.sh prints them over the translation 328e5e2681a05190… (all of the seat's roots in one cut). By AI agents, Wed Nov 11 2026. No macro, syntax, notation, axiom, sorry.
-/
import Derived.Test.YtcdiobcldhiemaaChecked
import GoSem.Claim
import GoSem.ClaimJoined
import GoSem.ClaimMapViews
import Derived.JoinedTies
import Derived.KernelRfl
namespace Go.Proofs.Ytcdiobcldhiemaa
/- THE CELL 'sum', in the pinned program and in every row, IS THE sha256 OF THE DUMP (.gsa) THAT YtcdiobcldhiemaaProg.lean LOADS. Nothing in Lean hashes anything: it is a label: what it is worth is what the hold of that sum in a sandbox is worth. -/
noncomputable def Try.pinned : Pinned := { name := "ytcdiobcldhiemaa", sum := "328e5e2681a05190e803da217fadebd7e52cc75dd59b13b2ef7044b21f678364", checked := Try.checked }
namespace Rows
def none {H : Type} : Left H := { results := [], args := [] }

/-- 'gradinelaw29.MoveDims': WHATEVER THE INPUT: true; the input reads as it did. -/
def moveDimsSpec : ChangeSpec := { name := "moveDims", fn := fun _ => fun
  | [d1, d2, d3] => { results := [.lit (.bool true)], args := [d1, d2, d3] }
  | _ => none }
def moveDimsRow : OpenClaim := { program := "ytcdiobcldhiemaa", sum := "328e5e2681a05190e803da217fadebd7e52cc75dd59b13b2ef7044b21f678364", func := "gradine/gradinelaw29.MoveDims", spec := "moveDims", apart := false }
def MoveDimsSaid : Prop := moveDimsRow.holds Try.pinned (OpenSpec.ofChange moveDimsSpec)

/-- ITS FALSE NEIGHBOUR: 'it returns false'. Refute it at one input. -/
def moveDimsWrong : ChangeSpec := { name := "moveDims", fn := fun _ => fun
  | [d1, d2, d3] => { results := [.lit (.bool false)], args := [d1, d2, d3] }
  | _ => none }
def MoveDimsWrongFalsely : Prop := moveDimsRow.holds Try.pinned (OpenSpec.ofChange moveDimsWrong)

/-- 'gradinelaw29.MovePuts': WHATEVER THE INPUT: true; the input reads as it did. -/
def movePutsSpec : ChangeSpec := { name := "movePuts", fn := fun _ => fun
  | [d1, d2, d3] => { results := [.lit (.bool true)], args := [d1, d2, d3] }
  | _ => none }
def movePutsRow : OpenClaim := { program := "ytcdiobcldhiemaa", sum := "328e5e2681a05190e803da217fadebd7e52cc75dd59b13b2ef7044b21f678364", func := "gradine/gradinelaw29.MovePuts", spec := "movePuts", apart := false }
def MovePutsSaid : Prop := movePutsRow.holds Try.pinned (OpenSpec.ofChange movePutsSpec)

/-- ITS FALSE NEIGHBOUR: 'it returns false'. Refute it at one input. -/
def movePutsWrong : ChangeSpec := { name := "movePuts", fn := fun _ => fun
  | [d1, d2, d3] => { results := [.lit (.bool false)], args := [d1, d2, d3] }
  | _ => none }
def MovePutsWrongFalsely : Prop := movePutsRow.holds Try.pinned (OpenSpec.ofChange movePutsWrong)

/-- 'gradinelaw29.MoveViews': WHATEVER THE INPUT: true; the input reads as it did. -/
def moveViewsSpec : ChangeSpec := { name := "moveViews", fn := fun _ => fun
  | [d1, d2, d3] => { results := [.lit (.bool true)], args := [d1, d2, d3] }
  | _ => none }
def moveViewsRow : OpenClaim := { program := "ytcdiobcldhiemaa", sum := "328e5e2681a05190e803da217fadebd7e52cc75dd59b13b2ef7044b21f678364", func := "gradine/gradinelaw29.MoveViews", spec := "moveViews", apart := false }
def MoveViewsSaid : Prop := moveViewsRow.holds Try.pinned (OpenSpec.ofChange moveViewsSpec)

/-- ITS FALSE NEIGHBOUR: 'it returns false'. Refute it at one input. -/
def moveViewsWrong : ChangeSpec := { name := "moveViews", fn := fun _ => fun
  | [d1, d2, d3] => { results := [.lit (.bool false)], args := [d1, d2, d3] }
  | _ => none }
def MoveViewsWrongFalsely : Prop := moveViewsRow.holds Try.pinned (OpenSpec.ofChange moveViewsWrong)

/-- 'gradinelaw31.InferDims': WHATEVER THE INPUT: true; the input reads as it did. -/
def inferDimsSpec : ChangeSpec := { name := "inferDims", fn := fun _ => fun
  | [d1, d2, d3] => { results := [.lit (.bool true)], args := [d1, d2, d3] }
  | _ => none }
def inferDimsRow : OpenClaim := { program := "ytcdiobcldhiemaa", sum := "328e5e2681a05190e803da217fadebd7e52cc75dd59b13b2ef7044b21f678364", func := "gradine/gradinelaw31.InferDims", spec := "inferDims", apart := false }
def InferDimsSaid : Prop := inferDimsRow.holds Try.pinned (OpenSpec.ofChange inferDimsSpec)

/-- ITS FALSE NEIGHBOUR: 'it returns false'. Refute it at one input. -/
def inferDimsWrong : ChangeSpec := { name := "inferDims", fn := fun _ => fun
  | [d1, d2, d3] => { results := [.lit (.bool false)], args := [d1, d2, d3] }
  | _ => none }
def InferDimsWrongFalsely : Prop := inferDimsRow.holds Try.pinned (OpenSpec.ofChange inferDimsWrong)

/-- 'gradinelaw31.InferRight': WHATEVER THE INPUT: true; the input reads as it did. -/
def inferRightSpec : ChangeSpec := { name := "inferRight", fn := fun _ => fun
  | [d1, d2, d3] => { results := [.lit (.bool true)], args := [d1, d2, d3] }
  | _ => none }
def inferRightRow : OpenClaim := { program := "ytcdiobcldhiemaa", sum := "328e5e2681a05190e803da217fadebd7e52cc75dd59b13b2ef7044b21f678364", func := "gradine/gradinelaw31.InferRight", spec := "inferRight", apart := false }
def InferRightSaid : Prop := inferRightRow.holds Try.pinned (OpenSpec.ofChange inferRightSpec)

/-- ITS FALSE NEIGHBOUR: 'it returns false'. Refute it at one input. -/
def inferRightWrong : ChangeSpec := { name := "inferRight", fn := fun _ => fun
  | [d1, d2, d3] => { results := [.lit (.bool false)], args := [d1, d2, d3] }
  | _ => none }
def InferRightWrongFalsely : Prop := inferRightRow.holds Try.pinned (OpenSpec.ofChange inferRightWrong)

/- THE SECOND FORM. 'bulk': how many values and letters a reading holds, each counted each time it is reached (what is shared counts as often as it is met; a slice's spare places count too). A statement '..UptoSaid' is the law's where the arguments, and the package variables that the reading takes, are together of bulk at most 1048576: NARROWER than '..Said'. Prove '..Said' where nothing that the law and all that it calls make is longer than what came in: it says more and counts as full. Else prove '..UptoSaid'. A law counts once. -/
mutual
def uptoBulk {H : Type} : DataW H → Nat
  | .lit (.string bytes) => bytes.length + 1
  | .lit _ => 1
  | .nil => 1
  | .ptr d => uptoBulk d + 1
  | .slice elems spare => uptoBulkAll elems + uptoBulkAll spare + 1
  | .agg parts => uptoBulkAll parts + 1
  | .iface _ d => uptoBulk d + 1
  | .map entries => uptoBulkEntries entries + 1
  | .held _ => 1
def uptoBulkAll {H : Type} : List (DataW H) → Nat
  | [] => 0
  | d :: r => uptoBulk d + uptoBulkAll r
def uptoBulkEntries {H : Type} : List (Lit × DataW H) → Nat
  | [] => 0
  | x :: r => uptoBulkEntry x + uptoBulkEntries r
def uptoBulkEntry {H : Type} : Lit × DataW H → Nat
  | (.string bytes, d) => bytes.length + uptoBulk d + 1
  | (_, d) => uptoBulk d + 1
 end
def uptoSmall : (H : Type) → List (DataW H) → Bool := fun _ ds => decide (uptoBulkAll ds ≤ 1048576)
def OpenSpec.upto (s : _root_.Go.ChangeSpec) : _root_.Go.OpenSpec := { _root_.Go.OpenSpec.ofChange s with cond := some uptoSmall }

/-- 'gradinelaw29.MoveDims', WHERE WHAT IT READS IS OF BULK AT MOST 1048576: true; the input reads as it did. -/
def moveDimsUptoRow : OpenClaim := { program := "ytcdiobcldhiemaa", sum := "328e5e2681a05190e803da217fadebd7e52cc75dd59b13b2ef7044b21f678364", func := "gradine/gradinelaw29.MoveDims", spec := "moveDims", apart := false, narrowed := true }
def MoveDimsUptoSaid : Prop := moveDimsUptoRow.holds Try.pinned (OpenSpec.upto moveDimsSpec)

/-- 'gradinelaw29.MovePuts', WHERE WHAT IT READS IS OF BULK AT MOST 1048576: true; the input reads as it did. -/
def movePutsUptoRow : OpenClaim := { program := "ytcdiobcldhiemaa", sum := "328e5e2681a05190e803da217fadebd7e52cc75dd59b13b2ef7044b21f678364", func := "gradine/gradinelaw29.MovePuts", spec := "movePuts", apart := false, narrowed := true }
def MovePutsUptoSaid : Prop := movePutsUptoRow.holds Try.pinned (OpenSpec.upto movePutsSpec)

/-- 'gradinelaw29.MoveViews', WHERE WHAT IT READS IS OF BULK AT MOST 1048576: true; the input reads as it did. -/
def moveViewsUptoRow : OpenClaim := { program := "ytcdiobcldhiemaa", sum := "328e5e2681a05190e803da217fadebd7e52cc75dd59b13b2ef7044b21f678364", func := "gradine/gradinelaw29.MoveViews", spec := "moveViews", apart := false, narrowed := true }
def MoveViewsUptoSaid : Prop := moveViewsUptoRow.holds Try.pinned (OpenSpec.upto moveViewsSpec)

/-- 'gradinelaw31.InferDims', WHERE WHAT IT READS IS OF BULK AT MOST 1048576: true; the input reads as it did. -/
def inferDimsUptoRow : OpenClaim := { program := "ytcdiobcldhiemaa", sum := "328e5e2681a05190e803da217fadebd7e52cc75dd59b13b2ef7044b21f678364", func := "gradine/gradinelaw31.InferDims", spec := "inferDims", apart := false, narrowed := true }
def InferDimsUptoSaid : Prop := inferDimsUptoRow.holds Try.pinned (OpenSpec.upto inferDimsSpec)

/-- 'gradinelaw31.InferRight', WHERE WHAT IT READS IS OF BULK AT MOST 1048576: true; the input reads as it did. -/
def inferRightUptoRow : OpenClaim := { program := "ytcdiobcldhiemaa", sum := "328e5e2681a05190e803da217fadebd7e52cc75dd59b13b2ef7044b21f678364", func := "gradine/gradinelaw31.InferRight", spec := "inferRight", apart := false, narrowed := true }
def InferRightUptoSaid : Prop := inferRightUptoRow.holds Try.pinned (OpenSpec.upto inferRightSpec)

end Rows
end Go.Proofs.Ytcdiobcldhiemaa
