/-
  No cell of these rows narrows 'for every input' (looked for: loops, veiled, ifaces, maps, wideKeys, modest, calm, conditions, laid).
  DERIVED. THE GIVEN ROWS OF THIS SEAT. 5 by the template 'for every input the law returns true; each argument reads behind the call as it read before'; 0 by the template 'total and deterministic' (their statements: YtjbpekblcecneaaTotals.lean).
  GIVEN WITH THE SEED: the statements are not yours to turn. If you find one false, say at which input.
  Laid BY PROGRAM, IN A SANDBOX (cutbox-rows.mjs): the forced cells as the released guide's own fill.sh prints them over the translation b59434aeb1bc63a2… (all of the seat's roots in one cut). By AI agents, Wed Nov 11 2026. No macro, syntax, notation, axiom, sorry.
-/
import Derived.Test.YtjbpekblcecneaaChecked
import GoSem.Claim
import GoSem.ClaimJoined
import GoSem.ClaimMapViews
import Derived.JoinedTies
import Derived.KernelRfl
namespace Go.Proofs.Ytjbpekblcecneaa
/- THE CELL 'sum', in the pinned program and in every row, IS THE sha256 OF THE DUMP (.gsa) THAT YtjbpekblcecneaaProg.lean LOADS. Nothing in Lean hashes anything: it is a label: what it is worth is what the hold of that sum in a sandbox is worth. -/
noncomputable def Try.pinned : Pinned := { name := "ytjbpekblcecneaa", sum := "b59434aeb1bc63a287a4b409f930c7eedb3f1d18ccd769b76c184b8c0eca3952", checked := Try.checked }
namespace Rows
def none {H : Type} : Left H := { results := [], args := [] }

/-- 'gradinelaw22.ViewTells': WHATEVER THE INPUT: true; the input reads as it did. -/
def viewTellsSpec : ChangeSpec := { name := "viewTells", fn := fun _ => fun
  | [d1, d2, d3] => { results := [.lit (.bool true)], args := [d1, d2, d3] }
  | _ => none }
def viewTellsRow : OpenClaim := { program := "ytjbpekblcecneaa", sum := "b59434aeb1bc63a287a4b409f930c7eedb3f1d18ccd769b76c184b8c0eca3952", func := "gradine/gradinelaw22.ViewTells", spec := "viewTells", apart := false }
def ViewTellsSaid : Prop := viewTellsRow.holds Try.pinned (OpenSpec.ofChange viewTellsSpec)

/-- ITS FALSE NEIGHBOUR: 'it returns false'. Refute it at one input. -/
def viewTellsWrong : ChangeSpec := { name := "viewTells", fn := fun _ => fun
  | [d1, d2, d3] => { results := [.lit (.bool false)], args := [d1, d2, d3] }
  | _ => none }
def ViewTellsWrongFalsely : Prop := viewTellsRow.holds Try.pinned (OpenSpec.ofChange viewTellsWrong)

/-- 'gradinelaw22.ViewTwice': WHATEVER THE INPUT: true; the input reads as it did. -/
def viewTwiceSpec : ChangeSpec := { name := "viewTwice", fn := fun _ => fun
  | [d1, d2, d3] => { results := [.lit (.bool true)], args := [d1, d2, d3] }
  | _ => none }
def viewTwiceRow : OpenClaim := { program := "ytjbpekblcecneaa", sum := "b59434aeb1bc63a287a4b409f930c7eedb3f1d18ccd769b76c184b8c0eca3952", func := "gradine/gradinelaw22.ViewTwice", spec := "viewTwice", apart := false }
def ViewTwiceSaid : Prop := viewTwiceRow.holds Try.pinned (OpenSpec.ofChange viewTwiceSpec)

/-- ITS FALSE NEIGHBOUR: 'it returns false'. Refute it at one input. -/
def viewTwiceWrong : ChangeSpec := { name := "viewTwice", fn := fun _ => fun
  | [d1, d2, d3] => { results := [.lit (.bool false)], args := [d1, d2, d3] }
  | _ => none }
def ViewTwiceWrongFalsely : Prop := viewTwiceRow.holds Try.pinned (OpenSpec.ofChange viewTwiceWrong)

/-- 'gradinelaw22.ViewViews': WHATEVER THE INPUT: true; the input reads as it did. -/
def viewViewsSpec : ChangeSpec := { name := "viewViews", fn := fun _ => fun
  | [d1, d2, d3] => { results := [.lit (.bool true)], args := [d1, d2, d3] }
  | _ => none }
def viewViewsRow : OpenClaim := { program := "ytjbpekblcecneaa", sum := "b59434aeb1bc63a287a4b409f930c7eedb3f1d18ccd769b76c184b8c0eca3952", func := "gradine/gradinelaw22.ViewViews", spec := "viewViews", apart := false }
def ViewViewsSaid : Prop := viewViewsRow.holds Try.pinned (OpenSpec.ofChange viewViewsSpec)

/-- ITS FALSE NEIGHBOUR: 'it returns false'. Refute it at one input. -/
def viewViewsWrong : ChangeSpec := { name := "viewViews", fn := fun _ => fun
  | [d1, d2, d3] => { results := [.lit (.bool false)], args := [d1, d2, d3] }
  | _ => none }
def ViewViewsWrongFalsely : Prop := viewViewsRow.holds Try.pinned (OpenSpec.ofChange viewViewsWrong)

/-- 'gradinelaw23.CellsTells': WHATEVER THE INPUT: true; the input reads as it did. -/
def cellsTellsSpec : ChangeSpec := { name := "cellsTells", fn := fun _ => fun
  | [d1, d2, d3] => { results := [.lit (.bool true)], args := [d1, d2, d3] }
  | _ => none }
def cellsTellsRow : OpenClaim := { program := "ytjbpekblcecneaa", sum := "b59434aeb1bc63a287a4b409f930c7eedb3f1d18ccd769b76c184b8c0eca3952", func := "gradine/gradinelaw23.CellsTells", spec := "cellsTells", apart := false }
def CellsTellsSaid : Prop := cellsTellsRow.holds Try.pinned (OpenSpec.ofChange cellsTellsSpec)

/-- ITS FALSE NEIGHBOUR: 'it returns false'. Refute it at one input. -/
def cellsTellsWrong : ChangeSpec := { name := "cellsTells", fn := fun _ => fun
  | [d1, d2, d3] => { results := [.lit (.bool false)], args := [d1, d2, d3] }
  | _ => none }
def CellsTellsWrongFalsely : Prop := cellsTellsRow.holds Try.pinned (OpenSpec.ofChange cellsTellsWrong)

/-- 'gradinelaw23.CellsSame': WHATEVER THE INPUT: true; the input reads as it did. -/
def cellsSameSpec : ChangeSpec := { name := "cellsSame", fn := fun _ => fun
  | [d1, d2, d3] => { results := [.lit (.bool true)], args := [d1, d2, d3] }
  | _ => none }
def cellsSameRow : OpenClaim := { program := "ytjbpekblcecneaa", sum := "b59434aeb1bc63a287a4b409f930c7eedb3f1d18ccd769b76c184b8c0eca3952", func := "gradine/gradinelaw23.CellsSame", spec := "cellsSame", apart := false }
def CellsSameSaid : Prop := cellsSameRow.holds Try.pinned (OpenSpec.ofChange cellsSameSpec)

/-- ITS FALSE NEIGHBOUR: 'it returns false'. Refute it at one input. -/
def cellsSameWrong : ChangeSpec := { name := "cellsSame", fn := fun _ => fun
  | [d1, d2, d3] => { results := [.lit (.bool false)], args := [d1, d2, d3] }
  | _ => none }
def CellsSameWrongFalsely : Prop := cellsSameRow.holds Try.pinned (OpenSpec.ofChange cellsSameWrong)

/- THE SECOND FORM. 'bulk': how many values and letters a reading holds, each counted each time it is reached (what is shared counts as often as it is met; a slice's spare places count too). A statement '..UptoSaid' is the law's where the arguments, and the package variables that the reading takes, are together of bulk at most 1048576: NARROWER than '..Said'. Prove '..Said' where nothing that the law and all that it calls make is longer than what came in: it says more and counts as full. Else prove '..UptoSaid'. A law counts once. -/
mutual
def uptoBulk {H : Type} : DataW H → Nat
  | .lit (.string bytes) => bytes.length + 1
  | .lit _ => 1
  | .nil => 1
  | .ptr d => uptoBulk d + 1
  | .slice elems spare => uptoBulkAll elems + uptoBulkAll spare + 1
  | .agg parts => uptoBulkAll parts + 1
  | .iface _ d => uptoBulk d + 1
  | .map entries => uptoBulkEntries entries + 1
  | .held _ => 1
def uptoBulkAll {H : Type} : List (DataW H) → Nat
  | [] => 0
  | d :: r => uptoBulk d + uptoBulkAll r
def uptoBulkEntries {H : Type} : List (Lit × DataW H) → Nat
  | [] => 0
  | x :: r => uptoBulkEntry x + uptoBulkEntries r
def uptoBulkEntry {H : Type} : Lit × DataW H → Nat
  | (.string bytes, d) => bytes.length + uptoBulk d + 1
  | (_, d) => uptoBulk d + 1
 end
def uptoSmall : (H : Type) → List (DataW H) → Bool := fun _ ds => decide (uptoBulkAll ds ≤ 1048576)
def OpenSpec.upto (s : _root_.Go.ChangeSpec) : _root_.Go.OpenSpec := { _root_.Go.OpenSpec.ofChange s with cond := some uptoSmall }

/-- 'gradinelaw22.ViewTells', WHERE WHAT IT READS IS OF BULK AT MOST 1048576: true; the input reads as it did. -/
def viewTellsUptoRow : OpenClaim := { program := "ytjbpekblcecneaa", sum := "b59434aeb1bc63a287a4b409f930c7eedb3f1d18ccd769b76c184b8c0eca3952", func := "gradine/gradinelaw22.ViewTells", spec := "viewTells", apart := false, narrowed := true }
def ViewTellsUptoSaid : Prop := viewTellsUptoRow.holds Try.pinned (OpenSpec.upto viewTellsSpec)

/-- 'gradinelaw22.ViewTwice', WHERE WHAT IT READS IS OF BULK AT MOST 1048576: true; the input reads as it did. -/
def viewTwiceUptoRow : OpenClaim := { program := "ytjbpekblcecneaa", sum := "b59434aeb1bc63a287a4b409f930c7eedb3f1d18ccd769b76c184b8c0eca3952", func := "gradine/gradinelaw22.ViewTwice", spec := "viewTwice", apart := false, narrowed := true }
def ViewTwiceUptoSaid : Prop := viewTwiceUptoRow.holds Try.pinned (OpenSpec.upto viewTwiceSpec)

/-- 'gradinelaw22.ViewViews', WHERE WHAT IT READS IS OF BULK AT MOST 1048576: true; the input reads as it did. -/
def viewViewsUptoRow : OpenClaim := { program := "ytjbpekblcecneaa", sum := "b59434aeb1bc63a287a4b409f930c7eedb3f1d18ccd769b76c184b8c0eca3952", func := "gradine/gradinelaw22.ViewViews", spec := "viewViews", apart := false, narrowed := true }
def ViewViewsUptoSaid : Prop := viewViewsUptoRow.holds Try.pinned (OpenSpec.upto viewViewsSpec)

/-- 'gradinelaw23.CellsTells', WHERE WHAT IT READS IS OF BULK AT MOST 1048576: true; the input reads as it did. -/
def cellsTellsUptoRow : OpenClaim := { program := "ytjbpekblcecneaa", sum := "b59434aeb1bc63a287a4b409f930c7eedb3f1d18ccd769b76c184b8c0eca3952", func := "gradine/gradinelaw23.CellsTells", spec := "cellsTells", apart := false, narrowed := true }
def CellsTellsUptoSaid : Prop := cellsTellsUptoRow.holds Try.pinned (OpenSpec.upto cellsTellsSpec)

/-- 'gradinelaw23.CellsSame', WHERE WHAT IT READS IS OF BULK AT MOST 1048576: true; the input reads as it did. -/
def cellsSameUptoRow : OpenClaim := { program := "ytjbpekblcecneaa", sum := "b59434aeb1bc63a287a4b409f930c7eedb3f1d18ccd769b76c184b8c0eca3952", func := "gradine/gradinelaw23.CellsSame", spec := "cellsSame", apart := false, narrowed := true }
def CellsSameUptoSaid : Prop := cellsSameUptoRow.holds Try.pinned (OpenSpec.upto cellsSameSpec)

end Rows
end Go.Proofs.Ytjbpekblcecneaa
