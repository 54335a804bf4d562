/-
  NARROWER THAN 'FOR EVERY INPUT', by the rows' own cells (each row's printed sentence says how): PrimWords: laid · PrimTells: laid.
  DERIVED. THE GIVEN ROWS OF THIS SEAT. 2 by the template 'for every input the law returns true; each argument reads behind the call as it read before'; 0 by the template 'total and deterministic' (their statements: YthoilhonhjemmaaDoorTotals.lean).
  GIVEN WITH THE SEED: the statements are not yours to turn. If you find one false, say at which input.
  Laid BY PROGRAM, IN A SANDBOX (cutbox-rows.mjs): the forced cells as the released guide's own fill.sh prints them over the translation 624d152d3a025f00… (all of the seat's roots in one cut). By AI agents, Wed Nov 11 2026. No macro, syntax, notation, axiom, sorry.
-/
import Derived.Test.YthoilhonhjemmaaDoorChecked
import GoSem.Claim
import GoSem.ClaimJoined
import GoSem.ClaimMapViews
import Derived.JoinedTies
import Derived.KernelRfl
namespace Go.Proofs.YthoilhonhjemmaaDoor
/- THE CELL 'sum', in the pinned program and in every row, IS THE sha256 OF THE DUMP (.gsa) THAT YthoilhonhjemmaaDoorProg.lean LOADS. Nothing in Lean hashes anything: it is a label: what it is worth is what the hold of that sum in a sandbox is worth. -/
noncomputable def Tryd.pinned : Pinned := { name := "ythoilhonhjemmaadoor", sum := "624d152d3a025f00f5f0dc8145f616b3d06e94d1b824d3faffbfb0fa0a7897ec", checked := Tryd.checked }
namespace Rows
def none {H : Type} : Left H := { results := [], args := [] }

/- WHAT THE LISTED PACKAGE-LEVEL VARIABLES READ AS WHEN THE CALL BEGINS. Each datum BY PROGRAM (the guide's laid-datum.mjs) off the statement by which the dump's own 'gosem.cut.vars' lays the variable. In a bare row this is a premise. The card (YthoilhonhjemmaaDoorCards.lean) ties it to the program's text. -/
def laid_gradine_prim_words {H : Type} : DataW H := .agg [.lit (.string []), .lit (.string [110, 101, 103]), .lit (.string [114, 101, 99, 105, 112]), .lit (.string [115, 113, 117, 97, 114, 101]), .lit (.string [97, 98, 115]), .lit (.string [115, 105, 103, 110]), .lit (.string [114, 101, 108, 117]), .lit (.string [101, 120, 112]), .lit (.string [108, 111, 103]), .lit (.string [115, 113, 114, 116]), .lit (.string [115, 105, 103, 109, 111, 105, 100]), .lit (.string [116, 97, 110, 104]), .lit (.string [112, 111, 119, 101, 114]), .lit (.string [115, 99, 97, 108, 101]), .lit (.string [115, 104, 105, 102, 116]), .lit (.string [99, 108, 97, 109, 112]), .lit (.string [108, 101, 97, 107, 121]), .lit (.string [97, 100, 100]), .lit (.string [115, 117, 98]), .lit (.string [109, 117, 108]), .lit (.string [100, 105, 118]), .lit (.string [108, 97, 114, 103, 101, 114]), .lit (.string [108, 101, 115, 115, 101, 114]), .lit (.string [108, 101, 115, 115]), .lit (.string [119, 104, 101, 114, 101]), .lit (.string [109, 117, 108, 97, 100, 100]), .lit (.string [109, 105, 120]), .lit (.string [115, 117, 109]), .lit (.string [109, 101, 97, 110]), .lit (.string [109, 97, 120, 111, 102]), .lit (.string [109, 105, 110, 111, 102]), .lit (.string [97, 114, 103, 109, 97, 120]), .lit (.string [109, 97, 116, 109, 117, 108]), .lit (.string [114, 101, 115, 104, 97, 112, 101]), .lit (.string [112, 101, 114, 109, 117, 116, 101]), .lit (.string [115, 108, 105, 99, 101]), .lit (.string [101, 120, 112, 97, 110, 100]), .lit (.string [102, 108, 105, 112]), .lit (.string [116, 97, 107, 101]), .lit (.string [112, 117, 116]), .lit (.string [106, 111, 105, 110])]

/-- 'gradinelaw30.PrimWords': WHATEVER THE INPUT: true; the input reads as it did. -/
def primWordsSpec : ChangeSpec := { name := "primWords", fn := fun _ => fun
  | [d1, d2] => { results := [.lit (.bool true)], args := [d1, d2] }
  | _ => none }
def primWordsRow : OpenClaim := { program := "ythoilhonhjemmaadoor", sum := "624d152d3a025f00f5f0dc8145f616b3d06e94d1b824d3faffbfb0fa0a7897ec", func := "gradine/gradinelaw30.PrimWords", spec := "primWords", named := ["gradine/prim.words"], apart := false, laid := [("gradine/prim.words", laid_gradine_prim_words)] }
def PrimWordsSaid : Prop := primWordsRow.holds Tryd.pinned (OpenSpec.ofChange primWordsSpec)

/-- ITS FALSE NEIGHBOUR: 'it returns false'. Refute it at one input. -/
def primWordsWrong : ChangeSpec := { name := "primWords", fn := fun _ => fun
  | [d1, d2] => { results := [.lit (.bool false)], args := [d1, d2] }
  | _ => none }
def PrimWordsWrongFalsely : Prop := primWordsRow.holds Tryd.pinned (OpenSpec.ofChange primWordsWrong)

/-- 'gradinelaw30.PrimTells': WHATEVER THE INPUT: true; the input reads as it did. -/
def primTellsSpec : ChangeSpec := { name := "primTells", fn := fun _ => fun
  | [d1, d2, d3] => { results := [.lit (.bool true)], args := [d1, d2, d3] }
  | _ => none }
def primTellsRow : OpenClaim := { program := "ythoilhonhjemmaadoor", sum := "624d152d3a025f00f5f0dc8145f616b3d06e94d1b824d3faffbfb0fa0a7897ec", func := "gradine/gradinelaw30.PrimTells", spec := "primTells", named := ["gradine/prim.words"], apart := false, laid := [("gradine/prim.words", laid_gradine_prim_words)] }
def PrimTellsSaid : Prop := primTellsRow.holds Tryd.pinned (OpenSpec.ofChange primTellsSpec)

/-- ITS FALSE NEIGHBOUR: 'it returns false'. Refute it at one input. -/
def primTellsWrong : ChangeSpec := { name := "primTells", fn := fun _ => fun
  | [d1, d2, d3] => { results := [.lit (.bool false)], args := [d1, d2, d3] }
  | _ => none }
def PrimTellsWrongFalsely : Prop := primTellsRow.holds Tryd.pinned (OpenSpec.ofChange primTellsWrong)

/- THE SECOND FORM. 'bulk': how many values and letters a reading holds, each counted each time it is reached (what is shared counts as often as it is met; a slice's spare places count too). A statement '..UptoSaid' is the law's where the arguments, and the package variables that the reading takes, are together of bulk at most 1048576: NARROWER than '..Said'. Prove '..Said' where nothing that the law and all that it calls make is longer than what came in: it says more and counts as full. Else prove '..UptoSaid'. A law counts once. -/
mutual
def uptoBulk {H : Type} : DataW H → Nat
  | .lit (.string bytes) => bytes.length + 1
  | .lit _ => 1
  | .nil => 1
  | .ptr d => uptoBulk d + 1
  | .slice elems spare => uptoBulkAll elems + uptoBulkAll spare + 1
  | .agg parts => uptoBulkAll parts + 1
  | .iface _ d => uptoBulk d + 1
  | .map entries => uptoBulkEntries entries + 1
  | .held _ => 1
def uptoBulkAll {H : Type} : List (DataW H) → Nat
  | [] => 0
  | d :: r => uptoBulk d + uptoBulkAll r
def uptoBulkEntries {H : Type} : List (Lit × DataW H) → Nat
  | [] => 0
  | x :: r => uptoBulkEntry x + uptoBulkEntries r
def uptoBulkEntry {H : Type} : Lit × DataW H → Nat
  | (.string bytes, d) => bytes.length + uptoBulk d + 1
  | (_, d) => uptoBulk d + 1
 end
def uptoSmall : (H : Type) → List (DataW H) → Bool := fun _ ds => decide (uptoBulkAll ds ≤ 1048576)
def OpenSpec.upto (s : _root_.Go.ChangeSpec) : _root_.Go.OpenSpec := { _root_.Go.OpenSpec.ofChange s with cond := some uptoSmall }

/-- 'gradinelaw30.PrimWords', WHERE WHAT IT READS IS OF BULK AT MOST 1048576: true; the input reads as it did. -/
def primWordsUptoRow : OpenClaim := { program := "ythoilhonhjemmaadoor", sum := "624d152d3a025f00f5f0dc8145f616b3d06e94d1b824d3faffbfb0fa0a7897ec", func := "gradine/gradinelaw30.PrimWords", spec := "primWords", named := ["gradine/prim.words"], apart := false, laid := [("gradine/prim.words", laid_gradine_prim_words)], narrowed := true }
def PrimWordsUptoSaid : Prop := primWordsUptoRow.holds Tryd.pinned (OpenSpec.upto primWordsSpec)

/-- 'gradinelaw30.PrimTells', WHERE WHAT IT READS IS OF BULK AT MOST 1048576: true; the input reads as it did. -/
def primTellsUptoRow : OpenClaim := { program := "ythoilhonhjemmaadoor", sum := "624d152d3a025f00f5f0dc8145f616b3d06e94d1b824d3faffbfb0fa0a7897ec", func := "gradine/gradinelaw30.PrimTells", spec := "primTells", named := ["gradine/prim.words"], apart := false, laid := [("gradine/prim.words", laid_gradine_prim_words)], narrowed := true }
def PrimTellsUptoSaid : Prop := primTellsUptoRow.holds Tryd.pinned (OpenSpec.upto primTellsSpec)

end Rows
end Go.Proofs.YthoilhonhjemmaaDoor
