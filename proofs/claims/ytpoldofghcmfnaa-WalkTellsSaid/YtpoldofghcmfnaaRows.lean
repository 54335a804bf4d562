/-
  No cell of these rows narrows 'for every input' (looked for: loops, veiled, ifaces, maps, wideKeys, modest, calm, conditions, laid).
  DERIVED. THE GIVEN ROWS OF THIS SEAT. 10 by the template 'for every input the law returns true; each argument reads behind the call as it read before'; 0 by the template 'total and deterministic' (their statements: YtpoldofghcmfnaaTotals.lean).
  GIVEN WITH THE SEED: the statements are not yours to turn. If you find one false, say at which input.
  Laid BY PROGRAM, IN A SANDBOX (cutbox-rows.mjs): the forced cells as the released guide's own fill.sh prints them over the translation 9b797b4819a58771… (all of the seat's roots in one cut). By AI agents, Wed Nov 11 2026. No macro, syntax, notation, axiom, sorry.
-/
import Derived.Test.YtpoldofghcmfnaaChecked
import GoSem.Claim
import GoSem.ClaimJoined
import GoSem.ClaimMapViews
import Derived.JoinedTies
import Derived.KernelRfl
namespace Go.Proofs.Ytpoldofghcmfnaa
/- THE CELL 'sum', in the pinned program and in every row, IS THE sha256 OF THE DUMP (.gsa) THAT YtpoldofghcmfnaaProg.lean LOADS. Nothing in Lean hashes anything: it is a label: what it is worth is what the hold of that sum in a sandbox is worth. -/
noncomputable def Try.pinned : Pinned := { name := "ytpoldofghcmfnaa", sum := "9b797b4819a5877129ab4b64b0831deee8a8137af1337a1a5fba1f0c45b4b75d", checked := Try.checked }
namespace Rows
def none {H : Type} : Left H := { results := [], args := [] }

/-- 'gradinelaw19.ShapeWith': WHATEVER THE INPUT: true; the input reads as it did. -/
def shapeWithSpec : ChangeSpec := { name := "shapeWith", fn := fun _ => fun
  | [d1, d2, d3] => { results := [.lit (.bool true)], args := [d1, d2, d3] }
  | _ => none }
def shapeWithRow : OpenClaim := { program := "ytpoldofghcmfnaa", sum := "9b797b4819a5877129ab4b64b0831deee8a8137af1337a1a5fba1f0c45b4b75d", func := "gradine/gradinelaw19.ShapeWith", spec := "shapeWith", apart := false }
def ShapeWithSaid : Prop := shapeWithRow.holds Try.pinned (OpenSpec.ofChange shapeWithSpec)

/-- ITS FALSE NEIGHBOUR: 'it returns false'. Refute it at one input. -/
def shapeWithWrong : ChangeSpec := { name := "shapeWith", fn := fun _ => fun
  | [d1, d2, d3] => { results := [.lit (.bool false)], args := [d1, d2, d3] }
  | _ => none }
def ShapeWithWrongFalsely : Prop := shapeWithRow.holds Try.pinned (OpenSpec.ofChange shapeWithWrong)

/-- 'gradinelaw19.ShapeDrops': WHATEVER THE INPUT: true; the input reads as it did. -/
def shapeDropsSpec : ChangeSpec := { name := "shapeDrops", fn := fun _ => fun
  | [d1, d2, d3] => { results := [.lit (.bool true)], args := [d1, d2, d3] }
  | _ => none }
def shapeDropsRow : OpenClaim := { program := "ytpoldofghcmfnaa", sum := "9b797b4819a5877129ab4b64b0831deee8a8137af1337a1a5fba1f0c45b4b75d", func := "gradine/gradinelaw19.ShapeDrops", spec := "shapeDrops", apart := false }
def ShapeDropsSaid : Prop := shapeDropsRow.holds Try.pinned (OpenSpec.ofChange shapeDropsSpec)

/-- ITS FALSE NEIGHBOUR: 'it returns false'. Refute it at one input. -/
def shapeDropsWrong : ChangeSpec := { name := "shapeDrops", fn := fun _ => fun
  | [d1, d2, d3] => { results := [.lit (.bool false)], args := [d1, d2, d3] }
  | _ => none }
def ShapeDropsWrongFalsely : Prop := shapeDropsRow.holds Try.pinned (OpenSpec.ofChange shapeDropsWrong)

/-- 'gradinelaw19.ShapeKeeps': WHATEVER THE INPUT: true; the input reads as it did. -/
def shapeKeepsSpec : ChangeSpec := { name := "shapeKeeps", fn := fun _ => fun
  | [d1, d2] => { results := [.lit (.bool true)], args := [d1, d2] }
  | _ => none }
def shapeKeepsRow : OpenClaim := { program := "ytpoldofghcmfnaa", sum := "9b797b4819a5877129ab4b64b0831deee8a8137af1337a1a5fba1f0c45b4b75d", func := "gradine/gradinelaw19.ShapeKeeps", spec := "shapeKeeps", apart := false }
def ShapeKeepsSaid : Prop := shapeKeepsRow.holds Try.pinned (OpenSpec.ofChange shapeKeepsSpec)

/-- ITS FALSE NEIGHBOUR: 'it returns false'. Refute it at one input. -/
def shapeKeepsWrong : ChangeSpec := { name := "shapeKeeps", fn := fun _ => fun
  | [d1, d2] => { results := [.lit (.bool false)], args := [d1, d2] }
  | _ => none }
def ShapeKeepsWrongFalsely : Prop := shapeKeepsRow.holds Try.pinned (OpenSpec.ofChange shapeKeepsWrong)

/-- 'gradinelaw20.WalkAhead': WHATEVER THE INPUT: true; the input reads as it did. -/
def walkAheadSpec : ChangeSpec := { name := "walkAhead", fn := fun _ => fun
  | [d1, d2] => { results := [.lit (.bool true)], args := [d1, d2] }
  | _ => none }
def walkAheadRow : OpenClaim := { program := "ytpoldofghcmfnaa", sum := "9b797b4819a5877129ab4b64b0831deee8a8137af1337a1a5fba1f0c45b4b75d", func := "gradine/gradinelaw20.WalkAhead", spec := "walkAhead", unfollowed := true, recurses := true, apart := false }
def WalkAheadSaid : Prop := walkAheadRow.holds Try.pinned (OpenSpec.ofChange walkAheadSpec)

/-- ITS FALSE NEIGHBOUR: 'it returns false'. Refute it at one input. -/
def walkAheadWrong : ChangeSpec := { name := "walkAhead", fn := fun _ => fun
  | [d1, d2] => { results := [.lit (.bool false)], args := [d1, d2] }
  | _ => none }
def WalkAheadWrongFalsely : Prop := walkAheadRow.holds Try.pinned (OpenSpec.ofChange walkAheadWrong)

/-- 'gradinelaw20.WalkTells': WHATEVER THE INPUT: true; the input reads as it did. -/
def walkTellsSpec : ChangeSpec := { name := "walkTells", fn := fun _ => fun
  | [d1, d2, d3] => { results := [.lit (.bool true)], args := [d1, d2, d3] }
  | _ => none }
def walkTellsRow : OpenClaim := { program := "ytpoldofghcmfnaa", sum := "9b797b4819a5877129ab4b64b0831deee8a8137af1337a1a5fba1f0c45b4b75d", func := "gradine/gradinelaw20.WalkTells", spec := "walkTells", unfollowed := true, recurses := true, apart := false }
def WalkTellsSaid : Prop := walkTellsRow.holds Try.pinned (OpenSpec.ofChange walkTellsSpec)

/-- ITS FALSE NEIGHBOUR: 'it returns false'. Refute it at one input. -/
def walkTellsWrong : ChangeSpec := { name := "walkTells", fn := fun _ => fun
  | [d1, d2, d3] => { results := [.lit (.bool false)], args := [d1, d2, d3] }
  | _ => none }
def WalkTellsWrongFalsely : Prop := walkTellsRow.holds Try.pinned (OpenSpec.ofChange walkTellsWrong)

/-- 'gradinelaw20.WalkBack': WHATEVER THE INPUT: true; the input reads as it did. -/
def walkBackSpec : ChangeSpec := { name := "walkBack", fn := fun _ => fun
  | [d1, d2, d3] => { results := [.lit (.bool true)], args := [d1, d2, d3] }
  | _ => none }
def walkBackRow : OpenClaim := { program := "ytpoldofghcmfnaa", sum := "9b797b4819a5877129ab4b64b0831deee8a8137af1337a1a5fba1f0c45b4b75d", func := "gradine/gradinelaw20.WalkBack", spec := "walkBack", unfollowed := true, recurses := true, apart := false }
def WalkBackSaid : Prop := walkBackRow.holds Try.pinned (OpenSpec.ofChange walkBackSpec)

/-- ITS FALSE NEIGHBOUR: 'it returns false'. Refute it at one input. -/
def walkBackWrong : ChangeSpec := { name := "walkBack", fn := fun _ => fun
  | [d1, d2, d3] => { results := [.lit (.bool false)], args := [d1, d2, d3] }
  | _ => none }
def WalkBackWrongFalsely : Prop := walkBackRow.holds Try.pinned (OpenSpec.ofChange walkBackWrong)

/-- 'gradinelaw21.SpreadTwo': WHATEVER THE INPUT: true; the input reads as it did. -/
def spreadTwoSpec : ChangeSpec := { name := "spreadTwo", fn := fun _ => fun
  | [d1, d2] => { results := [.lit (.bool true)], args := [d1, d2] }
  | _ => none }
def spreadTwoRow : OpenClaim := { program := "ytpoldofghcmfnaa", sum := "9b797b4819a5877129ab4b64b0831deee8a8137af1337a1a5fba1f0c45b4b75d", func := "gradine/gradinelaw21.SpreadTwo", spec := "spreadTwo", apart := false }
def SpreadTwoSaid : Prop := spreadTwoRow.holds Try.pinned (OpenSpec.ofChange spreadTwoSpec)

/-- ITS FALSE NEIGHBOUR: 'it returns false'. Refute it at one input. -/
def spreadTwoWrong : ChangeSpec := { name := "spreadTwo", fn := fun _ => fun
  | [d1, d2] => { results := [.lit (.bool false)], args := [d1, d2] }
  | _ => none }
def SpreadTwoWrongFalsely : Prop := spreadTwoRow.holds Try.pinned (OpenSpec.ofChange spreadTwoWrong)

/-- 'gradinelaw21.SpreadSources': WHATEVER THE INPUT: true; the input reads as it did. -/
def spreadSourcesSpec : ChangeSpec := { name := "spreadSources", fn := fun _ => fun
  | [d1, d2, d3] => { results := [.lit (.bool true)], args := [d1, d2, d3] }
  | _ => none }
def spreadSourcesRow : OpenClaim := { program := "ytpoldofghcmfnaa", sum := "9b797b4819a5877129ab4b64b0831deee8a8137af1337a1a5fba1f0c45b4b75d", func := "gradine/gradinelaw21.SpreadSources", spec := "spreadSources", apart := false }
def SpreadSourcesSaid : Prop := spreadSourcesRow.holds Try.pinned (OpenSpec.ofChange spreadSourcesSpec)

/-- ITS FALSE NEIGHBOUR: 'it returns false'. Refute it at one input. -/
def spreadSourcesWrong : ChangeSpec := { name := "spreadSources", fn := fun _ => fun
  | [d1, d2, d3] => { results := [.lit (.bool false)], args := [d1, d2, d3] }
  | _ => none }
def SpreadSourcesWrongFalsely : Prop := spreadSourcesRow.holds Try.pinned (OpenSpec.ofChange spreadSourcesWrong)

/-- 'gradinelaw21.SpreadEven': WHATEVER THE INPUT: true; the input reads as it did. -/
def spreadEvenSpec : ChangeSpec := { name := "spreadEven", fn := fun _ => fun
  | [d1, d2, d3] => { results := [.lit (.bool true)], args := [d1, d2, d3] }
  | _ => none }
def spreadEvenRow : OpenClaim := { program := "ytpoldofghcmfnaa", sum := "9b797b4819a5877129ab4b64b0831deee8a8137af1337a1a5fba1f0c45b4b75d", func := "gradine/gradinelaw21.SpreadEven", spec := "spreadEven", apart := false }
def SpreadEvenSaid : Prop := spreadEvenRow.holds Try.pinned (OpenSpec.ofChange spreadEvenSpec)

/-- ITS FALSE NEIGHBOUR: 'it returns false'. Refute it at one input. -/
def spreadEvenWrong : ChangeSpec := { name := "spreadEven", fn := fun _ => fun
  | [d1, d2, d3] => { results := [.lit (.bool false)], args := [d1, d2, d3] }
  | _ => none }
def SpreadEvenWrongFalsely : Prop := spreadEvenRow.holds Try.pinned (OpenSpec.ofChange spreadEvenWrong)

/-- 'gradinelaw21.SpreadMany': WHATEVER THE INPUT: true; the input reads as it did. -/
def spreadManySpec : ChangeSpec := { name := "spreadMany", fn := fun _ => fun
  | [d] => { results := [.lit (.bool true)], args := [d] }
  | _ => none }
def spreadManyRow : OpenClaim := { program := "ytpoldofghcmfnaa", sum := "9b797b4819a5877129ab4b64b0831deee8a8137af1337a1a5fba1f0c45b4b75d", func := "gradine/gradinelaw21.SpreadMany", spec := "spreadMany", apart := false }
def SpreadManySaid : Prop := spreadManyRow.holds Try.pinned (OpenSpec.ofChange spreadManySpec)

/-- ITS FALSE NEIGHBOUR: 'it returns false'. Refute it at one input. -/
def spreadManyWrong : ChangeSpec := { name := "spreadMany", fn := fun _ => fun
  | [d] => { results := [.lit (.bool false)], args := [d] }
  | _ => none }
def SpreadManyWrongFalsely : Prop := spreadManyRow.holds Try.pinned (OpenSpec.ofChange spreadManyWrong)

/- THE SECOND FORM. 'bulk': how many values and letters a reading holds, each counted each time it is reached (what is shared counts as often as it is met; a slice's spare places count too). A statement '..UptoSaid' is the law's where the arguments, and the package variables that the reading takes, are together of bulk at most 1048576: NARROWER than '..Said'. Prove '..Said' where nothing that the law and all that it calls make is longer than what came in: it says more and counts as full. Else prove '..UptoSaid'. A law counts once. -/
mutual
def uptoBulk {H : Type} : DataW H → Nat
  | .lit (.string bytes) => bytes.length + 1
  | .lit _ => 1
  | .nil => 1
  | .ptr d => uptoBulk d + 1
  | .slice elems spare => uptoBulkAll elems + uptoBulkAll spare + 1
  | .agg parts => uptoBulkAll parts + 1
  | .iface _ d => uptoBulk d + 1
  | .map entries => uptoBulkEntries entries + 1
  | .held _ => 1
def uptoBulkAll {H : Type} : List (DataW H) → Nat
  | [] => 0
  | d :: r => uptoBulk d + uptoBulkAll r
def uptoBulkEntries {H : Type} : List (Lit × DataW H) → Nat
  | [] => 0
  | x :: r => uptoBulkEntry x + uptoBulkEntries r
def uptoBulkEntry {H : Type} : Lit × DataW H → Nat
  | (.string bytes, d) => bytes.length + uptoBulk d + 1
  | (_, d) => uptoBulk d + 1
 end
def uptoSmall : (H : Type) → List (DataW H) → Bool := fun _ ds => decide (uptoBulkAll ds ≤ 1048576)
def OpenSpec.upto (s : _root_.Go.ChangeSpec) : _root_.Go.OpenSpec := { _root_.Go.OpenSpec.ofChange s with cond := some uptoSmall }

/-- 'gradinelaw19.ShapeWith', WHERE WHAT IT READS IS OF BULK AT MOST 1048576: true; the input reads as it did. -/
def shapeWithUptoRow : OpenClaim := { program := "ytpoldofghcmfnaa", sum := "9b797b4819a5877129ab4b64b0831deee8a8137af1337a1a5fba1f0c45b4b75d", func := "gradine/gradinelaw19.ShapeWith", spec := "shapeWith", apart := false, narrowed := true }
def ShapeWithUptoSaid : Prop := shapeWithUptoRow.holds Try.pinned (OpenSpec.upto shapeWithSpec)

/-- 'gradinelaw19.ShapeDrops', WHERE WHAT IT READS IS OF BULK AT MOST 1048576: true; the input reads as it did. -/
def shapeDropsUptoRow : OpenClaim := { program := "ytpoldofghcmfnaa", sum := "9b797b4819a5877129ab4b64b0831deee8a8137af1337a1a5fba1f0c45b4b75d", func := "gradine/gradinelaw19.ShapeDrops", spec := "shapeDrops", apart := false, narrowed := true }
def ShapeDropsUptoSaid : Prop := shapeDropsUptoRow.holds Try.pinned (OpenSpec.upto shapeDropsSpec)

/-- 'gradinelaw19.ShapeKeeps', WHERE WHAT IT READS IS OF BULK AT MOST 1048576: true; the input reads as it did. -/
def shapeKeepsUptoRow : OpenClaim := { program := "ytpoldofghcmfnaa", sum := "9b797b4819a5877129ab4b64b0831deee8a8137af1337a1a5fba1f0c45b4b75d", func := "gradine/gradinelaw19.ShapeKeeps", spec := "shapeKeeps", apart := false, narrowed := true }
def ShapeKeepsUptoSaid : Prop := shapeKeepsUptoRow.holds Try.pinned (OpenSpec.upto shapeKeepsSpec)

/-- 'gradinelaw20.WalkAhead', WHERE WHAT IT READS IS OF BULK AT MOST 1048576: true; the input reads as it did. -/
def walkAheadUptoRow : OpenClaim := { program := "ytpoldofghcmfnaa", sum := "9b797b4819a5877129ab4b64b0831deee8a8137af1337a1a5fba1f0c45b4b75d", func := "gradine/gradinelaw20.WalkAhead", spec := "walkAhead", unfollowed := true, recurses := true, apart := false, narrowed := true }
def WalkAheadUptoSaid : Prop := walkAheadUptoRow.holds Try.pinned (OpenSpec.upto walkAheadSpec)

/-- 'gradinelaw20.WalkTells', WHERE WHAT IT READS IS OF BULK AT MOST 1048576: true; the input reads as it did. -/
def walkTellsUptoRow : OpenClaim := { program := "ytpoldofghcmfnaa", sum := "9b797b4819a5877129ab4b64b0831deee8a8137af1337a1a5fba1f0c45b4b75d", func := "gradine/gradinelaw20.WalkTells", spec := "walkTells", unfollowed := true, recurses := true, apart := false, narrowed := true }
def WalkTellsUptoSaid : Prop := walkTellsUptoRow.holds Try.pinned (OpenSpec.upto walkTellsSpec)

/-- 'gradinelaw20.WalkBack', WHERE WHAT IT READS IS OF BULK AT MOST 1048576: true; the input reads as it did. -/
def walkBackUptoRow : OpenClaim := { program := "ytpoldofghcmfnaa", sum := "9b797b4819a5877129ab4b64b0831deee8a8137af1337a1a5fba1f0c45b4b75d", func := "gradine/gradinelaw20.WalkBack", spec := "walkBack", unfollowed := true, recurses := true, apart := false, narrowed := true }
def WalkBackUptoSaid : Prop := walkBackUptoRow.holds Try.pinned (OpenSpec.upto walkBackSpec)

/-- 'gradinelaw21.SpreadTwo', WHERE WHAT IT READS IS OF BULK AT MOST 1048576: true; the input reads as it did. -/
def spreadTwoUptoRow : OpenClaim := { program := "ytpoldofghcmfnaa", sum := "9b797b4819a5877129ab4b64b0831deee8a8137af1337a1a5fba1f0c45b4b75d", func := "gradine/gradinelaw21.SpreadTwo", spec := "spreadTwo", apart := false, narrowed := true }
def SpreadTwoUptoSaid : Prop := spreadTwoUptoRow.holds Try.pinned (OpenSpec.upto spreadTwoSpec)

/-- 'gradinelaw21.SpreadSources', WHERE WHAT IT READS IS OF BULK AT MOST 1048576: true; the input reads as it did. -/
def spreadSourcesUptoRow : OpenClaim := { program := "ytpoldofghcmfnaa", sum := "9b797b4819a5877129ab4b64b0831deee8a8137af1337a1a5fba1f0c45b4b75d", func := "gradine/gradinelaw21.SpreadSources", spec := "spreadSources", apart := false, narrowed := true }
def SpreadSourcesUptoSaid : Prop := spreadSourcesUptoRow.holds Try.pinned (OpenSpec.upto spreadSourcesSpec)

/-- 'gradinelaw21.SpreadEven', WHERE WHAT IT READS IS OF BULK AT MOST 1048576: true; the input reads as it did. -/
def spreadEvenUptoRow : OpenClaim := { program := "ytpoldofghcmfnaa", sum := "9b797b4819a5877129ab4b64b0831deee8a8137af1337a1a5fba1f0c45b4b75d", func := "gradine/gradinelaw21.SpreadEven", spec := "spreadEven", apart := false, narrowed := true }
def SpreadEvenUptoSaid : Prop := spreadEvenUptoRow.holds Try.pinned (OpenSpec.upto spreadEvenSpec)

/-- 'gradinelaw21.SpreadMany', WHERE WHAT IT READS IS OF BULK AT MOST 1048576: true; the input reads as it did. -/
def spreadManyUptoRow : OpenClaim := { program := "ytpoldofghcmfnaa", sum := "9b797b4819a5877129ab4b64b0831deee8a8137af1337a1a5fba1f0c45b4b75d", func := "gradine/gradinelaw21.SpreadMany", spec := "spreadMany", apart := false, narrowed := true }
def SpreadManyUptoSaid : Prop := spreadManyUptoRow.holds Try.pinned (OpenSpec.upto spreadManySpec)

end Rows
end Go.Proofs.Ytpoldofghcmfnaa
