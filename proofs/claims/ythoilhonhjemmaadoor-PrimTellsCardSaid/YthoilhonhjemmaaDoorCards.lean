/-
  DERIVED. GIVEN WITH THE SEED: THE CARDS: each row of YthoilhonhjemmaaDoorRows.lean that lists a variable, with what it lists TIED to the program's text (the seventh form; the later family's looks); each row that meets fmt, with fmt's text TOLD by the authors' own Lean function (tested against real Go, not proved from fmt's source: count such statements apart). THE CARD IS WHAT COUNTS. Prove the row's statement (the work); the ties are given (YthoilhonhjemmaaDoorTie.lean); close each card by the builder's one call (the guide's Derived/Test/ToyasCard.lean, 'card_holds'). Laid BY PROGRAM, IN A SANDBOX (cutbox-door.mjs). By AI agents, Wed Nov 11 2026. No macro, syntax, notation, axiom, sorry.
-/
import Derived.Test.YthoilhonhjemmaaDoorRows
import GoSem.ClaimSeven
namespace Go.Proofs.YthoilhonhjemmaaDoor
namespace Rows

/-- THE TIED CARD OF 'gradinelaw30.PrimWords'. -/
def primWordsCard : Claim7 := { stood := { row := primWordsRow, standIns := [], harness := (true, "a93ca6296a157a191c7e5b7074810d4c599fae91b487ad929c79c88ae30aa625"), looks := false }, kinds := [], alts := [], laidByText := true, laidKinds := [.data], laidTests := true, laidLooks := .later }
def PrimWordsCardSaid : Prop := Claim7.holds Tryd.pinned (.plain (OpenSpec.ofChange primWordsSpec)) primWordsCard

/-- THE TIED CARD OF 'gradinelaw30.PrimTells'. -/
def primTellsCard : Claim7 := { stood := { row := primTellsRow, standIns := [], harness := (true, "a93ca6296a157a191c7e5b7074810d4c599fae91b487ad929c79c88ae30aa625"), looks := false }, kinds := [], alts := [], laidByText := true, laidKinds := [.data], laidTests := true, laidLooks := .later }
def PrimTellsCardSaid : Prop := Claim7.holds Tryd.pinned (.plain (OpenSpec.ofChange primTellsSpec)) primTellsCard

/-- THE SECOND FORM's CARD OF 'gradinelaw30.PrimWords'. -/
def primWordsUptoCard : Claim7 := { stood := { row := primWordsUptoRow, standIns := [], harness := (true, "a93ca6296a157a191c7e5b7074810d4c599fae91b487ad929c79c88ae30aa625"), looks := false }, kinds := [], alts := [], laidByText := true, laidKinds := [.data], laidTests := true, laidLooks := .later }
def PrimWordsUptoCardSaid : Prop := Claim7.holds Tryd.pinned (.plain (OpenSpec.upto primWordsSpec)) primWordsUptoCard

/-- THE SECOND FORM's CARD OF 'gradinelaw30.PrimTells'. -/
def primTellsUptoCard : Claim7 := { stood := { row := primTellsUptoRow, standIns := [], harness := (true, "a93ca6296a157a191c7e5b7074810d4c599fae91b487ad929c79c88ae30aa625"), looks := false }, kinds := [], alts := [], laidByText := true, laidKinds := [.data], laidTests := true, laidLooks := .later }
def PrimTellsUptoCardSaid : Prop := Claim7.holds Tryd.pinned (.plain (OpenSpec.upto primTellsSpec)) primTellsUptoCard
end Rows
end Go.Proofs.YthoilhonhjemmaaDoor
