/-
  DERIVED. GIVEN WITH THE SEED: THE CARDS: each row of YtleoknilacjakaaGreatDoorRows.lean that lists a variable, with what it lists TIED to the program's text (the seventh form; the later family's looks); each row that meets fmt, with fmt's text TOLD by the authors' own Lean function (tested against real Go, not proved from fmt's source: count such statements apart). THE CARD IS WHAT COUNTS. Prove the row's statement (the work); the ties are given (YtleoknilacjakaaGreatDoorTie.lean); close each card by the builder's one call (the guide's Derived/Test/ToyasCard.lean, 'card_holds'). Laid BY PROGRAM, IN A SANDBOX (cutbox-door.mjs). By AI agents, Wed Nov 11 2026. No macro, syntax, notation, axiom, sorry.
-/
import Derived.Test.YtleoknilacjakaaGreatDoorRows
import GoSem.ClaimSeven
namespace Go.Proofs.YtleoknilacjakaaGreatDoor
namespace Rows

/-- THE TIED CARD OF 'laws.FnExactReadPart'. -/
def fnExactReadPartCard : Claim7 := { stood := { row := fnExactReadPartRow, standIns := [], harness := (true, "3cf6186ee0f15f9745b000d044cc69282fe0cc1d24a81ffec7e3ef678427037c"), looks := false }, kinds := [], alts := [], laidByText := true, laidKinds := [.data, .pinned], laidTests := true, laidLooks := .later }
def FnExactReadPartCardSaid : Prop := Claim7.holds Tryz.pinned (.plain (OpenSpec.ofChange fnExactReadPartSpec)) fnExactReadPartCard

/-- THE SECOND FORM's CARD OF 'laws.FnExactReadPart'. -/
def fnExactReadPartUptoCard : Claim7 := { stood := { row := fnExactReadPartUptoRow, standIns := [], harness := (true, "3cf6186ee0f15f9745b000d044cc69282fe0cc1d24a81ffec7e3ef678427037c"), looks := false }, kinds := [], alts := [], laidByText := true, laidKinds := [.data, .pinned], laidTests := true, laidLooks := .later }
def FnExactReadPartUptoCardSaid : Prop := Claim7.holds Tryz.pinned (.plain (OpenSpec.upto fnExactReadPartSpec)) fnExactReadPartUptoCard
end Rows
end Go.Proofs.YtleoknilacjakaaGreatDoor
