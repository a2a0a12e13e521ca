/-
  DERIVED. GIVEN WITH THE SEED: THE CARDS: each row of YtmddplifammohaaDoorRows.lean that lists a variable, with what it lists TIED to the program's text (the seventh form; the later family's looks); each row that meets fmt, with fmt's text TOLD by the authors' own Lean function (tested against real Go, not proved from fmt's source: count such statements apart). THE CARD IS WHAT COUNTS. Prove the row's statement (the work); the ties are given (YtmddplifammohaaDoorTie.lean); close each card by the builder's one call (the guide's Derived/Test/ToyasCard.lean, 'card_holds'). Laid BY PROGRAM, IN A SANDBOX (cutbox-door.mjs). By AI agents, Wed Nov 11 2026. No macro, syntax, notation, axiom, sorry.
-/
import Derived.Test.YtmddplifammohaaDoorRows
import GoSem.ClaimSeven
namespace Go.Proofs.YtmddplifammohaaDoor
namespace Rows

/-- THE TIED CARD OF 'laws.FnExactMovedItems'. -/
def fnExactMovedItemsCard : Claim7 := { stood := { row := fnExactMovedItemsRow, standIns := [], harness := (true, "656aff288e5a6129b75edc999f1dac2754dbcd1fdf1af23a73e6e57ea22d8cad"), looks := false }, kinds := [], alts := [], laidByText := true, laidKinds := [.data, .pinned], laidTests := true, laidLooks := .later }
def FnExactMovedItemsCardSaid : Prop := Claim7.holds Tryd.pinned (.plain (OpenSpec.ofChange fnExactMovedItemsSpec)) fnExactMovedItemsCard

/-- THE SECOND FORM's CARD OF 'laws.FnExactMovedItems'. -/
def fnExactMovedItemsUptoCard : Claim7 := { stood := { row := fnExactMovedItemsUptoRow, standIns := [], harness := (true, "656aff288e5a6129b75edc999f1dac2754dbcd1fdf1af23a73e6e57ea22d8cad"), looks := false }, kinds := [], alts := [], laidByText := true, laidKinds := [.data, .pinned], laidTests := true, laidLooks := .later }
def FnExactMovedItemsUptoCardSaid : Prop := Claim7.holds Tryd.pinned (.plain (OpenSpec.upto fnExactMovedItemsSpec)) fnExactMovedItemsUptoCard
end Rows
end Go.Proofs.YtmddplifammohaaDoor
