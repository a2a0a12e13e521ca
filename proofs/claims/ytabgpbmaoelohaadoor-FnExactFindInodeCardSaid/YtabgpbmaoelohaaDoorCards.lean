/-
  DERIVED. GIVEN WITH THE SEED: THE CARDS: each row of YtabgpbmaoelohaaDoorRows.lean that lists a variable, with what it lists TIED to the program's text (the seventh form; the later family's looks); each row that meets fmt, with fmt's text TOLD by the authors' own Lean function (tested against real Go, not proved from fmt's source: count such statements apart). THE CARD IS WHAT COUNTS. Prove the row's statement (the work); the ties are given (YtabgpbmaoelohaaDoorTie.lean); close each card by the builder's one call (the guide's Derived/Test/ToyasCard.lean, 'card_holds'). Laid BY PROGRAM, IN A SANDBOX (cutbox-door.mjs). By AI agents, Wed Nov 11 2026. No macro, syntax, notation, axiom, sorry.
-/
import Derived.Test.YtabgpbmaoelohaaDoorRows
import GoSem.ClaimSeven
namespace Go.Proofs.YtabgpbmaoelohaaDoor
namespace Rows

/-- THE TIED CARD OF 'laws.FnExactLastOf'. -/
def fnExactLastOfCard : Claim7 := { stood := { row := fnExactLastOfRow, standIns := [], harness := (true, "398f739d534b4e7973e391770cf0990d06c709137c8fbc972da8fb30307a7f92"), looks := false }, kinds := [], alts := [], laidByText := true, laidKinds := [.data, .pinned], laidTests := true, laidLooks := .later }
def FnExactLastOfCardSaid : Prop := Claim7.holds Tryd.pinned (.plain (OpenSpec.ofChange fnExactLastOfSpec)) fnExactLastOfCard

/-- THE TIED CARD OF 'laws.FnExactIsUnder'. -/
def fnExactIsUnderCard : Claim7 := { stood := { row := fnExactIsUnderRow, standIns := [], harness := (true, "398f739d534b4e7973e391770cf0990d06c709137c8fbc972da8fb30307a7f92"), looks := false }, kinds := [], alts := [], laidByText := true, laidKinds := [.data, .pinned], laidTests := true, laidLooks := .later }
def FnExactIsUnderCardSaid : Prop := Claim7.holds Tryd.pinned (.plain (OpenSpec.ofChange fnExactIsUnderSpec)) fnExactIsUnderCard

/-- THE TIED CARD OF 'laws.FnExactSplitPath'. -/
def fnExactSplitPathCard : Claim7 := { stood := { row := fnExactSplitPathRow, standIns := [], harness := (true, "398f739d534b4e7973e391770cf0990d06c709137c8fbc972da8fb30307a7f92"), looks := false }, kinds := [], alts := [], laidByText := true, laidKinds := [.data, .pinned], laidTests := true, laidLooks := .later }
def FnExactSplitPathCardSaid : Prop := Claim7.holds Tryd.pinned (.plain (OpenSpec.ofChange fnExactSplitPathSpec)) fnExactSplitPathCard

/-- THE TIED CARD OF 'laws.FnExactParentOf'. -/
def fnExactParentOfCard : Claim7 := { stood := { row := fnExactParentOfRow, standIns := [], harness := (true, "398f739d534b4e7973e391770cf0990d06c709137c8fbc972da8fb30307a7f92"), looks := false }, kinds := [], alts := [], laidByText := true, laidKinds := [.data, .pinned], laidTests := true, laidLooks := .later }
def FnExactParentOfCardSaid : Prop := Claim7.holds Tryd.pinned (.plain (OpenSpec.ofChange fnExactParentOfSpec)) fnExactParentOfCard

/-- THE TIED CARD OF 'laws.FnExactLookUp'. -/
def fnExactLookUpCard : Claim7 := { stood := { row := fnExactLookUpRow, standIns := [], harness := (true, "398f739d534b4e7973e391770cf0990d06c709137c8fbc972da8fb30307a7f92"), looks := false }, kinds := [], alts := [], laidByText := true, laidKinds := [.data, .pinned], laidTests := true, laidLooks := .later }
def FnExactLookUpCardSaid : Prop := Claim7.holds Tryd.pinned (.plain (OpenSpec.ofChange fnExactLookUpSpec)) fnExactLookUpCard

/-- THE TIED CARD OF 'laws.FnExactKidsOf'. -/
def fnExactKidsOfCard : Claim7 := { stood := { row := fnExactKidsOfRow, standIns := [], harness := (true, "398f739d534b4e7973e391770cf0990d06c709137c8fbc972da8fb30307a7f92"), looks := false }, kinds := [], alts := [], laidByText := true, laidKinds := [.data, .pinned], laidTests := true, laidLooks := .later }
def FnExactKidsOfCardSaid : Prop := Claim7.holds Tryd.pinned (.plain (OpenSpec.ofChange fnExactKidsOfSpec)) fnExactKidsOfCard

/-- THE TIED CARD OF 'laws.FnExactFindInode'. -/
def fnExactFindInodeCard : Claim7 := { stood := { row := fnExactFindInodeRow, standIns := [], harness := (true, "398f739d534b4e7973e391770cf0990d06c709137c8fbc972da8fb30307a7f92"), looks := false }, kinds := [], alts := [], laidByText := true, laidKinds := [.data, .pinned], laidTests := true, laidLooks := .later }
def FnExactFindInodeCardSaid : Prop := Claim7.holds Tryd.pinned (.plain (OpenSpec.ofChange fnExactFindInodeSpec)) fnExactFindInodeCard

/-- THE TIED CARD OF 'laws.FnExactViewOk'. -/
def fnExactViewOkCard : Claim7 := { stood := { row := fnExactViewOkRow, standIns := [], harness := (true, "398f739d534b4e7973e391770cf0990d06c709137c8fbc972da8fb30307a7f92"), looks := false }, kinds := [], alts := [], laidByText := true, laidKinds := [.data, .pinned], laidTests := true, laidLooks := .later }
def FnExactViewOkCardSaid : Prop := Claim7.holds Tryd.pinned (.plain (OpenSpec.ofChange fnExactViewOkSpec)) fnExactViewOkCard

/-- THE TIED CARD OF 'laws.FnExactPlaceFor'. -/
def fnExactPlaceForCard : Claim7 := { stood := { row := fnExactPlaceForRow, standIns := [], harness := (true, "398f739d534b4e7973e391770cf0990d06c709137c8fbc972da8fb30307a7f92"), looks := false }, kinds := [], alts := [], laidByText := true, laidKinds := [.data, .pinned], laidTests := true, laidLooks := .later }
def FnExactPlaceForCardSaid : Prop := Claim7.holds Tryd.pinned (.plain (OpenSpec.ofChange fnExactPlaceForSpec)) fnExactPlaceForCard

/-- THE TIED CARD OF 'laws.FnPaths'. -/
def fnPathsCard : Claim7 := { stood := { row := fnPathsRow, standIns := [], harness := (true, "398f739d534b4e7973e391770cf0990d06c709137c8fbc972da8fb30307a7f92"), looks := false }, kinds := [], alts := [], laidByText := true, laidKinds := [.data, .pinned], laidTests := true, laidLooks := .later }
def FnPathsCardSaid : Prop := Claim7.holds Tryd.pinned (.plain (OpenSpec.ofChange fnPathsSpec)) fnPathsCard

/-- THE SECOND FORM's CARD OF 'laws.FnExactLastOf'. -/
def fnExactLastOfUptoCard : Claim7 := { stood := { row := fnExactLastOfUptoRow, standIns := [], harness := (true, "398f739d534b4e7973e391770cf0990d06c709137c8fbc972da8fb30307a7f92"), looks := false }, kinds := [], alts := [], laidByText := true, laidKinds := [.data, .pinned], laidTests := true, laidLooks := .later }
def FnExactLastOfUptoCardSaid : Prop := Claim7.holds Tryd.pinned (.plain (OpenSpec.upto fnExactLastOfSpec)) fnExactLastOfUptoCard

/-- THE SECOND FORM's CARD OF 'laws.FnExactIsUnder'. -/
def fnExactIsUnderUptoCard : Claim7 := { stood := { row := fnExactIsUnderUptoRow, standIns := [], harness := (true, "398f739d534b4e7973e391770cf0990d06c709137c8fbc972da8fb30307a7f92"), looks := false }, kinds := [], alts := [], laidByText := true, laidKinds := [.data, .pinned], laidTests := true, laidLooks := .later }
def FnExactIsUnderUptoCardSaid : Prop := Claim7.holds Tryd.pinned (.plain (OpenSpec.upto fnExactIsUnderSpec)) fnExactIsUnderUptoCard

/-- THE SECOND FORM's CARD OF 'laws.FnExactSplitPath'. -/
def fnExactSplitPathUptoCard : Claim7 := { stood := { row := fnExactSplitPathUptoRow, standIns := [], harness := (true, "398f739d534b4e7973e391770cf0990d06c709137c8fbc972da8fb30307a7f92"), looks := false }, kinds := [], alts := [], laidByText := true, laidKinds := [.data, .pinned], laidTests := true, laidLooks := .later }
def FnExactSplitPathUptoCardSaid : Prop := Claim7.holds Tryd.pinned (.plain (OpenSpec.upto fnExactSplitPathSpec)) fnExactSplitPathUptoCard

/-- THE SECOND FORM's CARD OF 'laws.FnExactParentOf'. -/
def fnExactParentOfUptoCard : Claim7 := { stood := { row := fnExactParentOfUptoRow, standIns := [], harness := (true, "398f739d534b4e7973e391770cf0990d06c709137c8fbc972da8fb30307a7f92"), looks := false }, kinds := [], alts := [], laidByText := true, laidKinds := [.data, .pinned], laidTests := true, laidLooks := .later }
def FnExactParentOfUptoCardSaid : Prop := Claim7.holds Tryd.pinned (.plain (OpenSpec.upto fnExactParentOfSpec)) fnExactParentOfUptoCard

/-- THE SECOND FORM's CARD OF 'laws.FnExactLookUp'. -/
def fnExactLookUpUptoCard : Claim7 := { stood := { row := fnExactLookUpUptoRow, standIns := [], harness := (true, "398f739d534b4e7973e391770cf0990d06c709137c8fbc972da8fb30307a7f92"), looks := false }, kinds := [], alts := [], laidByText := true, laidKinds := [.data, .pinned], laidTests := true, laidLooks := .later }
def FnExactLookUpUptoCardSaid : Prop := Claim7.holds Tryd.pinned (.plain (OpenSpec.upto fnExactLookUpSpec)) fnExactLookUpUptoCard

/-- THE SECOND FORM's CARD OF 'laws.FnExactKidsOf'. -/
def fnExactKidsOfUptoCard : Claim7 := { stood := { row := fnExactKidsOfUptoRow, standIns := [], harness := (true, "398f739d534b4e7973e391770cf0990d06c709137c8fbc972da8fb30307a7f92"), looks := false }, kinds := [], alts := [], laidByText := true, laidKinds := [.data, .pinned], laidTests := true, laidLooks := .later }
def FnExactKidsOfUptoCardSaid : Prop := Claim7.holds Tryd.pinned (.plain (OpenSpec.upto fnExactKidsOfSpec)) fnExactKidsOfUptoCard

/-- THE SECOND FORM's CARD OF 'laws.FnExactFindInode'. -/
def fnExactFindInodeUptoCard : Claim7 := { stood := { row := fnExactFindInodeUptoRow, standIns := [], harness := (true, "398f739d534b4e7973e391770cf0990d06c709137c8fbc972da8fb30307a7f92"), looks := false }, kinds := [], alts := [], laidByText := true, laidKinds := [.data, .pinned], laidTests := true, laidLooks := .later }
def FnExactFindInodeUptoCardSaid : Prop := Claim7.holds Tryd.pinned (.plain (OpenSpec.upto fnExactFindInodeSpec)) fnExactFindInodeUptoCard

/-- THE SECOND FORM's CARD OF 'laws.FnExactViewOk'. -/
def fnExactViewOkUptoCard : Claim7 := { stood := { row := fnExactViewOkUptoRow, standIns := [], harness := (true, "398f739d534b4e7973e391770cf0990d06c709137c8fbc972da8fb30307a7f92"), looks := false }, kinds := [], alts := [], laidByText := true, laidKinds := [.data, .pinned], laidTests := true, laidLooks := .later }
def FnExactViewOkUptoCardSaid : Prop := Claim7.holds Tryd.pinned (.plain (OpenSpec.upto fnExactViewOkSpec)) fnExactViewOkUptoCard

/-- THE SECOND FORM's CARD OF 'laws.FnExactPlaceFor'. -/
def fnExactPlaceForUptoCard : Claim7 := { stood := { row := fnExactPlaceForUptoRow, standIns := [], harness := (true, "398f739d534b4e7973e391770cf0990d06c709137c8fbc972da8fb30307a7f92"), looks := false }, kinds := [], alts := [], laidByText := true, laidKinds := [.data, .pinned], laidTests := true, laidLooks := .later }
def FnExactPlaceForUptoCardSaid : Prop := Claim7.holds Tryd.pinned (.plain (OpenSpec.upto fnExactPlaceForSpec)) fnExactPlaceForUptoCard

/-- THE SECOND FORM's CARD OF 'laws.FnPaths'. -/
def fnPathsUptoCard : Claim7 := { stood := { row := fnPathsUptoRow, standIns := [], harness := (true, "398f739d534b4e7973e391770cf0990d06c709137c8fbc972da8fb30307a7f92"), looks := false }, kinds := [], alts := [], laidByText := true, laidKinds := [.data, .pinned], laidTests := true, laidLooks := .later }
def FnPathsUptoCardSaid : Prop := Claim7.holds Tryd.pinned (.plain (OpenSpec.upto fnPathsSpec)) fnPathsUptoCard
end Rows
end Go.Proofs.YtabgpbmaoelohaaDoor
