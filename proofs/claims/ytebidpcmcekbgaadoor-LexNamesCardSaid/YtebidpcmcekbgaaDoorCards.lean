/-
  DERIVED. GIVEN WITH THE SEED: THE CARDS: each row of YtebidpcmcekbgaaDoorRows.lean that lists a variable, with what it lists TIED to the program's text (the seventh form; the later family's looks); each row that meets fmt, with fmt's text TOLD by the authors' own Lean function (tested against real Go, not proved from fmt's source: count such statements apart). THE CARD IS WHAT COUNTS. Prove the row's statement (the work); the ties are given (YtebidpcmcekbgaaDoorTie.lean); close each card by the builder's one call (the guide's Derived/Test/ToyasCard.lean, 'card_holds'). Laid BY PROGRAM, IN A SANDBOX (cutbox-door.mjs). By AI agents, Wed Nov 11 2026. No macro, syntax, notation, axiom, sorry.
-/
import Derived.Test.YtebidpcmcekbgaaDoorRows
import GoSem.ClaimSeven
namespace Go.Proofs.YtebidpcmcekbgaaDoor
namespace Rows

/-- THE TIED CARD OF 'ripostelaw01.LexTokens'. -/
def lexTokensCard : Claim7 := { stood := { row := lexTokensRow, standIns := [], harness := (true, "08715658effcd12158265cba755b08cb53f642e8962af714545255af584136cd"), looks := false }, kinds := [], alts := [], laidByText := true, laidKinds := [.data, .listed, .data, .pinned], laidTests := true, laidLooks := .later }
def LexTokensCardSaid : Prop := Claim7.holds Tryd.pinned (.plain (OpenSpec.ofChange lexTokensSpec)) lexTokensCard

/-- THE TIED CARD OF 'ripostelaw01.LexRenames'. -/
def lexRenamesCard : Claim7 := { stood := { row := lexRenamesRow, standIns := [], harness := (true, "08715658effcd12158265cba755b08cb53f642e8962af714545255af584136cd"), looks := false }, kinds := [], alts := [], laidByText := true, laidKinds := [.data, .listed, .data, .pinned], laidTests := true, laidLooks := .later }
def LexRenamesCardSaid : Prop := Claim7.holds Tryd.pinned (.plain (OpenSpec.ofChange lexRenamesSpec)) lexRenamesCard

/-- THE TIED CARD OF 'ripostelaw01.LexDiffs'. -/
def lexDiffsCard : Claim7 := { stood := { row := lexDiffsRow, standIns := [], harness := (true, "08715658effcd12158265cba755b08cb53f642e8962af714545255af584136cd"), looks := false }, kinds := [], alts := [], laidByText := true, laidKinds := [.data, .listed, .data, .pinned], laidTests := true, laidLooks := .later }
def LexDiffsCardSaid : Prop := Claim7.holds Tryd.pinned (.plain (OpenSpec.ofChange lexDiffsSpec)) lexDiffsCard

/-- THE TIED CARD OF 'ripostelaw01.LexSplices'. -/
def lexSplicesCard : Claim7 := { stood := { row := lexSplicesRow, standIns := [], harness := (true, "08715658effcd12158265cba755b08cb53f642e8962af714545255af584136cd"), looks := false }, kinds := [], alts := [], laidByText := true, laidKinds := [.data, .listed, .data, .pinned], laidTests := true, laidLooks := .later }
def LexSplicesCardSaid : Prop := Claim7.holds Tryd.pinned (.plain (OpenSpec.ofChange lexSplicesSpec)) lexSplicesCard

/-- THE TIED CARD OF 'ripostelaw01.LexTights'. -/
def lexTightsCard : Claim7 := { stood := { row := lexTightsRow, standIns := [], harness := (true, "08715658effcd12158265cba755b08cb53f642e8962af714545255af584136cd"), looks := false }, kinds := [], alts := [], laidByText := true, laidKinds := [.data, .listed, .data, .pinned], laidTests := true, laidLooks := .later }
def LexTightsCardSaid : Prop := Claim7.holds Tryd.pinned (.plain (OpenSpec.ofChange lexTightsSpec)) lexTightsCard

/-- THE TIED CARD OF 'ripostelaw01.LexSpots'. -/
def lexSpotsCard : Claim7 := { stood := { row := lexSpotsRow, standIns := [], harness := (true, "08715658effcd12158265cba755b08cb53f642e8962af714545255af584136cd"), looks := false }, kinds := [], alts := [], laidByText := true, laidKinds := [.data, .listed, .data, .pinned], laidTests := true, laidLooks := .later }
def LexSpotsCardSaid : Prop := Claim7.holds Tryd.pinned (.plain (OpenSpec.ofChange lexSpotsSpec)) lexSpotsCard

/-- THE TIED CARD OF 'ripostelaw01.LexPlaces'. -/
def lexPlacesCard : Claim7 := { stood := { row := lexPlacesRow, standIns := [], harness := (true, "08715658effcd12158265cba755b08cb53f642e8962af714545255af584136cd"), looks := false }, kinds := [], alts := [], laidByText := true, laidKinds := [.data, .listed, .data, .pinned], laidTests := true, laidLooks := .later }
def LexPlacesCardSaid : Prop := Claim7.holds Tryd.pinned (.plain (OpenSpec.ofChange lexPlacesSpec)) lexPlacesCard

/-- THE TIED CARD OF 'ripostelaw01.LexNames'. -/
def lexNamesCard : Claim7 := { stood := { row := lexNamesRow, standIns := [], harness := (true, "08715658effcd12158265cba755b08cb53f642e8962af714545255af584136cd"), looks := false }, kinds := [], alts := [], laidByText := true, laidKinds := [.data, .listed, .data, .pinned], laidTests := true, laidLooks := .later }
def LexNamesCardSaid : Prop := Claim7.holds Tryd.pinned (.plain (OpenSpec.ofChange lexNamesSpec)) lexNamesCard

/-- THE SECOND FORM's CARD OF 'ripostelaw01.LexTokens'. -/
def lexTokensUptoCard : Claim7 := { stood := { row := lexTokensUptoRow, standIns := [], harness := (true, "08715658effcd12158265cba755b08cb53f642e8962af714545255af584136cd"), looks := false }, kinds := [], alts := [], laidByText := true, laidKinds := [.data, .listed, .data, .pinned], laidTests := true, laidLooks := .later }
def LexTokensUptoCardSaid : Prop := Claim7.holds Tryd.pinned (.plain (OpenSpec.upto lexTokensSpec)) lexTokensUptoCard

/-- THE SECOND FORM's CARD OF 'ripostelaw01.LexRenames'. -/
def lexRenamesUptoCard : Claim7 := { stood := { row := lexRenamesUptoRow, standIns := [], harness := (true, "08715658effcd12158265cba755b08cb53f642e8962af714545255af584136cd"), looks := false }, kinds := [], alts := [], laidByText := true, laidKinds := [.data, .listed, .data, .pinned], laidTests := true, laidLooks := .later }
def LexRenamesUptoCardSaid : Prop := Claim7.holds Tryd.pinned (.plain (OpenSpec.upto lexRenamesSpec)) lexRenamesUptoCard

/-- THE SECOND FORM's CARD OF 'ripostelaw01.LexDiffs'. -/
def lexDiffsUptoCard : Claim7 := { stood := { row := lexDiffsUptoRow, standIns := [], harness := (true, "08715658effcd12158265cba755b08cb53f642e8962af714545255af584136cd"), looks := false }, kinds := [], alts := [], laidByText := true, laidKinds := [.data, .listed, .data, .pinned], laidTests := true, laidLooks := .later }
def LexDiffsUptoCardSaid : Prop := Claim7.holds Tryd.pinned (.plain (OpenSpec.upto lexDiffsSpec)) lexDiffsUptoCard

/-- THE SECOND FORM's CARD OF 'ripostelaw01.LexSplices'. -/
def lexSplicesUptoCard : Claim7 := { stood := { row := lexSplicesUptoRow, standIns := [], harness := (true, "08715658effcd12158265cba755b08cb53f642e8962af714545255af584136cd"), looks := false }, kinds := [], alts := [], laidByText := true, laidKinds := [.data, .listed, .data, .pinned], laidTests := true, laidLooks := .later }
def LexSplicesUptoCardSaid : Prop := Claim7.holds Tryd.pinned (.plain (OpenSpec.upto lexSplicesSpec)) lexSplicesUptoCard

/-- THE SECOND FORM's CARD OF 'ripostelaw01.LexTights'. -/
def lexTightsUptoCard : Claim7 := { stood := { row := lexTightsUptoRow, standIns := [], harness := (true, "08715658effcd12158265cba755b08cb53f642e8962af714545255af584136cd"), looks := false }, kinds := [], alts := [], laidByText := true, laidKinds := [.data, .listed, .data, .pinned], laidTests := true, laidLooks := .later }
def LexTightsUptoCardSaid : Prop := Claim7.holds Tryd.pinned (.plain (OpenSpec.upto lexTightsSpec)) lexTightsUptoCard

/-- THE SECOND FORM's CARD OF 'ripostelaw01.LexSpots'. -/
def lexSpotsUptoCard : Claim7 := { stood := { row := lexSpotsUptoRow, standIns := [], harness := (true, "08715658effcd12158265cba755b08cb53f642e8962af714545255af584136cd"), looks := false }, kinds := [], alts := [], laidByText := true, laidKinds := [.data, .listed, .data, .pinned], laidTests := true, laidLooks := .later }
def LexSpotsUptoCardSaid : Prop := Claim7.holds Tryd.pinned (.plain (OpenSpec.upto lexSpotsSpec)) lexSpotsUptoCard

/-- THE SECOND FORM's CARD OF 'ripostelaw01.LexPlaces'. -/
def lexPlacesUptoCard : Claim7 := { stood := { row := lexPlacesUptoRow, standIns := [], harness := (true, "08715658effcd12158265cba755b08cb53f642e8962af714545255af584136cd"), looks := false }, kinds := [], alts := [], laidByText := true, laidKinds := [.data, .listed, .data, .pinned], laidTests := true, laidLooks := .later }
def LexPlacesUptoCardSaid : Prop := Claim7.holds Tryd.pinned (.plain (OpenSpec.upto lexPlacesSpec)) lexPlacesUptoCard

/-- THE SECOND FORM's CARD OF 'ripostelaw01.LexNames'. -/
def lexNamesUptoCard : Claim7 := { stood := { row := lexNamesUptoRow, standIns := [], harness := (true, "08715658effcd12158265cba755b08cb53f642e8962af714545255af584136cd"), looks := false }, kinds := [], alts := [], laidByText := true, laidKinds := [.data, .listed, .data, .pinned], laidTests := true, laidLooks := .later }
def LexNamesUptoCardSaid : Prop := Claim7.holds Tryd.pinned (.plain (OpenSpec.upto lexNamesSpec)) lexNamesUptoCard
end Rows
end Go.Proofs.YtebidpcmcekbgaaDoor
