/-
  DERIVED. GIVEN WITH THE SEED: THE CARDS: each row of YtggfcmondffodaaDoorRows.lean that lists a variable, with what it lists TIED to the program's text (the seventh form; the later family's looks); each row that meets fmt, with fmt's text TOLD by the authors' own Lean function (tested against real Go, not proved from fmt's source: count such statements apart). THE CARD IS WHAT COUNTS. Prove the row's statement (the work); the ties are given (YtggfcmondffodaaDoorTie.lean); close each card by the builder's one call (the guide's Derived/Test/ToyasCard.lean, 'card_holds'). Laid BY PROGRAM, IN A SANDBOX (cutbox-door.mjs). By AI agents, Wed Nov 11 2026. No macro, syntax, notation, axiom, sorry.
-/
import Derived.Test.YtggfcmondffodaaDoorRows
import GoSem.ClaimSeven
namespace Go.Proofs.YtggfcmondffodaaDoor
namespace Rows

/-- THE TIED CARD OF 'ripostelaw01.LexTokens'. -/
def lexTokensCard : Claim7 := { stood := { row := lexTokensRow, standIns := [], harness := (true, "f8925903d41c295c42eba960938c24b1e612720e24813148750547e7ce97798d"), looks := false }, kinds := [], alts := [], laidByText := true, laidKinds := [.data, .listed, .data, .pinned], laidTests := true, laidLooks := .later }
def LexTokensCardSaid : Prop := Claim7.holds Tryd.pinned (.plain (OpenSpec.ofChange lexTokensSpec)) lexTokensCard

/-- THE TIED CARD OF 'ripostelaw01.LexRenames'. -/
def lexRenamesCard : Claim7 := { stood := { row := lexRenamesRow, standIns := [], harness := (true, "f8925903d41c295c42eba960938c24b1e612720e24813148750547e7ce97798d"), looks := false }, kinds := [], alts := [], laidByText := true, laidKinds := [.data, .listed, .data, .pinned], laidTests := true, laidLooks := .later }
def LexRenamesCardSaid : Prop := Claim7.holds Tryd.pinned (.plain (OpenSpec.ofChange lexRenamesSpec)) lexRenamesCard

/-- THE TIED CARD OF 'ripostelaw01.LexRenamed'. -/
def lexRenamedCard : Claim7 := { stood := { row := lexRenamedRow, standIns := [], harness := (true, "f8925903d41c295c42eba960938c24b1e612720e24813148750547e7ce97798d"), looks := false }, kinds := [], alts := [], laidByText := true, laidKinds := [.data, .listed, .data, .pinned], laidTests := true, laidLooks := .later }
def LexRenamedCardSaid : Prop := Claim7.holds Tryd.pinned (.plain (OpenSpec.ofChange lexRenamedSpec)) lexRenamedCard

/-- THE TIED CARD OF 'ripostelaw01.LexDiffs'. -/
def lexDiffsCard : Claim7 := { stood := { row := lexDiffsRow, standIns := [], harness := (true, "f8925903d41c295c42eba960938c24b1e612720e24813148750547e7ce97798d"), looks := false }, kinds := [], alts := [], laidByText := true, laidKinds := [.data, .listed, .data, .pinned], laidTests := true, laidLooks := .later }
def LexDiffsCardSaid : Prop := Claim7.holds Tryd.pinned (.plain (OpenSpec.ofChange lexDiffsSpec)) lexDiffsCard

/-- THE TIED CARD OF 'ripostelaw01.LexSplices'. -/
def lexSplicesCard : Claim7 := { stood := { row := lexSplicesRow, standIns := [], harness := (true, "f8925903d41c295c42eba960938c24b1e612720e24813148750547e7ce97798d"), looks := false }, kinds := [], alts := [], laidByText := true, laidKinds := [.data, .listed, .data, .pinned], laidTests := true, laidLooks := .later }
def LexSplicesCardSaid : Prop := Claim7.holds Tryd.pinned (.plain (OpenSpec.ofChange lexSplicesSpec)) lexSplicesCard

/-- THE TIED CARD OF 'ripostelaw01.LexKeeps'. -/
def lexKeepsCard : Claim7 := { stood := { row := lexKeepsRow, standIns := [], harness := (true, "f8925903d41c295c42eba960938c24b1e612720e24813148750547e7ce97798d"), looks := false }, kinds := [], alts := [], laidByText := true, laidKinds := [.data, .listed, .data, .pinned], laidTests := true, laidLooks := .later }
def LexKeepsCardSaid : Prop := Claim7.holds Tryd.pinned (.plain (OpenSpec.ofChange lexKeepsSpec)) lexKeepsCard

/-- THE TIED CARD OF 'ripostelaw01.LexFar'. -/
def lexFarCard : Claim7 := { stood := { row := lexFarRow, standIns := [], harness := (true, "f8925903d41c295c42eba960938c24b1e612720e24813148750547e7ce97798d"), looks := false }, kinds := [], alts := [], laidByText := true, laidKinds := [.data, .listed, .data, .pinned], laidTests := true, laidLooks := .later }
def LexFarCardSaid : Prop := Claim7.holds Tryd.pinned (.plain (OpenSpec.ofChange lexFarSpec)) lexFarCard

/-- THE TIED CARD OF 'ripostelaw01.LexUndone'. -/
def lexUndoneCard : Claim7 := { stood := { row := lexUndoneRow, standIns := [], harness := (true, "f8925903d41c295c42eba960938c24b1e612720e24813148750547e7ce97798d"), looks := false }, kinds := [], alts := [], laidByText := true, laidKinds := [.data, .listed, .data, .pinned], laidTests := true, laidLooks := .later }
def LexUndoneCardSaid : Prop := Claim7.holds Tryd.pinned (.plain (OpenSpec.ofChange lexUndoneSpec)) lexUndoneCard

/-- THE TIED CARD OF 'ripostelaw01.LexBack'. -/
def lexBackCard : Claim7 := { stood := { row := lexBackRow, standIns := [], harness := (true, "f8925903d41c295c42eba960938c24b1e612720e24813148750547e7ce97798d"), looks := false }, kinds := [], alts := [], laidByText := true, laidKinds := [.data, .listed, .data, .pinned], laidTests := true, laidLooks := .later }
def LexBackCardSaid : Prop := Claim7.holds Tryd.pinned (.plain (OpenSpec.ofChange lexBackSpec)) lexBackCard

/-- THE TIED CARD OF 'ripostelaw01.LexShorter'. -/
def lexShorterCard : Claim7 := { stood := { row := lexShorterRow, standIns := [], harness := (true, "f8925903d41c295c42eba960938c24b1e612720e24813148750547e7ce97798d"), looks := false }, kinds := [], alts := [], laidByText := true, laidKinds := [.data, .listed, .data, .pinned], laidTests := true, laidLooks := .later }
def LexShorterCardSaid : Prop := Claim7.holds Tryd.pinned (.plain (OpenSpec.ofChange lexShorterSpec)) lexShorterCard

/-- THE TIED CARD OF 'ripostelaw01.LexDifference'. -/
def lexDifferenceCard : Claim7 := { stood := { row := lexDifferenceRow, standIns := [], harness := (true, "f8925903d41c295c42eba960938c24b1e612720e24813148750547e7ce97798d"), looks := false }, kinds := [], alts := [], laidByText := true, laidKinds := [.data, .listed, .data, .pinned], laidTests := true, laidLooks := .later }
def LexDifferenceCardSaid : Prop := Claim7.holds Tryd.pinned (.plain (OpenSpec.ofChange lexDifferenceSpec)) lexDifferenceCard

/-- THE TIED CARD OF 'ripostelaw01.LexTights'. -/
def lexTightsCard : Claim7 := { stood := { row := lexTightsRow, standIns := [], harness := (true, "f8925903d41c295c42eba960938c24b1e612720e24813148750547e7ce97798d"), looks := false }, kinds := [], alts := [], laidByText := true, laidKinds := [.data, .listed, .data, .pinned], laidTests := true, laidLooks := .later }
def LexTightsCardSaid : Prop := Claim7.holds Tryd.pinned (.plain (OpenSpec.ofChange lexTightsSpec)) lexTightsCard

/-- THE SECOND FORM's CARD OF 'ripostelaw01.LexTokens'. -/
def lexTokensUptoCard : Claim7 := { stood := { row := lexTokensUptoRow, standIns := [], harness := (true, "f8925903d41c295c42eba960938c24b1e612720e24813148750547e7ce97798d"), looks := false }, kinds := [], alts := [], laidByText := true, laidKinds := [.data, .listed, .data, .pinned], laidTests := true, laidLooks := .later }
def LexTokensUptoCardSaid : Prop := Claim7.holds Tryd.pinned (.plain (OpenSpec.upto lexTokensSpec)) lexTokensUptoCard

/-- THE SECOND FORM's CARD OF 'ripostelaw01.LexRenames'. -/
def lexRenamesUptoCard : Claim7 := { stood := { row := lexRenamesUptoRow, standIns := [], harness := (true, "f8925903d41c295c42eba960938c24b1e612720e24813148750547e7ce97798d"), looks := false }, kinds := [], alts := [], laidByText := true, laidKinds := [.data, .listed, .data, .pinned], laidTests := true, laidLooks := .later }
def LexRenamesUptoCardSaid : Prop := Claim7.holds Tryd.pinned (.plain (OpenSpec.upto lexRenamesSpec)) lexRenamesUptoCard

/-- THE SECOND FORM's CARD OF 'ripostelaw01.LexRenamed'. -/
def lexRenamedUptoCard : Claim7 := { stood := { row := lexRenamedUptoRow, standIns := [], harness := (true, "f8925903d41c295c42eba960938c24b1e612720e24813148750547e7ce97798d"), looks := false }, kinds := [], alts := [], laidByText := true, laidKinds := [.data, .listed, .data, .pinned], laidTests := true, laidLooks := .later }
def LexRenamedUptoCardSaid : Prop := Claim7.holds Tryd.pinned (.plain (OpenSpec.upto lexRenamedSpec)) lexRenamedUptoCard

/-- THE SECOND FORM's CARD OF 'ripostelaw01.LexDiffs'. -/
def lexDiffsUptoCard : Claim7 := { stood := { row := lexDiffsUptoRow, standIns := [], harness := (true, "f8925903d41c295c42eba960938c24b1e612720e24813148750547e7ce97798d"), looks := false }, kinds := [], alts := [], laidByText := true, laidKinds := [.data, .listed, .data, .pinned], laidTests := true, laidLooks := .later }
def LexDiffsUptoCardSaid : Prop := Claim7.holds Tryd.pinned (.plain (OpenSpec.upto lexDiffsSpec)) lexDiffsUptoCard

/-- THE SECOND FORM's CARD OF 'ripostelaw01.LexSplices'. -/
def lexSplicesUptoCard : Claim7 := { stood := { row := lexSplicesUptoRow, standIns := [], harness := (true, "f8925903d41c295c42eba960938c24b1e612720e24813148750547e7ce97798d"), looks := false }, kinds := [], alts := [], laidByText := true, laidKinds := [.data, .listed, .data, .pinned], laidTests := true, laidLooks := .later }
def LexSplicesUptoCardSaid : Prop := Claim7.holds Tryd.pinned (.plain (OpenSpec.upto lexSplicesSpec)) lexSplicesUptoCard

/-- THE SECOND FORM's CARD OF 'ripostelaw01.LexKeeps'. -/
def lexKeepsUptoCard : Claim7 := { stood := { row := lexKeepsUptoRow, standIns := [], harness := (true, "f8925903d41c295c42eba960938c24b1e612720e24813148750547e7ce97798d"), looks := false }, kinds := [], alts := [], laidByText := true, laidKinds := [.data, .listed, .data, .pinned], laidTests := true, laidLooks := .later }
def LexKeepsUptoCardSaid : Prop := Claim7.holds Tryd.pinned (.plain (OpenSpec.upto lexKeepsSpec)) lexKeepsUptoCard

/-- THE SECOND FORM's CARD OF 'ripostelaw01.LexFar'. -/
def lexFarUptoCard : Claim7 := { stood := { row := lexFarUptoRow, standIns := [], harness := (true, "f8925903d41c295c42eba960938c24b1e612720e24813148750547e7ce97798d"), looks := false }, kinds := [], alts := [], laidByText := true, laidKinds := [.data, .listed, .data, .pinned], laidTests := true, laidLooks := .later }
def LexFarUptoCardSaid : Prop := Claim7.holds Tryd.pinned (.plain (OpenSpec.upto lexFarSpec)) lexFarUptoCard

/-- THE SECOND FORM's CARD OF 'ripostelaw01.LexUndone'. -/
def lexUndoneUptoCard : Claim7 := { stood := { row := lexUndoneUptoRow, standIns := [], harness := (true, "f8925903d41c295c42eba960938c24b1e612720e24813148750547e7ce97798d"), looks := false }, kinds := [], alts := [], laidByText := true, laidKinds := [.data, .listed, .data, .pinned], laidTests := true, laidLooks := .later }
def LexUndoneUptoCardSaid : Prop := Claim7.holds Tryd.pinned (.plain (OpenSpec.upto lexUndoneSpec)) lexUndoneUptoCard

/-- THE SECOND FORM's CARD OF 'ripostelaw01.LexBack'. -/
def lexBackUptoCard : Claim7 := { stood := { row := lexBackUptoRow, standIns := [], harness := (true, "f8925903d41c295c42eba960938c24b1e612720e24813148750547e7ce97798d"), looks := false }, kinds := [], alts := [], laidByText := true, laidKinds := [.data, .listed, .data, .pinned], laidTests := true, laidLooks := .later }
def LexBackUptoCardSaid : Prop := Claim7.holds Tryd.pinned (.plain (OpenSpec.upto lexBackSpec)) lexBackUptoCard

/-- THE SECOND FORM's CARD OF 'ripostelaw01.LexShorter'. -/
def lexShorterUptoCard : Claim7 := { stood := { row := lexShorterUptoRow, standIns := [], harness := (true, "f8925903d41c295c42eba960938c24b1e612720e24813148750547e7ce97798d"), looks := false }, kinds := [], alts := [], laidByText := true, laidKinds := [.data, .listed, .data, .pinned], laidTests := true, laidLooks := .later }
def LexShorterUptoCardSaid : Prop := Claim7.holds Tryd.pinned (.plain (OpenSpec.upto lexShorterSpec)) lexShorterUptoCard

/-- THE SECOND FORM's CARD OF 'ripostelaw01.LexDifference'. -/
def lexDifferenceUptoCard : Claim7 := { stood := { row := lexDifferenceUptoRow, standIns := [], harness := (true, "f8925903d41c295c42eba960938c24b1e612720e24813148750547e7ce97798d"), looks := false }, kinds := [], alts := [], laidByText := true, laidKinds := [.data, .listed, .data, .pinned], laidTests := true, laidLooks := .later }
def LexDifferenceUptoCardSaid : Prop := Claim7.holds Tryd.pinned (.plain (OpenSpec.upto lexDifferenceSpec)) lexDifferenceUptoCard

/-- THE SECOND FORM's CARD OF 'ripostelaw01.LexTights'. -/
def lexTightsUptoCard : Claim7 := { stood := { row := lexTightsUptoRow, standIns := [], harness := (true, "f8925903d41c295c42eba960938c24b1e612720e24813148750547e7ce97798d"), looks := false }, kinds := [], alts := [], laidByText := true, laidKinds := [.data, .listed, .data, .pinned], laidTests := true, laidLooks := .later }
def LexTightsUptoCardSaid : Prop := Claim7.holds Tryd.pinned (.plain (OpenSpec.upto lexTightsSpec)) lexTightsUptoCard
end Rows
end Go.Proofs.YtggfcmondffodaaDoor
