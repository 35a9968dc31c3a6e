/-
  DERIVED. GIVEN WITH THE SEED: THE CARDS: each row of YtpebmjeomlgmdaaGreatDoorRows.lean that lists a variable, with what it lists TIED to the program's text (the seventh form; the later family's looks); each row that meets fmt, with fmt's text TOLD by the authors' own Lean function (tested against real Go, not proved from fmt's source: count such statements apart). THE CARD IS WHAT COUNTS. Prove the row's statement (the work); the ties are given (YtpebmjeomlgmdaaGreatDoorTie.lean); close each card by the builder's one call (the guide's Derived/Test/ToyasCard.lean, 'card_holds'). Laid BY PROGRAM, IN A SANDBOX (cutbox-door.mjs). By AI agents, Wed Nov 11 2026. No macro, syntax, notation, axiom, sorry.
-/
import Derived.Test.YtpebmjeomlgmdaaGreatDoorRows
import GoSem.ClaimSeven
namespace Go.Proofs.YtpebmjeomlgmdaaGreatDoor
namespace Rows

/-- THE TIED CARD OF 'testlinerlaw11.DampStores'. -/
def dampStoresCard : Claim7 := { stood := { row := dampStoresRow, standIns := [], harness := (true, "b93565efa84b2aabd8af42b2a780ed76ee72ab2f515516cca2c4f85c46319941"), looks := false }, kinds := [], alts := [], laidByText := true, laidKinds := [.data, .data], laidTests := true, laidLooks := .later }
def DampStoresCardSaid : Prop := Claim7.holds Tryz.pinned (.plain (OpenSpec.ofChange dampStoresSpec)) dampStoresCard

/-- THE TIED CARD OF 'testlinerlaw11.DampAgainsts'. -/
def dampAgainstsCard : Claim7 := { stood := { row := dampAgainstsRow, standIns := [], harness := (true, "b93565efa84b2aabd8af42b2a780ed76ee72ab2f515516cca2c4f85c46319941"), looks := false }, kinds := [], alts := [], laidByText := true, laidKinds := [.data, .data], laidTests := true, laidLooks := .later }
def DampAgainstsCardSaid : Prop := Claim7.holds Tryz.pinned (.plain (OpenSpec.ofChange dampAgainstsSpec)) dampAgainstsCard

/-- THE SECOND FORM's CARD OF 'testlinerlaw11.DampStores'. -/
def dampStoresUptoCard : Claim7 := { stood := { row := dampStoresUptoRow, standIns := [], harness := (true, "b93565efa84b2aabd8af42b2a780ed76ee72ab2f515516cca2c4f85c46319941"), looks := false }, kinds := [], alts := [], laidByText := true, laidKinds := [.data, .data], laidTests := true, laidLooks := .later }
def DampStoresUptoCardSaid : Prop := Claim7.holds Tryz.pinned (.plain (OpenSpec.upto dampStoresSpec)) dampStoresUptoCard

/-- THE SECOND FORM's CARD OF 'testlinerlaw11.DampAgainsts'. -/
def dampAgainstsUptoCard : Claim7 := { stood := { row := dampAgainstsUptoRow, standIns := [], harness := (true, "b93565efa84b2aabd8af42b2a780ed76ee72ab2f515516cca2c4f85c46319941"), looks := false }, kinds := [], alts := [], laidByText := true, laidKinds := [.data, .data], laidTests := true, laidLooks := .later }
def DampAgainstsUptoCardSaid : Prop := Claim7.holds Tryz.pinned (.plain (OpenSpec.upto dampAgainstsSpec)) dampAgainstsUptoCard
end Rows
end Go.Proofs.YtpebmjeomlgmdaaGreatDoor
