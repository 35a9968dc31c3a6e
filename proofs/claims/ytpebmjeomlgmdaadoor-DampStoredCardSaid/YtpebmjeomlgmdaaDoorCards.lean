/-
  DERIVED. GIVEN WITH THE SEED: THE CARDS: each row of YtpebmjeomlgmdaaDoorRows.lean that lists a variable, with what it lists TIED to the program's text (the seventh form; the later family's looks); each row that meets fmt, with fmt's text TOLD by the authors' own Lean function (tested against real Go, not proved from fmt's source: count such statements apart). THE CARD IS WHAT COUNTS. Prove the row's statement (the work); the ties are given (YtpebmjeomlgmdaaDoorTie.lean); close each card by the builder's one call (the guide's Derived/Test/ToyasCard.lean, 'card_holds'). Laid BY PROGRAM, IN A SANDBOX (cutbox-door.mjs). By AI agents, Wed Nov 11 2026. No macro, syntax, notation, axiom, sorry.
-/
import Derived.Test.YtpebmjeomlgmdaaDoorRows
import GoSem.ClaimSeven
namespace Go.Proofs.YtpebmjeomlgmdaaDoor
namespace Rows

/-- THE TIED CARD OF 'testlinerlaw11.DampAfters'. -/
def dampAftersCard : Claim7 := { stood := { row := dampAftersRow, standIns := [], harness := (true, "56bad9879500f7b0b6633073609d1ea05cb756ca03497bd711519f01bbe68a63"), looks := false }, kinds := [], alts := [], laidByText := true, laidKinds := [.data, .data], laidTests := true, laidLooks := .later }
def DampAftersCardSaid : Prop := Claim7.holds Tryd.pinned (.plain (OpenSpec.ofChange dampAftersSpec)) dampAftersCard

/-- THE TIED CARD OF 'testlinerlaw11.DampHours'. -/
def dampHoursCard : Claim7 := { stood := { row := dampHoursRow, standIns := [], harness := (true, "56bad9879500f7b0b6633073609d1ea05cb756ca03497bd711519f01bbe68a63"), looks := false }, kinds := [], alts := [], laidByText := true, laidKinds := [.data, .data], laidTests := true, laidLooks := .later }
def DampHoursCardSaid : Prop := Claim7.holds Tryd.pinned (.plain (OpenSpec.ofChange dampHoursSpec)) dampHoursCard

/-- THE TIED CARD OF 'testlinerlaw11.DampExplains'. -/
def dampExplainsCard : Claim7 := { stood := { row := dampExplainsRow, standIns := [], harness := (true, "56bad9879500f7b0b6633073609d1ea05cb756ca03497bd711519f01bbe68a63"), looks := false }, kinds := [], alts := [], laidByText := true, laidKinds := [.data, .data], laidTests := true, laidLooks := .later }
def DampExplainsCardSaid : Prop := Claim7.holds Tryd.pinned (.plain (OpenSpec.ofChange dampExplainsSpec)) dampExplainsCard

/-- THE TIED CARD OF 'testlinerlaw11.DampLooks'. -/
def dampLooksCard : Claim7 := { stood := { row := dampLooksRow, standIns := [], harness := (true, "56bad9879500f7b0b6633073609d1ea05cb756ca03497bd711519f01bbe68a63"), looks := false }, kinds := [], alts := [], laidByText := true, laidKinds := [.data, .data], laidTests := true, laidLooks := .later }
def DampLooksCardSaid : Prop := Claim7.holds Tryd.pinned (.plain (OpenSpec.ofChange dampLooksSpec)) dampLooksCard

/-- THE TIED CARD OF 'testlinerlaw11.DampTruly'. -/
def dampTrulyCard : Claim7 := { stood := { row := dampTrulyRow, standIns := [], harness := (true, "56bad9879500f7b0b6633073609d1ea05cb756ca03497bd711519f01bbe68a63"), looks := false }, kinds := [], alts := [], laidByText := true, laidKinds := [.data, .data], laidTests := true, laidLooks := .later }
def DampTrulyCardSaid : Prop := Claim7.holds Tryd.pinned (.plain (OpenSpec.ofChange dampTrulySpec)) dampTrulyCard

/-- THE TIED CARD OF 'testlinerlaw11.DampLonger'. -/
def dampLongerCard : Claim7 := { stood := { row := dampLongerRow, standIns := [], harness := (true, "56bad9879500f7b0b6633073609d1ea05cb756ca03497bd711519f01bbe68a63"), looks := false }, kinds := [], alts := [], laidByText := true, laidKinds := [.data, .data], laidTests := true, laidLooks := .later }
def DampLongerCardSaid : Prop := Claim7.holds Tryd.pinned (.plain (OpenSpec.ofChange dampLongerSpec)) dampLongerCard

/-- THE TIED CARD OF 'testlinerlaw11.DampStored'. -/
def dampStoredCard : Claim7 := { stood := { row := dampStoredRow, standIns := [], harness := (true, "56bad9879500f7b0b6633073609d1ea05cb756ca03497bd711519f01bbe68a63"), looks := false }, kinds := [], alts := [], laidByText := true, laidKinds := [.data, .data], laidTests := true, laidLooks := .later }
def DampStoredCardSaid : Prop := Claim7.holds Tryd.pinned (.plain (OpenSpec.ofChange dampStoredSpec)) dampStoredCard

/-- THE TIED CARD OF 'testlinerlaw11.DampJust'. -/
def dampJustCard : Claim7 := { stood := { row := dampJustRow, standIns := [], harness := (true, "56bad9879500f7b0b6633073609d1ea05cb756ca03497bd711519f01bbe68a63"), looks := false }, kinds := [], alts := [], laidByText := true, laidKinds := [.data, .data], laidTests := true, laidLooks := .later }
def DampJustCardSaid : Prop := Claim7.holds Tryd.pinned (.plain (OpenSpec.ofChange dampJustSpec)) dampJustCard

/-- THE TIED CARD OF 'testlinerlaw11.DampNext'. -/
def dampNextCard : Claim7 := { stood := { row := dampNextRow, standIns := [], harness := (true, "56bad9879500f7b0b6633073609d1ea05cb756ca03497bd711519f01bbe68a63"), looks := false }, kinds := [], alts := [], laidByText := true, laidKinds := [.data, .data], laidTests := true, laidLooks := .later }
def DampNextCardSaid : Prop := Claim7.holds Tryd.pinned (.plain (OpenSpec.ofChange dampNextSpec)) dampNextCard

/-- THE SECOND FORM's CARD OF 'testlinerlaw11.DampAfters'. -/
def dampAftersUptoCard : Claim7 := { stood := { row := dampAftersUptoRow, standIns := [], harness := (true, "56bad9879500f7b0b6633073609d1ea05cb756ca03497bd711519f01bbe68a63"), looks := false }, kinds := [], alts := [], laidByText := true, laidKinds := [.data, .data], laidTests := true, laidLooks := .later }
def DampAftersUptoCardSaid : Prop := Claim7.holds Tryd.pinned (.plain (OpenSpec.upto dampAftersSpec)) dampAftersUptoCard

/-- THE SECOND FORM's CARD OF 'testlinerlaw11.DampHours'. -/
def dampHoursUptoCard : Claim7 := { stood := { row := dampHoursUptoRow, standIns := [], harness := (true, "56bad9879500f7b0b6633073609d1ea05cb756ca03497bd711519f01bbe68a63"), looks := false }, kinds := [], alts := [], laidByText := true, laidKinds := [.data, .data], laidTests := true, laidLooks := .later }
def DampHoursUptoCardSaid : Prop := Claim7.holds Tryd.pinned (.plain (OpenSpec.upto dampHoursSpec)) dampHoursUptoCard

/-- THE SECOND FORM's CARD OF 'testlinerlaw11.DampExplains'. -/
def dampExplainsUptoCard : Claim7 := { stood := { row := dampExplainsUptoRow, standIns := [], harness := (true, "56bad9879500f7b0b6633073609d1ea05cb756ca03497bd711519f01bbe68a63"), looks := false }, kinds := [], alts := [], laidByText := true, laidKinds := [.data, .data], laidTests := true, laidLooks := .later }
def DampExplainsUptoCardSaid : Prop := Claim7.holds Tryd.pinned (.plain (OpenSpec.upto dampExplainsSpec)) dampExplainsUptoCard

/-- THE SECOND FORM's CARD OF 'testlinerlaw11.DampLooks'. -/
def dampLooksUptoCard : Claim7 := { stood := { row := dampLooksUptoRow, standIns := [], harness := (true, "56bad9879500f7b0b6633073609d1ea05cb756ca03497bd711519f01bbe68a63"), looks := false }, kinds := [], alts := [], laidByText := true, laidKinds := [.data, .data], laidTests := true, laidLooks := .later }
def DampLooksUptoCardSaid : Prop := Claim7.holds Tryd.pinned (.plain (OpenSpec.upto dampLooksSpec)) dampLooksUptoCard

/-- THE SECOND FORM's CARD OF 'testlinerlaw11.DampTruly'. -/
def dampTrulyUptoCard : Claim7 := { stood := { row := dampTrulyUptoRow, standIns := [], harness := (true, "56bad9879500f7b0b6633073609d1ea05cb756ca03497bd711519f01bbe68a63"), looks := false }, kinds := [], alts := [], laidByText := true, laidKinds := [.data, .data], laidTests := true, laidLooks := .later }
def DampTrulyUptoCardSaid : Prop := Claim7.holds Tryd.pinned (.plain (OpenSpec.upto dampTrulySpec)) dampTrulyUptoCard

/-- THE SECOND FORM's CARD OF 'testlinerlaw11.DampLonger'. -/
def dampLongerUptoCard : Claim7 := { stood := { row := dampLongerUptoRow, standIns := [], harness := (true, "56bad9879500f7b0b6633073609d1ea05cb756ca03497bd711519f01bbe68a63"), looks := false }, kinds := [], alts := [], laidByText := true, laidKinds := [.data, .data], laidTests := true, laidLooks := .later }
def DampLongerUptoCardSaid : Prop := Claim7.holds Tryd.pinned (.plain (OpenSpec.upto dampLongerSpec)) dampLongerUptoCard

/-- THE SECOND FORM's CARD OF 'testlinerlaw11.DampStored'. -/
def dampStoredUptoCard : Claim7 := { stood := { row := dampStoredUptoRow, standIns := [], harness := (true, "56bad9879500f7b0b6633073609d1ea05cb756ca03497bd711519f01bbe68a63"), looks := false }, kinds := [], alts := [], laidByText := true, laidKinds := [.data, .data], laidTests := true, laidLooks := .later }
def DampStoredUptoCardSaid : Prop := Claim7.holds Tryd.pinned (.plain (OpenSpec.upto dampStoredSpec)) dampStoredUptoCard

/-- THE SECOND FORM's CARD OF 'testlinerlaw11.DampJust'. -/
def dampJustUptoCard : Claim7 := { stood := { row := dampJustUptoRow, standIns := [], harness := (true, "56bad9879500f7b0b6633073609d1ea05cb756ca03497bd711519f01bbe68a63"), looks := false }, kinds := [], alts := [], laidByText := true, laidKinds := [.data, .data], laidTests := true, laidLooks := .later }
def DampJustUptoCardSaid : Prop := Claim7.holds Tryd.pinned (.plain (OpenSpec.upto dampJustSpec)) dampJustUptoCard

/-- THE SECOND FORM's CARD OF 'testlinerlaw11.DampNext'. -/
def dampNextUptoCard : Claim7 := { stood := { row := dampNextUptoRow, standIns := [], harness := (true, "56bad9879500f7b0b6633073609d1ea05cb756ca03497bd711519f01bbe68a63"), looks := false }, kinds := [], alts := [], laidByText := true, laidKinds := [.data, .data], laidTests := true, laidLooks := .later }
def DampNextUptoCardSaid : Prop := Claim7.holds Tryd.pinned (.plain (OpenSpec.upto dampNextSpec)) dampNextUptoCard
end Rows
end Go.Proofs.YtpebmjeomlgmdaaDoor
