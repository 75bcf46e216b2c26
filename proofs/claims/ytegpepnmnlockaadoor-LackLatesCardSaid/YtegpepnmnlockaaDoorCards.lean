/-
  DERIVED. GIVEN WITH THE SEED: THE CARDS: each row of YtegpepnmnlockaaDoorRows.lean that lists a variable, with what it lists TIED to the program's text (the seventh form; the later family's looks); each row that meets fmt, with fmt's text TOLD by the authors' own Lean function (tested against real Go, not proved from fmt's source: count such statements apart). THE CARD IS WHAT COUNTS. Prove the row's statement (the work); the ties are given (YtegpepnmnlockaaDoorTie.lean); close each card by the builder's one call (the guide's Derived/Test/ToyasCard.lean, 'card_holds'). Laid BY PROGRAM, IN A SANDBOX (cutbox-door.mjs). By AI agents, Wed Nov 11 2026. No macro, syntax, notation, axiom, sorry.
-/
import Derived.Test.YtegpepnmnlockaaDoorRows
import GoSem.ClaimSeven
namespace Go.Proofs.YtegpepnmnlockaaDoor
namespace Rows

/-- THE TIED CARD OF 'wishbooklaw10.LackWholes'. -/
def lackWholesCard : Claim7 := { stood := { row := lackWholesRow, standIns := [], harness := (true, "1bb4399ab601d0d800adc6908fd03a463c98ac1fd8de63665c2ed8ee0fe8b3bf"), looks := false }, kinds := [], alts := [], laidByText := true, laidKinds := [.funcs], laidTests := true, laidLooks := .later }
def LackWholesCardSaid : Prop := Claim7.holds Tryd.pinned (.plain (OpenSpec.ofChange lackWholesSpec)) lackWholesCard

/-- THE TIED CARD OF 'wishbooklaw10.LackComes'. -/
def lackComesCard : Claim7 := { stood := { row := lackComesRow, standIns := [], harness := (true, "1bb4399ab601d0d800adc6908fd03a463c98ac1fd8de63665c2ed8ee0fe8b3bf"), looks := false }, kinds := [], alts := [], laidByText := true, laidKinds := [.funcs], laidTests := true, laidLooks := .later }
def LackComesCardSaid : Prop := Claim7.holds Tryd.pinned (.plain (OpenSpec.ofChange lackComesSpec)) lackComesCard

/-- THE TIED CARD OF 'wishbooklaw10.LackLates'. -/
def lackLatesCard : Claim7 := { stood := { row := lackLatesRow, standIns := [], harness := (true, "1bb4399ab601d0d800adc6908fd03a463c98ac1fd8de63665c2ed8ee0fe8b3bf"), looks := false }, kinds := [], alts := [], laidByText := true, laidKinds := [.funcs], laidTests := true, laidLooks := .later }
def LackLatesCardSaid : Prop := Claim7.holds Tryd.pinned (.plain (OpenSpec.ofChange lackLatesSpec)) lackLatesCard

/-- THE TIED CARD OF 'wishbooklaw10.LackOnce'. -/
def lackOnceCard : Claim7 := { stood := { row := lackOnceRow, standIns := [], harness := (true, "1bb4399ab601d0d800adc6908fd03a463c98ac1fd8de63665c2ed8ee0fe8b3bf"), looks := false }, kinds := [], alts := [], laidByText := true, laidKinds := [.funcs], laidTests := true, laidLooks := .later }
def LackOnceCardSaid : Prop := Claim7.holds Tryd.pinned (.plain (OpenSpec.ofChange lackOnceSpec)) lackOnceCard

/-- THE TIED CARD OF 'wishbooklaw10.LackTime'. -/
def lackTimeCard : Claim7 := { stood := { row := lackTimeRow, standIns := [], harness := (true, "1bb4399ab601d0d800adc6908fd03a463c98ac1fd8de63665c2ed8ee0fe8b3bf"), looks := false }, kinds := [], alts := [], laidByText := true, laidKinds := [.funcs], laidTests := true, laidLooks := .later }
def LackTimeCardSaid : Prop := Claim7.holds Tryd.pinned (.plain (OpenSpec.ofChange lackTimeSpec)) lackTimeCard

/-- THE TIED CARD OF 'wishbooklaw10.LackMost'. -/
def lackMostCard : Claim7 := { stood := { row := lackMostRow, standIns := [], harness := (true, "1bb4399ab601d0d800adc6908fd03a463c98ac1fd8de63665c2ed8ee0fe8b3bf"), looks := false }, kinds := [], alts := [], laidByText := true, laidKinds := [.funcs], laidTests := true, laidLooks := .later }
def LackMostCardSaid : Prop := Claim7.holds Tryd.pinned (.plain (OpenSpec.ofChange lackMostSpec)) lackMostCard

/-- THE TIED CARD OF 'wishbooklaw10.LackMore'. -/
def lackMoreCard : Claim7 := { stood := { row := lackMoreRow, standIns := [], harness := (true, "1bb4399ab601d0d800adc6908fd03a463c98ac1fd8de63665c2ed8ee0fe8b3bf"), looks := false }, kinds := [], alts := [], laidByText := true, laidKinds := [.funcs], laidTests := true, laidLooks := .later }
def LackMoreCardSaid : Prop := Claim7.holds Tryd.pinned (.plain (OpenSpec.ofChange lackMoreSpec)) lackMoreCard

/-- THE TIED CARD OF 'wishbooklaw10.LackEasier'. -/
def lackEasierCard : Claim7 := { stood := { row := lackEasierRow, standIns := [], harness := (true, "1bb4399ab601d0d800adc6908fd03a463c98ac1fd8de63665c2ed8ee0fe8b3bf"), looks := false }, kinds := [], alts := [], laidByText := true, laidKinds := [.funcs], laidTests := true, laidLooks := .later }
def LackEasierCardSaid : Prop := Claim7.holds Tryd.pinned (.plain (OpenSpec.ofChange lackEasierSpec)) lackEasierCard

/-- THE TIED CARD OF 'wishbooklaw10.LackLate'. -/
def lackLateCard : Claim7 := { stood := { row := lackLateRow, standIns := [], harness := (true, "1bb4399ab601d0d800adc6908fd03a463c98ac1fd8de63665c2ed8ee0fe8b3bf"), looks := false }, kinds := [], alts := [], laidByText := true, laidKinds := [.funcs], laidTests := true, laidLooks := .later }
def LackLateCardSaid : Prop := Claim7.holds Tryd.pinned (.plain (OpenSpec.ofChange lackLateSpec)) lackLateCard

/-- THE TIED CARD OF 'wishbooklaw10.LackSurely'. -/
def lackSurelyCard : Claim7 := { stood := { row := lackSurelyRow, standIns := [], harness := (true, "1bb4399ab601d0d800adc6908fd03a463c98ac1fd8de63665c2ed8ee0fe8b3bf"), looks := false }, kinds := [], alts := [], laidByText := true, laidKinds := [.funcs], laidTests := true, laidLooks := .later }
def LackSurelyCardSaid : Prop := Claim7.holds Tryd.pinned (.plain (OpenSpec.ofChange lackSurelySpec)) lackSurelyCard

/-- THE TIED CARD OF 'wishbooklaw10.LackKnown'. -/
def lackKnownCard : Claim7 := { stood := { row := lackKnownRow, standIns := [], harness := (true, "1bb4399ab601d0d800adc6908fd03a463c98ac1fd8de63665c2ed8ee0fe8b3bf"), looks := false }, kinds := [], alts := [], laidByText := true, laidKinds := [.funcs], laidTests := true, laidLooks := .later }
def LackKnownCardSaid : Prop := Claim7.holds Tryd.pinned (.plain (OpenSpec.ofChange lackKnownSpec)) lackKnownCard

/-- THE SECOND FORM's CARD OF 'wishbooklaw10.LackWholes'. -/
def lackWholesUptoCard : Claim7 := { stood := { row := lackWholesUptoRow, standIns := [], harness := (true, "1bb4399ab601d0d800adc6908fd03a463c98ac1fd8de63665c2ed8ee0fe8b3bf"), looks := false }, kinds := [], alts := [], laidByText := true, laidKinds := [.funcs], laidTests := true, laidLooks := .later }
def LackWholesUptoCardSaid : Prop := Claim7.holds Tryd.pinned (.plain (OpenSpec.upto lackWholesSpec)) lackWholesUptoCard

/-- THE SECOND FORM's CARD OF 'wishbooklaw10.LackComes'. -/
def lackComesUptoCard : Claim7 := { stood := { row := lackComesUptoRow, standIns := [], harness := (true, "1bb4399ab601d0d800adc6908fd03a463c98ac1fd8de63665c2ed8ee0fe8b3bf"), looks := false }, kinds := [], alts := [], laidByText := true, laidKinds := [.funcs], laidTests := true, laidLooks := .later }
def LackComesUptoCardSaid : Prop := Claim7.holds Tryd.pinned (.plain (OpenSpec.upto lackComesSpec)) lackComesUptoCard

/-- THE SECOND FORM's CARD OF 'wishbooklaw10.LackLates'. -/
def lackLatesUptoCard : Claim7 := { stood := { row := lackLatesUptoRow, standIns := [], harness := (true, "1bb4399ab601d0d800adc6908fd03a463c98ac1fd8de63665c2ed8ee0fe8b3bf"), looks := false }, kinds := [], alts := [], laidByText := true, laidKinds := [.funcs], laidTests := true, laidLooks := .later }
def LackLatesUptoCardSaid : Prop := Claim7.holds Tryd.pinned (.plain (OpenSpec.upto lackLatesSpec)) lackLatesUptoCard

/-- THE SECOND FORM's CARD OF 'wishbooklaw10.LackOnce'. -/
def lackOnceUptoCard : Claim7 := { stood := { row := lackOnceUptoRow, standIns := [], harness := (true, "1bb4399ab601d0d800adc6908fd03a463c98ac1fd8de63665c2ed8ee0fe8b3bf"), looks := false }, kinds := [], alts := [], laidByText := true, laidKinds := [.funcs], laidTests := true, laidLooks := .later }
def LackOnceUptoCardSaid : Prop := Claim7.holds Tryd.pinned (.plain (OpenSpec.upto lackOnceSpec)) lackOnceUptoCard

/-- THE SECOND FORM's CARD OF 'wishbooklaw10.LackTime'. -/
def lackTimeUptoCard : Claim7 := { stood := { row := lackTimeUptoRow, standIns := [], harness := (true, "1bb4399ab601d0d800adc6908fd03a463c98ac1fd8de63665c2ed8ee0fe8b3bf"), looks := false }, kinds := [], alts := [], laidByText := true, laidKinds := [.funcs], laidTests := true, laidLooks := .later }
def LackTimeUptoCardSaid : Prop := Claim7.holds Tryd.pinned (.plain (OpenSpec.upto lackTimeSpec)) lackTimeUptoCard

/-- THE SECOND FORM's CARD OF 'wishbooklaw10.LackMost'. -/
def lackMostUptoCard : Claim7 := { stood := { row := lackMostUptoRow, standIns := [], harness := (true, "1bb4399ab601d0d800adc6908fd03a463c98ac1fd8de63665c2ed8ee0fe8b3bf"), looks := false }, kinds := [], alts := [], laidByText := true, laidKinds := [.funcs], laidTests := true, laidLooks := .later }
def LackMostUptoCardSaid : Prop := Claim7.holds Tryd.pinned (.plain (OpenSpec.upto lackMostSpec)) lackMostUptoCard

/-- THE SECOND FORM's CARD OF 'wishbooklaw10.LackMore'. -/
def lackMoreUptoCard : Claim7 := { stood := { row := lackMoreUptoRow, standIns := [], harness := (true, "1bb4399ab601d0d800adc6908fd03a463c98ac1fd8de63665c2ed8ee0fe8b3bf"), looks := false }, kinds := [], alts := [], laidByText := true, laidKinds := [.funcs], laidTests := true, laidLooks := .later }
def LackMoreUptoCardSaid : Prop := Claim7.holds Tryd.pinned (.plain (OpenSpec.upto lackMoreSpec)) lackMoreUptoCard

/-- THE SECOND FORM's CARD OF 'wishbooklaw10.LackEasier'. -/
def lackEasierUptoCard : Claim7 := { stood := { row := lackEasierUptoRow, standIns := [], harness := (true, "1bb4399ab601d0d800adc6908fd03a463c98ac1fd8de63665c2ed8ee0fe8b3bf"), looks := false }, kinds := [], alts := [], laidByText := true, laidKinds := [.funcs], laidTests := true, laidLooks := .later }
def LackEasierUptoCardSaid : Prop := Claim7.holds Tryd.pinned (.plain (OpenSpec.upto lackEasierSpec)) lackEasierUptoCard

/-- THE SECOND FORM's CARD OF 'wishbooklaw10.LackLate'. -/
def lackLateUptoCard : Claim7 := { stood := { row := lackLateUptoRow, standIns := [], harness := (true, "1bb4399ab601d0d800adc6908fd03a463c98ac1fd8de63665c2ed8ee0fe8b3bf"), looks := false }, kinds := [], alts := [], laidByText := true, laidKinds := [.funcs], laidTests := true, laidLooks := .later }
def LackLateUptoCardSaid : Prop := Claim7.holds Tryd.pinned (.plain (OpenSpec.upto lackLateSpec)) lackLateUptoCard

/-- THE SECOND FORM's CARD OF 'wishbooklaw10.LackSurely'. -/
def lackSurelyUptoCard : Claim7 := { stood := { row := lackSurelyUptoRow, standIns := [], harness := (true, "1bb4399ab601d0d800adc6908fd03a463c98ac1fd8de63665c2ed8ee0fe8b3bf"), looks := false }, kinds := [], alts := [], laidByText := true, laidKinds := [.funcs], laidTests := true, laidLooks := .later }
def LackSurelyUptoCardSaid : Prop := Claim7.holds Tryd.pinned (.plain (OpenSpec.upto lackSurelySpec)) lackSurelyUptoCard

/-- THE SECOND FORM's CARD OF 'wishbooklaw10.LackKnown'. -/
def lackKnownUptoCard : Claim7 := { stood := { row := lackKnownUptoRow, standIns := [], harness := (true, "1bb4399ab601d0d800adc6908fd03a463c98ac1fd8de63665c2ed8ee0fe8b3bf"), looks := false }, kinds := [], alts := [], laidByText := true, laidKinds := [.funcs], laidTests := true, laidLooks := .later }
def LackKnownUptoCardSaid : Prop := Claim7.holds Tryd.pinned (.plain (OpenSpec.upto lackKnownSpec)) lackKnownUptoCard
end Rows
end Go.Proofs.YtegpepnmnlockaaDoor
