/-
  DERIVED. GIVEN WITH THE SEED: THE CARDS: each row of YtbhijlhlopljmaaDoorRows.lean that lists a variable, with what it lists TIED to the program's text (the seventh form; the later family's looks); each row that meets fmt, with fmt's text TOLD by the authors' own Lean function (tested against real Go, not proved from fmt's source: count such statements apart). THE CARD IS WHAT COUNTS. Prove the row's statement (the work); the ties are given (YtbhijlhlopljmaaDoorTie.lean); close each card by the builder's one call (the guide's Derived/Test/ToyasCard.lean, 'card_holds'). Laid BY PROGRAM, IN A SANDBOX (cutbox-door.mjs). By AI agents, Wed Nov 11 2026. No macro, syntax, notation, axiom, sorry.
-/
import Derived.Test.YtbhijlhlopljmaaDoorRows
import GoSem.ClaimSeven
namespace Go.Proofs.YtbhijlhlopljmaaDoor
namespace Rows

/-- THE TIED CARD OF 'laws.FnExactNoteText'. -/
def fnExactNoteTextCard : Claim7 := { stood := { row := fnExactNoteTextRow, standIns := [], harness := (true, "2d2c4504bb7432f04d27d6ef3d159fa07d727354bbb8d823f9b37736c6428f19"), looks := false }, kinds := [], alts := [], laidByText := true, laidKinds := [.data, .data, .data], laidTests := true, laidLooks := .later }
def FnExactNoteTextCardSaid : Prop := Claim7.holds Tryd.pinned (.plain (OpenSpec.ofChange fnExactNoteTextSpec)) fnExactNoteTextCard

/-- THE TIED CARD OF 'laws.FnExactPanelsText'. -/
def fnExactPanelsTextCard : Claim7 := { stood := { row := fnExactPanelsTextRow, standIns := [], harness := (true, "2d2c4504bb7432f04d27d6ef3d159fa07d727354bbb8d823f9b37736c6428f19"), looks := false }, kinds := [], alts := [], laidByText := true, laidKinds := [.data, .data, .data], laidTests := true, laidLooks := .later }
def FnExactPanelsTextCardSaid : Prop := Claim7.holds Tryd.pinned (.plain (OpenSpec.ofChange fnExactPanelsTextSpec)) fnExactPanelsTextCard

/-- THE TIED CARD OF 'laws.FnExactReefText'. -/
def fnExactReefTextCard : Claim7 := { stood := { row := fnExactReefTextRow, standIns := [], harness := (true, "2d2c4504bb7432f04d27d6ef3d159fa07d727354bbb8d823f9b37736c6428f19"), looks := false }, kinds := [], alts := [], laidByText := true, laidKinds := [.data, .data, .data], laidTests := true, laidLooks := .later }
def FnExactReefTextCardSaid : Prop := Claim7.holds Tryd.pinned (.plain (OpenSpec.ofChange fnExactReefTextSpec)) fnExactReefTextCard

/-- THE TIED CARD OF 'laws.FnExactReadReefing'. -/
def fnExactReadReefingCard : Claim7 := { stood := { row := fnExactReadReefingRow, standIns := [], harness := (true, "2d2c4504bb7432f04d27d6ef3d159fa07d727354bbb8d823f9b37736c6428f19"), looks := false }, kinds := [], alts := [], laidByText := true, laidKinds := [.data, .data, .data, .data, .pinned], laidTests := true, laidLooks := .later }
def FnExactReadReefingCardSaid : Prop := Claim7.holds Tryd.pinned (.plain (OpenSpec.ofChange fnExactReadReefingSpec)) fnExactReadReefingCard

/-- THE SECOND FORM's CARD OF 'laws.FnExactNoteText'. -/
def fnExactNoteTextUptoCard : Claim7 := { stood := { row := fnExactNoteTextUptoRow, standIns := [], harness := (true, "2d2c4504bb7432f04d27d6ef3d159fa07d727354bbb8d823f9b37736c6428f19"), looks := false }, kinds := [], alts := [], laidByText := true, laidKinds := [.data, .data, .data], laidTests := true, laidLooks := .later }
def FnExactNoteTextUptoCardSaid : Prop := Claim7.holds Tryd.pinned (.plain (OpenSpec.upto fnExactNoteTextSpec)) fnExactNoteTextUptoCard

/-- THE SECOND FORM's CARD OF 'laws.FnExactPanelsText'. -/
def fnExactPanelsTextUptoCard : Claim7 := { stood := { row := fnExactPanelsTextUptoRow, standIns := [], harness := (true, "2d2c4504bb7432f04d27d6ef3d159fa07d727354bbb8d823f9b37736c6428f19"), looks := false }, kinds := [], alts := [], laidByText := true, laidKinds := [.data, .data, .data], laidTests := true, laidLooks := .later }
def FnExactPanelsTextUptoCardSaid : Prop := Claim7.holds Tryd.pinned (.plain (OpenSpec.upto fnExactPanelsTextSpec)) fnExactPanelsTextUptoCard

/-- THE SECOND FORM's CARD OF 'laws.FnExactReefText'. -/
def fnExactReefTextUptoCard : Claim7 := { stood := { row := fnExactReefTextUptoRow, standIns := [], harness := (true, "2d2c4504bb7432f04d27d6ef3d159fa07d727354bbb8d823f9b37736c6428f19"), looks := false }, kinds := [], alts := [], laidByText := true, laidKinds := [.data, .data, .data], laidTests := true, laidLooks := .later }
def FnExactReefTextUptoCardSaid : Prop := Claim7.holds Tryd.pinned (.plain (OpenSpec.upto fnExactReefTextSpec)) fnExactReefTextUptoCard

/-- THE SECOND FORM's CARD OF 'laws.FnExactReadReefing'. -/
def fnExactReadReefingUptoCard : Claim7 := { stood := { row := fnExactReadReefingUptoRow, standIns := [], harness := (true, "2d2c4504bb7432f04d27d6ef3d159fa07d727354bbb8d823f9b37736c6428f19"), looks := false }, kinds := [], alts := [], laidByText := true, laidKinds := [.data, .data, .data, .data, .pinned], laidTests := true, laidLooks := .later }
def FnExactReadReefingUptoCardSaid : Prop := Claim7.holds Tryd.pinned (.plain (OpenSpec.upto fnExactReadReefingSpec)) fnExactReadReefingUptoCard
end Rows
end Go.Proofs.YtbhijlhlopljmaaDoor
