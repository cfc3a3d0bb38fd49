/-
  DERIVED. GIVEN WITH THE SEED: THE CARDS: each row of YtendpecnfaojkaaDoorRows.lean that lists a variable, with what it lists TIED to the program's text (the seventh form; the later family's looks); each row that meets fmt, with fmt's text TOLD by the authors' own Lean function (tested against real Go, not proved from fmt's source: count such statements apart). THE CARD IS WHAT COUNTS. Prove the row's statement (the work); the ties are given (YtendpecnfaojkaaDoorTie.lean); close each card by the builder's one call (the guide's Derived/Test/ToyasCard.lean, 'card_holds'). Laid BY PROGRAM, IN A SANDBOX (cutbox-door.mjs). By AI agents, Wed Nov 11 2026. No macro, syntax, notation, axiom, sorry.
-/
import Derived.Test.YtendpecnfaojkaaDoorRows
import GoSem.ClaimSeven
namespace Go.Proofs.YtendpecnfaojkaaDoor
namespace Rows

/-- THE TIED CARD OF 'laws.FnClothCuts'. -/
def fnClothCutsCard : Claim7 := { stood := { row := fnClothCutsRow, standIns := [], harness := (true, "6dabd194db3d42556824561b650f6648bf4c9a575e3884f6b2d7089b1a47fe0e"), looks := false }, kinds := [], alts := [], laidByText := true, laidKinds := [.data, .data, .data], laidTests := true, laidLooks := .later }
def FnClothCutsCardSaid : Prop := Claim7.holds Tryd.pinned (.plain (OpenSpec.ofChange fnClothCutsSpec)) fnClothCutsCard

/-- THE TIED CARD OF 'laws.FnExactFewestBolts'. -/
def fnExactFewestBoltsCard : Claim7 := { stood := { row := fnExactFewestBoltsRow, standIns := [], harness := (true, "6dabd194db3d42556824561b650f6648bf4c9a575e3884f6b2d7089b1a47fe0e"), looks := false }, kinds := [], alts := [], laidByText := true, laidKinds := [.data, .data, .data], laidTests := true, laidLooks := .later }
def FnExactFewestBoltsCardSaid : Prop := Claim7.holds Tryd.pinned (.plain (OpenSpec.ofChange fnExactFewestBoltsSpec)) fnExactFewestBoltsCard

/-- THE SECOND FORM's CARD OF 'laws.FnClothCuts'. -/
def fnClothCutsUptoCard : Claim7 := { stood := { row := fnClothCutsUptoRow, standIns := [], harness := (true, "6dabd194db3d42556824561b650f6648bf4c9a575e3884f6b2d7089b1a47fe0e"), looks := false }, kinds := [], alts := [], laidByText := true, laidKinds := [.data, .data, .data], laidTests := true, laidLooks := .later }
def FnClothCutsUptoCardSaid : Prop := Claim7.holds Tryd.pinned (.plain (OpenSpec.upto fnClothCutsSpec)) fnClothCutsUptoCard

/-- THE SECOND FORM's CARD OF 'laws.FnExactFewestBolts'. -/
def fnExactFewestBoltsUptoCard : Claim7 := { stood := { row := fnExactFewestBoltsUptoRow, standIns := [], harness := (true, "6dabd194db3d42556824561b650f6648bf4c9a575e3884f6b2d7089b1a47fe0e"), looks := false }, kinds := [], alts := [], laidByText := true, laidKinds := [.data, .data, .data], laidTests := true, laidLooks := .later }
def FnExactFewestBoltsUptoCardSaid : Prop := Claim7.holds Tryd.pinned (.plain (OpenSpec.upto fnExactFewestBoltsSpec)) fnExactFewestBoltsUptoCard
end Rows
end Go.Proofs.YtendpecnfaojkaaDoor
