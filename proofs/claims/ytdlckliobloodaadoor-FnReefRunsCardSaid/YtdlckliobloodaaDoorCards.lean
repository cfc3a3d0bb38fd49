/-
  DERIVED. GIVEN WITH THE SEED: THE CARDS: each row of YtdlckliobloodaaDoorRows.lean that lists a variable, with what it lists TIED to the program's text (the seventh form; the later family's looks); each row that meets fmt, with fmt's text TOLD by the authors' own Lean function (tested against real Go, not proved from fmt's source: count such statements apart). THE CARD IS WHAT COUNTS. Prove the row's statement (the work); the ties are given (YtdlckliobloodaaDoorTie.lean); close each card by the builder's one call (the guide's Derived/Test/ToyasCard.lean, 'card_holds'). Laid BY PROGRAM, IN A SANDBOX (cutbox-door.mjs). By AI agents, Wed Nov 11 2026. No macro, syntax, notation, axiom, sorry.
-/
import Derived.Test.YtdlckliobloodaaDoorRows
import GoSem.ClaimSeven
namespace Go.Proofs.YtdlckliobloodaaDoor
namespace Rows

/-- THE TIED CARD OF 'laws.FnExactPlanText'. -/
def fnExactPlanTextCard : Claim7 := { stood := { row := fnExactPlanTextRow, standIns := [], harness := (true, "4fb63a8da6f1c0f983c1b4a779d092e314afd14abae4329ca1200194fbd51977"), looks := false }, kinds := [], alts := [], laidByText := true, laidKinds := [.data, .data, .data], laidTests := true, laidLooks := .later }
def FnExactPlanTextCardSaid : Prop := Claim7.holds Tryd.pinned (.plain (OpenSpec.ofChange fnExactPlanTextSpec)) fnExactPlanTextCard

/-- THE TIED CARD OF 'laws.FnReefRuns'. -/
def fnReefRunsCard : Claim7 := { stood := { row := fnReefRunsRow, standIns := [], harness := (true, "4fb63a8da6f1c0f983c1b4a779d092e314afd14abae4329ca1200194fbd51977"), looks := false }, kinds := [], alts := [], laidByText := true, laidKinds := [.data, .data, .data, .data, .pinned], laidTests := true, laidLooks := .later }
def FnReefRunsCardSaid : Prop := Claim7.holds Tryd.pinned (.plain (OpenSpec.ofChange fnReefRunsSpec)) fnReefRunsCard

/-- THE SECOND FORM's CARD OF 'laws.FnExactPlanText'. -/
def fnExactPlanTextUptoCard : Claim7 := { stood := { row := fnExactPlanTextUptoRow, standIns := [], harness := (true, "4fb63a8da6f1c0f983c1b4a779d092e314afd14abae4329ca1200194fbd51977"), looks := false }, kinds := [], alts := [], laidByText := true, laidKinds := [.data, .data, .data], laidTests := true, laidLooks := .later }
def FnExactPlanTextUptoCardSaid : Prop := Claim7.holds Tryd.pinned (.plain (OpenSpec.upto fnExactPlanTextSpec)) fnExactPlanTextUptoCard

/-- THE SECOND FORM's CARD OF 'laws.FnReefRuns'. -/
def fnReefRunsUptoCard : Claim7 := { stood := { row := fnReefRunsUptoRow, standIns := [], harness := (true, "4fb63a8da6f1c0f983c1b4a779d092e314afd14abae4329ca1200194fbd51977"), looks := false }, kinds := [], alts := [], laidByText := true, laidKinds := [.data, .data, .data, .data, .pinned], laidTests := true, laidLooks := .later }
def FnReefRunsUptoCardSaid : Prop := Claim7.holds Tryd.pinned (.plain (OpenSpec.upto fnReefRunsSpec)) fnReefRunsUptoCard
end Rows
end Go.Proofs.YtdlckliobloodaaDoor
