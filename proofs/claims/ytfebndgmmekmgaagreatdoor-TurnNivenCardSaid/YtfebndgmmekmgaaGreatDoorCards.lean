/-
  DERIVED. GIVEN WITH THE SEED: THE CARDS: each row of YtfebndgmmekmgaaGreatDoorRows.lean that lists a variable, with what it lists TIED to the program's text (the seventh form; the later family's looks); each row that meets fmt, with fmt's text TOLD by the authors' own Lean function (tested against real Go, not proved from fmt's source: count such statements apart). THE CARD IS WHAT COUNTS. Prove the row's statement (the work); the ties are given (YtfebndgmmekmgaaGreatDoorTie.lean); close each card by the builder's one call (the guide's Derived/Test/ToyasCard.lean, 'card_holds'). Laid BY PROGRAM, IN A SANDBOX (cutbox-door.mjs). By AI agents, Wed Nov 11 2026. No macro, syntax, notation, axiom, sorry.
-/
import Derived.Test.YtfebndgmmekmgaaGreatDoorRows
import GoSem.ClaimSeven
namespace Go.Proofs.YtfebndgmmekmgaaGreatDoor
namespace Rows

/-- THE TIED CARD OF 'gnomonlaw17.TurnReduces'. -/
def turnReducesCard : Claim7 := { stood := { row := turnReducesRow, standIns := [], harness := (true, "64af3fbfe62da49016023b121107b3be52603ac9de41b18cc293005b671732c9"), looks := false }, kinds := [], alts := [], laidByText := true, laidKinds := [.data], laidTests := true, laidLooks := .later }
def TurnReducesCardSaid : Prop := Claim7.holds Tryz.pinned (.plain (OpenSpec.ofChange turnReducesSpec)) turnReducesCard

/-- THE TIED CARD OF 'gnomonlaw17.TurnExacts'. -/
def turnExactsCard : Claim7 := { stood := { row := turnExactsRow, standIns := [], harness := (true, "64af3fbfe62da49016023b121107b3be52603ac9de41b18cc293005b671732c9"), looks := false }, kinds := [], alts := [], laidByText := true, laidKinds := [.data], laidTests := true, laidLooks := .later }
def TurnExactsCardSaid : Prop := Claim7.holds Tryz.pinned (.plain (OpenSpec.ofChange turnExactsSpec)) turnExactsCard

/-- THE TIED CARD OF 'gnomonlaw17.TurnSplits'. -/
def turnSplitsCard : Claim7 := { stood := { row := turnSplitsRow, standIns := [], harness := (true, "64af3fbfe62da49016023b121107b3be52603ac9de41b18cc293005b671732c9"), looks := false }, kinds := [], alts := [], laidByText := true, laidKinds := [.data], laidTests := true, laidLooks := .later }
def TurnSplitsCardSaid : Prop := Claim7.holds Tryz.pinned (.plain (OpenSpec.ofChange turnSplitsSpec)) turnSplitsCard

/-- THE TIED CARD OF 'gnomonlaw17.TurnNiven'. -/
def turnNivenCard : Claim7 := { stood := { row := turnNivenRow, standIns := [], harness := (true, "64af3fbfe62da49016023b121107b3be52603ac9de41b18cc293005b671732c9"), looks := false }, kinds := [], alts := [], laidByText := true, laidKinds := [.data], laidTests := true, laidLooks := .later }
def TurnNivenCardSaid : Prop := Claim7.holds Tryz.pinned (.plain (OpenSpec.ofChange turnNivenSpec)) turnNivenCard

/-- THE TIED CARD OF 'gnomonlaw17.TurnMirrors'. -/
def turnMirrorsCard : Claim7 := { stood := { row := turnMirrorsRow, standIns := [], harness := (true, "64af3fbfe62da49016023b121107b3be52603ac9de41b18cc293005b671732c9"), looks := false }, kinds := [], alts := [], laidByText := true, laidKinds := [.data], laidTests := true, laidLooks := .later }
def TurnMirrorsCardSaid : Prop := Claim7.holds Tryz.pinned (.plain (OpenSpec.ofChange turnMirrorsSpec)) turnMirrorsCard

/-- THE SECOND FORM's CARD OF 'gnomonlaw17.TurnReduces'. -/
def turnReducesUptoCard : Claim7 := { stood := { row := turnReducesUptoRow, standIns := [], harness := (true, "64af3fbfe62da49016023b121107b3be52603ac9de41b18cc293005b671732c9"), looks := false }, kinds := [], alts := [], laidByText := true, laidKinds := [.data], laidTests := true, laidLooks := .later }
def TurnReducesUptoCardSaid : Prop := Claim7.holds Tryz.pinned (.plain (OpenSpec.upto turnReducesSpec)) turnReducesUptoCard

/-- THE SECOND FORM's CARD OF 'gnomonlaw17.TurnExacts'. -/
def turnExactsUptoCard : Claim7 := { stood := { row := turnExactsUptoRow, standIns := [], harness := (true, "64af3fbfe62da49016023b121107b3be52603ac9de41b18cc293005b671732c9"), looks := false }, kinds := [], alts := [], laidByText := true, laidKinds := [.data], laidTests := true, laidLooks := .later }
def TurnExactsUptoCardSaid : Prop := Claim7.holds Tryz.pinned (.plain (OpenSpec.upto turnExactsSpec)) turnExactsUptoCard

/-- THE SECOND FORM's CARD OF 'gnomonlaw17.TurnSplits'. -/
def turnSplitsUptoCard : Claim7 := { stood := { row := turnSplitsUptoRow, standIns := [], harness := (true, "64af3fbfe62da49016023b121107b3be52603ac9de41b18cc293005b671732c9"), looks := false }, kinds := [], alts := [], laidByText := true, laidKinds := [.data], laidTests := true, laidLooks := .later }
def TurnSplitsUptoCardSaid : Prop := Claim7.holds Tryz.pinned (.plain (OpenSpec.upto turnSplitsSpec)) turnSplitsUptoCard

/-- THE SECOND FORM's CARD OF 'gnomonlaw17.TurnNiven'. -/
def turnNivenUptoCard : Claim7 := { stood := { row := turnNivenUptoRow, standIns := [], harness := (true, "64af3fbfe62da49016023b121107b3be52603ac9de41b18cc293005b671732c9"), looks := false }, kinds := [], alts := [], laidByText := true, laidKinds := [.data], laidTests := true, laidLooks := .later }
def TurnNivenUptoCardSaid : Prop := Claim7.holds Tryz.pinned (.plain (OpenSpec.upto turnNivenSpec)) turnNivenUptoCard

/-- THE SECOND FORM's CARD OF 'gnomonlaw17.TurnMirrors'. -/
def turnMirrorsUptoCard : Claim7 := { stood := { row := turnMirrorsUptoRow, standIns := [], harness := (true, "64af3fbfe62da49016023b121107b3be52603ac9de41b18cc293005b671732c9"), looks := false }, kinds := [], alts := [], laidByText := true, laidKinds := [.data], laidTests := true, laidLooks := .later }
def TurnMirrorsUptoCardSaid : Prop := Claim7.holds Tryz.pinned (.plain (OpenSpec.upto turnMirrorsSpec)) turnMirrorsUptoCard
end Rows
end Go.Proofs.YtfebndgmmekmgaaGreatDoor
