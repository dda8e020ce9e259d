/-
  DERIVED. GIVEN WITH THE SEED: THE CARDS: each row of YtcnlagnipklcmaaGreatDoorRows.lean that lists a variable, with what it lists TIED to the program's text (the seventh form; the later family's looks); each row that meets fmt, with fmt's text TOLD by the authors' own Lean function (tested against real Go, not proved from fmt's source: count such statements apart). THE CARD IS WHAT COUNTS. Prove the row's statement (the work); the ties are given (YtcnlagnipklcmaaGreatDoorTie.lean); close each card by the builder's one call (the guide's Derived/Test/ToyasCard.lean, 'card_holds'). Laid BY PROGRAM, IN A SANDBOX (cutbox-door.mjs). By AI agents, Wed Nov 11 2026. No macro, syntax, notation, axiom, sorry.
-/
import Derived.Test.YtcnlagnipklcmaaGreatDoorRows
import GoSem.ClaimSeven
namespace Go.Proofs.YtcnlagnipklcmaaGreatDoor
namespace Rows

/-- THE TIED CARD OF 'gnomonlaw16.RefvalDoubles'. -/
def refvalDoublesCard : Claim7 := { stood := { row := refvalDoublesRow, standIns := [], harness := (true, "8c975dc4d877ff6fbc6f62ed81e17c0228908761782a65d9d998db0355a8ef53"), looks := false }, kinds := [], alts := [], laidByText := true, laidKinds := [.data], laidTests := true, laidLooks := .later }
def RefvalDoublesCardSaid : Prop := Claim7.holds Tryz.pinned (.plain (OpenSpec.ofChange refvalDoublesSpec)) refvalDoublesCard

/-- THE TIED CARD OF 'gnomonlaw17.TurnRatio'. -/
def turnRatioCard : Claim7 := { stood := { row := turnRatioRow, standIns := [], harness := (true, "8c975dc4d877ff6fbc6f62ed81e17c0228908761782a65d9d998db0355a8ef53"), looks := false }, kinds := [], alts := [], laidByText := true, laidKinds := [.data], laidTests := true, laidLooks := .later }
def TurnRatioCardSaid : Prop := Claim7.holds Tryz.pinned (.plain (OpenSpec.ofChange turnRatioSpec)) turnRatioCard

/-- THE TIED CARD OF 'gnomonlaw17.TurnSquares'. -/
def turnSquaresCard : Claim7 := { stood := { row := turnSquaresRow, standIns := [], harness := (true, "8c975dc4d877ff6fbc6f62ed81e17c0228908761782a65d9d998db0355a8ef53"), looks := false }, kinds := [], alts := [], laidByText := true, laidKinds := [.data], laidTests := true, laidLooks := .later }
def TurnSquaresCardSaid : Prop := Claim7.holds Tryz.pinned (.plain (OpenSpec.ofChange turnSquaresSpec)) turnSquaresCard

/-- THE TIED CARD OF 'gnomonlaw17.TurnPeriod'. -/
def turnPeriodCard : Claim7 := { stood := { row := turnPeriodRow, standIns := [], harness := (true, "8c975dc4d877ff6fbc6f62ed81e17c0228908761782a65d9d998db0355a8ef53"), looks := false }, kinds := [], alts := [], laidByText := true, laidKinds := [.data], laidTests := true, laidLooks := .later }
def TurnPeriodCardSaid : Prop := Claim7.holds Tryz.pinned (.plain (OpenSpec.ofChange turnPeriodSpec)) turnPeriodCard

/-- THE SECOND FORM's CARD OF 'gnomonlaw16.RefvalDoubles'. -/
def refvalDoublesUptoCard : Claim7 := { stood := { row := refvalDoublesUptoRow, standIns := [], harness := (true, "8c975dc4d877ff6fbc6f62ed81e17c0228908761782a65d9d998db0355a8ef53"), looks := false }, kinds := [], alts := [], laidByText := true, laidKinds := [.data], laidTests := true, laidLooks := .later }
def RefvalDoublesUptoCardSaid : Prop := Claim7.holds Tryz.pinned (.plain (OpenSpec.upto refvalDoublesSpec)) refvalDoublesUptoCard

/-- THE SECOND FORM's CARD OF 'gnomonlaw17.TurnRatio'. -/
def turnRatioUptoCard : Claim7 := { stood := { row := turnRatioUptoRow, standIns := [], harness := (true, "8c975dc4d877ff6fbc6f62ed81e17c0228908761782a65d9d998db0355a8ef53"), looks := false }, kinds := [], alts := [], laidByText := true, laidKinds := [.data], laidTests := true, laidLooks := .later }
def TurnRatioUptoCardSaid : Prop := Claim7.holds Tryz.pinned (.plain (OpenSpec.upto turnRatioSpec)) turnRatioUptoCard

/-- THE SECOND FORM's CARD OF 'gnomonlaw17.TurnSquares'. -/
def turnSquaresUptoCard : Claim7 := { stood := { row := turnSquaresUptoRow, standIns := [], harness := (true, "8c975dc4d877ff6fbc6f62ed81e17c0228908761782a65d9d998db0355a8ef53"), looks := false }, kinds := [], alts := [], laidByText := true, laidKinds := [.data], laidTests := true, laidLooks := .later }
def TurnSquaresUptoCardSaid : Prop := Claim7.holds Tryz.pinned (.plain (OpenSpec.upto turnSquaresSpec)) turnSquaresUptoCard

/-- THE SECOND FORM's CARD OF 'gnomonlaw17.TurnPeriod'. -/
def turnPeriodUptoCard : Claim7 := { stood := { row := turnPeriodUptoRow, standIns := [], harness := (true, "8c975dc4d877ff6fbc6f62ed81e17c0228908761782a65d9d998db0355a8ef53"), looks := false }, kinds := [], alts := [], laidByText := true, laidKinds := [.data], laidTests := true, laidLooks := .later }
def TurnPeriodUptoCardSaid : Prop := Claim7.holds Tryz.pinned (.plain (OpenSpec.upto turnPeriodSpec)) turnPeriodUptoCard
end Rows
end Go.Proofs.YtcnlagnipklcmaaGreatDoor
