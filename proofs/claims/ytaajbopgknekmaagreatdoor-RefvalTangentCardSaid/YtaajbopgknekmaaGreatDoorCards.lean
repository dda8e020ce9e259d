/-
  DERIVED. GIVEN WITH THE SEED: THE CARDS: each row of YtaajbopgknekmaaGreatDoorRows.lean that lists a variable, with what it lists TIED to the program's text (the seventh form; the later family's looks); each row that meets fmt, with fmt's text TOLD by the authors' own Lean function (tested against real Go, not proved from fmt's source: count such statements apart). THE CARD IS WHAT COUNTS. Prove the row's statement (the work); the ties are given (YtaajbopgknekmaaGreatDoorTie.lean); close each card by the builder's one call (the guide's Derived/Test/ToyasCard.lean, 'card_holds'). Laid BY PROGRAM, IN A SANDBOX (cutbox-door.mjs). By AI agents, Wed Nov 11 2026. No macro, syntax, notation, axiom, sorry.
-/
import Derived.Test.YtaajbopgknekmaaGreatDoorRows
import GoSem.ClaimSeven
namespace Go.Proofs.YtaajbopgknekmaaGreatDoor
namespace Rows

/-- THE TIED CARD OF 'gnomonlaw16.RefvalSigns'. -/
def refvalSignsCard : Claim7 := { stood := { row := refvalSignsRow, standIns := [], harness := (true, "334d24396d61ff7d0d59c24a9ef2fa5a84edca902a5fcbce3b30774da2ff2297"), looks := false }, kinds := [], alts := [], laidByText := true, laidKinds := [.data], laidTests := true, laidLooks := .later }
def RefvalSignsCardSaid : Prop := Claim7.holds Tryz.pinned (.plain (OpenSpec.ofChange refvalSignsSpec)) refvalSignsCard

/-- THE TIED CARD OF 'gnomonlaw16.RefvalEncloses'. -/
def refvalEnclosesCard : Claim7 := { stood := { row := refvalEnclosesRow, standIns := [], harness := (true, "334d24396d61ff7d0d59c24a9ef2fa5a84edca902a5fcbce3b30774da2ff2297"), looks := false }, kinds := [], alts := [], laidByText := true, laidKinds := [.data], laidTests := true, laidLooks := .later }
def RefvalEnclosesCardSaid : Prop := Claim7.holds Tryz.pinned (.plain (OpenSpec.ofChange refvalEnclosesSpec)) refvalEnclosesCard

/-- THE TIED CARD OF 'gnomonlaw16.RefvalAll'. -/
def refvalAllCard : Claim7 := { stood := { row := refvalAllRow, standIns := [], harness := (true, "334d24396d61ff7d0d59c24a9ef2fa5a84edca902a5fcbce3b30774da2ff2297"), looks := false }, kinds := [], alts := [], laidByText := true, laidKinds := [.data], laidTests := true, laidLooks := .later }
def RefvalAllCardSaid : Prop := Claim7.holds Tryz.pinned (.plain (OpenSpec.ofChange refvalAllSpec)) refvalAllCard

/-- THE TIED CARD OF 'gnomonlaw16.RefvalKeeps'. -/
def refvalKeepsCard : Claim7 := { stood := { row := refvalKeepsRow, standIns := [], harness := (true, "334d24396d61ff7d0d59c24a9ef2fa5a84edca902a5fcbce3b30774da2ff2297"), looks := false }, kinds := [], alts := [], laidByText := true, laidKinds := [.data], laidTests := true, laidLooks := .later }
def RefvalKeepsCardSaid : Prop := Claim7.holds Tryz.pinned (.plain (OpenSpec.ofChange refvalKeepsSpec)) refvalKeepsCard

/-- THE TIED CARD OF 'gnomonlaw16.RefvalMeets'. -/
def refvalMeetsCard : Claim7 := { stood := { row := refvalMeetsRow, standIns := [], harness := (true, "334d24396d61ff7d0d59c24a9ef2fa5a84edca902a5fcbce3b30774da2ff2297"), looks := false }, kinds := [], alts := [], laidByText := true, laidKinds := [.data], laidTests := true, laidLooks := .later }
def RefvalMeetsCardSaid : Prop := Claim7.holds Tryz.pinned (.plain (OpenSpec.ofChange refvalMeetsSpec)) refvalMeetsCard

/-- THE TIED CARD OF 'gnomonlaw16.RefvalMirrors'. -/
def refvalMirrorsCard : Claim7 := { stood := { row := refvalMirrorsRow, standIns := [], harness := (true, "334d24396d61ff7d0d59c24a9ef2fa5a84edca902a5fcbce3b30774da2ff2297"), looks := false }, kinds := [], alts := [], laidByText := true, laidKinds := [.data], laidTests := true, laidLooks := .later }
def RefvalMirrorsCardSaid : Prop := Claim7.holds Tryz.pinned (.plain (OpenSpec.ofChange refvalMirrorsSpec)) refvalMirrorsCard

/-- THE TIED CARD OF 'gnomonlaw16.RefvalTangent'. -/
def refvalTangentCard : Claim7 := { stood := { row := refvalTangentRow, standIns := [], harness := (true, "334d24396d61ff7d0d59c24a9ef2fa5a84edca902a5fcbce3b30774da2ff2297"), looks := false }, kinds := [], alts := [], laidByText := true, laidKinds := [.data], laidTests := true, laidLooks := .later }
def RefvalTangentCardSaid : Prop := Claim7.holds Tryz.pinned (.plain (OpenSpec.ofChange refvalTangentSpec)) refvalTangentCard

/-- THE TIED CARD OF 'gnomonlaw16.RefvalCircle'. -/
def refvalCircleCard : Claim7 := { stood := { row := refvalCircleRow, standIns := [], harness := (true, "334d24396d61ff7d0d59c24a9ef2fa5a84edca902a5fcbce3b30774da2ff2297"), looks := false }, kinds := [], alts := [], laidByText := true, laidKinds := [.data], laidTests := true, laidLooks := .later }
def RefvalCircleCardSaid : Prop := Claim7.holds Tryz.pinned (.plain (OpenSpec.ofChange refvalCircleSpec)) refvalCircleCard

/-- THE SECOND FORM's CARD OF 'gnomonlaw16.RefvalSigns'. -/
def refvalSignsUptoCard : Claim7 := { stood := { row := refvalSignsUptoRow, standIns := [], harness := (true, "334d24396d61ff7d0d59c24a9ef2fa5a84edca902a5fcbce3b30774da2ff2297"), looks := false }, kinds := [], alts := [], laidByText := true, laidKinds := [.data], laidTests := true, laidLooks := .later }
def RefvalSignsUptoCardSaid : Prop := Claim7.holds Tryz.pinned (.plain (OpenSpec.upto refvalSignsSpec)) refvalSignsUptoCard

/-- THE SECOND FORM's CARD OF 'gnomonlaw16.RefvalEncloses'. -/
def refvalEnclosesUptoCard : Claim7 := { stood := { row := refvalEnclosesUptoRow, standIns := [], harness := (true, "334d24396d61ff7d0d59c24a9ef2fa5a84edca902a5fcbce3b30774da2ff2297"), looks := false }, kinds := [], alts := [], laidByText := true, laidKinds := [.data], laidTests := true, laidLooks := .later }
def RefvalEnclosesUptoCardSaid : Prop := Claim7.holds Tryz.pinned (.plain (OpenSpec.upto refvalEnclosesSpec)) refvalEnclosesUptoCard

/-- THE SECOND FORM's CARD OF 'gnomonlaw16.RefvalAll'. -/
def refvalAllUptoCard : Claim7 := { stood := { row := refvalAllUptoRow, standIns := [], harness := (true, "334d24396d61ff7d0d59c24a9ef2fa5a84edca902a5fcbce3b30774da2ff2297"), looks := false }, kinds := [], alts := [], laidByText := true, laidKinds := [.data], laidTests := true, laidLooks := .later }
def RefvalAllUptoCardSaid : Prop := Claim7.holds Tryz.pinned (.plain (OpenSpec.upto refvalAllSpec)) refvalAllUptoCard

/-- THE SECOND FORM's CARD OF 'gnomonlaw16.RefvalKeeps'. -/
def refvalKeepsUptoCard : Claim7 := { stood := { row := refvalKeepsUptoRow, standIns := [], harness := (true, "334d24396d61ff7d0d59c24a9ef2fa5a84edca902a5fcbce3b30774da2ff2297"), looks := false }, kinds := [], alts := [], laidByText := true, laidKinds := [.data], laidTests := true, laidLooks := .later }
def RefvalKeepsUptoCardSaid : Prop := Claim7.holds Tryz.pinned (.plain (OpenSpec.upto refvalKeepsSpec)) refvalKeepsUptoCard

/-- THE SECOND FORM's CARD OF 'gnomonlaw16.RefvalMeets'. -/
def refvalMeetsUptoCard : Claim7 := { stood := { row := refvalMeetsUptoRow, standIns := [], harness := (true, "334d24396d61ff7d0d59c24a9ef2fa5a84edca902a5fcbce3b30774da2ff2297"), looks := false }, kinds := [], alts := [], laidByText := true, laidKinds := [.data], laidTests := true, laidLooks := .later }
def RefvalMeetsUptoCardSaid : Prop := Claim7.holds Tryz.pinned (.plain (OpenSpec.upto refvalMeetsSpec)) refvalMeetsUptoCard

/-- THE SECOND FORM's CARD OF 'gnomonlaw16.RefvalMirrors'. -/
def refvalMirrorsUptoCard : Claim7 := { stood := { row := refvalMirrorsUptoRow, standIns := [], harness := (true, "334d24396d61ff7d0d59c24a9ef2fa5a84edca902a5fcbce3b30774da2ff2297"), looks := false }, kinds := [], alts := [], laidByText := true, laidKinds := [.data], laidTests := true, laidLooks := .later }
def RefvalMirrorsUptoCardSaid : Prop := Claim7.holds Tryz.pinned (.plain (OpenSpec.upto refvalMirrorsSpec)) refvalMirrorsUptoCard

/-- THE SECOND FORM's CARD OF 'gnomonlaw16.RefvalTangent'. -/
def refvalTangentUptoCard : Claim7 := { stood := { row := refvalTangentUptoRow, standIns := [], harness := (true, "334d24396d61ff7d0d59c24a9ef2fa5a84edca902a5fcbce3b30774da2ff2297"), looks := false }, kinds := [], alts := [], laidByText := true, laidKinds := [.data], laidTests := true, laidLooks := .later }
def RefvalTangentUptoCardSaid : Prop := Claim7.holds Tryz.pinned (.plain (OpenSpec.upto refvalTangentSpec)) refvalTangentUptoCard

/-- THE SECOND FORM's CARD OF 'gnomonlaw16.RefvalCircle'. -/
def refvalCircleUptoCard : Claim7 := { stood := { row := refvalCircleUptoRow, standIns := [], harness := (true, "334d24396d61ff7d0d59c24a9ef2fa5a84edca902a5fcbce3b30774da2ff2297"), looks := false }, kinds := [], alts := [], laidByText := true, laidKinds := [.data], laidTests := true, laidLooks := .later }
def RefvalCircleUptoCardSaid : Prop := Claim7.holds Tryz.pinned (.plain (OpenSpec.upto refvalCircleSpec)) refvalCircleUptoCard
end Rows
end Go.Proofs.YtaajbopgknekmaaGreatDoor
