/-
  DERIVED. GIVEN WITH THE SEED: THE CARDS: each row of YtplagoepbghhpaaGreatDoorRows.lean that lists a variable, with what it lists TIED to the program's text (the seventh form; the later family's looks); each row that meets fmt, with fmt's text TOLD by the authors' own Lean function (tested against real Go, not proved from fmt's source: count such statements apart). THE CARD IS WHAT COUNTS. Prove the row's statement (the work); the ties are given (YtplagoepbghhpaaGreatDoorTie.lean); close each card by the builder's one call (the guide's Derived/Test/ToyasCard.lean, 'card_holds'). Laid BY PROGRAM, IN A SANDBOX (cutbox-door.mjs). By AI agents, Wed Nov 11 2026. No macro, syntax, notation, axiom, sorry.
-/
import Derived.Test.YtplagoepbghhpaaGreatDoorRows
import GoSem.ClaimSeven
namespace Go.Proofs.YtplagoepbghhpaaGreatDoor
namespace Rows

/-- THE TIED CARD OF 'gnomonlaw17.TurnPeriod'. -/
def turnPeriodCard : Claim7 := { stood := { row := turnPeriodRow, standIns := [], harness := (true, "f60eae42a091c11c7e0314fd38a91fdc317be189011074e2bf3b49ae53dcd58e"), looks := true }, kinds := [], alts := [], laidByText := true, laidKinds := [.data], laidTests := true, laidLooks := .later }
def TurnPeriodCardSaid : Prop := Claim7.holds Tryz.pinned (.plain (OpenSpec.ofChange turnPeriodSpec)) turnPeriodCard

/-- THE TIED CARD OF 'gnomonlaw18.ZivLadders'. -/
def zivLaddersCard : Claim7 := { stood := { row := zivLaddersRow, standIns := [], harness := (true, "f60eae42a091c11c7e0314fd38a91fdc317be189011074e2bf3b49ae53dcd58e"), looks := true }, kinds := [], alts := [], laidByText := true, laidKinds := [.data], laidTests := true, laidLooks := .later }
def ZivLaddersCardSaid : Prop := Claim7.holds Tryz.pinned (.plain (OpenSpec.ofChange zivLaddersSpec)) zivLaddersCard

/-- THE TIED CARD OF 'gnomonlaw18.ZivFixed'. -/
def zivFixedCard : Claim7 := { stood := { row := zivFixedRow, standIns := [], harness := (true, "f60eae42a091c11c7e0314fd38a91fdc317be189011074e2bf3b49ae53dcd58e"), looks := true }, kinds := [], alts := [], laidByText := true, laidKinds := [.data], laidTests := true, laidLooks := .later }
def ZivFixedCardSaid : Prop := Claim7.holds Tryz.pinned (.plain (OpenSpec.ofChange zivFixedSpec)) zivFixedCard

/-- THE TIED CARD OF 'gnomonlaw18.ZivOdd'. -/
def zivOddCard : Claim7 := { stood := { row := zivOddRow, standIns := [], harness := (true, "f60eae42a091c11c7e0314fd38a91fdc317be189011074e2bf3b49ae53dcd58e"), looks := true }, kinds := [], alts := [], laidByText := true, laidKinds := [.data], laidTests := true, laidLooks := .later }
def ZivOddCardSaid : Prop := Claim7.holds Tryz.pinned (.plain (OpenSpec.ofChange zivOddSpec)) zivOddCard

/-- THE TIED CARD OF 'gnomonlaw18.ZivNarrows'. -/
def zivNarrowsCard : Claim7 := { stood := { row := zivNarrowsRow, standIns := [], harness := (true, "f60eae42a091c11c7e0314fd38a91fdc317be189011074e2bf3b49ae53dcd58e"), looks := true }, kinds := [], alts := [], laidByText := true, laidKinds := [.data], laidTests := true, laidLooks := .later }
def ZivNarrowsCardSaid : Prop := Claim7.holds Tryz.pinned (.plain (OpenSpec.ofChange zivNarrowsSpec)) zivNarrowsCard

/-- THE TIED CARD OF 'gnomonlaw18.ZivRises'. -/
def zivRisesCard : Claim7 := { stood := { row := zivRisesRow, standIns := [], harness := (true, "f60eae42a091c11c7e0314fd38a91fdc317be189011074e2bf3b49ae53dcd58e"), looks := true }, kinds := [], alts := [], laidByText := true, laidKinds := [.data], laidTests := true, laidLooks := .later }
def ZivRisesCardSaid : Prop := Claim7.holds Tryz.pinned (.plain (OpenSpec.ofChange zivRisesSpec)) zivRisesCard

/-- THE TIED CARD OF 'gnomonlaw18.ZivTurns'. -/
def zivTurnsCard : Claim7 := { stood := { row := zivTurnsRow, standIns := [], harness := (true, "f60eae42a091c11c7e0314fd38a91fdc317be189011074e2bf3b49ae53dcd58e"), looks := true }, kinds := [], alts := [], laidByText := true, laidKinds := [.data], laidTests := true, laidLooks := .later }
def ZivTurnsCardSaid : Prop := Claim7.holds Tryz.pinned (.plain (OpenSpec.ofChange zivTurnsSpec)) zivTurnsCard

/-- THE SECOND FORM's CARD OF 'gnomonlaw17.TurnPeriod'. -/
def turnPeriodUptoCard : Claim7 := { stood := { row := turnPeriodUptoRow, standIns := [], harness := (true, "f60eae42a091c11c7e0314fd38a91fdc317be189011074e2bf3b49ae53dcd58e"), looks := true }, kinds := [], alts := [], laidByText := true, laidKinds := [.data], laidTests := true, laidLooks := .later }
def TurnPeriodUptoCardSaid : Prop := Claim7.holds Tryz.pinned (.plain (OpenSpec.upto turnPeriodSpec)) turnPeriodUptoCard

/-- THE SECOND FORM's CARD OF 'gnomonlaw18.ZivLadders'. -/
def zivLaddersUptoCard : Claim7 := { stood := { row := zivLaddersUptoRow, standIns := [], harness := (true, "f60eae42a091c11c7e0314fd38a91fdc317be189011074e2bf3b49ae53dcd58e"), looks := true }, kinds := [], alts := [], laidByText := true, laidKinds := [.data], laidTests := true, laidLooks := .later }
def ZivLaddersUptoCardSaid : Prop := Claim7.holds Tryz.pinned (.plain (OpenSpec.upto zivLaddersSpec)) zivLaddersUptoCard

/-- THE SECOND FORM's CARD OF 'gnomonlaw18.ZivFixed'. -/
def zivFixedUptoCard : Claim7 := { stood := { row := zivFixedUptoRow, standIns := [], harness := (true, "f60eae42a091c11c7e0314fd38a91fdc317be189011074e2bf3b49ae53dcd58e"), looks := true }, kinds := [], alts := [], laidByText := true, laidKinds := [.data], laidTests := true, laidLooks := .later }
def ZivFixedUptoCardSaid : Prop := Claim7.holds Tryz.pinned (.plain (OpenSpec.upto zivFixedSpec)) zivFixedUptoCard

/-- THE SECOND FORM's CARD OF 'gnomonlaw18.ZivOdd'. -/
def zivOddUptoCard : Claim7 := { stood := { row := zivOddUptoRow, standIns := [], harness := (true, "f60eae42a091c11c7e0314fd38a91fdc317be189011074e2bf3b49ae53dcd58e"), looks := true }, kinds := [], alts := [], laidByText := true, laidKinds := [.data], laidTests := true, laidLooks := .later }
def ZivOddUptoCardSaid : Prop := Claim7.holds Tryz.pinned (.plain (OpenSpec.upto zivOddSpec)) zivOddUptoCard

/-- THE SECOND FORM's CARD OF 'gnomonlaw18.ZivNarrows'. -/
def zivNarrowsUptoCard : Claim7 := { stood := { row := zivNarrowsUptoRow, standIns := [], harness := (true, "f60eae42a091c11c7e0314fd38a91fdc317be189011074e2bf3b49ae53dcd58e"), looks := true }, kinds := [], alts := [], laidByText := true, laidKinds := [.data], laidTests := true, laidLooks := .later }
def ZivNarrowsUptoCardSaid : Prop := Claim7.holds Tryz.pinned (.plain (OpenSpec.upto zivNarrowsSpec)) zivNarrowsUptoCard

/-- THE SECOND FORM's CARD OF 'gnomonlaw18.ZivRises'. -/
def zivRisesUptoCard : Claim7 := { stood := { row := zivRisesUptoRow, standIns := [], harness := (true, "f60eae42a091c11c7e0314fd38a91fdc317be189011074e2bf3b49ae53dcd58e"), looks := true }, kinds := [], alts := [], laidByText := true, laidKinds := [.data], laidTests := true, laidLooks := .later }
def ZivRisesUptoCardSaid : Prop := Claim7.holds Tryz.pinned (.plain (OpenSpec.upto zivRisesSpec)) zivRisesUptoCard

/-- THE SECOND FORM's CARD OF 'gnomonlaw18.ZivTurns'. -/
def zivTurnsUptoCard : Claim7 := { stood := { row := zivTurnsUptoRow, standIns := [], harness := (true, "f60eae42a091c11c7e0314fd38a91fdc317be189011074e2bf3b49ae53dcd58e"), looks := true }, kinds := [], alts := [], laidByText := true, laidKinds := [.data], laidTests := true, laidLooks := .later }
def ZivTurnsUptoCardSaid : Prop := Claim7.holds Tryz.pinned (.plain (OpenSpec.upto zivTurnsSpec)) zivTurnsUptoCard
end Rows
end Go.Proofs.YtplagoepbghhpaaGreatDoor
