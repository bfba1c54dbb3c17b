/-
  DERIVED. GIVEN WITH THE SEED: THE CARDS: each row of YtpjhffockmnjbaaDoorRows.lean that lists a variable, with what it lists TIED to the program's text (the seventh form; the later family's looks); each row that meets fmt, with fmt's text TOLD by the authors' own Lean function (tested against real Go, not proved from fmt's source: count such statements apart). THE CARD IS WHAT COUNTS. Prove the row's statement (the work); the ties are given (YtpjhffockmnjbaaDoorTie.lean); close each card by the builder's one call (the guide's Derived/Test/ToyasCard.lean, 'card_holds'). Laid BY PROGRAM, IN A SANDBOX (cutbox-door.mjs). By AI agents, Wed Nov 11 2026. No macro, syntax, notation, axiom, sorry.
-/
import Derived.Test.YtpjhffockmnjbaaDoorRows
import GoSem.ClaimSeven
namespace Go.Proofs.YtpjhffockmnjbaaDoor
namespace Rows

/-- THE TIED CARD OF 'luciferlaw04.FoldMeets'. -/
def foldMeetsCard : Claim7 := { stood := { row := foldMeetsRow, standIns := [], harness := (true, "b03cd1d6108e785492ab07a8ff83fd4a4932a4b1389f4c874b76231f1a716599"), looks := false }, kinds := [], alts := [], laidByText := true, laidKinds := [.funcs], laidTests := true, laidLooks := .later }
def FoldMeetsCardSaid : Prop := Claim7.holds Tryd.pinned (.plain (OpenSpec.ofChange foldMeetsSpec)) foldMeetsCard

/-- THE TIED CARD OF 'luciferlaw04.FoldOrders'. -/
def foldOrdersCard : Claim7 := { stood := { row := foldOrdersRow, standIns := [], harness := (true, "b03cd1d6108e785492ab07a8ff83fd4a4932a4b1389f4c874b76231f1a716599"), looks := false }, kinds := [], alts := [], laidByText := true, laidKinds := [.funcs], laidTests := true, laidLooks := .later }
def FoldOrdersCardSaid : Prop := Claim7.holds Tryd.pinned (.plain (OpenSpec.ofChange foldOrdersSpec)) foldOrdersCard

/-- THE TIED CARD OF 'luciferlaw04.FoldDrops'. -/
def foldDropsCard : Claim7 := { stood := { row := foldDropsRow, standIns := [], harness := (true, "b03cd1d6108e785492ab07a8ff83fd4a4932a4b1389f4c874b76231f1a716599"), looks := false }, kinds := [], alts := [], laidByText := true, laidKinds := [.funcs], laidTests := true, laidLooks := .later }
def FoldDropsCardSaid : Prop := Claim7.holds Tryd.pinned (.plain (OpenSpec.ofChange foldDropsSpec)) foldDropsCard

/-- THE TIED CARD OF 'luciferlaw04.FoldTrue'. -/
def foldTrueCard : Claim7 := { stood := { row := foldTrueRow, standIns := [], harness := (true, "b03cd1d6108e785492ab07a8ff83fd4a4932a4b1389f4c874b76231f1a716599"), looks := false }, kinds := [], alts := [], laidByText := true, laidKinds := [.funcs], laidTests := true, laidLooks := .later }
def FoldTrueCardSaid : Prop := Claim7.holds Tryd.pinned (.plain (OpenSpec.ofChange foldTrueSpec)) foldTrueCard

/-- THE TIED CARD OF 'luciferlaw04.FoldMet'. -/
def foldMetCard : Claim7 := { stood := { row := foldMetRow, standIns := [], harness := (true, "b03cd1d6108e785492ab07a8ff83fd4a4932a4b1389f4c874b76231f1a716599"), looks := false }, kinds := [], alts := [], laidByText := true, laidKinds := [.funcs], laidTests := true, laidLooks := .later }
def FoldMetCardSaid : Prop := Claim7.holds Tryd.pinned (.plain (OpenSpec.ofChange foldMetSpec)) foldMetCard

/-- THE TIED CARD OF 'luciferlaw04.FoldDoes'. -/
def foldDoesCard : Claim7 := { stood := { row := foldDoesRow, standIns := [], harness := (true, "b03cd1d6108e785492ab07a8ff83fd4a4932a4b1389f4c874b76231f1a716599"), looks := false }, kinds := [], alts := [], laidByText := true, laidKinds := [.funcs], laidTests := true, laidLooks := .later }
def FoldDoesCardSaid : Prop := Claim7.holds Tryd.pinned (.plain (OpenSpec.ofChange foldDoesSpec)) foldDoesCard

/-- THE TIED CARD OF 'luciferlaw04.FoldRing'. -/
def foldRingCard : Claim7 := { stood := { row := foldRingRow, standIns := [], harness := (true, "b03cd1d6108e785492ab07a8ff83fd4a4932a4b1389f4c874b76231f1a716599"), looks := false }, kinds := [], alts := [], laidByText := true, laidKinds := [.funcs], laidTests := true, laidLooks := .later }
def FoldRingCardSaid : Prop := Claim7.holds Tryd.pinned (.plain (OpenSpec.ofChange foldRingSpec)) foldRingCard

/-- THE TIED CARD OF 'luciferlaw04.FoldRounds'. -/
def foldRoundsCard : Claim7 := { stood := { row := foldRoundsRow, standIns := [], harness := (true, "b03cd1d6108e785492ab07a8ff83fd4a4932a4b1389f4c874b76231f1a716599"), looks := false }, kinds := [], alts := [], laidByText := true, laidKinds := [.funcs], laidTests := true, laidLooks := .later }
def FoldRoundsCardSaid : Prop := Claim7.holds Tryd.pinned (.plain (OpenSpec.ofChange foldRoundsSpec)) foldRoundsCard

/-- THE TIED CARD OF 'luciferlaw04.FoldCounted'. -/
def foldCountedCard : Claim7 := { stood := { row := foldCountedRow, standIns := [], harness := (true, "b03cd1d6108e785492ab07a8ff83fd4a4932a4b1389f4c874b76231f1a716599"), looks := false }, kinds := [], alts := [], laidByText := true, laidKinds := [.funcs], laidTests := true, laidLooks := .later }
def FoldCountedCardSaid : Prop := Claim7.holds Tryd.pinned (.plain (OpenSpec.ofChange foldCountedSpec)) foldCountedCard

/-- THE TIED CARD OF 'luciferlaw04.FoldEasier'. -/
def foldEasierCard : Claim7 := { stood := { row := foldEasierRow, standIns := [], harness := (true, "b03cd1d6108e785492ab07a8ff83fd4a4932a4b1389f4c874b76231f1a716599"), looks := false }, kinds := [], alts := [], laidByText := true, laidKinds := [.funcs], laidTests := true, laidLooks := .later }
def FoldEasierCardSaid : Prop := Claim7.holds Tryd.pinned (.plain (OpenSpec.ofChange foldEasierSpec)) foldEasierCard

/-- THE TIED CARD OF 'luciferlaw04.FoldDrop'. -/
def foldDropCard : Claim7 := { stood := { row := foldDropRow, standIns := [], harness := (true, "b03cd1d6108e785492ab07a8ff83fd4a4932a4b1389f4c874b76231f1a716599"), looks := false }, kinds := [], alts := [], laidByText := true, laidKinds := [.funcs], laidTests := true, laidLooks := .later }
def FoldDropCardSaid : Prop := Claim7.holds Tryd.pinned (.plain (OpenSpec.ofChange foldDropSpec)) foldDropCard

/-- THE TIED CARD OF 'luciferlaw04.FoldKnown'. -/
def foldKnownCard : Claim7 := { stood := { row := foldKnownRow, standIns := [], harness := (true, "b03cd1d6108e785492ab07a8ff83fd4a4932a4b1389f4c874b76231f1a716599"), looks := false }, kinds := [], alts := [], laidByText := true, laidKinds := [.funcs], laidTests := true, laidLooks := .later }
def FoldKnownCardSaid : Prop := Claim7.holds Tryd.pinned (.plain (OpenSpec.ofChange foldKnownSpec)) foldKnownCard

/-- THE SECOND FORM's CARD OF 'luciferlaw04.FoldMeets'. -/
def foldMeetsUptoCard : Claim7 := { stood := { row := foldMeetsUptoRow, standIns := [], harness := (true, "b03cd1d6108e785492ab07a8ff83fd4a4932a4b1389f4c874b76231f1a716599"), looks := false }, kinds := [], alts := [], laidByText := true, laidKinds := [.funcs], laidTests := true, laidLooks := .later }
def FoldMeetsUptoCardSaid : Prop := Claim7.holds Tryd.pinned (.plain (OpenSpec.upto foldMeetsSpec)) foldMeetsUptoCard

/-- THE SECOND FORM's CARD OF 'luciferlaw04.FoldOrders'. -/
def foldOrdersUptoCard : Claim7 := { stood := { row := foldOrdersUptoRow, standIns := [], harness := (true, "b03cd1d6108e785492ab07a8ff83fd4a4932a4b1389f4c874b76231f1a716599"), looks := false }, kinds := [], alts := [], laidByText := true, laidKinds := [.funcs], laidTests := true, laidLooks := .later }
def FoldOrdersUptoCardSaid : Prop := Claim7.holds Tryd.pinned (.plain (OpenSpec.upto foldOrdersSpec)) foldOrdersUptoCard

/-- THE SECOND FORM's CARD OF 'luciferlaw04.FoldDrops'. -/
def foldDropsUptoCard : Claim7 := { stood := { row := foldDropsUptoRow, standIns := [], harness := (true, "b03cd1d6108e785492ab07a8ff83fd4a4932a4b1389f4c874b76231f1a716599"), looks := false }, kinds := [], alts := [], laidByText := true, laidKinds := [.funcs], laidTests := true, laidLooks := .later }
def FoldDropsUptoCardSaid : Prop := Claim7.holds Tryd.pinned (.plain (OpenSpec.upto foldDropsSpec)) foldDropsUptoCard

/-- THE SECOND FORM's CARD OF 'luciferlaw04.FoldTrue'. -/
def foldTrueUptoCard : Claim7 := { stood := { row := foldTrueUptoRow, standIns := [], harness := (true, "b03cd1d6108e785492ab07a8ff83fd4a4932a4b1389f4c874b76231f1a716599"), looks := false }, kinds := [], alts := [], laidByText := true, laidKinds := [.funcs], laidTests := true, laidLooks := .later }
def FoldTrueUptoCardSaid : Prop := Claim7.holds Tryd.pinned (.plain (OpenSpec.upto foldTrueSpec)) foldTrueUptoCard

/-- THE SECOND FORM's CARD OF 'luciferlaw04.FoldMet'. -/
def foldMetUptoCard : Claim7 := { stood := { row := foldMetUptoRow, standIns := [], harness := (true, "b03cd1d6108e785492ab07a8ff83fd4a4932a4b1389f4c874b76231f1a716599"), looks := false }, kinds := [], alts := [], laidByText := true, laidKinds := [.funcs], laidTests := true, laidLooks := .later }
def FoldMetUptoCardSaid : Prop := Claim7.holds Tryd.pinned (.plain (OpenSpec.upto foldMetSpec)) foldMetUptoCard

/-- THE SECOND FORM's CARD OF 'luciferlaw04.FoldDoes'. -/
def foldDoesUptoCard : Claim7 := { stood := { row := foldDoesUptoRow, standIns := [], harness := (true, "b03cd1d6108e785492ab07a8ff83fd4a4932a4b1389f4c874b76231f1a716599"), looks := false }, kinds := [], alts := [], laidByText := true, laidKinds := [.funcs], laidTests := true, laidLooks := .later }
def FoldDoesUptoCardSaid : Prop := Claim7.holds Tryd.pinned (.plain (OpenSpec.upto foldDoesSpec)) foldDoesUptoCard

/-- THE SECOND FORM's CARD OF 'luciferlaw04.FoldRing'. -/
def foldRingUptoCard : Claim7 := { stood := { row := foldRingUptoRow, standIns := [], harness := (true, "b03cd1d6108e785492ab07a8ff83fd4a4932a4b1389f4c874b76231f1a716599"), looks := false }, kinds := [], alts := [], laidByText := true, laidKinds := [.funcs], laidTests := true, laidLooks := .later }
def FoldRingUptoCardSaid : Prop := Claim7.holds Tryd.pinned (.plain (OpenSpec.upto foldRingSpec)) foldRingUptoCard

/-- THE SECOND FORM's CARD OF 'luciferlaw04.FoldRounds'. -/
def foldRoundsUptoCard : Claim7 := { stood := { row := foldRoundsUptoRow, standIns := [], harness := (true, "b03cd1d6108e785492ab07a8ff83fd4a4932a4b1389f4c874b76231f1a716599"), looks := false }, kinds := [], alts := [], laidByText := true, laidKinds := [.funcs], laidTests := true, laidLooks := .later }
def FoldRoundsUptoCardSaid : Prop := Claim7.holds Tryd.pinned (.plain (OpenSpec.upto foldRoundsSpec)) foldRoundsUptoCard

/-- THE SECOND FORM's CARD OF 'luciferlaw04.FoldCounted'. -/
def foldCountedUptoCard : Claim7 := { stood := { row := foldCountedUptoRow, standIns := [], harness := (true, "b03cd1d6108e785492ab07a8ff83fd4a4932a4b1389f4c874b76231f1a716599"), looks := false }, kinds := [], alts := [], laidByText := true, laidKinds := [.funcs], laidTests := true, laidLooks := .later }
def FoldCountedUptoCardSaid : Prop := Claim7.holds Tryd.pinned (.plain (OpenSpec.upto foldCountedSpec)) foldCountedUptoCard

/-- THE SECOND FORM's CARD OF 'luciferlaw04.FoldEasier'. -/
def foldEasierUptoCard : Claim7 := { stood := { row := foldEasierUptoRow, standIns := [], harness := (true, "b03cd1d6108e785492ab07a8ff83fd4a4932a4b1389f4c874b76231f1a716599"), looks := false }, kinds := [], alts := [], laidByText := true, laidKinds := [.funcs], laidTests := true, laidLooks := .later }
def FoldEasierUptoCardSaid : Prop := Claim7.holds Tryd.pinned (.plain (OpenSpec.upto foldEasierSpec)) foldEasierUptoCard

/-- THE SECOND FORM's CARD OF 'luciferlaw04.FoldDrop'. -/
def foldDropUptoCard : Claim7 := { stood := { row := foldDropUptoRow, standIns := [], harness := (true, "b03cd1d6108e785492ab07a8ff83fd4a4932a4b1389f4c874b76231f1a716599"), looks := false }, kinds := [], alts := [], laidByText := true, laidKinds := [.funcs], laidTests := true, laidLooks := .later }
def FoldDropUptoCardSaid : Prop := Claim7.holds Tryd.pinned (.plain (OpenSpec.upto foldDropSpec)) foldDropUptoCard

/-- THE SECOND FORM's CARD OF 'luciferlaw04.FoldKnown'. -/
def foldKnownUptoCard : Claim7 := { stood := { row := foldKnownUptoRow, standIns := [], harness := (true, "b03cd1d6108e785492ab07a8ff83fd4a4932a4b1389f4c874b76231f1a716599"), looks := false }, kinds := [], alts := [], laidByText := true, laidKinds := [.funcs], laidTests := true, laidLooks := .later }
def FoldKnownUptoCardSaid : Prop := Claim7.holds Tryd.pinned (.plain (OpenSpec.upto foldKnownSpec)) foldKnownUptoCard
end Rows
end Go.Proofs.YtpjhffockmnjbaaDoor
