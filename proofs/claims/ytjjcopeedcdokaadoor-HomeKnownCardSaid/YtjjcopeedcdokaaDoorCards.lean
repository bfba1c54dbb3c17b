/-
  DERIVED. GIVEN WITH THE SEED: THE CARDS: each row of YtjjcopeedcdokaaDoorRows.lean that lists a variable, with what it lists TIED to the program's text (the seventh form; the later family's looks); each row that meets fmt, with fmt's text TOLD by the authors' own Lean function (tested against real Go, not proved from fmt's source: count such statements apart). THE CARD IS WHAT COUNTS. Prove the row's statement (the work); the ties are given (YtjjcopeedcdokaaDoorTie.lean); close each card by the builder's one call (the guide's Derived/Test/ToyasCard.lean, 'card_holds'). Laid BY PROGRAM, IN A SANDBOX (cutbox-door.mjs). By AI agents, Wed Nov 11 2026. No macro, syntax, notation, axiom, sorry.
-/
import Derived.Test.YtjjcopeedcdokaaDoorRows
import GoSem.ClaimSeven
namespace Go.Proofs.YtjjcopeedcdokaaDoor
namespace Rows

/-- THE TIED CARD OF 'lucifertop.TopRing'. -/
def topRingCard : Claim7 := { stood := { row := topRingRow, standIns := [], harness := (true, "812014c6ba21101d15e02d82012ffa61e4b3f2f84e9c736658d12c12a3cb442a"), looks := false }, kinds := [], alts := [], laidByText := true, laidKinds := [.funcs, .funcs], laidTests := true, laidLooks := .later }
def TopRingCardSaid : Prop := Claim7.holds Tryd.pinned (.plain (OpenSpec.ofChange topRingSpec)) topRingCard

/-- THE TIED CARD OF 'lucifertop.TopSheets'. -/
def topSheetsCard : Claim7 := { stood := { row := topSheetsRow, standIns := [], harness := (true, "812014c6ba21101d15e02d82012ffa61e4b3f2f84e9c736658d12c12a3cb442a"), looks := false }, kinds := [], alts := [], laidByText := true, laidKinds := [.funcs, .funcs], laidTests := true, laidLooks := .later }
def TopSheetsCardSaid : Prop := Claim7.holds Tryd.pinned (.plain (OpenSpec.ofChange topSheetsSpec)) topSheetsCard

/-- THE TIED CARD OF 'luciferlaw09.HomeGets'. -/
def homeGetsCard : Claim7 := { stood := { row := homeGetsRow, standIns := [], harness := (true, "812014c6ba21101d15e02d82012ffa61e4b3f2f84e9c736658d12c12a3cb442a"), looks := false }, kinds := [], alts := [], laidByText := true, laidKinds := [.funcs, .funcs], laidTests := true, laidLooks := .later }
def HomeGetsCardSaid : Prop := Claim7.holds Tryd.pinned (.plain (OpenSpec.ofChange homeGetsSpec)) homeGetsCard

/-- THE TIED CARD OF 'luciferlaw09.HomeTotals'. -/
def homeTotalsCard : Claim7 := { stood := { row := homeTotalsRow, standIns := [], harness := (true, "812014c6ba21101d15e02d82012ffa61e4b3f2f84e9c736658d12c12a3cb442a"), looks := false }, kinds := [], alts := [], laidByText := true, laidKinds := [.funcs, .funcs], laidTests := true, laidLooks := .later }
def HomeTotalsCardSaid : Prop := Claim7.holds Tryd.pinned (.plain (OpenSpec.ofChange homeTotalsSpec)) homeTotalsCard

/-- THE TIED CARD OF 'luciferlaw09.HomeAsks'. -/
def homeAsksCard : Claim7 := { stood := { row := homeAsksRow, standIns := [], harness := (true, "812014c6ba21101d15e02d82012ffa61e4b3f2f84e9c736658d12c12a3cb442a"), looks := false }, kinds := [], alts := [], laidByText := true, laidKinds := [.funcs, .funcs], laidTests := true, laidLooks := .later }
def HomeAsksCardSaid : Prop := Claim7.holds Tryd.pinned (.plain (OpenSpec.ofChange homeAsksSpec)) homeAsksCard

/-- THE TIED CARD OF 'luciferlaw09.HomeTrue'. -/
def homeTrueCard : Claim7 := { stood := { row := homeTrueRow, standIns := [], harness := (true, "812014c6ba21101d15e02d82012ffa61e4b3f2f84e9c736658d12c12a3cb442a"), looks := false }, kinds := [], alts := [], laidByText := true, laidKinds := [.funcs, .funcs], laidTests := true, laidLooks := .later }
def HomeTrueCardSaid : Prop := Claim7.holds Tryd.pinned (.plain (OpenSpec.ofChange homeTrueSpec)) homeTrueCard

/-- THE TIED CARD OF 'luciferlaw09.HomeEnds'. -/
def homeEndsCard : Claim7 := { stood := { row := homeEndsRow, standIns := [], harness := (true, "812014c6ba21101d15e02d82012ffa61e4b3f2f84e9c736658d12c12a3cb442a"), looks := false }, kinds := [], alts := [], laidByText := true, laidKinds := [.funcs, .funcs], laidTests := true, laidLooks := .later }
def HomeEndsCardSaid : Prop := Claim7.holds Tryd.pinned (.plain (OpenSpec.ofChange homeEndsSpec)) homeEndsCard

/-- THE TIED CARD OF 'luciferlaw09.HomeBetter'. -/
def homeBetterCard : Claim7 := { stood := { row := homeBetterRow, standIns := [], harness := (true, "812014c6ba21101d15e02d82012ffa61e4b3f2f84e9c736658d12c12a3cb442a"), looks := false }, kinds := [], alts := [], laidByText := true, laidKinds := [.funcs, .funcs], laidTests := true, laidLooks := .later }
def HomeBetterCardSaid : Prop := Claim7.holds Tryd.pinned (.plain (OpenSpec.ofChange homeBetterSpec)) homeBetterCard

/-- THE TIED CARD OF 'luciferlaw09.HomeGross'. -/
def homeGrossCard : Claim7 := { stood := { row := homeGrossRow, standIns := [], harness := (true, "812014c6ba21101d15e02d82012ffa61e4b3f2f84e9c736658d12c12a3cb442a"), looks := false }, kinds := [], alts := [], laidByText := true, laidKinds := [.funcs, .funcs], laidTests := true, laidLooks := .later }
def HomeGrossCardSaid : Prop := Claim7.holds Tryd.pinned (.plain (OpenSpec.ofChange homeGrossSpec)) homeGrossCard

/-- THE TIED CARD OF 'luciferlaw09.HomeKnows'. -/
def homeKnowsCard : Claim7 := { stood := { row := homeKnowsRow, standIns := [], harness := (true, "812014c6ba21101d15e02d82012ffa61e4b3f2f84e9c736658d12c12a3cb442a"), looks := false }, kinds := [], alts := [], laidByText := true, laidKinds := [.funcs, .funcs], laidTests := true, laidLooks := .later }
def HomeKnowsCardSaid : Prop := Claim7.holds Tryd.pinned (.plain (OpenSpec.ofChange homeKnowsSpec)) homeKnowsCard

/-- THE TIED CARD OF 'luciferlaw09.HomeTeach'. -/
def homeTeachCard : Claim7 := { stood := { row := homeTeachRow, standIns := [], harness := (true, "812014c6ba21101d15e02d82012ffa61e4b3f2f84e9c736658d12c12a3cb442a"), looks := false }, kinds := [], alts := [], laidByText := true, laidKinds := [.funcs, .funcs], laidTests := true, laidLooks := .later }
def HomeTeachCardSaid : Prop := Claim7.holds Tryd.pinned (.plain (OpenSpec.ofChange homeTeachSpec)) homeTeachCard

/-- THE TIED CARD OF 'luciferlaw09.HomeAsk'. -/
def homeAskCard : Claim7 := { stood := { row := homeAskRow, standIns := [], harness := (true, "812014c6ba21101d15e02d82012ffa61e4b3f2f84e9c736658d12c12a3cb442a"), looks := false }, kinds := [], alts := [], laidByText := true, laidKinds := [.funcs, .funcs], laidTests := true, laidLooks := .later }
def HomeAskCardSaid : Prop := Claim7.holds Tryd.pinned (.plain (OpenSpec.ofChange homeAskSpec)) homeAskCard

/-- THE TIED CARD OF 'luciferlaw09.HomeKnown'. -/
def homeKnownCard : Claim7 := { stood := { row := homeKnownRow, standIns := [], harness := (true, "812014c6ba21101d15e02d82012ffa61e4b3f2f84e9c736658d12c12a3cb442a"), looks := false }, kinds := [], alts := [], laidByText := true, laidKinds := [.funcs, .funcs], laidTests := true, laidLooks := .later }
def HomeKnownCardSaid : Prop := Claim7.holds Tryd.pinned (.plain (OpenSpec.ofChange homeKnownSpec)) homeKnownCard

/-- THE SECOND FORM's CARD OF 'lucifertop.TopRing'. -/
def topRingUptoCard : Claim7 := { stood := { row := topRingUptoRow, standIns := [], harness := (true, "812014c6ba21101d15e02d82012ffa61e4b3f2f84e9c736658d12c12a3cb442a"), looks := false }, kinds := [], alts := [], laidByText := true, laidKinds := [.funcs, .funcs], laidTests := true, laidLooks := .later }
def TopRingUptoCardSaid : Prop := Claim7.holds Tryd.pinned (.plain (OpenSpec.upto topRingSpec)) topRingUptoCard

/-- THE SECOND FORM's CARD OF 'lucifertop.TopSheets'. -/
def topSheetsUptoCard : Claim7 := { stood := { row := topSheetsUptoRow, standIns := [], harness := (true, "812014c6ba21101d15e02d82012ffa61e4b3f2f84e9c736658d12c12a3cb442a"), looks := false }, kinds := [], alts := [], laidByText := true, laidKinds := [.funcs, .funcs], laidTests := true, laidLooks := .later }
def TopSheetsUptoCardSaid : Prop := Claim7.holds Tryd.pinned (.plain (OpenSpec.upto topSheetsSpec)) topSheetsUptoCard

/-- THE SECOND FORM's CARD OF 'luciferlaw09.HomeGets'. -/
def homeGetsUptoCard : Claim7 := { stood := { row := homeGetsUptoRow, standIns := [], harness := (true, "812014c6ba21101d15e02d82012ffa61e4b3f2f84e9c736658d12c12a3cb442a"), looks := false }, kinds := [], alts := [], laidByText := true, laidKinds := [.funcs, .funcs], laidTests := true, laidLooks := .later }
def HomeGetsUptoCardSaid : Prop := Claim7.holds Tryd.pinned (.plain (OpenSpec.upto homeGetsSpec)) homeGetsUptoCard

/-- THE SECOND FORM's CARD OF 'luciferlaw09.HomeTotals'. -/
def homeTotalsUptoCard : Claim7 := { stood := { row := homeTotalsUptoRow, standIns := [], harness := (true, "812014c6ba21101d15e02d82012ffa61e4b3f2f84e9c736658d12c12a3cb442a"), looks := false }, kinds := [], alts := [], laidByText := true, laidKinds := [.funcs, .funcs], laidTests := true, laidLooks := .later }
def HomeTotalsUptoCardSaid : Prop := Claim7.holds Tryd.pinned (.plain (OpenSpec.upto homeTotalsSpec)) homeTotalsUptoCard

/-- THE SECOND FORM's CARD OF 'luciferlaw09.HomeAsks'. -/
def homeAsksUptoCard : Claim7 := { stood := { row := homeAsksUptoRow, standIns := [], harness := (true, "812014c6ba21101d15e02d82012ffa61e4b3f2f84e9c736658d12c12a3cb442a"), looks := false }, kinds := [], alts := [], laidByText := true, laidKinds := [.funcs, .funcs], laidTests := true, laidLooks := .later }
def HomeAsksUptoCardSaid : Prop := Claim7.holds Tryd.pinned (.plain (OpenSpec.upto homeAsksSpec)) homeAsksUptoCard

/-- THE SECOND FORM's CARD OF 'luciferlaw09.HomeTrue'. -/
def homeTrueUptoCard : Claim7 := { stood := { row := homeTrueUptoRow, standIns := [], harness := (true, "812014c6ba21101d15e02d82012ffa61e4b3f2f84e9c736658d12c12a3cb442a"), looks := false }, kinds := [], alts := [], laidByText := true, laidKinds := [.funcs, .funcs], laidTests := true, laidLooks := .later }
def HomeTrueUptoCardSaid : Prop := Claim7.holds Tryd.pinned (.plain (OpenSpec.upto homeTrueSpec)) homeTrueUptoCard

/-- THE SECOND FORM's CARD OF 'luciferlaw09.HomeEnds'. -/
def homeEndsUptoCard : Claim7 := { stood := { row := homeEndsUptoRow, standIns := [], harness := (true, "812014c6ba21101d15e02d82012ffa61e4b3f2f84e9c736658d12c12a3cb442a"), looks := false }, kinds := [], alts := [], laidByText := true, laidKinds := [.funcs, .funcs], laidTests := true, laidLooks := .later }
def HomeEndsUptoCardSaid : Prop := Claim7.holds Tryd.pinned (.plain (OpenSpec.upto homeEndsSpec)) homeEndsUptoCard

/-- THE SECOND FORM's CARD OF 'luciferlaw09.HomeBetter'. -/
def homeBetterUptoCard : Claim7 := { stood := { row := homeBetterUptoRow, standIns := [], harness := (true, "812014c6ba21101d15e02d82012ffa61e4b3f2f84e9c736658d12c12a3cb442a"), looks := false }, kinds := [], alts := [], laidByText := true, laidKinds := [.funcs, .funcs], laidTests := true, laidLooks := .later }
def HomeBetterUptoCardSaid : Prop := Claim7.holds Tryd.pinned (.plain (OpenSpec.upto homeBetterSpec)) homeBetterUptoCard

/-- THE SECOND FORM's CARD OF 'luciferlaw09.HomeGross'. -/
def homeGrossUptoCard : Claim7 := { stood := { row := homeGrossUptoRow, standIns := [], harness := (true, "812014c6ba21101d15e02d82012ffa61e4b3f2f84e9c736658d12c12a3cb442a"), looks := false }, kinds := [], alts := [], laidByText := true, laidKinds := [.funcs, .funcs], laidTests := true, laidLooks := .later }
def HomeGrossUptoCardSaid : Prop := Claim7.holds Tryd.pinned (.plain (OpenSpec.upto homeGrossSpec)) homeGrossUptoCard

/-- THE SECOND FORM's CARD OF 'luciferlaw09.HomeKnows'. -/
def homeKnowsUptoCard : Claim7 := { stood := { row := homeKnowsUptoRow, standIns := [], harness := (true, "812014c6ba21101d15e02d82012ffa61e4b3f2f84e9c736658d12c12a3cb442a"), looks := false }, kinds := [], alts := [], laidByText := true, laidKinds := [.funcs, .funcs], laidTests := true, laidLooks := .later }
def HomeKnowsUptoCardSaid : Prop := Claim7.holds Tryd.pinned (.plain (OpenSpec.upto homeKnowsSpec)) homeKnowsUptoCard

/-- THE SECOND FORM's CARD OF 'luciferlaw09.HomeTeach'. -/
def homeTeachUptoCard : Claim7 := { stood := { row := homeTeachUptoRow, standIns := [], harness := (true, "812014c6ba21101d15e02d82012ffa61e4b3f2f84e9c736658d12c12a3cb442a"), looks := false }, kinds := [], alts := [], laidByText := true, laidKinds := [.funcs, .funcs], laidTests := true, laidLooks := .later }
def HomeTeachUptoCardSaid : Prop := Claim7.holds Tryd.pinned (.plain (OpenSpec.upto homeTeachSpec)) homeTeachUptoCard

/-- THE SECOND FORM's CARD OF 'luciferlaw09.HomeAsk'. -/
def homeAskUptoCard : Claim7 := { stood := { row := homeAskUptoRow, standIns := [], harness := (true, "812014c6ba21101d15e02d82012ffa61e4b3f2f84e9c736658d12c12a3cb442a"), looks := false }, kinds := [], alts := [], laidByText := true, laidKinds := [.funcs, .funcs], laidTests := true, laidLooks := .later }
def HomeAskUptoCardSaid : Prop := Claim7.holds Tryd.pinned (.plain (OpenSpec.upto homeAskSpec)) homeAskUptoCard

/-- THE SECOND FORM's CARD OF 'luciferlaw09.HomeKnown'. -/
def homeKnownUptoCard : Claim7 := { stood := { row := homeKnownUptoRow, standIns := [], harness := (true, "812014c6ba21101d15e02d82012ffa61e4b3f2f84e9c736658d12c12a3cb442a"), looks := false }, kinds := [], alts := [], laidByText := true, laidKinds := [.funcs, .funcs], laidTests := true, laidLooks := .later }
def HomeKnownUptoCardSaid : Prop := Claim7.holds Tryd.pinned (.plain (OpenSpec.upto homeKnownSpec)) homeKnownUptoCard
end Rows
end Go.Proofs.YtjjcopeedcdokaaDoor
