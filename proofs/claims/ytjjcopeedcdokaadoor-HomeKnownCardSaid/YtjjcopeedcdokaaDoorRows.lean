/-
  NARROWER THAN 'FOR EVERY INPUT', by the rows' own cells (each row's printed sentence says how): TopRing: laid · TopSheets: laid · HomeGets: laid · HomeTotals: laid · HomeAsks: laid · HomeTrue: laid · HomeEnds: laid · HomeBetter: laid · HomeGross: laid · HomeKnows: laid · HomeTeach: laid · HomeAsk: laid · HomeKnown: laid.
  DERIVED. THE GIVEN ROWS OF THIS SEAT. 13 by the template 'for every input the law returns true; each argument reads behind the call as it read before'; 0 by the template 'total and deterministic' (their statements: YtjjcopeedcdokaaDoorTotals.lean).
  GIVEN WITH THE SEED: the statements are not yours to turn. If you find one false, say at which input.
  Laid BY PROGRAM, IN A SANDBOX (cutbox-rows.mjs): the forced cells as the released guide's own fill.sh prints them over the translation 6b58c19aa4102a62… (all of the seat's roots in one cut). By AI agents, Wed Nov 11 2026. No macro, syntax, notation, axiom, sorry.
-/
import Derived.Test.YtjjcopeedcdokaaDoorChecked
import GoSem.Claim
import GoSem.ClaimJoined
import GoSem.ClaimMapViews
import Derived.JoinedTies
import Derived.KernelRfl
namespace Go.Proofs.YtjjcopeedcdokaaDoor
/- THE CELL 'sum', in the pinned program and in every row, IS THE sha256 OF THE DUMP (.gsa) THAT YtjjcopeedcdokaaDoorProg.lean LOADS. Nothing in Lean hashes anything: it is a label: what it is worth is what the hold of that sum in a sandbox is worth. -/
noncomputable def Tryd.pinned : Pinned := { name := "ytjjcopeedcdokaadoor", sum := "6b58c19aa4102a62630c6883423676808bf44c7f05769af367f0e90718354cc5", checked := Tryd.checked }
namespace Rows
def none {H : Type} : Left H := { results := [], args := [] }

/- WHAT THE LISTED PACKAGE-LEVEL VARIABLES READ AS WHEN THE CALL BEGINS. Each datum BY PROGRAM (the guide's laid-datum.mjs) off the statement by which the dump's own 'gosem.cut.vars' lays the variable. In a bare row this is a premise. The card (YtjjcopeedcdokaaDoorCards.lean) ties it to the program's text. -/
def laid_lucifer_fold_sides {H : Type} : DataW H := .iface "func table" (.agg [.iface "func" (.lit (.string [40, 108, 117, 99, 105, 102, 101, 114, 47, 102, 111, 108, 100, 46, 115, 104, 101, 101, 116, 41, 46, 108, 101, 102, 116])), .iface "func" (.lit (.string [40, 108, 117, 99, 105, 102, 101, 114, 47, 102, 111, 108, 100, 46, 115, 104, 101, 101, 116, 41, 46, 114, 105, 103, 104, 116])), .iface "func" (.lit (.string [40, 108, 117, 99, 105, 102, 101, 114, 47, 102, 111, 108, 100, 46, 115, 104, 101, 101, 116, 41, 46, 116, 111, 112])), .iface "func" (.lit (.string [40, 108, 117, 99, 105, 102, 101, 114, 47, 102, 111, 108, 100, 46, 115, 104, 101, 101, 116, 41, 46, 98, 111, 116, 116, 111, 109]))])
def laid_lucifer_home_told {H : Type} : DataW H := .iface "func table" (.agg [.iface "func" (.lit (.string [40, 108, 117, 99, 105, 102, 101, 114, 47, 104, 111, 109, 101, 46, 98, 111, 111, 107, 41, 46, 112, 97, 115, 115, 101, 115])), .iface "func" (.lit (.string [40, 108, 117, 99, 105, 102, 101, 114, 47, 104, 111, 109, 101, 46, 98, 111, 111, 107, 41, 46, 109, 105, 115, 115, 105, 110, 103])), .iface "func" (.lit (.string [40, 108, 117, 99, 105, 102, 101, 114, 47, 104, 111, 109, 101, 46, 98, 111, 111, 107, 41, 46, 103, 101, 116, 115]))])

/-- 'lucifertop.TopRing': WHATEVER THE INPUT: true; the input reads as it did. -/
def topRingSpec : ChangeSpec := { name := "topRing", fn := fun _ => fun
  | [d1, d2] => { results := [.lit (.bool true)], args := [d1, d2] }
  | _ => none }
def topRingRow : OpenClaim := { program := "ytjjcopeedcdokaadoor", sum := "6b58c19aa4102a62630c6883423676808bf44c7f05769af367f0e90718354cc5", func := "lucifer/lucifertop.TopRing", spec := "topRing", unfollowed := true, recurses := true, named := ["lucifer/fold.sides", "lucifer/home.told"], plainKeys := false, apart := false, laid := [("lucifer/fold.sides", laid_lucifer_fold_sides), ("lucifer/home.told", laid_lucifer_home_told)] }
def TopRingSaid : Prop := topRingRow.holds Tryd.pinned (OpenSpec.ofChange topRingSpec)

/-- ITS FALSE NEIGHBOUR: 'it returns false'. Refute it at one input. -/
def topRingWrong : ChangeSpec := { name := "topRing", fn := fun _ => fun
  | [d1, d2] => { results := [.lit (.bool false)], args := [d1, d2] }
  | _ => none }
def TopRingWrongFalsely : Prop := topRingRow.holds Tryd.pinned (OpenSpec.ofChange topRingWrong)

/-- 'lucifertop.TopSheets': WHATEVER THE INPUT: true; the input reads as it did. -/
def topSheetsSpec : ChangeSpec := { name := "topSheets", fn := fun _ => fun
  | [d1, d2] => { results := [.lit (.bool true)], args := [d1, d2] }
  | _ => none }
def topSheetsRow : OpenClaim := { program := "ytjjcopeedcdokaadoor", sum := "6b58c19aa4102a62630c6883423676808bf44c7f05769af367f0e90718354cc5", func := "lucifer/lucifertop.TopSheets", spec := "topSheets", unfollowed := true, recurses := true, named := ["lucifer/fold.sides", "lucifer/home.told"], plainKeys := false, apart := false, laid := [("lucifer/fold.sides", laid_lucifer_fold_sides), ("lucifer/home.told", laid_lucifer_home_told)] }
def TopSheetsSaid : Prop := topSheetsRow.holds Tryd.pinned (OpenSpec.ofChange topSheetsSpec)

/-- ITS FALSE NEIGHBOUR: 'it returns false'. Refute it at one input. -/
def topSheetsWrong : ChangeSpec := { name := "topSheets", fn := fun _ => fun
  | [d1, d2] => { results := [.lit (.bool false)], args := [d1, d2] }
  | _ => none }
def TopSheetsWrongFalsely : Prop := topSheetsRow.holds Tryd.pinned (OpenSpec.ofChange topSheetsWrong)

/-- 'luciferlaw09.HomeGets': WHATEVER THE INPUT: true; the input reads as it did. -/
def homeGetsSpec : ChangeSpec := { name := "homeGets", fn := fun _ => fun
  | [d1, d2] => { results := [.lit (.bool true)], args := [d1, d2] }
  | _ => none }
def homeGetsRow : OpenClaim := { program := "ytjjcopeedcdokaadoor", sum := "6b58c19aa4102a62630c6883423676808bf44c7f05769af367f0e90718354cc5", func := "lucifer/luciferlaw09.HomeGets", spec := "homeGets", unfollowed := true, recurses := true, named := ["lucifer/fold.sides", "lucifer/home.told"], plainKeys := false, apart := false, laid := [("lucifer/fold.sides", laid_lucifer_fold_sides), ("lucifer/home.told", laid_lucifer_home_told)] }
def HomeGetsSaid : Prop := homeGetsRow.holds Tryd.pinned (OpenSpec.ofChange homeGetsSpec)

/-- ITS FALSE NEIGHBOUR: 'it returns false'. Refute it at one input. -/
def homeGetsWrong : ChangeSpec := { name := "homeGets", fn := fun _ => fun
  | [d1, d2] => { results := [.lit (.bool false)], args := [d1, d2] }
  | _ => none }
def HomeGetsWrongFalsely : Prop := homeGetsRow.holds Tryd.pinned (OpenSpec.ofChange homeGetsWrong)

/-- 'luciferlaw09.HomeTotals': WHATEVER THE INPUT: true; the input reads as it did. -/
def homeTotalsSpec : ChangeSpec := { name := "homeTotals", fn := fun _ => fun
  | [d] => { results := [.lit (.bool true)], args := [d] }
  | _ => none }
def homeTotalsRow : OpenClaim := { program := "ytjjcopeedcdokaadoor", sum := "6b58c19aa4102a62630c6883423676808bf44c7f05769af367f0e90718354cc5", func := "lucifer/luciferlaw09.HomeTotals", spec := "homeTotals", unfollowed := true, recurses := true, named := ["lucifer/fold.sides", "lucifer/home.told"], plainKeys := false, apart := false, laid := [("lucifer/fold.sides", laid_lucifer_fold_sides), ("lucifer/home.told", laid_lucifer_home_told)] }
def HomeTotalsSaid : Prop := homeTotalsRow.holds Tryd.pinned (OpenSpec.ofChange homeTotalsSpec)

/-- ITS FALSE NEIGHBOUR: 'it returns false'. Refute it at one input. -/
def homeTotalsWrong : ChangeSpec := { name := "homeTotals", fn := fun _ => fun
  | [d] => { results := [.lit (.bool false)], args := [d] }
  | _ => none }
def HomeTotalsWrongFalsely : Prop := homeTotalsRow.holds Tryd.pinned (OpenSpec.ofChange homeTotalsWrong)

/-- 'luciferlaw09.HomeAsks': WHATEVER THE INPUT: true; the input reads as it did. -/
def homeAsksSpec : ChangeSpec := { name := "homeAsks", fn := fun _ => fun
  | [d] => { results := [.lit (.bool true)], args := [d] }
  | _ => none }
def homeAsksRow : OpenClaim := { program := "ytjjcopeedcdokaadoor", sum := "6b58c19aa4102a62630c6883423676808bf44c7f05769af367f0e90718354cc5", func := "lucifer/luciferlaw09.HomeAsks", spec := "homeAsks", unfollowed := true, recurses := true, named := ["lucifer/fold.sides", "lucifer/home.told"], plainKeys := false, apart := false, laid := [("lucifer/fold.sides", laid_lucifer_fold_sides), ("lucifer/home.told", laid_lucifer_home_told)] }
def HomeAsksSaid : Prop := homeAsksRow.holds Tryd.pinned (OpenSpec.ofChange homeAsksSpec)

/-- ITS FALSE NEIGHBOUR: 'it returns false'. Refute it at one input. -/
def homeAsksWrong : ChangeSpec := { name := "homeAsks", fn := fun _ => fun
  | [d] => { results := [.lit (.bool false)], args := [d] }
  | _ => none }
def HomeAsksWrongFalsely : Prop := homeAsksRow.holds Tryd.pinned (OpenSpec.ofChange homeAsksWrong)

/-- 'luciferlaw09.HomeTrue': WHATEVER THE INPUT: true; the input reads as it did. -/
def homeTrueSpec : ChangeSpec := { name := "homeTrue", fn := fun _ => fun
  | [d1, d2] => { results := [.lit (.bool true)], args := [d1, d2] }
  | _ => none }
def homeTrueRow : OpenClaim := { program := "ytjjcopeedcdokaadoor", sum := "6b58c19aa4102a62630c6883423676808bf44c7f05769af367f0e90718354cc5", func := "lucifer/luciferlaw09.HomeTrue", spec := "homeTrue", unfollowed := true, recurses := true, named := ["lucifer/fold.sides", "lucifer/home.told"], plainKeys := false, apart := false, laid := [("lucifer/fold.sides", laid_lucifer_fold_sides), ("lucifer/home.told", laid_lucifer_home_told)] }
def HomeTrueSaid : Prop := homeTrueRow.holds Tryd.pinned (OpenSpec.ofChange homeTrueSpec)

/-- ITS FALSE NEIGHBOUR: 'it returns false'. Refute it at one input. -/
def homeTrueWrong : ChangeSpec := { name := "homeTrue", fn := fun _ => fun
  | [d1, d2] => { results := [.lit (.bool false)], args := [d1, d2] }
  | _ => none }
def HomeTrueWrongFalsely : Prop := homeTrueRow.holds Tryd.pinned (OpenSpec.ofChange homeTrueWrong)

/-- 'luciferlaw09.HomeEnds': WHATEVER THE INPUT: true; the input reads as it did. -/
def homeEndsSpec : ChangeSpec := { name := "homeEnds", fn := fun _ => fun
  | [d1, d2] => { results := [.lit (.bool true)], args := [d1, d2] }
  | _ => none }
def homeEndsRow : OpenClaim := { program := "ytjjcopeedcdokaadoor", sum := "6b58c19aa4102a62630c6883423676808bf44c7f05769af367f0e90718354cc5", func := "lucifer/luciferlaw09.HomeEnds", spec := "homeEnds", unfollowed := true, recurses := true, named := ["lucifer/fold.sides", "lucifer/home.told"], plainKeys := false, apart := false, laid := [("lucifer/fold.sides", laid_lucifer_fold_sides), ("lucifer/home.told", laid_lucifer_home_told)] }
def HomeEndsSaid : Prop := homeEndsRow.holds Tryd.pinned (OpenSpec.ofChange homeEndsSpec)

/-- ITS FALSE NEIGHBOUR: 'it returns false'. Refute it at one input. -/
def homeEndsWrong : ChangeSpec := { name := "homeEnds", fn := fun _ => fun
  | [d1, d2] => { results := [.lit (.bool false)], args := [d1, d2] }
  | _ => none }
def HomeEndsWrongFalsely : Prop := homeEndsRow.holds Tryd.pinned (OpenSpec.ofChange homeEndsWrong)

/-- 'luciferlaw09.HomeBetter': WHATEVER THE INPUT: true; the input reads as it did. -/
def homeBetterSpec : ChangeSpec := { name := "homeBetter", fn := fun _ => fun
  | [d1, d2] => { results := [.lit (.bool true)], args := [d1, d2] }
  | _ => none }
def homeBetterRow : OpenClaim := { program := "ytjjcopeedcdokaadoor", sum := "6b58c19aa4102a62630c6883423676808bf44c7f05769af367f0e90718354cc5", func := "lucifer/luciferlaw09.HomeBetter", spec := "homeBetter", unfollowed := true, recurses := true, named := ["lucifer/fold.sides", "lucifer/home.told"], plainKeys := false, apart := false, laid := [("lucifer/fold.sides", laid_lucifer_fold_sides), ("lucifer/home.told", laid_lucifer_home_told)] }
def HomeBetterSaid : Prop := homeBetterRow.holds Tryd.pinned (OpenSpec.ofChange homeBetterSpec)

/-- ITS FALSE NEIGHBOUR: 'it returns false'. Refute it at one input. -/
def homeBetterWrong : ChangeSpec := { name := "homeBetter", fn := fun _ => fun
  | [d1, d2] => { results := [.lit (.bool false)], args := [d1, d2] }
  | _ => none }
def HomeBetterWrongFalsely : Prop := homeBetterRow.holds Tryd.pinned (OpenSpec.ofChange homeBetterWrong)

/-- 'luciferlaw09.HomeGross': WHATEVER THE INPUT: true; the input reads as it did. -/
def homeGrossSpec : ChangeSpec := { name := "homeGross", fn := fun _ => fun
  | [d1, d2] => { results := [.lit (.bool true)], args := [d1, d2] }
  | _ => none }
def homeGrossRow : OpenClaim := { program := "ytjjcopeedcdokaadoor", sum := "6b58c19aa4102a62630c6883423676808bf44c7f05769af367f0e90718354cc5", func := "lucifer/luciferlaw09.HomeGross", spec := "homeGross", unfollowed := true, recurses := true, named := ["lucifer/fold.sides", "lucifer/home.told"], plainKeys := false, apart := false, laid := [("lucifer/fold.sides", laid_lucifer_fold_sides), ("lucifer/home.told", laid_lucifer_home_told)] }
def HomeGrossSaid : Prop := homeGrossRow.holds Tryd.pinned (OpenSpec.ofChange homeGrossSpec)

/-- ITS FALSE NEIGHBOUR: 'it returns false'. Refute it at one input. -/
def homeGrossWrong : ChangeSpec := { name := "homeGross", fn := fun _ => fun
  | [d1, d2] => { results := [.lit (.bool false)], args := [d1, d2] }
  | _ => none }
def HomeGrossWrongFalsely : Prop := homeGrossRow.holds Tryd.pinned (OpenSpec.ofChange homeGrossWrong)

/-- 'luciferlaw09.HomeKnows': WHATEVER THE INPUT: true; the input reads as it did. -/
def homeKnowsSpec : ChangeSpec := { name := "homeKnows", fn := fun _ => fun
  | [d1, d2] => { results := [.lit (.bool true)], args := [d1, d2] }
  | _ => none }
def homeKnowsRow : OpenClaim := { program := "ytjjcopeedcdokaadoor", sum := "6b58c19aa4102a62630c6883423676808bf44c7f05769af367f0e90718354cc5", func := "lucifer/luciferlaw09.HomeKnows", spec := "homeKnows", unfollowed := true, recurses := true, named := ["lucifer/fold.sides", "lucifer/home.told"], plainKeys := false, apart := false, laid := [("lucifer/fold.sides", laid_lucifer_fold_sides), ("lucifer/home.told", laid_lucifer_home_told)] }
def HomeKnowsSaid : Prop := homeKnowsRow.holds Tryd.pinned (OpenSpec.ofChange homeKnowsSpec)

/-- ITS FALSE NEIGHBOUR: 'it returns false'. Refute it at one input. -/
def homeKnowsWrong : ChangeSpec := { name := "homeKnows", fn := fun _ => fun
  | [d1, d2] => { results := [.lit (.bool false)], args := [d1, d2] }
  | _ => none }
def HomeKnowsWrongFalsely : Prop := homeKnowsRow.holds Tryd.pinned (OpenSpec.ofChange homeKnowsWrong)

/-- 'luciferlaw09.HomeTeach': WHATEVER THE INPUT: true; the input reads as it did. -/
def homeTeachSpec : ChangeSpec := { name := "homeTeach", fn := fun _ => fun
  | [d1, d2] => { results := [.lit (.bool true)], args := [d1, d2] }
  | _ => none }
def homeTeachRow : OpenClaim := { program := "ytjjcopeedcdokaadoor", sum := "6b58c19aa4102a62630c6883423676808bf44c7f05769af367f0e90718354cc5", func := "lucifer/luciferlaw09.HomeTeach", spec := "homeTeach", unfollowed := true, recurses := true, named := ["lucifer/fold.sides", "lucifer/home.told"], plainKeys := false, apart := false, laid := [("lucifer/fold.sides", laid_lucifer_fold_sides), ("lucifer/home.told", laid_lucifer_home_told)] }
def HomeTeachSaid : Prop := homeTeachRow.holds Tryd.pinned (OpenSpec.ofChange homeTeachSpec)

/-- ITS FALSE NEIGHBOUR: 'it returns false'. Refute it at one input. -/
def homeTeachWrong : ChangeSpec := { name := "homeTeach", fn := fun _ => fun
  | [d1, d2] => { results := [.lit (.bool false)], args := [d1, d2] }
  | _ => none }
def HomeTeachWrongFalsely : Prop := homeTeachRow.holds Tryd.pinned (OpenSpec.ofChange homeTeachWrong)

/-- 'luciferlaw09.HomeAsk': WHATEVER THE INPUT: true; the input reads as it did. -/
def homeAskSpec : ChangeSpec := { name := "homeAsk", fn := fun _ => fun
  | [d1, d2] => { results := [.lit (.bool true)], args := [d1, d2] }
  | _ => none }
def homeAskRow : OpenClaim := { program := "ytjjcopeedcdokaadoor", sum := "6b58c19aa4102a62630c6883423676808bf44c7f05769af367f0e90718354cc5", func := "lucifer/luciferlaw09.HomeAsk", spec := "homeAsk", unfollowed := true, recurses := true, named := ["lucifer/fold.sides", "lucifer/home.told"], plainKeys := false, apart := false, laid := [("lucifer/fold.sides", laid_lucifer_fold_sides), ("lucifer/home.told", laid_lucifer_home_told)] }
def HomeAskSaid : Prop := homeAskRow.holds Tryd.pinned (OpenSpec.ofChange homeAskSpec)

/-- ITS FALSE NEIGHBOUR: 'it returns false'. Refute it at one input. -/
def homeAskWrong : ChangeSpec := { name := "homeAsk", fn := fun _ => fun
  | [d1, d2] => { results := [.lit (.bool false)], args := [d1, d2] }
  | _ => none }
def HomeAskWrongFalsely : Prop := homeAskRow.holds Tryd.pinned (OpenSpec.ofChange homeAskWrong)

/-- 'luciferlaw09.HomeKnown': WHATEVER THE INPUT: true; the input reads as it did. -/
def homeKnownSpec : ChangeSpec := { name := "homeKnown", fn := fun _ => fun
  | [] => { results := [.lit (.bool true)], args := [] }
  | _ => none }
def homeKnownRow : OpenClaim := { program := "ytjjcopeedcdokaadoor", sum := "6b58c19aa4102a62630c6883423676808bf44c7f05769af367f0e90718354cc5", func := "lucifer/luciferlaw09.HomeKnown", spec := "homeKnown", unfollowed := true, recurses := true, named := ["lucifer/fold.sides", "lucifer/home.told"], plainKeys := false, apart := false, laid := [("lucifer/fold.sides", laid_lucifer_fold_sides), ("lucifer/home.told", laid_lucifer_home_told)] }
def HomeKnownSaid : Prop := homeKnownRow.holds Tryd.pinned (OpenSpec.ofChange homeKnownSpec)

/-- ITS FALSE NEIGHBOUR: 'it returns false'. Refute it at one input. -/
def homeKnownWrong : ChangeSpec := { name := "homeKnown", fn := fun _ => fun
  | [] => { results := [.lit (.bool false)], args := [] }
  | _ => none }
def HomeKnownWrongFalsely : Prop := homeKnownRow.holds Tryd.pinned (OpenSpec.ofChange homeKnownWrong)

/- THE SECOND FORM. 'bulk': how many values and letters a reading holds, each counted each time it is reached (what is shared counts as often as it is met; a slice's spare places count too). A statement '..UptoSaid' is the law's where the arguments, and the package variables that the reading takes, are together of bulk at most 1048576: NARROWER than '..Said'. Prove '..Said' where nothing that the law and all that it calls make is longer than what came in: it says more and counts as full. Else prove '..UptoSaid'. A law counts once. -/
mutual
def uptoBulk {H : Type} : DataW H → Nat
  | .lit (.string bytes) => bytes.length + 1
  | .lit _ => 1
  | .nil => 1
  | .ptr d => uptoBulk d + 1
  | .slice elems spare => uptoBulkAll elems + uptoBulkAll spare + 1
  | .agg parts => uptoBulkAll parts + 1
  | .iface _ d => uptoBulk d + 1
  | .map entries => uptoBulkEntries entries + 1
  | .held _ => 1
def uptoBulkAll {H : Type} : List (DataW H) → Nat
  | [] => 0
  | d :: r => uptoBulk d + uptoBulkAll r
def uptoBulkEntries {H : Type} : List (Lit × DataW H) → Nat
  | [] => 0
  | x :: r => uptoBulkEntry x + uptoBulkEntries r
def uptoBulkEntry {H : Type} : Lit × DataW H → Nat
  | (.string bytes, d) => bytes.length + uptoBulk d + 1
  | (_, d) => uptoBulk d + 1
 end
def uptoSmall : (H : Type) → List (DataW H) → Bool := fun _ ds => decide (uptoBulkAll ds ≤ 1048576)
def OpenSpec.upto (s : _root_.Go.ChangeSpec) : _root_.Go.OpenSpec := { _root_.Go.OpenSpec.ofChange s with cond := some uptoSmall }

/-- 'lucifertop.TopRing', WHERE WHAT IT READS IS OF BULK AT MOST 1048576: true; the input reads as it did. -/
def topRingUptoRow : OpenClaim := { program := "ytjjcopeedcdokaadoor", sum := "6b58c19aa4102a62630c6883423676808bf44c7f05769af367f0e90718354cc5", func := "lucifer/lucifertop.TopRing", spec := "topRing", unfollowed := true, recurses := true, named := ["lucifer/fold.sides", "lucifer/home.told"], plainKeys := false, apart := false, laid := [("lucifer/fold.sides", laid_lucifer_fold_sides), ("lucifer/home.told", laid_lucifer_home_told)], narrowed := true }
def TopRingUptoSaid : Prop := topRingUptoRow.holds Tryd.pinned (OpenSpec.upto topRingSpec)

/-- 'lucifertop.TopSheets', WHERE WHAT IT READS IS OF BULK AT MOST 1048576: true; the input reads as it did. -/
def topSheetsUptoRow : OpenClaim := { program := "ytjjcopeedcdokaadoor", sum := "6b58c19aa4102a62630c6883423676808bf44c7f05769af367f0e90718354cc5", func := "lucifer/lucifertop.TopSheets", spec := "topSheets", unfollowed := true, recurses := true, named := ["lucifer/fold.sides", "lucifer/home.told"], plainKeys := false, apart := false, laid := [("lucifer/fold.sides", laid_lucifer_fold_sides), ("lucifer/home.told", laid_lucifer_home_told)], narrowed := true }
def TopSheetsUptoSaid : Prop := topSheetsUptoRow.holds Tryd.pinned (OpenSpec.upto topSheetsSpec)

/-- 'luciferlaw09.HomeGets', WHERE WHAT IT READS IS OF BULK AT MOST 1048576: true; the input reads as it did. -/
def homeGetsUptoRow : OpenClaim := { program := "ytjjcopeedcdokaadoor", sum := "6b58c19aa4102a62630c6883423676808bf44c7f05769af367f0e90718354cc5", func := "lucifer/luciferlaw09.HomeGets", spec := "homeGets", unfollowed := true, recurses := true, named := ["lucifer/fold.sides", "lucifer/home.told"], plainKeys := false, apart := false, laid := [("lucifer/fold.sides", laid_lucifer_fold_sides), ("lucifer/home.told", laid_lucifer_home_told)], narrowed := true }
def HomeGetsUptoSaid : Prop := homeGetsUptoRow.holds Tryd.pinned (OpenSpec.upto homeGetsSpec)

/-- 'luciferlaw09.HomeTotals', WHERE WHAT IT READS IS OF BULK AT MOST 1048576: true; the input reads as it did. -/
def homeTotalsUptoRow : OpenClaim := { program := "ytjjcopeedcdokaadoor", sum := "6b58c19aa4102a62630c6883423676808bf44c7f05769af367f0e90718354cc5", func := "lucifer/luciferlaw09.HomeTotals", spec := "homeTotals", unfollowed := true, recurses := true, named := ["lucifer/fold.sides", "lucifer/home.told"], plainKeys := false, apart := false, laid := [("lucifer/fold.sides", laid_lucifer_fold_sides), ("lucifer/home.told", laid_lucifer_home_told)], narrowed := true }
def HomeTotalsUptoSaid : Prop := homeTotalsUptoRow.holds Tryd.pinned (OpenSpec.upto homeTotalsSpec)

/-- 'luciferlaw09.HomeAsks', WHERE WHAT IT READS IS OF BULK AT MOST 1048576: true; the input reads as it did. -/
def homeAsksUptoRow : OpenClaim := { program := "ytjjcopeedcdokaadoor", sum := "6b58c19aa4102a62630c6883423676808bf44c7f05769af367f0e90718354cc5", func := "lucifer/luciferlaw09.HomeAsks", spec := "homeAsks", unfollowed := true, recurses := true, named := ["lucifer/fold.sides", "lucifer/home.told"], plainKeys := false, apart := false, laid := [("lucifer/fold.sides", laid_lucifer_fold_sides), ("lucifer/home.told", laid_lucifer_home_told)], narrowed := true }
def HomeAsksUptoSaid : Prop := homeAsksUptoRow.holds Tryd.pinned (OpenSpec.upto homeAsksSpec)

/-- 'luciferlaw09.HomeTrue', WHERE WHAT IT READS IS OF BULK AT MOST 1048576: true; the input reads as it did. -/
def homeTrueUptoRow : OpenClaim := { program := "ytjjcopeedcdokaadoor", sum := "6b58c19aa4102a62630c6883423676808bf44c7f05769af367f0e90718354cc5", func := "lucifer/luciferlaw09.HomeTrue", spec := "homeTrue", unfollowed := true, recurses := true, named := ["lucifer/fold.sides", "lucifer/home.told"], plainKeys := false, apart := false, laid := [("lucifer/fold.sides", laid_lucifer_fold_sides), ("lucifer/home.told", laid_lucifer_home_told)], narrowed := true }
def HomeTrueUptoSaid : Prop := homeTrueUptoRow.holds Tryd.pinned (OpenSpec.upto homeTrueSpec)

/-- 'luciferlaw09.HomeEnds', WHERE WHAT IT READS IS OF BULK AT MOST 1048576: true; the input reads as it did. -/
def homeEndsUptoRow : OpenClaim := { program := "ytjjcopeedcdokaadoor", sum := "6b58c19aa4102a62630c6883423676808bf44c7f05769af367f0e90718354cc5", func := "lucifer/luciferlaw09.HomeEnds", spec := "homeEnds", unfollowed := true, recurses := true, named := ["lucifer/fold.sides", "lucifer/home.told"], plainKeys := false, apart := false, laid := [("lucifer/fold.sides", laid_lucifer_fold_sides), ("lucifer/home.told", laid_lucifer_home_told)], narrowed := true }
def HomeEndsUptoSaid : Prop := homeEndsUptoRow.holds Tryd.pinned (OpenSpec.upto homeEndsSpec)

/-- 'luciferlaw09.HomeBetter', WHERE WHAT IT READS IS OF BULK AT MOST 1048576: true; the input reads as it did. -/
def homeBetterUptoRow : OpenClaim := { program := "ytjjcopeedcdokaadoor", sum := "6b58c19aa4102a62630c6883423676808bf44c7f05769af367f0e90718354cc5", func := "lucifer/luciferlaw09.HomeBetter", spec := "homeBetter", unfollowed := true, recurses := true, named := ["lucifer/fold.sides", "lucifer/home.told"], plainKeys := false, apart := false, laid := [("lucifer/fold.sides", laid_lucifer_fold_sides), ("lucifer/home.told", laid_lucifer_home_told)], narrowed := true }
def HomeBetterUptoSaid : Prop := homeBetterUptoRow.holds Tryd.pinned (OpenSpec.upto homeBetterSpec)

/-- 'luciferlaw09.HomeGross', WHERE WHAT IT READS IS OF BULK AT MOST 1048576: true; the input reads as it did. -/
def homeGrossUptoRow : OpenClaim := { program := "ytjjcopeedcdokaadoor", sum := "6b58c19aa4102a62630c6883423676808bf44c7f05769af367f0e90718354cc5", func := "lucifer/luciferlaw09.HomeGross", spec := "homeGross", unfollowed := true, recurses := true, named := ["lucifer/fold.sides", "lucifer/home.told"], plainKeys := false, apart := false, laid := [("lucifer/fold.sides", laid_lucifer_fold_sides), ("lucifer/home.told", laid_lucifer_home_told)], narrowed := true }
def HomeGrossUptoSaid : Prop := homeGrossUptoRow.holds Tryd.pinned (OpenSpec.upto homeGrossSpec)

/-- 'luciferlaw09.HomeKnows', WHERE WHAT IT READS IS OF BULK AT MOST 1048576: true; the input reads as it did. -/
def homeKnowsUptoRow : OpenClaim := { program := "ytjjcopeedcdokaadoor", sum := "6b58c19aa4102a62630c6883423676808bf44c7f05769af367f0e90718354cc5", func := "lucifer/luciferlaw09.HomeKnows", spec := "homeKnows", unfollowed := true, recurses := true, named := ["lucifer/fold.sides", "lucifer/home.told"], plainKeys := false, apart := false, laid := [("lucifer/fold.sides", laid_lucifer_fold_sides), ("lucifer/home.told", laid_lucifer_home_told)], narrowed := true }
def HomeKnowsUptoSaid : Prop := homeKnowsUptoRow.holds Tryd.pinned (OpenSpec.upto homeKnowsSpec)

/-- 'luciferlaw09.HomeTeach', WHERE WHAT IT READS IS OF BULK AT MOST 1048576: true; the input reads as it did. -/
def homeTeachUptoRow : OpenClaim := { program := "ytjjcopeedcdokaadoor", sum := "6b58c19aa4102a62630c6883423676808bf44c7f05769af367f0e90718354cc5", func := "lucifer/luciferlaw09.HomeTeach", spec := "homeTeach", unfollowed := true, recurses := true, named := ["lucifer/fold.sides", "lucifer/home.told"], plainKeys := false, apart := false, laid := [("lucifer/fold.sides", laid_lucifer_fold_sides), ("lucifer/home.told", laid_lucifer_home_told)], narrowed := true }
def HomeTeachUptoSaid : Prop := homeTeachUptoRow.holds Tryd.pinned (OpenSpec.upto homeTeachSpec)

/-- 'luciferlaw09.HomeAsk', WHERE WHAT IT READS IS OF BULK AT MOST 1048576: true; the input reads as it did. -/
def homeAskUptoRow : OpenClaim := { program := "ytjjcopeedcdokaadoor", sum := "6b58c19aa4102a62630c6883423676808bf44c7f05769af367f0e90718354cc5", func := "lucifer/luciferlaw09.HomeAsk", spec := "homeAsk", unfollowed := true, recurses := true, named := ["lucifer/fold.sides", "lucifer/home.told"], plainKeys := false, apart := false, laid := [("lucifer/fold.sides", laid_lucifer_fold_sides), ("lucifer/home.told", laid_lucifer_home_told)], narrowed := true }
def HomeAskUptoSaid : Prop := homeAskUptoRow.holds Tryd.pinned (OpenSpec.upto homeAskSpec)

/-- 'luciferlaw09.HomeKnown', WHERE WHAT IT READS IS OF BULK AT MOST 1048576: true; the input reads as it did. -/
def homeKnownUptoRow : OpenClaim := { program := "ytjjcopeedcdokaadoor", sum := "6b58c19aa4102a62630c6883423676808bf44c7f05769af367f0e90718354cc5", func := "lucifer/luciferlaw09.HomeKnown", spec := "homeKnown", unfollowed := true, recurses := true, named := ["lucifer/fold.sides", "lucifer/home.told"], plainKeys := false, apart := false, laid := [("lucifer/fold.sides", laid_lucifer_fold_sides), ("lucifer/home.told", laid_lucifer_home_told)], narrowed := true }
def HomeKnownUptoSaid : Prop := homeKnownUptoRow.holds Tryd.pinned (OpenSpec.upto homeKnownSpec)

end Rows
end Go.Proofs.YtjjcopeedcdokaaDoor
