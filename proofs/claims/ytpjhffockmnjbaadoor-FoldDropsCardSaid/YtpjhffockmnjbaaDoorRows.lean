/-
  NARROWER THAN 'FOR EVERY INPUT', by the rows' own cells (each row's printed sentence says how): FoldMeets: laid · FoldOrders: laid · FoldDrops: laid · FoldTrue: laid · FoldMet: laid · FoldDoes: laid · FoldRing: laid · FoldRounds: laid · FoldCounted: laid · FoldEasier: laid · FoldDrop: laid · FoldKnown: laid.
  DERIVED. THE GIVEN ROWS OF THIS SEAT. 12 by the template 'for every input the law returns true; each argument reads behind the call as it read before'; 0 by the template 'total and deterministic' (their statements: YtpjhffockmnjbaaDoorTotals.lean).
  GIVEN WITH THE SEED: the statements are not yours to turn. If you find one false, say at which input.
  Laid BY PROGRAM, IN A SANDBOX (cutbox-rows.mjs): the forced cells as the released guide's own fill.sh prints them over the translation e2f6a38cee02a33e… (all of the seat's roots in one cut). By AI agents, Wed Nov 11 2026. No macro, syntax, notation, axiom, sorry.
-/
import Derived.Test.YtpjhffockmnjbaaDoorChecked
import GoSem.Claim
import GoSem.ClaimJoined
import GoSem.ClaimMapViews
import Derived.JoinedTies
import Derived.KernelRfl
namespace Go.Proofs.YtpjhffockmnjbaaDoor
/- THE CELL 'sum', in the pinned program and in every row, IS THE sha256 OF THE DUMP (.gsa) THAT YtpjhffockmnjbaaDoorProg.lean LOADS. Nothing in Lean hashes anything: it is a label: what it is worth is what the hold of that sum in a sandbox is worth. -/
noncomputable def Tryd.pinned : Pinned := { name := "ytpjhffockmnjbaadoor", sum := "e2f6a38cee02a33e937cc478599d79c7c276682f14eb9ef1f8c889cd17b3bce6", checked := Tryd.checked }
namespace Rows
def none {H : Type} : Left H := { results := [], args := [] }

/- WHAT THE LISTED PACKAGE-LEVEL VARIABLES READ AS WHEN THE CALL BEGINS. Each datum BY PROGRAM (the guide's laid-datum.mjs) off the statement by which the dump's own 'gosem.cut.vars' lays the variable. In a bare row this is a premise. The card (YtpjhffockmnjbaaDoorCards.lean) ties it to the program's text. -/
def laid_lucifer_fold_sides {H : Type} : DataW H := .iface "func table" (.agg [.iface "func" (.lit (.string [40, 108, 117, 99, 105, 102, 101, 114, 47, 102, 111, 108, 100, 46, 115, 104, 101, 101, 116, 41, 46, 108, 101, 102, 116])), .iface "func" (.lit (.string [40, 108, 117, 99, 105, 102, 101, 114, 47, 102, 111, 108, 100, 46, 115, 104, 101, 101, 116, 41, 46, 114, 105, 103, 104, 116])), .iface "func" (.lit (.string [40, 108, 117, 99, 105, 102, 101, 114, 47, 102, 111, 108, 100, 46, 115, 104, 101, 101, 116, 41, 46, 116, 111, 112])), .iface "func" (.lit (.string [40, 108, 117, 99, 105, 102, 101, 114, 47, 102, 111, 108, 100, 46, 115, 104, 101, 101, 116, 41, 46, 98, 111, 116, 116, 111, 109]))])

/-- 'luciferlaw04.FoldMeets': WHATEVER THE INPUT: true; the input reads as it did. -/
def foldMeetsSpec : ChangeSpec := { name := "foldMeets", fn := fun _ => fun
  | [d1, d2, d3] => { results := [.lit (.bool true)], args := [d1, d2, d3] }
  | _ => none }
def foldMeetsRow : OpenClaim := { program := "ytpjhffockmnjbaadoor", sum := "e2f6a38cee02a33e937cc478599d79c7c276682f14eb9ef1f8c889cd17b3bce6", func := "lucifer/luciferlaw04.FoldMeets", spec := "foldMeets", unfollowed := true, recurses := true, named := ["lucifer/fold.sides"], plainKeys := false, apart := false, laid := [("lucifer/fold.sides", laid_lucifer_fold_sides)] }
def FoldMeetsSaid : Prop := foldMeetsRow.holds Tryd.pinned (OpenSpec.ofChange foldMeetsSpec)

/-- ITS FALSE NEIGHBOUR: 'it returns false'. Refute it at one input. -/
def foldMeetsWrong : ChangeSpec := { name := "foldMeets", fn := fun _ => fun
  | [d1, d2, d3] => { results := [.lit (.bool false)], args := [d1, d2, d3] }
  | _ => none }
def FoldMeetsWrongFalsely : Prop := foldMeetsRow.holds Tryd.pinned (OpenSpec.ofChange foldMeetsWrong)

/-- 'luciferlaw04.FoldOrders': WHATEVER THE INPUT: true; the input reads as it did. -/
def foldOrdersSpec : ChangeSpec := { name := "foldOrders", fn := fun _ => fun
  | [d] => { results := [.lit (.bool true)], args := [d] }
  | _ => none }
def foldOrdersRow : OpenClaim := { program := "ytpjhffockmnjbaadoor", sum := "e2f6a38cee02a33e937cc478599d79c7c276682f14eb9ef1f8c889cd17b3bce6", func := "lucifer/luciferlaw04.FoldOrders", spec := "foldOrders", unfollowed := true, recurses := true, named := ["lucifer/fold.sides"], plainKeys := false, apart := false, laid := [("lucifer/fold.sides", laid_lucifer_fold_sides)] }
def FoldOrdersSaid : Prop := foldOrdersRow.holds Tryd.pinned (OpenSpec.ofChange foldOrdersSpec)

/-- ITS FALSE NEIGHBOUR: 'it returns false'. Refute it at one input. -/
def foldOrdersWrong : ChangeSpec := { name := "foldOrders", fn := fun _ => fun
  | [d] => { results := [.lit (.bool false)], args := [d] }
  | _ => none }
def FoldOrdersWrongFalsely : Prop := foldOrdersRow.holds Tryd.pinned (OpenSpec.ofChange foldOrdersWrong)

/-- 'luciferlaw04.FoldDrops': WHATEVER THE INPUT: true; the input reads as it did. -/
def foldDropsSpec : ChangeSpec := { name := "foldDrops", fn := fun _ => fun
  | [d1, d2] => { results := [.lit (.bool true)], args := [d1, d2] }
  | _ => none }
def foldDropsRow : OpenClaim := { program := "ytpjhffockmnjbaadoor", sum := "e2f6a38cee02a33e937cc478599d79c7c276682f14eb9ef1f8c889cd17b3bce6", func := "lucifer/luciferlaw04.FoldDrops", spec := "foldDrops", unfollowed := true, recurses := true, named := ["lucifer/fold.sides"], plainKeys := false, apart := false, laid := [("lucifer/fold.sides", laid_lucifer_fold_sides)] }
def FoldDropsSaid : Prop := foldDropsRow.holds Tryd.pinned (OpenSpec.ofChange foldDropsSpec)

/-- ITS FALSE NEIGHBOUR: 'it returns false'. Refute it at one input. -/
def foldDropsWrong : ChangeSpec := { name := "foldDrops", fn := fun _ => fun
  | [d1, d2] => { results := [.lit (.bool false)], args := [d1, d2] }
  | _ => none }
def FoldDropsWrongFalsely : Prop := foldDropsRow.holds Tryd.pinned (OpenSpec.ofChange foldDropsWrong)

/-- 'luciferlaw04.FoldTrue': WHATEVER THE INPUT: true; the input reads as it did. -/
def foldTrueSpec : ChangeSpec := { name := "foldTrue", fn := fun _ => fun
  | [d1, d2] => { results := [.lit (.bool true)], args := [d1, d2] }
  | _ => none }
def foldTrueRow : OpenClaim := { program := "ytpjhffockmnjbaadoor", sum := "e2f6a38cee02a33e937cc478599d79c7c276682f14eb9ef1f8c889cd17b3bce6", func := "lucifer/luciferlaw04.FoldTrue", spec := "foldTrue", unfollowed := true, recurses := true, named := ["lucifer/fold.sides"], plainKeys := false, apart := false, laid := [("lucifer/fold.sides", laid_lucifer_fold_sides)] }
def FoldTrueSaid : Prop := foldTrueRow.holds Tryd.pinned (OpenSpec.ofChange foldTrueSpec)

/-- ITS FALSE NEIGHBOUR: 'it returns false'. Refute it at one input. -/
def foldTrueWrong : ChangeSpec := { name := "foldTrue", fn := fun _ => fun
  | [d1, d2] => { results := [.lit (.bool false)], args := [d1, d2] }
  | _ => none }
def FoldTrueWrongFalsely : Prop := foldTrueRow.holds Tryd.pinned (OpenSpec.ofChange foldTrueWrong)

/-- 'luciferlaw04.FoldMet': WHATEVER THE INPUT: true; the input reads as it did. -/
def foldMetSpec : ChangeSpec := { name := "foldMet", fn := fun _ => fun
  | [d1, d2, d3] => { results := [.lit (.bool true)], args := [d1, d2, d3] }
  | _ => none }
def foldMetRow : OpenClaim := { program := "ytpjhffockmnjbaadoor", sum := "e2f6a38cee02a33e937cc478599d79c7c276682f14eb9ef1f8c889cd17b3bce6", func := "lucifer/luciferlaw04.FoldMet", spec := "foldMet", unfollowed := true, recurses := true, named := ["lucifer/fold.sides"], plainKeys := false, apart := false, laid := [("lucifer/fold.sides", laid_lucifer_fold_sides)] }
def FoldMetSaid : Prop := foldMetRow.holds Tryd.pinned (OpenSpec.ofChange foldMetSpec)

/-- ITS FALSE NEIGHBOUR: 'it returns false'. Refute it at one input. -/
def foldMetWrong : ChangeSpec := { name := "foldMet", fn := fun _ => fun
  | [d1, d2, d3] => { results := [.lit (.bool false)], args := [d1, d2, d3] }
  | _ => none }
def FoldMetWrongFalsely : Prop := foldMetRow.holds Tryd.pinned (OpenSpec.ofChange foldMetWrong)

/-- 'luciferlaw04.FoldDoes': WHATEVER THE INPUT: true; the input reads as it did. -/
def foldDoesSpec : ChangeSpec := { name := "foldDoes", fn := fun _ => fun
  | [d1, d2, d3] => { results := [.lit (.bool true)], args := [d1, d2, d3] }
  | _ => none }
def foldDoesRow : OpenClaim := { program := "ytpjhffockmnjbaadoor", sum := "e2f6a38cee02a33e937cc478599d79c7c276682f14eb9ef1f8c889cd17b3bce6", func := "lucifer/luciferlaw04.FoldDoes", spec := "foldDoes", unfollowed := true, recurses := true, named := ["lucifer/fold.sides"], plainKeys := false, apart := false, laid := [("lucifer/fold.sides", laid_lucifer_fold_sides)] }
def FoldDoesSaid : Prop := foldDoesRow.holds Tryd.pinned (OpenSpec.ofChange foldDoesSpec)

/-- ITS FALSE NEIGHBOUR: 'it returns false'. Refute it at one input. -/
def foldDoesWrong : ChangeSpec := { name := "foldDoes", fn := fun _ => fun
  | [d1, d2, d3] => { results := [.lit (.bool false)], args := [d1, d2, d3] }
  | _ => none }
def FoldDoesWrongFalsely : Prop := foldDoesRow.holds Tryd.pinned (OpenSpec.ofChange foldDoesWrong)

/-- 'luciferlaw04.FoldRing': WHATEVER THE INPUT: true; the input reads as it did. -/
def foldRingSpec : ChangeSpec := { name := "foldRing", fn := fun _ => fun
  | [d1, d2] => { results := [.lit (.bool true)], args := [d1, d2] }
  | _ => none }
def foldRingRow : OpenClaim := { program := "ytpjhffockmnjbaadoor", sum := "e2f6a38cee02a33e937cc478599d79c7c276682f14eb9ef1f8c889cd17b3bce6", func := "lucifer/luciferlaw04.FoldRing", spec := "foldRing", unfollowed := true, recurses := true, named := ["lucifer/fold.sides"], plainKeys := false, apart := false, laid := [("lucifer/fold.sides", laid_lucifer_fold_sides)] }
def FoldRingSaid : Prop := foldRingRow.holds Tryd.pinned (OpenSpec.ofChange foldRingSpec)

/-- ITS FALSE NEIGHBOUR: 'it returns false'. Refute it at one input. -/
def foldRingWrong : ChangeSpec := { name := "foldRing", fn := fun _ => fun
  | [d1, d2] => { results := [.lit (.bool false)], args := [d1, d2] }
  | _ => none }
def FoldRingWrongFalsely : Prop := foldRingRow.holds Tryd.pinned (OpenSpec.ofChange foldRingWrong)

/-- 'luciferlaw04.FoldRounds': WHATEVER THE INPUT: true; the input reads as it did. -/
def foldRoundsSpec : ChangeSpec := { name := "foldRounds", fn := fun _ => fun
  | [d] => { results := [.lit (.bool true)], args := [d] }
  | _ => none }
def foldRoundsRow : OpenClaim := { program := "ytpjhffockmnjbaadoor", sum := "e2f6a38cee02a33e937cc478599d79c7c276682f14eb9ef1f8c889cd17b3bce6", func := "lucifer/luciferlaw04.FoldRounds", spec := "foldRounds", unfollowed := true, recurses := true, named := ["lucifer/fold.sides"], plainKeys := false, apart := false, laid := [("lucifer/fold.sides", laid_lucifer_fold_sides)] }
def FoldRoundsSaid : Prop := foldRoundsRow.holds Tryd.pinned (OpenSpec.ofChange foldRoundsSpec)

/-- ITS FALSE NEIGHBOUR: 'it returns false'. Refute it at one input. -/
def foldRoundsWrong : ChangeSpec := { name := "foldRounds", fn := fun _ => fun
  | [d] => { results := [.lit (.bool false)], args := [d] }
  | _ => none }
def FoldRoundsWrongFalsely : Prop := foldRoundsRow.holds Tryd.pinned (OpenSpec.ofChange foldRoundsWrong)

/-- 'luciferlaw04.FoldCounted': WHATEVER THE INPUT: true; the input reads as it did. -/
def foldCountedSpec : ChangeSpec := { name := "foldCounted", fn := fun _ => fun
  | [d] => { results := [.lit (.bool true)], args := [d] }
  | _ => none }
def foldCountedRow : OpenClaim := { program := "ytpjhffockmnjbaadoor", sum := "e2f6a38cee02a33e937cc478599d79c7c276682f14eb9ef1f8c889cd17b3bce6", func := "lucifer/luciferlaw04.FoldCounted", spec := "foldCounted", unfollowed := true, recurses := true, named := ["lucifer/fold.sides"], plainKeys := false, apart := false, laid := [("lucifer/fold.sides", laid_lucifer_fold_sides)] }
def FoldCountedSaid : Prop := foldCountedRow.holds Tryd.pinned (OpenSpec.ofChange foldCountedSpec)

/-- ITS FALSE NEIGHBOUR: 'it returns false'. Refute it at one input. -/
def foldCountedWrong : ChangeSpec := { name := "foldCounted", fn := fun _ => fun
  | [d] => { results := [.lit (.bool false)], args := [d] }
  | _ => none }
def FoldCountedWrongFalsely : Prop := foldCountedRow.holds Tryd.pinned (OpenSpec.ofChange foldCountedWrong)

/-- 'luciferlaw04.FoldEasier': WHATEVER THE INPUT: true; the input reads as it did. -/
def foldEasierSpec : ChangeSpec := { name := "foldEasier", fn := fun _ => fun
  | [d1, d2, d3] => { results := [.lit (.bool true)], args := [d1, d2, d3] }
  | _ => none }
def foldEasierRow : OpenClaim := { program := "ytpjhffockmnjbaadoor", sum := "e2f6a38cee02a33e937cc478599d79c7c276682f14eb9ef1f8c889cd17b3bce6", func := "lucifer/luciferlaw04.FoldEasier", spec := "foldEasier", unfollowed := true, recurses := true, named := ["lucifer/fold.sides"], plainKeys := false, apart := false, laid := [("lucifer/fold.sides", laid_lucifer_fold_sides)] }
def FoldEasierSaid : Prop := foldEasierRow.holds Tryd.pinned (OpenSpec.ofChange foldEasierSpec)

/-- ITS FALSE NEIGHBOUR: 'it returns false'. Refute it at one input. -/
def foldEasierWrong : ChangeSpec := { name := "foldEasier", fn := fun _ => fun
  | [d1, d2, d3] => { results := [.lit (.bool false)], args := [d1, d2, d3] }
  | _ => none }
def FoldEasierWrongFalsely : Prop := foldEasierRow.holds Tryd.pinned (OpenSpec.ofChange foldEasierWrong)

/-- 'luciferlaw04.FoldDrop': WHATEVER THE INPUT: true; the input reads as it did. -/
def foldDropSpec : ChangeSpec := { name := "foldDrop", fn := fun _ => fun
  | [d1, d2] => { results := [.lit (.bool true)], args := [d1, d2] }
  | _ => none }
def foldDropRow : OpenClaim := { program := "ytpjhffockmnjbaadoor", sum := "e2f6a38cee02a33e937cc478599d79c7c276682f14eb9ef1f8c889cd17b3bce6", func := "lucifer/luciferlaw04.FoldDrop", spec := "foldDrop", unfollowed := true, recurses := true, named := ["lucifer/fold.sides"], plainKeys := false, apart := false, laid := [("lucifer/fold.sides", laid_lucifer_fold_sides)] }
def FoldDropSaid : Prop := foldDropRow.holds Tryd.pinned (OpenSpec.ofChange foldDropSpec)

/-- ITS FALSE NEIGHBOUR: 'it returns false'. Refute it at one input. -/
def foldDropWrong : ChangeSpec := { name := "foldDrop", fn := fun _ => fun
  | [d1, d2] => { results := [.lit (.bool false)], args := [d1, d2] }
  | _ => none }
def FoldDropWrongFalsely : Prop := foldDropRow.holds Tryd.pinned (OpenSpec.ofChange foldDropWrong)

/-- 'luciferlaw04.FoldKnown': WHATEVER THE INPUT: true; the input reads as it did. -/
def foldKnownSpec : ChangeSpec := { name := "foldKnown", fn := fun _ => fun
  | [] => { results := [.lit (.bool true)], args := [] }
  | _ => none }
def foldKnownRow : OpenClaim := { program := "ytpjhffockmnjbaadoor", sum := "e2f6a38cee02a33e937cc478599d79c7c276682f14eb9ef1f8c889cd17b3bce6", func := "lucifer/luciferlaw04.FoldKnown", spec := "foldKnown", unfollowed := true, recurses := true, named := ["lucifer/fold.sides"], plainKeys := false, apart := false, laid := [("lucifer/fold.sides", laid_lucifer_fold_sides)] }
def FoldKnownSaid : Prop := foldKnownRow.holds Tryd.pinned (OpenSpec.ofChange foldKnownSpec)

/-- ITS FALSE NEIGHBOUR: 'it returns false'. Refute it at one input. -/
def foldKnownWrong : ChangeSpec := { name := "foldKnown", fn := fun _ => fun
  | [] => { results := [.lit (.bool false)], args := [] }
  | _ => none }
def FoldKnownWrongFalsely : Prop := foldKnownRow.holds Tryd.pinned (OpenSpec.ofChange foldKnownWrong)

/- THE SECOND FORM. 'bulk': how many values and letters a reading holds, each counted each time it is reached (what is shared counts as often as it is met; a slice's spare places count too). A statement '..UptoSaid' is the law's where the arguments, and the package variables that the reading takes, are together of bulk at most 1048576: NARROWER than '..Said'. Prove '..Said' where nothing that the law and all that it calls make is longer than what came in: it says more and counts as full. Else prove '..UptoSaid'. A law counts once. -/
mutual
def uptoBulk {H : Type} : DataW H → Nat
  | .lit (.string bytes) => bytes.length + 1
  | .lit _ => 1
  | .nil => 1
  | .ptr d => uptoBulk d + 1
  | .slice elems spare => uptoBulkAll elems + uptoBulkAll spare + 1
  | .agg parts => uptoBulkAll parts + 1
  | .iface _ d => uptoBulk d + 1
  | .map entries => uptoBulkEntries entries + 1
  | .held _ => 1
def uptoBulkAll {H : Type} : List (DataW H) → Nat
  | [] => 0
  | d :: r => uptoBulk d + uptoBulkAll r
def uptoBulkEntries {H : Type} : List (Lit × DataW H) → Nat
  | [] => 0
  | x :: r => uptoBulkEntry x + uptoBulkEntries r
def uptoBulkEntry {H : Type} : Lit × DataW H → Nat
  | (.string bytes, d) => bytes.length + uptoBulk d + 1
  | (_, d) => uptoBulk d + 1
 end
def uptoSmall : (H : Type) → List (DataW H) → Bool := fun _ ds => decide (uptoBulkAll ds ≤ 1048576)
def OpenSpec.upto (s : _root_.Go.ChangeSpec) : _root_.Go.OpenSpec := { _root_.Go.OpenSpec.ofChange s with cond := some uptoSmall }

/-- 'luciferlaw04.FoldMeets', WHERE WHAT IT READS IS OF BULK AT MOST 1048576: true; the input reads as it did. -/
def foldMeetsUptoRow : OpenClaim := { program := "ytpjhffockmnjbaadoor", sum := "e2f6a38cee02a33e937cc478599d79c7c276682f14eb9ef1f8c889cd17b3bce6", func := "lucifer/luciferlaw04.FoldMeets", spec := "foldMeets", unfollowed := true, recurses := true, named := ["lucifer/fold.sides"], plainKeys := false, apart := false, laid := [("lucifer/fold.sides", laid_lucifer_fold_sides)], narrowed := true }
def FoldMeetsUptoSaid : Prop := foldMeetsUptoRow.holds Tryd.pinned (OpenSpec.upto foldMeetsSpec)

/-- 'luciferlaw04.FoldOrders', WHERE WHAT IT READS IS OF BULK AT MOST 1048576: true; the input reads as it did. -/
def foldOrdersUptoRow : OpenClaim := { program := "ytpjhffockmnjbaadoor", sum := "e2f6a38cee02a33e937cc478599d79c7c276682f14eb9ef1f8c889cd17b3bce6", func := "lucifer/luciferlaw04.FoldOrders", spec := "foldOrders", unfollowed := true, recurses := true, named := ["lucifer/fold.sides"], plainKeys := false, apart := false, laid := [("lucifer/fold.sides", laid_lucifer_fold_sides)], narrowed := true }
def FoldOrdersUptoSaid : Prop := foldOrdersUptoRow.holds Tryd.pinned (OpenSpec.upto foldOrdersSpec)

/-- 'luciferlaw04.FoldDrops', WHERE WHAT IT READS IS OF BULK AT MOST 1048576: true; the input reads as it did. -/
def foldDropsUptoRow : OpenClaim := { program := "ytpjhffockmnjbaadoor", sum := "e2f6a38cee02a33e937cc478599d79c7c276682f14eb9ef1f8c889cd17b3bce6", func := "lucifer/luciferlaw04.FoldDrops", spec := "foldDrops", unfollowed := true, recurses := true, named := ["lucifer/fold.sides"], plainKeys := false, apart := false, laid := [("lucifer/fold.sides", laid_lucifer_fold_sides)], narrowed := true }
def FoldDropsUptoSaid : Prop := foldDropsUptoRow.holds Tryd.pinned (OpenSpec.upto foldDropsSpec)

/-- 'luciferlaw04.FoldTrue', WHERE WHAT IT READS IS OF BULK AT MOST 1048576: true; the input reads as it did. -/
def foldTrueUptoRow : OpenClaim := { program := "ytpjhffockmnjbaadoor", sum := "e2f6a38cee02a33e937cc478599d79c7c276682f14eb9ef1f8c889cd17b3bce6", func := "lucifer/luciferlaw04.FoldTrue", spec := "foldTrue", unfollowed := true, recurses := true, named := ["lucifer/fold.sides"], plainKeys := false, apart := false, laid := [("lucifer/fold.sides", laid_lucifer_fold_sides)], narrowed := true }
def FoldTrueUptoSaid : Prop := foldTrueUptoRow.holds Tryd.pinned (OpenSpec.upto foldTrueSpec)

/-- 'luciferlaw04.FoldMet', WHERE WHAT IT READS IS OF BULK AT MOST 1048576: true; the input reads as it did. -/
def foldMetUptoRow : OpenClaim := { program := "ytpjhffockmnjbaadoor", sum := "e2f6a38cee02a33e937cc478599d79c7c276682f14eb9ef1f8c889cd17b3bce6", func := "lucifer/luciferlaw04.FoldMet", spec := "foldMet", unfollowed := true, recurses := true, named := ["lucifer/fold.sides"], plainKeys := false, apart := false, laid := [("lucifer/fold.sides", laid_lucifer_fold_sides)], narrowed := true }
def FoldMetUptoSaid : Prop := foldMetUptoRow.holds Tryd.pinned (OpenSpec.upto foldMetSpec)

/-- 'luciferlaw04.FoldDoes', WHERE WHAT IT READS IS OF BULK AT MOST 1048576: true; the input reads as it did. -/
def foldDoesUptoRow : OpenClaim := { program := "ytpjhffockmnjbaadoor", sum := "e2f6a38cee02a33e937cc478599d79c7c276682f14eb9ef1f8c889cd17b3bce6", func := "lucifer/luciferlaw04.FoldDoes", spec := "foldDoes", unfollowed := true, recurses := true, named := ["lucifer/fold.sides"], plainKeys := false, apart := false, laid := [("lucifer/fold.sides", laid_lucifer_fold_sides)], narrowed := true }
def FoldDoesUptoSaid : Prop := foldDoesUptoRow.holds Tryd.pinned (OpenSpec.upto foldDoesSpec)

/-- 'luciferlaw04.FoldRing', WHERE WHAT IT READS IS OF BULK AT MOST 1048576: true; the input reads as it did. -/
def foldRingUptoRow : OpenClaim := { program := "ytpjhffockmnjbaadoor", sum := "e2f6a38cee02a33e937cc478599d79c7c276682f14eb9ef1f8c889cd17b3bce6", func := "lucifer/luciferlaw04.FoldRing", spec := "foldRing", unfollowed := true, recurses := true, named := ["lucifer/fold.sides"], plainKeys := false, apart := false, laid := [("lucifer/fold.sides", laid_lucifer_fold_sides)], narrowed := true }
def FoldRingUptoSaid : Prop := foldRingUptoRow.holds Tryd.pinned (OpenSpec.upto foldRingSpec)

/-- 'luciferlaw04.FoldRounds', WHERE WHAT IT READS IS OF BULK AT MOST 1048576: true; the input reads as it did. -/
def foldRoundsUptoRow : OpenClaim := { program := "ytpjhffockmnjbaadoor", sum := "e2f6a38cee02a33e937cc478599d79c7c276682f14eb9ef1f8c889cd17b3bce6", func := "lucifer/luciferlaw04.FoldRounds", spec := "foldRounds", unfollowed := true, recurses := true, named := ["lucifer/fold.sides"], plainKeys := false, apart := false, laid := [("lucifer/fold.sides", laid_lucifer_fold_sides)], narrowed := true }
def FoldRoundsUptoSaid : Prop := foldRoundsUptoRow.holds Tryd.pinned (OpenSpec.upto foldRoundsSpec)

/-- 'luciferlaw04.FoldCounted', WHERE WHAT IT READS IS OF BULK AT MOST 1048576: true; the input reads as it did. -/
def foldCountedUptoRow : OpenClaim := { program := "ytpjhffockmnjbaadoor", sum := "e2f6a38cee02a33e937cc478599d79c7c276682f14eb9ef1f8c889cd17b3bce6", func := "lucifer/luciferlaw04.FoldCounted", spec := "foldCounted", unfollowed := true, recurses := true, named := ["lucifer/fold.sides"], plainKeys := false, apart := false, laid := [("lucifer/fold.sides", laid_lucifer_fold_sides)], narrowed := true }
def FoldCountedUptoSaid : Prop := foldCountedUptoRow.holds Tryd.pinned (OpenSpec.upto foldCountedSpec)

/-- 'luciferlaw04.FoldEasier', WHERE WHAT IT READS IS OF BULK AT MOST 1048576: true; the input reads as it did. -/
def foldEasierUptoRow : OpenClaim := { program := "ytpjhffockmnjbaadoor", sum := "e2f6a38cee02a33e937cc478599d79c7c276682f14eb9ef1f8c889cd17b3bce6", func := "lucifer/luciferlaw04.FoldEasier", spec := "foldEasier", unfollowed := true, recurses := true, named := ["lucifer/fold.sides"], plainKeys := false, apart := false, laid := [("lucifer/fold.sides", laid_lucifer_fold_sides)], narrowed := true }
def FoldEasierUptoSaid : Prop := foldEasierUptoRow.holds Tryd.pinned (OpenSpec.upto foldEasierSpec)

/-- 'luciferlaw04.FoldDrop', WHERE WHAT IT READS IS OF BULK AT MOST 1048576: true; the input reads as it did. -/
def foldDropUptoRow : OpenClaim := { program := "ytpjhffockmnjbaadoor", sum := "e2f6a38cee02a33e937cc478599d79c7c276682f14eb9ef1f8c889cd17b3bce6", func := "lucifer/luciferlaw04.FoldDrop", spec := "foldDrop", unfollowed := true, recurses := true, named := ["lucifer/fold.sides"], plainKeys := false, apart := false, laid := [("lucifer/fold.sides", laid_lucifer_fold_sides)], narrowed := true }
def FoldDropUptoSaid : Prop := foldDropUptoRow.holds Tryd.pinned (OpenSpec.upto foldDropSpec)

/-- 'luciferlaw04.FoldKnown', WHERE WHAT IT READS IS OF BULK AT MOST 1048576: true; the input reads as it did. -/
def foldKnownUptoRow : OpenClaim := { program := "ytpjhffockmnjbaadoor", sum := "e2f6a38cee02a33e937cc478599d79c7c276682f14eb9ef1f8c889cd17b3bce6", func := "lucifer/luciferlaw04.FoldKnown", spec := "foldKnown", unfollowed := true, recurses := true, named := ["lucifer/fold.sides"], plainKeys := false, apart := false, laid := [("lucifer/fold.sides", laid_lucifer_fold_sides)], narrowed := true }
def FoldKnownUptoSaid : Prop := foldKnownUptoRow.holds Tryd.pinned (OpenSpec.upto foldKnownSpec)

end Rows
end Go.Proofs.YtpjhffockmnjbaaDoor
