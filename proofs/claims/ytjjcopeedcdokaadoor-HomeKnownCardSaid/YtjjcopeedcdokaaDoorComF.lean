/- Part ComF of the proofs of the laws of home workers: laws of the engine, plain facts and contracts of the functions that they reach. Conditions: none beyond those of each theorem. -/
import Derived.Test.YtjjcopeedcdokaaDoorComE
import Derived.Test.YtjjcopeedcdokaaDoorRows
import Derived.ProofKit
import Derived.LaidMore
import Derived.OpenShut
import Derived.Carry
import Derived.Deep.Slices
import Derived.Deep.Strs
import Derived.Lib.SmallJoins
import Derived.Stop.Joined
set_option linter.unusedVariables false
set_option linter.unusedSimpArgs false
set_option linter.constructorNameAsVariable false
set_option maxRecDepth 100000
namespace Go.Proofs.YtjjcopeedcdokaaDoor
open Go.ChangeShapes Go.WideShapes Go.ChangeAt Go.RowKit
theorem pOwn : ownKnob Tryd.prog.godebug = none := by kernel_rfl
theorem pLaid : laidOutB Tryd.prog = true := by kernel_rfl
theorem gSides : Tryd.prog.globalNamed "lucifer/fold.sides" = some 1 := by kernel_rfl
theorem tSides : (Tryd.prog.globals[1]?).map (·.type) = some 163 := by kernel_rfl
theorem gTold : Tryd.prog.globalNamed "lucifer/home.told" = some 0 := by kernel_rfl
theorem tTold : (Tryd.prog.globals[0]?).map (·.type) = some 136 := by kernel_rfl
abbrev laid1 : List (String × DataW Unit) := [("lucifer/fold.sides", Rows.laid_lucifer_fold_sides), ("lucifer/home.told", Rows.laid_lucifer_home_told)]
/-- The door's own heap meets the condition. -/
theorem door_met (os : Os) (args : Array Value) : laidMetH Tryd.prog laid1 ((World.doorLaid Tryd.prog 600 os).forCall (fun _ _ => 0) ⟨#[], args, []⟩).memory :=
  laidMetH_of_parts3 (fuel := 8) (laidMet_of_run' 8 (by kernel_rfl) (by kernel_rfl)) (by kernel_rfl) (by kernel_rfl)
theorem list2 {cs : List Value} (h : cs.length = 2) : ∃ u v, cs = [u, v] := by
  match cs, h with
  | [u, v], _ => exact ⟨u, v, rfl⟩
theorem list5 {cs : List Value} (h : cs.length = 5) : ∃ u0 u1 u2 u3 u4, cs = [u0, u1, u2, u3, u4] := by
  match cs, h with
  | [u0, u1, u2, u3, u4], _ => exact ⟨u0, u1, u2, u3, u4, rfl⟩
theorem cell_lt {w : World} {b off : Nat} {v : Value} (h : w.cell? ⟨b, off, none⟩ = some v) : b < w.heap.size := by
  unfold World.cell? at h
  dsimp only at h
  split at h
  · rename_i e
    exact (Array.getElem?_eq_some_iff.1 e).1
  · cases h
section
variable {H : Type} {enc : TypeId × Value → H} {W : World} {base : Nat} {sp : Nat → Bool} {held : Bool} {fuel : Nat}
theorem open_rd {α : Type} [Inhabited α] {en : α → List Value} {sz : Nat} {t e : TypeId} {cs : List Value} {x : DataW H × List MemPlace} (ht : Tryd.prog.underlying t = some (.slice e)) (hc : Tryd.prog.cellsOf e = sz) (hsz : 0 < sz) (hE : ∀ a, (en a).length = sz)
    (hel : ∀ n cs x, DataW.trod enc Tryd.prog W base sp held n e cs = some x → ∃ a, cs = en a) (h : DataW.trod enc Tryd.prog W base sp held fuel t cs = some x) : ∃ A c l, cs = [.slice A l.length c] ∧ l.length ≤ c ∧ Rd en sz A l.length l W := by
  rcases Go.Deep.open_slice ht h with ⟨h0, _⟩ | ⟨a, len, cap, m, n, D, Pl, rfl, _, hl, hm, hmm, _, hx⟩
  · exact ⟨none, 0, [], h0, Nat.le_refl _, rd_nil⟩
  · have hle : len ≤ m := by rw [hmm]; split <;> omega
    rw [hc] at hx
    have hy : ∀ i, i < len → ∃ y : α, W.cells? base (a.add (i * sz)) sz = some (en y) := fun i hi => by
      obtain ⟨cs', h1, h2⟩ := hx i (by omega)
      obtain ⟨y, rfl⟩ := hel _ _ _ h2
      exact ⟨y, h1⟩
    obtain ⟨f, hf⟩ := Go.Deep.choose_lt hy
    have hbig : maxLen ≤ 9223372036854775807 := by decide
    refine ⟨some a, cap, (List.range len).map f, by simp, by simpa using hl, by simp, by simp only [List.length_map, List.length_range]; omega, fun h0 => ?_⟩
    simp only [List.length_map, List.length_range] at h0
    obtain ⟨b, off, spot⟩ := a
    have hcell : ∀ i, i < len → ∀ j v, (en (f i))[j]? = some v → W.cell? ((Addr.mk b off spot).add (i * sz + j)) = some v := fun i hi j v hj => by
      obtain ⟨_, hlen, hat⟩ := World.cells?_some (hf i hi)
      have hj' : j < (en (f i)).length := (List.getElem?_eq_some_iff.1 hj).1
      have := hat j (by rw [hE] at hj'; exact hj')
      rw [add_add] at this
      rw [← this] at hj
      exact hj.symm ▸ rfl
    have hfirst : ∃ v, (en (f 0))[0]? = some v := ⟨_, List.getElem?_eq_getElem (by rw [hE]; exact hsz)⟩
    obtain ⟨v, hv⟩ := hfirst
    have h1 := hcell 0 h0 0 v hv
    have hspot : spot = none := by simpa [Addr.add] using World.cell?_spot h1
    subst hspot
    refine ⟨b, off, rfl, ?_, fun i x hi j v hj => ?_⟩
    · rw [add_own] at h1
      exact cell_lt h1
    · rw [List.getElem?_map] at hi
      obtain ⟨k, hk, rfl⟩ := Option.map_eq_some_iff.1 hi
      have hk' := List.getElem?_eq_some_iff.1 hk
      simp only [List.length_range, List.getElem_range] at hk'
      obtain ⟨hk1, rfl⟩ := hk'
      have := hcell i hk1 j v hj
      rwa [add_own] at this
theorem el_int (n : Nat) (cs : List Value) (x : DataW H × List MemPlace) (h : DataW.trod enc Tryd.prog W base sp held n 3 cs = some x) : ∃ a, cs = encI a := by
  obtain ⟨k, rfl, _, _⟩ := DataW.trod_int Tryd.underlying3 h
  exact ⟨k, rfl⟩
theorem cells3 : Tryd.prog.cellsOf 3 = 1 := by kernel_rfl
theorem cells40 : Tryd.prog.cellsOf 40 = 2 := by kernel_rfl
theorem cells117 : Tryd.prog.cellsOf 117 = 5 := by kernel_rfl
theorem cells51 : Tryd.prog.cellsOf 51 = 2 := by kernel_rfl
theorem cells25 : Tryd.prog.cellsOf 25 = 4 := by kernel_rfl
theorem el_span (n : Nat) (cs : List Value) (x : DataW H × List MemPlace) (h : DataW.trod enc Tryd.prog W base sp held n 40 cs = some x) : ∃ a b, cs = [.int .i64 a, .int .i64 b] := by
  obtain ⟨xs, m, _, _, hl, hlen, hf⟩ := DataW.trod_struct Tryd.underlying40 h
  rw [cells40] at hl
  obtain ⟨u, v, rfl⟩ := list2 hl
  have h0 : DataW.trod enc Tryd.prog W base sp held m 3 ((List.drop 0 [u, v]).take (Tryd.prog.cellsOf 3)) = xs[0]? := hf 0 _ rfl
  have h1 : DataW.trod enc Tryd.prog W base sp held m 3 ((List.drop 1 [u, v]).take (Tryd.prog.cellsOf 3)) = xs[1]? := hf 1 _ rfl
  rw [cells3] at h0 h1
  match xs, hlen with
  | [x0, x1], _ =>
      obtain ⟨a, e1, _⟩ := DataW.trod_int Tryd.underlying3 (x := x0) (by simpa using h0)
      obtain ⟨b, e2, _⟩ := DataW.trod_int Tryd.underlying3 (x := x1) (by simpa using h1)
      cases e1; cases e2
      exact ⟨a, b, rfl⟩
theorem el_rule (n : Nat) (cs : List Value) (x : DataW H × List MemPlace) (h : DataW.trod enc Tryd.prog W base sp held n 51 cs = some x) : ∃ a, cs = encR a := by
  obtain ⟨xs, m, _, _, hl, hlen, hf⟩ := DataW.trod_struct Tryd.underlying51 h
  rw [cells51] at hl
  obtain ⟨u, v, rfl⟩ := list2 hl
  have h0 : DataW.trod enc Tryd.prog W base sp held m 3 ((List.drop 0 [u, v]).take (Tryd.prog.cellsOf 3)) = xs[0]? := hf 0 _ rfl
  have h1 : DataW.trod enc Tryd.prog W base sp held m 3 ((List.drop 1 [u, v]).take (Tryd.prog.cellsOf 3)) = xs[1]? := hf 1 _ rfl
  rw [cells3] at h0 h1
  match xs, hlen with
  | [x0, x1], _ =>
      obtain ⟨a, e1, _⟩ := DataW.trod_int Tryd.underlying3 (x := x0) (by simpa using h0)
      obtain ⟨b, e2, _⟩ := DataW.trod_int Tryd.underlying3 (x := x1) (by simpa using h1)
      cases e1; cases e2
      exact ⟨⟨a, b⟩, rfl⟩
theorem el_flap (n : Nat) (cs : List Value) (x : DataW H × List MemPlace) (h : DataW.trod enc Tryd.prog W base sp held n 117 cs = some x) : ∃ a, cs = encF a := by
  obtain ⟨xs, m, _, _, hl, hlen, hf⟩ := DataW.trod_struct Tryd.underlying117 h
  rw [cells117] at hl
  obtain ⟨u0, u1, u2, u3, u4, rfl⟩ := list5 hl
  have h0 : DataW.trod enc Tryd.prog W base sp held m 3 ((List.drop 0 [u0, u1, u2, u3, u4]).take (Tryd.prog.cellsOf 3)) = xs[0]? := hf 0 _ rfl
  have h1 : DataW.trod enc Tryd.prog W base sp held m 40 ((List.drop 1 [u0, u1, u2, u3, u4]).take (Tryd.prog.cellsOf 40)) = xs[1]? := hf 1 _ rfl
  have h2 : DataW.trod enc Tryd.prog W base sp held m 40 ((List.drop 3 [u0, u1, u2, u3, u4]).take (Tryd.prog.cellsOf 40)) = xs[2]? := hf 2 _ rfl
  rw [cells3] at h0; rw [cells40] at h1 h2
  match xs, hlen with
  | [x0, x1, x2], _ =>
      obtain ⟨a, e1, _⟩ := DataW.trod_int Tryd.underlying3 (x := x0) (by simpa using h0)
      obtain ⟨b, c, e2⟩ := el_span _ _ x1 (by simpa using h1)
      obtain ⟨d, e, e3⟩ := el_span _ _ x2 (by simpa using h2)
      cases e1; cases e2; cases e3
      exact ⟨⟨a, b, c, d, e⟩, rfl⟩
theorem open_rdQ {α : Type} [Inhabited α] {en : α → List Value} {Q : α → Prop} {sz : Nat} {t e : TypeId} {cs : List Value} {x : DataW H × List MemPlace} (ht : Tryd.prog.underlying t = some (.slice e)) (hc : Tryd.prog.cellsOf e = sz) (hsz : 0 < sz) (hE : ∀ a, (en a).length = sz)
    (hel : ∀ n cs x, DataW.trod enc Tryd.prog W base sp held n e cs = some x → ∃ a, cs = en a ∧ Q a) (h : DataW.trod enc Tryd.prog W base sp held fuel t cs = some x) : ∃ A c l, cs = [.slice A l.length c] ∧ l.length ≤ c ∧ Rd en sz A l.length l W ∧ ∀ x ∈ l, Q x := by
  rcases Go.Deep.open_slice ht h with ⟨h0, _⟩ | ⟨a, len, cap, m, n, D, Pl, rfl, _, hl, hm, hmm, _, hx⟩
  · exact ⟨none, 0, [], h0, Nat.le_refl _, rd_nil, fun x hx => by cases hx⟩
  · have hle : len ≤ m := by rw [hmm]; split <;> omega
    rw [hc] at hx
    have hy : ∀ i, i < len → ∃ y : α, W.cells? base (a.add (i * sz)) sz = some (en y) ∧ Q y := fun i hi => by
      obtain ⟨cs', h1, h2⟩ := hx i (by omega)
      obtain ⟨y, rfl, hq⟩ := hel _ _ _ h2
      exact ⟨y, h1, hq⟩
    obtain ⟨f, hf⟩ := Go.Deep.choose_lt hy
    have hbig : maxLen ≤ 9223372036854775807 := by decide
    refine ⟨some a, cap, (List.range len).map f, by simp, by simpa using hl, ⟨by simp, by simp only [List.length_map, List.length_range]; omega, fun h0 => ?_⟩, fun x hx => ?_⟩
    · simp only [List.length_map, List.length_range] at h0
      obtain ⟨b, off, spot⟩ := a
      have hcell : ∀ i, i < len → ∀ j v, (en (f i))[j]? = some v → W.cell? ((Addr.mk b off spot).add (i * sz + j)) = some v := fun i hi j v hj => by
        obtain ⟨_, hlen, hat⟩ := World.cells?_some (hf i hi).1
        have hj' : j < (en (f i)).length := (List.getElem?_eq_some_iff.1 hj).1
        have := hat j (by rw [hE] at hj'; exact hj')
        rw [add_add] at this
        rw [← this] at hj
        exact hj.symm ▸ rfl
      have hfirst : ∃ v, (en (f 0))[0]? = some v := ⟨_, List.getElem?_eq_getElem (by rw [hE]; exact hsz)⟩
      obtain ⟨v, hv⟩ := hfirst
      have h1 := hcell 0 h0 0 v hv
      have hspot : spot = none := by simpa [Addr.add] using World.cell?_spot h1
      subst hspot
      refine ⟨b, off, rfl, ?_, fun i x hi j v hj => ?_⟩
      · rw [add_own] at h1
        exact cell_lt h1
      · rw [List.getElem?_map] at hi
        obtain ⟨k, hk, rfl⟩ := Option.map_eq_some_iff.1 hi
        have hk' := List.getElem?_eq_some_iff.1 hk
        simp only [List.length_range, List.getElem_range] at hk'
        obtain ⟨hk1, rfl⟩ := hk'
        have := hcell i hk1 j v hj
        rwa [add_own] at this
    · obtain ⟨i, hi, rfl⟩ := List.mem_map.1 hx
      exact (hf i (List.mem_range.1 hi)).2
theorem cells47 : Tryd.prog.cellsOf 47 = 6 := by kernel_rfl
theorem cells28 : Tryd.prog.cellsOf 28 = 8 := by kernel_rfl
theorem cells31 : Tryd.prog.cellsOf 31 = 1 := by kernel_rfl
theorem cells26 : Tryd.prog.cellsOf 26 = 1 := by kernel_rfl
theorem cells22 : Tryd.prog.cellsOf 22 = 1 := by kernel_rfl
theorem cells23 : Tryd.prog.cellsOf 23 = 1 := by kernel_rfl
theorem list4 {cs : List Value} (h : cs.length = 4) : ∃ u0 u1 u2 u3, cs = [u0, u1, u2, u3] := by
  match cs, h with
  | [u0, u1, u2, u3], _ => exact ⟨u0, u1, u2, u3, rfl⟩
theorem list6 {cs : List Value} (h : cs.length = 6) : ∃ u0 u1 u2 u3 u4 u5, cs = [u0, u1, u2, u3, u4, u5] := by
  match cs, h with
  | [u0, u1, u2, u3, u4, u5], _ => exact ⟨u0, u1, u2, u3, u4, u5, rfl⟩
theorem list8 {cs : List Value} (h : cs.length = 8) : ∃ u0 u1 u2 u3 u4 u5 u6 u7, cs = [u0, u1, u2, u3, u4, u5, u6, u7] := by
  match cs, h with
  | [u0, u1, u2, u3, u4, u5, u6, u7], _ => exact ⟨u0, u1, u2, u3, u4, u5, u6, u7, rfl⟩
theorem el_worker (n : Nat) (cs : List Value) (x : DataW H × List MemPlace) (h : DataW.trod enc Tryd.prog W base sp held n 47 cs = some x) : ∃ a : Wkr, cs = encW a ∧ (a.order.length ≤ a.oc ∧ Rd encI 1 a.oA a.order.length a.order W) := by
  obtain ⟨xs, m, _, _, hl, hlen, hf⟩ := DataW.trod_struct Tryd.underlying47 h
  rw [cells47] at hl
  obtain ⟨u0, u1, u2, u3, u4, u5, rfl⟩ := list6 hl
  have h0 : DataW.trod enc Tryd.prog W base sp held m 3 ((List.drop 0 [u0, u1, u2, u3, u4, u5]).take (Tryd.prog.cellsOf 3)) = xs[0]? := hf 0 _ rfl
  have h1 : DataW.trod enc Tryd.prog W base sp held m 31 ((List.drop 1 [u0, u1, u2, u3, u4, u5]).take (Tryd.prog.cellsOf 31)) = xs[1]? := hf 1 _ rfl
  have h2 : DataW.trod enc Tryd.prog W base sp held m 40 ((List.drop 2 [u0, u1, u2, u3, u4, u5]).take (Tryd.prog.cellsOf 40)) = xs[2]? := hf 2 _ rfl
  have h3 : DataW.trod enc Tryd.prog W base sp held m 40 ((List.drop 4 [u0, u1, u2, u3, u4, u5]).take (Tryd.prog.cellsOf 40)) = xs[3]? := hf 3 _ rfl
  rw [cells3] at h0; rw [cells31] at h1; rw [cells40] at h2 h3
  match xs, hlen with
  | [x0, x1, x2, x3], _ =>
      obtain ⟨a, e0, _⟩ := DataW.trod_int Tryd.underlying3 (x := x0) (by simpa using h0)
      obtain ⟨oA, oc, l, e1, hlc, hr⟩ := open_rd (en := encI) Tryd.underlying31 cells3 (by decide) (fun _ => rfl) el_int (x := x1) (by simpa using h1)
      obtain ⟨b, c, e2⟩ := el_span _ _ x2 (by simpa using h2)
      obtain ⟨d, e, e3⟩ := el_span _ _ x3 (by simpa using h3)
      cases e0; cases e1; cases e2; cases e3
      exact ⟨⟨a, l, b, c, d, e, oA, oc⟩, rfl, hlc, hr⟩
theorem el_sheet (n : Nat) (cs : List Value) (x : DataW H × List MemPlace) (h : DataW.trod enc Tryd.prog W base sp held n 25 cs = some x) : ∃ b fA fc rA rc, cs = [.int .i64 b.wide, .int .i64 b.high, .slice fA b.flaps.length fc, .slice rA b.rules.length rc] ∧ ShIn b fA fc rA rc W := by
  obtain ⟨xs, m, _, _, hl, hlen, hf⟩ := DataW.trod_struct Tryd.underlying25 h
  rw [cells25] at hl
  obtain ⟨u0, u1, u2, u3, rfl⟩ := list4 hl
  have h0 : DataW.trod enc Tryd.prog W base sp held m 3 ((List.drop 0 [u0, u1, u2, u3]).take (Tryd.prog.cellsOf 3)) = xs[0]? := hf 0 _ rfl
  have h1 : DataW.trod enc Tryd.prog W base sp held m 3 ((List.drop 1 [u0, u1, u2, u3]).take (Tryd.prog.cellsOf 3)) = xs[1]? := hf 1 _ rfl
  have h2 : DataW.trod enc Tryd.prog W base sp held m 22 ((List.drop 2 [u0, u1, u2, u3]).take (Tryd.prog.cellsOf 22)) = xs[2]? := hf 2 _ rfl
  have h3 : DataW.trod enc Tryd.prog W base sp held m 23 ((List.drop 3 [u0, u1, u2, u3]).take (Tryd.prog.cellsOf 23)) = xs[3]? := hf 3 _ rfl
  rw [cells3] at h0 h1; rw [cells22] at h2; rw [cells23] at h3
  match xs, hlen with
  | [x0, x1, x2, x3], _ =>
      obtain ⟨a, e0, _⟩ := DataW.trod_int Tryd.underlying3 (x := x0) (by simpa using h0)
      obtain ⟨c, e1, _⟩ := DataW.trod_int Tryd.underlying3 (x := x1) (by simpa using h1)
      obtain ⟨fA, fc, fl, e2, hfc, hF⟩ := open_rd (en := encF) Tryd.underlying22 cells117 (by decide) (fun _ => rfl) el_flap (x := x2) (by simpa using h2)
      obtain ⟨rA, rc, rl, e3, hrc, hR⟩ := open_rd (en := encR) Tryd.underlying23 cells51 (by decide) (fun _ => rfl) el_rule (x := x3) (by simpa using h3)
      cases e0; cases e1; cases e2; cases e3
      exact ⟨⟨a, c, fl, rl⟩, fA, fc, rA, rc, rfl, hF, hR, hfc, hrc⟩
theorem open_book {r : Reach} {b0 : Nat} {v : Value} {d : DataW H} {p : List MemPlace} (hv : Value.okWide Tryd.prog W r b0 28 v) (h : DataW.Trod enc Tryd.prog W base sp held 28 v d p) : ∃ k fA fc rA rc wA wc, v = bkV k fA fc rA rc wA wc ∧ BkIn k fA fc rA rc wA wc W := by
  obtain ⟨fuel, hf⟩ := h
  unfold Value.okWide at hv
  rw [Tryd.underlying28] at hv
  obtain ⟨cs, rfl, hsz, _⟩ := hv
  obtain ⟨xs, m, _, _, hl, hlen, hel⟩ := DataW.trod_struct Tryd.underlying28 hf
  rw [cells28] at hsz
  obtain ⟨cs⟩ := cs
  obtain ⟨u0, u1, u2, u3, u4, u5, u6, u7, rfl⟩ := list8 (cs := cs) (by simpa using hsz)
  have h0 : DataW.trod enc Tryd.prog W base sp held m 25 ((List.drop 0 [u0, u1, u2, u3, u4, u5, u6, u7]).take (Tryd.prog.cellsOf 25)) = xs[0]? := hel 0 _ rfl
  have h1 : DataW.trod enc Tryd.prog W base sp held m 3 ((List.drop 4 [u0, u1, u2, u3, u4, u5, u6, u7]).take (Tryd.prog.cellsOf 3)) = xs[1]? := hel 1 _ rfl
  have h2 : DataW.trod enc Tryd.prog W base sp held m 3 ((List.drop 5 [u0, u1, u2, u3, u4, u5, u6, u7]).take (Tryd.prog.cellsOf 3)) = xs[2]? := hel 2 _ rfl
  have h3 : DataW.trod enc Tryd.prog W base sp held m 3 ((List.drop 6 [u0, u1, u2, u3, u4, u5, u6, u7]).take (Tryd.prog.cellsOf 3)) = xs[3]? := hel 3 _ rfl
  have h4 : DataW.trod enc Tryd.prog W base sp held m 26 ((List.drop 7 [u0, u1, u2, u3, u4, u5, u6, u7]).take (Tryd.prog.cellsOf 26)) = xs[4]? := hel 4 _ rfl
  rw [cells25] at h0; rw [cells3] at h1 h2 h3; rw [cells26] at h4
  match xs, hlen with
  | [x0, x1, x2, x3, x4], _ =>
      obtain ⟨b, fA, fc, rA, rc, e0, hsh⟩ := el_sheet _ _ x0 (by simpa using h0)
      obtain ⟨g, e1, _⟩ := DataW.trod_int Tryd.underlying3 (x := x1) (by simpa using h1)
      obtain ⟨q, e2, _⟩ := DataW.trod_int Tryd.underlying3 (x := x2) (by simpa using h2)
      obtain ⟨f, e3, _⟩ := DataW.trod_int Tryd.underlying3 (x := x3) (by simpa using h3)
      obtain ⟨wA, wc, l, e4, hwc, hW, hO⟩ := open_rdQ (en := encW) (Q := fun a : Wkr => a.order.length ≤ a.oc ∧ Rd encI 1 a.oA a.order.length a.order W) Tryd.underlying26 cells47 (by decide) (fun _ => rfl) el_worker (x := x4) (by simpa using h4)
      cases e0; cases e1; cases e2; cases e3; cases e4
      exact ⟨⟨b, g, q, f, l⟩, fA, fc, rA, rc, wA, wc, rfl, hsh, hW, hwc, hO⟩
theorem cells56 : Tryd.prog.cellsOf 56 = 3 := by kernel_rfl
theorem cells65 : Tryd.prog.cellsOf 65 = 5 := by kernel_rfl
theorem list3 {cs : List Value} (h : cs.length = 3) : ∃ u0 u1 u2, cs = [u0, u1, u2] := by
  match cs, h with
  | [u0, u1, u2], _ => exact ⟨u0, u1, u2, rfl⟩
theorem open_three {r : Reach} {b0 : Nat} {v : Value} {d : DataW H} {p : List MemPlace} (hv : Value.okWide Tryd.prog W r b0 56 v) (h : DataW.Trod enc Tryd.prog W base sp held 56 v d p) : ∃ n0 n1 n2 : Int, v = .agg #[.int .i64 n0, .int .i64 n1, .int .i64 n2] := by
  obtain ⟨fuel, hf⟩ := h
  unfold Value.okWide at hv
  rw [Tryd.underlying56] at hv
  obtain ⟨cs, rfl, hsz, _⟩ := hv
  obtain ⟨xs, m, _, _, hl, hlen, hel⟩ := DataW.trod_array Tryd.underlying56 hf
  rw [cells56] at hsz
  obtain ⟨cs⟩ := cs
  obtain ⟨u, v, y, rfl⟩ := list3 (cs := cs) (by simpa using hsz)
  have h0 := hel 0 (by decide)
  have h1 := hel 1 (by decide)
  have h2 := hel 2 (by decide)
  simp only [cells3, Value.cells] at h0 h1 h2
  match xs, hlen with
  | [x0, x1, x2], _ =>
    obtain ⟨a, e1, _⟩ := DataW.trod_int Tryd.underlying3 (x := x0) (by simpa using h0)
    obtain ⟨b, e2, _⟩ := DataW.trod_int Tryd.underlying3 (x := x1) (by simpa using h1)
    obtain ⟨c, e3, _⟩ := DataW.trod_int Tryd.underlying3 (x := x2) (by simpa using h2)
    cases e1; cases e2; cases e3
    exact ⟨a, b, c, rfl⟩
theorem open_five {r : Reach} {b0 : Nat} {v : Value} {d : DataW H} {p : List MemPlace} (hv : Value.okWide Tryd.prog W r b0 65 v) (h : DataW.Trod enc Tryd.prog W base sp held 65 v d p) : ∃ n0 n1 n2 n3 n4 : Int, v = .agg #[.int .i64 n0, .int .i64 n1, .int .i64 n2, .int .i64 n3, .int .i64 n4] := by
  obtain ⟨fuel, hf⟩ := h
  unfold Value.okWide at hv
  rw [Tryd.underlying65] at hv
  obtain ⟨cs, rfl, hsz, _⟩ := hv
  obtain ⟨xs, m, _, _, hl, hlen, hel⟩ := DataW.trod_array Tryd.underlying65 hf
  rw [cells65] at hsz
  obtain ⟨cs⟩ := cs
  obtain ⟨u0, u1, u2, u3, u4, rfl⟩ := list5 (cs := cs) (by simpa using hsz)
  have h0 := hel 0 (by decide)
  have h1 := hel 1 (by decide)
  have h2 := hel 2 (by decide)
  have h3 := hel 3 (by decide)
  have h4 := hel 4 (by decide)
  simp only [cells3, Value.cells] at h0 h1 h2 h3 h4
  match xs, hlen with
  | [x0, x1, x2, x3, x4], _ =>
    obtain ⟨a, e1, _⟩ := DataW.trod_int Tryd.underlying3 (x := x0) (by simpa using h0)
    obtain ⟨b, e2, _⟩ := DataW.trod_int Tryd.underlying3 (x := x1) (by simpa using h1)
    obtain ⟨c, e3, _⟩ := DataW.trod_int Tryd.underlying3 (x := x2) (by simpa using h2)
    obtain ⟨d, e4, _⟩ := DataW.trod_int Tryd.underlying3 (x := x3) (by simpa using h3)
    obtain ⟨e, e5, _⟩ := DataW.trod_int Tryd.underlying3 (x := x4) (by simpa using h4)
    cases e1; cases e2; cases e3; cases e4; cases e5
    exact ⟨a, b, c, d, e, rfl⟩
end
/-- What the condition gives: the table of the sides. -/
theorem of_laid {W : World} (h : laidMetH Tryd.prog laid1 W) : ∃ ge gz, BlkIs 1 sidesA ge gz W := by
  obtain ⟨g, t, cs, fuel, p, hg, ht, hv, hd⟩ := h.funcs (n := "lucifer/fold.sides") (.head _)
  obtain rfl := Option.some.inj (gSides.symm.trans hg)
  obtain rfl := Option.some.inj (tSides.symm.trans ht)
  obtain ⟨xs, m, _, hx, hl, hlen, hel⟩ := DataW.trod_array Tryd.underlying163 hd
  obtain ⟨cs⟩ := cs
  have hcl : Tryd.prog.cellsOf 163 = 4 := by kernel_rfl
  rw [hcl] at hl
  match cs, hl with
  | [c0, c1, c2, c3], _ =>
    match xs, hlen with
    | [x0, x1, x2, x3], _ =>
      have hx' : ((DataW.agg [.held [40, 108, 117, 99, 105, 102, 101, 114, 47, 102, 111, 108, 100, 46, 115, 104, 101, 101, 116, 41, 46, 108, 101, 102, 116], .held [40, 108, 117, 99, 105, 102, 101, 114, 47, 102, 111, 108, 100, 46, 115, 104, 101, 101, 116, 41, 46, 114, 105, 103, 104, 116], .held [40, 108, 117, 99, 105, 102, 101, 114, 47, 102, 111, 108, 100, 46, 115, 104, 101, 101, 116, 41, 46, 116, 111, 112], .held [40, 108, 117, 99, 105, 102, 101, 114, 47, 102, 111, 108, 100, 46, 115, 104, 101, 101, 116, 41, 46, 98, 111, 116, 116, 111, 109]] : DataW (List UInt8)), p) = (DataW.agg ([x0, x1, x2, x3].map (·.1)), [x0, x1, x2, x3].flatMap (·.2)) := hx
      simp only [Prod.mk.injEq, DataW.agg.injEq, List.map_cons, List.map_nil, List.cons.injEq] at hx'
      obtain ⟨⟨k0, k1, k2, k3, _⟩, _⟩ := hx'
      have hc1 : Tryd.prog.cellsOf 162 = 1 := by kernel_rfl
      have e0 : DataW.trod (funcToken Tryd.prog) Tryd.prog W 0 (fun x => true) true m 162 [c0] = some (.held [40, 108, 117, 99, 105, 102, 101, 114, 47, 102, 111, 108, 100, 46, 115, 104, 101, 101, 116, 41, 46, 108, 101, 102, 116], x0.2) := by have := hel 0 (by decide); rw [hc1] at this; rw [k0]; exact this
      have e1 : DataW.trod (funcToken Tryd.prog) Tryd.prog W 0 (fun x => true) true m 162 [c1] = some (.held [40, 108, 117, 99, 105, 102, 101, 114, 47, 102, 111, 108, 100, 46, 115, 104, 101, 101, 116, 41, 46, 114, 105, 103, 104, 116], x1.2) := by have := hel 1 (by decide); rw [hc1] at this; rw [k1]; exact this
      have e2 : DataW.trod (funcToken Tryd.prog) Tryd.prog W 0 (fun x => true) true m 162 [c2] = some (.held [40, 108, 117, 99, 105, 102, 101, 114, 47, 102, 111, 108, 100, 46, 115, 104, 101, 101, 116, 41, 46, 116, 111, 112], x2.2) := by have := hel 2 (by decide); rw [hc1] at this; rw [k2]; exact this
      have e3 : DataW.trod (funcToken Tryd.prog) Tryd.prog W 0 (fun x => true) true m 162 [c3] = some (.held [40, 108, 117, 99, 105, 102, 101, 114, 47, 102, 111, 108, 100, 46, 115, 104, 101, 101, 116, 41, 46, 98, 111, 116, 116, 111, 109], x3.2) := by have := hel 3 (by decide); rw [hc1] at this; rw [k3]; exact this
      obtain rfl := func_of_trod (f0 := 163) Tryd.underlying162 (by kernel_rfl) e0
      obtain rfl := func_of_trod (f0 := 164) Tryd.underlying162 (by kernel_rfl) e1
      obtain rfl := func_of_trod (f0 := 165) Tryd.underlying162 (by kernel_rfl) e2
      obtain rfl := func_of_trod (f0 := 166) Tryd.underlying162 (by kernel_rfl) e3
      simp only [World.var?, gSides, Option.bind_some] at hv
      split at hv
      · rename_i cs ge gz hh
        cases hv
        exact ⟨ge, gz, hh⟩
      · cases hv
/-- The table of what is told of a truth. -/
theorem of_told {W : World} (h : laidMetH Tryd.prog laid1 W) : ∃ te tz, BlkIs 0 toldA te tz W := by
  obtain ⟨g, t, cs, fuel, p, hg, ht, hv, hd⟩ := h.funcs (n := "lucifer/home.told") (.tail _ (.head _))
  obtain rfl := Option.some.inj (gTold.symm.trans hg)
  obtain rfl := Option.some.inj (tTold.symm.trans ht)
  obtain ⟨xs, m, _, hx, hl, hlen, hel⟩ := DataW.trod_array Tryd.underlying136 hd
  obtain ⟨cs⟩ := cs
  have hcl : Tryd.prog.cellsOf 136 = 3 := by kernel_rfl
  rw [hcl] at hl
  match cs, hl with
  | [c0, c1, c2], _ =>
    match xs, hlen with
    | [x0, x1, x2], _ =>
      have hx' : ((DataW.agg [.held [40, 108, 117, 99, 105, 102, 101, 114, 47, 104, 111, 109, 101, 46, 98, 111, 111, 107, 41, 46, 112, 97, 115, 115, 101, 115], .held [40, 108, 117, 99, 105, 102, 101, 114, 47, 104, 111, 109, 101, 46, 98, 111, 111, 107, 41, 46, 109, 105, 115, 115, 105, 110, 103], .held [40, 108, 117, 99, 105, 102, 101, 114, 47, 104, 111, 109, 101, 46, 98, 111, 111, 107, 41, 46, 103, 101, 116, 115]] : DataW (List UInt8)), p) = (DataW.agg ([x0, x1, x2].map (·.1)), [x0, x1, x2].flatMap (·.2)) := hx
      simp only [Prod.mk.injEq, DataW.agg.injEq, List.map_cons, List.map_nil, List.cons.injEq] at hx'
      obtain ⟨⟨k0, k1, k2, _⟩, _⟩ := hx'
      have hc1 : Tryd.prog.cellsOf 135 = 1 := by kernel_rfl
      have e0 : DataW.trod (funcToken Tryd.prog) Tryd.prog W 0 (fun x => true) true m 135 [c0] = some (.held [40, 108, 117, 99, 105, 102, 101, 114, 47, 104, 111, 109, 101, 46, 98, 111, 111, 107, 41, 46, 112, 97, 115, 115, 101, 115], x0.2) := by have := hel 0 (by decide); rw [hc1] at this; rw [k0]; exact this
      have e1 : DataW.trod (funcToken Tryd.prog) Tryd.prog W 0 (fun x => true) true m 135 [c1] = some (.held [40, 108, 117, 99, 105, 102, 101, 114, 47, 104, 111, 109, 101, 46, 98, 111, 111, 107, 41, 46, 109, 105, 115, 115, 105, 110, 103], x1.2) := by have := hel 1 (by decide); rw [hc1] at this; rw [k1]; exact this
      have e2 : DataW.trod (funcToken Tryd.prog) Tryd.prog W 0 (fun x => true) true m 135 [c2] = some (.held [40, 108, 117, 99, 105, 102, 101, 114, 47, 104, 111, 109, 101, 46, 98, 111, 111, 107, 41, 46, 103, 101, 116, 115], x2.2) := by have := hel 2 (by decide); rw [hc1] at this; rw [k2]; exact this
      obtain rfl := func_of_trod (f0 := 159) Tryd.underlying135 (by kernel_rfl) e0
      obtain rfl := func_of_trod (f0 := 160) Tryd.underlying135 (by kernel_rfl) e1
      obtain rfl := func_of_trod (f0 := 161) Tryd.underlying135 (by kernel_rfl) e2
      simp only [World.var?, gTold, Option.bind_some] at hv
      split at hv
      · rename_i cs ge gz hh
        cases hv
        exact ⟨ge, gz, hh⟩
      · cases hv
/-- The arguments read behind the call as before, if nothing old has turned. -/
theorem trodAll_below {P : Program} (hl : laidOutB P = true) {H : Type} {enc : TypeId × Value → H} {W W' : World} (hb : Below W.heap.size W W') : ∀ (ts : List TypeId) (vs : List Value) (ds : List (DataW H)) (ps : List MemPlace), (ts.all fun t => P.readableRec t && decide (t < P.types.size)) = true →
    DataW.TrodAll enc P W 0 (fun _ => true) true ts vs ds ps → (∀ x ∈ ps, x.block < W.heap.size) → DataW.TrodAll enc P W' 0 (fun b => decide (b < W.heap.size)) true ts vs ds ps := by
  intro ts
  induction ts with
  | nil =>
    intro vs ds ps _ h _
    obtain ⟨rfl, rfl, rfl⟩ := trodAll_nil h
    exact h
  | cons t ts ih =>
    intro vs ds ps ht h hlt
    obtain ⟨v, vs, d, ds, p, q, rfl, rfl, rfl, h1, h2⟩ := trodAll_cons h
    simp only [List.all_cons, Bool.and_eq_true, decide_eq_true_eq] at ht
    exact ⟨p, q, Below.trod hl ht.1.1 ht.1.2 h1 hb (fun x hx => hlt x (List.mem_append_left _ hx)), ih _ _ _ ht.2 h2 (fun x hx => hlt x (List.mem_append_right _ hx)), rfl⟩
/-- What a law's row asks of the end. -/
theorem law_post {H : Type} {enc : TypeId × Value → H} {f : Func} {s : ChangeSpec} {W W' : World} {args : Array Value} {ds : List (DataW H)} {before p : List MemPlace} (hvars : s.vars = []) (hr : f.resultTypes = #[4]) (hfn : s.fn H (ds ++ []) = { results := [.lit (.bool true)], args := ds })
    (hts : (f.params.toList.all fun t => Tryd.prog.readableRec t && decide (t < Tryd.prog.types.size)) = true) (hW : DataW.Whole enc Tryd.prog f.params.toList s.vars false W args.toList ds [] before) (hp : before = p ++ []) (hA : DataW.TrodAll enc Tryd.prog W 0 (fun _ => true) true f.params.toList args.toList ds p) (hb : Below W.heap.size W W') :
    s.post enc Tryd.prog f false true false false W args (.bool true) W' := by
  have hlt : ∀ x ∈ before, x.block < W.heap.size := fun x hx => hW.lt x hx
  refine ⟨ds, [], before, [], p, [], hW, ?_, ?_, ?_, hb.frame _, fun h => by cases h⟩
  · rw [hfn, hr]
    exact trodAll_mk1 (shut_bool Tryd.underlying4 _)
  · rw [hfn]
    exact trodAll_below pLaid hb _ _ _ _ hts hA (fun x hx => hlt x (by rw [hp]; exact List.mem_append_left _ hx))
  · rw [hfn, hvars]
    rfl
end Go.Proofs.YtjjcopeedcdokaaDoor

