/- Part ComB of the proofs of the laws of home workers: laws of the engine, plain facts and contracts of the functions that they reach. Conditions: none beyond those of each theorem. -/
import Derived.Test.YtjjcopeedcdokaaDoorComA
set_option linter.unusedVariables false
set_option linter.unusedSimpArgs false
namespace Go.Proofs.YtjjcopeedcdokaaDoor
/-- What may come next behind some flaps. -/
def Next (b : Sheet) (p : List Int) (x : Int) : Prop := inN b x ∧ x ∉ p ∧ ∀ u, overP b x u = true → u ∈ p
/-- Each flap may come behind those before it. -/
def Ok (b : Sheet) (l : List Int) : Prop := ∀ k, k < l.length → Next b (l.take k) (l.getD k default)
theorem getD_app1 {p t : List Int} {k : Nat} (h : k < p.length) : (p ++ t).getD k default = p.getD k default := by
  rw [List.getD_eq_getElem?_getD, List.getD_eq_getElem?_getD, List.getElem?_append_left h]
theorem getD_app2 {p t : List Int} {x : Int} : (p ++ x :: t).getD p.length default = x := by
  rw [List.getD_eq_getElem?_getD, List.getElem?_append_right (Nat.le_refl _)]; simp
theorem Ok.app {b : Sheet} {p t : List Int} (h : Ok b (p ++ t)) : Ok b p := fun k hk => by
  have := h k (by rw [List.length_append]; omega)
  rwa [List.take_append_of_le_length (by omega), getD_app1 hk] at this
theorem ok_snoc {b : Sheet} {p : List Int} {x : Int} : Ok b (p ++ [x]) ↔ Ok b p ∧ Next b p x := by
  constructor
  · intro h
    refine ⟨h.app, ?_⟩
    have := h p.length (by simp)
    rwa [List.take_left, getD_app2] at this
  · rintro ⟨h1, h2⟩ k hk
    simp only [List.length_append, List.length_cons, List.length_nil] at hk
    by_cases e : k = p.length
    · subst e
      rwa [List.take_left, getD_app2]
    · have hk' : k < p.length := by omega
      rw [List.take_append_of_le_length (by omega), getD_app1 hk']
      exact h1 k hk'
theorem ok_nil (b : Sheet) : Ok b [] := fun k hk => absurd hk (by simp)
theorem Ok.inN {b : Sheet} {l : List Int} (h : Ok b l) {x : Int} (hx : x ∈ l) : inN b x := by
  obtain ⟨k, hk, rfl⟩ := List.getElem_of_mem hx
  have := (h k hk).1
  rwa [List.getD_eq_getElem?_getD, List.getElem?_eq_getElem hk] at this
theorem Ok.nodup {b : Sheet} {l : List Int} (h : Ok b l) : l.Nodup := by
  rw [List.nodup_iff_pairwise_ne, List.pairwise_iff_getElem]
  intro i j hi hj hij e
  have := (h j hj).2.1
  rw [List.getD_eq_getElem?_getD, List.getElem?_eq_getElem hj] at this
  exact this (List.mem_take_iff_getElem.2 ⟨i, by omega, by simpa using e⟩)
theorem overP_iff {b : Sheet} {i j : Int} : overP b i j = true ↔ 0 < cellN b 2 i j ∧ ∃ r ∈ b.rules, r.over = i ∧ r.under = j := by
  simp only [overP, Bool.and_eq_true, decide_eq_true_eq, List.any_eq_true, sameR, beq_iff_eq]
/-- Which flaps of a row are marked. -/
def Mk (d : List Bool) (p : List Int) : Prop := d.length = 7 ∧ ∀ i : Nat, i < 7 → d.getD i false = decide (((i : Nat) : Int) ∈ p)
theorem mk_nil : Mk (List.replicate 7 false) [] := ⟨rfl, fun i hi => by
  have : i = 0 ∨ i = 1 ∨ i = 2 ∨ i = 3 ∨ i = 4 ∨ i = 5 ∨ i = 6 := by omega
  rcases this with rfl | rfl | rfl | rfl | rfl | rfl | rfl <;> rfl⟩
theorem mk_snoc {d : List Bool} {p : List Int} (h : Mk d p) {i : Nat} (hi : i < 7) : Mk (d.set i true) (p ++ [((i : Nat) : Int)]) := by
  refine ⟨by simpa using h.1, fun j hj => ?_⟩
  have h2 := h.2 j hj
  rw [List.getD_eq_getElem?_getD, List.getElem?_set]
  by_cases e : i = j
  · subst e; rw [if_pos rfl, if_pos (by rw [h.1]; exact hj)]; simp
  · rw [if_neg e, ← List.getD_eq_getElem?_getD, h2]
    have : ¬ ((j : Nat) : Int) = ((i : Nat) : Int) := by omega
    simp [this]
theorem stop_iff {b : Sheet} (hv : Valid b) {d : List Bool} {p : List Int} (hd : Mk d p) (i : Int) : stopP b d i = false ↔ ∀ u, overP b i u = true → u ∈ p := by
  have hmany := hv.many
  unfold stopP
  rw [List.any_eq_false]
  constructor
  · intro h u hu
    obtain ⟨hc, r, hr, rfl, rfl⟩ := overP_iff.1 hu
    have h1 := h r hr
    have h2 := (hv.rule r hr).2.2
    have h3 := hd.2 r.under.toNat (by omega)
    rw [show ((r.under.toNat : Nat) : Int) = r.under by omega] at h3
    rw [h3] at h1
    simpa [hc] using h1
  · intro h r hr hc
    simp only [Bool.and_eq_true, beq_iff_eq, decide_eq_true_eq, Bool.not_eq_true'] at hc
    obtain ⟨⟨rfl, hc⟩, h1⟩ := hc
    have h2 := (hv.rule r hr).2.2
    have h3 := hd.2 r.under.toNat (by omega)
    rw [show ((r.under.toNat : Nat) : Int) = r.under by omega, h1] at h3
    have := h r.under (overP_iff.2 ⟨hc, r, hr, rfl, rfl⟩)
    simp [this] at h3
theorem step_iff {b : Sheet} (hv : Valid b) {d : List Bool} {p : List Int} (hd : Mk d p) {i : Nat} (hi : i < b.flaps.length) : (d.getD i false || stopP b d (i : Nat)) = false ↔ Next b p ((i : Nat) : Int) := by
  have hmany := hv.many
  rw [Bool.or_eq_false_iff, stop_iff hv hd, hd.2 i (by omega)]
  unfold Next
  simp only [decide_eq_false_iff_not]
  exact ⟨fun h => ⟨⟨by omega, by omega⟩, h.1, h.2⟩, fun h => ⟨h.2.1, h.2.2⟩⟩
theorem mem_ords {b : Sheet} (hv : Valid b) {l : List Int} : ∀ (k : Nat) (p : List Int) (d : List Bool), Mk d p → Ok b p → p.length + k = b.flaps.length → (l ∈ ordsP b k p d ↔ Ok b l ∧ l.length = b.flaps.length ∧ ∃ t, l = p ++ t)
  | 0, p, d, hd, hp, hl => by
    simp only [ordsP, List.mem_singleton]
    constructor
    · rintro rfl; exact ⟨hp, by omega, [], by simp⟩
    · rintro ⟨_, h1, t, rfl⟩
      rw [List.length_append] at h1
      have : t = [] := List.eq_nil_of_length_eq_zero (by omega)
      rw [this]; simp
  | k + 1, p, d, hd, hp, hl => by
    have hmany := hv.many
    simp only [ordsP, List.mem_flatMap, List.mem_range, ordStepP]
    constructor
    · rintro ⟨i, hi, h⟩
      split at h
      · cases h
      · rename_i hc
        have hn := (step_iff hv hd hi).1 (by simpa using hc)
        obtain ⟨h1, h2, t, rfl⟩ := (mem_ords hv k _ _ (mk_snoc hd (by omega)) (ok_snoc.2 ⟨hp, hn⟩) (by simp; omega)).1 h
        exact ⟨h1, h2, ((i : Nat) : Int) :: t, by simp⟩
    · rintro ⟨h1, h2, t, rfl⟩
      match t with
      | [] => simp at h2; omega
      | x :: t =>
        have h3 : p ++ x :: t = (p ++ [x]) ++ t := by simp
        rw [h3] at h1 h2 ⊢
        have hn := (ok_snoc.1 h1.app).2
        have hx0 := hn.1.1; have hx1 := hn.1.2
        have hx : ((x.toNat : Nat) : Int) = x := by omega
        refine ⟨x.toNat, by omega, ?_⟩
        have hs := (step_iff hv hd (i := x.toNat) (by omega)).2 (by rw [hx]; exact hn)
        rw [if_neg (by rw [hs]; decide), hx]
        have hd' := mk_snoc hd (i := x.toNat) (by omega)
        rw [hx] at hd'
        exact (mem_ords hv k _ _ hd' h1.app (by simp; omega)).2 ⟨h1, h2, t, rfl⟩
theorem mem_allO {b : Sheet} (hv : Valid b) {l : List Int} : l ∈ allO b ↔ Ok b l ∧ l.length = b.flaps.length := by
  rw [allO, mem_ords hv _ _ _ mk_nil (ok_nil b) (by simp)]
  exact ⟨fun h => ⟨h.1, h.2.1⟩, fun h => ⟨h.1, h.2, l, rfl⟩⟩
theorem idx_lt {l : List Int} {v : Int} (h : v ∈ l) : l.idxOf v < l.length := List.idxOf_lt_length_iff.2 h
theorem idx_get {l : List Int} {v : Int} (h : v ∈ l) : l.getD (l.idxOf v) default = v := by
  rw [List.getD_eq_getElem?_getD, List.getElem?_eq_getElem (idx_lt h)]
  simp
theorem idx_ne {l : List Int} {v : Int} {j : Nat} (h : j < l.idxOf v) : l.getD j default ≠ v := by
  have hj : j < l.length := Nat.lt_of_lt_of_le h List.idxOf_le_length
  rw [List.getD_eq_getElem?_getD, List.getElem?_eq_getElem hj]
  intro e
  have := List.not_of_lt_findIdx (p := (· == v)) (xs := l) (i := j) (by simpa [List.idxOf] using h)
  simp at this
  simp at e
  exact this e
theorem index_idx {l : List Int} {v : Int} (h : v ∈ l) : indexZ (fun y => v == y) l = (l.idxOf v : Nat) := by
  refine indexZ_found (idx_lt h) (fun j hj => ?_) ?_
  · have := idx_ne hj
    simp only [beq_eq_false_iff_ne, ne_eq]
    exact fun e => this e.symm
  · rw [idx_get h]; simp
theorem index_idx' {l : List Int} {v : Int} (h : v ∈ l) : indexZ (fun y => y == v) l = (l.idxOf v : Nat) := by
  refine indexZ_found (idx_lt h) (fun j hj => ?_) ?_
  · simpa using idx_ne hj
  · rw [idx_get h]; simp
theorem mem_take_idx {l : List Int} {v : Int} {k : Nat} (hl : l.Nodup) (hk : k ≤ l.length) : v ∈ l.take k ↔ v ∈ l ∧ l.idxOf v < k := by
  constructor
  · intro h
    refine ⟨List.mem_of_mem_take h, ?_⟩
    obtain ⟨j, hj, rfl⟩ := List.mem_take_iff_getElem.1 h
    rw [hl.idxOf_getElem]; omega
  · rintro ⟨h1, h2⟩
    refine List.mem_take_iff_getElem.2 ⟨l.idxOf v, by have := idx_lt h1; omega, ?_⟩
    simp
theorem ordB_iff {b : Sheet} {l : List Int} : ordB b l = true ↔ l.length = b.flaps.length ∧ l.Nodup ∧ ∀ x ∈ l, inN b x := by
  constructor
  · intro h
    simp only [ordB, Bool.and_eq_true (a := (l.length == b.flaps.length)), List.all_eq_true, List.mem_range, beq_iff_eq] at h
    refine ⟨h.1, ?_, fun x hx => ?_⟩
    · rw [List.nodup_iff_pairwise_ne, List.pairwise_iff_getElem]
      intro i j hi hj hij e
      have := h.2 j hj
      simp only [Bool.and_eq_true, Bool.not_eq_true', decide_eq_false_iff_not] at this
      rw [List.getD_eq_getElem?_getD, List.getElem?_eq_getElem hj] at this
      exact this.2 (List.mem_take_iff_getElem.2 ⟨i, by omega, by simpa using e⟩)
    · obtain ⟨k, hk, rfl⟩ := List.getElem_of_mem hx
      have := h.2 k hk
      simp only [Bool.and_eq_true] at this
      rw [List.getD_eq_getElem?_getD, List.getElem?_eq_getElem hk] at this
      exact flapB_in this.1
  · rintro ⟨h1, h2, h3⟩
    simp only [ordB, Bool.and_eq_true (a := (l.length == b.flaps.length)), List.all_eq_true, List.mem_range, beq_iff_eq]
    refine ⟨h1, fun k hk => ?_⟩
    rw [List.getD_eq_getElem?_getD, List.getElem?_eq_getElem hk]
    have h4 := h3 _ (List.getElem_mem hk)
    simp only [Option.getD_some, Bool.and_eq_true, Bool.not_eq_true', decide_eq_false_iff_not]
    refine ⟨fitsB_iff.2 ⟨h4.1, by have := h4.2; omega⟩, fun hm => ?_⟩
    have := (mem_take_idx h2 (by omega)).1 hm
    rw [h2.idxOf_getElem] at this; omega
theorem ord_mem {b : Sheet} {l : List Int} (h : ordB b l = true) {x : Int} (hx : inN b x) : x ∈ l := by
  obtain ⟨h1, h2, h3⟩ := ordB_iff.1 h
  have hsub : l ⊆ (List.range b.flaps.length).map fun i => ((i : Nat) : Int) := fun y hy => by
    have h9 := h3 y hy
    exact List.mem_map.2 ⟨y.toNat, List.mem_range.2 (by have := h9.1; have := h9.2; omega), by have := h9.1; omega⟩
  by_cases hm : x ∈ l
  · exact hm
  · have hn : (x :: l).Nodup := List.nodup_cons.2 ⟨hm, h2⟩
    have := hn.length_le_of_subset (l₂ := (List.range b.flaps.length).map fun i => ((i : Nat) : Int)) (fun y hy => by
      rcases List.mem_cons.1 hy with rfl | hy
      · exact List.mem_map.2 ⟨y.toNat, List.mem_range.2 (by have := hx.1; have := hx.2; omega), by have := hx.1; omega⟩
      · exact hsub hy)
    simp at this; omega
theorem ok_ord {b : Sheet} {l : List Int} (h : Ok b l) (hl : l.length = b.flaps.length) : ordB b l = true := ordB_iff.2 ⟨hl, h.nodup, fun x hx => h.inN hx⟩
/-- In an order that does each flap comes behind those that it must lie over. -/
theorem ok_iff {b : Sheet} (hv : Valid b) {l : List Int} (ho : ordB b l = true) : Ok b l ↔ ∀ r ∈ b.rules, 0 < cellN b 2 r.over r.under → l.idxOf r.under < l.idxOf r.over := by
  obtain ⟨h1, h2, h3⟩ := ordB_iff.1 ho
  constructor
  · intro h r hr hc
    have hi := rule_in hv hr
    have hm := ord_mem ho hi.1
    have := (h (l.idxOf r.over) (idx_lt hm)).2.2 r.under (by rw [idx_get hm]; exact overP_iff.2 ⟨hc, r, hr, rfl, rfl⟩)
    exact ((mem_take_idx h2 (Nat.le_of_lt (idx_lt hm))).1 this).2
  · intro h k hk
    refine ⟨h3 _ (getD_mem hk), fun hm => ?_, fun u hu => ?_⟩
    · have := ((mem_take_idx h2 (by omega)).1 hm).2
      rw [List.getD_eq_getElem?_getD, List.getElem?_eq_getElem hk, Option.getD_some, h2.idxOf_getElem] at this; omega
    · obtain ⟨hc, r, hr, hro, rfl⟩ := overP_iff.1 hu
      rw [← hro] at hc
      have := h r hr hc
      rw [hro, List.getD_eq_getElem?_getD, List.getElem?_eq_getElem hk, Option.getD_some, h2.idxOf_getElem] at this
      exact (mem_take_idx h2 (by omega)).2 ⟨ord_mem ho (rule_in hv hr).2, this⟩
theorem fold_zero (b : Sheet) (l : List Int) : ∀ (rs : List Rule) (x : Int), 0 ≤ x → (rs.foldl (stepW b l) x = 0 ↔ x = 0 ∧ ∀ r ∈ rs, indexZ (fun y => r.over == y) l < indexZ (fun y => r.under == y) l → cellN b 2 r.over r.under = 0)
  | [], x, hx => by simp
  | r :: rs, x, hx => by
    have hc := cell_rng b r.over r.under
    have h0 : 0 ≤ stepW b l x r := by unfold stepW; split <;> omega
    rw [List.foldl_cons, fold_zero b l rs _ h0]
    simp only [List.mem_cons, forall_eq_or_imp]
    unfold stepW
    split
    · rename_i h
      constructor
      · rintro ⟨h1, h2⟩; exact ⟨by omega, fun _ => by omega, h2⟩
      · rintro ⟨h1, h2, h3⟩; exact ⟨by have := h2 h; omega, h3⟩
    · rename_i h
      constructor
      · rintro ⟨h1, h2⟩; exact ⟨h1, fun h' => absurd h' h, h2⟩
      · rintro ⟨h1, h2, h3⟩; exact ⟨h1, h3⟩
theorem fold_max (b : Sheet) (l : List Int) : ∀ (rs : List Rule) (x : Int), rs.foldl (stepW b l) x = 2 → x = 2 ∨ ∃ r ∈ rs, indexZ (fun y => r.over == y) l < indexZ (fun y => r.under == y) l ∧ cellN b 2 r.over r.under = 2
  | [], x, h => .inl h
  | r :: rs, x, h => by
    rw [List.foldl_cons] at h
    rcases fold_max b l rs _ h with h | ⟨s, hs, h1, h2⟩
    · unfold stepW at h
      split at h
      · rename_i hi
        by_cases e : x = 2
        · exact .inl e
        · refine .inr ⟨r, .head _, hi, ?_⟩
          rcases Int.le_total x (cellN b 2 r.over r.under) with h' | h' <;> omega
      · exact .inl h
    · exact .inr ⟨s, .tail _ hs, h1, h2⟩
theorem does_ok {b : Sheet} (hck : checkB b = true) {l : List Int} (ho : ordB b l = true) : doesP b l = (2 - worst b l b.rules.length, 0) := by
  have : askE b (ordB b l) = 0 := by rw [ho]; simp [askE, hck]
  simp [doesP, this]
theorem does_two {b : Sheet} (hv : Valid b) {l : List Int} (ho : ordB b l = true) : 2 - worst b l b.rules.length = 2 ↔ Ok b l := by
  rw [ok_iff hv ho]
  have hz := fold_zero b l b.rules 0 (by omega)
  have h2 := (ordB_iff.1 ho).2.1
  unfold worst
  rw [List.take_length]
  constructor
  · intro h r hr hc
    have hi := rule_in hv hr
    have m1 := ord_mem ho hi.1; have m2 := ord_mem ho hi.2
    have := (hz.1 (by omega)).2 r hr
    rw [index_idx m1, index_idx m2] at this
    by_cases h5 : l.idxOf r.under < l.idxOf r.over
    · exact h5
    · by_cases e : l.idxOf r.over = l.idxOf r.under
      · have e1 := idx_get m1; have e2 := idx_get m2
        rw [e] at e1
        exact absurd (e1.symm.trans e2) (hv.rule r hr).2.2.2.2
      · have := this (by omega); omega
  · intro h
    have : (b.rules.foldl (stepW b l) 0) = 0 := hz.2 ⟨rfl, fun r hr hlt => by
      have hi := rule_in hv hr
      have m1 := ord_mem ho hi.1; have m2 := ord_mem ho hi.2
      rw [index_idx m1, index_idx m2] at hlt
      have hc := cell_rng b r.over r.under
      by_cases h5 : 0 < cellN b 2 r.over r.under
      · have := h r hr h5; omega
      · omega⟩
    omega
end Go.Proofs.YtjjcopeedcdokaaDoor

set_option linter.unusedVariables false
set_option linter.unusedSimpArgs false
namespace Go.Proofs.YtjjcopeedcdokaaDoor
def pickR (best : Option (List Int)) (r : List Int) : Option (List Int) := if ringLt best r = true then some r else best
/-- All rings that begin with a row, in the order in which they are sought. -/
def ringsL (b : Sheet) : Nat → List Int → List (List Int)
  | 0, r => []
  | k + 1, r => (if (decide ((1 : Int) < (r.length : Nat)) && overP b (headI r) (lastI r)) = true then [r] else []) ++
    (List.range b.flaps.length).flatMap fun i => if (decide (headI r < (i : Nat)) && (!decide (((i : Nat) : Int) ∈ r) && overP b (i : Nat) (lastI r))) = true then ringsL b k (r ++ [((i : Nat) : Int)]) else []
def allR (b : Sheet) : List (List Int) := (List.range b.flaps.length).flatMap fun i => ringsL b 8 [((i : Nat) : Int)]
theorem rings_len (b : Sheet) : ∀ (k : Nat) (r : List Int), ∀ s ∈ ringsL b k r, r.length ≤ s.length
  | 0, r, s, h => by cases h
  | k + 1, r, s, h => by
    simp only [ringsL, List.mem_append, List.mem_flatMap] at h
    rcases h with h | ⟨i, _, h⟩
    · split at h
      · rw [List.mem_singleton.1 h]; exact Nat.le_refl _
      · cases h
    · split at h
      · have := rings_len b k _ s h; simp at this; omega
      · cases h
theorem pick_skip {l : List Int} : ∀ (L : List (List Int)), (∀ s ∈ L, l.length ≤ s.length) → L.foldl pickR (some l) = some l
  | [], _ => rfl
  | s :: L, h => by
    have h1 := h s (.head _)
    rw [List.foldl_cons, show pickR (some l) s = some l by unfold pickR; rw [if_neg (by simp [ringLt]; omega)]]
    exact pick_skip L fun s hs => h s (.tail _ hs)
theorem ringF_eq (b : Sheet) : ∀ (k : Nat) (r : List Int) (best : Option (List Int)), ringF b k r best = (ringsL b k r).foldl pickR best
  | 0, r, best => rfl
  | k + 1, r, best => by
    have e1 : (if (decide ((1 : Int) < (r.length : Nat)) && overP b (headI r) (lastI r)) = true then [r] else []).foldl pickR best = ring1 b r best := by
      unfold ring1
      cases (decide ((1 : Int) < (r.length : Nat)) && overP b (headI r) (lastI r)) with
      | true => simp [pickR]
      | false => simp
    have e2 : ∀ o : Option (List Int), ((List.range b.flaps.length).flatMap fun i => if (decide (headI r < (i : Nat)) && (!decide (((i : Nat) : Int) ∈ r) && overP b (i : Nat) (lastI r))) = true then ringsL b k (r ++ [((i : Nat) : Int)]) else []).foldl pickR o = (List.range b.flaps.length).foldl (ringStep b r (ringF b k)) o := by
      intro o
      rw [List.foldl_flatMap]
      congr 1
      funext o i
      unfold ringStep
      split
      · rw [ringF_eq b k]
      · rfl
    simp only [ringF, ringsL]
    rw [List.foldl_append, e1, e2]
    by_cases hc : ringCut (ring1 b r best) r = true
    · rw [if_pos hc, ← e2]
      cases ho : ring1 b r best with
      | none => rw [ho] at hc; simp [ringCut] at hc
      | some l =>
        rw [ho] at hc
        simp only [ringCut, decide_eq_true_eq] at hc
        rw [pick_skip]
        intro s hs
        obtain ⟨i, _, hs⟩ := List.mem_flatMap.1 hs
        split at hs
        · have := rings_len b k _ s hs; simp at this; omega
        · cases hs
    · rw [if_neg hc]
theorem ringP_eq {b : Sheet} (hck : checkB b = true) : ringP b = match (allR b).foldl pickR none with | some l => (l, 0) | none => ([], 4) := by
  have h1 : askE b true = 0 := by simp [askE, hck]
  rw [ringP, if_pos h1, allR, List.foldl_flatMap]
  have : (fun (best : Option (List Int)) (i : Nat) => ringF b 8 [((i : Nat) : Int)] best) = fun acc x => List.foldl pickR acc (ringsL b 8 [((x : Nat) : Int)]) := by funext o i; exact ringF_eq b 8 _ _
  rw [this]
  cases List.foldl (fun acc x => List.foldl pickR acc (ringsL b 8 [((x : Nat) : Int)])) none (List.range b.flaps.length) <;> rfl
structure Row (b : Sheet) (r : List Int) : Prop where
  ne : r ≠ []
  nodup : r.Nodup
  inb : ∀ x ∈ r, inN b x
  least : ∀ k, 0 < k → k < r.length → r.getD 0 default < r.getD k default
  chain : ∀ k, k + 1 < r.length → overP b (r.getD (k + 1) default) (r.getD k default) = true
structure Ring (b : Sheet) (r : List Int) : Prop extends Row b r where
  two : 2 ≤ r.length
  round : overP b (headI r) (lastI r) = true
theorem row_snoc {b : Sheet} {r : List Int} (hr : r ≠ []) {x : Int} : Row b (r ++ [x]) ↔ Row b r ∧ inN b x ∧ headI r < x ∧ x ∉ r ∧ overP b x (lastI r) = true := by
  have h0 := List.length_pos_iff.2 hr
  have hh : (r ++ [x]).getD 0 default = headI r := getD_app1 h0
  have hl : (r ++ [x]).getD (r.length - 1) default = lastI r := getD_app1 (by omega)
  constructor
  · rintro ⟨h1, h2, h3, h4, h5⟩
    have hx : x ∉ r := by
      rw [List.nodup_append] at h2
      exact fun hm => h2.2.2 x hm x (List.mem_singleton.2 rfl) rfl
    refine ⟨⟨hr, (List.nodup_append.1 h2).1, fun y hy => h3 y (List.mem_append_left _ hy), fun k hk hk2 => ?_, fun k hk => ?_⟩, h3 x (by simp), ?_, hx, ?_⟩
    · have := h4 k hk (by simp; omega)
      rwa [hh, getD_app1 hk2] at this
    · have := h5 k (by simp; omega)
      rwa [getD_app1 hk, getD_app1 (by omega)] at this
    · have := h4 r.length h0 (by simp)
      rwa [hh, getD_app2] at this
    · have := h5 (r.length - 1) (by simp; omega)
      rwa [show r.length - 1 + 1 = r.length by omega, getD_app2, hl] at this
  · rintro ⟨⟨h1, h2, h3, h4, h5⟩, hx, hlt, hm, ho⟩
    refine ⟨by simp, List.nodup_append.2 ⟨h2, by simp, fun a ha c hc e => ?_⟩, fun y hy => ?_, fun k hk hk2 => ?_, fun k hk => ?_⟩
    · rw [List.mem_singleton.1 hc] at e; exact hm (e ▸ ha)
    · rcases List.mem_append.1 hy with hy | hy
      · exact h3 y hy
      · rw [List.mem_singleton.1 hy]; exact hx
    · simp only [List.length_append, List.length_cons, List.length_nil] at hk2
      rw [hh]
      by_cases e : k = r.length
      · subst e; rw [getD_app2]; exact hlt
      · rw [getD_app1 (by omega)]; exact h4 k hk (by omega)
    · simp only [List.length_append, List.length_cons, List.length_nil] at hk
      by_cases e : k + 1 = r.length
      · rw [e, getD_app2, show k = r.length - 1 by omega, hl]; exact ho
      · rw [getD_app1 (by omega), getD_app1 (by omega)]; exact h5 k (by omega)
theorem row_app {b : Sheet} {r : List Int} (hr : r ≠ []) : ∀ (t : List Int), Row b (r ++ t) → Row b r := by
  intro t
  induction t generalizing r with
  | nil => intro h; simpa using h
  | cons x t ih =>
    intro h
    have h1 : Row b ((r ++ [x]) ++ t) := by simpa using h
    exact ((row_snoc hr).1 (ih (by simp) h1)).1
theorem mem_rings {b : Sheet} {s : List Int} : ∀ (k : Nat) (r : List Int), Row b r → freeN b r < k → (s ∈ ringsL b k r ↔ Ring b s ∧ ∃ t, s = r ++ t)
  | 0, r, hr, hf => absurd hf (by omega)
  | k + 1, r, hr, hf => by
    have h0 := List.length_pos_iff.2 hr.ne
    simp only [ringsL, List.mem_append, List.mem_flatMap, List.mem_range]
    constructor
    · rintro (h | ⟨i, hi, h⟩)
      · split at h
        · rename_i hc
          rw [List.mem_singleton.1 h]
          simp only [Bool.and_eq_true, decide_eq_true_eq] at hc
          exact ⟨⟨hr, by omega, hc.2⟩, [], by simp⟩
        · cases h
      · split at h
        · rename_i hc
          simp only [Bool.and_eq_true, decide_eq_true_eq, Bool.not_eq_true', decide_eq_false_iff_not] at hc
          have hr2 := (row_snoc hr.ne).2 ⟨hr, ⟨by omega, by omega⟩, hc.1, hc.2.1, hc.2.2⟩
          have hf2 := freeN_lt (b := b) (r := r) hi hc.2.1
          obtain ⟨h1, t, rfl⟩ := (mem_rings k _ hr2 (by omega)).1 h
          exact ⟨h1, ((i : Nat) : Int) :: t, by simp⟩
        · cases h
    · rintro ⟨h1, t, rfl⟩
      match t with
      | [] =>
        left
        rw [List.append_nil] at h1 ⊢
        rw [if_pos (by simp only [Bool.and_eq_true, decide_eq_true_eq]; exact ⟨by have := h1.two; omega, h1.round⟩)]
        exact List.mem_singleton.2 rfl
      | x :: t =>
        right
        have h3 : r ++ x :: t = (r ++ [x]) ++ t := by simp
        rw [h3] at h1 ⊢
        have hr2 := row_app (by simp) _ h1.toRow
        obtain ⟨_, hx, hlt, hm, ho⟩ := (row_snoc hr.ne).1 hr2
        have hx0 := hx.1; have hx1 := hx.2
        have he : ((x.toNat : Nat) : Int) = x := by omega
        refine ⟨x.toNat, by omega, ?_⟩
        rw [he, if_pos (by simp only [Bool.and_eq_true, decide_eq_true_eq, Bool.not_eq_true', decide_eq_false_iff_not]; exact ⟨hlt, hm, ho⟩)]
        have hf2 := freeN_lt (b := b) (r := r) (i := x.toNat) (by omega) (by rw [he]; exact hm)
        rw [he] at hf2
        exact (mem_rings k _ hr2 (by omega)).2 ⟨h1, t, rfl⟩
theorem row_one {b : Sheet} {x : Int} (h : inN b x) : Row b [x] := ⟨by simp, by simp, fun y hy => by rw [List.mem_singleton.1 hy]; exact h, fun k h1 h2 => by simp at h2; omega, fun k hk => by simp at hk⟩
theorem free_one {b : Sheet} (hv : Valid b) (x : Int) : freeN b [x] < 8 := by
  have := freeN_le b [x]; have := hv.many; omega
theorem mem_allR {b : Sheet} (hv : Valid b) {s : List Int} : s ∈ allR b ↔ Ring b s := by
  simp only [allR, List.mem_flatMap, List.mem_range]
  constructor
  · rintro ⟨i, hi, h⟩
    exact ((mem_rings 8 _ (row_one ⟨by omega, by omega⟩) (free_one hv _)).1 h).1
  · intro h
    match s, h with
    | [], h => exact absurd rfl h.ne
    | x :: t, h =>
      have hx := h.inb x (.head _)
      have hx0 := hx.1; have hx1 := hx.2
      refine ⟨x.toNat, by omega, ?_⟩
      rw [show ((x.toNat : Nat) : Int) = x by omega]
      exact (mem_rings 8 _ (row_one hx) (free_one hv _)).2 ⟨h, t, rfl⟩
theorem pick_none {L : List (List Int)} (h : L.foldl pickR none = none) : L = [] := by
  match L with
  | [] => rfl
  | s :: L =>
    have : ∀ (L : List (List Int)) (l : List Int), L.foldl pickR (some l) ≠ none := by
      intro L
      induction L with
      | nil => intro l h; cases h
      | cons s L ih =>
        intro l
        rw [List.foldl_cons]
        unfold pickR
        split
        · exact ih _
        · exact ih _
    exact absurd h (by rw [List.foldl_cons, show pickR none s = some s from rfl]; exact this L s)
theorem pick_min : ∀ (L : List (List Int)) (o : Option (List Int)) (l : List Int), L.foldl pickR o = some l → (o = some l ∨ l ∈ L) ∧ (∀ s ∈ L, l.length ≤ s.length) ∧ ∀ s, o = some s → l.length ≤ s.length
  | [], o, l, h => ⟨.inl h, (fun s hs => by cases hs), fun s hs => by simp only [List.foldl_nil] at h; rw [h] at hs; cases hs; exact Nat.le_refl _⟩
  | x :: L, o, l, h => by
    rw [List.foldl_cons] at h
    obtain ⟨h1, h2, h3⟩ := pick_min L _ l h
    unfold pickR at h1 h3
    cases hlt : ringLt o x with
    | true =>
      rw [if_pos hlt] at h1 h3
      have hx := h3 x rfl
      refine ⟨?_, fun s hs => ?_, fun s hs => ?_⟩
      · rcases h1 with h1 | h1
        · cases h1; exact .inr (.head _)
        · exact .inr (.tail _ h1)
      · rcases List.mem_cons.1 hs with rfl | hs
        · exact hx
        · exact h2 s hs
      · subst hs; simp [ringLt] at hlt; omega
    | false =>
      rw [if_neg (by rw [hlt]; decide)] at h1 h3
      refine ⟨?_, fun s hs => ?_, h3⟩
      · rcases h1 with h1 | h1
        · exact .inl h1
        · exact .inr (.tail _ h1)
      · rcases List.mem_cons.1 hs with rfl | hs
        · cases o with
          | none => simp [ringLt] at hlt
          | some q => simp [ringLt] at hlt; have := h3 q rfl; omega
        · exact h2 s hs
/-- What the ring's answer is. -/
theorem ring_cases {b : Sheet} (hck : checkB b = true) : (ringP b = ([], 4) ∧ ∀ s, ¬ Ring b s) ∨ ∃ l, ringP b = (l, 0) ∧ Ring b l ∧ ∀ s, Ring b s → l.length ≤ s.length := by
  have hv := valid_of hck
  rw [ringP_eq hck]
  cases h : (allR b).foldl pickR none with
  | none =>
    left
    refine ⟨rfl, fun s hs => ?_⟩
    have := (mem_allR hv).2 hs
    rw [pick_none h] at this; cases this
  | some l =>
    right
    obtain ⟨h1, h2, _⟩ := pick_min _ _ _ h
    refine ⟨l, rfl, ?_, fun s hs => h2 s ((mem_allR hv).2 hs)⟩
    rcases h1 with h1 | h1
    · cases h1
    · exact (mem_allR hv).1 h1
structure Cyc (b : Sheet) (c : List Int) : Prop where
  two : 2 ≤ c.length
  nodup : c.Nodup
  inb : ∀ x ∈ c, inN b x
  round : ∀ k, k < c.length → overP b (c.getD ((k + 1) % c.length) default) (c.getD k default) = true
theorem getD_inj {c : List Int} (h : c.Nodup) {i j : Nat} (hi : i < c.length) (hj : j < c.length) (e : c.getD i default = c.getD j default) : i = j := by
  rw [List.getD_eq_getElem?_getD, List.getD_eq_getElem?_getD, List.getElem?_eq_getElem hi, List.getElem?_eq_getElem hj] at e
  simp only [Option.getD_some] at e
  have h1 := h.idxOf_getElem i hi
  have h2 := h.idxOf_getElem j hj
  rw [e] at h1
  omega
theorem least_at : ∀ (c : List Int), c ≠ [] → ∃ m, m < c.length ∧ ∀ k, k < c.length → c.getD m default ≤ c.getD k default
  | [x], _ => ⟨0, by simp, fun k hk => by simp at hk; subst hk; exact Int.le_refl _⟩
  | x :: y :: c, _ => by
    obtain ⟨m, hm, h⟩ := least_at (y :: c) (by simp)
    by_cases hx : x ≤ (y :: c).getD m default
    · refine ⟨0, by simp, fun k hk => ?_⟩
      match k with
      | 0 => exact Int.le_refl _
      | k + 1 => have := h k (by simp at hk ⊢; omega); simp only [List.getD_cons_zero, List.getD_cons_succ] at this ⊢; omega
    · refine ⟨m + 1, by simp at hm ⊢; omega, fun k hk => ?_⟩
      match k with
      | 0 => simp only [List.getD_cons_zero, List.getD_cons_succ]; omega
      | k + 1 => have := h k (by simp at hk ⊢; omega); simp only [List.getD_cons_succ]; omega
theorem getD_map_range {f : Nat → Int} {n k : Nat} (h : k < n) : ((List.range n).map f).getD k default = f k := by
  rw [List.getD_eq_getElem?_getD, List.getElem?_map, List.getElem?_range h]; rfl
theorem ring_of_cyc {b : Sheet} {c : List Int} (hc : Cyc b c) : ∃ s, Ring b s ∧ s.length = c.length := by
  have h2 := hc.two
  obtain ⟨m, hm, hmin⟩ := least_at c (by intro e; rw [e] at h2; simp at h2)
  obtain ⟨n, hn⟩ : ∃ n, c.length = n := ⟨_, rfl⟩
  rw [hn] at h2 hm hmin
  have hlt : ∀ i, (m + i) % n < n := fun i => Nat.mod_lt _ (by omega)
  have hg : ∀ k, k < n → ((List.range n).map fun i => c.getD ((m + i) % n) default).getD k default = c.getD ((m + k) % n) default := fun k hk => getD_map_range hk
  have hinj : ∀ i j, i < n → j < n → (m + i) % n = (m + j) % n → i = j := by
    intro i j hi hj e
    have h1 : (m + i) % n = if m + i < n then m + i else m + i - n := by
      split
      · exact Nat.mod_eq_of_lt (by omega)
      · rw [Nat.mod_eq_sub_mod (by omega)]; exact Nat.mod_eq_of_lt (by omega)
    have h2 : (m + j) % n = if m + j < n then m + j else m + j - n := by
      split
      · exact Nat.mod_eq_of_lt (by omega)
      · rw [Nat.mod_eq_sub_mod (by omega)]; exact Nat.mod_eq_of_lt (by omega)
    rw [h1, h2] at e
    split at e <;> split at e <;> omega
  have hm0 : (m + 0) % n = m := Nat.mod_eq_of_lt (by omega)
  refine ⟨(List.range n).map fun i => c.getD ((m + i) % n) default, ⟨⟨?_, ?_, ?_, ?_, ?_⟩, ?_, ?_⟩, by simp [hn]⟩
  · intro e
    have := congrArg List.length e
    simp at this; omega
  · rw [List.nodup_iff_pairwise_ne, List.pairwise_map]
    refine (List.pairwise_iff_getElem.2 fun i j hi hj hij => ?_)
    simp only [List.getElem_range, List.length_range] at hi hj ⊢
    intro e
    have := getD_inj hc.nodup (by rw [hn]; exact hlt i) (by rw [hn]; exact hlt j) e
    have := hinj i j hi hj this
    omega
  · intro x hx
    obtain ⟨i, hi, rfl⟩ := List.mem_map.1 hx
    exact hc.inb _ (getD_mem (by rw [hn]; exact hlt i))
  · intro k hk hk2
    simp only [List.length_map, List.length_range] at hk2
    rw [hg 0 (by omega), hg k hk2, hm0]
    have h3 := hmin ((m + k) % n) (hlt k)
    have h4 : c.getD m default ≠ c.getD ((m + k) % n) default := fun e => by
      have h5 := getD_inj hc.nodup (by rw [hn]; exact hm) (by rw [hn]; exact hlt k) e
      have := hinj 0 k (by omega) hk2 (by rw [hm0]; exact h5)
      omega
    omega
  · intro k hk
    simp only [List.length_map, List.length_range] at hk
    rw [hg k (by omega), hg (k + 1) hk]
    have := hc.round ((m + k) % n) (by rw [hn]; exact hlt k)
    rw [hn, Nat.mod_add_mod] at this
    exact this
  · simp; exact h2
  · unfold headI lastI
    simp only [List.length_map, List.length_range]
    rw [hg 0 (by omega), hg (n - 1) (by omega), hm0]
    have := hc.round ((m + (n - 1)) % n) (by rw [hn]; exact hlt _)
    rw [hn, Nat.mod_add_mod, show m + (n - 1) + 1 = m + n by omega, Nat.add_mod_right, Nat.mod_eq_of_lt hm] at this
    exact this
theorem ok_over {b : Sheet} {l : List Int} (h : Ok b l) {x u : Int} (hx : x ∈ l) (ho : overP b x u = true) : l.idxOf u < l.idxOf x := by
  have := (h (l.idxOf x) (idx_lt hx)).2.2 u (by rw [idx_get hx]; exact ho)
  exact ((mem_take_idx h.nodup (Nat.le_of_lt (idx_lt hx))).1 this).2
theorem no_ring {b : Sheet} {l : List Int} (h : Ok b l) (hl : l.length = b.flaps.length) {s : List Int} (hs : Ring b s) : False := by
  have hm : ∀ x ∈ s, x ∈ l := fun x hx => ord_mem (ok_ord h hl) (hs.inb x hx)
  have h2 := hs.two
  have hup : ∀ k, k < s.length → l.idxOf (s.getD 0 default) ≤ l.idxOf (s.getD k default) := by
    intro k
    induction k with
    | zero => intro _; exact Nat.le_refl _
    | succ k ih =>
      intro hk
      have h3 := ih (by omega)
      have h4 := ok_over h (hm _ (getD_mem hk)) (hs.chain k hk)
      omega
  have h3 := hup (s.length - 1) (by omega)
  have h4 := ok_over h (hm _ (getD_mem (i := 0) (by omega))) hs.round
  unfold headI lastI at h4
  omega
def itF (f : Int → Int) : Nat → Int → Int
  | 0, x => x
  | k + 1, x => f (itF f k x)
theorem it_add (f : Int → Int) (i j : Nat) (x : Int) : itF f (i + j) x = itF f i (itF f j x) := by
  induction i with
  | zero => simp [itF]
  | succ i ih => rw [Nat.succ_add]; simp only [itF]; rw [ih]
theorem exists_least {p : Nat → Prop} {d : Nat} (h : p d) : ∃ m, p m ∧ ∀ k, k < m → ¬ p k := by
  classical
  induction d using Nat.strongRecOn with
  | _ d ih =>
    by_cases hex : ∃ k, k < d ∧ p k
    · obtain ⟨k, hk, hp⟩ := hex
      exact ih k hk hp
    · exact ⟨d, h, fun k hk hp => hex ⟨k, hk, hp⟩⟩
theorem cyc_of_fun {b : Sheet} (hv : Valid b) {S : Int → Prop} {f : Int → Int} (hS : ∀ x, S x → inN b x) (hf : ∀ x, S x → S (f x)) (ho : ∀ x, S x → overP b x (f x) = true) {x : Int} (hx : S x) : ∃ c, Cyc b c := by
  have hit : ∀ k y, S y → S (itF f k y) := by
    intro k y hy
    induction k with
    | zero => exact hy
    | succ k ih => exact hf _ ih
  have hdup : ¬ ((List.range (b.flaps.length + 1)).map fun k => itF f k x).Nodup := by
    intro hn
    have := hn.length_le_of_subset (l₂ := (List.range b.flaps.length).map fun i => ((i : Nat) : Int)) (fun y hy => by
      obtain ⟨k, _, rfl⟩ := List.mem_map.1 hy
      have h := hS _ (hit k x hx)
      exact List.mem_map.2 ⟨(itF f k x).toNat, List.mem_range.2 (by have := h.1; have := h.2; omega), by have := h.1; omega⟩)
    simp at this; omega
  have hper : ∃ i d, 0 < d ∧ itF f d (itF f i x) = itF f i x := by
    rw [List.nodup_iff_pairwise_ne, List.pairwise_map, List.pairwise_iff_getElem] at hdup
    simp only [Classical.not_forall] at hdup
    obtain ⟨i, j, hi, hj, hij, h⟩ := hdup
    simp only [List.getElem_range, ne_eq, Classical.not_not] at h
    refine ⟨i, j - i, by omega, ?_⟩
    rw [← it_add, show j - i + i = j by omega, h]
  obtain ⟨i, d0, hd0, hper⟩ := hper
  obtain ⟨y, hy⟩ : ∃ y, y = itF f i x := ⟨_, rfl⟩
  rw [← hy] at hper
  have hSy : S y := hy ▸ hit i x hx
  obtain ⟨d, ⟨hd, hdy⟩, hmin⟩ := exists_least (p := fun d => 0 < d ∧ itF f d y = y) (d := d0) ⟨hd0, hper⟩
  have hd2 : 2 ≤ d := by
    by_cases e : d = 1
    · subst e
      have h1 := ho y hSy
      have h2 : f y = y := hdy
      rw [h2] at h1
      obtain ⟨_, r, hr, h3, h4⟩ := overP_iff.1 h1
      exact absurd (h3.trans h4.symm) (hv.rule r hr).2.2.2.2
    · omega
  have hg : ∀ k, k < d → ((List.range d).map fun k => itF f (d - 1 - k) y).getD k default = itF f (d - 1 - k) y := fun k hk => getD_map_range hk
  have hne : ∀ i j, i < j → j < d → itF f i y ≠ itF f j y := by
    intro i j hij hj e
    have h1 : itF f (d - j + i) y = y := by
      rw [it_add, e, ← it_add, show d - j + j = d by omega, hdy]
    exact hmin (d - j + i) (by omega) ⟨by omega, h1⟩
  refine ⟨(List.range d).map fun k => itF f (d - 1 - k) y, by simpa using hd2, ?_, ?_, ?_⟩
  · rw [List.nodup_iff_pairwise_ne, List.pairwise_map, List.pairwise_iff_getElem]
    intro i j hi hj hij
    simp only [List.getElem_range, List.length_range] at hi hj ⊢
    exact fun e => hne (d - 1 - j) (d - 1 - i) (by omega) (by omega) e.symm
  · intro z hz
    obtain ⟨k, _, rfl⟩ := List.mem_map.1 hz
    exact hS _ (hit _ y hSy)
  · intro k hk
    simp only [List.length_map, List.length_range] at hk ⊢
    rw [hg k hk]
    by_cases e : k + 1 = d
    · rw [e, Nat.mod_self, hg 0 (by omega), show d - 1 - k = 0 by omega]
      have h1 := ho _ (hit (d - 1 - 0) y hSy)
      have h2 : f (itF f (d - 1 - 0) y) = y := by
        have : itF f (d - 1 - 0 + 1) y = y := by rw [show d - 1 - 0 + 1 = d by omega]; exact hdy
        exact this
      rw [h2] at h1
      exact h1
    · rw [Nat.mod_eq_of_lt (by omega), hg (k + 1) (by omega)]
      have h1 := ho _ (hit (d - 1 - (k + 1)) y hSy)
      have h2 : f (itF f (d - 1 - (k + 1)) y) = itF f (d - 1 - k) y := by
        rw [show d - 1 - k = d - 1 - (k + 1) + 1 by omega]; rfl
      rw [h2] at h1
      exact h1
theorem next_of {b : Sheet} (hv : Valid b) (hr : ∀ s, ¬ Ring b s) {p : List Int} (hp : Ok b p) (hl : p.length < b.flaps.length) : ∃ x, Next b p x := by
  classical
  by_cases hex : ∃ x, Next b p x
  · exact hex
  · exfalso
    have hstep : ∀ x, inN b x ∧ x ∉ p → ∃ u, overP b x u = true ∧ u ∉ p := by
      intro x hx
      by_cases h : ∃ u, overP b x u = true ∧ u ∉ p
      · exact h
      · refine absurd ⟨x, hx.1, hx.2, fun u hu => ?_⟩ hex
        by_cases hm : u ∈ p
        · exact hm
        · exact absurd ⟨u, hu, hm⟩ h
    have hfirst : ∃ x, inN b x ∧ x ∉ p := by
      by_cases h : ∃ x, inN b x ∧ x ∉ p
      · exact h
      · have hn : ((List.range b.flaps.length).map fun i => ((i : Nat) : Int)).Nodup := by
          rw [List.nodup_iff_pairwise_ne, List.pairwise_map, List.pairwise_iff_getElem]
          intro i j hi hj hij
          simp only [List.getElem_range]
          omega
        have := hn.length_le_of_subset (l₂ := p) (fun y hy => by
          obtain ⟨i, hi, rfl⟩ := List.mem_map.1 hy
          have hi' := List.mem_range.1 hi
          by_cases hm : ((i : Nat) : Int) ∈ p
          · exact hm
          · exact absurd ⟨_, ⟨by omega, by omega⟩, hm⟩ h)
        simp at this; omega
    obtain ⟨x, hx⟩ := hfirst
    let f : Int → Int := fun x => if h : inN b x ∧ x ∉ p then (hstep x h).choose else x
    have hfs : ∀ x, inN b x ∧ x ∉ p → overP b x (f x) = true ∧ f x ∉ p := by
      intro x h
      have : f x = (hstep x h).choose := dif_pos h
      rw [this]
      exact (hstep x h).choose_spec
    obtain ⟨c, hc⟩ := cyc_of_fun hv (S := fun x => inN b x ∧ x ∉ p) (f := f) (fun x h => h.1) (fun x h => by
      have h1 := hfs x h
      obtain ⟨_, r, hr, _, h4⟩ := overP_iff.1 h1.1
      exact ⟨h4 ▸ (rule_in hv hr).2, h1.2⟩) (fun x h => (hfs x h).1) hx
    obtain ⟨s, hs, _⟩ := ring_of_cyc hc
    exact hr s hs
theorem order_of {b : Sheet} (hv : Valid b) (hr : ∀ s, ¬ Ring b s) : ∀ (k : Nat) (p : List Int), Ok b p → p.length + k = b.flaps.length → ∃ l, Ok b l ∧ l.length = b.flaps.length
  | 0, p, hp, hl => ⟨p, hp, by omega⟩
  | k + 1, p, hp, hl => by
    obtain ⟨x, hx⟩ := next_of hv hr hp (by omega)
    exact order_of hv hr k _ (ok_snoc.2 ⟨hp, hx⟩) (by simp; omega)
/-- A sheet folds just if there is no ring. -/
theorem folds_iff {b : Sheet} (hv : Valid b) : allO b ≠ [] ↔ ∀ s, ¬ Ring b s := by
  constructor
  · intro h s hs
    obtain ⟨l, hl⟩ := List.exists_mem_of_ne_nil _ h
    obtain ⟨h1, h2⟩ := (mem_allO hv).1 hl
    exact no_ring h1 h2 hs
  · intro h e
    obtain ⟨l, h1, h2⟩ := order_of hv h b.flaps.length _ (ok_nil b) (by simp)
    have := (mem_allO hv).2 ⟨h1, h2⟩
    rw [e] at this; cases this
/-- How the order, the number of orders and the ring agree. -/
theorem told_cases {b : Sheet} (hck : checkB b = true) : (orderP b = ([], 4) ∧ countP b = (0, 0) ∧ allO b = [] ∧ (∃ r, ringP b = (r, 0) ∧ Ring b r ∧ ∀ s, Ring b s → r.length ≤ s.length)) ∨
    ∃ l rest, orderP b = (l, 0) ∧ allO b = l :: rest ∧ countP b = ((((allO b).length : Nat) : Int), 0) ∧ ringP b = ([], 4) ∧ Ok b l ∧ l.length = b.flaps.length ∧ ∀ s, ¬ Ring b s := by
  have hv := valid_of hck
  have ha : askE b true = 0 := by simp [askE, hck]
  have hf := folds_iff hv
  cases h : allO b with
  | nil =>
    left
    have hno : ¬ ∀ s, ¬ Ring b s := fun h' => hf.2 h' h
    refine ⟨by simp [orderP, ha, h], by simp [countP, ha, h], rfl, ?_⟩
    rcases ring_cases hck with ⟨_, h1⟩ | h1
    · exact absurd h1 hno
    · exact h1
  | cons l rest =>
    right
    have hno := hf.1 (by rw [h]; simp)
    have hm := (mem_allO hv).1 (show l ∈ allO b by rw [h]; exact .head _)
    refine ⟨l, rest, by simp [orderP, ha, h], rfl, by simp [countP, ha, h], ?_, hm.1, hm.2, hno⟩
    rcases ring_cases hck with ⟨h1, _⟩ | ⟨r, _, h1, _⟩
    · exact h1
    · exact absurd h1 (hno r)
end Go.Proofs.YtjjcopeedcdokaaDoor

set_option linter.unusedVariables false
set_option linter.unusedSimpArgs false
namespace Go.Proofs.YtjjcopeedcdokaaDoor
def stAt (b : Sheet) (l bits : List Int) (r : Rule) : Bool := decide (indexZ (fun x => x == r.over) l < indexZ (fun x => x == r.under) l) && squareB b r.over (reachZ b r.over.toNat bits) r.under (reachZ b r.under.toNat bits)
/-- Does a flap lie over one that must lie over it, as far as all truly reach? -/
def stoppedB (b : Sheet) (l bits : List Int) : Bool := b.rules.any (stAt b l bits)
theorem met_reach {b : Sheet} (hv : Valid b) (bits : List Int) {r : Rule} (hr : r ∈ b.rules) : ((cellN b 2 r.over r.under == 2 && !squareB b r.over (reachZ b r.over.toNat bits) r.under (reachZ b r.under.toNat bits)) || (cellN b 2 r.over r.under == 0 && squareB b r.over (reachZ b r.over.toNat bits) r.under (reachZ b r.under.toNat bits))) = false := by
  have hi := rule_in hv hr
  have h1 := reach_rng hv hi.1 bits; have h2 := reach_rng hv hi.2 bits
  exact met_true hv hi.1 hi.2 (hv.rule r hr).2.2.2.2 ⟨h1.1, h1.2.1⟩ ⟨h2.1, h2.2.1⟩
theorem not_stopped {b : Sheet} (hv : Valid b) {l : List Int} (ho : ordB b l = true) (hok : Ok b l) (bits : List Int) : stoppedB b l bits = false := by
  unfold stoppedB
  rw [List.any_eq_false]
  intro r hr hs
  simp only [stAt, Bool.and_eq_true, decide_eq_true_eq] at hs
  have hi := rule_in hv hr
  have m1 := ord_mem ho hi.1; have m2 := ord_mem ho hi.2
  rw [index_idx' m1, index_idx' m2] at hs
  have h1 := (ok_iff hv ho).1 hok r hr
  have h2 := met_reach hv bits hr
  have hc := cell_rng b r.over r.under
  have h0 : cellN b 2 r.over r.under = 0 := by
    by_cases h : 0 < cellN b 2 r.over r.under
    · have := h1 h; omega
    · omega
  rw [h0, hs.2] at h2
  simp at h2
theorem index_eq (v : Int) (l : List Int) : indexZ (fun x => x == v) l = indexZ (fun y => v == y) l := by
  congr 1; funext x; rw [Bool.beq_comm]
theorem is_stopped {b : Sheet} (hv : Valid b) {l : List Int} (h : 2 - worst b l b.rules.length = 0) (bits : List Int) : stoppedB b l bits = true := by
  unfold worst at h
  rw [List.take_length] at h
  rcases fold_max b l b.rules 0 (by omega) with h1 | ⟨r, hr, h1, h2⟩
  · omega
  · refine List.any_eq_true.2 ⟨r, hr, ?_⟩
    have h3 := met_reach hv bits hr
    rw [h2] at h3
    simp only [stAt, Bool.and_eq_true, decide_eq_true_eq]
    refine ⟨by rw [index_eq, index_eq]; exact h1, ?_⟩
    cases hs : squareB b r.over (reachZ b r.over.toNat bits) r.under (reachZ b r.under.toNat bits) with
    | true => rfl
    | false => rw [hs] at h3; simp at h3
end Go.Proofs.YtjjcopeedcdokaaDoor

set_option linter.unusedVariables false
set_option linter.unusedSimpArgs false
namespace Go.Proofs.YtjjcopeedcdokaaDoor
theorem does_ends {b : Sheet} (hv : Valid b) {l : List Int} (ho : ordB b l = true) (bits : List Int) : (0 ≤ 2 - worst b l b.rules.length ∧ 2 - worst b l b.rules.length ≤ 2) ∧ (2 - worst b l b.rules.length = 2 → stoppedB b l bits = false) ∧ (2 - worst b l b.rules.length = 0 → stoppedB b l bits = true) := by
  have := worst_le b l b.rules.length
  exact ⟨by omega, fun h => not_stopped hv ho ((does_two hv ho).1 h) bits, fun h => is_stopped hv h bits⟩
end Go.Proofs.YtjjcopeedcdokaaDoor

set_option linter.unusedVariables false
set_option linter.unusedSimpArgs false
namespace Go.Proofs.YtjjcopeedcdokaaDoor
end Go.Proofs.YtjjcopeedcdokaaDoor

set_option linter.unusedVariables false
set_option linter.unusedSimpArgs false
namespace Go.Proofs.YtjjcopeedcdokaaDoor
def up (g x : Int) : Int := if x < g then x else x + 1
section
variable {b : Sheet} {g : Int}
end
end Go.Proofs.YtjjcopeedcdokaaDoor

set_option linter.unusedVariables false
set_option linter.unusedSimpArgs false
namespace Go.Proofs.YtjjcopeedcdokaaDoor
/-- A row that is handed back: in new memory. -/
def OutG {α : Type} (enc : α → List Value) (sz : Nat) (l : List α) (A : Option Addr) (c : Nat) (w w' : World) : Prop := l.length ≤ c ∧ Rd enc sz A l.length l w' ∧ ∀ b o, A = some ⟨b, o, none⟩ → w.heap.size ≤ b
theorem OutG.fresh {α : Type} {enc : α → List Value} {sz : Nat} {l : List α} {A : Option Addr} {c : Nat} {w w' : World} (h : OutG enc sz l A c w w') : Fresh w w' (Rd enc sz A l.length l) :=
  fresh_of (h.2.1.stable fun bk off e hm => by
    have := h.2.2 bk off e
    simp at hm
    omega)
end Go.Proofs.YtjjcopeedcdokaaDoor

set_option linter.unusedVariables false
set_option linter.unusedSimpArgs false
namespace Go.Proofs.YtjjcopeedcdokaaDoor
/-- b1 asks no more than b2. -/
structure Less (b1 b2 : Sheet) : Prop where
  len : b1.flaps.length = b2.flaps.length
  sub : b1.rules.Sublist b2.rules
  cell : ∀ x y, inN b1 x → inN b1 y → cellN b1 2 x y ≤ cellN b2 2 x y
theorem Less.over {b1 b2 : Sheet} (h : Less b1 b2) (hv : Valid b1) {x y : Int} (ho : overP b1 x y = true) : overP b2 x y = true := by
  obtain ⟨hc, r, hr, rfl, rfl⟩ := overP_iff.1 ho
  have hi := rule_in hv hr
  have := h.cell _ _ hi.1 hi.2
  exact overP_iff.2 ⟨by omega, r, h.sub.subset hr, rfl, rfl⟩
theorem Less.ok {b1 b2 : Sheet} (h : Less b1 b2) (hv : Valid b1) {l : List Int} (hk : Ok b2 l) : Ok b1 l := fun k hl => by
  obtain ⟨⟨h1, h2⟩, h3, h4⟩ := hk k hl
  exact ⟨⟨h1, by rw [h.len]; exact h2⟩, h3, fun u hu => h4 u (h.over hv hu)⟩
theorem fold_less {b1 b2 : Sheet} (l : List Int) : ∀ {rs ss : List Rule}, rs.Sublist ss → (∀ r ∈ rs, cellN b1 2 r.over r.under ≤ cellN b2 2 r.over r.under) → ∀ x y : Int, x ≤ y → rs.foldl (stepW b1 l) x ≤ ss.foldl (stepW b2 l) y := by
  intro rs ss hs
  induction hs with
  | slnil => intro _ x y h; exact h
  | @cons rs ss s hs ih =>
    intro hc x y h
    rw [List.foldl_cons]
    refine ih hc x _ ?_
    unfold stepW
    split
    · omega
    · exact h
  | @cons_cons rs ss s hs ih =>
    intro hc x y h
    rw [List.foldl_cons, List.foldl_cons]
    refine ih (fun r hr => hc r (.tail _ hr)) _ _ ?_
    have := hc s (.head _)
    unfold stepW
    split <;> omega
theorem Less.worst {b1 b2 : Sheet} (h : Less b1 b2) (hv : Valid b1) (l : List Int) : worst b1 l b1.rules.length ≤ worst b2 l b2.rules.length := by
  unfold Proofs.YtjjcopeedcdokaaDoor.worst
  rw [List.take_length, List.take_length]
  exact fold_less l h.sub (fun r hr => h.cell _ _ (rule_in hv hr).1 (rule_in hv hr).2) 0 0 (Int.le_refl _)
theorem acc_some {α : Type} {enc : α → List Value} {sz : Nat} {l : List α} {o : Acc} (h : AccOK enc sz l o) (hl : 0 < l.length) : ∃ bc cs, o = some (bc, cs) := by
  cases o with
  | none =>
    have h9 : l = [] := h
    rw [h9] at hl; simp at hl
  | some q => exact ⟨q.1, q.2, rfl⟩
end Go.Proofs.YtjjcopeedcdokaaDoor

set_option linter.unusedVariables false
set_option linter.unusedSimpArgs false
namespace Go.Proofs.YtjjcopeedcdokaaDoor
theorem no_bits : ∀ k, k < 10 → bitI 0 k = false := by decide +kernel
theorem drop_zero {b : Sheet} (hv : Valid b) : dropB b 0 = b := by
  have hr := hv.rules
  unfold dropB keepR
  have : (List.range b.rules.length).filter (fun k => !bitI 0 k) = List.range b.rules.length := by
    rw [List.filter_eq_self]
    intro k hk
    rw [no_bits k (by have := List.mem_range.1 hk; omega)]; rfl
  rw [this, map_getD]
end Go.Proofs.YtjjcopeedcdokaaDoor

set_option linter.unusedVariables false
set_option linter.unusedSimpArgs false
namespace Go.Proofs.YtjjcopeedcdokaaDoor
open Go.RowKit
/-- A worker, and where the order lies in memory. -/
structure Wkr where
  sheets : Int
  order : List Int
  bl : Int
  bh : Int
  tl : Int
  th : Int
  oA : Option Addr
  oc : Nat
instance : Inhabited Wkr := ⟨⟨0, [], 0, 0, 0, 0, none, 0⟩⟩
structure Bk where
  sh : Sheet
  gross : Int
  pay : Int
  fine : Int
  ws : List Wkr
/-- The numbers from one to another one. -/
def zr (lo hi : Int) : List Int := (List.range (hi - lo + 1).toNat).map fun i => lo + ((i : Nat) : Int)
theorem mem_zr {lo hi n : Int} : n ∈ zr lo hi ↔ lo ≤ n ∧ n ≤ hi := by
  unfold zr
  simp only [List.mem_map, List.mem_range]
  constructor
  · rintro ⟨i, hi', rfl⟩; omega
  · rintro ⟨h1, h2⟩; exact ⟨(n - lo).toNat, by omega, by omega⟩
/-- What can have come back of a worker. -/
def trues (x : Wkr) : List (Int × Int) := (zr x.bl x.bh).flatMap fun n => ((zr x.tl x.th).filter fun t => decide (n + t ≤ x.sheets)).map fun t => (n, t)
theorem mem_trues {x : Wkr} {n t : Int} : (n, t) ∈ trues x ↔ x.bl ≤ n ∧ n ≤ x.bh ∧ x.tl ≤ t ∧ t ≤ x.th ∧ n + t ≤ x.sheets := by
  unfold trues
  simp only [List.mem_flatMap, List.mem_map, List.mem_filter, mem_zr, decide_eq_true_eq]
  constructor
  · rintro ⟨m, hm, u, hu, he⟩
    have h1 : m = n := congrArg Prod.fst he
    have h2 : u = t := congrArg Prod.snd he
    subst h1; subst h2
    exact ⟨hm.1, hm.2, hu.1.1, hu.1.2, hu.2⟩
  · rintro ⟨h1, h2, h3, h4, h5⟩
    exact ⟨n, ⟨h1, h2⟩, t, ⟨⟨h3, h4⟩, h5⟩, rfl⟩
/-- A span of sheets. -/
def spanS (lo hi : Int) : Bool := fitsB lo 0 hi && decide (hi ≤ 600) && decide (hi - lo ≤ 10)
def wkrOK (b : Sheet) (x : Wkr) : Bool := decide ((doesP b x.order).2 = 0) && fitsB x.sheets 0 600 && spanS x.bl x.bh && spanS x.tl x.th
def hckB (k : Bk) : Bool := checkB k.sh && fitsB k.gross 1 144 && fitsB k.pay 0 999 && fitsB k.fine 0 99 && decide ((k.ws.length : Int) ≤ 4) && k.ws.all (wkrOK k.sh)
structure WkrV (b : Sheet) (x : Wkr) : Prop where
  ord : ordB b x.order = true
  s0 : 0 ≤ x.sheets
  s1 : x.sheets ≤ 600
  b0 : 0 ≤ x.bl
  b1 : x.bl ≤ x.bh
  b2 : x.bh ≤ 600
  b3 : x.bh - x.bl ≤ 10
  t0 : 0 ≤ x.tl
  t1 : x.tl ≤ x.th
  t2 : x.th ≤ 600
  t3 : x.th - x.tl ≤ 10
structure BkV (k : Bk) : Prop where
  ck : checkB k.sh = true
  g1 : 1 ≤ k.gross
  g2 : k.gross ≤ 144
  p1 : 0 ≤ k.pay
  p2 : k.pay ≤ 999
  f1 : 0 ≤ k.fine
  f2 : k.fine ≤ 99
  n : k.ws.length ≤ 4
  w : ∀ x ∈ k.ws, WkrV k.sh x
theorem wkrOK_iff {b : Sheet} (hck : checkB b = true) {x : Wkr} : wkrOK b x = true ↔ WkrV b x := by
  have hd : (doesP b x.order).2 = 0 ↔ ordB b x.order = true := by
    simp only [doesP, askE, hck, if_true]
    cases ordB b x.order <;> simp
  simp only [wkrOK, spanS, fitsB, Bool.and_eq_true, decide_eq_true_eq, hd]
  constructor
  · rintro ⟨⟨⟨h1, h2, h3⟩, ⟨⟨h4, h5⟩, h6⟩, h7⟩, ⟨⟨h8, h9⟩, h10⟩, h11⟩
    exact ⟨h1, h2, h3, h4, h5, h6, h7, h8, h9, h10, h11⟩
  · rintro ⟨h1, h2, h3, h4, h5, h6, h7, h8, h9, h10, h11⟩
    exact ⟨⟨⟨h1, h2, h3⟩, ⟨⟨h4, h5⟩, h6⟩, h7⟩, ⟨⟨h8, h9⟩, h10⟩, h11⟩
theorem hck_iff {k : Bk} : hckB k = true ↔ BkV k := by
  simp only [hckB, fitsB, Bool.and_eq_true, decide_eq_true_eq, List.all_eq_true]
  constructor
  · rintro ⟨⟨⟨⟨⟨h1, h2, h3⟩, h4, h5⟩, h6, h7⟩, h8⟩, h9⟩
    exact ⟨h1, h2, h3, h4, h5, h6, h7, by omega, fun x hx => (wkrOK_iff h1).1 (h9 x hx)⟩
  · intro h
    exact ⟨⟨⟨⟨⟨h.ck, h.g1, h.g2⟩, h.p1, h.p2⟩, h.f1, h.f2⟩, by have := h.n; omega⟩, fun x hx => (wkrOK_iff h.ck).2 (h.w x hx)⟩
/-- How often the order of a worker does. -/
def doesK (k : Bk) (x : Wkr) : Int := (doesP k.sh x.order).1
/-- What passes, is missing, is paid, in a truth. -/
def hp (d n : Int) : Int × Int := if d = 2 then (n, n) else if d = 1 then (0, n) else (0, 0)
def hm (x : Wkr) (c : Int × Int) : Int := x.sheets - c.1 - c.2
def hgv (k : Bk) (p m : Int) : Int := p.tdiv k.gross * k.pay + -m * k.fine
def hspan (k : Bk) (x : Wkr) (what : Nat) (c : Int × Int) : Int × Int :=
  if what = 0 then hp (doesK k x) c.1 else if what = 1 then (hm x c, hm x c) else (hgv k (hp (doesK k x) c.1).1 (hm x c), hgv k (hp (doesK k x) c.1).2 (hm x c))
def mrg (o : Option (Int × Int)) (s : Int × Int) : Option (Int × Int) := match o with
  | none => some s
  | some q => some (min q.1 s.1, max q.2 s.2)
def ofP (k : Bk) (x : Wkr) (what : Nat) : Option (Int × Int) := (trues x).foldl (fun o c => mrg o (hspan k x what c)) none
/-- The least and the greatest of a list. -/
structure Ends {α : Type} (l : List α) (f : α → Int × Int) (s : Int × Int) : Prop where
  lo : ∀ c ∈ l, s.1 ≤ (f c).1
  hi : ∀ c ∈ l, (f c).2 ≤ s.2
  lo1 : ∃ c ∈ l, (f c).1 = s.1
  hi1 : ∃ c ∈ l, (f c).2 = s.2
theorem snocInd {α : Type} {Q : List α → Prop} (h0 : Q []) (h1 : ∀ l a, Q l → Q (l ++ [a])) (l : List α) : Q l := by
  have h : ∀ m : List α, Q m.reverse := fun m => by
    induction m with
    | nil => exact h0
    | cons a m ih => rw [List.reverse_cons]; exact h1 _ _ ih
  have h2 := h l.reverse
  rwa [List.reverse_reverse] at h2
theorem mrg_snoc {α : Type} (f : α → Int × Int) : ∀ (l : List α), (l = [] ∧ l.foldl (fun o c => mrg o (f c)) none = none) ∨ ∃ s, l.foldl (fun o c => mrg o (f c)) none = some s ∧ Ends l f s := by
  refine snocInd (.inl ⟨rfl, rfl⟩) fun l c ih => ?_
  · right
    rw [List.foldl_append]
    rcases ih with ⟨rfl, h⟩ | ⟨s, h, he⟩
    · rw [h]; exact ⟨f c, rfl, fun d hd => by simp at hd; subst hd; exact Int.le_refl _, fun d hd => by simp at hd; subst hd; exact Int.le_refl _, ⟨c, by simp, rfl⟩, ⟨c, by simp, rfl⟩⟩
    · rw [h]
      refine ⟨(min s.1 (f c).1, max s.2 (f c).2), rfl, fun d hd => ?_, fun d hd => ?_, ?_, ?_⟩
      · rcases List.mem_append.1 hd with hd | hd
        · have := he.lo d hd; simp only; omega
        · simp at hd; subst hd; simp only; omega
      · rcases List.mem_append.1 hd with hd | hd
        · have := he.hi d hd; simp only; omega
        · simp at hd; subst hd; simp only; omega
      · by_cases hc : s.1 ≤ (f c).1
        · obtain ⟨d, hd, e⟩ := he.lo1; exact ⟨d, by simp [hd], by simp only; omega⟩
        · exact ⟨c, by simp, by simp only; omega⟩
      · by_cases hc : (f c).2 ≤ s.2
        · obtain ⟨d, hd, e⟩ := he.hi1; exact ⟨d, by simp [hd], by simp only; omega⟩
        · exact ⟨c, by simp, by simp only; omega⟩
theorem ofP_cases (k : Bk) (x : Wkr) (what : Nat) : (trues x = [] ∧ ofP k x what = none) ∨ ∃ s, ofP k x what = some s ∧ Ends (trues x) (hspan k x what) s := mrg_snoc _ _
def rightB (x : Wkr) : Bool := !(trues x).isEmpty
theorem rightB_iff {b : Sheet} {x : Wkr} (h : WkrV b x) : rightB x = true ↔ x.bl + x.tl ≤ x.sheets := by
  have h1 := h.b1; have h2 := h.t1
  have : rightB x = true ↔ trues x ≠ [] := by unfold rightB; cases trues x <;> simp
  rw [this]
  constructor
  · intro hn
    obtain ⟨⟨n, t⟩, hc⟩ := List.exists_mem_of_ne_nil _ hn
    have := mem_trues.1 hc; omega
  · intro hl hn
    have : (x.bl, x.tl) ∈ trues x := mem_trues.2 ⟨Int.le_refl _, h1, Int.le_refl _, h2, hl⟩
    rw [hn] at this; cases this
theorem right_some {k : Bk} {x : Wkr} (what : Nat) (h : rightB x = true) : ∃ s, ofP k x what = some s ∧ Ends (trues x) (hspan k x what) s := by
  rcases ofP_cases k x what with ⟨h1, _⟩ | h1
  · rw [rightB, h1] at h; cases h
  · exact h1
theorem right_none {k : Bk} {x : Wkr} (what : Nat) (h : rightB x = false) : ofP k x what = none := by
  rcases ofP_cases k x what with ⟨_, h1⟩ | ⟨s, h1, h2⟩
  · exact h1
  · obtain ⟨c, hc, _⟩ := h2.lo1
    have : trues x = [] := by unfold rightB at h; cases ht : trues x with | nil => rfl | cons a l => rw [ht] at h; cases h
    rw [this] at hc; cases hc
/-- The workers whose accounts cannot be true. -/
def wrongTo (k : Bk) (n : Nat) : List Int := ((List.range n).filter fun w => !rightB (k.ws.getD w default)).map fun w => ((w : Nat) : Int)
def wrongL (k : Bk) : List Int := wrongTo k k.ws.length
/-- The errors. -/
def bookE (k : Bk) : Int := if hckB k = true then 0 else 90
def wkrB (k : Bk) (w : Int) : Bool := fitsB w 0 ((k.ws.length : Int) - 1)
def askH (k : Bk) (w : Int) : Int := if hckB k = true then (if wkrB k w = true then 0 else 91) else 90
def togE (k : Bk) : Int := if hckB k = true then (if wrongL k = [] then 0 else 92) else 90
abbrev wkA (k : Bk) (w : Int) : Wkr := k.ws.getD w.toNat default
def rightP (k : Bk) (w : Int) : Bool × Int := (decide (askH k w = 0) && rightB (wkA k w), askH k w)
def tellP (k : Bk) (w : Int) (what : Nat) : (Int × Int) × Int := if askH k w = 0 then (match ofP k (wkA k w) what with | none => ((0, 0), 92) | some s => (s, 0)) else ((0, 0), askH k w)
def ofZ (k : Bk) (what : Nat) (x : Wkr) : Int × Int := (ofP k x what).getD (0, 0)
def allP (k : Bk) (what : Nat) : List Wkr → Int × Int
  | [] => (0, 0)
  | x :: l => ((ofZ k what x).1 + (allP k what l).1, (ofZ k what x).2 + (allP k what l).2)
def totalP (k : Bk) : (Int × Int) × Int := if togE k = 0 then (allP k 2 k.ws, 0) else ((0, 0), togE k)
def grossP (k : Bk) : (Int × Int) × Int := if togE k = 0 then (((allP k 0 k.ws).1.tdiv k.gross, (allP k 0 k.ws).2.tdiv k.gross), 0) else ((0, 0), togE k)
def wrongP (k : Bk) : List Int × Int := if hckB k = true then (wrongL k, 0) else ([], 90)
/-- The greatest above 0, and where it stands first. -/
def mostTo (f : Nat → Int) : Nat → Int × Int
  | 0 => (0, 0)
  | n + 1 => if (mostTo f n).2 < f n then (((n : Nat) : Int), f n) else mostTo f n
def mostP (f : Nat → Int) (n : Nat) : Int × Int := if (mostTo f n).2 = 0 then (0, 4) else ((mostTo f n).1, 0)
/-- A worker folds in another order. -/
def reO (x : Wkr) (l : List Int) (A : Option Addr) (c : Nat) : Wkr := { x with order := l, oA := A, oc := c }
def setW (k : Bk) (w : Nat) (l : List Int) (A : Option Addr) (c : Nat) : Bk := { k with ws := k.ws.set w (reO (k.ws.getD w default) l A c) }
def moreZ (k : Bk) (l : List Int) (w : Nat) : Int := (ofZ k 0 (reO (k.ws.getD w default) l none 0)).1 - (ofZ k 0 (k.ws.getD w default)).1
def teachP (k : Bk) : Int × Int := if togE k = 0 then (if (orderP k.sh).2 = 0 then mostP (moreZ k (orderP k.sh).1) k.ws.length else (0, 4)) else (0, togE k)
def askP (k : Bk) : Int × Int := if togE k = 0 then mostP (fun w => (ofZ k 2 (k.ws.getD w default)).2 - (ofZ k 2 (k.ws.getD w default)).1) k.ws.length else (0, togE k)
end Go.Proofs.YtjjcopeedcdokaaDoor

set_option linter.unusedVariables false
set_option linter.unusedSimpArgs false
namespace Go.Proofs.YtjjcopeedcdokaaDoor
open Go.RowKit
theorem zr_nil {lo hi : Int} (h : hi < lo) : zr lo hi = [] := by
  unfold zr; rw [show (hi - lo + 1).toNat = 0 by omega]; rfl
theorem zr_succ {lo n : Int} (h : lo ≤ n) : zr lo n = zr lo (n - 1) ++ [n] := by
  unfold zr
  rw [show (n - lo + 1).toNat = (n - 1 - lo + 1).toNat + 1 by omega, List.range_succ, List.map_append]
  congr 1
  simp only [List.map_cons, List.map_nil, List.cons.injEq, and_true]
  omega
/-- The truths with so many boxes. -/
def rowT (x : Wkr) (n : Int) : List (Int × Int) := ((zr x.tl x.th).filter fun t => decide (n + t ≤ x.sheets)).map fun t => (n, t)
def rowTo (x : Wkr) (n t : Int) : List (Int × Int) := (zr x.tl t).map fun u => (n, u)
theorem filter_zr (s n : Int) (lo t : Int) (h : lo ≤ t → n + t ≤ s) : (zr lo t).filter (fun u => decide (n + u ≤ s)) = zr lo t := by
  rw [List.filter_eq_self]
  intro a ha
  have := mem_zr.1 ha
  have := h (by omega)
  simp; omega
theorem filter_more (s n lo t : Int) (h1 : s < n + t) (k : Nat) (h2 : lo ≤ t) : (zr lo (t - 1 + k)).filter (fun u => decide (n + u ≤ s)) = (zr lo (t - 1)).filter (fun u => decide (n + u ≤ s)) := by
  induction k with
  | zero => simp
  | succ k ih =>
    rw [zr_succ (lo := lo) (n := t - 1 + ((k + 1 : Nat) : Int)) (by omega), List.filter_append, show t - 1 + ((k + 1 : Nat) : Int) - 1 = t - 1 + (k : Nat) by omega, ih]
    rw [List.filter_cons_of_neg (by simp; omega), List.filter_nil, List.append_nil]
/-- The row ends where the truths end. -/
theorem row_stop {x : Wkr} {n t : Int} (h1 : x.tl ≤ t) (h2 : t - 1 ≤ x.th) (h3 : x.tl ≤ t - 1 → n + (t - 1) ≤ x.sheets) (h4 : x.th < t ∨ x.sheets < n + t) : rowT x n = rowTo x n (t - 1) := by
  unfold rowT rowTo
  congr 1
  by_cases h : x.th < t
  · rw [show x.th = t - 1 by omega]; exact filter_zr _ _ _ _ h3
  · have h5 : x.sheets < n + t := h4.resolve_left h
    obtain ⟨k, hk⟩ : ∃ k : Nat, x.th = t - 1 + k := ⟨(x.th - (t - 1)).toNat, by omega⟩
    rw [hk, filter_more _ _ _ _ h5 k h1]
    exact filter_zr _ _ _ _ h3
/-- All truths with fewer than so many boxes. -/
def truesTo (x : Wkr) (n : Int) : List (Int × Int) := (zr x.bl (n - 1)).flatMap (rowT x)
theorem trues_eq (x : Wkr) : trues x = truesTo x (x.bh + 1) := by
  unfold truesTo trues rowT
  rw [show x.bh + 1 - 1 = x.bh by omega]
theorem trues_start (x : Wkr) : truesTo x x.bl = [] := by unfold truesTo; rw [zr_nil (by omega)]; rfl
theorem trues_succ {x : Wkr} {n : Int} (h : x.bl ≤ n) : truesTo x (n + 1) = truesTo x n ++ rowT x n := by
  unfold truesTo
  rw [show n + 1 - 1 = n by omega, zr_succ h, List.flatMap_append]
  simp
theorem rowTo_succ {x : Wkr} {n t : Int} (h : x.tl ≤ t) : rowTo x n t = rowTo x n (t - 1) ++ [(n, t)] := by
  unfold rowTo; rw [zr_succ h, List.map_append]; rfl
theorem rowTo_start (x : Wkr) (n : Int) : rowTo x n (x.tl - 1) = [] := by unfold rowTo; rw [zr_nil (by omega)]; rfl
/-- What comes so far is the beginning of all truths. -/
theorem row_prefix {x : Wkr} {n t : Int} (h1 : x.tl ≤ t) (h2 : t ≤ x.th) (h3 : n + t ≤ x.sheets) : rowTo x n t <+: rowT x n := by
  obtain ⟨k, hk⟩ : ∃ k : Nat, x.th = t + k := ⟨(x.th - t).toNat, by omega⟩
  have hz : ∀ k : Nat, zr x.tl t <+: zr x.tl (t + k) := fun k => by
    induction k with
    | zero => simp
    | succ k ih =>
      rw [zr_succ (lo := x.tl) (n := t + ((k + 1 : Nat) : Int)) (by omega), show t + ((k + 1 : Nat) : Int) - 1 = t + (k : Nat) by omega]
      exact ih.trans (List.prefix_append _ _)
  unfold rowTo rowT
  refine List.IsPrefix.map _ ?_
  rw [hk, ← filter_zr x.sheets n x.tl t (fun _ => h3)]
  exact List.IsPrefix.filter _ (hz k)
theorem zr_prefix {lo a b : Int} (h : a ≤ b) : zr lo a <+: zr lo b := by
  by_cases hl : lo ≤ a + 1
  · obtain ⟨k, rfl⟩ : ∃ k : Nat, b = a + k := ⟨(b - a).toNat, by omega⟩
    clear h
    induction k with
    | zero => simp
    | succ k ih =>
      rw [zr_succ (lo := lo) (n := a + ((k + 1 : Nat) : Int)) (by omega), show a + ((k + 1 : Nat) : Int) - 1 = a + (k : Nat) by omega]
      exact ih.trans (List.prefix_append _ _)
  · rw [zr_nil (lo := lo) (hi := a) (by omega)]; exact List.nil_prefix
theorem flatMap_prefix {α β : Type} (f : α → List β) {l m : List α} (h : l <+: m) : l.flatMap f <+: m.flatMap f := by
  obtain ⟨t, rfl⟩ := h
  rw [List.flatMap_append]; exact List.prefix_append _ _
theorem truesTo_prefix {x : Wkr} {n m : Int} (h : n ≤ m) : truesTo x n <+: truesTo x m := flatMap_prefix _ (zr_prefix (by omega))
theorem all_prefix {x : Wkr} {n t : Int} (h0 : x.bl ≤ n) (h0' : n ≤ x.bh) (h1 : x.tl ≤ t) (h2 : t ≤ x.th) (h3 : n + t ≤ x.sheets) : truesTo x n ++ rowTo x n t <+: trues x := by
  rw [trues_eq]
  refine List.IsPrefix.trans ?_ (truesTo_prefix (show n + 1 ≤ x.bh + 1 by omega))
  rw [trues_succ h0]
  exact (List.prefix_append_right_inj _).2 (row_prefix h1 h2 h3)
theorem does_rng {k : Bk} (hv : BkV k) {x : Wkr} (hx : WkrV k.sh x) : 0 ≤ doesK k x ∧ doesK k x ≤ 2 := by
  have h := (does_ends (valid_of hv.ck) hx.ord []).1
  unfold doesK
  rw [does_ok hv.ck hx.ord]; exact h
theorem tdiv_le_tdiv {a b g : Int} (hg : 1 ≤ g) (ha : 0 ≤ a) (h : a ≤ b) : a.tdiv g ≤ b.tdiv g := by
  rw [Int.tdiv_eq_ediv_of_nonneg ha, Int.tdiv_eq_ediv_of_nonneg (by omega)]
  exact Int.ediv_le_ediv (by omega) h
theorem tdiv_nonneg' {a g : Int} (hg : 1 ≤ g) (ha : 0 ≤ a) : 0 ≤ a.tdiv g := by
  rw [Int.tdiv_eq_ediv_of_nonneg ha]; exact Int.ediv_nonneg ha (by omega)
theorem hgv_mono {k : Bk} (hv : BkV k) {p q m : Int} (h0 : 0 ≤ p) (h : p ≤ q) : hgv k p m ≤ hgv k q m := by
  unfold hgv
  have := Int.mul_le_mul_of_nonneg_right (tdiv_le_tdiv hv.g1 h0 h) hv.p1
  omega
theorem rgets (k : Bk) (x : Wkr) (c : Int × Int) (p : Int) : p.tdiv k.gross * k.pay - k.fine * hm x c = hgv k p (hm x c) := by
  unfold hgv; rw [Int.neg_mul, Int.mul_comm k.fine]; rfl
theorem hspan0 (k : Bk) (x : Wkr) (c : Int × Int) : hspan k x 0 c = hp (doesK k x) c.1 := by unfold hspan; rw [if_pos rfl]
theorem hspan1 (k : Bk) (x : Wkr) (c : Int × Int) : hspan k x 1 c = (hm x c, hm x c) := by unfold hspan; rw [if_neg (by decide), if_pos rfl]
theorem hspan2 (k : Bk) (x : Wkr) (c : Int × Int) : hspan k x 2 c = (hgv k (hp (doesK k x) c.1).1 (hm x c), hgv k (hp (doesK k x) c.1).2 (hm x c)) := by unfold hspan; rw [if_neg (by decide), if_neg (by decide)]
end Go.Proofs.YtjjcopeedcdokaaDoor

set_option linter.unusedVariables false
set_option linter.unusedSimpArgs false
namespace Go.Proofs.YtjjcopeedcdokaaDoor
/-- No flap lies over one that comes later. -/
def Cl (b : Sheet) (l : List Int) : Prop := l.Nodup ∧ (∀ x ∈ l, inN b x) ∧ doesB b l true = true
theorem doesB_iff {b : Sheet} {l : List Int} : doesB b l true = true ↔ ∀ i k, i < k → k < l.length → overB b (l.getD i default) (l.getD k default) true = false := by
  simp only [doesB, List.all_eq_true, List.mem_range, decide_eq_true_eq, Bool.not_eq_true']
  exact ⟨fun h i k hik hk => h i (by omega) k hk hik, fun h i _ k hk hik => h i k hik hk⟩
theorem Cl.app {b : Sheet} {p t : List Int} (h : Cl b (p ++ t)) : Cl b p := by
  obtain ⟨h1, h2, h3⟩ := h
  refine ⟨(List.nodup_append.1 h1).1, fun x hx => h2 x (List.mem_append_left _ hx), doesB_iff.2 fun i k hik hk => ?_⟩
  have := doesB_iff.1 h3 i k hik (by rw [List.length_append]; omega)
  rwa [getD_app1 (by omega), getD_app1 hk] at this
end Go.Proofs.YtjjcopeedcdokaaDoor

set_option linter.unusedVariables false
set_option linter.unusedSimpArgs false
namespace Go.Proofs.YtjjcopeedcdokaaDoor
open Go.RowKit
section
variable {P : Program} {ops : Array Oper} {Q : Exit → Act → World → Prop} {rest : List Oper} {ds : List Deferred} {a : Act} {n : Nat} {L : Regs} {w : World} {t : TypeId} {p : String} {af : Array Edge} {o : Op} {d : Nat}
end
end Go.Proofs.YtjjcopeedcdokaaDoor

set_option linter.unusedVariables false
set_option linter.unusedSimpArgs false
namespace Go.Proofs.YtjjcopeedcdokaaDoor
open Go.RowKit
end Go.Proofs.YtjjcopeedcdokaaDoor

set_option linter.unusedVariables false
set_option linter.unusedSimpArgs false
namespace Go.Proofs.YtjjcopeedcdokaaDoor
open Go.RowKit
theorem c_within (n lo hi : Int) (w0 : World) :
    Calls Tryd.prog 99 #[.int .i64 n, .int .i64 lo, .int .i64 hi] w0 (Ret w0 (.bool (fitsB n lo hi))) := by
  refine c_enter (n := 15) Tryd.func99 rfl rfl (Nat.le_of_ble_eq_true rfl) ?_; intro a hf; simp only [zipR] at hf
  have hs := St.start w0 [] (by simp)
  refine c_reg ?_
  refine gL hf (g_as hf rfl) (by decide) ?_; clear hf a; intro a hf
  refine e_nil ?_
  refine c_reg ?_
  refine gL hf (g_mv hf rfl) (by decide) ?_; clear hf a; intro a hf
  refine gL hf (g_mv hf rfl) (by decide) ?_; clear hf a; intro a hf
  refine gL hf (g_leq hf rfl rfl) (by decide) ?_; clear hf a; intro a hf
  refine gL hf (g_mv hf rfl) (by decide) ?_; clear hf a; intro a hf
  refine ggL hf rfl rfl (gyes_t _) (fun hg => g_mv hf rfl) (by decide) ?_; clear hf a; intro a hf
  refine ggL hf rfl rfl (gyes_t _) (fun hg => g_mv hf rfl) (by decide) ?_; clear hf a; intro a hf
  refine ggL hf rfl rfl (gyes_t _) (fun hg => g_leq hf (ev_gv rfl hg) (ev_gv rfl hg)) (by decide) ?_; clear hf a; intro a hf
  refine gL hf (g_and hf rfl rfl) (by decide) ?_; clear hf a; intro a hf
  refine gL hf (g_as hf rfl) (by decide) ?_; clear hf a; intro a hf
  refine e_nil ?_
  refine c_ret ?_
  refine e_ret1 hf rfl rfl ?_
  exact ⟨rfl, hs.below⟩

theorem c_Fits (n lo hi : Int) (w0 : World) :
    Calls Tryd.prog 26 #[.int .i64 n, .int .i64 lo, .int .i64 hi] w0 (Ret w0 (.bool (fitsB n lo hi))) := by
  refine c_enter (n := 15) Tryd.func26 rfl rfl (Nat.le_of_ble_eq_true rfl) ?_; intro a hf; simp only [zipR] at hf
  have hs := St.start w0 [] (by simp)
  refine c_reg ?_
  refine gL hf (g_as hf rfl) (by decide) ?_; clear hf a; intro a hf
  refine e_nil ?_
  refine c_reg ?_
  refine gL hf (g_mv hf rfl) (by decide) ?_; clear hf a; intro a hf
  refine gL hf (g_mv hf rfl) (by decide) ?_; clear hf a; intro a hf
  refine gL hf (g_leq hf rfl rfl) (by decide) ?_; clear hf a; intro a hf
  refine gL hf (g_mv hf rfl) (by decide) ?_; clear hf a; intro a hf
  refine ggL hf rfl rfl (gyes_t _) (fun hg => g_mv hf rfl) (by decide) ?_; clear hf a; intro a hf
  refine ggL hf rfl rfl (gyes_t _) (fun hg => g_mv hf rfl) (by decide) ?_; clear hf a; intro a hf
  refine ggL hf rfl rfl (gyes_t _) (fun hg => g_leq hf (ev_gv rfl hg) (ev_gv rfl hg)) (by decide) ?_; clear hf a; intro a hf
  refine gL hf (g_and hf rfl rfl) (by decide) ?_; clear hf a; intro a hf
  refine gL hf (g_as hf rfl) (by decide) ?_; clear hf a; intro a hf
  refine e_nil ?_
  refine c_ret ?_
  refine e_ret1 hf rfl rfl ?_
  exact ⟨rfl, hs.below⟩

theorem c_isSpan (sl sh lo hi : Int) (w0 : World) :
    Calls Tryd.prog 100 #[.agg #[.int .i64 sl, .int .i64 sh], .int .i64 lo, .int .i64 hi] w0 (Ret w0 (.bool (spanB sl sh lo hi))) := by
  refine c_enter (n := 24) Tryd.func100 rfl rfl (Nat.le_of_ble_eq_true rfl) ?_; intro a hf; simp only [zipR] at hf
  have hs := St.start w0 [] (by simp)
  refine c_reg ?_
  refine vL hf (v_boxA hf hs rfl) (by decide) ?_; clear hs hf a; rintro _ w ⟨b1, rfl, hs⟩ a hf
  refine gL hf (g_as hf rfl) (by decide) ?_; clear hf a; intro a hf
  refine e_nil ?_
  refine c_reg ?_
  refine gL hf (g_mv hf rfl) (by decide) ?_; clear hf a; intro a hf
  refine gL hf (g_fa (off' := 0) hf F40_0 rfl rfl) (by decide) ?_; clear hf a; intro a hf
  refine gL hf (g_ld hf hs T3 rfl (k := 0) rfl rfl) (by decide) ?_; clear hf a; intro a hf
  refine gL hf (g_leq hf rfl rfl) (by decide) ?_; clear hf a; intro a hf
  refine gL hf (g_mv hf rfl) (by decide) ?_; clear hf a; intro a hf
  refine ggL hf rfl rfl (gyes_t _) (fun hg => g_fa (off' := 0) hf F40_0 rfl rfl) (by decide) ?_; clear hf a; intro a hf
  refine ggL hf rfl rfl (gyes_t _) (fun hg => g_ld hf hs T3 (ev_gv rfl hg) (k := 0) rfl rfl) (by decide) ?_; clear hf a; intro a hf
  refine ggL hf rfl rfl (gyes_t _) (fun hg => g_fa (off' := 1) hf F40_1 rfl rfl) (by decide) ?_; clear hf a; intro a hf
  refine ggL hf rfl rfl (gyes_t _) (fun hg => g_ld hf hs T3 (ev_gv rfl hg) (k := 0) rfl rfl) (by decide) ?_; clear hf a; intro a hf
  refine ggL hf rfl rfl (gyes_t _) (fun hg => g_leq hf (ev_gv rfl hg) (ev_gv rfl hg)) (by decide) ?_; clear hf a; intro a hf
  refine gL hf (g_and hf rfl rfl) (by decide) ?_; clear hf a; intro a hf
  refine gL hf (g_mv hf rfl) (by decide) ?_; clear hf a; intro a hf
  refine ggL hf rfl rfl (gyes_t _) (fun hg => g_fa (off' := 1) hf F40_1 rfl rfl) (by decide) ?_; clear hf a; intro a hf
  refine ggL hf rfl rfl (gyes_t _) (fun hg => g_ld hf hs T3 (ev_gv rfl hg) (k := 0) rfl rfl) (by decide) ?_; clear hf a; intro a hf
  refine ggL hf rfl rfl (gyes_t _) (fun hg => g_mv hf rfl) (by decide) ?_; clear hf a; intro a hf
  refine ggL hf rfl rfl (gyes_t _) (fun hg => g_leq hf (ev_gv rfl hg) (ev_gv rfl hg)) (by decide) ?_; clear hf a; intro a hf
  refine gL hf (g_and hf rfl rfl) (by decide) ?_; clear hf a; intro a hf
  refine gL hf (g_as hf rfl) (by decide) ?_; clear hf a; intro a hf
  refine e_nil ?_
  refine c_ret ?_
  refine e_ret1 hf rfl rfl ?_
  exact ⟨rfl, hs.below⟩

theorem c_Right (sl sh lo hi : Int) (w0 : World) :
    Calls Tryd.prog 62 #[.agg #[.int .i64 sl, .int .i64 sh], .int .i64 lo, .int .i64 hi] w0 (Ret w0 (.bool (spanB sl sh lo hi))) := by
  refine c_enter (n := 24) Tryd.func62 rfl rfl (Nat.le_of_ble_eq_true rfl) ?_; intro a hf; simp only [zipR] at hf
  have hs := St.start w0 [] (by simp)
  refine c_reg ?_
  refine vL hf (v_boxA hf hs rfl) (by decide) ?_; clear hs hf a; rintro _ w ⟨b1, rfl, hs⟩ a hf
  refine gL hf (g_as hf rfl) (by decide) ?_; clear hf a; intro a hf
  refine e_nil ?_
  refine c_reg ?_
  refine gL hf (g_mv hf rfl) (by decide) ?_; clear hf a; intro a hf
  refine gL hf (g_fa (off' := 0) hf F40_0 rfl rfl) (by decide) ?_; clear hf a; intro a hf
  refine gL hf (g_ld hf hs T3 rfl (k := 0) rfl rfl) (by decide) ?_; clear hf a; intro a hf
  refine gL hf (g_leq hf rfl rfl) (by decide) ?_; clear hf a; intro a hf
  refine gL hf (g_mv hf rfl) (by decide) ?_; clear hf a; intro a hf
  refine ggL hf rfl rfl (gyes_t _) (fun hg => g_fa (off' := 0) hf F40_0 rfl rfl) (by decide) ?_; clear hf a; intro a hf
  refine ggL hf rfl rfl (gyes_t _) (fun hg => g_ld hf hs T3 (ev_gv rfl hg) (k := 0) rfl rfl) (by decide) ?_; clear hf a; intro a hf
  refine ggL hf rfl rfl (gyes_t _) (fun hg => g_fa (off' := 1) hf F40_1 rfl rfl) (by decide) ?_; clear hf a; intro a hf
  refine ggL hf rfl rfl (gyes_t _) (fun hg => g_ld hf hs T3 (ev_gv rfl hg) (k := 0) rfl rfl) (by decide) ?_; clear hf a; intro a hf
  refine ggL hf rfl rfl (gyes_t _) (fun hg => g_leq hf (ev_gv rfl hg) (ev_gv rfl hg)) (by decide) ?_; clear hf a; intro a hf
  refine gL hf (g_and hf rfl rfl) (by decide) ?_; clear hf a; intro a hf
  refine gL hf (g_mv hf rfl) (by decide) ?_; clear hf a; intro a hf
  refine ggL hf rfl rfl (gyes_t _) (fun hg => g_fa (off' := 1) hf F40_1 rfl rfl) (by decide) ?_; clear hf a; intro a hf
  refine ggL hf rfl rfl (gyes_t _) (fun hg => g_ld hf hs T3 (ev_gv rfl hg) (k := 0) rfl rfl) (by decide) ?_; clear hf a; intro a hf
  refine ggL hf rfl rfl (gyes_t _) (fun hg => g_mv hf rfl) (by decide) ?_; clear hf a; intro a hf
  refine ggL hf rfl rfl (gyes_t _) (fun hg => g_leq hf (ev_gv rfl hg) (ev_gv rfl hg)) (by decide) ?_; clear hf a; intro a hf
  refine gL hf (g_and hf rfl rfl) (by decide) ?_; clear hf a; intro a hf
  refine gL hf (g_as hf rfl) (by decide) ?_; clear hf a; intro a hf
  refine e_nil ?_
  refine c_ret ?_
  refine e_ret1 hf rfl rfl ?_
  exact ⟨rfl, hs.below⟩

theorem c_Sp (lo hi : Int) (w0 : World) :
    Calls Tryd.prog 52 #[.int .i64 lo, .int .i64 hi] w0 (Ret w0 (.agg #[.int .i64 lo, .int .i64 hi])) := by
  refine c_enter (n := 8) Tryd.func52 rfl rfl (Nat.le_of_ble_eq_true rfl) ?_; intro a hf; simp only [zipR] at hf
  have hs := St.start w0 [] (by simp)
  refine c_reg ?_
  refine vL hf (v_alloc hs T40 rfl) (by decide) ?_; clear hs hf a; rintro _ w ⟨b1, rfl, hs⟩ a hf
  refine e_nil ?_
  refine c_reg ?_
  refine gL hf (g_mv hf rfl) (by decide) ?_; clear hf a; intro a hf
  refine gL hf (g_mv hf rfl) (by decide) ?_; clear hf a; intro a hf
  refine gL hf (g_bld hf [[.int .i64 0], [.int .i64 0]] (.cons rfl (.cons rfl .nil)) (fun _ => by kernel_rfl)) (by decide) ?_; clear hf a; intro a hf
  refine uL (u_stW hf hs T40 rfl rfl rfl (k := 0) rfl rfl rfl) ?_; clear hs; intro w hs; dsimp only [List.set] at hs
  refine e_nil ?_
  refine c_ret ?_
  refine e_res hf hs rfl (.cellA T40 rfl (k := 0) rfl rfl .nil) rfl ?_
  exact ⟨rfl, hs.below⟩

theorem c_Only (n : Int) (w0 : World) :
    Calls Tryd.prog 60 #[.int .i64 n] w0 (Ret w0 (.agg #[.int .i64 n, .int .i64 n])) := by
  refine c_enter (n := 6) Tryd.func60 rfl rfl (Nat.le_of_ble_eq_true rfl) ?_; intro a hf; simp only [zipR] at hf
  have hs := St.start w0 [] (by simp)
  refine c_reg ?_
  refine vL hf (v_alloc hs T40 rfl) (by decide) ?_; clear hs hf a; rintro _ w ⟨b1, rfl, hs⟩ a hf
  refine e_nil ?_
  refine c_reg ?_
  refine gL hf (g_mv hf rfl) (by decide) ?_; clear hf a; intro a hf
  refine gL hf (g_mv hf rfl) (by decide) ?_; clear hf a; intro a hf
  refine callL hf hs (c_Sp _ _ _) rfl rfl rfl E52 (by decide) ?_; clear hs hf a; intro w a hs hf
  refine uL (u_stW hf hs T40 rfl rfl rfl (k := 0) rfl rfl rfl) ?_; clear hs; intro w hs; dsimp only [List.set] at hs
  refine e_nil ?_
  refine c_ret ?_
  refine e_res hf hs rfl (.cellA T40 rfl (k := 0) rfl rfl .nil) rfl ?_
  exact ⟨rfl, hs.below⟩

theorem c_Has (sl sh n : Int) (w0 : World) :
    Calls Tryd.prog 50 #[.agg #[.int .i64 sl, .int .i64 sh], .int .i64 n] w0 (Ret w0 (.bool (fitsB n sl sh))) := by
  refine c_enter (n := 11) Tryd.func50 rfl rfl (Nat.le_of_ble_eq_true rfl) ?_; intro a hf; simp only [zipR] at hf
  have hs := St.start w0 [] (by simp)
  refine c_reg ?_
  refine vL hf (v_boxA hf hs rfl) (by decide) ?_; clear hs hf a; rintro _ w ⟨b1, rfl, hs⟩ a hf
  refine gL hf (g_as hf rfl) (by decide) ?_; clear hf a; intro a hf
  refine e_nil ?_
  refine c_reg ?_
  refine gL hf (g_mv hf rfl) (by decide) ?_; clear hf a; intro a hf
  refine gL hf (g_fa (off' := 0) hf F40_0 rfl rfl) (by decide) ?_; clear hf a; intro a hf
  refine gL hf (g_ld hf hs T3 rfl (k := 0) rfl rfl) (by decide) ?_; clear hf a; intro a hf
  refine gL hf (g_fa (off' := 1) hf F40_1 rfl rfl) (by decide) ?_; clear hf a; intro a hf
  refine gL hf (g_ld hf hs T3 rfl (k := 0) rfl rfl) (by decide) ?_; clear hf a; intro a hf
  refine callL hf hs (c_Fits _ _ _ _) rfl rfl rfl E26 (by decide) ?_; clear hs hf a; intro w a hs hf
  refine gL hf (g_as hf rfl) (by decide) ?_; clear hf a; intro a hf
  refine e_nil ?_
  refine c_ret ?_
  refine e_ret1 hf rfl rfl ?_
  exact ⟨rfl, hs.below⟩

theorem c_overlaps (sl sh tl th : Int) (w0 : World) :
    Calls Tryd.prog 136 #[.agg #[.int .i64 sl, .int .i64 sh], .agg #[.int .i64 tl, .int .i64 th]] w0 (Ret w0 (.bool (decide (sl ≤ th) && decide (tl ≤ sh)))) := by
  refine c_enter (n := 17) Tryd.func136 rfl rfl (Nat.le_of_ble_eq_true rfl) ?_; intro a hf; simp only [zipR] at hf
  have hs := St.start w0 [] (by simp)
  refine c_reg ?_
  refine vL hf (v_boxA hf hs rfl) (by decide) ?_; clear hs hf a; rintro _ w ⟨b1, rfl, hs⟩ a hf
  refine vL hf (v_boxA hf hs rfl) (by decide) ?_; clear hs hf a; rintro _ w ⟨b2, rfl, hs⟩ a hf
  refine gL hf (g_as hf rfl) (by decide) ?_; clear hf a; intro a hf
  refine e_nil ?_
  refine c_reg ?_
  refine gL hf (g_fa (off' := 0) hf F40_0 rfl rfl) (by decide) ?_; clear hf a; intro a hf
  refine gL hf (g_ld hf hs T3 rfl (k := 1) rfl rfl) (by decide) ?_; clear hf a; intro a hf
  refine gL hf (g_fa (off' := 1) hf F40_1 rfl rfl) (by decide) ?_; clear hf a; intro a hf
  refine gL hf (g_ld hf hs T3 rfl (k := 0) rfl rfl) (by decide) ?_; clear hf a; intro a hf
  refine gL hf (g_leq hf rfl rfl) (by decide) ?_; clear hf a; intro a hf
  refine gL hf (g_mv hf rfl) (by decide) ?_; clear hf a; intro a hf
  refine ggL hf rfl rfl (gyes_t _) (fun hg => g_fa (off' := 0) hf F40_0 rfl rfl) (by decide) ?_; clear hf a; intro a hf
  refine ggL hf rfl rfl (gyes_t _) (fun hg => g_ld hf hs T3 (ev_gv rfl hg) (k := 0) rfl rfl) (by decide) ?_; clear hf a; intro a hf
  refine ggL hf rfl rfl (gyes_t _) (fun hg => g_fa (off' := 1) hf F40_1 rfl rfl) (by decide) ?_; clear hf a; intro a hf
  refine ggL hf rfl rfl (gyes_t _) (fun hg => g_ld hf hs T3 (ev_gv rfl hg) (k := 1) rfl rfl) (by decide) ?_; clear hf a; intro a hf
  refine ggL hf rfl rfl (gyes_t _) (fun hg => g_leq hf (ev_gv rfl hg) (ev_gv rfl hg)) (by decide) ?_; clear hf a; intro a hf
  refine gL hf (g_and hf rfl rfl) (by decide) ?_; clear hf a; intro a hf
  refine gL hf (g_as hf rfl) (by decide) ?_; clear hf a; intro a hf
  refine e_nil ?_
  refine c_ret ?_
  refine e_ret1 hf rfl rfl ?_
  exact ⟨rfl, hs.below⟩

theorem c_least1 (lo hi : Int) (w0 : World) :
    Calls Tryd.prog 134 #[.agg #[.int .i64 lo, .int .i64 hi]] w0 (Ret w0 (.int .i64 lo)) := by
  refine c_enter (n := 5) Tryd.func134 rfl rfl (Nat.le_of_ble_eq_true rfl) ?_; intro a hf; simp only [zipR] at hf
  have hs := St.start w0 [] (by simp)
  refine c_reg ?_
  refine vL hf (v_boxA hf hs rfl) (by decide) ?_; clear hs hf a; rintro _ w ⟨b1, rfl, hs⟩ a hf
  refine gL hf (g_as hf rfl) (by decide) ?_; clear hf a; intro a hf
  refine e_nil ?_
  refine c_reg ?_
  refine gL hf (g_fa (off' := 0) hf F40_0 rfl rfl) (by decide) ?_; clear hf a; intro a hf
  refine gL hf (g_ld hf hs T3 rfl (k := 0) rfl rfl) (by decide) ?_; clear hf a; intro a hf
  refine gL hf (g_as hf rfl) (by decide) ?_; clear hf a; intro a hf
  refine e_nil ?_
  refine c_ret ?_
  refine e_ret1 hf rfl rfl ?_
  exact ⟨rfl, hs.below⟩

theorem c_most1 (lo hi : Int) (w0 : World) :
    Calls Tryd.prog 135 #[.agg #[.int .i64 lo, .int .i64 hi]] w0 (Ret w0 (.int .i64 hi)) := by
  refine c_enter (n := 5) Tryd.func135 rfl rfl (Nat.le_of_ble_eq_true rfl) ?_; intro a hf; simp only [zipR] at hf
  have hs := St.start w0 [] (by simp)
  refine c_reg ?_
  refine vL hf (v_boxA hf hs rfl) (by decide) ?_; clear hs hf a; rintro _ w ⟨b1, rfl, hs⟩ a hf
  refine gL hf (g_as hf rfl) (by decide) ?_; clear hf a; intro a hf
  refine e_nil ?_
  refine c_reg ?_
  refine gL hf (g_fa (off' := 1) hf F40_1 rfl rfl) (by decide) ?_; clear hf a; intro a hf
  refine gL hf (g_ld hf hs T3 rfl (k := 0) rfl rfl) (by decide) ?_; clear hf a; intro a hf
  refine gL hf (g_as hf rfl) (by decide) ?_; clear hf a; intro a hf
  refine e_nil ?_
  refine c_ret ?_
  refine e_ret1 hf rfl rfl ?_
  exact ⟨rfl, hs.below⟩

theorem c_least (w0 : World) :
    Calls Tryd.prog 124 #[] w0 (Ret w0 (.agg #[.func (.func 134) #[] #[]])) := by
  refine c_enter (n := 2) Tryd.func124 rfl rfl (Nat.le_of_ble_eq_true rfl) ?_; intro a hf; simp only [zipR] at hf
  have hs := St.start w0 [] (by simp)
  refine c_reg ?_
  refine vL hf (v_alloc hs T149 rfl) (by decide) ?_; clear hs hf a; rintro _ w ⟨b1, rfl, hs⟩ a hf
  refine e_nil ?_
  refine c_reg ?_
  refine gL hf (g_bld hf [[.nilFunc]] (.cons rfl .nil) (fun _ => by kernel_rfl)) (by decide) ?_; clear hf a; intro a hf
  refine uL (u_stW hf hs T149 rfl rfl rfl (k := 0) rfl rfl rfl) ?_; clear hs; intro w hs; dsimp only [List.set] at hs
  refine e_nil ?_
  refine c_ret ?_
  refine e_res hf hs rfl (.cellA T149 rfl (k := 0) rfl rfl .nil) rfl ?_
  exact ⟨rfl, hs.below⟩

theorem c_most (w0 : World) :
    Calls Tryd.prog 125 #[] w0 (Ret w0 (.agg #[.func (.func 135) #[] #[]])) := by
  refine c_enter (n := 2) Tryd.func125 rfl rfl (Nat.le_of_ble_eq_true rfl) ?_; intro a hf; simp only [zipR] at hf
  have hs := St.start w0 [] (by simp)
  refine c_reg ?_
  refine vL hf (v_alloc hs T149 rfl) (by decide) ?_; clear hs hf a; rintro _ w ⟨b1, rfl, hs⟩ a hf
  refine e_nil ?_
  refine c_reg ?_
  refine gL hf (g_bld hf [[.nilFunc]] (.cons rfl .nil) (fun _ => by kernel_rfl)) (by decide) ?_; clear hf a; intro a hf
  refine uL (u_stW hf hs T149 rfl rfl rfl (k := 0) rfl rfl rfl) ?_; clear hs; intro w hs; dsimp only [List.set] at hs
  refine e_nil ?_
  refine c_ret ?_
  refine e_res hf hs rfl (.cellA T149 rfl (k := 0) rfl rfl .nil) rfl ?_
  exact ⟨rfl, hs.below⟩

theorem c_none (w0 : World) :
    Calls Tryd.prog 108 #[] w0 (Ret w0 (.agg #[.bool false, .bool false, .bool false, .bool false, .bool false, .bool false, .bool false])) := by
  refine c_enter (n := 3) Tryd.func108 rfl rfl (Nat.le_of_ble_eq_true rfl) ?_; intro a hf; simp only [zipR] at hf
  have hs := St.start w0 [] (by simp)
  refine c_reg ?_
  refine vL hf (v_alloc hs T126 rfl) (by decide) ?_; clear hs hf a; rintro _ w ⟨b1, rfl, hs⟩ a hf
  refine e_nil ?_
  refine c_reg ?_
  refine vL hf (v_alloc hs T126 rfl) (by decide) ?_; clear hs hf a; rintro _ w ⟨b2, rfl, hs⟩ a hf
  refine e_nil ?_
  refine c_reg ?_
  refine gL hf (g_ldW hf hs T126 rfl (k := 0) rfl rfl) (by decide) ?_; clear hf a; intro a hf
  refine uL (u_stW hf hs T126 rfl rfl rfl (k := 1) rfl rfl rfl) ?_; clear hs; intro w hs; dsimp only [List.set] at hs
  refine e_nil ?_
  refine c_ret ?_
  refine e_res hf hs rfl (.cellA T126 rfl (k := 1) rfl rfl .nil) rfl ?_
  exact ⟨rfl, hs.below⟩

theorem c_Spin (n m : Int) (hm : m ≤ 9223372036854775807) (w0 : World) :
    Calls Tryd.prog 22 #[.int .i64 n, .int .i64 m] w0 (Ret w0 (.int .i64 (spin n m))) := by
  refine c_enter (n := 17) Tryd.func22 rfl rfl (Nat.le_of_ble_eq_true rfl) ?_; intro a hf; simp only [zipR] at hf
  have hs := St.start w0 [] (by simp)
  have hlt := fun h : 0 < m => Int.tmod_lt_of_pos n h
  have hgt := fun h : 0 < m => Int.lt_tmod_of_pos n h
  refine c_reg ?_
  refine gL hf (g_as hf rfl) (by decide) ?_; clear hf a; intro a hf
  refine e_nil ?_
  refine wp_seq ?_
  refine c_reg ?_
  refine gL hf (g_mv hf rfl) (by decide) ?_; clear hf a; intro a hf
  refine gL hf (g_lss hf rfl rfl) (by decide) ?_; clear hf a; intro a hf
  refine e_nil ?_
  refine c_cond hf rfl (fun hc1 => ?_) (fun hc1 => ?_)
  · try simp only [decide_eq_true_eq, decide_eq_false_iff_not] at hc1
    refine c_reg ?_
    refine gL hf (g_as hf rfl) (by decide) ?_; clear hf a; intro a hf
    refine e_nil ?_
    refine c_ret (q_thenR ?_)
    refine e_ret1 hf rfl rfl ?_
    exact ⟨by simp [spin, *] <;> omega, hs.below⟩
  · try simp only [decide_eq_true_eq, decide_eq_false_iff_not] at hc1
    refine c_skip (q_thenN ?_)
    refine c_reg ?_
    refine gL hf (g_mv hf rfl) (by decide) ?_; clear hf a; intro a hf
    refine gL hf (g_mv hf rfl) (by decide) ?_; clear hf a; intro a hf
    refine gL hf (g_rem hf rfl rfl (by omega)) (by decide) ?_; clear hf a; intro a hf
    refine gL hf (g_as hf rfl) (by decide) ?_; clear hf a; intro a hf
    refine e_nil ?_
    refine wp_seq ?_
    refine c_reg ?_
    refine gL hf (g_mv hf rfl) (by decide) ?_; clear hf a; intro a hf
    refine gL hf (g_lss hf rfl rfl) (by decide) ?_; clear hf a; intro a hf
    refine e_nil ?_
    refine c_cond hf rfl (fun hc2 => ?_) (fun hc2 => ?_)
    · try simp only [decide_eq_true_eq, decide_eq_false_iff_not] at hc2
      refine c_reg1 ?_
      refine gL hf (g_mv hf rfl) (by decide) ?_; clear hf a; intro a hf
      refine gL hf (g_mv hf rfl) (by decide) ?_; clear hf a; intro a hf
      refine gL hf (g_addI hf rfl rfl (by have := hgt (by omega); omega)) (by decide) ?_; clear hf a; intro a hf
      refine gL hf (g_as hf rfl) (by decide) ?_; clear hf a; intro a hf
      refine e_nil1 (q_thenN ?_)
      refine c_reg ?_
      refine gL hf (g_mv hf rfl) (by decide) ?_; clear hf a; intro a hf
      refine gL hf (g_as hf rfl) (by decide) ?_; clear hf a; intro a hf
      refine e_nil ?_
      refine c_ret ?_
      refine e_ret1 hf rfl rfl ?_
      exact ⟨by simp [spin, *] <;> omega, hs.below⟩
    · try simp only [decide_eq_true_eq, decide_eq_false_iff_not] at hc2
      refine c_skip (q_thenN ?_)
      refine c_reg ?_
      refine gL hf (g_mv hf rfl) (by decide) ?_; clear hf a; intro a hf
      refine gL hf (g_as hf rfl) (by decide) ?_; clear hf a; intro a hf
      refine e_nil ?_
      refine c_ret ?_
      refine e_ret1 hf rfl rfl ?_
      exact ⟨by simp [spin, *] <;> omega, hs.below⟩

theorem c_isFlap (wd hg : Int) (fA : Option Addr) (fn fc : Nat) (rA : Option Addr) (rn rc : Nat) (n : Int) (hfn : fn ≤ 9223372036854775807) (w0 : World) :
    Calls Tryd.prog 122 #[.agg #[.int .i64 wd, .int .i64 hg, .slice fA fn fc, .slice rA rn rc], .int .i64 n] w0 (Ret w0 (.bool (flapB fn n))) := by
  refine c_enter (n := 11) Tryd.func122 rfl rfl (Nat.le_of_ble_eq_true rfl) ?_; intro a hf; simp only [zipR] at hf
  have hs := St.start w0 [] (by simp)
  refine c_reg ?_
  refine vL hf (v_boxA hf hs rfl) (by decide) ?_; clear hs hf a; rintro _ w ⟨b1, rfl, hs⟩ a hf
  refine gL hf (g_as hf rfl) (by decide) ?_; clear hf a; intro a hf
  refine e_nil ?_
  refine c_reg ?_
  refine gL hf (g_mv hf rfl) (by decide) ?_; clear hf a; intro a hf
  refine gL hf (g_fa (off' := 2) hf F25_2 rfl rfl) (by decide) ?_; clear hf a; intro a hf
  refine gL hf (g_ld hf hs T22 rfl (k := 0) rfl rfl) (by decide) ?_; clear hf a; intro a hf
  refine gL hf (g_len hf SL22 rfl) (by decide) ?_; clear hf a; intro a hf
  refine gL hf (g_subI hf rfl rfl (by omega)) (by decide) ?_; clear hf a; intro a hf
  refine callL hf hs (c_within _ _ _ _) rfl rfl rfl E99 (by decide) ?_; clear hs hf a; intro w a hs hf
  refine gL hf (g_as hf rfl) (by decide) ?_; clear hf a; intro a hf
  refine e_nil ?_
  refine c_ret ?_
  refine e_ret1 hf rfl rfl ?_
  exact ⟨rfl, hs.below⟩

theorem c_left (wd hg : Int) (fA : Option Addr) (fn fc : Nat) (rA : Option Addr) (rn rc : Nat) (mp : Option Nat) (x : Flap) (reach : Int) (h1 : 0 ≤ wd ∧ wd ≤ 99) (h2 : 0 ≤ hg ∧ hg ≤ 99) (h3 : 0 ≤ reach ∧ reach ≤ 99) (w0 : World) :
    Calls Tryd.prog 163 #[.agg #[.int .i64 wd, .int .i64 hg, .slice fA fn fc, .slice rA rn rc, .map mp], .agg #[.int .i64 x.side, .int .i64 x.rl, .int .i64 x.rh, .int .i64 x.al, .int .i64 x.ah], .int .i64 reach] w0 (Ret w0 (.agg #[.int .i64 0, .int .i64 (reach - 1), .int .i64 x.al, .int .i64 x.ah])) := by
  refine c_enter (n := 13) Tryd.func163 rfl rfl (Nat.le_of_ble_eq_true rfl) ?_; intro a hf; simp only [zipR] at hf
  have hs := St.start w0 [] (by simp)
  refine c_reg ?_
  refine vL hf (v_boxA hf hs rfl) (by decide) ?_; clear hs hf a; rintro _ w ⟨b1, rfl, hs⟩ a hf
  refine vL hf (v_boxA hf hs rfl) (by decide) ?_; clear hs hf a; rintro _ w ⟨b2, rfl, hs⟩ a hf
  refine vL hf (v_alloc hs T159 rfl) (by decide) ?_; clear hs hf a; rintro _ w ⟨b3, rfl, hs⟩ a hf
  refine e_nil ?_
  refine c_reg ?_
  refine gL hf (g_mv hf rfl) (by decide) ?_; clear hf a; intro a hf
  refine gL hf (g_subI hf rfl rfl (by omega)) (by decide) ?_; clear hf a; intro a hf
  refine gL hf (g_bld hf [[.int .i64 0], [.int .i64 0]] (.cons rfl .nil) (fun _ => by kernel_rfl)) (by decide) ?_; clear hf a; intro a hf
  refine gL hf (g_fa (off' := 3) hf F117_2 rfl rfl) (by decide) ?_; clear hf a; intro a hf
  refine gL hf (g_ldP hf hs T40 rfl (k := 1) rfl rfl) (by decide) ?_; clear hf a; intro a hf
  refine gL hf (g_bld hf [[.int .i64 0, .int .i64 0], [.int .i64 0, .int .i64 0]] (.cons rfl (.cons rfl .nil)) (fun _ => by kernel_rfl)) (by decide) ?_; clear hf a; intro a hf
  refine uL (u_stW hf hs T159 rfl rfl rfl (k := 0) rfl rfl rfl) ?_; clear hs; intro w hs; dsimp only [List.set] at hs
  refine e_nil ?_
  refine c_ret ?_
  refine e_res hf hs rfl (.cellA T159 rfl (k := 0) rfl rfl .nil) rfl ?_
  exact ⟨rfl, hs.below⟩

theorem c_right (wd hg : Int) (fA : Option Addr) (fn fc : Nat) (rA : Option Addr) (rn rc : Nat) (mp : Option Nat) (x : Flap) (reach : Int) (h1 : 0 ≤ wd ∧ wd ≤ 99) (h2 : 0 ≤ hg ∧ hg ≤ 99) (h3 : 0 ≤ reach ∧ reach ≤ 99) (w0 : World) :
    Calls Tryd.prog 164 #[.agg #[.int .i64 wd, .int .i64 hg, .slice fA fn fc, .slice rA rn rc, .map mp], .agg #[.int .i64 x.side, .int .i64 x.rl, .int .i64 x.rh, .int .i64 x.al, .int .i64 x.ah], .int .i64 reach] w0 (Ret w0 (.agg #[.int .i64 (wd - reach), .int .i64 (wd - 1), .int .i64 x.al, .int .i64 x.ah])) := by
  refine c_enter (n := 20) Tryd.func164 rfl rfl (Nat.le_of_ble_eq_true rfl) ?_; intro a hf; simp only [zipR] at hf
  have hs := St.start w0 [] (by simp)
  refine c_reg ?_
  refine vL hf (v_boxA hf hs rfl) (by decide) ?_; clear hs hf a; rintro _ w ⟨b1, rfl, hs⟩ a hf
  refine vL hf (v_boxA hf hs rfl) (by decide) ?_; clear hs hf a; rintro _ w ⟨b2, rfl, hs⟩ a hf
  refine vL hf (v_alloc hs T159 rfl) (by decide) ?_; clear hs hf a; rintro _ w ⟨b3, rfl, hs⟩ a hf
  refine e_nil ?_
  refine c_reg ?_
  refine gL hf (g_fa (off' := 0) hf F80_0 rfl rfl) (by decide) ?_; clear hf a; intro a hf
  refine gL hf (g_fa (off' := 0) hf F25_0 rfl rfl) (by decide) ?_; clear hf a; intro a hf
  refine gL hf (g_ld hf hs T3 rfl (k := 2) rfl rfl) (by decide) ?_; clear hf a; intro a hf
  refine gL hf (g_mv hf rfl) (by decide) ?_; clear hf a; intro a hf
  refine gL hf (g_subI hf rfl rfl (by omega)) (by decide) ?_; clear hf a; intro a hf
  refine gL hf (g_fa (off' := 0) hf F80_0 rfl rfl) (by decide) ?_; clear hf a; intro a hf
  refine gL hf (g_fa (off' := 0) hf F25_0 rfl rfl) (by decide) ?_; clear hf a; intro a hf
  refine gL hf (g_ld hf hs T3 rfl (k := 2) rfl rfl) (by decide) ?_; clear hf a; intro a hf
  refine gL hf (g_subI hf rfl rfl (by omega)) (by decide) ?_; clear hf a; intro a hf
  refine gL hf (g_bld hf [[.int .i64 0], [.int .i64 0]] (.cons rfl (.cons rfl .nil)) (fun _ => by kernel_rfl)) (by decide) ?_; clear hf a; intro a hf
  refine gL hf (g_fa (off' := 3) hf F117_2 rfl rfl) (by decide) ?_; clear hf a; intro a hf
  refine gL hf (g_ldP hf hs T40 rfl (k := 1) rfl rfl) (by decide) ?_; clear hf a; intro a hf
  refine gL hf (g_bld hf [[.int .i64 0, .int .i64 0], [.int .i64 0, .int .i64 0]] (.cons rfl (.cons rfl .nil)) (fun _ => by kernel_rfl)) (by decide) ?_; clear hf a; intro a hf
  refine uL (u_stW hf hs T159 rfl rfl rfl (k := 0) rfl rfl rfl) ?_; clear hs; intro w hs; dsimp only [List.set] at hs
  refine e_nil ?_
  refine c_ret ?_
  refine e_res hf hs rfl (.cellA T159 rfl (k := 0) rfl rfl .nil) rfl ?_
  exact ⟨rfl, hs.below⟩

theorem c_top (wd hg : Int) (fA : Option Addr) (fn fc : Nat) (rA : Option Addr) (rn rc : Nat) (mp : Option Nat) (x : Flap) (reach : Int) (h1 : 0 ≤ wd ∧ wd ≤ 99) (h2 : 0 ≤ hg ∧ hg ≤ 99) (h3 : 0 ≤ reach ∧ reach ≤ 99) (w0 : World) :
    Calls Tryd.prog 165 #[.agg #[.int .i64 wd, .int .i64 hg, .slice fA fn fc, .slice rA rn rc, .map mp], .agg #[.int .i64 x.side, .int .i64 x.rl, .int .i64 x.rh, .int .i64 x.al, .int .i64 x.ah], .int .i64 reach] w0 (Ret w0 (.agg #[.int .i64 x.al, .int .i64 x.ah, .int .i64 0, .int .i64 (reach - 1)])) := by
  refine c_enter (n := 13) Tryd.func165 rfl rfl (Nat.le_of_ble_eq_true rfl) ?_; intro a hf; simp only [zipR] at hf
  have hs := St.start w0 [] (by simp)
  refine c_reg ?_
  refine vL hf (v_boxA hf hs rfl) (by decide) ?_; clear hs hf a; rintro _ w ⟨b1, rfl, hs⟩ a hf
  refine vL hf (v_boxA hf hs rfl) (by decide) ?_; clear hs hf a; rintro _ w ⟨b2, rfl, hs⟩ a hf
  refine vL hf (v_alloc hs T159 rfl) (by decide) ?_; clear hs hf a; rintro _ w ⟨b3, rfl, hs⟩ a hf
  refine e_nil ?_
  refine c_reg ?_
  refine gL hf (g_fa (off' := 3) hf F117_2 rfl rfl) (by decide) ?_; clear hf a; intro a hf
  refine gL hf (g_ldP hf hs T40 rfl (k := 1) rfl rfl) (by decide) ?_; clear hf a; intro a hf
  refine gL hf (g_mv hf rfl) (by decide) ?_; clear hf a; intro a hf
  refine gL hf (g_subI hf rfl rfl (by omega)) (by decide) ?_; clear hf a; intro a hf
  refine gL hf (g_bld hf [[.int .i64 0], [.int .i64 0]] (.cons rfl .nil) (fun _ => by kernel_rfl)) (by decide) ?_; clear hf a; intro a hf
  refine gL hf (g_bld hf [[.int .i64 0, .int .i64 0], [.int .i64 0, .int .i64 0]] (.cons rfl (.cons rfl .nil)) (fun _ => by kernel_rfl)) (by decide) ?_; clear hf a; intro a hf
  refine uL (u_stW hf hs T159 rfl rfl rfl (k := 0) rfl rfl rfl) ?_; clear hs; intro w hs; dsimp only [List.set] at hs
  refine e_nil ?_
  refine c_ret ?_
  refine e_res hf hs rfl (.cellA T159 rfl (k := 0) rfl rfl .nil) rfl ?_
  exact ⟨rfl, hs.below⟩

theorem c_bottom (wd hg : Int) (fA : Option Addr) (fn fc : Nat) (rA : Option Addr) (rn rc : Nat) (mp : Option Nat) (x : Flap) (reach : Int) (h1 : 0 ≤ wd ∧ wd ≤ 99) (h2 : 0 ≤ hg ∧ hg ≤ 99) (h3 : 0 ≤ reach ∧ reach ≤ 99) (w0 : World) :
    Calls Tryd.prog 166 #[.agg #[.int .i64 wd, .int .i64 hg, .slice fA fn fc, .slice rA rn rc, .map mp], .agg #[.int .i64 x.side, .int .i64 x.rl, .int .i64 x.rh, .int .i64 x.al, .int .i64 x.ah], .int .i64 reach] w0 (Ret w0 (.agg #[.int .i64 x.al, .int .i64 x.ah, .int .i64 (hg - reach), .int .i64 (hg - 1)])) := by
  refine c_enter (n := 20) Tryd.func166 rfl rfl (Nat.le_of_ble_eq_true rfl) ?_; intro a hf; simp only [zipR] at hf
  have hs := St.start w0 [] (by simp)
  refine c_reg ?_
  refine vL hf (v_boxA hf hs rfl) (by decide) ?_; clear hs hf a; rintro _ w ⟨b1, rfl, hs⟩ a hf
  refine vL hf (v_boxA hf hs rfl) (by decide) ?_; clear hs hf a; rintro _ w ⟨b2, rfl, hs⟩ a hf
  refine vL hf (v_alloc hs T159 rfl) (by decide) ?_; clear hs hf a; rintro _ w ⟨b3, rfl, hs⟩ a hf
  refine e_nil ?_
  refine c_reg ?_
  refine gL hf (g_fa (off' := 3) hf F117_2 rfl rfl) (by decide) ?_; clear hf a; intro a hf
  refine gL hf (g_ldP hf hs T40 rfl (k := 1) rfl rfl) (by decide) ?_; clear hf a; intro a hf
  refine gL hf (g_fa (off' := 0) hf F80_0 rfl rfl) (by decide) ?_; clear hf a; intro a hf
  refine gL hf (g_fa (off' := 1) hf F25_1 rfl rfl) (by decide) ?_; clear hf a; intro a hf
  refine gL hf (g_ld hf hs T3 rfl (k := 2) rfl rfl) (by decide) ?_; clear hf a; intro a hf
  refine gL hf (g_mv hf rfl) (by decide) ?_; clear hf a; intro a hf
  refine gL hf (g_subI hf rfl rfl (by omega)) (by decide) ?_; clear hf a; intro a hf
  refine gL hf (g_fa (off' := 0) hf F80_0 rfl rfl) (by decide) ?_; clear hf a; intro a hf
  refine gL hf (g_fa (off' := 1) hf F25_1 rfl rfl) (by decide) ?_; clear hf a; intro a hf
  refine gL hf (g_ld hf hs T3 rfl (k := 2) rfl rfl) (by decide) ?_; clear hf a; intro a hf
  refine gL hf (g_subI hf rfl rfl (by omega)) (by decide) ?_; clear hf a; intro a hf
  refine gL hf (g_bld hf [[.int .i64 0], [.int .i64 0]] (.cons rfl (.cons rfl .nil)) (fun _ => by kernel_rfl)) (by decide) ?_; clear hf a; intro a hf
  refine gL hf (g_bld hf [[.int .i64 0, .int .i64 0], [.int .i64 0, .int .i64 0]] (.cons rfl (.cons rfl .nil)) (fun _ => by kernel_rfl)) (by decide) ?_; clear hf a; intro a hf
  refine uL (u_stW hf hs T159 rfl rfl rfl (k := 0) rfl rfl rfl) ?_; clear hs; intro w hs; dsimp only [List.set] at hs
  refine e_nil ?_
  refine c_ret ?_
  refine e_res hf hs rfl (.cellA T159 rfl (k := 0) rfl rfl .nil) rfl ?_
  exact ⟨rfl, hs.below⟩

end Go.Proofs.YtjjcopeedcdokaaDoor

set_option linter.unusedVariables false
set_option linter.unusedSimpArgs false
namespace Go.Proofs.YtjjcopeedcdokaaDoor
open Go.RowKit
theorem c_Index (A : Option Addr) (n c : Nat) (l : List Int) (v : Int) (w0 : World) (h : Rd encI 1 A n l w0) :
    Calls Tryd.prog 96 #[.slice A n c, .int .i64 v] w0 (Ret w0 (.int .i64 (indexZ (fun x => v == x) l))) := by
  refine c_enter (n := 19) Tryd.func96 rfl rfl (Nat.le_of_ble_eq_true rfl) ?_; intro a hf; simp only [zipR] at hf
  have hs := St.start w0 [Rd encI 1 A n l] (by simpa using h.stable (by simp))
  have hn := h.1; have hm := h.2.1
  refine c_reg ?_
  refine gL hf (g_as hf rfl) (by decide) ?_; clear hf a; intro a hf
  refine e_nil ?_
  refine wp_seq ?_
  refine c_reg ?_
  refine gL hf (g_mv hf rfl) (by decide) ?_; clear hf a; intro a hf
  refine gL hf (g_len hf SL31 rfl) (by decide) ?_; clear hf a; intro a hf
  refine gL hf (g_mv hf rfl) (by decide) ?_; clear hf a; intro a hf
  refine e_nil ?_
  refine c_block ?_
  refine c_loop hf hs [4, 5, 8, 9, 10, 11, 12, 13, 14, 15, 16, 17, 18] (σ := Nat) (fun k => [(8, .int .i64 (k : Nat))]) (fun k => _) (fun k => k ≤ n ∧ ∀ j, j < k → (v == (l.getD j default)) = false) (fun k => n - k) 0 ⟨by omega, by omega⟩ (.cons rfl .nil) rfl ?_
  intro k a w hJ hf hs
  obtain ⟨hk, hp⟩ := hJ
  refine c_reg ?_
  refine gL hf (g_lss hf rfl rfl) (by decide) ?_; clear hf a; intro a hf
  refine e_nil ?_
  refine c_condS hf rfl (fun hc1 => ?_) (fun hc1 => ?_)
  · try simp only [decide_eq_true_eq, decide_eq_false_iff_not] at hc1
    refine c_skip (q_thenN ?_)
    refine c_blockS ?_
    refine c_reg ?_
    refine gL hf (g_mv hf rfl) (by decide) ?_; clear hf a; intro a hf
    refine gL hf (g_as hf rfl) (by decide) ?_; clear hf a; intro a hf
    refine e_nil ?_
    refine c_reg ?_
    refine gL hf (g_mv hf rfl) (by decide) ?_; clear hf a; intro a hf
    refine gL hf (g_mv hf rfl) (by decide) ?_; clear hf a; intro a hf
    refine gL hf (g_mv hf rfl) (by decide) ?_; clear hf a; intro a hf
    (first | (refine gL hf (g_ixE hf hs (.head _) SL31 rfl rfl (by omega)) (by decide) ?_) | (refine gL hf (g_ixD hf hs (.head _) SL31 rfl rfl (by omega)) (by decide) ?_)); clear hf a; intro a hf
    refine gL hf (g_ldE hf hs (.head _) T3 rfl rfl (by omega)) (by decide) ?_; clear hf a; intro a hf
    refine gL hf (g_eql hf rfl rfl) (by decide) ?_; clear hf a; intro a hf
    refine e_nil ?_
    refine c_cond hf rfl (fun hc2 => ?_) (fun hc2 => ?_)
    · try simp only [decide_eq_true_eq, decide_eq_false_iff_not] at hc2
      refine c_reg ?_
      refine gL hf (g_mv hf rfl) (by decide) ?_; clear hf a; intro a hf
      refine gL hf (g_as hf rfl) (by decide) ?_; clear hf a; intro a hf
      refine e_nil ?_
      refine c_ret (q_blkR (q_thenR (q_thenR (q_blkR (q_thenR ?_)))))
      refine e_ret1 hf rfl rfl ?_
      exact ⟨by rw [indexZ_found (by omega) hp (by assumption)], hs.below⟩
    · try simp only [decide_eq_true_eq, decide_eq_false_iff_not] at hc2
      refine c_skip (q_blkN (q_thenN ?_))
      refine c_reg1 ?_
      refine gL hf (g_addI hf rfl rfl (by omega)) (by decide) ?_; clear hf a; intro a hf
      refine gL hf (g_mv hf rfl) (by decide) ?_; clear hf a; intro a hf
      refine e_nil1 (q_thenN ?_)
      exact ⟨k + 1, ⟨by omega, lt_succ hp (by assumption)⟩, (by omega), hf.back (by repeat (first | (with_reducible exact Ext.base) | ((with_reducible refine Ext.cons ?_ ?_); (· rfl)) | ((with_reducible refine Ext.over ?_ ?_ ?_); (· rfl); (· rfl)))) (allKeys rfl) (.cons rfl .nil), hs.dropN 0⟩
  · try simp only [decide_eq_true_eq, decide_eq_false_iff_not] at hc1
    refine c_exit (q_thenX (q_thenX (q_blkX (q_thenN ?_))))
    refine c_reg ?_
    refine gL hf (g_as hf rfl) (by decide) ?_; clear hf a; intro a hf
    refine e_nil ?_
    refine c_ret ?_
    refine e_ret1 hf rfl rfl ?_
    exact ⟨by rw [indexZ_none (fun j hj => hp j (by omega))], hs.below⟩

theorem c_IndexR (A : Option Addr) (n c : Nat) (l : List Int) (v : Int) (w0 : World) (h : Rd encI 1 A n l w0) :
    Calls Tryd.prog 24 #[.slice A n c, .int .i64 v] w0 (Ret w0 (.int .i64 (indexZ (fun x => x == v) l))) := by
  refine c_enter (n := 19) Tryd.func24 rfl rfl (Nat.le_of_ble_eq_true rfl) ?_; intro a hf; simp only [zipR] at hf
  have hs := St.start w0 [Rd encI 1 A n l] (by simpa using h.stable (by simp))
  have hn := h.1; have hm := h.2.1
  refine c_reg ?_
  refine gL hf (g_as hf rfl) (by decide) ?_; clear hf a; intro a hf
  refine e_nil ?_
  refine wp_seq ?_
  refine c_reg ?_
  refine gL hf (g_as hf rfl) (by decide) ?_; clear hf a; intro a hf
  refine e_nil ?_
  refine c_block ?_
  refine c_loop hf hs [4, 5, 6, 7, 8, 9, 10, 11, 12, 13, 14, 15, 16, 17, 18] (σ := Nat) (fun k => [(5, .int .i64 (k : Nat))]) (fun k => _) (fun k => k ≤ n ∧ ∀ j, j < k → ((l.getD j default) == v) = false) (fun k => n - k) 0 ⟨by omega, by omega⟩ (.cons rfl .nil) rfl ?_
  intro k a w hJ hf hs
  obtain ⟨hk, hp⟩ := hJ
  refine wp_seq ?_
  refine c_reg ?_
  refine gL hf (g_mv hf rfl) (by decide) ?_; clear hf a; intro a hf
  refine gL hf (g_mv hf rfl) (by decide) ?_; clear hf a; intro a hf
  refine gL hf (g_len hf SL31 rfl) (by decide) ?_; clear hf a; intro a hf
  refine gL hf (g_lss hf rfl rfl) (by decide) ?_; clear hf a; intro a hf
  refine e_nil ?_
  refine c_cond hf rfl (fun hc1 => ?_) (fun hc1 => ?_)
  · try simp only [decide_eq_true_eq, decide_eq_false_iff_not] at hc1
    refine c_skip (q_thenN ?_)
    refine c_blockS ?_
    refine c_reg ?_
    refine gL hf (g_mv hf rfl) (by decide) ?_; clear hf a; intro a hf
    refine gL hf (g_mv hf rfl) (by decide) ?_; clear hf a; intro a hf
    (first | (refine gL hf (g_ixE hf hs (.head _) SL31 rfl rfl (by omega)) (by decide) ?_) | (refine gL hf (g_ixD hf hs (.head _) SL31 rfl rfl (by omega)) (by decide) ?_)); clear hf a; intro a hf
    refine gL hf (g_ldE hf hs (.head _) T3 rfl rfl (by omega)) (by decide) ?_; clear hf a; intro a hf
    refine gL hf (g_mv hf rfl) (by decide) ?_; clear hf a; intro a hf
    refine gL hf (g_eql hf rfl rfl) (by decide) ?_; clear hf a; intro a hf
    refine e_nil ?_
    refine c_cond hf rfl (fun hc2 => ?_) (fun hc2 => ?_)
    · try simp only [decide_eq_true_eq, decide_eq_false_iff_not] at hc2
      refine c_reg ?_
      refine gL hf (g_mv hf rfl) (by decide) ?_; clear hf a; intro a hf
      refine gL hf (g_as hf rfl) (by decide) ?_; clear hf a; intro a hf
      refine e_nil ?_
      refine c_ret (q_blkR (q_thenR (q_thenR (q_blkR (q_thenR ?_)))))
      refine e_ret1 hf rfl rfl ?_
      exact ⟨by rw [indexZ_found (by omega) hp (by assumption)], hs.below⟩
    · try simp only [decide_eq_true_eq, decide_eq_false_iff_not] at hc2
      refine c_skip (q_blkN (q_thenN ?_))
      refine c_reg1 ?_
      refine gL hf (g_mv hf rfl) (by decide) ?_; clear hf a; intro a hf
      refine gL hf (g_addI hf rfl rfl (by omega)) (by decide) ?_; clear hf a; intro a hf
      refine gL hf (g_as hf rfl) (by decide) ?_; clear hf a; intro a hf
      refine e_nil1 (q_thenN ?_)
      exact ⟨k + 1, ⟨by omega, lt_succ hp (by assumption)⟩, (by omega), hf.back (by repeat (first | (with_reducible exact Ext.base) | ((with_reducible refine Ext.cons ?_ ?_); (· rfl)) | ((with_reducible refine Ext.over ?_ ?_ ?_); (· rfl); (· rfl)))) (allKeys rfl) (.cons rfl .nil), hs.dropN 0⟩
  · try simp only [decide_eq_true_eq, decide_eq_false_iff_not] at hc1
    refine c_exit (q_thenX (q_thenX (q_blkX (q_thenN ?_))))
    refine c_reg ?_
    refine gL hf (g_as hf rfl) (by decide) ?_; clear hf a; intro a hf
    refine e_nil ?_
    refine c_ret ?_
    refine e_ret1 hf rfl rfl ?_
    exact ⟨by rw [indexZ_none (fun j hj => hp j (by omega))], hs.below⟩

theorem c_IndexS (A : Option Addr) (n c : Nat) (l : List Rule) (v : Rule) (w0 : World) (h : Rd encR 2 A n l w0) :
    Calls Tryd.prog 123 #[.slice A n c, .agg #[.int .i64 v.over, .int .i64 v.under]] w0 (Ret w0 (.int .i64 (indexZ (fun x => v.over == x.over && v.under == x.under) l))) := by
  refine c_enter (n := 19) Tryd.func123 rfl rfl (Nat.le_of_ble_eq_true rfl) ?_; intro a hf; simp only [zipR] at hf
  have hs := St.start w0 [Rd encR 2 A n l] (by simpa using h.stable (by simp))
  have hn := h.1; have hm := h.2.1
  refine c_reg ?_
  refine vL hf (v_boxA hf hs rfl) (by decide) ?_; clear hs hf a; rintro _ w ⟨b1, rfl, hs⟩ a hf
  refine gL hf (g_as hf rfl) (by decide) ?_; clear hf a; intro a hf
  refine e_nil ?_
  refine wp_seq ?_
  refine c_reg ?_
  refine gL hf (g_mv hf rfl) (by decide) ?_; clear hf a; intro a hf
  refine gL hf (g_len hf SL23 rfl) (by decide) ?_; clear hf a; intro a hf
  refine gL hf (g_mv hf rfl) (by decide) ?_; clear hf a; intro a hf
  refine e_nil ?_
  refine c_block ?_
  refine c_loop hf hs [4, 5, 8, 9, 10, 11, 12, 13, 14, 15, 16, 17, 18] (σ := Nat) (fun k => [(8, .int .i64 (k : Nat))]) (fun k => _) (fun k => k ≤ n ∧ ∀ j, j < k → (v.over == ((l.getD j default)).over && v.under == ((l.getD j default)).under) = false) (fun k => n - k) 0 ⟨by omega, by omega⟩ (.cons rfl .nil) rfl ?_
  intro k a w hJ hf hs
  obtain ⟨hk, hp⟩ := hJ
  refine c_reg ?_
  refine gL hf (g_lss hf rfl rfl) (by decide) ?_; clear hf a; intro a hf
  refine e_nil ?_
  refine c_condS hf rfl (fun hc1 => ?_) (fun hc1 => ?_)
  · try simp only [decide_eq_true_eq, decide_eq_false_iff_not] at hc1
    refine c_skip (q_thenN ?_)
    refine c_blockS ?_
    refine c_reg ?_
    refine gL hf (g_mv hf rfl) (by decide) ?_; clear hf a; intro a hf
    refine gL hf (g_as hf rfl) (by decide) ?_; clear hf a; intro a hf
    refine e_nil ?_
    refine c_draw _ 6 Mx rfl hs (fun _ h => h) ?_; intro w hs hS
    refine gA hf hS (i := 0) rfl (by kernel_rfl) (fun w hs => g_ldW hf hs T51 rfl (k := 0) rfl rfl) (by decide) ?_; clear hf a; intro a hf
    refine gA hf hS (i := 1) rfl (by kernel_rfl) (fun w hs => g_mv hf rfl) (by decide) ?_; clear hf a; intro a hf
    refine gA hf hS (i := 2) rfl (by kernel_rfl) (fun w hs => g_mv hf rfl) (by decide) ?_; clear hf a; intro a hf
    (first | (refine gA hf hS (i := 3) rfl (by kernel_rfl) (fun w hs => g_ixE hf hs (.head _) SL23 rfl rfl (by omega)) (by decide) ?_) | (refine gA hf hS (i := 3) rfl (by kernel_rfl) (fun w hs => g_ixD hf hs (.head _) SL23 rfl rfl (by omega)) (by decide) ?_)); clear hf a; intro a hf
    refine gA hf hS (i := 4) rfl (by kernel_rfl) (fun w hs => g_ldEW hf hs (.head _) T51 rfl rfl (by omega)) (by decide) ?_; clear hf a; intro a hf
    refine gA hf hS (i := 5) rfl (by kernel_rfl) (fun w hs => g_eqS hf Q51 rfl rfl) (by decide) ?_; clear hf a; intro a hf
    refine e_done (by kernel_rfl) ?_
    refine c_cond hf rfl (fun hc2 => ?_) (fun hc2 => ?_)
    · try simp only [decide_eq_true_eq, decide_eq_false_iff_not] at hc2
      refine c_reg ?_
      refine gL hf (g_mv hf rfl) (by decide) ?_; clear hf a; intro a hf
      refine gL hf (g_as hf rfl) (by decide) ?_; clear hf a; intro a hf
      refine e_nil ?_
      refine c_ret (q_blkR (q_thenR (q_thenR (q_blkR (q_thenR ?_)))))
      refine e_ret1 hf rfl rfl ?_
      exact ⟨by rw [indexZ_found (by omega) hp (by assumption)], hs.below⟩
    · try simp only [decide_eq_true_eq, decide_eq_false_iff_not] at hc2
      refine c_skip (q_blkN (q_thenN ?_))
      refine c_reg1 ?_
      refine gL hf (g_addI hf rfl rfl (by omega)) (by decide) ?_; clear hf a; intro a hf
      refine gL hf (g_mv hf rfl) (by decide) ?_; clear hf a; intro a hf
      refine e_nil1 (q_thenN ?_)
      exact ⟨k + 1, ⟨by omega, lt_succ hp (by assumption)⟩, (by omega), hf.back (by repeat (first | (with_reducible exact Ext.base) | ((with_reducible refine Ext.cons ?_ ?_); (· rfl)) | ((with_reducible refine Ext.over ?_ ?_ ?_); (· rfl); (· rfl)))) (allKeys rfl) (.cons rfl .nil), hs.dropN 0⟩
  · try simp only [decide_eq_true_eq, decide_eq_false_iff_not] at hc1
    refine c_exit (q_thenX (q_thenX (q_blkX (q_thenN ?_))))
    refine c_reg ?_
    refine gL hf (g_as hf rfl) (by decide) ?_; clear hf a; intro a hf
    refine e_nil ?_
    refine c_ret ?_
    refine e_ret1 hf rfl rfl ?_
    exact ⟨by rw [indexZ_none (fun j hj => hp j (by omega))], hs.below⟩

end Go.Proofs.YtjjcopeedcdokaaDoor

set_option linter.unusedVariables false
set_option linter.unusedSimpArgs false
namespace Go.Proofs.YtjjcopeedcdokaaDoor
open Go.RowKit
theorem c_ContainsS (A : Option Addr) (n c : Nat) (l : List Rule) (v : Rule) (w0 : World) (h : Rd encR 2 A n l w0) :
    Calls Tryd.prog 101 #[.slice A n c, .agg #[.int .i64 v.over, .int .i64 v.under]] w0 (Ret w0 (.bool (l.any fun x => sameR v x))) := by
  refine c_enter (n := 9) Tryd.func101 rfl rfl (Nat.le_of_ble_eq_true rfl) ?_; intro a hf; simp only [zipR] at hf
  have hs := St.start w0 [Rd encR 2 A n l] h.st1
  refine c_reg ?_
  refine vL hf (v_boxA hf hs rfl) (by decide) ?_; clear hs hf a; rintro _ w ⟨b1, rfl, hs⟩ a hf
  refine gL hf (g_as hf rfl) (by decide) ?_; clear hf a; intro a hf
  refine e_nil ?_
  refine c_reg ?_
  refine gL hf (g_mv hf rfl) (by decide) ?_; clear hf a; intro a hf
  refine gL hf (g_ldW hf hs T51 rfl (k := 0) rfl rfl) (by decide) ?_; clear hf a; intro a hf
  refine callL hf hs (c_IndexS _ _ _ _ v _ (hs.rd (.head _))) rfl rfl rfl E123 (by decide) ?_; clear hs hf a; intro w a hs hf
  refine gL hf (g_geq hf rfl rfl) (by decide) ?_; clear hf a; intro a hf
  refine gL hf (g_as hf rfl) (by decide) ?_; clear hf a; intro a hf
  refine e_nil ?_
  refine c_ret ?_
  refine e_ret1 hf rfl rfl ?_
  exact ⟨by rw [indexZ_ge]; rfl, hs.below⟩

end Go.Proofs.YtjjcopeedcdokaaDoor

set_option linter.unusedVariables false
set_option linter.unusedSimpArgs false
namespace Go.Proofs.YtjjcopeedcdokaaDoor
open Go.RowKit
end Go.Proofs.YtjjcopeedcdokaaDoor

set_option linter.unusedVariables false
set_option linter.unusedSimpArgs false
namespace Go.Proofs.YtjjcopeedcdokaaDoor
open Go.RowKit
theorem c_Alike (Ax : Option Addr) (cx : Nat) (x : List Int) (Ay : Option Addr) (cy : Nat) (y : List Int)  (w0 : World) (hx : Rd encI 1 Ax x.length x w0) (hy : Rd encI 1 Ay y.length y w0) :
    Calls Tryd.prog 44 #[.slice Ax x.length cx, .slice Ay y.length cy] w0 (Ret w0 (.bool (decide (x = y)))) := by
  refine c_enter (n := 26) Tryd.func44 rfl rfl (Nat.le_of_ble_eq_true rfl) ?_; intro a hf; simp only [zipR] at hf
  have hs := St.start w0 [Rd encI 1 Ax x.length x, Rd encI 1 Ay y.length y] (stab_app hx.st1 hy.st1)
  have hmx := hx.2.1
  have hmy := hy.2.1
  refine c_reg ?_
  refine gL hf (g_as hf rfl) (by decide) ?_; clear hf a; intro a hf
  refine e_nil ?_
  refine wp_seq ?_
  refine c_reg ?_
  refine gL hf (g_mv hf rfl) (by decide) ?_; clear hf a; intro a hf
  refine gL hf (g_len hf SL31 rfl) (by decide) ?_; clear hf a; intro a hf
  refine gL hf (g_mv hf rfl) (by decide) ?_; clear hf a; intro a hf
  refine gL hf (g_len hf SL31 rfl) (by decide) ?_; clear hf a; intro a hf
  refine gL hf (g_neq hf rfl rfl) (by decide) ?_; clear hf a; intro a hf
  refine e_nil ?_
  refine c_cond hf rfl (fun hc1 => ?_) (fun hc1 => ?_)
  · try simp only [decide_eq_true_eq, decide_eq_false_iff_not] at hc1
    refine c_reg ?_
    refine gL hf (g_as hf rfl) (by decide) ?_; clear hf a; intro a hf
    refine e_nil ?_
    refine c_ret (q_thenR ?_)
    refine e_ret1 hf rfl rfl ?_
    exact ⟨by rw [decide_eq_false]; intro e; subst e; simp at hc1, hs.below⟩
  · try simp only [decide_eq_true_eq, decide_eq_false_iff_not] at hc1
    have he : x.length = y.length := by simp at hc1; omega
    refine c_skip (q_thenN ?_)
    refine wp_seq ?_
    refine c_reg ?_
    refine gL hf (g_as hf rfl) (by decide) ?_; clear hf a; intro a hf
    refine e_nil ?_
    refine c_block ?_
    refine c_loop hf hs [4, 5, 11, 12, 13, 14, 15, 16, 17, 18, 19, 20, 21, 22, 23, 24, 25] (σ := Nat) (fun k => [(5, .int .i64 (k : Nat))]) (fun k => _) (fun k => k ≤ x.length ∧ ∀ j, j < k → x.getD j default = y.getD j default) (fun k => x.length - k) 0 ⟨by omega, fun z hz => absurd hz (by omega)⟩ (.cons rfl .nil) rfl ?_
    intro k a w hJ hf hs
    obtain ⟨hk, hp⟩ := hJ
    refine wp_seq ?_
    refine c_reg ?_
    refine gL hf (g_mv hf rfl) (by decide) ?_; clear hf a; intro a hf
    refine gL hf (g_mv hf rfl) (by decide) ?_; clear hf a; intro a hf
    refine gL hf (g_len hf SL31 rfl) (by decide) ?_; clear hf a; intro a hf
    refine gL hf (g_lss hf rfl rfl) (by decide) ?_; clear hf a; intro a hf
    refine e_nil ?_
    refine c_cond hf rfl (fun hc2 => ?_) (fun hc2 => ?_)
    · try simp only [decide_eq_true_eq, decide_eq_false_iff_not] at hc2
      refine c_skip (q_thenN ?_)
      refine c_blockS ?_
      refine c_draw _ 9 Mx rfl hs (fun _ h => h) ?_; intro w hs hS
      refine gA hf hS (i := 0) rfl (by kernel_rfl) (fun w hs => g_mv hf rfl) (by decide) ?_; clear hf a; intro a hf
      refine gA hf hS (i := 1) rfl (by kernel_rfl) (fun w hs => g_mv hf rfl) (by decide) ?_; clear hf a; intro a hf
      (first | (refine gA hf hS (i := 2) rfl (by kernel_rfl) (fun w hs => g_ixE hf hs (.head _) SL31 rfl rfl (by omega)) (by decide) ?_) | (refine gA hf hS (i := 2) rfl (by kernel_rfl) (fun w hs => g_ixD hf hs (.head _) SL31 rfl rfl (by omega)) (by decide) ?_)); clear hf a; intro a hf
      refine gA hf hS (i := 3) rfl (by kernel_rfl) (fun w hs => g_ldE hf hs (.head _) T3 rfl rfl (by omega)) (by decide) ?_; clear hf a; intro a hf
      refine gA hf hS (i := 4) rfl (by kernel_rfl) (fun w hs => g_mv hf rfl) (by decide) ?_; clear hf a; intro a hf
      refine gA hf hS (i := 5) rfl (by kernel_rfl) (fun w hs => g_mv hf rfl) (by decide) ?_; clear hf a; intro a hf
      (first | (refine gA hf hS (i := 6) rfl (by kernel_rfl) (fun w hs => g_ixE hf hs (.tail _ (.head _)) SL31 rfl rfl (by omega)) (by decide) ?_) | (refine gA hf hS (i := 6) rfl (by kernel_rfl) (fun w hs => g_ixD hf hs (.tail _ (.head _)) SL31 rfl rfl (by omega)) (by decide) ?_)); clear hf a; intro a hf
      refine gA hf hS (i := 7) rfl (by kernel_rfl) (fun w hs => g_ldE hf hs (.tail _ (.head _)) T3 rfl rfl (by omega)) (by decide) ?_; clear hf a; intro a hf
      refine gA hf hS (i := 8) rfl (by kernel_rfl) (fun w hs => g_neq hf rfl rfl) (by decide) ?_; clear hf a; intro a hf
      refine e_done (by kernel_rfl) ?_
      refine c_cond hf rfl (fun hc3 => ?_) (fun hc3 => ?_)
      · try simp only [decide_eq_true_eq, decide_eq_false_iff_not] at hc3
        refine c_reg ?_
        refine gL hf (g_as hf rfl) (by decide) ?_; clear hf a; intro a hf
        refine e_nil ?_
        refine c_ret (q_blkR (q_thenR (q_thenR (q_blkR (q_thenR ?_)))))
        refine e_ret1 hf rfl rfl ?_
        exact ⟨by rw [decide_eq_false]; intro e; subst e; simp at hc3, hs.below⟩
      · try simp only [decide_eq_true_eq, decide_eq_false_iff_not] at hc3
        refine c_skip (q_blkN (q_thenN ?_))
        refine c_reg1 ?_
        refine gL hf (g_mv hf rfl) (by decide) ?_; clear hf a; intro a hf
        refine gL hf (g_addI hf rfl rfl (by omega)) (by decide) ?_; clear hf a; intro a hf
        refine gL hf (g_as hf rfl) (by decide) ?_; clear hf a; intro a hf
        refine e_nil1 (q_thenN ?_)
        exact ⟨k + 1, ⟨by omega, lt_succ hp (by simpa using hc3)⟩, (by omega), hf.back (by repeat (first | (with_reducible exact Ext.base) | ((with_reducible refine Ext.cons ?_ ?_); (· rfl)) | ((with_reducible refine Ext.over ?_ ?_ ?_); (· rfl); (· rfl)))) (allKeys rfl) (.cons rfl .nil), hs.dropN 0⟩
    · try simp only [decide_eq_true_eq, decide_eq_false_iff_not] at hc2
      refine c_exit (q_thenX (q_thenX (q_blkX (q_thenN ?_))))
      refine c_reg ?_
      refine gL hf (g_as hf rfl) (by decide) ?_; clear hf a; intro a hf
      refine e_nil ?_
      refine c_ret ?_
      refine e_ret1 hf rfl rfl ?_
      exact ⟨by rw [decide_eq_true (list_eq_of_getD he fun j hj => hp j (by omega))], hs.below⟩

theorem c_Grows (Ax : Option Addr) (cx : Nat) (x : List Int) (n : Int) (hn : 0 ≤ n ∧ n ≤ 99) (w0 : World) (hx : Rd encI 1 Ax x.length x w0) :
    Calls Tryd.prog 29 #[.slice Ax x.length cx, .int .i64 n] w0 (Ret w0 (.bool (growsB x n))) := by
  refine c_enter (n := 36) Tryd.func29 rfl rfl (Nat.le_of_ble_eq_true rfl) ?_; intro a hf; simp only [zipR] at hf
  have hs := St.start w0 [Rd encI 1 Ax x.length x] hx.st1
  have hmx := hx.2.1
  refine c_reg ?_
  refine gL hf (g_as hf rfl) (by decide) ?_; clear hf a; intro a hf
  refine e_nil ?_
  refine wp_seq ?_
  refine c_reg ?_
  refine gL hf (g_as hf rfl) (by decide) ?_; clear hf a; intro a hf
  refine e_nil ?_
  refine c_block ?_
  refine c_loop hf hs (List.range' 4 32) (σ := Nat) (fun k => [(5, .int .i64 (k : Nat))]) (fun k => _) (fun k => k ≤ x.length ∧ ∀ j, j < k → growsAt x n j = true) (fun k => x.length - k) 0 ⟨by omega, fun z hz => absurd hz (by omega)⟩ (.cons rfl .nil) rfl ?_
  intro k a w hJ hf hs
  obtain ⟨hk, hp⟩ := hJ
  refine wp_seq ?_
  refine c_reg ?_
  refine gL hf (g_mv hf rfl) (by decide) ?_; clear hf a; intro a hf
  refine gL hf (g_mv hf rfl) (by decide) ?_; clear hf a; intro a hf
  refine gL hf (g_len hf SL31 rfl) (by decide) ?_; clear hf a; intro a hf
  refine gL hf (g_lss hf rfl rfl) (by decide) ?_; clear hf a; intro a hf
  refine e_nil ?_
  refine c_cond hf rfl (fun hc1 => ?_) (fun hc1 => ?_)
  · try simp only [decide_eq_true_eq, decide_eq_false_iff_not] at hc1
    refine c_skip (q_thenN ?_)
    refine c_blockS ?_
    refine c_draw _ 24 Mx rfl hs (fun _ h => h) ?_; intro w hs hS
    refine gA hf hS (i := 0) rfl (by kernel_rfl) (fun w hs => g_mv hf rfl) (by decide) ?_; clear hf a; intro a hf
    refine gA hf hS (i := 1) rfl (by kernel_rfl) (fun w hs => g_mv hf rfl) (by decide) ?_; clear hf a; intro a hf
    (first | (refine gA hf hS (i := 2) rfl (by kernel_rfl) (fun w hs => g_ixE hf hs (.head _) SL31 rfl rfl (by omega)) (by decide) ?_) | (refine gA hf hS (i := 2) rfl (by kernel_rfl) (fun w hs => g_ixD hf hs (.head _) SL31 rfl rfl (by omega)) (by decide) ?_)); clear hf a; intro a hf
    refine gA hf hS (i := 3) rfl (by kernel_rfl) (fun w hs => g_ldE hf hs (.head _) T3 rfl rfl (by omega)) (by decide) ?_; clear hf a; intro a hf
    refine gA hf hS (i := 4) rfl (by kernel_rfl) (fun w hs => g_mv hf rfl) (by decide) ?_; clear hf a; intro a hf
    refine gA hf hS (i := 5) rfl (by kernel_rfl) (fun w hs => g_subI hf rfl rfl (by omega)) (by decide) ?_; clear hf a; intro a hf
    refine one (i := 6) (by kernel_rfl) ?_
    refine oCall hf hs rfl (c_Fits _ _ _ _) rfl rfl rfl E26 (by decide) (fun _ h => h.sub (.refl _)) ?_; clear hs hf hS a; intro w a hs hS hf
    refine gA hf hS (i := 7) rfl (by kernel_rfl) (fun w hs => g_not hf rfl) (by decide) ?_; clear hf a; intro a hf
    refine gA hf hS (i := 8) rfl (by kernel_rfl) (fun w hs => g_mv hf rfl) (by decide) ?_; clear hf a; intro a hf
    refine ggA hf hS (i := 9) rfl (by kernel_rfl) rfl rfl (gyes_f _) (fun hg w hs => g_mv hf rfl) (by decide) ?_; clear hf a; intro a hf
    refine ggA hf hS (i := 10) rfl (by kernel_rfl) rfl rfl (gyes_f _) (fun hg w hs => g_gtr hf (ev_gv rfl hg) rfl) (by decide) ?_; clear hf a; intro a hf
    refine ggA hf hS (i := 11) rfl (by kernel_rfl) rfl rfl (gyes_f _) (fun hg w hs => g_mv hf (ev_gv rfl hg)) (by decide) ?_; clear hf a; intro a hf
    refine ggA hf hS (i := 12) rfl (by kernel_rfl) rfl rfl (gyes_gt _ _) (fun hg w hs => g_mv hf rfl) (by decide) ?_; clear hf a; intro a hf
    refine ggA hf hS (i := 13) rfl (by kernel_rfl) rfl rfl (gyes_gt _ _) (fun hg w hs => g_mv hf rfl) (by decide) ?_; clear hf a; intro a hf
    (first | (refine ggA hf hS (i := 14) rfl (by kernel_rfl) rfl rfl (gyes_gt _ _) (fun hg w hs => g_ixE hf hs (.head _) SL31 (ev_gv rfl hg) (ev_gv rfl hg) (by omega)) (by decide) ?_) | (refine ggA hf hS (i := 14) rfl (by kernel_rfl) rfl rfl (gyes_gt _ _) (fun hg w hs => g_ixD hf hs (.head _) SL31 (ev_gv rfl hg) (ev_gv rfl hg) (by omega)) (by decide) ?_)); clear hf a; intro a hf
    refine ggA hf hS (i := 15) rfl (by kernel_rfl) rfl rfl (gyes_gt _ _) (fun hg w hs => g_ldE hf hs (.head _) T3 (ev_gv rfl hg) rfl (by omega)) (by decide) ?_; clear hf a; intro a hf
    refine ggA hf hS (i := 16) rfl (by kernel_rfl) rfl rfl (gyes_gt _ _) (fun hg w hs => g_mv hf rfl) (by decide) ?_; clear hf a; intro a hf
    refine ggA hf hS (i := 17) rfl (by kernel_rfl) rfl rfl (gyes_gt _ _) (fun hg w hs => g_mv hf rfl) (by decide) ?_; clear hf a; intro a hf
    refine ggA hf hS (i := 18) rfl (by kernel_rfl) rfl rfl (gyes_gt _ _) (fun hg w hs => g_subI hf (ev_gv rfl hg) rfl (by have h8 := and_r hg; simp only [decide_eq_true_eq] at h8; omega)) (by decide) ?_; clear hf a; intro a hf
    (first | (refine ggA hf hS (i := 19) rfl (by kernel_rfl) rfl rfl (gyes_gt _ _) (fun hg w hs => g_ixE hf hs (.head _) SL31 (ev_gv rfl hg) (ev_gv rfl hg) (by have h8 := and_r hg; simp only [decide_eq_true_eq] at h8; omega)) (by decide) ?_) | (refine ggA hf hS (i := 19) rfl (by kernel_rfl) rfl rfl (gyes_gt _ _) (fun hg w hs => g_ixD hf hs (.head _) SL31 (ev_gv rfl hg) (ev_gv rfl hg) (by have h8 := and_r hg; simp only [decide_eq_true_eq] at h8; omega)) (by decide) ?_)); clear hf a; intro a hf
    refine ggA hf hS (i := 20) rfl (by kernel_rfl) rfl rfl (gyes_gt _ _) (fun hg w hs => g_ldE hf hs (.head _) T3 (ev_gv rfl hg) rfl (by omega)) (by decide) ?_; clear hf a; intro a hf
    refine ggA hf hS (i := 21) rfl (by kernel_rfl) rfl rfl (gyes_gt _ _) (fun hg w hs => g_leq hf (ev_gv rfl hg) (ev_gv rfl hg)) (by decide) ?_; clear hf a; intro a hf
    refine ggA hf hS (i := 22) rfl (by kernel_rfl) rfl rfl (gyes_f _) (fun hg w hs => g_and hf (ev_gv rfl hg) (ev_gvand rfl hg)) (by decide) ?_; clear hf a; intro a hf
    refine gA hf hS (i := 23) rfl (by kernel_rfl) (fun w hs => g_or hf rfl rfl) (by decide) ?_; clear hf a; intro a hf
    refine e_done (by kernel_rfl) ?_
    refine c_cond hf rfl (fun hc2 => ?_) (fun hc2 => ?_)
    · skip
      rw [growsAt_eq] at hc2
      refine c_reg ?_
      refine gL hf (g_as hf rfl) (by decide) ?_; clear hf a; intro a hf
      refine e_nil ?_
      refine c_ret (q_blkR (q_thenR (q_thenR (q_blkR (q_thenR ?_)))))
      refine e_ret1 hf rfl rfl ?_
      exact ⟨by rw [grows_no (i := k) (by omega) (by simpa using hc2)], hs.below⟩
    · skip
      rw [growsAt_eq] at hc2
      refine c_skip (q_blkN (q_thenN ?_))
      refine c_reg1 ?_
      refine gL hf (g_mv hf rfl) (by decide) ?_; clear hf a; intro a hf
      refine gL hf (g_addI hf rfl rfl (by omega)) (by decide) ?_; clear hf a; intro a hf
      refine gL hf (g_as hf rfl) (by decide) ?_; clear hf a; intro a hf
      refine e_nil1 (q_thenN ?_)
      exact ⟨k + 1, ⟨by omega, lt_succ hp (by simpa using hc2)⟩, (by omega), hf.back (by repeat (first | (with_reducible exact Ext.base) | ((with_reducible refine Ext.cons ?_ ?_); (· rfl)) | ((with_reducible refine Ext.over ?_ ?_ ?_); (· rfl); (· rfl)))) (allKeys rfl) (.cons rfl .nil), hs.dropN 0⟩
  · try simp only [decide_eq_true_eq, decide_eq_false_iff_not] at hc1
    refine c_exit (q_thenX (q_thenX (q_blkX (q_thenN ?_))))
    refine c_reg ?_
    refine gL hf (g_as hf rfl) (by decide) ?_; clear hf a; intro a hf
    refine e_nil ?_
    refine c_ret ?_
    refine e_ret1 hf rfl rfl ?_
    exact ⟨by rw [grows_yes (fun i hi => hp i (by omega))], hs.below⟩

theorem c_Drawn (lo hi n : Int) (hr : -1000 ≤ lo ∧ lo ≤ hi ∧ hi ≤ 1000) (w0 : World) :
    Calls Tryd.prog 53 #[.agg #[.int .i64 lo, .int .i64 hi], .int .i64 n] w0 (Ret w0 (.int .i64 (drawnZ lo hi n))) := by
  refine c_enter (n := 16) Tryd.func53 rfl rfl (Nat.le_of_ble_eq_true rfl) ?_; intro a hf; simp only [zipR] at hf
  have hs := St.start w0 [] (by simp)
  have hd := spin_range n (hi - lo + 1) (by omega)
  refine c_reg ?_
  refine vL hf (v_boxA hf hs rfl) (by decide) ?_; clear hs hf a; rintro _ w ⟨b1, rfl, hs⟩ a hf
  refine gL hf (g_as hf rfl) (by decide) ?_; clear hf a; intro a hf
  refine e_nil ?_
  refine c_draw _ 12 Mx rfl hs (fun _ h => h) ?_; intro w hs hS
  refine gA hf hS (i := 0) rfl (by kernel_rfl) (fun w hs => g_fa (off' := 0) hf F40_0 rfl rfl) (by decide) ?_; clear hf a; intro a hf
  refine gA hf hS (i := 1) rfl (by kernel_rfl) (fun w hs => g_ld hf hs T3 rfl (k := 0) rfl rfl) (by decide) ?_; clear hf a; intro a hf
  refine gA hf hS (i := 2) rfl (by kernel_rfl) (fun w hs => g_mv hf rfl) (by decide) ?_; clear hf a; intro a hf
  refine gA hf hS (i := 3) rfl (by kernel_rfl) (fun w hs => g_fa (off' := 1) hf F40_1 rfl rfl) (by decide) ?_; clear hf a; intro a hf
  refine gA hf hS (i := 4) rfl (by kernel_rfl) (fun w hs => g_ld hf hs T3 rfl (k := 0) rfl rfl) (by decide) ?_; clear hf a; intro a hf
  refine gA hf hS (i := 5) rfl (by kernel_rfl) (fun w hs => g_fa (off' := 0) hf F40_0 rfl rfl) (by decide) ?_; clear hf a; intro a hf
  refine gA hf hS (i := 6) rfl (by kernel_rfl) (fun w hs => g_ld hf hs T3 rfl (k := 0) rfl rfl) (by decide) ?_; clear hf a; intro a hf
  refine gA hf hS (i := 7) rfl (by kernel_rfl) (fun w hs => g_subI hf rfl rfl (by omega)) (by decide) ?_; clear hf a; intro a hf
  refine gA hf hS (i := 8) rfl (by kernel_rfl) (fun w hs => g_addI hf rfl rfl (by omega)) (by decide) ?_; clear hf a; intro a hf
  refine one (i := 9) (by kernel_rfl) ?_
  refine oCall hf hs rfl (c_Spin _ _ (by omega) _) rfl rfl rfl E22 (by decide) (fun _ h => h.sub (.refl _)) ?_; clear hs hf hS a; intro w a hs hS hf
  refine gA hf hS (i := 10) rfl (by kernel_rfl) (fun w hs => g_addI hf rfl rfl (by omega)) (by decide) ?_; clear hf a; intro a hf
  refine gA hf hS (i := 11) rfl (by kernel_rfl) (fun w hs => g_as hf rfl) (by decide) ?_; clear hf a; intro a hf
  refine e_done (by kernel_rfl) ?_
  refine c_ret ?_
  refine e_ret1 hf rfl rfl ?_
  exact ⟨rfl, hs.below⟩

end Go.Proofs.YtjjcopeedcdokaaDoor

set_option linter.unusedVariables false
set_option linter.unusedSimpArgs false
namespace Go.Proofs.YtjjcopeedcdokaaDoor
open Go.RowKit
theorem c_greatest (Ax : Option Addr) (cx : Nat) (x : List Int) (v : Int) (w0 : World) (hx : Rd encI 1 Ax x.length x w0) :
    Calls Tryd.prog 97 #[.int .i64 v, .slice Ax x.length cx] w0 (Ret w0 (.int .i64 (maxL v x))) := by
  refine c_enter (n := 18) Tryd.func97 rfl rfl (Nat.le_of_ble_eq_true rfl) ?_; intro a hf; simp only [zipR] at hf
  have hs := St.start w0 [Rd encI 1 Ax x.length x] hx.st1
  have hmx := hx.2.1
  refine c_reg ?_
  refine gL hf (g_as hf rfl) (by decide) ?_; clear hf a; intro a hf
  refine e_nil ?_
  refine wp_seq ?_
  refine c_reg ?_
  refine gL hf (g_mv hf rfl) (by decide) ?_; clear hf a; intro a hf
  refine gL hf (g_len hf SL31 rfl) (by decide) ?_; clear hf a; intro a hf
  refine gL hf (g_mv hf rfl) (by decide) ?_; clear hf a; intro a hf
  refine e_nil ?_
  refine c_block ?_
  refine c_loop hf hs [0, 6, 9, 10, 11, 12, 13, 14, 15, 16] (σ := Nat) (fun k => [(0, .int .i64 (maxL v (x.take k))), (9, .int .i64 (k : Nat))]) (fun k => _) (fun k => k ≤ x.length) (fun k => x.length - k) 0 (by omega) (.cons rfl (.cons rfl .nil)) rfl ?_
  intro k a w hJ hf hs
  refine c_reg ?_
  refine gL hf (g_lss hf rfl rfl) (by decide) ?_; clear hf a; intro a hf
  refine e_nil ?_
  refine c_condS hf rfl (fun hc1 => ?_) (fun hc1 => ?_)
  · try simp only [decide_eq_true_eq, decide_eq_false_iff_not] at hc1
    refine c_skip (q_thenN ?_)
    refine c_blockS ?_
    refine c_reg ?_
    (first | (refine gL hf (g_ixE hf hs (.head _) SL31 rfl rfl (by omega)) (by decide) ?_) | (refine gL hf (g_ixD hf hs (.head _) SL31 rfl rfl (by omega)) (by decide) ?_)); clear hf a; intro a hf
    refine gL hf (g_ldE hf hs (.head _) T3 rfl rfl (by omega)) (by decide) ?_; clear hf a; intro a hf
    refine gL hf (g_as hf rfl) (by decide) ?_; clear hf a; intro a hf
    refine e_nil ?_
    refine c_reg1 ?_
    refine gL hf (g_mv hf rfl) (by decide) ?_; clear hf a; intro a hf
    refine gL hf (g_mv hf rfl) (by decide) ?_; clear hf a; intro a hf
    refine gL hf (g_max hf rfl rfl) (by decide) ?_; clear hf a; intro a hf
    refine gL hf (g_as hf rfl) (by decide) ?_; clear hf a; intro a hf
    refine e_nil1 (q_blkN (q_thenN ?_))
    refine c_reg1 ?_
    refine gL hf (g_addI hf rfl rfl (by omega)) (by decide) ?_; clear hf a; intro a hf
    refine gL hf (g_mv hf rfl) (by decide) ?_; clear hf a; intro a hf
    refine e_nil1 (q_thenN ?_)
    rw [← maxL_take (by omega)] at hf
    exact ⟨k + 1, (by omega), (by omega), hf.back (by repeat (first | (with_reducible exact Ext.base) | ((with_reducible refine Ext.cons ?_ ?_); (· rfl)) | ((with_reducible refine Ext.over ?_ ?_ ?_); (· rfl); (· rfl)))) (allKeys rfl) (.cons rfl (.cons rfl .nil)), hs.dropN 0⟩
  · try simp only [decide_eq_true_eq, decide_eq_false_iff_not] at hc1
    refine c_exit (q_thenX (q_thenX (q_blkX (q_thenN ?_))))
    refine c_reg ?_
    refine gL hf (g_mv hf rfl) (by decide) ?_; clear hf a; intro a hf
    refine gL hf (g_as hf rfl) (by decide) ?_; clear hf a; intro a hf
    refine e_nil ?_
    refine c_ret ?_
    refine e_ret1 hf rfl rfl ?_
    exact ⟨by rw [List.take_of_length_le (by omega)], hs.below⟩

theorem c_stopped (b : Sheet) (fA : Option Addr) (fc : Nat) (rA : Option Addr) (rc : Nat) (mb : Nat) (mp : MP) (d : List Bool) (i : Int) (hv : Valid b) (hd : d.length = 7) (w0 : World) (h : ShIn b fA fc rA rc w0) (hM : MapIs mb mp w0) :
    Calls Tryd.prog 106 #[.agg #[.int .i64 b.wide, .int .i64 b.high, .slice fA b.flaps.length fc, .slice rA b.rules.length rc, .map (some mb)], .agg (dnA d), .int .i64 i] w0 (Ret w0 (.bool (stopB b mp d i))) := by
  refine c_enter (n := 40) Tryd.func106 rfl rfl (Nat.le_of_ble_eq_true rfl) ?_; intro a hf; simp only [zipR] at hf
  have hs := St.start w0 [Rd encF 5 fA b.flaps.length b.flaps, Rd encR 2 rA b.rules.length b.rules, MapIs mb mp] (stab_app h.stab hM.st1)
  have hfm := h.F.2.1; have hrm := h.R.2.1
  refine c_reg ?_
  refine vL hf (v_boxA hf hs rfl) (by decide) ?_; clear hs hf a; rintro _ w ⟨b1, rfl, hs⟩ a hf
  refine vL hf (v_boxA hf hs rfl) (by decide) ?_; clear hs hf a; rintro _ w ⟨b2, rfl, hs⟩ a hf
  refine gL hf (g_as hf rfl) (by decide) ?_; clear hf a; intro a hf
  refine e_nil ?_
  refine wp_seq ?_
  refine c_reg ?_
  refine gL hf (g_fa (off' := 0) hf F80_0 rfl rfl) (by decide) ?_; clear hf a; intro a hf
  refine gL hf (g_fa (off' := 3) hf F25_3 rfl rfl) (by decide) ?_; clear hf a; intro a hf
  refine gL hf (g_ld hf hs T23 rfl (k := 1) rfl rfl) (by decide) ?_; clear hf a; intro a hf
  refine gL hf (g_len hf SL23 rfl) (by decide) ?_; clear hf a; intro a hf
  refine gL hf (g_mv hf rfl) (by decide) ?_; clear hf a; intro a hf
  refine e_nil ?_
  refine c_block ?_
  refine c_loop hf hs (List.range' 6 1 ++ List.range' 8 1 ++ List.range' 13 27) (σ := Nat) (fun k => [(13, .int .i64 (k : Nat))]) (fun k => _) (fun k => k ≤ b.rules.length ∧ ∀ j, j < k → stopAt mp d i (b.rules.getD j default) = false) (fun k => b.rules.length - k) 0 ⟨by omega, fun z hz => absurd hz (by omega)⟩ (.cons rfl .nil) rfl ?_
  intro k a w hJ hf hs
  obtain ⟨hk, hp⟩ := hJ
  refine c_reg ?_
  refine gL hf (g_lss hf rfl rfl) (by decide) ?_; clear hf a; intro a hf
  refine e_nil ?_
  refine c_condS hf rfl (fun hc1 => ?_) (fun hc1 => ?_)
  · try simp only [decide_eq_true_eq, decide_eq_false_iff_not] at hc1
    have hr := hv.rule _ (getD_mem (l := b.rules) (i := k) (by omega)); have hmany := hv.many
    refine c_skip (q_thenN ?_)
    refine c_blockS ?_
    refine c_reg ?_
    (first | (refine gL hf (g_ixE hf hs (.tail _ (.head _)) SL23 rfl rfl (by omega)) (by decide) ?_) | (refine gL hf (g_ixD hf hs (.tail _ (.head _)) SL23 rfl rfl (by omega)) (by decide) ?_)); clear hf a; intro a hf
    refine gL hf (g_ldEW hf hs (.tail _ (.head _)) T51 rfl rfl (by omega)) (by decide) ?_; clear hf a; intro a hf
    refine vL hf (v_alloc hs T51 rfl) (by decide) ?_; clear hs hf a; rintro _ w ⟨b3, rfl, hs⟩ a hf
    refine uL (u_stW hf hs T51 rfl rfl rfl (k := 0) rfl rfl rfl) ?_; clear hs; intro w hs; dsimp only [List.set] at hs
    refine e_nil ?_
    refine c_reg ?_
    refine gL hf (g_fa (off' := 0) hf F51_0 rfl rfl) (by decide) ?_; clear hf a; intro a hf
    refine gL hf (g_ld hf hs T3 rfl (k := 0) rfl rfl) (by decide) ?_; clear hf a; intro a hf
    refine gL hf (g_mv hf rfl) (by decide) ?_; clear hf a; intro a hf
    refine gL hf (g_eql hf rfl rfl) (by decide) ?_; clear hf a; intro a hf
    refine gL hf (g_mv hf rfl) (by decide) ?_; clear hf a; intro a hf
    refine ggL hf rfl rfl (gyes_t _) (fun hg => g_fa (off' := 4) hf F80_1 rfl rfl) (by decide) ?_; clear hf a; intro a hf
    refine ggL hf rfl rfl (gyes_t _) (fun hg => g_ld hf hs T78 (ev_gv rfl hg) (k := 2) rfl rfl) (by decide) ?_; clear hf a; intro a hf
    refine ggL hf rfl rfl (gyes_t _) (fun hg => g_fa (off' := 0) hf F51_0 rfl rfl) (by decide) ?_; clear hf a; intro a hf
    refine ggL hf rfl rfl (gyes_t _) (fun hg => g_ld hf hs T3 (ev_gv rfl hg) (k := 0) rfl rfl) (by decide) ?_; clear hf a; intro a hf
    refine ggL hf rfl rfl (gyes_t _) (fun hg => g_fa (off' := 1) hf F51_1 rfl rfl) (by decide) ?_; clear hf a; intro a hf
    refine ggL hf rfl rfl (gyes_t _) (fun hg => g_ld hf hs T3 (ev_gv rfl hg) (k := 0) rfl rfl) (by decide) ?_; clear hf a; intro a hf
    refine ggL hf rfl rfl (gyes_t _) (fun hg => g_bld hf [[.int .i64 0], [.int .i64 0]] (.cons (ev_gv rfl hg) (.cons (ev_gv rfl hg) .nil)) (fun _ => by kernel_rfl)) (by decide) ?_; clear hf a; intro a hf
    refine ggL hf rfl rfl (gyes_t _) (fun hg => g_lookD hf hs (.tail _ (.tail _ (.head _))) MT78 (ev_gv rfl hg) (ev_gv rfl hg)) (by decide) ?_; clear hf a; intro a hf
    refine ggL hf rfl rfl (gyes_t _) (fun hg => g_gtr hf (ev_gv rfl hg) rfl) (by decide) ?_; clear hf a; intro a hf
    refine gL hf (g_and hf rfl rfl) (by decide) ?_; clear hf a; intro a hf
    refine gL hf (g_mv hf rfl) (by decide) ?_; clear hf a; intro a hf
    refine ggL hf rfl rfl (gyes_t _) (fun hg => g_fa (off' := 1) hf F51_1 rfl rfl) (by decide) ?_; clear hf a; intro a hf
    refine ggL hf rfl rfl (gyes_t _) (fun hg => g_ld hf hs T3 (ev_gv rfl hg) (k := 0) rfl rfl) (by decide) ?_; clear hf a; intro a hf
    refine ggL hf rfl rfl (gyes_t _) (fun hg => g_ixA hf AR126 rfl (ev_gv rfl hg) (by omega)) (by decide) ?_; clear hf a; intro a hf
    refine ggL hf rfl rfl (gyes_t _) (fun hg => g_ld hf hs T4 (ev_gv rfl hg) (k := 1) rfl (dn_get hd (by omega))) (by decide) ?_; clear hf a; intro a hf
    refine ggL hf rfl rfl (gyes_t _) (fun hg => g_not hf (ev_gv rfl hg)) (by decide) ?_; clear hf a; intro a hf
    refine gL hf (g_and hf rfl rfl) (by decide) ?_; clear hf a; intro a hf
    refine e_nil ?_
    refine c_cond hf rfl (fun hc2 => ?_) (fun hc2 => ?_)
    · skip
      refine c_reg ?_
      refine gL hf (g_as hf rfl) (by decide) ?_; clear hf a; intro a hf
      refine e_nil ?_
      refine c_ret (q_blkR (q_thenR (q_thenR (q_blkR (q_thenR ?_)))))
      refine e_ret1 hf rfl rfl ?_
      exact ⟨by rw [stop_yes (k := k) (by omega) hc2], hs.below⟩
    · skip
      refine c_skip (q_blkN (q_thenN ?_))
      refine c_reg1 ?_
      refine gL hf (g_addI hf rfl rfl (by omega)) (by decide) ?_; clear hf a; intro a hf
      refine gL hf (g_mv hf rfl) (by decide) ?_; clear hf a; intro a hf
      refine e_nil1 (q_thenN ?_)
      exact ⟨k + 1, ⟨by omega, lt_succ hp hc2⟩, (by omega), hf.back (by repeat (first | (with_reducible exact Ext.base) | ((with_reducible refine Ext.cons ?_ ?_); (· rfl)) | ((with_reducible refine Ext.over ?_ ?_ ?_); (· rfl); (· rfl)))) (allKeys rfl) (.cons rfl .nil), hs.dropN 1⟩
  · try simp only [decide_eq_true_eq, decide_eq_false_iff_not] at hc1
    refine c_exit (q_thenX (q_thenX (q_blkX (q_thenN ?_))))
    refine c_reg ?_
    refine gL hf (g_as hf rfl) (by decide) ?_; clear hf a; intro a hf
    refine e_nil ?_
    refine c_ret ?_
    refine e_ret1 hf rfl rfl ?_
    exact ⟨by rw [stop_no (fun j hj => hp j (by omega))], hs.below⟩

end Go.Proofs.YtjjcopeedcdokaaDoor

set_option linter.unusedVariables false
set_option linter.unusedSimpArgs false
namespace Go.Proofs.YtjjcopeedcdokaaDoor
open Go.RowKit
theorem c_Check (b : Sheet) (fA : Option Addr) (fc : Nat) (rA : Option Addr) (rc : Nat)  (w0 : World) (h : ShIn b fA fc rA rc w0) :
    Calls Tryd.prog 61 #[.agg #[.int .i64 b.wide, .int .i64 b.high, .slice fA b.flaps.length fc, .slice rA b.rules.length rc]] w0 (Ret w0 (.int .i64 (if checkB b then 0 else 40))) := by
  refine c_enter (n := 112) Tryd.func61 rfl rfl (Nat.le_of_ble_eq_true rfl) ?_; intro a hf; simp only [zipR] at hf
  have hs := St.start w0 [Rd encF 5 fA b.flaps.length b.flaps, Rd encR 2 rA b.rules.length b.rules] h.stab
  have hfm := h.F.2.1; have hrm := h.R.2.1
  refine c_reg ?_
  refine vL hf (v_boxA hf hs rfl) (by decide) ?_; clear hs hf a; rintro _ w ⟨b1, rfl, hs⟩ a hf
  refine gL hf (g_as hf rfl) (by decide) ?_; clear hf a; intro a hf
  refine e_nil ?_
  refine c_reg ?_
  refine gL hf (g_fa (off' := 0) hf F25_0 rfl rfl) (by decide) ?_; clear hf a; intro a hf
  refine gL hf (g_ld hf hs T3 rfl (k := 0) rfl rfl) (by decide) ?_; clear hf a; intro a hf
  refine callL hf hs (c_within _ _ _ _) rfl rfl rfl E99 (by decide) ?_; clear hs hf a; intro w a hs hf
  refine gL hf (g_mv hf rfl) (by decide) ?_; clear hf a; intro a hf
  refine ggL hf rfl rfl (gyes_t _) (fun hg => g_fa (off' := 1) hf F25_1 rfl rfl) (by decide) ?_; clear hf a; intro a hf
  refine ggL hf rfl rfl (gyes_t _) (fun hg => g_ld hf hs T3 (ev_gv rfl hg) (k := 0) rfl rfl) (by decide) ?_; clear hf a; intro a hf
  refine callG hf hs rfl rfl (gyes_t _) (fun hg => ⟨_, _, _, _, c_within _ _ _ _, rfl, evs_cons (ev_gv rfl hg) (evs_cons rfl (evs_cons rfl evs_nil)), rfl⟩) E99 (by decide) ?_; clear hs hf a; intro w a hs hf
  refine gL hf (g_and hf rfl rfl) (by decide) ?_; clear hf a; intro a hf
  refine gL hf (g_mv hf rfl) (by decide) ?_; clear hf a; intro a hf
  refine ggL hf rfl rfl (gyes_t _) (fun hg => g_fa (off' := 2) hf F25_2 rfl rfl) (by decide) ?_; clear hf a; intro a hf
  refine ggL hf rfl rfl (gyes_t _) (fun hg => g_ld hf hs T22 (ev_gv rfl hg) (k := 0) rfl rfl) (by decide) ?_; clear hf a; intro a hf
  refine ggL hf rfl rfl (gyes_t _) (fun hg => g_len hf SL22 (ev_gv rfl hg)) (by decide) ?_; clear hf a; intro a hf
  refine callG hf hs rfl rfl (gyes_t _) (fun hg => ⟨_, _, _, _, c_within _ _ _ _, rfl, evs_cons (ev_gv rfl hg) (evs_cons rfl (evs_cons rfl evs_nil)), rfl⟩) E99 (by decide) ?_; clear hs hf a; intro w a hs hf
  refine gL hf (g_and hf rfl rfl) (by decide) ?_; clear hf a; intro a hf
  refine gL hf (g_mv hf rfl) (by decide) ?_; clear hf a; intro a hf
  refine ggL hf rfl rfl (gyes_t _) (fun hg => g_fa (off' := 3) hf F25_3 rfl rfl) (by decide) ?_; clear hf a; intro a hf
  refine ggL hf rfl rfl (gyes_t _) (fun hg => g_ld hf hs T23 (ev_gv rfl hg) (k := 0) rfl rfl) (by decide) ?_; clear hf a; intro a hf
  refine ggL hf rfl rfl (gyes_t _) (fun hg => g_len hf SL23 (ev_gv rfl hg)) (by decide) ?_; clear hf a; intro a hf
  refine ggL hf rfl rfl (gyes_t _) (fun hg => g_leq hf (ev_gv rfl hg) rfl) (by decide) ?_; clear hf a; intro a hf
  refine gL hf (g_and hf rfl rfl) (by decide) ?_; clear hf a; intro a hf
  refine gL hf (g_as hf rfl) (by decide) ?_; clear hf a; intro a hf
  refine e_nil ?_
  refine wp_seq ?_
  refine c_reg ?_
  refine gL hf (g_fa (off' := 2) hf F25_2 rfl rfl) (by decide) ?_; clear hf a; intro a hf
  refine gL hf (g_ld hf hs T22 rfl (k := 0) rfl rfl) (by decide) ?_; clear hf a; intro a hf
  refine gL hf (g_len hf SL22 rfl) (by decide) ?_; clear hf a; intro a hf
  refine gL hf (g_mv hf rfl) (by decide) ?_; clear hf a; intro a hf
  refine e_nil ?_
  refine c_block ?_
  have e0 : (fitsB b.wide 1 99 && fitsB b.high 1 99 && fitsB (b.flaps.length : Int) 1 7 && decide ((b.rules.length : Int) ≤ 10)) = okF b 0 := by simp [okF, baseOK]
  rw [e0] at hf
  refine c_loop hf hs (List.range' 3 1 ++ List.range' 5 3 ++ List.range' 33 33) (σ := Nat) (fun k => [(3, .bool (okF b k)), (33, .int .i64 (k : Nat))]) (fun k => _) (fun k => k ≤ b.flaps.length) (fun k => b.flaps.length - k) 0 (by omega) (.cons rfl (.cons rfl .nil)) rfl ?_
  intro k a w hJ hf hs
  refine c_reg ?_
  refine gL hf (g_lss hf rfl rfl) (by decide) ?_; clear hf a; intro a hf
  refine e_nil ?_
  refine c_condS hf rfl (fun hc1 => ?_) (fun hc1 => ?_)
  · try simp only [decide_eq_true_eq, decide_eq_false_iff_not] at hc1
    refine c_skip (q_thenN ?_)
    refine c_blockS ?_
    refine c_reg ?_
    (first | (refine gL hf (g_ixE hf hs (.head _) SL22 rfl rfl (by omega)) (by decide) ?_) | (refine gL hf (g_ixD hf hs (.head _) SL22 rfl rfl (by omega)) (by decide) ?_)); clear hf a; intro a hf
    refine gL hf (g_ldEW hf hs (.head _) T117 rfl rfl (by omega)) (by decide) ?_; clear hf a; intro a hf
    refine vL hf (v_alloc hs T117 rfl) (by decide) ?_; clear hs hf a; rintro _ w ⟨b2, rfl, hs⟩ a hf
    refine uL (u_stW hf hs T117 rfl rfl rfl (k := 0) rfl rfl rfl) ?_; clear hs; intro w hs; dsimp only [List.set] at hs
    refine e_nil ?_
    refine c_draw _ 6 Mx rfl hs (fun _ h => h) ?_; intro w hs hS
    refine gA hf hS (i := 0) rfl (by kernel_rfl) (fun w hs => g_fa (off' := 0) hf F25_0 rfl rfl) (by decide) ?_; clear hf a; intro a hf
    refine gA hf hS (i := 1) rfl (by kernel_rfl) (fun w hs => g_ld hf hs T3 rfl (k := 1) rfl rfl) (by decide) ?_; clear hf a; intro a hf
    refine gA hf hS (i := 2) rfl (by kernel_rfl) (fun w hs => g_fa (off' := 1) hf F25_1 rfl rfl) (by decide) ?_; clear hf a; intro a hf
    refine gA hf hS (i := 3) rfl (by kernel_rfl) (fun w hs => g_ld hf hs T3 rfl (k := 1) rfl rfl) (by decide) ?_; clear hf a; intro a hf
    refine gA hf hS (i := 4) rfl (by kernel_rfl) (fun w hs => g_as hf rfl) (by decide) ?_; clear hf a; intro a hf
    refine gA hf hS (i := 5) rfl (by kernel_rfl) (fun w hs => g_as hf rfl) (by decide) ?_; clear hf a; intro a hf
    refine e_done (by kernel_rfl) ?_
    refine wp_seq ?_
    refine c_reg ?_
    refine gL hf (g_fa (off' := 0) hf F117_0 rfl rfl) (by decide) ?_; clear hf a; intro a hf
    refine gL hf (g_ld hf hs T3 rfl (k := 0) rfl rfl) (by decide) ?_; clear hf a; intro a hf
    refine gL hf (g_geq hf rfl rfl) (by decide) ?_; clear hf a; intro a hf
    refine e_nil ?_
    refine c_cond hf rfl (fun hc2 => ?_) (fun hc2 => ?_)
    · try simp only [decide_eq_true_eq, decide_eq_false_iff_not] at hc2
      have e1 : okF b (k + 1) = (okF b k && fitsB (b.flaps.getD k default).side 0 3 && spanB (b.flaps.getD k default).rl (b.flaps.getD k default).rh 1 b.high && spanB (b.flaps.getD k default).al (b.flaps.getD k default).ah 0 (b.wide - 1)) := by rw [okF_succ (by omega), flapOK, if_neg (by omega)]; simp only [Bool.and_assoc]
      refine c_reg1 ?_
      refine gL hf (g_mv hf rfl) (by decide) ?_; clear hf a; intro a hf
      refine gL hf (g_mv hf rfl) (by decide) ?_; clear hf a; intro a hf
      refine gL hf (g_as hf rfl) (by decide) ?_; clear hf a; intro a hf
      refine gL hf (g_as hf rfl) (by decide) ?_; clear hf a; intro a hf
      refine e_nil1 (q_thenN ?_)
      refine c_reg1 ?_
      refine gL hf (g_mv hf rfl) (by decide) ?_; clear hf a; intro a hf
      refine gL hf (g_mv hf rfl) (by decide) ?_; clear hf a; intro a hf
      refine ggL hf rfl rfl (gyes_t _) (fun hg => g_fa (off' := 0) hf F117_0 rfl rfl) (by decide) ?_; clear hf a; intro a hf
      refine ggL hf rfl rfl (gyes_t _) (fun hg => g_ld hf hs T3 (ev_gv rfl hg) (k := 0) rfl rfl) (by decide) ?_; clear hf a; intro a hf
      refine callG hf hs rfl rfl (gyes_t _) (fun hg => ⟨_, _, _, _, c_within _ _ _ _, rfl, evs_cons (ev_gv rfl hg) (evs_cons rfl (evs_cons rfl evs_nil)), rfl⟩) E99 (by decide) ?_; clear hs hf a; intro w a hs hf
      refine gL hf (g_and hf rfl rfl) (by decide) ?_; clear hf a; intro a hf
      refine gL hf (g_mv hf rfl) (by decide) ?_; clear hf a; intro a hf
      refine ggL hf rfl rfl (gyes_t _) (fun hg => g_fa (off' := 1) hf F117_1 rfl rfl) (by decide) ?_; clear hf a; intro a hf
      refine ggL hf rfl rfl (gyes_t _) (fun hg => g_ldP hf hs T40 (ev_gv rfl hg) (k := 0) rfl rfl) (by decide) ?_; clear hf a; intro a hf
      refine ggL hf rfl rfl (gyes_t _) (fun hg => g_mv hf rfl) (by decide) ?_; clear hf a; intro a hf
      refine callG hf hs rfl rfl (gyes_t _) (fun hg => ⟨_, _, _, _, c_isSpan _ _ _ _ _, rfl, evs_cons (ev_gv rfl hg) (evs_cons rfl (evs_cons (ev_gv rfl hg) evs_nil)), rfl⟩) E100 (by decide) ?_; clear hs hf a; intro w a hs hf
      refine gL hf (g_and hf rfl rfl) (by decide) ?_; clear hf a; intro a hf
      refine gL hf (g_mv hf rfl) (by decide) ?_; clear hf a; intro a hf
      refine ggL hf rfl rfl (gyes_t _) (fun hg => g_fa (off' := 3) hf F117_2 rfl rfl) (by decide) ?_; clear hf a; intro a hf
      refine ggL hf rfl rfl (gyes_t _) (fun hg => g_ldP hf hs T40 (ev_gv rfl hg) (k := 0) rfl rfl) (by decide) ?_; clear hf a; intro a hf
      refine ggL hf rfl rfl (gyes_t _) (fun hg => g_mv hf rfl) (by decide) ?_; clear hf a; intro a hf
      refine ggL hf rfl rfl (gyes_t _) (fun hg => g_subI hf (ev_gv rfl hg) rfl (by have h9 := okF_base (and_l (and_l hg)); omega)) (by decide) ?_; clear hf a; intro a hf
      refine callG hf hs rfl rfl (gyes_t _) (fun hg => ⟨_, _, _, _, c_isSpan _ _ _ _ _, rfl, evs_cons (ev_gv rfl hg) (evs_cons rfl (evs_cons (ev_gv rfl hg) evs_nil)), rfl⟩) E100 (by decide) ?_; clear hs hf a; intro w a hs hf
      refine gL hf (g_and hf rfl rfl) (by decide) ?_; clear hf a; intro a hf
      refine gL hf (g_as hf rfl) (by decide) ?_; clear hf a; intro a hf
      refine e_nil1 (q_blkN (q_thenN ?_))
      refine c_reg1 ?_
      refine gL hf (g_addI hf rfl rfl (by omega)) (by decide) ?_; clear hf a; intro a hf
      refine gL hf (g_mv hf rfl) (by decide) ?_; clear hf a; intro a hf
      refine e_nil1 (q_thenN ?_)
      rw [← e1] at hf
      exact ⟨k + 1, (by omega), (by omega), hf.back (by repeat (first | (with_reducible exact Ext.base) | ((with_reducible refine Ext.cons ?_ ?_); (· rfl)) | ((with_reducible refine Ext.over ?_ ?_ ?_); (· rfl); (· rfl)))) (allKeys rfl) (.cons rfl (.cons rfl .nil)), hs.dropN 1⟩
    · try simp only [decide_eq_true_eq, decide_eq_false_iff_not] at hc2
      have e1 : okF b (k + 1) = (okF b k && fitsB (b.flaps.getD k default).side 0 3 && spanB (b.flaps.getD k default).rl (b.flaps.getD k default).rh 1 b.wide && spanB (b.flaps.getD k default).al (b.flaps.getD k default).ah 0 (b.high - 1)) := by rw [okF_succ (by omega), flapOK, if_pos (by omega)]; simp only [Bool.and_assoc]
      refine c_skip (q_thenN ?_)
      refine c_reg1 ?_
      refine gL hf (g_mv hf rfl) (by decide) ?_; clear hf a; intro a hf
      refine gL hf (g_mv hf rfl) (by decide) ?_; clear hf a; intro a hf
      refine ggL hf rfl rfl (gyes_t _) (fun hg => g_fa (off' := 0) hf F117_0 rfl rfl) (by decide) ?_; clear hf a; intro a hf
      refine ggL hf rfl rfl (gyes_t _) (fun hg => g_ld hf hs T3 (ev_gv rfl hg) (k := 0) rfl rfl) (by decide) ?_; clear hf a; intro a hf
      refine callG hf hs rfl rfl (gyes_t _) (fun hg => ⟨_, _, _, _, c_within _ _ _ _, rfl, evs_cons (ev_gv rfl hg) (evs_cons rfl (evs_cons rfl evs_nil)), rfl⟩) E99 (by decide) ?_; clear hs hf a; intro w a hs hf
      refine gL hf (g_and hf rfl rfl) (by decide) ?_; clear hf a; intro a hf
      refine gL hf (g_mv hf rfl) (by decide) ?_; clear hf a; intro a hf
      refine ggL hf rfl rfl (gyes_t _) (fun hg => g_fa (off' := 1) hf F117_1 rfl rfl) (by decide) ?_; clear hf a; intro a hf
      refine ggL hf rfl rfl (gyes_t _) (fun hg => g_ldP hf hs T40 (ev_gv rfl hg) (k := 0) rfl rfl) (by decide) ?_; clear hf a; intro a hf
      refine ggL hf rfl rfl (gyes_t _) (fun hg => g_mv hf rfl) (by decide) ?_; clear hf a; intro a hf
      refine callG hf hs rfl rfl (gyes_t _) (fun hg => ⟨_, _, _, _, c_isSpan _ _ _ _ _, rfl, evs_cons (ev_gv rfl hg) (evs_cons rfl (evs_cons (ev_gv rfl hg) evs_nil)), rfl⟩) E100 (by decide) ?_; clear hs hf a; intro w a hs hf
      refine gL hf (g_and hf rfl rfl) (by decide) ?_; clear hf a; intro a hf
      refine gL hf (g_mv hf rfl) (by decide) ?_; clear hf a; intro a hf
      refine ggL hf rfl rfl (gyes_t _) (fun hg => g_fa (off' := 3) hf F117_2 rfl rfl) (by decide) ?_; clear hf a; intro a hf
      refine ggL hf rfl rfl (gyes_t _) (fun hg => g_ldP hf hs T40 (ev_gv rfl hg) (k := 0) rfl rfl) (by decide) ?_; clear hf a; intro a hf
      refine ggL hf rfl rfl (gyes_t _) (fun hg => g_mv hf rfl) (by decide) ?_; clear hf a; intro a hf
      refine ggL hf rfl rfl (gyes_t _) (fun hg => g_subI hf (ev_gv rfl hg) rfl (by have h9 := okF_base (and_l (and_l hg)); omega)) (by decide) ?_; clear hf a; intro a hf
      refine callG hf hs rfl rfl (gyes_t _) (fun hg => ⟨_, _, _, _, c_isSpan _ _ _ _ _, rfl, evs_cons (ev_gv rfl hg) (evs_cons rfl (evs_cons (ev_gv rfl hg) evs_nil)), rfl⟩) E100 (by decide) ?_; clear hs hf a; intro w a hs hf
      refine gL hf (g_and hf rfl rfl) (by decide) ?_; clear hf a; intro a hf
      refine gL hf (g_as hf rfl) (by decide) ?_; clear hf a; intro a hf
      refine e_nil1 (q_blkN (q_thenN ?_))
      refine c_reg1 ?_
      refine gL hf (g_addI hf rfl rfl (by omega)) (by decide) ?_; clear hf a; intro a hf
      refine gL hf (g_mv hf rfl) (by decide) ?_; clear hf a; intro a hf
      refine e_nil1 (q_thenN ?_)
      rw [← e1] at hf
      exact ⟨k + 1, (by omega), (by omega), hf.back (by repeat (first | (with_reducible exact Ext.base) | ((with_reducible refine Ext.cons ?_ ?_); (· rfl)) | ((with_reducible refine Ext.over ?_ ?_ ?_); (· rfl); (· rfl)))) (allKeys rfl) (.cons rfl (.cons rfl .nil)), hs.dropN 1⟩
  · try simp only [decide_eq_true_eq, decide_eq_false_iff_not] at hc1
    refine c_exit (q_thenX (q_thenX (q_blkX (q_thenN ?_))))
    refine wp_seq ?_
    refine c_reg ?_
    refine gL hf (g_fa (off' := 3) hf F25_3 rfl rfl) (by decide) ?_; clear hf a; intro a hf
    refine gL hf (g_ld hf hs T23 rfl (k := 0) rfl rfl) (by decide) ?_; clear hf a; intro a hf
    refine gL hf (g_len hf SL23 rfl) (by decide) ?_; clear hf a; intro a hf
    refine gL hf (g_mv hf rfl) (by decide) ?_; clear hf a; intro a hf
    refine e_nil ?_
    refine c_block ?_
    have e2 : okF b k = okF b b.flaps.length := by rw [show k = b.flaps.length by omega]
    rw [e2, show okF b b.flaps.length = okR b 0 by simp [okR]] at hf
    refine c_loop hf hs (List.range' 3 1 ++ List.range' 8 2 ++ List.range' 69 41) (σ := Nat) (fun i => [(3, .bool (okR b i)), (69, .int .i64 (i : Nat))]) (fun i => _) (fun i => i ≤ b.rules.length) (fun i => b.rules.length - i) 0 (by omega) (.cons rfl (.cons rfl .nil)) rfl ?_
    intro i a w hJ hf hs
    refine c_reg ?_
    refine gL hf (g_lss hf rfl rfl) (by decide) ?_; clear hf a; intro a hf
    refine e_nil ?_
    refine c_condS hf rfl (fun hc3 => ?_) (fun hc3 => ?_)
    · try simp only [decide_eq_true_eq, decide_eq_false_iff_not] at hc3
      refine c_skip (q_thenN ?_)
      refine c_blockS ?_
      refine c_reg ?_
      refine gL hf (g_mv hf rfl) (by decide) ?_; clear hf a; intro a hf
      (first | (refine gL hf (g_ixE hf hs (.tail _ (.head _)) SL23 rfl rfl (by omega)) (by decide) ?_) | (refine gL hf (g_ixD hf hs (.tail _ (.head _)) SL23 rfl rfl (by omega)) (by decide) ?_)); clear hf a; intro a hf
      refine gL hf (g_ldEW hf hs (.tail _ (.head _)) T51 rfl rfl (by omega)) (by decide) ?_; clear hf a; intro a hf
      refine vL hf (v_alloc hs T51 rfl) (by decide) ?_; clear hs hf a; rintro _ w ⟨b2, rfl, hs⟩ a hf
      refine gL hf (g_as hf rfl) (by decide) ?_; clear hf a; intro a hf
      refine uL (u_stW hf hs T51 rfl rfl rfl (k := 0) rfl rfl rfl) ?_; clear hs; intro w hs; dsimp only [List.set] at hs
      refine e_nil ?_
      refine c_draw1 _ 36 Mx rfl hs (fun _ h => h) ?_; intro w hs hS
      refine gA hf hS (i := 0) rfl (by kernel_rfl) (fun w hs => g_mv hf rfl) (by decide) ?_; clear hf a; intro a hf
      refine gA hf hS (i := 1) rfl (by kernel_rfl) (fun w hs => g_mv hf rfl) (by decide) ?_; clear hf a; intro a hf
      refine ggA hf hS (i := 2) rfl (by kernel_rfl) rfl rfl (gyes_t _) (fun hg w hs => g_fa (off' := 0) hf F51_0 rfl rfl) (by decide) ?_; clear hf a; intro a hf
      refine ggA hf hS (i := 3) rfl (by kernel_rfl) rfl rfl (gyes_t _) (fun hg w hs => g_ld hf hs T3 (ev_gv rfl hg) (k := 0) rfl rfl) (by decide) ?_; clear hf a; intro a hf
      refine ggA hf hS (i := 4) rfl (by kernel_rfl) rfl rfl (gyes_t _) (fun hg w hs => g_fa (off' := 2) hf F25_2 rfl rfl) (by decide) ?_; clear hf a; intro a hf
      refine ggA hf hS (i := 5) rfl (by kernel_rfl) rfl rfl (gyes_t _) (fun hg w hs => g_ld hf hs T22 (ev_gv rfl hg) (k := 1) rfl rfl) (by decide) ?_; clear hf a; intro a hf
      refine ggA hf hS (i := 6) rfl (by kernel_rfl) rfl rfl (gyes_t _) (fun hg w hs => g_len hf SL22 (ev_gv rfl hg)) (by decide) ?_; clear hf a; intro a hf
      refine ggA hf hS (i := 7) rfl (by kernel_rfl) rfl rfl (gyes_t _) (fun hg w hs => g_subI hf (ev_gv rfl hg) rfl (by omega)) (by decide) ?_; clear hf a; intro a hf
      refine one (i := 8) (by kernel_rfl) ?_
      refine oCallG hf hs rfl rfl rfl (gyes_t _) (fun hg => ⟨_, _, _, _, c_within _ _ _ _, rfl, evs_cons (ev_gv rfl hg) (evs_cons rfl (evs_cons (ev_gv rfl hg) evs_nil)), rfl⟩) E99 (by decide) (fun _ h => h.sub (.refl _)) ?_; clear hs hf hS a; intro w a hs hS hf
      refine gA hf hS (i := 9) rfl (by kernel_rfl) (fun w hs => g_and hf rfl rfl) (by decide) ?_; clear hf a; intro a hf
      refine gA hf hS (i := 10) rfl (by kernel_rfl) (fun w hs => g_mv hf rfl) (by decide) ?_; clear hf a; intro a hf
      refine ggA hf hS (i := 11) rfl (by kernel_rfl) rfl rfl (gyes_t _) (fun hg w hs => g_fa (off' := 1) hf F51_1 rfl rfl) (by decide) ?_; clear hf a; intro a hf
      refine ggA hf hS (i := 12) rfl (by kernel_rfl) rfl rfl (gyes_t _) (fun hg w hs => g_ld hf hs T3 (ev_gv rfl hg) (k := 0) rfl rfl) (by decide) ?_; clear hf a; intro a hf
      refine ggA hf hS (i := 13) rfl (by kernel_rfl) rfl rfl (gyes_t _) (fun hg w hs => g_fa (off' := 2) hf F25_2 rfl rfl) (by decide) ?_; clear hf a; intro a hf
      refine ggA hf hS (i := 14) rfl (by kernel_rfl) rfl rfl (gyes_t _) (fun hg w hs => g_ld hf hs T22 (ev_gv rfl hg) (k := 1) rfl rfl) (by decide) ?_; clear hf a; intro a hf
      refine ggA hf hS (i := 15) rfl (by kernel_rfl) rfl rfl (gyes_t _) (fun hg w hs => g_len hf SL22 (ev_gv rfl hg)) (by decide) ?_; clear hf a; intro a hf
      refine ggA hf hS (i := 16) rfl (by kernel_rfl) rfl rfl (gyes_t _) (fun hg w hs => g_subI hf (ev_gv rfl hg) rfl (by omega)) (by decide) ?_; clear hf a; intro a hf
      refine one (i := 17) (by kernel_rfl) ?_
      refine oCallG hf hs rfl rfl rfl (gyes_t _) (fun hg => ⟨_, _, _, _, c_within _ _ _ _, rfl, evs_cons (ev_gv rfl hg) (evs_cons rfl (evs_cons (ev_gv rfl hg) evs_nil)), rfl⟩) E99 (by decide) (fun _ h => h.sub (.refl _)) ?_; clear hs hf hS a; intro w a hs hS hf
      refine gA hf hS (i := 18) rfl (by kernel_rfl) (fun w hs => g_and hf rfl rfl) (by decide) ?_; clear hf a; intro a hf
      refine gA hf hS (i := 19) rfl (by kernel_rfl) (fun w hs => g_mv hf rfl) (by decide) ?_; clear hf a; intro a hf
      refine ggA hf hS (i := 20) rfl (by kernel_rfl) rfl rfl (gyes_t _) (fun hg w hs => g_fa (off' := 0) hf F51_0 rfl rfl) (by decide) ?_; clear hf a; intro a hf
      refine ggA hf hS (i := 21) rfl (by kernel_rfl) rfl rfl (gyes_t _) (fun hg w hs => g_ld hf hs T3 (ev_gv rfl hg) (k := 0) rfl rfl) (by decide) ?_; clear hf a; intro a hf
      refine ggA hf hS (i := 22) rfl (by kernel_rfl) rfl rfl (gyes_t _) (fun hg w hs => g_fa (off' := 1) hf F51_1 rfl rfl) (by decide) ?_; clear hf a; intro a hf
      refine ggA hf hS (i := 23) rfl (by kernel_rfl) rfl rfl (gyes_t _) (fun hg w hs => g_ld hf hs T3 (ev_gv rfl hg) (k := 0) rfl rfl) (by decide) ?_; clear hf a; intro a hf
      refine ggA hf hS (i := 24) rfl (by kernel_rfl) rfl rfl (gyes_t _) (fun hg w hs => g_neq hf (ev_gv rfl hg) (ev_gv rfl hg)) (by decide) ?_; clear hf a; intro a hf
      refine gA hf hS (i := 25) rfl (by kernel_rfl) (fun w hs => g_and hf rfl rfl) (by decide) ?_; clear hf a; intro a hf
      refine gA hf hS (i := 26) rfl (by kernel_rfl) (fun w hs => g_mv hf rfl) (by decide) ?_; clear hf a; intro a hf
      refine ggA hf hS (i := 27) rfl (by kernel_rfl) rfl rfl (gyes_t _) (fun hg w hs => g_fa (off' := 3) hf F25_3 rfl rfl) (by decide) ?_; clear hf a; intro a hf
      refine ggA hf hS (i := 28) rfl (by kernel_rfl) rfl rfl (gyes_t _) (fun hg w hs => g_ld hf hs T23 (ev_gv rfl hg) (k := 1) rfl rfl) (by decide) ?_; clear hf a; intro a hf
      refine ggA hf hS (i := 29) rfl (by kernel_rfl) rfl rfl (gyes_t _) (fun hg w hs => g_mv hf rfl) (by decide) ?_; clear hf a; intro a hf
      refine ggA hf hS (i := 30) rfl (by kernel_rfl) rfl rfl (gyes_t _) (fun hg w hs => g_slH hf SL23 (ev_gv rfl hg) (ev_gv rfl hg) (by have := h.rc_; omega)) (by decide) ?_; clear hf a; intro a hf
      refine ggA hf hS (i := 31) rfl (by kernel_rfl) rfl rfl (gyes_t _) (fun hg w hs => g_ldW hf hs T51 rfl (k := 0) rfl rfl) (by decide) ?_; clear hf a; intro a hf
      refine one (i := 32) (by kernel_rfl) ?_
      refine oCallG hf hs rfl rfl rfl (gyes_t _) (fun hg => ⟨_, _, _, _, c_ContainsS _ ((i : Nat) : Int).toNat _ (b.rules.take i) (b.rules.getD i default) _ (by simpa using (hs.rd (.tail _ (.head _))).take i (by omega)), rfl, evs_cons (ev_gv rfl hg) (evs_cons (ev_gv rfl hg) evs_nil), rfl⟩) E101 (by decide) (fun _ h => h.sub (.refl _)) ?_; clear hs hf hS a; intro w a hs hS hf
      refine ggA hf hS (i := 33) rfl (by kernel_rfl) rfl rfl (gyes_t _) (fun hg w hs => g_not hf (ev_gv rfl hg)) (by decide) ?_; clear hf a; intro a hf
      refine gA hf hS (i := 34) rfl (by kernel_rfl) (fun w hs => g_and hf rfl rfl) (by decide) ?_; clear hf a; intro a hf
      refine gA hf hS (i := 35) rfl (by kernel_rfl) (fun w hs => g_as hf rfl) (by decide) ?_; clear hf a; intro a hf
      refine e_done1 (by kernel_rfl) ?_
      refine q_blkN (q_thenN ?_)
      refine c_reg1 ?_
      refine gL hf (g_addI hf rfl rfl (by omega)) (by decide) ?_; clear hf a; intro a hf
      refine gL hf (g_mv hf rfl) (by decide) ?_; clear hf a; intro a hf
      refine e_nil1 (q_thenN ?_)
      have e4 : okR b (i + 1) = (okR b i && fitsB (b.rules.getD i default).over 0 ((b.flaps.length : Int) - 1) && fitsB (b.rules.getD i default).under 0 ((b.flaps.length : Int) - 1) && (b.rules.getD i default).over != (b.rules.getD i default).under && !(b.rules.take i).any fun x => sameR (b.rules.getD i default) x) := by rw [okR_succ]; simp only [ruleOK, Bool.and_assoc]
      rw [← e4] at hf
      exact ⟨i + 1, (by omega), (by omega), hf.back (by repeat (first | (with_reducible exact Ext.base) | ((with_reducible refine Ext.cons ?_ ?_); (· rfl)) | ((with_reducible refine Ext.over ?_ ?_ ?_); (· rfl); (· rfl)))) (allKeys rfl) (.cons rfl (.cons rfl .nil)), hs.dropN 1⟩
    · try simp only [decide_eq_true_eq, decide_eq_false_iff_not] at hc3
      rw [show i = b.rules.length by omega, show okR b b.rules.length = checkB b by simp [checkB, okR, okF, List.take_length]] at hf
      refine c_exit (q_thenX (q_thenX (q_blkX (q_thenN ?_))))
      refine wp_seq ?_
      refine c_reg ?_
      refine gL hf (g_mv hf rfl) (by decide) ?_; clear hf a; intro a hf
      refine gL hf (g_not hf rfl) (by decide) ?_; clear hf a; intro a hf
      refine e_nil ?_
      refine c_cond hf rfl (fun hc4 => ?_) (fun hc4 => ?_)
      · try simp only [decide_eq_true_eq, decide_eq_false_iff_not] at hc4
        refine c_reg ?_
        refine gL hf (g_as hf rfl) (by decide) ?_; clear hf a; intro a hf
        refine e_nil ?_
        refine c_ret (q_thenR ?_)
        refine e_ret1 hf rfl rfl ?_
        exact ⟨by rw [show checkB b = false by simpa using hc4]; rfl, hs.below⟩
      · try simp only [decide_eq_true_eq, decide_eq_false_iff_not] at hc4
        refine c_skip (q_thenN ?_)
        refine c_reg ?_
        refine gL hf (g_as hf rfl) (by decide) ?_; clear hf a; intro a hf
        refine e_nil ?_
        refine c_ret ?_
        refine e_ret1 hf rfl rfl ?_
        exact ⟨by rw [show checkB b = true by simpa using hc4]; rfl, hs.below⟩

end Go.Proofs.YtjjcopeedcdokaaDoor

set_option linter.unusedVariables false
set_option linter.unusedSimpArgs false
namespace Go.Proofs.YtjjcopeedcdokaaDoor
open Go.RowKit
theorem c_isOrder (b : Sheet) (fA : Option Addr) (fc : Nat) (rA : Option Addr) (rc : Nat) (oA : Option Addr) (oc : Nat) (l : List Int) (hv : Valid b) (w0 : World) (h : ShIn b fA fc rA rc w0) (ho : Rd encI 1 oA l.length l w0) :
    Calls Tryd.prog 95 #[.agg #[.int .i64 b.wide, .int .i64 b.high, .slice fA b.flaps.length fc, .slice rA b.rules.length rc], .slice oA l.length oc] w0 (Ret w0 (.bool (ordB b l))) := by
  refine c_enter (n := 36) Tryd.func95 rfl rfl (Nat.le_of_ble_eq_true rfl) ?_; intro a hf; simp only [zipR] at hf
  have hs := St.start w0 [Rd encF 5 fA b.flaps.length b.flaps, Rd encR 2 rA b.rules.length b.rules, Rd encI 1 oA l.length l] (stab_app h.stab ho.st1)
  have hfm := h.F.2.1; have hrm := h.R.2.1; have hlm := ho.2.1
  have hmany := hv.many
  refine c_reg ?_
  refine vL hf (v_boxA hf hs rfl) (by decide) ?_; clear hs hf a; rintro _ w ⟨b1, rfl, hs⟩ a hf
  refine gL hf (g_as hf rfl) (by decide) ?_; clear hf a; intro a hf
  refine e_nil ?_
  refine wp_seq ?_
  refine c_reg ?_
  refine gL hf (g_mv hf rfl) (by decide) ?_; clear hf a; intro a hf
  refine gL hf (g_len hf SL31 rfl) (by decide) ?_; clear hf a; intro a hf
  refine gL hf (g_fa (off' := 2) hf F25_2 rfl rfl) (by decide) ?_; clear hf a; intro a hf
  refine gL hf (g_ld hf hs T22 rfl (k := 0) rfl rfl) (by decide) ?_; clear hf a; intro a hf
  refine gL hf (g_len hf SL22 rfl) (by decide) ?_; clear hf a; intro a hf
  refine gL hf (g_neq hf rfl rfl) (by decide) ?_; clear hf a; intro a hf
  refine e_nil ?_
  refine c_cond hf rfl (fun hc1 => ?_) (fun hc1 => ?_)
  · try simp only [decide_eq_true_eq, decide_eq_false_iff_not] at hc1
    refine c_reg ?_
    refine gL hf (g_as hf rfl) (by decide) ?_; clear hf a; intro a hf
    refine e_nil ?_
    refine c_ret (q_thenR ?_)
    refine e_ret1 hf rfl rfl ?_
    exact ⟨by rw [show ordB b l = false by unfold ordB; rw [show (l.length == b.flaps.length) = false by simp at hc1 ⊢; omega]; rfl], hs.below⟩
  · try simp only [decide_eq_true_eq, decide_eq_false_iff_not] at hc1
    refine c_skip (q_thenN ?_)
    refine c_reg ?_
    refine callL hf hs (c_none _) rfl rfl rfl E108 (by decide) ?_; clear hs hf a; intro w a hs hf
    refine vL hf (v_alloc hs T126 rfl) (by decide) ?_; clear hs hf a; rintro _ w ⟨b2, rfl, hs⟩ a hf
    refine uL (u_stW hf hs T126 rfl rfl rfl (k := 0) rfl rfl rfl) ?_; clear hs; intro w hs; dsimp only [List.set] at hs
    refine e_nil ?_
    refine wp_seq ?_
    refine c_reg ?_
    refine gL hf (g_mv hf rfl) (by decide) ?_; clear hf a; intro a hf
    refine gL hf (g_len hf SL31 rfl) (by decide) ?_; clear hf a; intro a hf
    refine gL hf (g_mv hf rfl) (by decide) ?_; clear hf a; intro a hf
    refine e_nil ?_
    refine c_block ?_
    have hlen : l.length = b.flaps.length := by simp at hc1; omega
    have e0 : (#[.bool false, .bool false, .bool false, .bool false, .bool false, .bool false, .bool false] : Array Value) = dnA (marks (l.take 0)) := rfl
    rw [e0] at hs
    refine c_loop hf hs [4, 7, 17, 18, 19, 20, 21, 22, 23, 24, 25, 26, 27, 28, 29, 30, 31, 32] (σ := Nat) (fun k => [(17, .int .i64 (k : Nat))]) (fun k => [(b2, .cells (dnA (marks (l.take k))) 126 (0, 0)), (b1, .cells #[.int .i64 b.wide, .int .i64 b.high, .slice fA b.flaps.length fc, .slice rA b.rules.length rc] 25 (0, 0))]) (fun k => k ≤ l.length ∧ ∀ j, j < k → (flapB b.flaps.length (l.getD j default) && !decide (l.getD j default ∈ l.take j)) = true) (fun k => l.length - k) 0 ⟨by omega, fun z hz => absurd hz (by omega)⟩ (.cons rfl .nil) rfl ?_
    intro k a w hJ hf hs
    obtain ⟨hk, hp⟩ := hJ
    have hrg : ∀ x ∈ l.take k, 0 ≤ x ∧ x < 7 := fun x hx => by
              obtain ⟨j, hj, rfl⟩ := List.mem_take_iff_getElem.1 hx
              have h1 := hp j (by omega)
              rw [List.getD_eq_getElem?_getD, List.getElem?_eq_getElem (by omega : j < l.length), Option.getD_some, Bool.and_eq_true, flapB, fitsB_iff] at h1
              omega
    refine c_reg ?_
    refine gL hf (g_lss hf rfl rfl) (by decide) ?_; clear hf a; intro a hf
    refine e_nil ?_
    refine c_condS hf rfl (fun hc2 => ?_) (fun hc2 => ?_)
    · try simp only [decide_eq_true_eq, decide_eq_false_iff_not] at hc2
      refine c_skip (q_thenN ?_)
      refine c_blockS ?_
      refine c_reg ?_
      (first | (refine gL hf (g_ixE hf hs (.tail _ (.tail _ (.head _))) SL31 rfl rfl (by omega)) (by decide) ?_) | (refine gL hf (g_ixD hf hs (.tail _ (.tail _ (.head _))) SL31 rfl rfl (by omega)) (by decide) ?_)); clear hf a; intro a hf
      refine gL hf (g_ldE hf hs (.tail _ (.tail _ (.head _))) T3 rfl rfl (by omega)) (by decide) ?_; clear hf a; intro a hf
      refine gL hf (g_as hf rfl) (by decide) ?_; clear hf a; intro a hf
      refine e_nil ?_
      refine wp_seq ?_
      refine c_reg ?_
      refine gL hf (g_ldW hf hs T25 rfl (k := 1) rfl rfl) (by decide) ?_; clear hf a; intro a hf
      refine gL hf (g_mv hf rfl) (by decide) ?_; clear hf a; intro a hf
      refine callL hf hs (c_isFlap _ _ _ _ _ _ _ _ _ (by omega) _) rfl rfl rfl E122 (by decide) ?_; clear hs hf a; intro w a hs hf
      refine gL hf (g_not hf rfl) (by decide) ?_; clear hf a; intro a hf
      refine gL hf (g_mv hf rfl) (by decide) ?_; clear hf a; intro a hf
      refine ggL hf rfl rfl (gyes_f _) (fun hg => g_mv hf rfl) (by decide) ?_; clear hf a; intro a hf
      refine ggL hf rfl rfl (gyes_f _) (fun hg => g_ixA hf AR126 rfl (ev_gv rfl hg) (by have h8 := flap_rng hg; omega)) (by decide) ?_; clear hf a; intro a hf
      refine ggL hf rfl rfl (gyes_f _) (fun hg => g_ld hf hs T4 (ev_gv rfl hg) (k := 0) rfl (dn_get (marks_len _) (by have h8 := flap_rng hg; omega))) (by decide) ?_; clear hf a; intro a hf
      refine gL hf (g_or hf rfl rfl) (by decide) ?_; clear hf a; intro a hf
      refine e_nil ?_
      refine c_cond hf rfl (fun hc3 => ?_) (fun hc3 => ?_)
      · skip
        have hno : (flapB b.flaps.length (l.getD k default) && !decide (l.getD k default ∈ l.take k)) = false := by
              cases hfl : flapB b.flaps.length (l.getD k default) with
              | false => rfl
              | true =>
                have h1 := fitsB_iff.1 hfl
                rw [hfl, marks_get (fun x hx => (hrg x hx).1) (by omega), Int.toNat_of_nonneg h1.1] at hc3
                simpa using hc3
        refine c_reg ?_
        refine gL hf (g_as hf rfl) (by decide) ?_; clear hf a; intro a hf
        refine e_nil ?_
        refine c_ret (q_thenR (q_blkR (q_thenR (q_thenR (q_blkR (q_thenR ?_))))))
        refine e_ret1 hf rfl rfl ?_
        exact ⟨by rw [ord_no (k := k) (by omega) hno], hs.below⟩
      · skip
        have hfl : flapB b.flaps.length (l.getD k default) = true := by cases h9 : flapB b.flaps.length (l.getD k default) <;> simp_all
        have h1 := fitsB_iff.1 hfl
        have hok : (flapB b.flaps.length (l.getD k default) && !decide (l.getD k default ∈ l.take k)) = true := by
              rw [hfl, marks_get (fun x hx => (hrg x hx).1) (by omega), Int.toNat_of_nonneg h1.1] at hc3
              rw [hfl]; simpa using hc3
        refine c_skip (q_thenN ?_)
        refine c_reg1 ?_
        refine gL hf (g_mv hf rfl) (by decide) ?_; clear hf a; intro a hf
        refine gL hf (g_ixA hf AR126 rfl rfl (by omega)) (by decide) ?_; clear hf a; intro a hf
        refine uL (u_st hf hs T4 rfl rfl rfl (k := 0) rfl (by rw [dn_size, marks_len]; omega)) ?_; clear hs; intro w hs; dsimp only [List.set] at hs
        rw [dn_set] at hs
        refine e_nil1 (q_blkN (q_thenN ?_))
        refine c_reg1 ?_
        refine gL hf (g_addI hf rfl rfl (by omega)) (by decide) ?_; clear hf a; intro a hf
        refine gL hf (g_mv hf rfl) (by decide) ?_; clear hf a; intro a hf
        refine e_nil1 (q_thenN ?_)
        rw [← marks_take (by omega)] at hs
        exact ⟨k + 1, ⟨by omega, lt_succ hp hok⟩, (by omega), hf.back (by repeat (first | (with_reducible exact Ext.base) | ((with_reducible refine Ext.cons ?_ ?_); (· rfl)) | ((with_reducible refine Ext.over ?_ ?_ ?_); (· rfl); (· rfl)))) (allKeys rfl) (.cons rfl .nil), hs.dropN 0⟩
    · try simp only [decide_eq_true_eq, decide_eq_false_iff_not] at hc2
      refine c_exit (q_thenX (q_thenX (q_blkX (q_thenN ?_))))
      refine c_draw _ 4 Mx rfl hs (fun _ h => h) ?_; intro w hs hS
      refine gA hf hS (i := 0) rfl (by kernel_rfl) (fun w hs => g_ldW hf hs T126 rfl (k := 0) rfl (by rw [dn_size, marks_len])) (by decide) ?_; clear hf a; intro a hf
      refine one (i := 1) (by kernel_rfl) ?_
      refine oCall hf hs rfl (c_none _) rfl rfl rfl E108 (by decide) (fun _ h => h.sub (.refl _)) ?_; clear hs hf hS a; intro w a hs hS hf
      refine gA hf hS (i := 2) rfl (by kernel_rfl) (fun w hs => g_neN hf NN102 (marks_len _) rfl rfl) (by decide) ?_; clear hf a; intro a hf
      refine gA hf hS (i := 3) rfl (by kernel_rfl) (fun w hs => g_as hf rfl) (by decide) ?_; clear hf a; intro a hf
      refine e_done (by kernel_rfl) ?_
      refine c_ret ?_
      refine e_ret1 hf rfl rfl ?_
      refine ⟨?_, hs.below⟩
      have hk9 : k = l.length := by omega
      subst hk9
      rw [marks_any (l := l.take l.length) (by rw [List.take_length]; intro e; rw [e] at hlen; simp at hlen; omega) hrg, ord_yes hlen hp]

end Go.Proofs.YtjjcopeedcdokaaDoor

set_option linter.unusedVariables false
namespace Go.Proofs.YtjjcopeedcdokaaDoor
open Go.RowKit
theorem E163 : Enters Tryd.prog 163 := fun _ _ => by kernel_rfl
theorem E164 : Enters Tryd.prog 164 := fun _ _ => by kernel_rfl
theorem E165 : Enters Tryd.prog 165 := fun _ _ => by kernel_rfl
theorem E166 : Enters Tryd.prog 166 := fun _ _ => by kernel_rfl
theorem E134' : Enters Tryd.prog 134 := fun _ _ => by kernel_rfl
theorem E135' : Enters Tryd.prog 135 := fun _ _ => by kernel_rfl
theorem c_side (b : Sheet) (fA : Option Addr) (fc : Nat) (rA : Option Addr) (rc : Nat) (mp : Option Nat) (x : Flap) (r : Int) (h1 : 0 ≤ b.wide ∧ b.wide ≤ 99) (h2 : 0 ≤ b.high ∧ b.high ≤ 99) (h3 : 0 ≤ r ∧ r ≤ 99) (hx : 0 ≤ x.side ∧ x.side < 4) (w : World) :
    Calls Tryd.prog (163 + x.side.toNat) #[.agg #[.int .i64 b.wide, .int .i64 b.high, .slice fA b.flaps.length fc, .slice rA b.rules.length rc, .map mp], .agg #[.int .i64 x.side, .int .i64 x.rl, .int .i64 x.rh, .int .i64 x.al, .int .i64 x.ah], .int .i64 r] w (Ret w (.agg (encA b x r).toArray)) := by
  have : x.side = 0 ∨ x.side = 1 ∨ x.side = 2 ∨ x.side = 3 := by omega
  rcases this with h | h | h | h
  · have := c_left b.wide b.high fA b.flaps.length fc rA b.rules.length rc mp x r h1 h2 h3 w
    rw [show 163 + x.side.toNat = 163 by omega]
    rwa [show (encA b x r).toArray = #[.int .i64 0, .int .i64 (r - 1), .int .i64 x.al, .int .i64 x.ah] by simp [encA, colLo, colHi, rowLo, rowHi, h]]
  · have := c_right b.wide b.high fA b.flaps.length fc rA b.rules.length rc mp x r h1 h2 h3 w
    rw [show 163 + x.side.toNat = 164 by omega]
    rwa [show (encA b x r).toArray = #[.int .i64 (b.wide - r), .int .i64 (b.wide - 1), .int .i64 x.al, .int .i64 x.ah] by simp [encA, colLo, colHi, rowLo, rowHi, h]]
  · have := c_top b.wide b.high fA b.flaps.length fc rA b.rules.length rc mp x r h1 h2 h3 w
    rw [show 163 + x.side.toNat = 165 by omega]
    rwa [show (encA b x r).toArray = #[.int .i64 x.al, .int .i64 x.ah, .int .i64 0, .int .i64 (r - 1)] by simp [encA, colLo, colHi, rowLo, rowHi, h]]
  · have := c_bottom b.wide b.high fA b.flaps.length fc rA b.rules.length rc mp x r h1 h2 h3 w
    rw [show 163 + x.side.toNat = 166 by omega]
    rwa [show (encA b x r).toArray = #[.int .i64 x.al, .int .i64 x.ah, .int .i64 (b.high - r), .int .i64 (b.high - 1)] by simp [encA, colLo, colHi, rowLo, rowHi, h]]
theorem e_side {x : Flap} (hx : 0 ≤ x.side ∧ x.side < 4) : Enters Tryd.prog (163 + x.side.toNat) := by
  have : x.side = 0 ∨ x.side = 1 ∨ x.side = 2 ∨ x.side = 3 := by omega
  rcases this with h | h | h | h
  · rw [show 163 + x.side.toNat = 163 by omega]; exact E163
  · rw [show 163 + x.side.toNat = 164 by omega]; exact E164
  · rw [show 163 + x.side.toNat = 165 by omega]; exact E165
  · rw [show 163 + x.side.toNat = 166 by omega]; exact E166
/-- The function that says how far a flap is taken to reach. -/
def byF (m : Bool) : Nat := if m then 135 else 134
theorem c_by (m : Bool) (x : Flap) (w : World) : Calls Tryd.prog (byF m) #[.agg #[.int .i64 x.rl, .int .i64 x.rh]] w (Ret w (.int .i64 (farF x m))) := by
  cases m
  · exact c_least1 _ _ _
  · exact c_most1 _ _ _
theorem e_by (m : Bool) : Enters Tryd.prog (byF m) := by
  cases m
  · exact E134'
  · exact E135'
theorem by_get {q : Nat} (h : q < 2) : ∀ j v, [Value.func (.func (byF (decide (q = 1)))) #[] #[]][j]? = some v → (#[Value.func (.func 134) #[] #[], .func (.func 135) #[] #[]])[0 + ((q : Nat) : Int).toNat * 1 + j]? = some v := by
  intro j v hj
  cases j with
  | succ j => simp at hj
  | zero =>
    match q, h with
    | 0, _ => simpa [byF] using hj
    | 1, _ => simpa [byF] using hj
theorem flapA_mem {b : Sheet} {i : Int} (h : inN b i) : flapA b i ∈ b.flaps := getD_mem (by have := h.1; have := h.2; omega)
theorem pI_in {b : Sheet} {i j : Int} (hi : inN b i) (hj : inN b j) (k : Nat) : inN b (pI i j k) := by unfold pI; split <;> assumption
end Go.Proofs.YtjjcopeedcdokaaDoor

set_option linter.unusedVariables false
set_option linter.unusedSimpArgs false
namespace Go.Proofs.YtjjcopeedcdokaaDoor
open Go.RowKit
theorem c_touch (b : Sheet) (fA : Option Addr) (fc : Nat) (rA : Option Addr) (rc : Nat) (mo : Option Nat) (ge : TypeId) (gz : Nat × Nat) (i j : Int) (m : Bool) (hv : Valid b) (hi : inN b i) (hj : inN b j) (w0 : World) (h : ShIn b fA fc rA rc w0) (hG : BlkIs 1 sidesA ge gz w0) :
    Calls Tryd.prog 126 #[.agg #[.int .i64 b.wide, .int .i64 b.high, .slice fA b.flaps.length fc, .slice rA b.rules.length rc, .map mo], .agg #[.int .i64 i, .int .i64 j], .agg #[.func (.func (byF m)) #[] #[]]] w0 (Ret w0 (.bool (touchB b i j m))) := by
  refine c_enter (n := 57) Tryd.func126 rfl rfl (Nat.le_of_ble_eq_true rfl) ?_; intro a hf; simp only [zipR] at hf
  have hs := St.start w0 [Rd encF 5 fA b.flaps.length b.flaps, Rd encR 2 rA b.rules.length b.rules, BlkIs 1 sidesA ge gz] (stab_app h.stab hG.st1)
  have hfm := h.F.2.1; have hrm := h.R.2.1
  have hw1 := hv.wide; have hw2 := hv.high
  refine c_reg ?_
  refine vL hf (v_boxA hf hs rfl) (by decide) ?_; clear hs hf a; rintro _ w ⟨b1, rfl, hs⟩ a hf
  refine vL hf (v_boxA hf hs rfl) (by decide) ?_; clear hs hf a; rintro _ w ⟨b2, rfl, hs⟩ a hf
  refine vL hf (v_boxA hf hs rfl) (by decide) ?_; clear hs hf a; rintro _ w ⟨b3, rfl, hs⟩ a hf
  refine gL hf (g_as hf rfl) (by decide) ?_; clear hf a; intro a hf
  refine e_nil ?_
  refine c_reg ?_
  refine vL hf (v_alloc hs T160 rfl) (by decide) ?_; clear hs hf a; rintro _ w ⟨b4, rfl, hs⟩ a hf
  refine e_nil ?_
  refine wp_seq ?_
  refine c_reg ?_
  refine gL hf (g_fa (off' := 0) hf F114_0 rfl rfl) (by decide) ?_; clear hf a; intro a hf
  refine gL hf (g_ld hf hs T3 rfl (k := 2) rfl rfl) (by decide) ?_; clear hf a; intro a hf
  refine gL hf (g_fa (off' := 1) hf F114_1 rfl rfl) (by decide) ?_; clear hf a; intro a hf
  refine gL hf (g_ld hf hs T3 rfl (k := 2) rfl rfl) (by decide) ?_; clear hf a; intro a hf
  refine gL hf (g_bld hf [[.int .i64 0], [.int .i64 0]] (.cons rfl (.cons rfl .nil)) (fun _ => by kernel_rfl)) (by decide) ?_; clear hf a; intro a hf
  refine gL hf (g_mv hf rfl) (by decide) ?_; clear hf a; intro a hf
  refine e_nil ?_
  refine c_block ?_
  have e0 : (#[.int .i64 0, .int .i64 0, .int .i64 0, .int .i64 0, .int .i64 0, .int .i64 0, .int .i64 0, .int .i64 0] : Array Value) = arC b i j m 0 := rfl
  rw [e0] at hs
  refine c_loop hf hs (List.range' 8 3 ++ List.range' 16 25) (σ := Nat) (fun k => [(16, .int .i64 (k : Nat))]) (fun k => [(b4, .cells (arC b i j m k) 160 (0, 0)), (b3, .cells #[.func (.func (byF m)) #[] #[]] 149 (0, 0)), (b2, .cells #[.int .i64 i, .int .i64 j] 114 (0, 0)), (b1, .cells #[.int .i64 b.wide, .int .i64 b.high, .slice fA b.flaps.length fc, .slice rA b.rules.length rc, .map mo] 80 (0, 0))]) (fun k => k ≤ 2) (fun k => 2 - k) 0 (by omega) (.cons rfl .nil) rfl ?_
  intro k a w hJ hf hs
  have hp := pI_in hi hj k; have hpm := flapA_mem hp; have hfl := hv.flap _ hpm; have hfar := hv.far hpm m; have hp1 := hp.1; have hp2 := hp.2
  simp only [flapA] at hfl hfar
  refine c_reg ?_
  refine gL hf (g_lss hf rfl rfl) (by decide) ?_; clear hf a; intro a hf
  refine e_nil ?_
  refine c_condS hf rfl (fun hc1 => ?_) (fun hc1 => ?_)
  · try simp only [decide_eq_true_eq, decide_eq_false_iff_not] at hc1
    refine c_skip (q_thenN ?_)
    refine c_blockS ?_
    refine c_reg ?_
    refine gL hf (g_mv hf rfl) (by decide) ?_; clear hf a; intro a hf
    refine gL hf (g_idx hf AR161 T3.agg rfl rfl (by omega) (idx2 (by omega))) (by decide) ?_; clear hf a; intro a hf
    refine gL hf (g_as hf rfl) (by decide) ?_; clear hf a; intro a hf
    refine gL hf (g_as hf rfl) (by decide) ?_; clear hf a; intro a hf
    refine e_nil ?_
    refine c_reg ?_
    refine gL hf (g_fa (off' := 0) hf F80_0 rfl rfl) (by decide) ?_; clear hf a; intro a hf
    refine gL hf (g_fa (off' := 2) hf F25_2 rfl rfl) (by decide) ?_; clear hf a; intro a hf
    refine gL hf (g_ld hf hs T22 rfl (k := 3) rfl rfl) (by decide) ?_; clear hf a; intro a hf
    refine gL hf (g_mv hf rfl) (by decide) ?_; clear hf a; intro a hf
    (first | (refine gL hf (g_ixE hf hs (.head _) SL22 rfl rfl (by omega)) (by decide) ?_) | (refine gL hf (g_ixD hf hs (.head _) SL22 rfl rfl (by omega)) (by decide) ?_)); clear hf a; intro a hf
    refine gL hf (g_ldEW hf hs (.head _) T117 rfl rfl (by omega)) (by decide) ?_; clear hf a; intro a hf
    refine vL hf (v_alloc hs T117 rfl) (by decide) ?_; clear hs hf a; rintro _ w ⟨b5, rfl, hs⟩ a hf
    refine uL (u_stW hf hs T117 rfl rfl rfl (k := 0) rfl rfl rfl) ?_; clear hs; intro w hs; dsimp only [List.set] at hs
    refine e_nil ?_
    refine c_draw1 _ 15 Mx rfl hs (fun _ h => h.sub (.cons_cons _ (.cons _ (.refl _)))) ?_; intro w hs hS
    refine gA hf hS (i := 0) rfl (by kernel_rfl) (fun w hs => g_mv hf rfl) (by decide) ?_; clear hf a; intro a hf
    refine gA hf hS (i := 1) rfl (by kernel_rfl) (fun w hs => g_fa (off' := 0) hf F117_0 rfl rfl) (by decide) ?_; clear hf a; intro a hf
    refine gA hf hS (i := 2) rfl (by kernel_rfl) (fun w hs => g_ld hf hs T3 rfl (k := 0) rfl rfl) (by decide) ?_; clear hf a; intro a hf
    refine gA hf hS (i := 3) rfl (by kernel_rfl) (fun w hs => g_ixA hf AR163 rfl rfl (by omega)) (by decide) ?_; clear hf a; intro a hf
    refine gA hf hS (i := 4) rfl (by kernel_rfl) (fun w hs => g_ldB hf hs (.tail _ (.tail _ (.head _))) T162 rfl (sides_get (by omega))) (by decide) ?_; clear hf a; intro a hf
    refine gA hf hS (i := 5) rfl (by kernel_rfl) (fun w hs => g_ldW hf hs T80 rfl (k := 3) rfl rfl) (by decide) ?_; clear hf a; intro a hf
    refine gA hf hS (i := 6) rfl (by kernel_rfl) (fun w hs => g_ldW hf hs T117 rfl (k := 0) rfl rfl) (by decide) ?_; clear hf a; intro a hf
    refine gA hf hS (i := 7) rfl (by kernel_rfl) (fun w hs => g_fa (off' := 0) hf F149_0 rfl rfl) (by decide) ?_; clear hf a; intro a hf
    refine gA hf hS (i := 8) rfl (by kernel_rfl) (fun w hs => g_ld hf hs T147 rfl (k := 1) rfl rfl) (by decide) ?_; clear hf a; intro a hf
    refine gA hf hS (i := 9) rfl (by kernel_rfl) (fun w hs => g_fa (off' := 1) hf F117_1 rfl rfl) (by decide) ?_; clear hf a; intro a hf
    refine gA hf hS (i := 10) rfl (by kernel_rfl) (fun w hs => g_ldP hf hs T40 rfl (k := 0) rfl rfl) (by decide) ?_; clear hf a; intro a hf
    refine one (i := 11) (by kernel_rfl) ?_
    refine oCall hf hs rfl (c_by m (b.flaps.getD (pI i j k).toNat default) _) rfl rfl rfl (e_by m) (by decide) (fun _ h => h.sub (.cons_cons _ (.cons _ (.refl _)))) ?_; clear hs hf hS a; intro w a hs hS hf
    refine one (i := 12) (by kernel_rfl) ?_
    refine oCall hf hs rfl (c_side b _ _ _ _ _ (b.flaps.getD (pI i j k).toNat default) _ (by omega) (by omega) (by omega) (by omega) _) rfl rfl rfl (e_side (by omega)) (by decide) (fun _ h => h.sub (.cons_cons _ (.cons _ (.refl _)))) ?_; clear hs hf hS a; intro w a hs hS hf
    refine gA hf hS (i := 13) rfl (by kernel_rfl) (fun w hs => g_ixA hf AR160 rfl rfl (by omega)) (by decide) ?_; clear hf a; intro a hf
    refine one (i := 14) (by kernel_rfl) ?_
    refine oU rfl (u_stA hf hs T159 rfl rfl rfl (k := 1) rfl rfl (by rw [arC_size]; show 0 + ((k : Nat) : Int).toNat * 4 + 4 ≤ 8; omega)) (fun _ h => h.sub (.cons_cons _ (.cons _ (.refl _)))) ?_; clear hs hS; intro w hs hS; dsimp only [List.set] at hs
    rw [arC_splat (by omega)] at hs
    refine e_done1 (by kernel_rfl) ?_
    refine q_blkN (q_thenN ?_)
    refine c_reg1 ?_
    refine gL hf (g_addI hf rfl rfl (by omega)) (by decide) ?_; clear hf a; intro a hf
    refine gL hf (g_mv hf rfl) (by decide) ?_; clear hf a; intro a hf
    refine e_nil1 (q_thenN ?_)
    exact ⟨k + 1, (by omega), (by omega), hf.back (by repeat (first | (with_reducible exact Ext.base) | ((with_reducible refine Ext.cons ?_ ?_); (· rfl)) | ((with_reducible refine Ext.over ?_ ?_ ?_); (· rfl); (· rfl)))) (allKeys rfl) (.cons rfl .nil), hs.dropN 1⟩
  · try simp only [decide_eq_true_eq, decide_eq_false_iff_not] at hc1
    obtain rfl : k = 2 := by omega
    refine c_exit (q_thenX (q_thenX (q_blkX (q_thenN ?_))))
    refine c_reg ?_
    refine gL hf (g_ixA hf AR160 rfl rfl (by omega)) (by decide) ?_; clear hf a; intro a hf
    refine gL hf (g_fa (off' := 0) hf F159_0 rfl rfl) (by decide) ?_; clear hf a; intro a hf
    refine gL hf (g_ldP hf hs T40 rfl (k := 0) rfl rfl) (by decide) ?_; clear hf a; intro a hf
    refine gL hf (g_ixA hf AR160 rfl rfl (by omega)) (by decide) ?_; clear hf a; intro a hf
    refine gL hf (g_fa (off' := 4) hf F159_0 rfl rfl) (by decide) ?_; clear hf a; intro a hf
    refine gL hf (g_ldP hf hs T40 rfl (k := 0) rfl rfl) (by decide) ?_; clear hf a; intro a hf
    refine callL hf hs (c_overlaps _ _ _ _ _) rfl rfl rfl E136 (by decide) ?_; clear hs hf a; intro w a hs hf
    refine gL hf (g_mv hf rfl) (by decide) ?_; clear hf a; intro a hf
    refine ggL hf rfl rfl (gyes_t _) (fun hg => g_ixA hf AR160 rfl rfl (by omega)) (by decide) ?_; clear hf a; intro a hf
    refine ggL hf rfl rfl (gyes_t _) (fun hg => g_fa (off' := 2) hf F159_1 (ev_gv rfl hg) rfl) (by decide) ?_; clear hf a; intro a hf
    refine ggL hf rfl rfl (gyes_t _) (fun hg => g_ldP hf hs T40 (ev_gv rfl hg) (k := 0) rfl rfl) (by decide) ?_; clear hf a; intro a hf
    refine ggL hf rfl rfl (gyes_t _) (fun hg => g_ixA hf AR160 rfl rfl (by omega)) (by decide) ?_; clear hf a; intro a hf
    refine ggL hf rfl rfl (gyes_t _) (fun hg => g_fa (off' := 6) hf F159_1 (ev_gv rfl hg) rfl) (by decide) ?_; clear hf a; intro a hf
    refine ggL hf rfl rfl (gyes_t _) (fun hg => g_ldP hf hs T40 (ev_gv rfl hg) (k := 0) rfl rfl) (by decide) ?_; clear hf a; intro a hf
    refine callG hf hs rfl rfl (gyes_t _) (fun hg => ⟨_, _, _, _, c_overlaps _ _ _ _ _, rfl, evs_cons (ev_gv rfl hg) (evs_cons (ev_gv rfl hg) evs_nil), rfl⟩) E136 (by decide) ?_; clear hs hf a; intro w a hs hf
    refine gL hf (g_and hf rfl rfl) (by decide) ?_; clear hf a; intro a hf
    refine gL hf (g_as hf rfl) (by decide) ?_; clear hf a; intro a hf
    refine e_nil ?_
    refine c_ret ?_
    refine e_ret1 hf rfl rfl ?_
    exact ⟨rfl, hs.below⟩

end Go.Proofs.YtjjcopeedcdokaaDoor

set_option linter.unusedVariables false
set_option linter.unusedSimpArgs false
namespace Go.Proofs.YtjjcopeedcdokaaDoor
open Go.RowKit
theorem c_opened (b : Sheet) (fA : Option Addr) (fc : Nat) (rA : Option Addr) (rc : Nat) (ge : TypeId) (gz : Nat × Nat) (hv : Valid b) (w0 : World) (h : ShIn b fA fc rA rc w0) (hG : BlkIs 1 sidesA ge gz w0) :
    Calls Tryd.prog 102 #[.agg #[.int .i64 b.wide, .int .i64 b.high, .slice fA b.flaps.length fc, .slice rA b.rules.length rc]] w0 (RetX w0 (fun v w0' => ∃ mb mp, v = .agg #[.int .i64 b.wide, .int .i64 b.high, .slice fA b.flaps.length fc, .slice rA b.rules.length rc, .map (some mb)] ∧ meetsOK b mp ∧ w0.heap.size ≤ mb ∧ MapIs mb mp w0')) := by
  refine c_enter (n := 55) Tryd.func102 rfl rfl (Nat.le_of_ble_eq_true rfl) ?_; intro a hf; simp only [zipR] at hf
  have hs := St.start w0 [Rd encF 5 fA b.flaps.length b.flaps, Rd encR 2 rA b.rules.length b.rules, BlkIs 1 sidesA ge gz] (stab_app h.stab hG.st1)
  have hfm := h.F.2.1; have hrm := h.R.2.1
  refine c_reg ?_
  refine vL hf (v_boxA hf hs rfl) (by decide) ?_; clear hs hf a; rintro _ w ⟨b1, rfl, hs⟩ a hf
  refine vL hf (v_alloc hs T80 rfl) (by decide) ?_; clear hs hf a; rintro _ w ⟨b2, rfl, hs⟩ a hf
  refine e_nil ?_
  refine c_reg ?_
  refine gL hf (g_ldW hf hs T25 rfl (k := 1) rfl rfl) (by decide) ?_; clear hf a; intro a hf
  refine vL hf (v_mapM hs) (by decide) ?_; clear hs hf a; rintro _ w ⟨b3, rfl, hs⟩ a hf
  refine gL hf (g_bld hf [[.int .i64 0, .int .i64 0, .slice none 0 0, .slice none 0 0], [.map none]] (.cons rfl (.cons rfl .nil)) (fun _ => by kernel_rfl)) (by decide) ?_; clear hf a; intro a hf
  refine vL hf (v_alloc hs T80 rfl) (by decide) ?_; clear hs hf a; rintro _ w ⟨b4, rfl, hs⟩ a hf
  refine uL (u_stW hf hs T80 rfl rfl rfl (k := 0) rfl rfl rfl) ?_; clear hs; intro w hs; dsimp only [List.set] at hs
  refine e_nil ?_
  refine wp_seq ?_
  refine c_reg ?_
  refine gL hf (g_fa (off' := 2) hf F25_2 rfl rfl) (by decide) ?_; clear hf a; intro a hf
  refine gL hf (g_ld hf hs T22 rfl (k := 3) rfl rfl) (by decide) ?_; clear hf a; intro a hf
  refine gL hf (g_len hf SL22 rfl) (by decide) ?_; clear hf a; intro a hf
  refine gL hf (g_mv hf rfl) (by decide) ?_; clear hf a; intro a hf
  refine e_nil ?_
  refine c_block ?_
  refine c_loop hf hs (List.range' 4 3 ++ List.range' 8 1 ++ List.range' 15 39) (σ := (Nat × MP)) (fun s => [(15, .int .i64 (s.1 : Nat))]) (fun s => [(b4, .cells #[.int .i64 b.wide, .int .i64 b.high, .slice fA b.flaps.length fc, .slice rA b.rules.length rc, .map (some b3)] 80 (0, 0)), (b3, mapO s.2), (b2, .cells #[.int .i64 0, .int .i64 0, .slice none 0 0, .slice none 0 0, .map none] 80 (0, 0)), (b1, .cells #[.int .i64 b.wide, .int .i64 b.high, .slice fA b.flaps.length fc, .slice rA b.rules.length rc] 25 (0, 0))]) (fun s => s.1 ≤ b.flaps.length ∧ cntI b s.1 0 0 s.2) (fun s => b.flaps.length - s.1) (0, []) ⟨Nat.zero_le _, cnt_start b⟩ (.cons rfl .nil) rfl ?_
  intro ⟨i, mp1⟩ a w hJ hf hs
  dsimp only at hJ hf hs
  obtain ⟨hi, hc1n⟩ := hJ
  refine c_reg ?_
  refine gL hf (g_lss hf rfl rfl) (by decide) ?_; clear hf a; intro a hf
  refine e_nil ?_
  refine c_condS hf rfl (fun hc1 => ?_) (fun hc1 => ?_)
  · try simp only [decide_eq_true_eq, decide_eq_false_iff_not] at hc1
    refine c_skip (q_thenN ?_)
    refine c_blockS ?_
    refine c_reg ?_
    refine gL hf (g_mv hf rfl) (by decide) ?_; clear hf a; intro a hf
    refine gL hf (g_as hf rfl) (by decide) ?_; clear hf a; intro a hf
    refine e_nil ?_
    refine c_reg ?_
    refine gL hf (g_fa (off' := 2) hf F25_2 rfl rfl) (by decide) ?_; clear hf a; intro a hf
    refine gL hf (g_ld hf hs T22 rfl (k := 3) rfl rfl) (by decide) ?_; clear hf a; intro a hf
    refine gL hf (g_len hf SL22 rfl) (by decide) ?_; clear hf a; intro a hf
    refine gL hf (g_mv hf rfl) (by decide) ?_; clear hf a; intro a hf
    refine e_nil ?_
    refine c_block ?_
    refine c_loop hf hs (List.range' 5 2 ++ List.range' 8 1 ++ List.range' 21 32) (σ := (Nat × MP)) (fun s => [(21, .int .i64 (s.1 : Nat))]) (fun s => [(b4, .cells #[.int .i64 b.wide, .int .i64 b.high, .slice fA b.flaps.length fc, .slice rA b.rules.length rc, .map (some b3)] 80 (0, 0)), (b3, mapO s.2), (b2, .cells #[.int .i64 0, .int .i64 0, .slice none 0 0, .slice none 0 0, .map none] 80 (0, 0)), (b1, .cells #[.int .i64 b.wide, .int .i64 b.high, .slice fA b.flaps.length fc, .slice rA b.rules.length rc] 25 (0, 0))]) (fun s => s.1 ≤ b.flaps.length ∧ cntI b i s.1 0 s.2) (fun s => b.flaps.length - s.1) (0, mp1) ⟨Nat.zero_le _, hc1n⟩ (.cons rfl .nil) rfl ?_
    intro ⟨j, mp2⟩ a w hJ hf hs
    dsimp only at hJ hf hs
    obtain ⟨hj, hc2n⟩ := hJ
    refine c_reg ?_
    refine gL hf (g_lss hf rfl rfl) (by decide) ?_; clear hf a; intro a hf
    refine e_nil ?_
    refine c_condS hf rfl (fun hc2 => ?_) (fun hc2 => ?_)
    · try simp only [decide_eq_true_eq, decide_eq_false_iff_not] at hc2
      have hin : inN b ((i : Nat) : Int) := ⟨by omega, by omega⟩; have hjn : inN b ((j : Nat) : Int) := ⟨by omega, by omega⟩
      refine c_skip (q_thenN ?_)
      refine c_blockS ?_
      refine c_reg ?_
      refine gL hf (g_mv hf rfl) (by decide) ?_; clear hf a; intro a hf
      refine gL hf (g_as hf rfl) (by decide) ?_; clear hf a; intro a hf
      refine e_nil ?_
      refine c_reg ?_
      refine gL hf (g_mv hf rfl) (by decide) ?_; clear hf a; intro a hf
      refine gL hf (g_mv hf rfl) (by decide) ?_; clear hf a; intro a hf
      refine gL hf (g_bld hf [[.int .i64 0], [.int .i64 0]] (.cons rfl (.cons rfl .nil)) (fun _ => by kernel_rfl)) (by decide) ?_; clear hf a; intro a hf
      refine vL hf (v_alloc hs T114 rfl) (by decide) ?_; clear hs hf a; rintro _ w ⟨b5, rfl, hs⟩ a hf
      refine uL (u_stW hf hs T114 rfl rfl rfl (k := 0) rfl rfl rfl) ?_; clear hs; intro w hs; dsimp only [List.set] at hs
      refine e_nil ?_
      refine c_reg ?_
      refine callL hf hs (c_least _) rfl rfl rfl E124 (by decide) ?_; clear hs hf a; intro w a hs hf
      refine callL hf hs (c_most _) rfl rfl rfl E125 (by decide) ?_; clear hs hf a; intro w a hs hf
      refine vL hf (v_lits (len := 2) hf hs SL151 T149 (.cons rfl (.cons rfl .nil)) rfl rfl rfl rfl (by decide) rfl) (by decide) ?_; clear hs hf a; rintro _ w ⟨b6, rfl, hs⟩ a hf
      refine gL hf (g_len hf SL151 rfl) (by decide) ?_; clear hf a; intro a hf
      refine gL hf (g_mv hf rfl) (by decide) ?_; clear hf a; intro a hf
      refine e_nil ?_
      refine c_block ?_
      refine c_loop hf hs [8, 31, 32, 33, 34, 35, 36, 37, 38, 39, 40, 41, 42, 43, 44, 45, 46, 47, 48, 49, 50, 51] (σ := (Nat × MP)) (fun s => [(31, .int .i64 (s.1 : Nat))]) (fun s => (b6, .cells #[.func (.func 134) #[] #[], .func (.func 135) #[] #[]] 149 (0, 0)) :: (b5, .cells #[.int .i64 (i : Nat), .int .i64 (j : Nat)] 114 (0, 0)) :: [(b4, .cells #[.int .i64 b.wide, .int .i64 b.high, .slice fA b.flaps.length fc, .slice rA b.rules.length rc, .map (some b3)] 80 (0, 0)), (b3, mapO s.2), (b2, .cells #[.int .i64 0, .int .i64 0, .slice none 0 0, .slice none 0 0, .map none] 80 (0, 0)), (b1, .cells #[.int .i64 b.wide, .int .i64 b.high, .slice fA b.flaps.length fc, .slice rA b.rules.length rc] 25 (0, 0))]) (fun s => s.1 ≤ 2 ∧ cntI b i j s.1 s.2) (fun s => 2 - s.1) (0, mp2) ⟨Nat.zero_le _, hc2n⟩ (.cons rfl .nil) rfl ?_
      intro ⟨q, mp3⟩ a w hJ hf hs
      dsimp only at hJ hf hs
      obtain ⟨hq, hc3n⟩ := hJ
      refine c_reg ?_
      refine gL hf (g_lss hf rfl rfl) (by decide) ?_; clear hf a; intro a hf
      refine e_nil ?_
      refine c_condS hf rfl (fun hc3 => ?_) (fun hc3 => ?_)
      · try simp only [decide_eq_true_eq, decide_eq_false_iff_not] at hc3
        refine c_skip (q_thenN ?_)
        refine c_blockS ?_
        refine c_reg ?_
        refine gL hf (g_ixO hf SL151 rfl rfl (by omega)) (by decide) ?_; clear hf a; intro a hf
        refine gL hf (g_ldA hf hs T149 rfl (k := 0) rfl (vs := [.func (.func (byF (decide (q = 1)))) #[] #[]]) rfl (by_get (by omega))) (by decide) ?_; clear hf a; intro a hf
        refine vL hf (v_alloc hs T149 rfl) (by decide) ?_; clear hs hf a; rintro _ w ⟨b7, rfl, hs⟩ a hf
        refine uL (u_stW hf hs T149 rfl rfl rfl (k := 0) rfl rfl rfl) ?_; clear hs; intro w hs; dsimp only [List.set] at hs
        refine e_nil ?_
        refine c_reg ?_
        refine gL hf (g_mv hf rfl) (by decide) ?_; clear hf a; intro a hf
        refine gL hf (g_mv hf rfl) (by decide) ?_; clear hf a; intro a hf
        refine gL hf (g_neq hf rfl rfl) (by decide) ?_; clear hf a; intro a hf
        refine gL hf (g_mv hf rfl) (by decide) ?_; clear hf a; intro a hf
        refine ggL hf rfl rfl (gyes_t _) (fun hg => g_ldW hf hs T80 rfl (k := 3) rfl rfl) (by decide) ?_; clear hf a; intro a hf
        refine ggL hf rfl rfl (gyes_t _) (fun hg => g_ldW hf hs T114 rfl (k := 2) rfl rfl) (by decide) ?_; clear hf a; intro a hf
        refine ggL hf rfl rfl (gyes_t _) (fun hg => g_ldW hf hs T149 rfl (k := 0) rfl rfl) (by decide) ?_; clear hf a; intro a hf
        refine callG hf hs rfl rfl (gyes_t _) (fun hg => ⟨_, _, _, _, c_touch b _ _ _ _ (some b3) _ _ i j (decide (q = 1)) hv hin hjn _ ⟨hs.rd (.head _), hs.rd (.tail _ (.head _)), h.fc_, h.rc_⟩ (hs.rd (.tail _ (.tail _ (.head _)))), rfl, evs_cons (ev_gv rfl hg) (evs_cons (ev_gv rfl hg) (evs_cons (ev_gv rfl hg) evs_nil)), rfl⟩) E126 (by decide) ?_; clear hs hf a; intro w a hs hf
        refine gL hf (g_and hf rfl rfl) (by decide) ?_; clear hf a; intro a hf
        refine e_nil ?_
        refine c_cond hf rfl (fun hc4 => ?_) (fun hc4 => ?_)
        · skip
          have ht : ((i : Nat) : Int) ≠ ((j : Nat) : Int) ∧ touchB b i j (decide (q = 1)) = true := by simpa only [Bool.and_eq_true, bne_iff_ne] using hc4
          refine c_draw1 _ 8 Mx rfl hs (fun _ h => h.sub (.cons_cons _ (.cons_cons _ (.cons_cons _ (.cons_cons _ (.cons _ (.refl _))))))) ?_; intro w hs hS
          refine gA hf hS (i := 0) rfl (by kernel_rfl) (fun w hs => g_fa (off' := 4) hf F80_1 rfl rfl) (by decide) ?_; clear hf a; intro a hf
          refine gA hf hS (i := 1) rfl (by kernel_rfl) (fun w hs => g_ld hf hs T78 rfl (k := 3) rfl rfl) (by decide) ?_; clear hf a; intro a hf
          refine gA hf hS (i := 2) rfl (by kernel_rfl) (fun w hs => g_ldW hf hs T114 rfl (k := 2) rfl rfl) (by decide) ?_; clear hf a; intro a hf
          refine two (i := 3) (j := 5) (by kernel_rfl) ?_ ?_
          · skip
            refine oV hf rfl (goesV_of_gets (g_lookO hf hs (k := 4) rfl MT78 rfl rfl)) (by decide) (fun _ _ h => by rw [h.2]; exact hS) ?_; rintro _ w ⟨rfl, rfl⟩ hS a hf
            refine gA hf hS (i := 4) rfl (by kernel_rfl) (fun w hs => g_addI hf rfl rfl (by have h8 := cnt_le hc3n i j; first | omega | (rw [mget_put]; omega))) (by decide) ?_; clear hf a; intro a hf
            refine one (i := 5) (by kernel_rfl) ?_
            refine oV hf rfl (v_entry hf hs (k := 4) rfl MT78 rfl rfl) (by decide) (fun _ _ ⟨_, h⟩ => h.sub (.cons_cons _ (.cons_cons _ (.cons_cons _ (.cons_cons _ (.cons _ (.refl _))))))) ?_; clear hs hf hS a; rintro _ w ⟨rfl, hs⟩ hS a hf; dsimp only [List.set] at hs
            refine gA hf hS (i := 6) rfl (by kernel_rfl) (fun w hs => g_ext hf rfl rfl) (by decide) ?_; clear hf a; intro a hf
            refine one (i := 7) (by kernel_rfl) ?_
            refine oU rfl (u_entry hf hs (k := 4) rfl (midx_lt _ _ _) rfl rfl rfl) (fun _ h => h.sub (.cons_cons _ (.cons_cons _ (.cons_cons _ (.cons_cons _ (.cons _ (.refl _))))))) ?_; clear hs hS; intro w hs hS; dsimp only [List.set] at hs
            refine e_done1 (by kernel_rfl) ?_
            refine q_blkN (q_thenN ?_)
            refine c_reg1 ?_
            refine gL hf (g_addI hf rfl rfl (by omega)) (by decide) ?_; clear hf a; intro a hf
            refine gL hf (g_mv hf rfl) (by decide) ?_; clear hf a; intro a hf
            refine e_nil1 (q_thenN ?_)
            first | exact ⟨(q + 1, mset (mput mp3 i j) (midx mp3 i j) (mget mp3 i j + 1)), ⟨by dsimp only; omega, cnt_hit hin hjn (by omega) hc3n ht rfl⟩, (by dsimp only; omega), hf.back (by repeat (first | (with_reducible exact Ext.base) | ((with_reducible refine Ext.cons ?_ ?_); (· rfl)) | ((with_reducible refine Ext.over ?_ ?_ ?_); (· rfl); (· rfl)))) (allKeys rfl) (.cons rfl .nil), hs.dropN 1⟩ | exact ⟨(q + 1, mset (mput mp3 i j) (midx mp3 i j) (mget (mput mp3 i j) i j + 1)), ⟨by dsimp only; omega, cnt_hit hin hjn (by omega) hc3n ht (by rw [mget_put])⟩, (by dsimp only; omega), hf.back (by repeat (first | (with_reducible exact Ext.base) | ((with_reducible refine Ext.cons ?_ ?_); (· rfl)) | ((with_reducible refine Ext.over ?_ ?_ ?_); (· rfl); (· rfl)))) (allKeys rfl) (.cons rfl .nil), hs.dropN 1⟩ | exact ⟨(q + 1, mp3), ⟨by dsimp only; omega, cnt_miss (by omega) hc3n ht⟩, (by dsimp only; omega), hf.back (by repeat (first | (with_reducible exact Ext.base) | ((with_reducible refine Ext.cons ?_ ?_); (· rfl)) | ((with_reducible refine Ext.over ?_ ?_ ?_); (· rfl); (· rfl)))) (allKeys rfl) (.cons rfl .nil), hs.dropN 1⟩
          · skip
            refine oV hf rfl (v_entry hf hs (k := 4) rfl MT78 rfl rfl) (by decide) (fun _ _ ⟨_, h⟩ => h.sub (.cons_cons _ (.cons_cons _ (.cons_cons _ (.cons_cons _ (.cons _ (.refl _))))))) ?_; clear hs hf hS a; rintro _ w ⟨rfl, hs⟩ hS a hf; dsimp only [List.set] at hs
            refine gA hf hS (i := 6) rfl (by kernel_rfl) (fun w hs => g_ext hf rfl rfl) (by decide) ?_; clear hf a; intro a hf
            refine one (i := 3) (by kernel_rfl) ?_
            refine oV hf rfl (goesV_of_gets (g_lookO hf hs (k := 4) rfl MT78 rfl rfl)) (by decide) (fun _ _ h => by rw [h.2]; exact hS) ?_; rintro _ w ⟨rfl, rfl⟩ hS a hf
            refine gA hf hS (i := 4) rfl (by kernel_rfl) (fun w hs => g_addI hf rfl rfl (by have h8 := cnt_le hc3n i j; first | omega | (rw [mget_put]; omega))) (by decide) ?_; clear hf a; intro a hf
            refine one (i := 7) (by kernel_rfl) ?_
            refine oU rfl (u_entry hf hs (k := 4) rfl (midx_lt _ _ _) rfl rfl rfl) (fun _ h => h.sub (.cons_cons _ (.cons_cons _ (.cons_cons _ (.cons_cons _ (.cons _ (.refl _))))))) ?_; clear hs hS; intro w hs hS; dsimp only [List.set] at hs
            refine e_done1 (by kernel_rfl) ?_
            refine q_blkN (q_thenN ?_)
            refine c_reg1 ?_
            refine gL hf (g_addI hf rfl rfl (by omega)) (by decide) ?_; clear hf a; intro a hf
            refine gL hf (g_mv hf rfl) (by decide) ?_; clear hf a; intro a hf
            refine e_nil1 (q_thenN ?_)
            first | exact ⟨(q + 1, mset (mput mp3 i j) (midx mp3 i j) (mget mp3 i j + 1)), ⟨by dsimp only; omega, cnt_hit hin hjn (by omega) hc3n ht rfl⟩, (by dsimp only; omega), hf.back (by repeat (first | (with_reducible exact Ext.base) | ((with_reducible refine Ext.cons ?_ ?_); (· rfl)) | ((with_reducible refine Ext.over ?_ ?_ ?_); (· rfl); (· rfl)))) (allKeys rfl) (.cons rfl .nil), hs.dropN 1⟩ | exact ⟨(q + 1, mset (mput mp3 i j) (midx mp3 i j) (mget (mput mp3 i j) i j + 1)), ⟨by dsimp only; omega, cnt_hit hin hjn (by omega) hc3n ht (by rw [mget_put])⟩, (by dsimp only; omega), hf.back (by repeat (first | (with_reducible exact Ext.base) | ((with_reducible refine Ext.cons ?_ ?_); (· rfl)) | ((with_reducible refine Ext.over ?_ ?_ ?_); (· rfl); (· rfl)))) (allKeys rfl) (.cons rfl .nil), hs.dropN 1⟩ | exact ⟨(q + 1, mp3), ⟨by dsimp only; omega, cnt_miss (by omega) hc3n ht⟩, (by dsimp only; omega), hf.back (by repeat (first | (with_reducible exact Ext.base) | ((with_reducible refine Ext.cons ?_ ?_); (· rfl)) | ((with_reducible refine Ext.over ?_ ?_ ?_); (· rfl); (· rfl)))) (allKeys rfl) (.cons rfl .nil), hs.dropN 1⟩
        · skip
          have ht : ¬ (((i : Nat) : Int) ≠ ((j : Nat) : Int) ∧ touchB b i j (decide (q = 1)) = true) := by rw [← bne_iff_ne, ← Bool.and_eq_true, hc4]; simp
          refine c_skip (q_blkN (q_thenN ?_))
          refine c_reg1 ?_
          refine gL hf (g_addI hf rfl rfl (by omega)) (by decide) ?_; clear hf a; intro a hf
          refine gL hf (g_mv hf rfl) (by decide) ?_; clear hf a; intro a hf
          refine e_nil1 (q_thenN ?_)
          first | exact ⟨(q + 1, mset (mput mp3 i j) (midx mp3 i j) (mget mp3 i j + 1)), ⟨by dsimp only; omega, cnt_hit hin hjn (by omega) hc3n ht rfl⟩, (by dsimp only; omega), hf.back (by repeat (first | (with_reducible exact Ext.base) | ((with_reducible refine Ext.cons ?_ ?_); (· rfl)) | ((with_reducible refine Ext.over ?_ ?_ ?_); (· rfl); (· rfl)))) (allKeys rfl) (.cons rfl .nil), hs.dropN 1⟩ | exact ⟨(q + 1, mset (mput mp3 i j) (midx mp3 i j) (mget (mput mp3 i j) i j + 1)), ⟨by dsimp only; omega, cnt_hit hin hjn (by omega) hc3n ht (by rw [mget_put])⟩, (by dsimp only; omega), hf.back (by repeat (first | (with_reducible exact Ext.base) | ((with_reducible refine Ext.cons ?_ ?_); (· rfl)) | ((with_reducible refine Ext.over ?_ ?_ ?_); (· rfl); (· rfl)))) (allKeys rfl) (.cons rfl .nil), hs.dropN 1⟩ | exact ⟨(q + 1, mp3), ⟨by dsimp only; omega, cnt_miss (by omega) hc3n ht⟩, (by dsimp only; omega), hf.back (by repeat (first | (with_reducible exact Ext.base) | ((with_reducible refine Ext.cons ?_ ?_); (· rfl)) | ((with_reducible refine Ext.over ?_ ?_ ?_); (· rfl); (· rfl)))) (allKeys rfl) (.cons rfl .nil), hs.dropN 1⟩
      · try simp only [decide_eq_true_eq, decide_eq_false_iff_not] at hc3
        obtain rfl : q = 2 := by omega
        refine c_exit (q_thenX (q_thenX (q_blkX (q_blkN (q_thenN ?_)))))
        refine c_reg1 ?_
        refine gL hf (g_addI hf rfl rfl (by omega)) (by decide) ?_; clear hf a; intro a hf
        refine gL hf (g_mv hf rfl) (by decide) ?_; clear hf a; intro a hf
        refine e_nil1 (q_thenN ?_)
        exact ⟨(j + 1, mp3), ⟨by dsimp only; omega, cnt_next hc3n⟩, (by dsimp only; omega), hf.back (by repeat (first | (with_reducible exact Ext.base) | ((with_reducible refine Ext.cons ?_ ?_); (· rfl)) | ((with_reducible refine Ext.over ?_ ?_ ?_); (· rfl); (· rfl)))) (allKeys rfl) (.cons rfl .nil), hs.dropN 2⟩
    · try simp only [decide_eq_true_eq, decide_eq_false_iff_not] at hc2
      obtain rfl : j = b.flaps.length := by omega
      refine c_exit (q_thenX (q_thenX (q_blkX (q_blkN (q_thenN ?_)))))
      refine c_reg1 ?_
      refine gL hf (g_addI hf rfl rfl (by omega)) (by decide) ?_; clear hf a; intro a hf
      refine gL hf (g_mv hf rfl) (by decide) ?_; clear hf a; intro a hf
      refine e_nil1 (q_thenN ?_)
      exact ⟨(i + 1, mp2), ⟨by dsimp only; omega, cnt_row hc2n⟩, (by dsimp only; omega), hf.back (by repeat (first | (with_reducible exact Ext.base) | ((with_reducible refine Ext.cons ?_ ?_); (· rfl)) | ((with_reducible refine Ext.over ?_ ?_ ?_); (· rfl); (· rfl)))) (allKeys rfl) (.cons rfl .nil), hs.dropN 0⟩
  · try simp only [decide_eq_true_eq, decide_eq_false_iff_not] at hc1
    obtain rfl : i = b.flaps.length := by omega
    refine c_exit (q_thenX (q_thenX (q_blkX (q_thenN ?_))))
    refine c_reg ?_
    refine gL hf (g_ldW hf hs T80 rfl (k := 0) rfl rfl) (by decide) ?_; clear hf a; intro a hf
    refine uL (u_stW hf hs T80 rfl rfl rfl (k := 2) rfl rfl rfl) ?_; clear hs; intro w hs; dsimp only [List.set] at hs
    refine e_nil ?_
    refine c_ret ?_
    refine e_res hf hs rfl (.cellA T80 rfl (k := 2) rfl rfl .nil) rfl ?_
    have ho := hs.own b3 (mapO mp1) (.tail _ (.head _))
    exact ⟨_, rfl, hs.below, b3, mp1, rfl, cnt_done hc1n, ho.1, ho.2⟩

end Go.Proofs.YtjjcopeedcdokaaDoor

