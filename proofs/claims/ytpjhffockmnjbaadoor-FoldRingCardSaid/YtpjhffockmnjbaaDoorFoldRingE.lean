/- For every sheet and list of numbers the law FoldRing returns true, and its arguments read afterwards as before: what the ring that is told is. Conditions: the table of the sides holds what the text of the program lays. -/
import Derived.Test.YtpjhffockmnjbaaDoorFoldRingD
import Derived.Test.YtpjhffockmnjbaaDoorTie
import Derived.Test.YtpjhffockmnjbaaDoorCards
set_option linter.unusedVariables false
set_option linter.unusedSimpArgs false
namespace Go.Proofs.YtpjhffockmnjbaaDoor
def pickR (best : Option (List Int)) (r : List Int) : Option (List Int) := if ringLt best r = true then some r else best
/-- All rings that begin with a row, in the order in which they are sought. -/
def ringsL (b : Sheet) : Nat → List Int → List (List Int)
  | 0, r => []
  | k + 1, r => (if (decide ((1 : Int) < (r.length : Nat)) && overP b (headI r) (lastI r)) = true then [r] else []) ++
    (List.range b.flaps.length).flatMap fun i => if (decide (headI r < (i : Nat)) && (!decide (((i : Nat) : Int) ∈ r) && overP b (i : Nat) (lastI r))) = true then ringsL b k (r ++ [((i : Nat) : Int)]) else []
def allR (b : Sheet) : List (List Int) := (List.range b.flaps.length).flatMap fun i => ringsL b 8 [((i : Nat) : Int)]
theorem rings_len (b : Sheet) : ∀ (k : Nat) (r : List Int), ∀ s ∈ ringsL b k r, r.length ≤ s.length
  | 0, r, s, h => by cases h
  | k + 1, r, s, h => by
    simp only [ringsL, List.mem_append, List.mem_flatMap] at h
    rcases h with h | ⟨i, _, h⟩
    · split at h
      · rw [List.mem_singleton.1 h]; exact Nat.le_refl _
      · cases h
    · split at h
      · have := rings_len b k _ s h; simp at this; omega
      · cases h
theorem pick_skip {l : List Int} : ∀ (L : List (List Int)), (∀ s ∈ L, l.length ≤ s.length) → L.foldl pickR (some l) = some l
  | [], _ => rfl
  | s :: L, h => by
    have h1 := h s (.head _)
    rw [List.foldl_cons, show pickR (some l) s = some l by unfold pickR; rw [if_neg (by simp [ringLt]; omega)]]
    exact pick_skip L fun s hs => h s (.tail _ hs)
theorem ringF_eq (b : Sheet) : ∀ (k : Nat) (r : List Int) (best : Option (List Int)), ringF b k r best = (ringsL b k r).foldl pickR best
  | 0, r, best => rfl
  | k + 1, r, best => by
    have e1 : (if (decide ((1 : Int) < (r.length : Nat)) && overP b (headI r) (lastI r)) = true then [r] else []).foldl pickR best = ring1 b r best := by
      unfold ring1
      cases (decide ((1 : Int) < (r.length : Nat)) && overP b (headI r) (lastI r)) with
      | true => simp [pickR]
      | false => simp
    have e2 : ∀ o : Option (List Int), ((List.range b.flaps.length).flatMap fun i => if (decide (headI r < (i : Nat)) && (!decide (((i : Nat) : Int) ∈ r) && overP b (i : Nat) (lastI r))) = true then ringsL b k (r ++ [((i : Nat) : Int)]) else []).foldl pickR o = (List.range b.flaps.length).foldl (ringStep b r (ringF b k)) o := by
      intro o
      rw [List.foldl_flatMap]
      congr 1
      funext o i
      unfold ringStep
      split
      · rw [ringF_eq b k]
      · rfl
    simp only [ringF, ringsL]
    rw [List.foldl_append, e1, e2]
    by_cases hc : ringCut (ring1 b r best) r = true
    · rw [if_pos hc, ← e2]
      cases ho : ring1 b r best with
      | none => rw [ho] at hc; simp [ringCut] at hc
      | some l =>
        rw [ho] at hc
        simp only [ringCut, decide_eq_true_eq] at hc
        rw [pick_skip]
        intro s hs
        obtain ⟨i, _, hs⟩ := List.mem_flatMap.1 hs
        split at hs
        · have := rings_len b k _ s hs; simp at this; omega
        · cases hs
    · rw [if_neg hc]
theorem ringP_eq {b : Sheet} (hck : checkB b = true) : ringP b = match (allR b).foldl pickR none with | some l => (l, 0) | none => ([], 4) := by
  have h1 : askE b true = 0 := by simp [askE, hck]
  rw [ringP, if_pos h1, allR, List.foldl_flatMap]
  have : (fun (best : Option (List Int)) (i : Nat) => ringF b 8 [((i : Nat) : Int)] best) = fun acc x => List.foldl pickR acc (ringsL b 8 [((x : Nat) : Int)]) := by funext o i; exact ringF_eq b 8 _ _
  rw [this]
  cases List.foldl (fun acc x => List.foldl pickR acc (ringsL b 8 [((x : Nat) : Int)])) none (List.range b.flaps.length) <;> rfl
/-! ### What is a ring -/
structure Row (b : Sheet) (r : List Int) : Prop where
  ne : r ≠ []
  nodup : r.Nodup
  inb : ∀ x ∈ r, inN b x
  least : ∀ k, 0 < k → k < r.length → r.getD 0 default < r.getD k default
  chain : ∀ k, k + 1 < r.length → overP b (r.getD (k + 1) default) (r.getD k default) = true
structure Ring (b : Sheet) (r : List Int) : Prop extends Row b r where
  two : 2 ≤ r.length
  round : overP b (headI r) (lastI r) = true
theorem getD_last {r : List Int} {x : Int} : lastI (r ++ [x]) = x := by
  unfold lastI
  rw [show (r ++ [x]).length - 1 = r.length by simp]
  exact getD_app2
theorem row_snoc {b : Sheet} {r : List Int} (hr : r ≠ []) {x : Int} : Row b (r ++ [x]) ↔ Row b r ∧ inN b x ∧ headI r < x ∧ x ∉ r ∧ overP b x (lastI r) = true := by
  have h0 := List.length_pos_iff.2 hr
  have hh : (r ++ [x]).getD 0 default = headI r := getD_app1 h0
  have hl : (r ++ [x]).getD (r.length - 1) default = lastI r := getD_app1 (by omega)
  constructor
  · rintro ⟨h1, h2, h3, h4, h5⟩
    have hx : x ∉ r := by
      rw [List.nodup_append] at h2
      exact fun hm => h2.2.2 x hm x (List.mem_singleton.2 rfl) rfl
    refine ⟨⟨hr, (List.nodup_append.1 h2).1, fun y hy => h3 y (List.mem_append_left _ hy), fun k hk hk2 => ?_, fun k hk => ?_⟩, h3 x (by simp), ?_, hx, ?_⟩
    · have := h4 k hk (by simp; omega)
      rwa [hh, getD_app1 hk2] at this
    · have := h5 k (by simp; omega)
      rwa [getD_app1 hk, getD_app1 (by omega)] at this
    · have := h4 r.length h0 (by simp)
      rwa [hh, getD_app2] at this
    · have := h5 (r.length - 1) (by simp; omega)
      rwa [show r.length - 1 + 1 = r.length by omega, getD_app2, hl] at this
  · rintro ⟨⟨h1, h2, h3, h4, h5⟩, hx, hlt, hm, ho⟩
    refine ⟨by simp, List.nodup_append.2 ⟨h2, by simp, fun a ha c hc e => ?_⟩, fun y hy => ?_, fun k hk hk2 => ?_, fun k hk => ?_⟩
    · rw [List.mem_singleton.1 hc] at e; exact hm (e ▸ ha)
    · rcases List.mem_append.1 hy with hy | hy
      · exact h3 y hy
      · rw [List.mem_singleton.1 hy]; exact hx
    · simp only [List.length_append, List.length_cons, List.length_nil] at hk2
      rw [hh]
      by_cases e : k = r.length
      · subst e; rw [getD_app2]; exact hlt
      · rw [getD_app1 (by omega)]; exact h4 k hk (by omega)
    · simp only [List.length_append, List.length_cons, List.length_nil] at hk
      by_cases e : k + 1 = r.length
      · rw [e, getD_app2, show k = r.length - 1 by omega, hl]; exact ho
      · rw [getD_app1 (by omega), getD_app1 (by omega)]; exact h5 k (by omega)
theorem row_app {b : Sheet} {r : List Int} (hr : r ≠ []) : ∀ (t : List Int), Row b (r ++ t) → Row b r := by
  intro t
  induction t generalizing r with
  | nil => intro h; simpa using h
  | cons x t ih =>
    intro h
    have h1 : Row b ((r ++ [x]) ++ t) := by simpa using h
    exact ((row_snoc hr).1 (ih (by simp) h1)).1
theorem mem_rings {b : Sheet} {s : List Int} : ∀ (k : Nat) (r : List Int), Row b r → freeN b r < k → (s ∈ ringsL b k r ↔ Ring b s ∧ ∃ t, s = r ++ t)
  | 0, r, hr, hf => absurd hf (by omega)
  | k + 1, r, hr, hf => by
    have h0 := List.length_pos_iff.2 hr.ne
    simp only [ringsL, List.mem_append, List.mem_flatMap, List.mem_range]
    constructor
    · rintro (h | ⟨i, hi, h⟩)
      · split at h
        · rename_i hc
          rw [List.mem_singleton.1 h]
          simp only [Bool.and_eq_true, decide_eq_true_eq] at hc
          exact ⟨⟨hr, by omega, hc.2⟩, [], by simp⟩
        · cases h
      · split at h
        · rename_i hc
          simp only [Bool.and_eq_true, decide_eq_true_eq, Bool.not_eq_true', decide_eq_false_iff_not] at hc
          have hr2 := (row_snoc hr.ne).2 ⟨hr, ⟨by omega, by omega⟩, hc.1, hc.2.1, hc.2.2⟩
          have hf2 := freeN_lt (b := b) (r := r) hi hc.2.1
          obtain ⟨h1, t, rfl⟩ := (mem_rings k _ hr2 (by omega)).1 h
          exact ⟨h1, ((i : Nat) : Int) :: t, by simp⟩
        · cases h
    · rintro ⟨h1, t, rfl⟩
      match t with
      | [] =>
        left
        rw [List.append_nil] at h1 ⊢
        rw [if_pos (by simp only [Bool.and_eq_true, decide_eq_true_eq]; exact ⟨by have := h1.two; omega, h1.round⟩)]
        exact List.mem_singleton.2 rfl
      | x :: t =>
        right
        have h3 : r ++ x :: t = (r ++ [x]) ++ t := by simp
        rw [h3] at h1 ⊢
        have hr2 := row_app (by simp) _ h1.toRow
        obtain ⟨_, hx, hlt, hm, ho⟩ := (row_snoc hr.ne).1 hr2
        have hx0 := hx.1; have hx1 := hx.2
        have he : ((x.toNat : Nat) : Int) = x := by omega
        refine ⟨x.toNat, by omega, ?_⟩
        rw [he, if_pos (by simp only [Bool.and_eq_true, decide_eq_true_eq, Bool.not_eq_true', decide_eq_false_iff_not]; exact ⟨hlt, hm, ho⟩)]
        have hf2 := freeN_lt (b := b) (r := r) (i := x.toNat) (by omega) (by rw [he]; exact hm)
        rw [he] at hf2
        exact (mem_rings k _ hr2 (by omega)).2 ⟨h1, t, rfl⟩
theorem row_one {b : Sheet} {x : Int} (h : inN b x) : Row b [x] := ⟨by simp, by simp, fun y hy => by rw [List.mem_singleton.1 hy]; exact h, fun k h1 h2 => by simp at h2; omega, fun k hk => by simp at hk⟩
theorem free_one {b : Sheet} (hv : Valid b) (x : Int) : freeN b [x] < 8 := by
  have := freeN_le b [x]; have := hv.many; omega
theorem mem_allR {b : Sheet} (hv : Valid b) {s : List Int} : s ∈ allR b ↔ Ring b s := by
  simp only [allR, List.mem_flatMap, List.mem_range]
  constructor
  · rintro ⟨i, hi, h⟩
    exact ((mem_rings 8 _ (row_one ⟨by omega, by omega⟩) (free_one hv _)).1 h).1
  · intro h
    match s, h with
    | [], h => exact absurd rfl h.ne
    | x :: t, h =>
      have hx := h.inb x (.head _)
      have hx0 := hx.1; have hx1 := hx.2
      refine ⟨x.toNat, by omega, ?_⟩
      rw [show ((x.toNat : Nat) : Int) = x by omega]
      exact (mem_rings 8 _ (row_one hx) (free_one hv _)).2 ⟨h, t, rfl⟩
theorem pick_none {L : List (List Int)} (h : L.foldl pickR none = none) : L = [] := by
  match L with
  | [] => rfl
  | s :: L =>
    have : ∀ (L : List (List Int)) (l : List Int), L.foldl pickR (some l) ≠ none := by
      intro L
      induction L with
      | nil => intro l h; cases h
      | cons s L ih =>
        intro l
        rw [List.foldl_cons]
        unfold pickR
        split
        · exact ih _
        · exact ih _
    exact absurd h (by rw [List.foldl_cons, show pickR none s = some s from rfl]; exact this L s)
theorem pick_min : ∀ (L : List (List Int)) (o : Option (List Int)) (l : List Int), L.foldl pickR o = some l → (o = some l ∨ l ∈ L) ∧ (∀ s ∈ L, l.length ≤ s.length) ∧ ∀ s, o = some s → l.length ≤ s.length
  | [], o, l, h => ⟨.inl h, (fun s hs => by cases hs), fun s hs => by simp only [List.foldl_nil] at h; rw [h] at hs; cases hs; exact Nat.le_refl _⟩
  | x :: L, o, l, h => by
    rw [List.foldl_cons] at h
    obtain ⟨h1, h2, h3⟩ := pick_min L _ l h
    unfold pickR at h1 h3
    cases hlt : ringLt o x with
    | true =>
      rw [if_pos hlt] at h1 h3
      have hx := h3 x rfl
      refine ⟨?_, fun s hs => ?_, fun s hs => ?_⟩
      · rcases h1 with h1 | h1
        · cases h1; exact .inr (.head _)
        · exact .inr (.tail _ h1)
      · rcases List.mem_cons.1 hs with rfl | hs
        · exact hx
        · exact h2 s hs
      · subst hs; simp [ringLt] at hlt; omega
    | false =>
      rw [if_neg (by rw [hlt]; decide)] at h1 h3
      refine ⟨?_, fun s hs => ?_, h3⟩
      · rcases h1 with h1 | h1
        · exact .inl h1
        · exact .inr (.tail _ h1)
      · rcases List.mem_cons.1 hs with rfl | hs
        · cases o with
          | none => simp [ringLt] at hlt
          | some q => simp [ringLt] at hlt; have := h3 q rfl; omega
        · exact h2 s hs
/-- What the ring's answer is. -/
theorem ring_cases {b : Sheet} (hck : checkB b = true) : (ringP b = ([], 4) ∧ ∀ s, ¬ Ring b s) ∨ ∃ l, ringP b = (l, 0) ∧ Ring b l ∧ ∀ s, Ring b s → l.length ≤ s.length := by
  have hv := valid_of hck
  rw [ringP_eq hck]
  cases h : (allR b).foldl pickR none with
  | none =>
    left
    refine ⟨rfl, fun s hs => ?_⟩
    have := (mem_allR hv).2 hs
    rw [pick_none h] at this; cases this
  | some l =>
    right
    obtain ⟨h1, h2, _⟩ := pick_min _ _ _ h
    refine ⟨l, rfl, ?_, fun s hs => h2 s ((mem_allR hv).2 hs)⟩
    rcases h1 with h1 | h1
    · cases h1
    · exact (mem_allR hv).1 h1
/-! ### Any round gives a ring -/
structure Cyc (b : Sheet) (c : List Int) : Prop where
  two : 2 ≤ c.length
  nodup : c.Nodup
  inb : ∀ x ∈ c, inN b x
  round : ∀ k, k < c.length → overP b (c.getD ((k + 1) % c.length) default) (c.getD k default) = true
theorem getD_inj {c : List Int} (h : c.Nodup) {i j : Nat} (hi : i < c.length) (hj : j < c.length) (e : c.getD i default = c.getD j default) : i = j := by
  rw [List.getD_eq_getElem?_getD, List.getD_eq_getElem?_getD, List.getElem?_eq_getElem hi, List.getElem?_eq_getElem hj] at e
  simp only [Option.getD_some] at e
  have h1 := h.idxOf_getElem i hi
  have h2 := h.idxOf_getElem j hj
  rw [e] at h1
  omega
theorem least_at : ∀ (c : List Int), c ≠ [] → ∃ m, m < c.length ∧ ∀ k, k < c.length → c.getD m default ≤ c.getD k default
  | [x], _ => ⟨0, by simp, fun k hk => by simp at hk; subst hk; exact Int.le_refl _⟩
  | x :: y :: c, _ => by
    obtain ⟨m, hm, h⟩ := least_at (y :: c) (by simp)
    by_cases hx : x ≤ (y :: c).getD m default
    · refine ⟨0, by simp, fun k hk => ?_⟩
      match k with
      | 0 => exact Int.le_refl _
      | k + 1 => have := h k (by simp at hk ⊢; omega); simp only [List.getD_cons_zero, List.getD_cons_succ] at this ⊢; omega
    · refine ⟨m + 1, by simp at hm ⊢; omega, fun k hk => ?_⟩
      match k with
      | 0 => simp only [List.getD_cons_zero, List.getD_cons_succ]; omega
      | k + 1 => have := h k (by simp at hk ⊢; omega); simp only [List.getD_cons_succ]; omega
theorem getD_map_range {f : Nat → Int} {n k : Nat} (h : k < n) : ((List.range n).map f).getD k default = f k := by
  rw [List.getD_eq_getElem?_getD, List.getElem?_map, List.getElem?_range h]; rfl
theorem ring_of_cyc {b : Sheet} {c : List Int} (hc : Cyc b c) : ∃ s, Ring b s ∧ s.length = c.length := by
  have h2 := hc.two
  obtain ⟨m, hm, hmin⟩ := least_at c (by intro e; rw [e] at h2; simp at h2)
  obtain ⟨n, hn⟩ : ∃ n, c.length = n := ⟨_, rfl⟩
  rw [hn] at h2 hm hmin
  have hlt : ∀ i, (m + i) % n < n := fun i => Nat.mod_lt _ (by omega)
  have hg : ∀ k, k < n → ((List.range n).map fun i => c.getD ((m + i) % n) default).getD k default = c.getD ((m + k) % n) default := fun k hk => getD_map_range hk
  have hinj : ∀ i j, i < n → j < n → (m + i) % n = (m + j) % n → i = j := by
    intro i j hi hj e
    have h1 : (m + i) % n = if m + i < n then m + i else m + i - n := by
      split
      · exact Nat.mod_eq_of_lt (by omega)
      · rw [Nat.mod_eq_sub_mod (by omega)]; exact Nat.mod_eq_of_lt (by omega)
    have h2 : (m + j) % n = if m + j < n then m + j else m + j - n := by
      split
      · exact Nat.mod_eq_of_lt (by omega)
      · rw [Nat.mod_eq_sub_mod (by omega)]; exact Nat.mod_eq_of_lt (by omega)
    rw [h1, h2] at e
    split at e <;> split at e <;> omega
  have hm0 : (m + 0) % n = m := Nat.mod_eq_of_lt (by omega)
  refine ⟨(List.range n).map fun i => c.getD ((m + i) % n) default, ⟨⟨?_, ?_, ?_, ?_, ?_⟩, ?_, ?_⟩, by simp [hn]⟩
  · intro e
    have := congrArg List.length e
    simp at this; omega
  · rw [List.nodup_iff_pairwise_ne, List.pairwise_map]
    refine (List.pairwise_iff_getElem.2 fun i j hi hj hij => ?_)
    simp only [List.getElem_range, List.length_range] at hi hj ⊢
    intro e
    have := getD_inj hc.nodup (by rw [hn]; exact hlt i) (by rw [hn]; exact hlt j) e
    have := hinj i j hi hj this
    omega
  · intro x hx
    obtain ⟨i, hi, rfl⟩ := List.mem_map.1 hx
    exact hc.inb _ (getD_mem (by rw [hn]; exact hlt i))
  · intro k hk hk2
    simp only [List.length_map, List.length_range] at hk2
    rw [hg 0 (by omega), hg k hk2, hm0]
    have h3 := hmin ((m + k) % n) (hlt k)
    have h4 : c.getD m default ≠ c.getD ((m + k) % n) default := fun e => by
      have h5 := getD_inj hc.nodup (by rw [hn]; exact hm) (by rw [hn]; exact hlt k) e
      have := hinj 0 k (by omega) hk2 (by rw [hm0]; exact h5)
      omega
    omega
  · intro k hk
    simp only [List.length_map, List.length_range] at hk
    rw [hg k (by omega), hg (k + 1) hk]
    have := hc.round ((m + k) % n) (by rw [hn]; exact hlt k)
    rw [hn, Nat.mod_add_mod] at this
    exact this
  · simp; exact h2
  · unfold headI lastI
    simp only [List.length_map, List.length_range]
    rw [hg 0 (by omega), hg (n - 1) (by omega), hm0]
    have := hc.round ((m + (n - 1)) % n) (by rw [hn]; exact hlt _)
    rw [hn, Nat.mod_add_mod, show m + (n - 1) + 1 = m + n by omega, Nat.add_mod_right, Nat.mod_eq_of_lt hm] at this
    exact this
theorem Ring.cyc {b : Sheet} {r : List Int} (h : Ring b r) : Cyc b r := by
  have h2 := h.two
  refine ⟨h.two, h.nodup, h.inb, fun k hk => ?_⟩
  by_cases e : k + 1 = r.length
  · rw [e, Nat.mod_self]
    have := h.round
    unfold headI lastI at this
    rw [show r.length - 1 = k by omega] at this
    exact this
  · rw [Nat.mod_eq_of_lt (by omega)]
    exact h.chain k (by omega)
/-! ### No order where there is a ring -/
theorem ok_over {b : Sheet} {l : List Int} (h : Ok b l) {x u : Int} (hx : x ∈ l) (ho : overP b x u = true) : l.idxOf u < l.idxOf x := by
  have := (h (l.idxOf x) (idx_lt hx)).2.2 u (by rw [idx_get hx]; exact ho)
  exact ((mem_take_idx h.nodup (Nat.le_of_lt (idx_lt hx))).1 this).2
theorem no_ring {b : Sheet} {l : List Int} (h : Ok b l) (hl : l.length = b.flaps.length) {s : List Int} (hs : Ring b s) : False := by
  have hm : ∀ x ∈ s, x ∈ l := fun x hx => ord_mem (ok_ord h hl) (hs.inb x hx)
  have h2 := hs.two
  have hup : ∀ k, k < s.length → l.idxOf (s.getD 0 default) ≤ l.idxOf (s.getD k default) := by
    intro k
    induction k with
    | zero => intro _; exact Nat.le_refl _
    | succ k ih =>
      intro hk
      have h3 := ih (by omega)
      have h4 := ok_over h (hm _ (getD_mem hk)) (hs.chain k hk)
      omega
  have h3 := hup (s.length - 1) (by omega)
  have h4 := ok_over h (hm _ (getD_mem (i := 0) (by omega))) hs.round
  unfold headI lastI at h4
  omega
/-! ### An order where there is no ring -/
def itF (f : Int → Int) : Nat → Int → Int
  | 0, x => x
  | k + 1, x => f (itF f k x)
theorem it_add (f : Int → Int) (i j : Nat) (x : Int) : itF f (i + j) x = itF f i (itF f j x) := by
  induction i with
  | zero => simp [itF]
  | succ i ih => rw [Nat.succ_add]; simp only [itF]; rw [ih]
theorem exists_least {p : Nat → Prop} {d : Nat} (h : p d) : ∃ m, p m ∧ ∀ k, k < m → ¬ p k := by
  classical
  induction d using Nat.strongRecOn with
  | _ d ih =>
    by_cases hex : ∃ k, k < d ∧ p k
    · obtain ⟨k, hk, hp⟩ := hex
      exact ih k hk hp
    · exact ⟨d, h, fun k hk hp => hex ⟨k, hk, hp⟩⟩
theorem cyc_of_fun {b : Sheet} (hv : Valid b) {S : Int → Prop} {f : Int → Int} (hS : ∀ x, S x → inN b x) (hf : ∀ x, S x → S (f x)) (ho : ∀ x, S x → overP b x (f x) = true) {x : Int} (hx : S x) : ∃ c, Cyc b c := by
  have hit : ∀ k y, S y → S (itF f k y) := by
    intro k y hy
    induction k with
    | zero => exact hy
    | succ k ih => exact hf _ ih
  have hdup : ¬ ((List.range (b.flaps.length + 1)).map fun k => itF f k x).Nodup := by
    intro hn
    have := hn.length_le_of_subset (l₂ := (List.range b.flaps.length).map fun i => ((i : Nat) : Int)) (fun y hy => by
      obtain ⟨k, _, rfl⟩ := List.mem_map.1 hy
      have h := hS _ (hit k x hx)
      exact List.mem_map.2 ⟨(itF f k x).toNat, List.mem_range.2 (by have := h.1; have := h.2; omega), by have := h.1; omega⟩)
    simp at this; omega
  have hper : ∃ i d, 0 < d ∧ itF f d (itF f i x) = itF f i x := by
    rw [List.nodup_iff_pairwise_ne, List.pairwise_map, List.pairwise_iff_getElem] at hdup
    simp only [Classical.not_forall] at hdup
    obtain ⟨i, j, hi, hj, hij, h⟩ := hdup
    simp only [List.getElem_range, ne_eq, Classical.not_not] at h
    refine ⟨i, j - i, by omega, ?_⟩
    rw [← it_add, show j - i + i = j by omega, h]
  obtain ⟨i, d0, hd0, hper⟩ := hper
  obtain ⟨y, hy⟩ : ∃ y, y = itF f i x := ⟨_, rfl⟩
  rw [← hy] at hper
  have hSy : S y := hy ▸ hit i x hx
  obtain ⟨d, ⟨hd, hdy⟩, hmin⟩ := exists_least (p := fun d => 0 < d ∧ itF f d y = y) (d := d0) ⟨hd0, hper⟩
  have hd2 : 2 ≤ d := by
    by_cases e : d = 1
    · subst e
      have h1 := ho y hSy
      have h2 : f y = y := hdy
      rw [h2] at h1
      obtain ⟨_, r, hr, h3, h4⟩ := overP_iff.1 h1
      exact absurd (h3.trans h4.symm) (hv.rule r hr).2.2.2.2
    · omega
  have hg : ∀ k, k < d → ((List.range d).map fun k => itF f (d - 1 - k) y).getD k default = itF f (d - 1 - k) y := fun k hk => getD_map_range hk
  have hne : ∀ i j, i < j → j < d → itF f i y ≠ itF f j y := by
    intro i j hij hj e
    have h1 : itF f (d - j + i) y = y := by
      rw [it_add, e, ← it_add, show d - j + j = d by omega, hdy]
    exact hmin (d - j + i) (by omega) ⟨by omega, h1⟩
  refine ⟨(List.range d).map fun k => itF f (d - 1 - k) y, by simpa using hd2, ?_, ?_, ?_⟩
  · rw [List.nodup_iff_pairwise_ne, List.pairwise_map, List.pairwise_iff_getElem]
    intro i j hi hj hij
    simp only [List.getElem_range, List.length_range] at hi hj ⊢
    exact fun e => hne (d - 1 - j) (d - 1 - i) (by omega) (by omega) e.symm
  · intro z hz
    obtain ⟨k, _, rfl⟩ := List.mem_map.1 hz
    exact hS _ (hit _ y hSy)
  · intro k hk
    simp only [List.length_map, List.length_range] at hk ⊢
    rw [hg k hk]
    by_cases e : k + 1 = d
    · rw [e, Nat.mod_self, hg 0 (by omega), show d - 1 - k = 0 by omega]
      have h1 := ho _ (hit (d - 1 - 0) y hSy)
      have h2 : f (itF f (d - 1 - 0) y) = y := by
        have : itF f (d - 1 - 0 + 1) y = y := by rw [show d - 1 - 0 + 1 = d by omega]; exact hdy
        exact this
      rw [h2] at h1
      exact h1
    · rw [Nat.mod_eq_of_lt (by omega), hg (k + 1) (by omega)]
      have h1 := ho _ (hit (d - 1 - (k + 1)) y hSy)
      have h2 : f (itF f (d - 1 - (k + 1)) y) = itF f (d - 1 - k) y := by
        rw [show d - 1 - k = d - 1 - (k + 1) + 1 by omega]; rfl
      rw [h2] at h1
      exact h1
theorem next_of {b : Sheet} (hv : Valid b) (hr : ∀ s, ¬ Ring b s) {p : List Int} (hp : Ok b p) (hl : p.length < b.flaps.length) : ∃ x, Next b p x := by
  classical
  by_cases hex : ∃ x, Next b p x
  · exact hex
  · exfalso
    have hstep : ∀ x, inN b x ∧ x ∉ p → ∃ u, overP b x u = true ∧ u ∉ p := by
      intro x hx
      by_cases h : ∃ u, overP b x u = true ∧ u ∉ p
      · exact h
      · refine absurd ⟨x, hx.1, hx.2, fun u hu => ?_⟩ hex
        by_cases hm : u ∈ p
        · exact hm
        · exact absurd ⟨u, hu, hm⟩ h
    have hfirst : ∃ x, inN b x ∧ x ∉ p := by
      by_cases h : ∃ x, inN b x ∧ x ∉ p
      · exact h
      · have hn : ((List.range b.flaps.length).map fun i => ((i : Nat) : Int)).Nodup := by
          rw [List.nodup_iff_pairwise_ne, List.pairwise_map, List.pairwise_iff_getElem]
          intro i j hi hj hij
          simp only [List.getElem_range]
          omega
        have := hn.length_le_of_subset (l₂ := p) (fun y hy => by
          obtain ⟨i, hi, rfl⟩ := List.mem_map.1 hy
          have hi' := List.mem_range.1 hi
          by_cases hm : ((i : Nat) : Int) ∈ p
          · exact hm
          · exact absurd ⟨_, ⟨by omega, by omega⟩, hm⟩ h)
        simp at this; omega
    obtain ⟨x, hx⟩ := hfirst
    let f : Int → Int := fun x => if h : inN b x ∧ x ∉ p then (hstep x h).choose else x
    have hfs : ∀ x, inN b x ∧ x ∉ p → overP b x (f x) = true ∧ f x ∉ p := by
      intro x h
      have : f x = (hstep x h).choose := dif_pos h
      rw [this]
      exact (hstep x h).choose_spec
    obtain ⟨c, hc⟩ := cyc_of_fun hv (S := fun x => inN b x ∧ x ∉ p) (f := f) (fun x h => h.1) (fun x h => by
      have h1 := hfs x h
      obtain ⟨_, r, hr, _, h4⟩ := overP_iff.1 h1.1
      exact ⟨h4 ▸ (rule_in hv hr).2, h1.2⟩) (fun x h => (hfs x h).1) hx
    obtain ⟨s, hs, _⟩ := ring_of_cyc hc
    exact hr s hs
theorem order_of {b : Sheet} (hv : Valid b) (hr : ∀ s, ¬ Ring b s) : ∀ (k : Nat) (p : List Int), Ok b p → p.length + k = b.flaps.length → ∃ l, Ok b l ∧ l.length = b.flaps.length
  | 0, p, hp, hl => ⟨p, hp, by omega⟩
  | k + 1, p, hp, hl => by
    obtain ⟨x, hx⟩ := next_of hv hr hp (by omega)
    exact order_of hv hr k _ (ok_snoc.2 ⟨hp, hx⟩) (by simp; omega)
/-- A sheet folds just if there is no ring. -/
theorem folds_iff {b : Sheet} (hv : Valid b) : allO b ≠ [] ↔ ∀ s, ¬ Ring b s := by
  constructor
  · intro h s hs
    obtain ⟨l, hl⟩ := List.exists_mem_of_ne_nil _ h
    obtain ⟨h1, h2⟩ := (mem_allO hv).1 hl
    exact no_ring h1 h2 hs
  · intro h e
    obtain ⟨l, h1, h2⟩ := order_of hv h b.flaps.length _ (ok_nil b) (by simp)
    have := (mem_allO hv).2 ⟨h1, h2⟩
    rw [e] at this; cases this
/-- How the order, the number of orders and the ring agree. -/
theorem told_cases {b : Sheet} (hck : checkB b = true) : (orderP b = ([], 4) ∧ countP b = (0, 0) ∧ allO b = [] ∧ (∃ r, ringP b = (r, 0) ∧ Ring b r ∧ ∀ s, Ring b s → r.length ≤ s.length)) ∨
    ∃ l rest, orderP b = (l, 0) ∧ allO b = l :: rest ∧ countP b = ((((allO b).length : Nat) : Int), 0) ∧ ringP b = ([], 4) ∧ Ok b l ∧ l.length = b.flaps.length ∧ ∀ s, ¬ Ring b s := by
  have hv := valid_of hck
  have ha : askE b true = 0 := by simp [askE, hck]
  have hf := folds_iff hv
  cases h : allO b with
  | nil =>
    left
    have hno : ¬ ∀ s, ¬ Ring b s := fun h' => hf.2 h' h
    refine ⟨by simp [orderP, ha, h], by simp [countP, ha, h], rfl, ?_⟩
    rcases ring_cases hck with ⟨_, h1⟩ | h1
    · exact absurd h1 hno
    · exact h1
  | cons l rest =>
    right
    have hno := hf.1 (by rw [h]; simp)
    have hm := (mem_allO hv).1 (show l ∈ allO b by rw [h]; exact .head _)
    refine ⟨l, rest, by simp [orderP, ha, h], rfl, by simp [countP, ha, h], ?_, hm.1, hm.2, hno⟩
    rcases ring_cases hck with ⟨h1, _⟩ | ⟨r, _, h1, _⟩
    · exact h1
    · exact absurd h1 (hno r)
end Go.Proofs.YtpjhffockmnjbaaDoor
set_option linter.unusedVariables false
set_option linter.unusedSimpArgs false
namespace Go.Proofs.YtpjhffockmnjbaaDoor
def stAt (b : Sheet) (l bits : List Int) (r : Rule) : Bool := decide (indexZ (fun x => x == r.over) l < indexZ (fun x => x == r.under) l) && squareB b r.over (reachZ b r.over.toNat bits) r.under (reachZ b r.under.toNat bits)
/-- Does a flap lie over one that must lie over it, as far as all truly reach? -/
def stoppedB (b : Sheet) (l bits : List Int) : Bool := b.rules.any (stAt b l bits)
theorem stopped_yes {b : Sheet} {l bits : List Int} {k : Nat} (hk : k < b.rules.length) (h : stAt b l bits (b.rules.getD k default) = true) : stoppedB b l bits = true := List.any_eq_true.2 ⟨_, getD_mem hk, h⟩
theorem stopped_no {b : Sheet} {l bits : List Int} (h : ∀ k, k < b.rules.length → stAt b l bits (b.rules.getD k default) = false) : stoppedB b l bits = false := by
  unfold stoppedB
  rw [List.any_eq_false]
  intro x hx
  obtain ⟨k, hk, rfl⟩ := List.getElem_of_mem hx
  have := h k hk
  rw [List.getD_eq_getElem?_getD, List.getElem?_eq_getElem hk] at this
  simpa using this
theorem met_reach {b : Sheet} (hv : Valid b) (bits : List Int) {r : Rule} (hr : r ∈ b.rules) : ((cellN b 2 r.over r.under == 2 && !squareB b r.over (reachZ b r.over.toNat bits) r.under (reachZ b r.under.toNat bits)) || (cellN b 2 r.over r.under == 0 && squareB b r.over (reachZ b r.over.toNat bits) r.under (reachZ b r.under.toNat bits))) = false := by
  have hi := rule_in hv hr
  have h1 := reach_rng hv hi.1 bits; have h2 := reach_rng hv hi.2 bits
  exact met_true hv hi.1 hi.2 (hv.rule r hr).2.2.2.2 ⟨h1.1, h1.2.1⟩ ⟨h2.1, h2.2.1⟩
theorem not_stopped {b : Sheet} (hv : Valid b) {l : List Int} (ho : ordB b l = true) (hok : Ok b l) (bits : List Int) : stoppedB b l bits = false := by
  unfold stoppedB
  rw [List.any_eq_false]
  intro r hr hs
  simp only [stAt, Bool.and_eq_true, decide_eq_true_eq] at hs
  have hi := rule_in hv hr
  have m1 := ord_mem ho hi.1; have m2 := ord_mem ho hi.2
  rw [index_idx' m1, index_idx' m2] at hs
  have h1 := (ok_iff hv ho).1 hok r hr
  have h2 := met_reach hv bits hr
  have hc := cell_rng b r.over r.under
  have h0 : cellN b 2 r.over r.under = 0 := by
    by_cases h : 0 < cellN b 2 r.over r.under
    · have := h1 h; omega
    · omega
  rw [h0, hs.2] at h2
  simp at h2
theorem index_eq (v : Int) (l : List Int) : indexZ (fun x => x == v) l = indexZ (fun y => v == y) l := by
  congr 1; funext x; rw [Bool.beq_comm]
theorem is_stopped {b : Sheet} (hv : Valid b) {l : List Int} (h : 2 - worst b l b.rules.length = 0) (bits : List Int) : stoppedB b l bits = true := by
  unfold worst at h
  rw [List.take_length] at h
  rcases fold_max b l b.rules 0 (by omega) with h1 | ⟨r, hr, h1, h2⟩
  · omega
  · refine List.any_eq_true.2 ⟨r, hr, ?_⟩
    have h3 := met_reach hv bits hr
    rw [h2] at h3
    simp only [stAt, Bool.and_eq_true, decide_eq_true_eq]
    refine ⟨by rw [index_eq, index_eq]; exact h1, ?_⟩
    cases hs : squareB b r.over (reachZ b r.over.toNat bits) r.under (reachZ b r.under.toNat bits) with
    | true => rfl
    | false => rw [hs] at h3; simp at h3
theorem whole_ok {b : Sheet} {l : List Int} (ho : ordB b l = true) : wholeB b l = true := by
  rw [whole_yes (fun i hi => ord_mem ho ⟨by omega, by omega⟩)]
  simpa using (ordB_iff.1 ho).1
theorem does_first {b : Sheet} (hck : checkB b = true) {l : List Int} (hok : Ok b l) (hl : l.length = b.flaps.length) : doesP b l = (2, 0) := by
  have ho := ok_ord hok hl
  rw [does_ok hck ho, (does_two (valid_of hck) ho).2 hok]
end Go.Proofs.YtpjhffockmnjbaaDoor
set_option linter.unusedVariables false
set_option linter.unusedSimpArgs false
namespace Go.Proofs.YtpjhffockmnjbaaDoor
open Go.RowKit
theorem c_stoppedL (b : Sheet) (fA : Option Addr) (fc : Nat) (rA : Option Addr) (rc : Nat) (oA : Option Addr) (oc : Nat) (l : List Int) (mA : Option Addr) (mc : Nat) (bits : List Int) (hv : Valid b) (w0 : World) (h : ShIn b fA fc rA rc w0) (ho : Rd encI 1 oA l.length l w0) (hm : Rd encI 1 mA bits.length bits w0) :
    Calls Tryd.prog 37 #[.agg #[.int .i64 b.wide, .int .i64 b.high, .slice fA b.flaps.length fc, .slice rA b.rules.length rc], .slice oA l.length oc, .slice mA bits.length mc] w0 (Ret w0 (.bool (stoppedB b l bits))) := by
  refine c_enter (n := 48) Tryd.func37 rfl rfl (Nat.le_of_ble_eq_true rfl) ?_; intro a hf; simp only [zipR] at hf
  have hs := St.start w0 [Rd encF 5 fA b.flaps.length b.flaps, Rd encR 2 rA b.rules.length b.rules, Rd encI 1 oA l.length l, Rd encI 1 mA bits.length bits] (stab_app (stab_app h.stab ho.st1) hm.st1)
  have hfm := h.F.2.1; have hrm := h.R.2.1; have hlm := ho.2.1; have hmm := hm.2.1
  refine c_reg ?_
  refine vL hf (v_boxA hf hs rfl) (by decide) ?_; clear hs hf a; rintro _ w ⟨b1, rfl, hs⟩ a hf
  refine gL hf (g_as hf rfl) (by decide) ?_; clear hf a; intro a hf
  refine e_nil ?_
  refine wp_seq ?_
  refine c_reg ?_
  refine gL hf (g_as hf rfl) (by decide) ?_; clear hf a; intro a hf
  refine e_nil ?_
  refine c_block ?_
  refine c_loop hf hs (List.range' 6 42) (σ := Nat) (fun k => [(7, .int .i64 (k : Nat))]) (fun k => _) (fun k => k ≤ b.rules.length ∧ ∀ j, j < k → stAt b l bits (b.rules.getD j default) = false) (fun k => b.rules.length - k) 0 ⟨by omega, fun z hz => absurd hz (by omega)⟩ (.cons rfl .nil) rfl ?_
  intro k a w hJ hf hs
  obtain ⟨hk, hp⟩ := hJ
  refine wp_seq ?_
  refine c_reg ?_
  refine gL hf (g_mv hf rfl) (by decide) ?_; clear hf a; intro a hf
  refine gL hf (g_fa (off' := 3) hf F25_3 rfl rfl) (by decide) ?_; clear hf a; intro a hf
  refine gL hf (g_ld hf hs T23 rfl (k := 0) rfl rfl) (by decide) ?_; clear hf a; intro a hf
  refine gL hf (g_len hf SL23 rfl) (by decide) ?_; clear hf a; intro a hf
  refine gL hf (g_lss hf rfl rfl) (by decide) ?_; clear hf a; intro a hf
  refine e_nil ?_
  refine c_cond hf rfl (fun hc1 => ?_) (fun hc1 => ?_)
  · try simp only [decide_eq_true_eq, decide_eq_false_iff_not] at hc1
    have hri := rule_in hv (getD_mem (l := b.rules) (i := k) (by omega))
    refine c_skip (q_thenN ?_)
    refine c_blockS ?_
    refine c_reg ?_
    refine gL hf (g_fa (off' := 3) hf F25_3 rfl rfl) (by decide) ?_; clear hf a; intro a hf
    refine gL hf (g_ld hf hs T23 rfl (k := 0) rfl rfl) (by decide) ?_; clear hf a; intro a hf
    refine gL hf (g_mv hf rfl) (by decide) ?_; clear hf a; intro a hf
    (first | (refine gL hf (g_ixE hf hs (.tail _ (.head _)) SL23 rfl rfl (by omega)) (by decide) ?_) | (refine gL hf (g_ixD hf hs (.tail _ (.head _)) SL23 rfl rfl (by omega)) (by decide) ?_)); clear hf a; intro a hf
    refine gL hf (g_ldEW hf hs (.tail _ (.head _)) T64 rfl rfl (by omega)) (by decide) ?_; clear hf a; intro a hf
    refine vL hf (v_alloc hs T64 rfl) (by decide) ?_; clear hs hf a; rintro _ w ⟨b2, rfl, hs⟩ a hf
    refine uL (u_stW hf hs T64 rfl rfl rfl (k := 0) rfl rfl rfl) ?_; clear hs; intro w hs; dsimp only [List.set] at hs
    refine e_nil ?_
    refine c_draw _ 27 Mx rfl hs (fun _ h => h) ?_; intro w hs hS
    refine gA hf hS (i := 0) rfl (by kernel_rfl) (fun w hs => g_mv hf rfl) (by decide) ?_; clear hf a; intro a hf
    refine gA hf hS (i := 1) rfl (by kernel_rfl) (fun w hs => g_fa (off' := 0) hf F64_0 rfl rfl) (by decide) ?_; clear hf a; intro a hf
    refine gA hf hS (i := 2) rfl (by kernel_rfl) (fun w hs => g_ld hf hs T3 rfl (k := 0) rfl rfl) (by decide) ?_; clear hf a; intro a hf
    refine gA hf hS (i := 4) rfl (by kernel_rfl) (fun w hs => g_mv hf rfl) (by decide) ?_; clear hf a; intro a hf
    refine gA hf hS (i := 5) rfl (by kernel_rfl) (fun w hs => g_fa (off' := 1) hf F64_1 rfl rfl) (by decide) ?_; clear hf a; intro a hf
    refine gA hf hS (i := 6) rfl (by kernel_rfl) (fun w hs => g_ld hf hs T3 rfl (k := 0) rfl rfl) (by decide) ?_; clear hf a; intro a hf
    refine one (i := 3) (by kernel_rfl) ?_
    refine oCall hf hs rfl (c_place _ _ _ l _ _ (hs.rd (.tail _ (.tail _ (.head _))))) rfl rfl rfl E81 (by decide) (fun _ h => h.sub (.refl _)) ?_; clear hs hf hS a; intro w a hs hS hf
    refine one (i := 7) (by kernel_rfl) ?_
    refine oCall hf hs rfl (c_place _ _ _ l _ _ (hs.rd (.tail _ (.tail _ (.head _))))) rfl rfl rfl E81 (by decide) (fun _ h => h.sub (.refl _)) ?_; clear hs hf hS a; intro w a hs hS hf
    refine gA hf hS (i := 8) rfl (by kernel_rfl) (fun w hs => g_lss hf rfl rfl) (by decide) ?_; clear hf a; intro a hf
    refine gA hf hS (i := 9) rfl (by kernel_rfl) (fun w hs => g_mv hf rfl) (by decide) ?_; clear hf a; intro a hf
    refine ggA hf hS (i := 10) rfl (by kernel_rfl) rfl rfl (gyes_t _) (fun hg w hs => g_ldW hf hs T25 rfl (k := 1) rfl rfl) (by decide) ?_; clear hf a; intro a hf
    refine ggA hf hS (i := 11) rfl (by kernel_rfl) rfl rfl (gyes_t _) (fun hg w hs => g_fa (off' := 0) hf F64_0 rfl rfl) (by decide) ?_; clear hf a; intro a hf
    refine ggA hf hS (i := 12) rfl (by kernel_rfl) rfl rfl (gyes_t _) (fun hg w hs => g_ld hf hs T3 (ev_gv rfl hg) (k := 0) rfl rfl) (by decide) ?_; clear hf a; intro a hf
    refine ggA hf hS (i := 13) rfl (by kernel_rfl) rfl rfl (gyes_t _) (fun hg w hs => g_ldW hf hs T25 rfl (k := 1) rfl rfl) (by decide) ?_; clear hf a; intro a hf
    refine ggA hf hS (i := 14) rfl (by kernel_rfl) rfl rfl (gyes_t _) (fun hg w hs => g_fa (off' := 0) hf F64_0 rfl rfl) (by decide) ?_; clear hf a; intro a hf
    refine ggA hf hS (i := 15) rfl (by kernel_rfl) rfl rfl (gyes_t _) (fun hg w hs => g_ld hf hs T3 (ev_gv rfl hg) (k := 0) rfl rfl) (by decide) ?_; clear hf a; intro a hf
    refine ggA hf hS (i := 16) rfl (by kernel_rfl) rfl rfl (gyes_t _) (fun hg w hs => g_mv hf rfl) (by decide) ?_; clear hf a; intro a hf
    refine ggA hf hS (i := 18) rfl (by kernel_rfl) rfl rfl (gyes_t _) (fun hg w hs => g_fa (off' := 1) hf F64_1 rfl rfl) (by decide) ?_; clear hf a; intro a hf
    refine ggA hf hS (i := 19) rfl (by kernel_rfl) rfl rfl (gyes_t _) (fun hg w hs => g_ld hf hs T3 (ev_gv rfl hg) (k := 0) rfl rfl) (by decide) ?_; clear hf a; intro a hf
    refine ggA hf hS (i := 20) rfl (by kernel_rfl) rfl rfl (gyes_t _) (fun hg w hs => g_ldW hf hs T25 rfl (k := 1) rfl rfl) (by decide) ?_; clear hf a; intro a hf
    refine ggA hf hS (i := 21) rfl (by kernel_rfl) rfl rfl (gyes_t _) (fun hg w hs => g_fa (off' := 1) hf F64_1 rfl rfl) (by decide) ?_; clear hf a; intro a hf
    refine ggA hf hS (i := 22) rfl (by kernel_rfl) rfl rfl (gyes_t _) (fun hg w hs => g_ld hf hs T3 (ev_gv rfl hg) (k := 0) rfl rfl) (by decide) ?_; clear hf a; intro a hf
    refine ggA hf hS (i := 23) rfl (by kernel_rfl) rfl rfl (gyes_t _) (fun hg w hs => g_mv hf rfl) (by decide) ?_; clear hf a; intro a hf
    refine one (i := 17) (by kernel_rfl) ?_
    refine oCallG hf hs rfl rfl rfl (gyes_t _) (fun hg => ⟨_, _, _, _, c_reach b _ _ _ _ _ _ bits (b.rules.getD k default).over hv hri.1 _ ⟨hs.rd (.head _), hs.rd (.tail _ (.head _)), h.fc_, h.rc_⟩ (hs.rd (.tail _ (.tail _ (.tail _ (.head _))))), rfl, evs_cons (ev_gv rfl hg) (evs_cons (ev_gv rfl hg) (evs_cons (ev_gv rfl hg) evs_nil)), rfl⟩) E41 (by decide) (fun _ h => h.sub (.refl _)) ?_; clear hs hf hS a; intro w a hs hS hf
    refine one (i := 24) (by kernel_rfl) ?_
    refine oCallG hf hs rfl rfl rfl (gyes_t _) (fun hg => ⟨_, _, _, _, c_reach b _ _ _ _ _ _ bits (b.rules.getD k default).under hv hri.2 _ ⟨hs.rd (.head _), hs.rd (.tail _ (.head _)), h.fc_, h.rc_⟩ (hs.rd (.tail _ (.tail _ (.tail _ (.head _))))), rfl, evs_cons (ev_gv rfl hg) (evs_cons (ev_gv rfl hg) (evs_cons (ev_gv rfl hg) evs_nil)), rfl⟩) E41 (by decide) (fun _ h => h.sub (.refl _)) ?_; clear hs hf hS a; intro w a hs hS hf
    refine one (i := 25) (by kernel_rfl) ?_
    refine oCallG hf hs rfl rfl rfl (gyes_t _) (fun hg => ⟨_, _, _, _, c_meets b _ _ _ _ (b.rules.getD k default).over _ (b.rules.getD k default).under _ hv hri.1 hri.2 (reach_rng hv hri.1 bits).2.2 (reach_rng hv hri.2 bits).2.2 _ ⟨hs.rd (.head _), hs.rd (.tail _ (.head _)), h.fc_, h.rc_⟩, rfl, evs_cons (ev_gv rfl hg) (evs_cons (ev_gv rfl hg) (evs_cons (ev_gv rfl hg) (evs_cons (ev_gv rfl hg) (evs_cons (ev_gv rfl hg) evs_nil)))), rfl⟩) E40 (by decide) (fun _ h => h.sub (.refl _)) ?_; clear hs hf hS a; intro w a hs hS hf
    refine gA hf hS (i := 26) rfl (by kernel_rfl) (fun w hs => g_and hf rfl rfl) (by decide) ?_; clear hf a; intro a hf
    refine e_done (by kernel_rfl) ?_
    refine c_cond hf rfl (fun hc2 => ?_) (fun hc2 => ?_)
    · skip
      refine c_reg ?_
      refine gL hf (g_as hf rfl) (by decide) ?_; clear hf a; intro a hf
      refine e_nil ?_
      refine c_ret (q_blkR (q_thenR (q_thenR (q_blkR (q_thenR ?_)))))
      refine e_ret1 hf rfl rfl ?_
      exact ⟨by rw [stopped_yes (k := k) (by omega) hc2], hs.below⟩
    · skip
      refine c_skip (q_blkN (q_thenN ?_))
      refine c_reg1 ?_
      refine gL hf (g_mv hf rfl) (by decide) ?_; clear hf a; intro a hf
      refine gL hf (g_addI hf rfl rfl (by omega)) (by decide) ?_; clear hf a; intro a hf
      refine gL hf (g_as hf rfl) (by decide) ?_; clear hf a; intro a hf
      refine e_nil1 (q_thenN ?_)
      exact ⟨k + 1, ⟨by omega, lt_succ hp hc2⟩, (by omega), hf.back (by repeat (first | (with_reducible exact Ext.base) | ((with_reducible refine Ext.cons ?_ ?_); (· rfl)) | ((with_reducible refine Ext.over ?_ ?_ ?_); (· rfl); (· rfl)))) (allKeys rfl) (.cons rfl .nil), hs.dropN 1⟩
  · try simp only [decide_eq_true_eq, decide_eq_false_iff_not] at hc1
    refine c_exit (q_thenX (q_thenX (q_blkX (q_thenN ?_))))
    refine c_reg ?_
    refine gL hf (g_as hf rfl) (by decide) ?_; clear hf a; intro a hf
    refine e_nil ?_
    refine c_ret ?_
    refine e_ret1 hf rfl rfl ?_
    exact ⟨by rw [stopped_no (fun j hj => hp j (by omega))], hs.below⟩

end Go.Proofs.YtpjhffockmnjbaaDoor
set_option linter.unusedVariables false
set_option linter.unusedSimpArgs false
namespace Go.Proofs.YtpjhffockmnjbaaDoor
def iota (n : Nat) : List Int := (List.range n).map fun i => ((i : Nat) : Int)
theorem iota_succ (n : Nat) : iota (n + 1) = iota n ++ [((n : Nat) : Int)] := by simp [iota, List.range_succ]
theorem iota_len (n : Nat) : (iota n).length = n := by simp [iota]
theorem mem_iota {n : Nat} {x : Int} : x ∈ iota n ↔ 0 ≤ x ∧ x < n := by
  simp only [iota, List.mem_map, List.mem_range]
  constructor
  · rintro ⟨i, hi, rfl⟩; omega
  · intro h; exact ⟨x.toNat, by omega, by omega⟩
theorem iota_nodup (n : Nat) : (iota n).Nodup := by
  unfold iota
  rw [List.nodup_iff_pairwise_ne, List.pairwise_map, List.pairwise_iff_getElem]
  intro i j hi hj hij
  simp only [List.getElem_range]
  omega
def dStep (bits : List Int) (s : List Int × List Int) (i : Nat) : List Int × List Int :=
  (s.1.take (spin (itemZ bits (i : Nat)) (s.1.length : Nat)).toNat ++ s.1.drop (spin (itemZ bits (i : Nat)) (s.1.length : Nat) + 1).toNat, s.2 ++ [s.1.getD (spin (itemZ bits (i : Nat)) (s.1.length : Nat)).toNat default])
/-- What is left, and what is drawn, behind so many draws. -/
def dAt (bits : List Int) (n i : Nat) : List Int × List Int := (List.range i).foldl (dStep bits) (iota n, [])
/-- An order that numbers choose. -/
def drawnL (b : Sheet) (bits : List Int) : List Int := (dAt bits b.flaps.length b.flaps.length).2
theorem dAt_succ (bits : List Int) (n i : Nat) : dAt bits n (i + 1) = dStep bits (dAt bits n i) i := by simp [dAt, List.range_succ]
structure DInv (n : Nat) (s : List Int × List Int) : Prop where
  nodup : (s.1 ++ s.2).Nodup
  inb : ∀ x ∈ s.1 ++ s.2, 0 ≤ x ∧ x < n
  len : s.1.length + s.2.length = n
theorem split_at {l : List Int} {k : Nat} (h : k < l.length) : l = l.take k ++ l.getD k default :: l.drop (k + 1) := by
  rw [List.getD_eq_getElem?_getD, List.getElem?_eq_getElem h, Option.getD_some, ← List.drop_eq_getElem_cons h, List.take_append_drop]
theorem dInv_step {n : Nat} {s : List Int × List Int} (h : DInv n s) (h0 : 0 < s.1.length) (bits : List Int) (i : Nat) : DInv n (dStep bits s i) ∧ (dStep bits s i).1.length + 1 = s.1.length := by
  obtain ⟨l, o⟩ := s
  dsimp only at h0
  obtain ⟨h1, h2, h3⟩ := h
  dsimp only at h1 h2 h3
  have hs := spin_rng (itemZ bits (i : Nat)) (m := (l.length : Nat)) (by omega)
  simp only [dStep]
  generalize hk : spin (itemZ bits ((i : Nat) : Int)) ((l.length : Nat) : Int) = k at hs
  have hk1 : (k + 1).toNat = k.toNat + 1 := by omega
  have hlt : k.toNat < l.length := by omega
  rw [hk1]
  have he := split_at hlt
  generalize hx : l.getD k.toNat default = x at he
  generalize ht : l.take k.toNat = p at he
  generalize hd : l.drop (k.toNat + 1) = q at he
  have hp : (l ++ o).Perm ((p ++ q) ++ (o ++ [x])) := by
    rw [he]
    have e1 : (p ++ x :: q ++ o).Perm (x :: (p ++ q) ++ o) := (List.perm_middle).append_right o
    have e2 : (x :: (p ++ q) ++ o).Perm (((p ++ q) ++ o) ++ [x]) := by
      show (x :: ((p ++ q) ++ o)).Perm _
      exact (List.perm_append_singleton x _).symm
    have := e1.trans e2
    simpa using this
  refine ⟨⟨hp.nodup_iff.1 h1, fun y hy => h2 y (hp.mem_iff.2 hy), ?_⟩, ?_⟩
  · have := hp.length_eq
    simp only [List.length_append] at this ⊢
    omega
  · have := congrArg List.length he
    simp only [List.length_append, List.length_cons] at this ⊢
    omega
theorem dInv (bits : List Int) (n : Nat) : ∀ i, i ≤ n → DInv n (dAt bits n i) ∧ (dAt bits n i).1.length = n - i
  | 0, _ => ⟨⟨by simpa [dAt] using iota_nodup n, fun x hx => by rw [show (dAt bits n 0).1 ++ (dAt bits n 0).2 = iota n by simp [dAt]] at hx; exact mem_iota.1 hx, by simp [dAt, iota_len]⟩, by simp [dAt, iota_len]⟩
  | i + 1, h => by
    obtain ⟨h1, h2⟩ := dInv bits n i (by omega)
    rw [dAt_succ]
    have := dInv_step h1 (by omega) bits i
    exact ⟨this.1, by omega⟩
theorem drawn_ord (b : Sheet) (bits : List Int) : ordB b (drawnL b bits) = true := by
  obtain ⟨⟨h1, h2, h3⟩, h4⟩ := dInv bits b.flaps.length b.flaps.length (Nat.le_refl _)
  have e : (dAt bits b.flaps.length b.flaps.length).1 = [] := List.eq_nil_of_length_eq_zero (by omega)
  rw [e, List.nil_append] at h1 h2
  rw [e, List.length_nil, Nat.zero_add] at h3
  exact ordB_iff.2 ⟨h3, h1, h2⟩
theorem does_ends {b : Sheet} (hv : Valid b) {l : List Int} (ho : ordB b l = true) (bits : List Int) : (0 ≤ 2 - worst b l b.rules.length ∧ 2 - worst b l b.rules.length ≤ 2) ∧ (2 - worst b l b.rules.length = 2 → stoppedB b l bits = false) ∧ (2 - worst b l b.rules.length = 0 → stoppedB b l bits = true) := by
  have := worst_le b l b.rules.length
  exact ⟨by omega, fun h => not_stopped hv ho ((does_two hv ho).1 h) bits, fun h => is_stopped hv h bits⟩
theorem does_late {b : Sheet} (hck : checkB b = true) {l : List Int} (ho : ordB b l = true) (h : ¬ 2 - worst b l b.rules.length < 2) : (orderP b).2 = 0 ∧ (ringP b).2 = 4 ∧ earlierB l (orderP b).1 = false := by
  have hv := valid_of hck
  have h1 := worst_le b l b.rules.length
  have hok := (does_two hv ho).1 (by omega)
  have hm := (mem_allO hv).2 ⟨hok, (ordB_iff.1 ho).1⟩
  rcases told_cases hck with ⟨_, _, ha, _⟩ | ⟨lo, rest, h1, h2, _, h3, _⟩
  · rw [ha] at hm; cases hm
  · rw [h1, h3]
    exact ⟨rfl, rfl, allO_first h2 hm⟩
theorem asked_none {b : Sheet} {i j : Int} (h : ∀ k, k < b.rules.length → ((b.rules.getD k default).over == i && (b.rules.getD k default).under == j) = false) : overP b i j = false := by
  rw [Bool.eq_false_iff]
  intro ho
  obtain ⟨_, r, hr, h1, h2⟩ := overP_iff.1 ho
  obtain ⟨k, hk, rfl⟩ := List.getElem_of_mem hr
  have := h k hk
  rw [List.getD_eq_getElem?_getD, List.getElem?_eq_getElem hk] at this
  simp [h1, h2] at this
theorem asked_some {b : Sheet} {i j : Int} {k : Nat} (hk : k < b.rules.length) (h : ((b.rules.getD k default).over == i && (b.rules.getD k default).under == j) = true) : overP b i j = decide (0 < cellN b 2 i j) := by
  simp only [Bool.and_eq_true, beq_iff_eq] at h
  rw [Bool.eq_iff_iff, overP_iff, decide_eq_true_eq]
  exact ⟨fun h => h.1, fun hc => ⟨hc, _, getD_mem hk, h.1, h.2⟩⟩
end Go.Proofs.YtpjhffockmnjbaaDoor
set_option linter.unusedVariables false
set_option linter.unusedSimpArgs false
namespace Go.Proofs.YtpjhffockmnjbaaDoor
open Go.RowKit
theorem c_drawn (b : Sheet) (fA : Option Addr) (fc : Nat) (rA : Option Addr) (rc : Nat) (oA : Option Addr) (oc : Nat) (l : List Int) (hv : Valid b) (w0 : World) (h : ShIn b fA fc rA rc w0) (ho : Rd encI 1 oA l.length l w0) :
    Calls Tryd.prog 42 #[.agg #[.int .i64 b.wide, .int .i64 b.high, .slice fA b.flaps.length fc, .slice rA b.rules.length rc], .slice oA l.length oc] w0 (RetX w0 (fun v w0' => ∃ A c, v = .slice A (drawnL b l).length c ∧ Out (drawnL b l) A c w0 w0')) := by
  refine c_enter (n := 50) Tryd.func42 rfl rfl (Nat.le_of_ble_eq_true rfl) ?_; intro a hf; simp only [zipR] at hf
  have hs := St.start w0 [Rd encF 5 fA b.flaps.length b.flaps, Rd encR 2 rA b.rules.length b.rules, Rd encI 1 oA l.length l] (stab_app h.stab ho.st1)
  have hfm := h.F.2.1; have hrm := h.R.2.1; have hlm := ho.2.1
  have hmany := hv.many
  refine c_reg ?_
  refine vL hf (v_boxA hf hs rfl) (by decide) ?_; clear hs hf a; rintro _ w ⟨b1, rfl, hs⟩ a hf
  refine gL hf (g_as hf rfl) (by decide) ?_; clear hf a; intro a hf
  refine e_nil ?_
  refine c_reg ?_
  refine gL hf (g_as hf rfl) (by decide) ?_; clear hf a; intro a hf
  refine gL hf (g_as hf rfl) (by decide) ?_; clear hf a; intro a hf
  refine e_nil ?_
  refine wp_seq ?_
  refine c_reg ?_
  refine gL hf (g_as hf rfl) (by decide) ?_; clear hf a; intro a hf
  refine e_nil ?_
  refine c_block ?_
  refine c_loop hf hs [5, 7, 10, 11, 12, 13, 14, 15, 16, 17, 18, 19, 20] (σ := (Nat × Acc)) (fun s => [(5, accV 1 (iota s.1).length s.2), (7, .int .i64 (s.1 : Nat))]) (fun s => (b1, .cells #[.int .i64 b.wide, .int .i64 b.high, .slice fA b.flaps.length fc, .slice rA b.rules.length rc] 25 (0, 0)) :: accH 3 s.2) (fun s => s.1 ≤ b.flaps.length ∧ AccOK encI 1 (iota s.1) s.2) (fun s => b.flaps.length - s.1) (0, none) ⟨Nat.zero_le _, rfl⟩ (.cons rfl (.cons rfl .nil)) rfl ?_
  intro ⟨k, oa⟩ a w hJ hf hs
  dsimp only at hJ hf hs
  obtain ⟨hk, hoa⟩ := hJ
  refine wp_seq ?_
  refine c_reg ?_
  refine gL hf (g_mv hf rfl) (by decide) ?_; clear hf a; intro a hf
  refine gL hf (g_fa (off' := 2) hf F25_2 rfl rfl) (by decide) ?_; clear hf a; intro a hf
  refine gL hf (g_ld hf hs T22 rfl (k := 0) rfl rfl) (by decide) ?_; clear hf a; intro a hf
  refine gL hf (g_len hf SL22 rfl) (by decide) ?_; clear hf a; intro a hf
  refine gL hf (g_lss hf rfl rfl) (by decide) ?_; clear hf a; intro a hf
  refine e_nil ?_
  refine c_cond hf rfl (fun hc1 => ?_) (fun hc1 => ?_)
  · try simp only [decide_eq_true_eq, decide_eq_false_iff_not] at hc1
    refine c_skip (q_thenN ?_)
    refine c_blockS ?_
    refine c_reg1 ?_
    refine gL hf (g_mv hf rfl) (by decide) ?_; clear hf a; intro a hf
    refine gL hf (g_mv hf rfl) (by decide) ?_; clear hf a; intro a hf
    refine vL hf (v_lits (len := 1) hf hs SL27 T3 (.cons rfl .nil) rfl rfl rfl rfl (by decide) rfl) (by decide) ?_; clear hs hf a; rintro _ w ⟨b2, rfl, hs⟩ a hf
    refine vL hf (v_accN (e := 3) (R := []) (o := oa) hf 2 hs (by simp) hoa AP27 (enc := encI) (l := iota k) (l' := [((k : Nat) : Int)]) (fun _ => rfl) (by decide) (by intro x v hv9; rw [List.mem_singleton.1 hv9]; rfl) rfl rfl rfl (rd_one rfl (hs.own _ _ (.head _)).2) (by rw [iota_len]; omega) (by decide)) (by decide) ?_; clear hs hf a; rintro _ w ⟨oa2, rfl, hoa2, hs⟩ a hf; dsimp only [List.take, List.cons_append, List.nil_append] at hs; rw [List.append_nil] at hs
    rw [show (iota k).length + 1 = (iota (k + 1)).length by simp [iota_len]] at hf; rw [← iota_succ] at hoa2
    refine gL hf (g_as hf rfl) (by decide) ?_; clear hf a; intro a hf
    refine e_nil1 (q_blkN (q_thenN ?_))
    refine c_reg1 ?_
    refine gL hf (g_mv hf rfl) (by decide) ?_; clear hf a; intro a hf
    refine gL hf (g_addI hf rfl rfl (by omega)) (by decide) ?_; clear hf a; intro a hf
    refine gL hf (g_as hf rfl) (by decide) ?_; clear hf a; intro a hf
    refine e_nil1 (q_thenN ?_)
    exact ⟨(k + 1, oa2), ⟨by dsimp only; omega, hoa2⟩, (by dsimp only; omega), hf.back (by repeat (first | (with_reducible exact Ext.base) | ((with_reducible refine Ext.cons ?_ ?_); (· rfl)) | ((with_reducible refine Ext.over ?_ ?_ ?_); (· rfl); (· rfl)))) (allKeys rfl) (.cons rfl (.cons rfl .nil)), hs.dropN 1⟩
  · try simp only [decide_eq_true_eq, decide_eq_false_iff_not] at hc1
    obtain rfl : k = b.flaps.length := by omega
    obtain ⟨A1, c1, e1, hl1, hs⟩ := hs.freeze (R := []) (e := 3) (o := oa) (enc := encI) (sz := 1) 1 (by simp) hoa (fun _ => rfl) (by decide)
    dsimp only [List.take, List.cons_append, List.nil_append, List.append_nil] at hs
    rw [e1] at hf
    refine c_exit (q_thenX (q_thenX (q_blkX (q_thenN ?_))))
    refine wp_seq ?_
    refine c_reg ?_
    refine gL hf (g_as hf rfl) (by decide) ?_; clear hf a; intro a hf
    refine e_nil ?_
    refine c_block ?_
    refine c_loopD (fun s => Base.of w0) (fun s => Rd encI 1 s.2.1 (dAt l b.flaps.length s.1).1.length (dAt l b.flaps.length s.1).1 :: Rd encF 5 fA b.flaps.length b.flaps :: Rd encR 2 rA b.rules.length b.rules :: Rd encI 1 oA l.length l :: []) hf (List.range' 5 2 ++ List.range' 8 2 ++ List.range' 21 28) (σ := (Nat × Option Addr × Nat × Acc)) (fun s => [(5, .slice s.2.1 (dAt l b.flaps.length s.1).1.length s.2.2.1), (6, accV 1 (dAt l b.flaps.length s.1).2.length s.2.2.2), (8, .int .i64 (s.1 : Nat))]) (fun s => (b1, .cells #[.int .i64 b.wide, .int .i64 b.high, .slice fA b.flaps.length fc, .slice rA b.rules.length rc] 25 (0, 0)) :: accH 3 s.2.2.2) (fun s => s.1 ≤ b.flaps.length ∧ (dAt l b.flaps.length s.1).1.length ≤ s.2.2.1 ∧ AccOK encI 1 (dAt l b.flaps.length s.1).2 s.2.2.2) (fun s => b.flaps.length - s.1) (0, A1, c1, none) hs ⟨Nat.zero_le _, hl1, rfl⟩ (.cons rfl (.cons rfl (.cons rfl .nil))) ?_
    intro ⟨i, AL, cL, oo⟩ a w hJ hf hs
    dsimp only at hJ hf hs
    obtain ⟨hi9, hlc, hoo⟩ := hJ
    obtain ⟨hinv, hlen⟩ := dInv l b.flaps.length i hi9
    have hln := hinv.len
    refine wp_seq ?_
    refine c_reg ?_
    refine gL hf (g_mv hf rfl) (by decide) ?_; clear hf a; intro a hf
    refine gL hf (g_len hf SL27 rfl) (by decide) ?_; clear hf a; intro a hf
    refine gL hf (g_gtr hf rfl rfl) (by decide) ?_; clear hf a; intro a hf
    refine e_nil ?_
    refine c_cond hf rfl (fun hc2 => ?_) (fun hc2 => ?_)
    · try simp only [decide_eq_true_eq, decide_eq_false_iff_not] at hc2
      have hsp := spin_rng (itemZ l ((i : Nat) : Int)) (m := (((dAt l b.flaps.length i).1.length : Nat) : Int)) (by omega)
      refine c_skip (q_thenN ?_)
      refine c_blockS ?_
      refine c_reg ?_
      refine gL hf (g_mv hf rfl) (by decide) ?_; clear hf a; intro a hf
      refine gL hf (g_mv hf rfl) (by decide) ?_; clear hf a; intro a hf
      refine callL hf hs (c_Item _ _ l _ _ (hs.rd (.tail _ (.tail _ (.tail _ (.head _)))))) rfl rfl rfl E83 (by decide) ?_; clear hs hf a; intro w a hs hf
      refine gL hf (g_mv hf rfl) (by decide) ?_; clear hf a; intro a hf
      refine gL hf (g_len hf SL27 rfl) (by decide) ?_; clear hf a; intro a hf
      refine callL hf hs (c_Spin _ _ (by omega) _) rfl rfl rfl E38 (by decide) ?_; clear hs hf a; intro w a hs hf
      refine gL hf (g_as hf rfl) (by decide) ?_; clear hf a; intro a hf
      refine e_nil ?_
      refine c_reg ?_
      refine gL hf (g_mv hf rfl) (by decide) ?_; clear hf a; intro a hf
      refine gL hf (g_mv hf rfl) (by decide) ?_; clear hf a; intro a hf
      refine gL hf (g_mv hf rfl) (by decide) ?_; clear hf a; intro a hf
      (first | (refine gL hf (g_ixE hf hs (.head _) SL27 rfl rfl (by omega)) (by decide) ?_) | (refine gL hf (g_ixD hf hs (.head _) SL27 rfl rfl (by omega)) (by decide) ?_)); clear hf a; intro a hf
      refine gL hf (g_ldE hf hs (.head _) T3 rfl rfl (by omega)) (by decide) ?_; clear hf a; intro a hf
      refine vL hf (v_lits (len := 1) hf hs SL27 T3 (.cons rfl .nil) rfl rfl rfl rfl (by decide) rfl) (by decide) ?_; clear hs hf a; rintro _ w ⟨b2, rfl, hs⟩ a hf
      refine vL hf (v_accN (e := 3) (R := []) (o := oo) hf 2 hs (by simp) hoo AP27 (enc := encI) (l := (dAt l b.flaps.length i).2) (l' := [(dAt l b.flaps.length i).1.getD (spin (itemZ l ((i : Nat) : Int)) (((dAt l b.flaps.length i).1.length : Nat) : Int)).toNat default]) (fun _ => rfl) (by decide) (by intro x v hv9; rw [List.mem_singleton.1 hv9]; rfl) rfl rfl rfl (rd_one rfl (hs.own _ _ (.head _)).2) (by omega) (by decide)) (by decide) ?_; clear hs hf a; rintro _ w ⟨oo2, rfl, hoo2, hs⟩ a hf; dsimp only [List.take, List.cons_append, List.nil_append] at hs; rw [List.append_nil] at hs
      refine gL hf (g_as hf rfl) (by decide) ?_; clear hf a; intro a hf
      refine e_nil ?_
      refine c_draw1 _ 11 Mx rfl hs (fun _ h => h) ?_; intro w hs hS
      refine gA hf hS (i := 1) rfl (by kernel_rfl) (fun w hs => g_mv hf rfl) (by decide) ?_; clear hf a; intro a hf
      refine gA hf hS (i := 2) rfl (by kernel_rfl) (fun w hs => g_mv hf rfl) (by decide) ?_; clear hf a; intro a hf
      refine gA hf hS (i := 3) rfl (by kernel_rfl) (fun w hs => g_slH hf SL27 rfl rfl (by omega)) (by decide) ?_; clear hf a; intro a hf
      refine gA hf hS (i := 5) rfl (by kernel_rfl) (fun w hs => g_mv hf rfl) (by decide) ?_; clear hf a; intro a hf
      refine gA hf hS (i := 6) rfl (by kernel_rfl) (fun w hs => g_mv hf rfl) (by decide) ?_; clear hf a; intro a hf
      refine gA hf hS (i := 7) rfl (by kernel_rfl) (fun w hs => g_addI hf rfl rfl (by omega)) (by decide) ?_; clear hf a; intro a hf
      refine gA hf hS (i := 8) rfl (by kernel_rfl) (fun w hs => g_slL hf SL27 rfl rfl (by omega)) (by decide) ?_; clear hf a; intro a hf
      refine one (i := 0) (by kernel_rfl) ?_
      refine oV hf rfl (v_lits (len := 0) hf hs SL27 T3 .nil rfl rfl rfl rfl (by decide) rfl) (by decide) (fun _ _ ⟨_, _, h⟩ => h.sub (.cons _ (.refl _))) ?_; clear hs hf hS a; rintro _ w ⟨b3, rfl, hs⟩ hS a hf
      refine one (i := 4) (by kernel_rfl) ?_
      refine oV hf rfl (v_accN (e := 3) (o := some (b3, #[])) (l := []) (l' := (dAt l b.flaps.length i).1.take (spin (itemZ l ((i : Nat) : Int)) (((dAt l b.flaps.length i).1.length : Nat) : Int)).toNat) (len := 0) hf 0 hs rfl ⟨0, rfl, Nat.le_refl _, by omega, rfl⟩ AP27 (enc := encI) (fun _ => rfl) (by decide) (by intro x v hv9; rw [List.mem_singleton.1 hv9]; rfl) rfl rfl rfl ((hs.rd (.head _)).take _ (by omega)) (by omega) (by decide)) (by decide) (fun _ _ ⟨_, _, _, h⟩ => h.sub (List.sublist_append_right _ _)) ?_; clear hs hf hS a; rintro _ w ⟨o1, rfl, ho1, hs⟩ hS a hf; dsimp only [List.take, List.nil_append] at hs
      refine one (i := 9) (by kernel_rfl) ?_
      refine oV hf rfl (v_accN (e := 3) (o := o1) (l := [] ++ (dAt l b.flaps.length i).1.take (spin (itemZ l ((i : Nat) : Int)) (((dAt l b.flaps.length i).1.length : Nat) : Int)).toNat) (l' := (dAt l b.flaps.length i).1.drop ((spin (itemZ l ((i : Nat) : Int)) (((dAt l b.flaps.length i).1.length : Nat) : Int)) + 1).toNat) hf 0 hs rfl ho1 AP27 (enc := encI) (fun _ => rfl) (by decide) (by intro x v hv9; rw [List.mem_singleton.1 hv9]; rfl) (by simp; omega) rfl rfl ((hs.rd (.head _)).drop _ (by omega) hlc) (by omega) (by decide)) (by decide) (fun _ _ ⟨_, _, _, h⟩ => h.sub (List.sublist_append_right _ _)) ?_; clear hs hf hS a; rintro _ w ⟨o2, rfl, ho2, hs⟩ hS a hf; dsimp only [List.take, List.nil_append] at hs
      refine gA hf hS (i := 10) rfl (by kernel_rfl) (fun w hs => g_as hf rfl) (by decide) ?_; clear hf a; intro a hf
      refine e_done1 (by kernel_rfl) ?_
      refine q_blkN (q_thenN ?_)
      have hd8 : dAt l b.flaps.length (i + 1) = ([] ++ (dAt l b.flaps.length i).1.take (spin (itemZ l ((i : Nat) : Int)) (((dAt l b.flaps.length i).1.length : Nat) : Int)).toNat ++ (dAt l b.flaps.length i).1.drop ((spin (itemZ l ((i : Nat) : Int)) (((dAt l b.flaps.length i).1.length : Nat) : Int)) + 1).toNat, (dAt l b.flaps.length i).2 ++ [(dAt l b.flaps.length i).1.getD (spin (itemZ l ((i : Nat) : Int)) (((dAt l b.flaps.length i).1.length : Nat) : Int)).toNat default]) := by rw [dAt_succ]; rfl
      have ho3 : AccOK encI 1 (dAt l b.flaps.length (i + 1)).1 o2 := by rw [hd8]; exact ho2
      rw [show 0 + (spin (itemZ l ((i : Nat) : Int)) (((dAt l b.flaps.length i).1.length : Nat) : Int)).toNat + ((dAt l b.flaps.length i).1.length - ((spin (itemZ l ((i : Nat) : Int)) (((dAt l b.flaps.length i).1.length : Nat) : Int)) + 1).toNat) = (dAt l b.flaps.length (i + 1)).1.length by rw [hd8]; simp only [List.length_append, List.length_nil, List.length_take, List.length_drop]; omega] at hf
      obtain ⟨A2, c2, e2, hl2, hs⟩ := hs.freeze (e := 3) (o := o2) (enc := encI) (sz := 1) 0 rfl ho3 (fun _ => rfl) (by decide)
      dsimp only [List.take, List.nil_append] at hs
      rw [e2] at hf
      rw [show (dAt l b.flaps.length i).2.length + 1 = (dAt l b.flaps.length (i + 1)).2.length by rw [hd8]; simp] at hf
      rw [show (dAt l b.flaps.length i).2 ++ [(dAt l b.flaps.length i).1.getD (spin (itemZ l ((i : Nat) : Int)) (((dAt l b.flaps.length i).1.length : Nat) : Int)).toNat default] = (dAt l b.flaps.length (i + 1)).2 by rw [hd8]] at hoo2
      refine c_reg1 ?_
      refine gL hf (g_mv hf rfl) (by decide) ?_; clear hf a; intro a hf
      refine gL hf (g_addI hf rfl rfl (by omega)) (by decide) ?_; clear hf a; intro a hf
      refine gL hf (g_as hf rfl) (by decide) ?_; clear hf a; intro a hf
      refine e_nil1 (q_thenN ?_)
      exact ⟨(i + 1, A2, c2, oo2), ⟨by dsimp only; omega, hl2, hoo2⟩, (by dsimp only; omega), hf.back (by repeat (first | (with_reducible exact Ext.base) | ((with_reducible refine Ext.cons ?_ ?_); (· rfl)) | ((with_reducible refine Ext.over ?_ ?_ ?_); (· rfl); (· rfl)))) (allKeys rfl) (.cons rfl (.cons rfl (.cons rfl .nil))), (hs.dropN 1).subD (fun _ h => by rcases List.mem_cons.1 h with rfl | h; exact .head _; exact .tail _ (.tail _ h))⟩
    · try simp only [decide_eq_true_eq, decide_eq_false_iff_not] at hc2
      obtain rfl : i = b.flaps.length := by omega
      have hn1 : ∀ q, oo = some q → w0.heap.size ≤ q.1 := fun q e => by subst e; exact (hs.own _ _ (.tail _ (.head _))).1
      obtain ⟨A3, c3, e3, hl3, hs⟩ := hs.freeze (R := []) (e := 3) (o := oo) (enc := encI) (sz := 1) 1 (by simp) hoo (fun _ => rfl) (by decide)
      have hA3 := acc_new hn1 e3
      rw [e3] at hf
      refine c_exit (q_thenX (q_thenX (q_blkX (q_thenN ?_))))
      refine c_reg ?_
      refine gL hf (g_mv hf rfl) (by decide) ?_; clear hf a; intro a hf
      refine gL hf (g_as hf rfl) (by decide) ?_; clear hf a; intro a hf
      refine e_nil ?_
      refine c_ret ?_
      refine e_ret1 hf rfl rfl ?_
      exact ⟨_, rfl, hs.below, A3, c3, rfl, hl3, hs.rd (.head _), hA3⟩

end Go.Proofs.YtpjhffockmnjbaaDoor
set_option linter.unusedVariables false
set_option linter.unusedSimpArgs false
namespace Go.Proofs.YtpjhffockmnjbaaDoor
open Go.RowKit
theorem c_askedB (b : Sheet) (fA : Option Addr) (fc : Nat) (rA : Option Addr) (rc : Nat) (ge : TypeId) (gz : Nat × Nat) (i j : Int) (hck : checkB b = true) (w0 : World) (h : ShIn b fA fc rA rc w0) (hG : BlkIs 0 sidesA ge gz w0) :
    Calls Tryd.prog 45 #[.agg #[.int .i64 b.wide, .int .i64 b.high, .slice fA b.flaps.length fc, .slice rA b.rules.length rc], .int .i64 i, .int .i64 j] w0 (Ret w0 (.bool (overP b i j))) := by
  refine c_enter (n := 48) Tryd.func45 rfl rfl (Nat.le_of_ble_eq_true rfl) ?_; intro a hf; simp only [zipR] at hf
  have hs := St.start w0 [Rd encF 5 fA b.flaps.length b.flaps, Rd encR 2 rA b.rules.length b.rules, BlkIs 0 sidesA ge gz] (stab_app h.stab hG.st1)
  have hfm := h.F.2.1; have hrm := h.R.2.1
  have hv := valid_of hck
  refine c_reg ?_
  refine vL hf (v_boxA hf hs rfl) (by decide) ?_; clear hs hf a; rintro _ w ⟨b1, rfl, hs⟩ a hf
  refine gL hf (g_as hf rfl) (by decide) ?_; clear hf a; intro a hf
  refine e_nil ?_
  refine wp_seq ?_
  refine c_reg ?_
  refine gL hf (g_as hf rfl) (by decide) ?_; clear hf a; intro a hf
  refine e_nil ?_
  refine c_block ?_
  refine c_loop hf hs (List.range' 6 42) (σ := Nat) (fun k => [(7, .int .i64 (k : Nat))]) (fun k => _) (fun k => k ≤ b.rules.length ∧ ∀ q, q < k → ((b.rules.getD q default).over == i && (b.rules.getD q default).under == j) = false) (fun k => b.rules.length - k) 0 ⟨by omega, fun z hz => absurd hz (by omega)⟩ (.cons rfl .nil) rfl ?_
  intro k a w hJ hf hs
  obtain ⟨hk, hp⟩ := hJ
  refine wp_seq ?_
  refine c_reg ?_
  refine gL hf (g_mv hf rfl) (by decide) ?_; clear hf a; intro a hf
  refine gL hf (g_fa (off' := 3) hf F25_3 rfl rfl) (by decide) ?_; clear hf a; intro a hf
  refine gL hf (g_ld hf hs T23 rfl (k := 0) rfl rfl) (by decide) ?_; clear hf a; intro a hf
  refine gL hf (g_len hf SL23 rfl) (by decide) ?_; clear hf a; intro a hf
  refine gL hf (g_lss hf rfl rfl) (by decide) ?_; clear hf a; intro a hf
  refine e_nil ?_
  refine c_cond hf rfl (fun hc1 => ?_) (fun hc1 => ?_)
  · try simp only [decide_eq_true_eq, decide_eq_false_iff_not] at hc1
    refine c_skip (q_thenN ?_)
    refine c_blockS ?_
    refine c_reg ?_
    refine gL hf (g_fa (off' := 3) hf F25_3 rfl rfl) (by decide) ?_; clear hf a; intro a hf
    refine gL hf (g_ld hf hs T23 rfl (k := 0) rfl rfl) (by decide) ?_; clear hf a; intro a hf
    refine gL hf (g_mv hf rfl) (by decide) ?_; clear hf a; intro a hf
    (first | (refine gL hf (g_ixE hf hs (.tail _ (.head _)) SL23 rfl rfl (by omega)) (by decide) ?_) | (refine gL hf (g_ixD hf hs (.tail _ (.head _)) SL23 rfl rfl (by omega)) (by decide) ?_)); clear hf a; intro a hf
    refine gL hf (g_faD (j' := 0) hf hs (.tail _ (.head _)) F64_0 rfl (by omega) rfl) (by decide) ?_; clear hf a; intro a hf
    refine gL hf (g_ldE hf hs (.tail _ (.head _)) T3 rfl rfl (by omega)) (by decide) ?_; clear hf a; intro a hf
    refine gL hf (g_mv hf rfl) (by decide) ?_; clear hf a; intro a hf
    refine gL hf (g_eql hf rfl rfl) (by decide) ?_; clear hf a; intro a hf
    refine gL hf (g_mv hf rfl) (by decide) ?_; clear hf a; intro a hf
    refine ggL hf rfl rfl (gyes_t _) (fun hg => g_fa (off' := 3) hf F25_3 rfl rfl) (by decide) ?_; clear hf a; intro a hf
    refine ggL hf rfl rfl (gyes_t _) (fun hg => g_ld hf hs T23 (ev_gv rfl hg) (k := 0) rfl rfl) (by decide) ?_; clear hf a; intro a hf
    refine ggL hf rfl rfl (gyes_t _) (fun hg => g_mv hf rfl) (by decide) ?_; clear hf a; intro a hf
    (first | (refine ggL hf rfl rfl (gyes_t _) (fun hg => g_ixE hf hs (.tail _ (.head _)) SL23 (ev_gv rfl hg) (ev_gv rfl hg) (by omega)) (by decide) ?_) | (refine ggL hf rfl rfl (gyes_t _) (fun hg => g_ixD hf hs (.tail _ (.head _)) SL23 (ev_gv rfl hg) (ev_gv rfl hg) (by omega)) (by decide) ?_)); clear hf a; intro a hf
    refine ggL hf rfl rfl (gyes_t _) (fun hg => g_faD (j' := 1) hf hs (.tail _ (.head _)) F64_1 (ev_gv rfl hg) (by omega) rfl) (by decide) ?_; clear hf a; intro a hf
    refine ggL hf rfl rfl (gyes_t _) (fun hg => g_ldE hf hs (.tail _ (.head _)) T3 (ev_gv rfl hg) rfl (by omega)) (by decide) ?_; clear hf a; intro a hf
    refine ggL hf rfl rfl (gyes_t _) (fun hg => g_mv hf rfl) (by decide) ?_; clear hf a; intro a hf
    refine ggL hf rfl rfl (gyes_t _) (fun hg => g_eql hf (ev_gv rfl hg) (ev_gv rfl hg)) (by decide) ?_; clear hf a; intro a hf
    refine gL hf (g_and hf rfl rfl) (by decide) ?_; clear hf a; intro a hf
    refine e_nil ?_
    refine c_cond hf rfl (fun hc2 => ?_) (fun hc2 => ?_)
    · skip
      have hri := rule_in hv (getD_mem (l := b.rules) (i := k) (by omega)); have hru := hv.rule _ (getD_mem (l := b.rules) (i := k) (by omega))
      obtain ⟨ho1, ho2⟩ : (b.rules.getD k default).over = i ∧ (b.rules.getD k default).under = j := by simpa using hc2
      have hin : inN b i ∧ inN b j := ⟨ho1 ▸ hri.1, ho2 ▸ hri.2⟩
      have hne : i ≠ j := by rw [← ho1, ← ho2]; exact hru.2.2.2.2
      refine c_reg ?_
      refine gL hf (g_ldW hf hs T25 rfl (k := 0) rfl rfl) (by decide) ?_; clear hf a; intro a hf
      refine gL hf (g_mv hf rfl) (by decide) ?_; clear hf a; intro a hf
      refine gL hf (g_mv hf rfl) (by decide) ?_; clear hf a; intro a hf
      refine callL hf hs (c_Meet b _ _ _ _ _ _ i j _ ⟨hs.rd (.head _), hs.rd (.tail _ (.head _)), h.fc_, h.rc_⟩ (hs.rd (.tail _ (.tail _ (.head _))))) rfl rfl rfl E15 (by decide) ?_; clear hs hf a; intro w a hs hf
      rw [meetP_ok hck hin.1 hin.2 hne] at hf
      refine gL hf (g_mv hf rfl) (by decide) ?_; clear hf a; intro a hf
      refine gL hf (g_ext hf rfl rfl) (by decide) ?_; clear hf a; intro a hf
      refine gL hf (g_ext hf rfl rfl) (by decide) ?_; clear hf a; intro a hf
      refine gL hf (g_as hf rfl) (by decide) ?_; clear hf a; intro a hf
      refine gL hf (g_as hf rfl) (by decide) ?_; clear hf a; intro a hf
      refine e_nil ?_
      refine c_reg ?_
      refine gL hf (g_mv hf rfl) (by decide) ?_; clear hf a; intro a hf
      refine gL hf (g_eql hf rfl rfl) (by decide) ?_; clear hf a; intro a hf
      refine gL hf (g_mv hf rfl) (by decide) ?_; clear hf a; intro a hf
      refine ggL hf rfl rfl (gyes_t _) (fun hg => g_mv hf rfl) (by decide) ?_; clear hf a; intro a hf
      refine ggL hf rfl rfl (gyes_t _) (fun hg => g_gtr hf (ev_gv rfl hg) rfl) (by decide) ?_; clear hf a; intro a hf
      refine gL hf (g_and hf rfl rfl) (by decide) ?_; clear hf a; intro a hf
      refine gL hf (g_as hf rfl) (by decide) ?_; clear hf a; intro a hf
      refine e_nil ?_
      refine c_ret (q_blkR (q_thenR (q_thenR (q_blkR (q_thenR ?_)))))
      refine e_ret1 hf rfl rfl ?_
      exact ⟨by rw [asked_some (k := k) (by omega) hc2]; rfl, hs.below⟩
    · skip
      refine c_skip (q_blkN (q_thenN ?_))
      refine c_reg1 ?_
      refine gL hf (g_mv hf rfl) (by decide) ?_; clear hf a; intro a hf
      refine gL hf (g_addI hf rfl rfl (by omega)) (by decide) ?_; clear hf a; intro a hf
      refine gL hf (g_as hf rfl) (by decide) ?_; clear hf a; intro a hf
      refine e_nil1 (q_thenN ?_)
      exact ⟨k + 1, ⟨by omega, lt_succ hp hc2⟩, (by omega), hf.back (by repeat (first | (with_reducible exact Ext.base) | ((with_reducible refine Ext.cons ?_ ?_); (· rfl)) | ((with_reducible refine Ext.over ?_ ?_ ?_); (· rfl); (· rfl)))) (allKeys rfl) (.cons rfl .nil), hs.dropN 0⟩
  · try simp only [decide_eq_true_eq, decide_eq_false_iff_not] at hc1
    refine c_exit (q_thenX (q_thenX (q_blkX (q_thenN ?_))))
    refine c_reg ?_
    refine gL hf (g_as hf rfl) (by decide) ?_; clear hf a; intro a hf
    refine e_nil ?_
    refine c_ret ?_
    refine e_ret1 hf rfl rfl ?_
    exact ⟨by rw [asked_none (fun q hq => hp q (by omega))], hs.below⟩

end Go.Proofs.YtpjhffockmnjbaaDoor
set_option linter.unusedVariables false
set_option linter.unusedSimpArgs false
namespace Go.Proofs.YtpjhffockmnjbaaDoor
theorem spin_next {n i : Nat} (h : i < n) : spin (((i : Nat) : Int) + 1) ((n : Nat) : Int) = (((i + 1) % n : Nat) : Int) := by
  unfold spin
  rw [if_neg (by omega), Int.tmod_eq_emod_of_nonneg (by omega), if_neg (by have := Int.emod_nonneg (((i : Nat) : Int) + 1) (show ((n : Nat) : Int) ≠ 0 by omega); omega)]
  simp
theorem no_chord {b : Sheet} {l : List Int} (hr : Ring b l) (hmin : ∀ s, Ring b s → l.length ≤ s.length) {i k : Nat} (hi : i < l.length) (hk : k < l.length) (h1 : k ≠ (i + 1) % l.length) (h2 : k ≠ i) : overP b (l.getD k default) (l.getD i default) = false := by
  obtain ⟨n, hn⟩ : ∃ n, l.length = n := ⟨_, rfl⟩
  rw [hn] at hi hk h1 hmin
  cases ho : overP b (l.getD k default) (l.getD i default) with
  | false => rfl
  | true =>
    exfalso
    have hc := hr.cyc
    obtain ⟨m, hm⟩ : ∃ m, m = if k ≤ i then i - k + 1 else i + n - k + 1 := ⟨_, rfl⟩
    have hm2 : 2 ≤ m := by rw [hm]; split <;> omega
    have hmn : m < n := by
      rw [hm]
      by_cases e : i + 1 = n
      · rw [e, Nat.mod_self] at h1
        split <;> omega
      · rw [Nat.mod_eq_of_lt (by omega)] at h1
        split <;> omega
    have hlast : (k + (m - 1)) % n = i := by
      by_cases hki : k ≤ i
      · rw [if_pos hki] at hm
        rw [show k + (m - 1) = i by omega]; exact Nat.mod_eq_of_lt hi
      · rw [if_neg hki] at hm
        rw [show k + (m - 1) = i + n by omega, Nat.add_mod_right]; exact Nat.mod_eq_of_lt hi
    have hlt : ∀ t, (k + t) % n < n := fun t => Nat.mod_lt _ (by omega)
    have hinj : ∀ i j, i < n → j < n → (k + i) % n = (k + j) % n → i = j := by
      intro i j hi hj e
      have h1 : (k + i) % n = if k + i < n then k + i else k + i - n := by
        split
        · exact Nat.mod_eq_of_lt (by omega)
        · rw [Nat.mod_eq_sub_mod (by omega)]; exact Nat.mod_eq_of_lt (by omega)
      have h2 : (k + j) % n = if k + j < n then k + j else k + j - n := by
        split
        · exact Nat.mod_eq_of_lt (by omega)
        · rw [Nat.mod_eq_sub_mod (by omega)]; exact Nat.mod_eq_of_lt (by omega)
      rw [h1, h2] at e
      split at e <;> split at e <;> omega
    have hg : ∀ t, t < m → ((List.range m).map fun t => l.getD ((k + t) % n) default).getD t default = l.getD ((k + t) % n) default := fun t ht => getD_map_range ht
    have hcy : Cyc b ((List.range m).map fun t => l.getD ((k + t) % n) default) := by
      refine ⟨by simpa using hm2, ?_, ?_, ?_⟩
      · rw [List.nodup_iff_pairwise_ne, List.pairwise_map, List.pairwise_iff_getElem]
        intro i j hi hj hij
        simp only [List.getElem_range, List.length_range] at hi hj ⊢
        intro e
        have := getD_inj hc.nodup (by rw [hn]; exact hlt i) (by rw [hn]; exact hlt j) e
        have := hinj i j (by omega) (by omega) this
        omega
      · intro x hx
        obtain ⟨t, ht, rfl⟩ := List.mem_map.1 hx
        exact hc.inb _ (getD_mem (by rw [hn]; exact hlt t))
      · intro t ht
        simp only [List.length_map, List.length_range] at ht ⊢
        rw [hg t ht]
        by_cases e : t + 1 = m
        · rw [e, Nat.mod_self, hg 0 (by omega), show t = m - 1 by omega, hlast, Nat.add_zero, Nat.mod_eq_of_lt hk]
          exact ho
        · rw [Nat.mod_eq_of_lt (by omega), hg (t + 1) (by omega)]
          have := hc.round ((k + t) % n) (by rw [hn]; exact hlt t)
          rw [hn, Nat.mod_add_mod] at this
          exact this
    obtain ⟨s, hs, hl⟩ := ring_of_cyc hcy
    have := hmin s hs
    rw [hl] at this
    simp at this; omega
theorem ring_le {b : Sheet} {l : List Int} (h : Ring b l) : l.length ≤ b.flaps.length := by
  have := h.nodup.length_le_of_subset (l₂ := iota b.flaps.length) (fun x hx => mem_iota.2 (h.inb x hx))
  rwa [iota_len] at this
theorem ring_index {b : Sheet} {l : List Int} (h : Ring b l) {i : Nat} (hi : i < l.length) : indexZ (fun x => x == l.getD i default) l = ((i : Nat) : Int) := by
  rw [index_idx' (getD_mem hi), List.getD_eq_getElem?_getD, List.getElem?_eq_getElem hi, Option.getD_some, h.nodup.idxOf_getElem]
theorem ring_fits {b : Sheet} {l : List Int} (h : Ring b l) {i : Nat} (hi : i < l.length) : fitsB (l.getD i default) (l.getD 0 default) (((b.flaps.length : Nat) : Int) - 1) = true := by
  have h1 := h.inb _ (getD_mem hi)
  have h2 := h1.2
  rw [fitsB_iff]
  refine ⟨?_, by omega⟩
  by_cases e : i = 0
  · subst e; exact Int.le_refl _
  · have := h.least i (by omega) hi; omega
theorem ring_no_order {b : Sheet} (hv : Valid b) {r : List Int} (hr : Ring b r) {l : List Int} (ho : ordB b l = true) : 2 - worst b l b.rules.length < 2 := by
  have h1 := worst_le b l b.rules.length
  by_cases h : 2 - worst b l b.rules.length = 2
  · exact (no_ring ((does_two hv ho).1 h) (ordB_iff.1 ho).1 hr).elim
  · omega
/-! ### The longest row -/
def lwStep (b : Sheet) (f : Int) (r : List Int) (u : Int) : List Int := if overP b f u = true then r.set f.toNat (max (r.getD f.toNat 0) (r.getD u.toNat 0)) else r
def lwAt (b : Sheet) (l : List Int) (f : Int) (r : List Int) (m : Nat) : List Int := (l.take m).foldl (lwStep b f) r
theorem lw_succ {b : Sheet} {l : List Int} {f : Int} {r : List Int} {m : Nat} (h : m < l.length) : lwAt b l f r (m + 1) = lwStep b f (lwAt b l f r m) (l.getD m default) := by
  unfold lwAt; rw [take_succ_getD h, List.foldl_append]; rfl
theorem lwStep_len (b : Sheet) (f : Int) (r : List Int) (u : Int) : (lwStep b f r u).length = r.length := by unfold lwStep; split <;> simp
theorem lw_len (b : Sheet) (l : List Int) (f : Int) (r : List Int) (m : Nat) : (lwAt b l f r m).length = r.length := foldl_len (lwStep_len b f) _ _
theorem rbd_lw {b : Sheet} {f : Int} {r : List Int} {B : Int} (h : rbd r B) (u : Int) : rbd (lwStep b f r u) B := by
  unfold lwStep
  split
  · have h1 := h f.toNat; have h2 := h u.toNat
    exact rbd_set h (by omega) _
  · exact h
theorem rbd_lwAt {b : Sheet} {l : List Int} {f : Int} {r : List Int} {B : Int} (h : rbd r B) : ∀ m, m ≤ l.length → rbd (lwAt b l f r m) B
  | 0, _ => by simpa [lwAt] using h
  | m + 1, hm => by rw [lw_succ (by omega)]; exact rbd_lw (rbd_lwAt h m (by omega)) _
theorem set_getD {r : List Int} {i j : Nat} {x : Int} (h : i ≠ j) : (r.set i x).getD j 0 = r.getD j 0 := by
  rw [List.getD_eq_getElem?_getD, List.getD_eq_getElem?_getD, List.getElem?_set, if_neg h]
theorem set_self {r : List Int} {i : Nat} {x : Int} (h : i < r.length) : (r.set i x).getD i 0 = x := by
  rw [List.getD_eq_getElem?_getD, List.getElem?_set, if_pos rfl, if_pos h]; rfl
/-- What both loops hold of the flap's own round. -/
theorem in_form {b : Sheet} {l : List Int} {f : Int} {r : List Int} (hf : inN b f) (hl : ∀ x ∈ l, inN b x) (hr : r.length = b.flaps.length) (hself : ∀ u, overP b f u = true → u ≠ f) (hz : r.getD f.toNat 0 = 0) : ∀ m, m ≤ l.length →
    ∃ v : Int, 0 ≤ v ∧ lwAt b l f r m = r.set f.toNat v ∧ inAt b l f r m = r.set f.toNat (v + 1)
  | 0, _ => ⟨0, Int.le_refl _, by
      simp only [lwAt, List.take_zero, List.foldl_nil]
      rw [List.getD_eq_getElem?_getD] at hz
      have h0 := hf.1; have h1 := hf.2
      apply List.ext_getElem?
      intro i
      rw [List.getElem?_set]
      by_cases e : f.toNat = i
      · subst e
        rw [if_pos rfl, if_pos (by omega)]
        rw [List.getElem?_eq_getElem (by omega)] at hz ⊢
        simp at hz; rw [hz]
      · rw [if_neg e], by simp [inAt]⟩
  | m + 1, hm => by
    obtain ⟨v, h0, h1, h2⟩ := in_form hf hl hr hself hz m (by omega)
    have hf0 := hf.1; have hf1 := hf.2
    rw [lw_succ (by omega), inAt_succ (by omega), h1, h2]
    unfold lwStep inStep
    by_cases ho : overP b f (l.getD m default) = true
    · rw [if_pos ho, if_pos ho]
      have hu := hl _ (getD_mem (l := l) (i := m) (by omega))
      have hu0 := hu.1; have hu1 := hu.2
      have hne := hself _ ho
      have hne' : f.toNat ≠ (l.getD m default).toNat := by omega
      rw [set_self (by omega), set_self (by omega), set_getD hne', set_getD hne']
      refine ⟨max v (r.getD (l.getD m default).toNat 0), by omega, by simp, ?_⟩
      rw [List.set_set]
      congr 1
      omega
    · rw [if_neg ho, if_neg ho]
      exact ⟨v, h0, rfl, rfl⟩
theorem in_rest {b : Sheet} {l : List Int} (hok : Ok b l) {i : Nat} (hi : i < l.length) (r : List Int) : ∀ m, i ≤ m → m ≤ l.length → inAt b l (l.getD i default) r m = inAt b l (l.getD i default) r i
  | 0, h, _ => by rw [show i = 0 by omega]
  | m + 1, h, hm => by
    by_cases e : i = m + 1
    · rw [e]
    · rw [inAt_succ (by omega), in_rest hok hi r m (by omega) (by omega), inStep]
      rw [if_neg]
      intro ho
      have := ok_over hok (getD_mem hi) ho
      rw [List.getD_eq_getElem?_getD, List.getD_eq_getElem?_getD, List.getElem?_eq_getElem hi, List.getElem?_eq_getElem (show m < l.length by omega)] at this
      simp only [Option.getD_some] at this
      rw [hok.nodup.idxOf_getElem, hok.nodup.idxOf_getElem] at this
      omega
theorem out_zero {b : Sheet} (hv : Valid b) {l : List Int} (hok : Ok b l) (hl : l.length = b.flaps.length) : ∀ i, i ≤ l.length → ∀ x, inN b x → x ∉ l.take i → (outAt b l i).1.getD x.toNat 0 = 0
  | 0, _, x, hx, _ => by
    have h0 := hx.1; have h1 := hx.2
    simp only [outAt, List.take_zero, List.foldl_nil]
    rw [List.getD_eq_getElem?_getD, List.getElem?_replicate]
    split <;> rfl
  | i + 1, h, x, hx, hm => by
    have hi : i < l.length := by omega
    have hfi : inN b (l.getD i default) := hok.inN (getD_mem hi)
    rw [take_succ_getD hi] at hm
    simp only [List.mem_append, List.mem_singleton, not_or] at hm
    have ih := out_zero hv hok hl i (by omega) x hx hm.1
    have hz := out_zero hv hok hl i (by omega) _ hfi (hok i hi).2.1
    rw [outAt_succ hi]
    unfold outStep
    obtain ⟨v, _, _, h2⟩ := in_form hfi (fun y hy => hok.inN hy) (by rw [outAt_len _ _ _ (by omega), hl]) (fun u hu e => by
      obtain ⟨_, r, hr, h3, h4⟩ := overP_iff.1 hu
      exact (hv.rule r hr).2.2.2.2 (h3.trans (e ▸ h4.symm))) hz l.length (Nat.le_refl _)
    rw [h2]
    have h3 := hfi.1; have h4 := hx.1
    have : (l.getD i default).toNat ≠ x.toNat := fun e => hm.2 (by omega)
    rw [set_getD this, ih]
theorem lw_done {b : Sheet} (hv : Valid b) {l : List Int} (hok : Ok b l) (hl : l.length = b.flaps.length) {i : Nat} (hi : i < l.length) :
    (lwAt b l (l.getD i default) (outAt b l i).1 i).set (l.getD i default).toNat ((lwAt b l (l.getD i default) (outAt b l i).1 i).getD (l.getD i default).toNat 0 + 1) = (outAt b l (i + 1)).1 ∧ max (outAt b l i).2 ((outAt b l (i + 1)).1.getD (l.getD i default).toNat 0) = (outAt b l (i + 1)).2 := by
  have hfi : inN b (l.getD i default) := hok.inN (getD_mem hi)
  have hz := out_zero hv hok hl i (by omega) _ hfi (hok i hi).2.1
  have hlen : (outAt b l i).1.length = b.flaps.length := by rw [outAt_len _ _ _ (by omega), hl]
  obtain ⟨v, _, h1, h2⟩ := in_form hfi (fun y hy => hok.inN hy) hlen (fun u hu e => by
      obtain ⟨_, r, hr, h3, h4⟩ := overP_iff.1 hu
      exact (hv.rule r hr).2.2.2.2 (h3.trans (e ▸ h4.symm))) hz i (by omega)
  have h3 := in_rest hok hi (outAt b l i).1 l.length (by omega) (Nat.le_refl _)
  have h4 := hfi.1; have h5 := hfi.2
  rw [outAt_succ hi]
  refine ⟨?_, rfl⟩
  simp only [outStep]
  rw [h3, h2, h1, set_self (by omega), List.set_set]
end Go.Proofs.YtpjhffockmnjbaaDoor
set_option linter.unusedVariables false
set_option linter.unusedSimpArgs false
namespace Go.Proofs.YtpjhffockmnjbaaDoor
open Go.RowKit
theorem c_FoldRing (b : Sheet) (fA : Option Addr) (fc : Nat) (rA : Option Addr) (rc : Nat) (oA : Option Addr) (oc : Nat) (l : List Int) (ge : TypeId) (gz : Nat × Nat)  (w0 : World) (h : ShIn b fA fc rA rc w0) (ho : Rd encI 1 oA l.length l w0) (hG : BlkIs 0 sidesA ge gz w0) :
    Calls Tryd.prog 9 #[.agg #[.int .i64 b.wide, .int .i64 b.high, .slice fA b.flaps.length fc, .slice rA b.rules.length rc], .slice oA l.length oc] w0 (Ret w0 (.bool true)) := by
  refine c_enter (n := 141) Tryd.func9 rfl rfl (Nat.le_of_ble_eq_true rfl) ?_; intro a hf; simp only [zipR] at hf
  have hs := St.start w0 [Rd encF 5 fA b.flaps.length b.flaps, Rd encR 2 rA b.rules.length b.rules, Rd encI 1 oA l.length l, BlkIs 0 sidesA ge gz] (stab_app (stab_app h.stab ho.st1) hG.st1)
  have hfm := h.F.2.1; have hrm := h.R.2.1; have hlm := ho.2.1
  refine c_reg ?_
  refine vL hf (v_boxA hf hs rfl) (by decide) ?_; clear hs hf a; rintro _ w ⟨b1, rfl, hs⟩ a hf
  refine gL hf (g_as hf rfl) (by decide) ?_; clear hf a; intro a hf
  refine e_nil ?_
  refine wp_seq ?_
  refine c_reg ?_
  refine gL hf (g_ldW hf hs T25 rfl (k := 0) rfl rfl) (by decide) ?_; clear hf a; intro a hf
  refine callL hf hs (c_sound b _ _ _ _ _ ⟨hs.rd (.head _), hs.rd (.tail _ (.head _)), h.fc_, h.rc_⟩) rfl rfl rfl E35 (by decide) ?_; clear hs hf a; intro w a hs hf
  refine gL hf (g_not hf rfl) (by decide) ?_; clear hf a; intro a hf
  refine e_nil ?_
  refine c_cond hf rfl (fun hc1 => ?_) (fun hc1 => ?_)
  · skip
    refine c_reg ?_
    refine callL hf hs (c_folded ge gz _ (hs.rd (.tail _ (.tail _ (.tail _ (.head _)))))) rfl rfl rfl E21 (by decide) ?_; clear hs hf a; intro w a hs hf
    refine gL hf (g_as hf rfl) (by decide) ?_; clear hf a; intro a hf
    refine e_nil ?_
    refine c_ret (q_thenR ?_)
    refine e_ret1 hf rfl rfl ?_
    exact ⟨rfl, hs.below⟩
  · skip
    have hck : checkB b = true := by cases h9 : checkB b with
            | true => rfl
            | false => rw [h9] at hc1; cases hc1
    have hv := valid_of hck
    have hmany := hv.many
    have hrl := hv.rules
    have hor := drawn_ord b l
    refine c_skip (q_thenN ?_)
    refine c_reg ?_
    refine gL hf (g_ldW hf hs T25 rfl (k := 0) rfl rfl) (by decide) ?_; clear hf a; intro a hf
    refine callX hf hs (c_Ring b _ _ _ _ _ _ _ ⟨hs.rd (.head _), hs.rd (.tail _ (.head _)), h.fc_, h.rc_⟩ (hs.rd (.tail _ (.tail _ (.tail _ (.head _)))))) rfl rfl rfl E27 (by decide) ?_; intro v w1 a hR hb hs1 hf; obtain ⟨Ar, cr, rfl, hou⟩ := hR; replace hs := hs.fresh hs1 (outFresh hou); clear hs1 hb
    refine gL hf (g_mv hf rfl) (by decide) ?_; clear hf a; intro a hf
    refine gL hf (g_ext hf rfl rfl) (by decide) ?_; clear hf a; intro a hf
    refine gL hf (g_ext hf rfl rfl) (by decide) ?_; clear hf a; intro a hf
    refine gL hf (g_as hf rfl) (by decide) ?_; clear hf a; intro a hf
    refine gL hf (g_as hf rfl) (by decide) ?_; clear hf a; intro a hf
    refine e_nil ?_
    refine wp_seq ?_
    refine c_reg ?_
    refine gL hf (g_mv hf rfl) (by decide) ?_; clear hf a; intro a hf
    refine gL hf (g_neq hf rfl rfl) (by decide) ?_; clear hf a; intro a hf
    refine e_nil ?_
    refine c_cond hf rfl (fun hc2 => ?_) (fun hc2 => ?_)
    · skip
      have hno : ringP b = ([], 4) := by rcases ring_cases hck with ⟨h1, _⟩ | ⟨r, h1, _⟩; exact h1; rw [h1] at hc2; cases hc2
      refine c_reg ?_
      refine gL hf (g_mv hf rfl) (by decide) ?_; clear hf a; intro a hf
      refine gL hf (g_eql hf rfl rfl) (by decide) ?_; clear hf a; intro a hf
      refine gL hf (g_mv hf rfl) (by decide) ?_; clear hf a; intro a hf
      refine ggL hf rfl rfl (gyes_t _) (fun hg => g_mv hf rfl) (by decide) ?_; clear hf a; intro a hf
      refine ggL hf rfl rfl (gyes_t _) (fun hg => g_len hf SL27 (ev_gv rfl hg)) (by decide) ?_; clear hf a; intro a hf
      refine ggL hf rfl rfl (gyes_t _) (fun hg => g_eql hf (ev_gv rfl hg) rfl) (by decide) ?_; clear hf a; intro a hf
      refine gL hf (g_and hf rfl rfl) (by decide) ?_; clear hf a; intro a hf
      refine gL hf (g_mv hf rfl) (by decide) ?_; clear hf a; intro a hf
      refine callG hf hs rfl rfl (gyes_t _) (fun hg => ⟨_, _, _, _, c_folded ge gz _ (hs.rd (.tail _ (.tail _ (.tail _ (.tail _ (.head _)))))), rfl, evs_nil, rfl⟩) E21 (by decide) ?_; clear hs hf a; intro w a hs hf
      refine gL hf (g_and hf rfl rfl) (by decide) ?_; clear hf a; intro a hf
      refine gL hf (g_as hf rfl) (by decide) ?_; clear hf a; intro a hf
      refine e_nil ?_
      refine c_ret (q_thenR ?_)
      refine e_ret1 hf rfl rfl ?_
      exact ⟨by rw [hno]; rfl, hs.below⟩
    · skip
      obtain ⟨hrg, hmin⟩ : Ring b (ringP b).1 ∧ ∀ s, Ring b s → (ringP b).1.length ≤ s.length := by rcases ring_cases hck with ⟨h1, _⟩ | ⟨r, h1, h2, h3⟩; rw [h1] at hc2; cases hc2; rw [h1]; exact ⟨h2, h3⟩
      have hr0 : (ringP b).2 = 0 := by simpa using hc2
      have hrle := ring_le hrg; have hrtwo := hrg.two
      refine c_skip (q_thenN ?_)
      refine wp_seq ?_
      refine c_reg ?_
      refine gL hf (g_mv hf rfl) (by decide) ?_; clear hf a; intro a hf
      refine gL hf (g_len hf SL27 rfl) (by decide) ?_; clear hf a; intro a hf
      refine gL hf (g_fa (off' := 2) hf F25_2 rfl rfl) (by decide) ?_; clear hf a; intro a hf
      refine gL hf (g_ld hf hs T22 rfl (k := 0) rfl rfl) (by decide) ?_; clear hf a; intro a hf
      refine gL hf (g_len hf SL22 rfl) (by decide) ?_; clear hf a; intro a hf
      refine callL hf hs (c_Fits _ _ _ _) rfl rfl rfl E39 (by decide) ?_; clear hs hf a; intro w a hs hf
      refine gL hf (g_not hf rfl) (by decide) ?_; clear hf a; intro a hf
      refine e_nil ?_
      refine c_cond hf rfl (fun hc3 => ?_) (fun hc3 => ?_)
      · skip
        simp [fitsB] at hc3; omega
      · skip
        refine c_skip (q_thenN ?_)
        refine wp_seq ?_
        refine c_reg ?_
        refine gL hf (g_as hf rfl) (by decide) ?_; clear hf a; intro a hf
        refine e_nil ?_
        refine c_block ?_
        refine c_loop hf hs (List.range' 4 1 ++ List.range' 7 2 ++ List.range' 41 47) (σ := Nat) (fun i => [(7, .int .i64 (i : Nat))]) (fun i => _) (fun i => i ≤ (ringP b).1.length) (fun i => (ringP b).1.length - i) 0 (by omega) (.cons rfl .nil) rfl ?_
        intro i a w hJ hf hs
        refine wp_seq ?_
        refine c_reg ?_
        refine gL hf (g_mv hf rfl) (by decide) ?_; clear hf a; intro a hf
        refine gL hf (g_mv hf rfl) (by decide) ?_; clear hf a; intro a hf
        refine gL hf (g_len hf SL27 rfl) (by decide) ?_; clear hf a; intro a hf
        refine gL hf (g_lss hf rfl rfl) (by decide) ?_; clear hf a; intro a hf
        refine e_nil ?_
        refine c_cond hf rfl (fun hc4 => ?_) (fun hc4 => ?_)
        · try simp only [decide_eq_true_eq, decide_eq_false_iff_not] at hc4
          have hmd := Nat.mod_lt (i + 1) (show 0 < (ringP b).1.length by omega)
          refine c_skip (q_thenN ?_)
          refine c_blockS ?_
          refine c_reg ?_
          refine gL hf (g_mv hf rfl) (by decide) ?_; clear hf a; intro a hf
          refine gL hf (g_mv hf rfl) (by decide) ?_; clear hf a; intro a hf
          refine gL hf (g_addI hf rfl rfl (by omega)) (by decide) ?_; clear hf a; intro a hf
          refine gL hf (g_mv hf rfl) (by decide) ?_; clear hf a; intro a hf
          refine gL hf (g_len hf SL27 rfl) (by decide) ?_; clear hf a; intro a hf
          refine callL hf hs (c_Spin _ _ (by omega) _) rfl rfl rfl E38 (by decide) ?_; clear hs hf a; intro w a hs hf
          rw [spin_next (by omega)] at hf
          (first | (refine gL hf (g_ixE hf hs (.head _) SL27 rfl rfl (by omega)) (by decide) ?_) | (refine gL hf (g_ixD hf hs (.head _) SL27 rfl rfl (by omega)) (by decide) ?_)); clear hf a; intro a hf
          refine gL hf (g_ldE hf hs (.head _) T3 rfl rfl (by omega)) (by decide) ?_; clear hf a; intro a hf
          refine gL hf (g_as hf rfl) (by decide) ?_; clear hf a; intro a hf
          refine e_nil ?_
          refine c_draw _ 33 Mx rfl hs (fun _ h => h) ?_; intro w hs hS
          refine gA hf hS (i := 0) rfl (by kernel_rfl) (fun w hs => g_mv hf rfl) (by decide) ?_; clear hf a; intro a hf
          refine gA hf hS (i := 1) rfl (by kernel_rfl) (fun w hs => g_mv hf rfl) (by decide) ?_; clear hf a; intro a hf
          (first | (refine gA hf hS (i := 2) rfl (by kernel_rfl) (fun w hs => g_ixE hf hs (.head _) SL27 rfl rfl (by omega)) (by decide) ?_) | (refine gA hf hS (i := 2) rfl (by kernel_rfl) (fun w hs => g_ixD hf hs (.head _) SL27 rfl rfl (by omega)) (by decide) ?_)); clear hf a; intro a hf
          refine gA hf hS (i := 3) rfl (by kernel_rfl) (fun w hs => g_ldE hf hs (.head _) T3 rfl rfl (by omega)) (by decide) ?_; clear hf a; intro a hf
          refine gA hf hS (i := 4) rfl (by kernel_rfl) (fun w hs => g_mv hf rfl) (by decide) ?_; clear hf a; intro a hf
          (first | (refine gA hf hS (i := 5) rfl (by kernel_rfl) (fun w hs => g_ixE hf hs (.head _) SL27 rfl rfl (by omega)) (by decide) ?_) | (refine gA hf hS (i := 5) rfl (by kernel_rfl) (fun w hs => g_ixD hf hs (.head _) SL27 rfl rfl (by omega)) (by decide) ?_)); clear hf a; intro a hf
          refine gA hf hS (i := 6) rfl (by kernel_rfl) (fun w hs => g_ldE hf hs (.head _) T3 rfl rfl (by omega)) (by decide) ?_; clear hf a; intro a hf
          refine gA hf hS (i := 7) rfl (by kernel_rfl) (fun w hs => g_fa (off' := 2) hf F25_2 rfl rfl) (by decide) ?_; clear hf a; intro a hf
          refine gA hf hS (i := 8) rfl (by kernel_rfl) (fun w hs => g_ld hf hs T22 rfl (k := 0) rfl rfl) (by decide) ?_; clear hf a; intro a hf
          refine gA hf hS (i := 9) rfl (by kernel_rfl) (fun w hs => g_len hf SL22 rfl) (by decide) ?_; clear hf a; intro a hf
          refine gA hf hS (i := 10) rfl (by kernel_rfl) (fun w hs => g_subI hf rfl rfl (by omega)) (by decide) ?_; clear hf a; intro a hf
          refine one (i := 11) (by kernel_rfl) ?_
          refine oCall hf hs rfl (c_Fits _ _ _ _) rfl rfl rfl E39 (by decide) (fun _ h => h.sub (.refl _)) ?_; clear hs hf hS a; intro w a hs hS hf
          refine gA hf hS (i := 12) rfl (by kernel_rfl) (fun w hs => g_not hf rfl) (by decide) ?_; clear hf a; intro a hf
          refine gA hf hS (i := 13) rfl (by kernel_rfl) (fun w hs => g_mv hf rfl) (by decide) ?_; clear hf a; intro a hf
          refine ggA hf hS (i := 14) rfl (by kernel_rfl) rfl rfl (gyes_f _) (fun hg w hs => g_mv hf rfl) (by decide) ?_; clear hf a; intro a hf
          refine ggA hf hS (i := 15) rfl (by kernel_rfl) rfl rfl (gyes_f _) (fun hg w hs => g_mv hf rfl) (by decide) ?_; clear hf a; intro a hf
          refine ggA hf hS (i := 16) rfl (by kernel_rfl) rfl rfl (gyes_f _) (fun hg w hs => g_mv hf rfl) (by decide) ?_; clear hf a; intro a hf
          (first | (refine ggA hf hS (i := 17) rfl (by kernel_rfl) rfl rfl (gyes_f _) (fun hg w hs => g_ixE hf hs (.head _) SL27 (ev_gv rfl hg) (ev_gv rfl hg) (by omega)) (by decide) ?_) | (refine ggA hf hS (i := 17) rfl (by kernel_rfl) rfl rfl (gyes_f _) (fun hg w hs => g_ixD hf hs (.head _) SL27 (ev_gv rfl hg) (ev_gv rfl hg) (by omega)) (by decide) ?_)); clear hf a; intro a hf
          refine ggA hf hS (i := 18) rfl (by kernel_rfl) rfl rfl (gyes_f _) (fun hg w hs => g_ldE hf hs (.head _) T3 (ev_gv rfl hg) rfl (by omega)) (by decide) ?_; clear hf a; intro a hf
          refine ggA hf hS (i := 20) rfl (by kernel_rfl) rfl rfl (gyes_f _) (fun hg w hs => g_mv hf rfl) (by decide) ?_; clear hf a; intro a hf
          refine one (i := 19) (by kernel_rfl) ?_
          refine oCallG hf hs rfl rfl rfl (gyes_f _) (fun hg => ⟨_, _, _, _, c_IndexR _ _ _ (ringP b).1 _ _ (hs.rd (.head _)), rfl, evs_cons (ev_gv rfl hg) (evs_cons (ev_gv rfl hg) evs_nil), rfl⟩) E44 (by decide) (fun _ h => h.sub (.refl _)) ?_; clear hs hf hS a; intro w a hs hS hf
          refine ggA hf hS (i := 21) rfl (by kernel_rfl) rfl rfl (gyes_f _) (fun hg w hs => g_neq hf (ev_gv rfl hg) (ev_gv rfl hg)) (by decide) ?_; clear hf a; intro a hf
          refine gA hf hS (i := 22) rfl (by kernel_rfl) (fun w hs => g_or hf rfl rfl) (by decide) ?_; clear hf a; intro a hf
          refine gA hf hS (i := 23) rfl (by kernel_rfl) (fun w hs => g_mv hf rfl) (by decide) ?_; clear hf a; intro a hf
          refine ggA hf hS (i := 24) rfl (by kernel_rfl) rfl rfl (gyes_f _) (fun hg w hs => g_ldW hf hs T25 rfl (k := 0) rfl rfl) (by decide) ?_; clear hf a; intro a hf
          refine ggA hf hS (i := 25) rfl (by kernel_rfl) rfl rfl (gyes_f _) (fun hg w hs => g_mv hf rfl) (by decide) ?_; clear hf a; intro a hf
          refine ggA hf hS (i := 26) rfl (by kernel_rfl) rfl rfl (gyes_f _) (fun hg w hs => g_mv hf rfl) (by decide) ?_; clear hf a; intro a hf
          refine ggA hf hS (i := 27) rfl (by kernel_rfl) rfl rfl (gyes_f _) (fun hg w hs => g_mv hf rfl) (by decide) ?_; clear hf a; intro a hf
          (first | (refine ggA hf hS (i := 28) rfl (by kernel_rfl) rfl rfl (gyes_f _) (fun hg w hs => g_ixE hf hs (.head _) SL27 (ev_gv rfl hg) (ev_gv rfl hg) (by omega)) (by decide) ?_) | (refine ggA hf hS (i := 28) rfl (by kernel_rfl) rfl rfl (gyes_f _) (fun hg w hs => g_ixD hf hs (.head _) SL27 (ev_gv rfl hg) (ev_gv rfl hg) (by omega)) (by decide) ?_)); clear hf a; intro a hf
          refine ggA hf hS (i := 29) rfl (by kernel_rfl) rfl rfl (gyes_f _) (fun hg w hs => g_ldE hf hs (.head _) T3 (ev_gv rfl hg) rfl (by omega)) (by decide) ?_; clear hf a; intro a hf
          refine one (i := 30) (by kernel_rfl) ?_
          refine oCallG hf hs rfl rfl rfl (gyes_f _) (fun hg => ⟨_, _, _, _, c_askedB b _ _ _ _ _ _ _ _ hck _ ⟨hs.rd (.tail _ (.head _)), hs.rd (.tail _ (.tail _ (.head _))), h.fc_, h.rc_⟩ (hs.rd (.tail _ (.tail _ (.tail _ (.tail _ (.head _)))))), rfl, evs_cons (ev_gv rfl hg) (evs_cons (ev_gv rfl hg) (evs_cons (ev_gv rfl hg) evs_nil)), rfl⟩) E45 (by decide) (fun _ h => h.sub (.refl _)) ?_; clear hs hf hS a; intro w a hs hS hf
          refine ggA hf hS (i := 31) rfl (by kernel_rfl) rfl rfl (gyes_f _) (fun hg w hs => g_not hf (ev_gv rfl hg)) (by decide) ?_; clear hf a; intro a hf
          refine gA hf hS (i := 32) rfl (by kernel_rfl) (fun w hs => g_or hf rfl rfl) (by decide) ?_; clear hf a; intro a hf
          refine e_done (by kernel_rfl) ?_
          refine c_cond hf rfl (fun hc5 => ?_) (fun hc5 => ?_)
          · skip
            have e1 := ring_fits hrg (i := i) (by omega); have e2 := ring_index hrg (i := i) (by omega); have e3 := hrg.cyc.round i (by omega); have h9 : (((!fitsB ((ringP b).1.getD i default) ((ringP b).1.getD 0 default) (((b.flaps.length : Nat) : Int) - 1)) || (indexZ (fun x => x == (ringP b).1.getD i default) (ringP b).1 != ((i : Nat) : Int))) || !overP b ((ringP b).1.getD ((i + 1) % (ringP b).1.length) default) ((ringP b).1.getD i default)) = true := hc5; rw [e1, e2, e3] at h9; simp at h9
          · skip
            refine c_skip (q_blkN (q_thenN ?_))
            refine c_reg1 ?_
            refine gL hf (g_mv hf rfl) (by decide) ?_; clear hf a; intro a hf
            refine gL hf (g_addI hf rfl rfl (by omega)) (by decide) ?_; clear hf a; intro a hf
            refine gL hf (g_as hf rfl) (by decide) ?_; clear hf a; intro a hf
            refine e_nil1 (q_thenN ?_)
            exact ⟨i + 1, (by omega), (by omega), hf.back (by repeat (first | (with_reducible exact Ext.base) | ((with_reducible refine Ext.cons ?_ ?_); (· rfl)) | ((with_reducible refine Ext.over ?_ ?_ ?_); (· rfl); (· rfl)))) (allKeys rfl) (.cons rfl .nil), hs.dropN 0⟩
        · try simp only [decide_eq_true_eq, decide_eq_false_iff_not] at hc4
          obtain rfl : i = (ringP b).1.length := by omega
          refine c_exit (q_thenX (q_thenX (q_blkX (q_thenN ?_))))
          refine wp_seq ?_
          refine c_reg ?_
          refine gL hf (g_as hf rfl) (by decide) ?_; clear hf a; intro a hf
          refine e_nil ?_
          refine c_block ?_
          refine c_loop hf hs (List.range' 4 1 ++ List.range' 9 2 ++ List.range' 88 36) (σ := Nat) (fun i => [(9, .int .i64 (i : Nat))]) (fun i => _) (fun i => i ≤ (ringP b).1.length) (fun i => (ringP b).1.length - i) 0 (by omega) (.cons rfl .nil) rfl ?_
          intro i a w hJ hf hs
          refine wp_seq ?_
          refine c_reg ?_
          refine gL hf (g_mv hf rfl) (by decide) ?_; clear hf a; intro a hf
          refine gL hf (g_mv hf rfl) (by decide) ?_; clear hf a; intro a hf
          refine gL hf (g_len hf SL27 rfl) (by decide) ?_; clear hf a; intro a hf
          refine gL hf (g_lss hf rfl rfl) (by decide) ?_; clear hf a; intro a hf
          refine e_nil ?_
          refine c_cond hf rfl (fun hc6 => ?_) (fun hc6 => ?_)
          · try simp only [decide_eq_true_eq, decide_eq_false_iff_not] at hc6
            refine c_skip (q_thenN ?_)
            refine c_blockS ?_
            refine c_reg ?_
            refine gL hf (g_as hf rfl) (by decide) ?_; clear hf a; intro a hf
            refine e_nil ?_
            refine c_block ?_
            refine c_loop hf hs (List.range' 4 1 ++ List.range' 10 1 ++ List.range' 94 30) (σ := Nat) (fun k => [(10, .int .i64 (k : Nat))]) (fun k => _) (fun k => k ≤ (ringP b).1.length) (fun k => (ringP b).1.length - k) 0 (by omega) (.cons rfl .nil) rfl ?_
            intro k a w hJ hf hs
            refine wp_seq ?_
            refine c_reg ?_
            refine gL hf (g_mv hf rfl) (by decide) ?_; clear hf a; intro a hf
            refine gL hf (g_mv hf rfl) (by decide) ?_; clear hf a; intro a hf
            refine gL hf (g_len hf SL27 rfl) (by decide) ?_; clear hf a; intro a hf
            refine gL hf (g_lss hf rfl rfl) (by decide) ?_; clear hf a; intro a hf
            refine e_nil ?_
            refine c_cond hf rfl (fun hc7 => ?_) (fun hc7 => ?_)
            · try simp only [decide_eq_true_eq, decide_eq_false_iff_not] at hc7
              refine c_skip (q_thenN ?_)
              refine c_blockS ?_
              refine c_draw _ 24 Mx rfl hs (fun _ h => h) ?_; intro w hs hS
              refine gA hf hS (i := 0) rfl (by kernel_rfl) (fun w hs => g_mv hf rfl) (by decide) ?_; clear hf a; intro a hf
              refine gA hf hS (i := 1) rfl (by kernel_rfl) (fun w hs => g_mv hf rfl) (by decide) ?_; clear hf a; intro a hf
              refine gA hf hS (i := 2) rfl (by kernel_rfl) (fun w hs => g_addI hf rfl rfl (by omega)) (by decide) ?_; clear hf a; intro a hf
              refine gA hf hS (i := 3) rfl (by kernel_rfl) (fun w hs => g_mv hf rfl) (by decide) ?_; clear hf a; intro a hf
              refine gA hf hS (i := 4) rfl (by kernel_rfl) (fun w hs => g_len hf SL27 rfl) (by decide) ?_; clear hf a; intro a hf
              refine one (i := 5) (by kernel_rfl) ?_
              refine oCall hf hs rfl (c_Spin _ _ (by omega) _) rfl rfl rfl E38 (by decide) (fun _ h => h.sub (.refl _)) ?_; clear hs hf hS a; intro w a hs hS hf
              rw [spin_next (by omega)] at hf
              refine gA hf hS (i := 6) rfl (by kernel_rfl) (fun w hs => g_neq hf rfl rfl) (by decide) ?_; clear hf a; intro a hf
              refine gA hf hS (i := 7) rfl (by kernel_rfl) (fun w hs => g_mv hf rfl) (by decide) ?_; clear hf a; intro a hf
              refine ggA hf hS (i := 8) rfl (by kernel_rfl) rfl rfl (gyes_t _) (fun hg w hs => g_mv hf rfl) (by decide) ?_; clear hf a; intro a hf
              refine ggA hf hS (i := 9) rfl (by kernel_rfl) rfl rfl (gyes_t _) (fun hg w hs => g_mv hf rfl) (by decide) ?_; clear hf a; intro a hf
              refine ggA hf hS (i := 10) rfl (by kernel_rfl) rfl rfl (gyes_t _) (fun hg w hs => g_neq hf (ev_gv rfl hg) (ev_gv rfl hg)) (by decide) ?_; clear hf a; intro a hf
              refine gA hf hS (i := 11) rfl (by kernel_rfl) (fun w hs => g_and hf rfl rfl) (by decide) ?_; clear hf a; intro a hf
              refine gA hf hS (i := 12) rfl (by kernel_rfl) (fun w hs => g_mv hf rfl) (by decide) ?_; clear hf a; intro a hf
              refine ggA hf hS (i := 13) rfl (by kernel_rfl) rfl rfl (gyes_t _) (fun hg w hs => g_ldW hf hs T25 rfl (k := 0) rfl rfl) (by decide) ?_; clear hf a; intro a hf
              refine ggA hf hS (i := 14) rfl (by kernel_rfl) rfl rfl (gyes_t _) (fun hg w hs => g_mv hf rfl) (by decide) ?_; clear hf a; intro a hf
              refine ggA hf hS (i := 15) rfl (by kernel_rfl) rfl rfl (gyes_t _) (fun hg w hs => g_mv hf rfl) (by decide) ?_; clear hf a; intro a hf
              (first | (refine ggA hf hS (i := 16) rfl (by kernel_rfl) rfl rfl (gyes_t _) (fun hg w hs => g_ixE hf hs (.head _) SL27 (ev_gv rfl hg) (ev_gv rfl hg) (by omega)) (by decide) ?_) | (refine ggA hf hS (i := 16) rfl (by kernel_rfl) rfl rfl (gyes_t _) (fun hg w hs => g_ixD hf hs (.head _) SL27 (ev_gv rfl hg) (ev_gv rfl hg) (by omega)) (by decide) ?_)); clear hf a; intro a hf
              refine ggA hf hS (i := 17) rfl (by kernel_rfl) rfl rfl (gyes_t _) (fun hg w hs => g_ldE hf hs (.head _) T3 (ev_gv rfl hg) rfl (by omega)) (by decide) ?_; clear hf a; intro a hf
              refine ggA hf hS (i := 18) rfl (by kernel_rfl) rfl rfl (gyes_t _) (fun hg w hs => g_mv hf rfl) (by decide) ?_; clear hf a; intro a hf
              refine ggA hf hS (i := 19) rfl (by kernel_rfl) rfl rfl (gyes_t _) (fun hg w hs => g_mv hf rfl) (by decide) ?_; clear hf a; intro a hf
              (first | (refine ggA hf hS (i := 20) rfl (by kernel_rfl) rfl rfl (gyes_t _) (fun hg w hs => g_ixE hf hs (.head _) SL27 (ev_gv rfl hg) (ev_gv rfl hg) (by omega)) (by decide) ?_) | (refine ggA hf hS (i := 20) rfl (by kernel_rfl) rfl rfl (gyes_t _) (fun hg w hs => g_ixD hf hs (.head _) SL27 (ev_gv rfl hg) (ev_gv rfl hg) (by omega)) (by decide) ?_)); clear hf a; intro a hf
              refine ggA hf hS (i := 21) rfl (by kernel_rfl) rfl rfl (gyes_t _) (fun hg w hs => g_ldE hf hs (.head _) T3 (ev_gv rfl hg) rfl (by omega)) (by decide) ?_; clear hf a; intro a hf
              refine one (i := 22) (by kernel_rfl) ?_
              refine oCallG hf hs rfl rfl rfl (gyes_t _) (fun hg => ⟨_, _, _, _, c_askedB b _ _ _ _ _ _ _ _ hck _ ⟨hs.rd (.tail _ (.head _)), hs.rd (.tail _ (.tail _ (.head _))), h.fc_, h.rc_⟩ (hs.rd (.tail _ (.tail _ (.tail _ (.tail _ (.head _)))))), rfl, evs_cons (ev_gv rfl hg) (evs_cons (ev_gv rfl hg) (evs_cons (ev_gv rfl hg) evs_nil)), rfl⟩) E45 (by decide) (fun _ h => h.sub (.refl _)) ?_; clear hs hf hS a; intro w a hs hS hf
              refine gA hf hS (i := 23) rfl (by kernel_rfl) (fun w hs => g_and hf rfl rfl) (by decide) ?_; clear hf a; intro a hf
              refine e_done (by kernel_rfl) ?_
              refine c_cond hf rfl (fun hc8 => ?_) (fun hc8 => ?_)
              · skip
                have h9 : (((((k : Nat) : Int) != (((i + 1) % (ringP b).1.length : Nat) : Int)) && (((k : Nat) : Int) != ((i : Nat) : Int))) && overP b ((ringP b).1.getD k default) ((ringP b).1.getD i default)) = true := hc8; simp only [Bool.and_eq_true, bne_iff_ne, ne_eq] at h9; have h10 := no_chord hrg hmin (i := i) (k := k) (by omega) (by omega) (fun e => h9.1.1 (by rw [e])) (fun e => h9.1.2 (by rw [e])); rw [h10] at h9; cases h9.2
              · skip
                refine c_skip (q_blkN (q_thenN ?_))
                refine c_reg1 ?_
                refine gL hf (g_mv hf rfl) (by decide) ?_; clear hf a; intro a hf
                refine gL hf (g_addI hf rfl rfl (by omega)) (by decide) ?_; clear hf a; intro a hf
                refine gL hf (g_as hf rfl) (by decide) ?_; clear hf a; intro a hf
                refine e_nil1 (q_thenN ?_)
                exact ⟨k + 1, (by omega), (by omega), hf.back (by repeat (first | (with_reducible exact Ext.base) | ((with_reducible refine Ext.cons ?_ ?_); (· rfl)) | ((with_reducible refine Ext.over ?_ ?_ ?_); (· rfl); (· rfl)))) (allKeys rfl) (.cons rfl .nil), hs.dropN 0⟩
            · try simp only [decide_eq_true_eq, decide_eq_false_iff_not] at hc7
              refine c_exit (q_thenX (q_thenX (q_blkX (q_blkN (q_thenN ?_)))))
              refine c_reg1 ?_
              refine gL hf (g_mv hf rfl) (by decide) ?_; clear hf a; intro a hf
              refine gL hf (g_addI hf rfl rfl (by omega)) (by decide) ?_; clear hf a; intro a hf
              refine gL hf (g_as hf rfl) (by decide) ?_; clear hf a; intro a hf
              refine e_nil1 (q_thenN ?_)
              exact ⟨i + 1, (by omega), (by omega), hf.back (by repeat (first | (with_reducible exact Ext.base) | ((with_reducible refine Ext.cons ?_ ?_); (· rfl)) | ((with_reducible refine Ext.over ?_ ?_ ?_); (· rfl); (· rfl)))) (allKeys rfl) (.cons rfl .nil), hs.dropN 0⟩
          · try simp only [decide_eq_true_eq, decide_eq_false_iff_not] at hc6
            refine c_exit (q_thenX (q_thenX (q_blkX (q_thenN ?_))))
            refine c_draw _ 10 Mx rfl hs (fun _ h => h) ?_; intro w hs hS
            refine gA hf hS (i := 0) rfl (by kernel_rfl) (fun w hs => g_ldW hf hs T25 rfl (k := 0) rfl rfl) (by decide) ?_; clear hf a; intro a hf
            refine gA hf hS (i := 1) rfl (by kernel_rfl) (fun w hs => g_ldW hf hs T25 rfl (k := 0) rfl rfl) (by decide) ?_; clear hf a; intro a hf
            refine gA hf hS (i := 2) rfl (by kernel_rfl) (fun w hs => g_mv hf rfl) (by decide) ?_; clear hf a; intro a hf
            refine one (i := 3) (by kernel_rfl) ?_
            refine oCallX hf hs rfl (c_drawn b _ _ _ _ _ _ l hv _ ⟨hs.rd (.tail _ (.head _)), hs.rd (.tail _ (.tail _ (.head _))), h.fc_, h.rc_⟩ (hs.rd (.tail _ (.tail _ (.tail _ (.head _)))))) rfl rfl rfl E42 (by decide) (fun _ h => h.sub (.refl _)) ?_; intro v w1 a hR hb hs1 hS hf; obtain ⟨Ad, cd, rfl, hou⟩ := hR; replace hs := hs.fresh hs1 (outFresh hou); clear hs1 hb
            refine one (i := 4) (by kernel_rfl) ?_
            refine oCall hf hs rfl (c_Does b _ _ _ _ _ _ (drawnL b l) ge gz hck _ ⟨hs.rd (.tail _ (.tail _ (.head _))), hs.rd (.tail _ (.tail _ (.tail _ (.head _)))), h.fc_, h.rc_⟩ (hs.rd (.head _)) (hs.rd (.tail _ (.tail _ (.tail _ (.tail _ (.tail _ (.head _)))))))) rfl rfl rfl E19 (by decide) (fun _ h => (h.sub (.refl _)).subD (fun _ h => (.tail _ h))) ?_; clear hs hf hS a; intro w a hs hS hf
            rw [does_ok hck (drawn_ord b l)] at hf
            refine gA hf hS (i := 5) rfl (by kernel_rfl) (fun w hs => g_mv hf rfl) (by decide) ?_; clear hf a; intro a hf
            refine gA hf hS (i := 6) rfl (by kernel_rfl) (fun w hs => g_ext hf rfl rfl) (by decide) ?_; clear hf a; intro a hf
            refine gA hf hS (i := 7) rfl (by kernel_rfl) (fun w hs => g_ext hf rfl rfl) (by decide) ?_; clear hf a; intro a hf
            refine gA hf hS (i := 8) rfl (by kernel_rfl) (fun w hs => g_as hf rfl) (by decide) ?_; clear hf a; intro a hf
            refine gA hf hS (i := 9) rfl (by kernel_rfl) (fun w hs => g_as hf rfl) (by decide) ?_; clear hf a; intro a hf
            refine e_done (by kernel_rfl) ?_
            refine c_reg ?_
            refine gL hf (g_mv hf rfl) (by decide) ?_; clear hf a; intro a hf
            refine gL hf (g_eql hf rfl rfl) (by decide) ?_; clear hf a; intro a hf
            refine gL hf (g_mv hf rfl) (by decide) ?_; clear hf a; intro a hf
            refine ggL hf rfl rfl (gyes_t _) (fun hg => g_mv hf rfl) (by decide) ?_; clear hf a; intro a hf
            refine ggL hf rfl rfl (gyes_t _) (fun hg => g_lss hf (ev_gv rfl hg) rfl) (by decide) ?_; clear hf a; intro a hf
            refine gL hf (g_and hf rfl rfl) (by decide) ?_; clear hf a; intro a hf
            refine gL hf (g_mv hf rfl) (by decide) ?_; clear hf a; intro a hf
            refine callG hf hs rfl rfl (gyes_t _) (fun hg => ⟨_, _, _, _, c_folded ge gz _ (hs.rd (.tail _ (.tail _ (.tail _ (.tail _ (.tail _ (.head _))))))), rfl, evs_nil, rfl⟩) E21 (by decide) ?_; clear hs hf a; intro w a hs hf
            refine gL hf (g_and hf rfl rfl) (by decide) ?_; clear hf a; intro a hf
            refine gL hf (g_as hf rfl) (by decide) ?_; clear hf a; intro a hf
            refine e_nil ?_
            refine c_ret ?_
            refine e_ret1 hf rfl rfl ?_
            have h5 := ring_no_order hv hrg hor
            exact ⟨by rw [decide_eq_true h5]; rfl, hs.below⟩

end Go.Proofs.YtpjhffockmnjbaaDoor
set_option linter.unusedVariables false
namespace Go.Proofs.YtpjhffockmnjbaaDoor
open Go.ChangeShapes Go.WideShapes Go.ChangeAt Go.RowKit
set_option maxRecDepth 100000 in
theorem lifted9 (os : Os) (started : os.Started) (H : Type) (enc : TypeId × Value → H) :
    ReturnsInHanded {} Tryd.checked os 9 .any (fun w args => (Rows.foldRingSpec.pre enc Tryd.prog Tryd.f9 [] false w args ∧ laidMetH Tryd.prog laid1 w) ∧ sizedMet enc Tryd.prog Tryd.f9 (OpenSpec.ofChange Rows.foldRingSpec) false w args)
      (Rows.foldRingSpec.post enc Tryd.prog Tryd.f9 false true false false) := by
  refine returnsInHanded_of_change_and (C := Tryd.checked) (X := fun w _ => laidMetH Tryd.prog laid1 w) (fun _ _ _ hh h => h.of_heap hh) pOwn started (by kernel_rfl) Tryd.func9
    (ChangeSpec.witness_shaped (enc := enc) (C := Tryd.checked) (os := os) (X := fun w _ => laidMetH Tryd.prog laid1 w) false (World.doorLaid Tryd.prog 600 os) #[.agg #[.int .i64 0, .int .i64 0, .slice none 0 0, .slice none 0 0], .slice none 0 0] 8 rfl (World.shaped_of_RefB (by kernel_rfl) (by kernel_rfl)) (by kernel_rfl) (by kernel_rfl) (by kernel_rfl) (door_met os _)) ?_
  intro W base args ds gs before hval0 hW _ _ hL _
  have hval : ∀ (j : Nat) t v, Tryd.f9.params[j]? = some t → args[j]? = some v → Value.okWide Tryd.prog W .any base t v := hval0
  have hW' := hW
  obtain ⟨p, q, hA0, hV, rfl, hfz, hnd⟩ := hW
  have hA : DataW.TrodAll enc Tryd.prog W 0 (fun _ => true) true Tryd.f9.params.toList args.toList ds p := hA0
  have hA9 := hA
  rw [Tryd.params9] at hA hval
  obtain ⟨v0, v1, d0, d1, p0, p1, rfl, rfl, rfl, h0, h1⟩ := trodAll_two hA
  obtain ⟨rfl, rfl⟩ := trodVars_none hV
  obtain ⟨b, fA, fc, rA, rc, rfl, hsh⟩ := open_sheet (hval 0 25 v0 rfl rfl) h0
  obtain ⟨A1, c1, l1, rfl, hr1⟩ := open_list (hval 1 27 v1 rfl rfl) h1
  obtain ⟨ge, gz, hG⟩ := of_laid hL
  refine (c_FoldRing b fA fc rA rc A1 c1 l1 ge gz W hsh hr1 hG).mono fun e W' ⟨he, hb⟩ => ?_
  subst he
  exact ⟨_, rfl, law_post rfl rfl rfl (by kernel_rfl) hW' rfl hA9 hb⟩
theorem row9 : Rows.FoldRingSaid :=
  OpenClaim.holds_of_wide 9 Tryd.f9 rfl rfl rfl rfl rfl rfl rfl ⟨rfl, rfl, rfl, rfl, rfl⟩ rfl rfl rfl rfl rfl (by kernel_rfl) Tryd.func9 (by kernel_rfl)
    (of_decide_eq_true (by kernel_rfl)) (by unfold Func.isWrapper; first | (rw [if_pos (by decide +kernel)]; kernel_rfl) | (rw [if_neg (by decide +kernel)]; exact ⟨rfl, rfl⟩))
    (fun os started H enc _ => lifted9 os started H enc)
/-- The card. -/
theorem foldRing_holds : Rows.FoldRingCardSaid :=
  Claim7.holds_tied_plain_at .later [] [.funcs] true (true, "b03cd1d6108e785492ab07a8ff83fd4a4932a4b1389f4c874b76231f1a716599") false
    row9 (fun _ h => by cases h) (by kernel_rfl) (fun _ h => by cases h) foldRing_row_tie rfl ⟨rfl, rfl⟩ (by kernel_rfl) rfl
    (fun f fn hf hfn => by
      obtain rfl : f = 9 := Option.some.inj ((show Tryd.prog.funcNamed "lucifer/luciferlaw04.FoldRing" = some 9 by kernel_rfl).symm.trans hf) |>.symm
      obtain rfl : fn = Tryd.f9 := (Option.some.inj (Tryd.func9.symm.trans hfn)).symm
      exact ⟨by kernel_rfl, fun j t ht => by
        rw [Tryd.params9] at ht
        have hm : t ∈ [25, 27] := by simpa using Array.mem_of_getElem? ht
        have hall : ([25, 27].all fun u => !Tryd.prog.wantsStandIn u) = true := by kernel_rfl
        exact (show Tryd.prog.wantsStandIn t = false by simpa using List.all_eq_true.1 hall t hm)⟩)
    (by kernel_rfl)
#print axioms foldRing_holds
end Go.Proofs.YtpjhffockmnjbaaDoor
