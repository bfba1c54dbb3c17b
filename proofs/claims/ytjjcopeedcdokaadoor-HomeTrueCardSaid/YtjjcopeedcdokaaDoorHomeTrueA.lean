/- For every book and three numbers the law HomeTrue returns true, and its arguments read afterwards as before: however many boxes and torn sheets truly came back, as many boxes pass, and sheets are missing, and as much is paid, as lie between what is returned. Conditions: the tables of the sides and of what is told hold what the text of the program lays. -/
import Derived.Test.YtjjcopeedcdokaaDoorComF
import Derived.Test.YtjjcopeedcdokaaDoorTie
import Derived.Test.YtjjcopeedcdokaaDoorCards
set_option linter.unusedVariables false
set_option linter.unusedSimpArgs false
namespace Go.Proofs.YtjjcopeedcdokaaDoor
open Go.RowKit
theorem wrong_nil {k : Bk} (h : wrongL k = []) {i : Nat} (hi : i < k.ws.length) : rightB (k.ws.getD i default) = true := by
  unfold wrongL wrongTo at h
  have h1 := List.map_eq_nil_iff.1 h
  have h2 := (List.filter_eq_nil_iff.1 h1) i (List.mem_range.2 hi)
  simpa using h2
theorem wrong_mem {k : Bk} {i : Nat} (hi : i < k.ws.length) : ((i : Nat) : Int) ∈ wrongL k ↔ rightB (k.ws.getD i default) = false := by
  unfold wrongL wrongTo
  simp only [List.mem_map, List.mem_filter, List.mem_range]
  constructor
  · rintro ⟨j, ⟨_, h2⟩, e⟩
    have : j = i := by omega
    subst this; simpa using h2
  · intro h; exact ⟨i, ⟨hi, by rw [h]; rfl⟩, rfl⟩
theorem wrongP_ok {k : Bk} (hb : hckB k = true) : wrongP k = (wrongL k, 0) := by rw [wrongP, hb]; rfl
theorem togE_ok {k : Bk} (hb : hckB k = true) : togE k = if wrongL k = [] then 0 else 92 := by unfold togE; rw [if_pos hb]
end Go.Proofs.YtjjcopeedcdokaaDoor

set_option linter.unusedVariables false
set_option linter.unusedSimpArgs false
namespace Go.Proofs.YtjjcopeedcdokaaDoor
open Go.RowKit
end Go.Proofs.YtjjcopeedcdokaaDoor

set_option linter.unusedVariables false
set_option linter.unusedSimpArgs false
namespace Go.Proofs.YtjjcopeedcdokaaDoor
open Go.RowKit
def wholeTo (k : Bk) (i : Nat) : Bool := (k.ws.take i).all rightB
theorem whole_all {k : Bk} : wholeTo k k.ws.length = true ↔ wrongL k = [] := by
  unfold wholeTo
  rw [List.take_length, List.all_eq_true]
  constructor
  · intro h
    unfold wrongL wrongTo
    rw [List.map_eq_nil_iff, List.filter_eq_nil_iff]
    intro w hw
    rw [h _ (getD_mem (List.mem_range.1 hw))]; simp
  · intro h x hx
    obtain ⟨i, hi, rfl⟩ := List.mem_iff_getElem.1 hx
    have := wrong_nil h hi
    rwa [List.getD_eq_getElem?_getD, List.getElem?_eq_getElem hi] at this
theorem gross_err {k : Bk} (hb : hckB k = true) : (grossP k).2 = if wrongL k = [] then 0 else 92 := by
  have := togE_ok hb
  unfold grossP
  by_cases h : wrongL k = [] <;> simp [h, this]
end Go.Proofs.YtjjcopeedcdokaaDoor

set_option linter.unusedVariables false
set_option linter.unusedSimpArgs false
namespace Go.Proofs.YtjjcopeedcdokaaDoor
open Go.RowKit
def cN (n : Int) (i : Nat) : Int := IntKind.i64.wrap (n + ((i : Nat) : Int))
def cM (n : Int) (i : Nat) : Int := IntKind.i64.wrap (n + IntKind.i64.wrap (7 * ((i : Nat) : Int)))
def canI (k : Bk) (n0 n1 : Int) (i : Nat) : Bool := canB (k.ws.getD i default) (cN n0 i) (cN n1 i)
def pasI (k : Bk) (n0 n1 n2 : Int) (i : Nat) : Int := pasZ k (k.ws.getD i default) (cN n0 i) (cN n1 i) (cM n2 i)
def misI (k : Bk) (n0 n1 : Int) (i : Nat) : Int := hm (k.ws.getD i default) (truB (k.ws.getD i default) (cN n0 i), truT (k.ws.getD i default) (cN n1 i))
def getI (k : Bk) (n0 n1 n2 : Int) (i : Nat) : Int := hgv k (pasI k n0 n1 n2 i) (misI k n0 n1 i)
def whC (k : Bk) (n0 n1 : Int) : Nat → Bool
  | 0 => true
  | i + 1 => whC k n0 n1 i && canI k n0 n1 i
def spT (k : Bk) (n0 n1 n2 : Int) : Nat → Int
  | 0 => 0
  | i + 1 => spT k n0 n1 n2 i + if canI k n0 n1 i = true then pasI k n0 n1 n2 i else 0
def sgT (k : Bk) (n0 n1 n2 : Int) : Nat → Int
  | 0 => 0
  | i + 1 => sgT k n0 n1 n2 i + if canI k n0 n1 i = true then getI k n0 n1 n2 i else 0
section
variable {k : Bk} {n0 n1 n2 : Int}
theorem can_facts (hv : BkV k) {i : Nat} (hi : i < k.ws.length) (h : canI k n0 n1 i = true) :
    (0 ≤ pasI k n0 n1 n2 i ∧ pasI k n0 n1 n2 i ≤ 600) ∧ (0 ≤ misI k n0 n1 i ∧ misI k n0 n1 i ≤ 600) ∧ ((ofZ k 0 (k.ws.getD i default)).1 ≤ pasI k n0 n1 n2 i ∧ pasI k n0 n1 n2 i ≤ (ofZ k 0 (k.ws.getD i default)).2) ∧ ((ofZ k 1 (k.ws.getD i default)).1 ≤ misI k n0 n1 i ∧ misI k n0 n1 i ≤ (ofZ k 1 (k.ws.getD i default)).2) ∧
    ((ofZ k 2 (k.ws.getD i default)).1 ≤ getI k n0 n1 n2 i ∧ getI k n0 n1 n2 i ≤ (ofZ k 2 (k.ws.getD i default)).2) := by
  have hx := hv.wk hi
  have h1 := truly_has hv hx (n2 := cM n2 i) h
  have h2 := trues_in hx (can_mem hx h)
  have h3 := pas_rng hv hx (n2 := cM n2 i) h
  have h4 := hp_rng (d := doesK k (k.ws.getD i default)) (n := truB (k.ws.getD i default) (cN n0 i)) ⟨h2.n0, by have := h2.s; have := h2.t0; have := h2.m; omega⟩
  exact ⟨⟨Int.le_trans h4.1.1 h3.1, Int.le_trans h3.2 h4.2.2⟩, h2.hm, h1⟩
theorem sums_rng (hv : BkV k) : ∀ i, i ≤ k.ws.length → (0 ≤ spT k n0 n1 n2 i ∧ spT k n0 n1 n2 i ≤ 600 * (i : Int)) ∧ -600000 * (i : Int) ≤ sgT k n0 n1 n2 i ∧ sgT k n0 n1 n2 i ≤ 600000 * (i : Int)
  | 0, _ => by simp [spT, sgT]
  | i + 1, h => by
    have hi : i < k.ws.length := by omega
    have h1 := sums_rng hv i (by omega)
    have h2 := ofZ_rng (what := 2) hv (hv.wk hi) (by decide)
    unfold spT sgT
    by_cases hc : canI k n0 n1 i = true
    · have h3 := can_facts (n2 := n2) hv hi hc
      simp only [hc, if_true]; omega
    · simp only [hc, if_false]; simp; omega
theorem whC_all (hv : BkV k) (h : whC k n0 n1 k.ws.length = true) : wrongL k = [] ∧ ∀ i, i < k.ws.length → canI k n0 n1 i = true := by
  have key : ∀ n, whC k n0 n1 n = true → ∀ i, i < n → canI k n0 n1 i = true := by
    intro n
    induction n with
    | zero => exact fun _ i hi => absurd hi (by omega)
    | succ n ih =>
      intro h i hi
      have h' : (whC k n0 n1 n && canI k n0 n1 n) = true := h
      rw [Bool.and_eq_true] at h'
      by_cases e : i = n
      · subst e; exact h'.2
      · exact ih h'.1 i (by omega)
  have h2 := key _ h
  refine ⟨whole_all.1 ?_, h2⟩
  unfold wholeTo
  rw [List.take_length, List.all_eq_true]
  intro x hx
  obtain ⟨i, hi, rfl⟩ := List.mem_iff_getElem.1 hx
  have := can_right (hv.wk hi) (h2 i hi)
  rwa [List.getD_eq_getElem?_getD, List.getElem?_eq_getElem hi] at this
theorem sums_in (hv : BkV k) (hc : ∀ i, i < k.ws.length → canI k n0 n1 i = true) : ∀ i, i ≤ k.ws.length → ((allP k 0 (k.ws.take i)).1 ≤ spT k n0 n1 n2 i ∧ spT k n0 n1 n2 i ≤ (allP k 0 (k.ws.take i)).2) ∧ (allP k 2 (k.ws.take i)).1 ≤ sgT k n0 n1 n2 i ∧ sgT k n0 n1 n2 i ≤ (allP k 2 (k.ws.take i)).2
  | 0, _ => by simp [spT, sgT, allP]
  | i + 1, h => by
    have hi : i < k.ws.length := by omega
    have h1 := sums_in hv hc i (by omega)
    have h3 := can_facts (n2 := n2) hv hi (hc i hi)
    rw [allP_take hi, allP_take hi]
    unfold spT sgT
    simp only [hc i hi, if_true]; omega
theorem true_fin (hb : hckB k = true) (h : whC k n0 n1 k.ws.length = true) : (fitsB (sgT k n0 n1 n2 k.ws.length) (totalP k).1.1 (totalP k).1.2 && fitsB ((spT k n0 n1 n2 k.ws.length).tdiv k.gross) (grossP k).1.1 (grossP k).1.2) = true := by
  have hv := hck_iff.1 hb
  obtain ⟨h1, h2⟩ := whC_all hv h
  have h3 := sums_in (n2 := n2) hv h2 k.ws.length (Nat.le_refl _)
  rw [List.take_length] at h3
  have h0 := (allP_upto hv (what := 0) (by decide) k.ws.length).2.2.2 (by decide)
  rw [List.take_length] at h0
  have e := togE_ok hb
  rw [if_pos h1] at e
  unfold totalP grossP fitsB
  rw [if_pos e, if_pos e]
  simp only [Bool.and_eq_true, decide_eq_true_eq]
  exact ⟨⟨h3.2.1, h3.2.2⟩, tdiv_le_tdiv hv.g1 h0 h3.1.1, tdiv_le_tdiv hv.g1 (Int.le_trans h0 h3.1.1) h3.1.2⟩
end
theorem coin_next {p g l j : Int} (hl : l = p - j * g) (hg : 1 ≤ g) (h : g ≤ l) (hp : p ≤ 600) (hj : 0 ≤ j) : j + 1 ≤ 600 ∧ l - g = p - (j + 1) * g := by
  have h1 : (j + 1) * g = j * g + g := by rw [Int.add_mul]; omega
  have h2 : (j + 1) * 1 ≤ (j + 1) * g := Int.mul_le_mul_of_nonneg_left hg (by omega)
  omega
theorem grows_wrong (k : Bk) : growsB (wrongL k) ((k.ws.length : Nat) : Int) = true := by
  have hs : (wrongL k).Pairwise (· < ·) := by
    unfold wrongL wrongTo
    rw [List.pairwise_map]
    refine List.Pairwise.imp ?_ (List.Pairwise.filter _ (List.pairwise_lt_range))
    intro a b h; omega
  have hm : ∀ x ∈ wrongL k, 0 ≤ x ∧ x < ((k.ws.length : Nat) : Int) := fun x hx => by
    unfold wrongL wrongTo at hx
    simp only [List.mem_map, List.mem_filter, List.mem_range] at hx
    obtain ⟨w, ⟨h1, _⟩, rfl⟩ := hx
    omega
  unfold growsB
  rw [List.all_eq_true]
  intro i hi
  rw [List.mem_range] at hi
  have h1 := hm _ (getD_mem hi)
  have h2 : 0 < i → (wrongL k).getD (i - 1) default < (wrongL k).getD i default := fun h0 => by
    have := (List.pairwise_iff_getElem.1 hs) (i - 1) i (by omega) hi (by omega)
    rw [List.getD_eq_getElem?_getD, List.getD_eq_getElem?_getD, List.getElem?_eq_getElem (by omega : i - 1 < (wrongL k).length), List.getElem?_eq_getElem hi]
    exact this
  unfold growsAt fitsB
  simp only [Bool.and_eq_true, Bool.or_eq_true, decide_eq_true_eq]
  refine ⟨⟨h1.1, by omega⟩, ?_⟩
  by_cases h0 : i = 0
  · exact .inl h0
  · exact .inr (h2 (by omega))
theorem wrong_idx {k : Bk} {i : Nat} (hi : i < k.ws.length) : decide (indexZ (fun x => x == ((i : Nat) : Int)) (wrongL k) < 0) = rightB (k.ws.getD i default) := by
  have h := indexZ_ge (fun x => x == ((i : Nat) : Int)) (wrongL k)
  have h2 := wrong_mem (k := k) hi
  have h3 : decide (indexZ (fun x => x == ((i : Nat) : Int)) (wrongL k) < 0) = !decide (0 ≤ indexZ (fun x => x == ((i : Nat) : Int)) (wrongL k)) := by
    rw [Bool.eq_iff_iff]; simp
  rw [h3, h]
  cases hr : rightB (k.ws.getD i default) with
  | true =>
    have : ((i : Nat) : Int) ∉ wrongL k := fun hm => by rw [h2.1 hm] at hr; cases hr
    rw [Bool.not_eq_true', List.any_eq_false]
    intro x hx e
    exact this (by rwa [beq_iff_eq.1 e] at hx)
  | false =>
    rw [Bool.not_eq_false', List.any_eq_true]
    exact ⟨_, h2.2 hr, by simp⟩
theorem true_dead {k : Bk} (hb : hckB k = true) : (((((totalP k).2 == 0) != ((((wrongP k).1.length : Nat) : Int) == 0)) || ((grossP k).2 != (totalP k).2)) || (((totalP k).2 != 0) && ((totalP k).2 != 92))) = false := by
  rw [wrongP_ok hb, gross_err hb]
  have e := togE_ok hb
  have e2 : (totalP k).2 = if wrongL k = [] then 0 else 92 := by
    unfold totalP
    by_cases h : wrongL k = [] <;> simp [h, e]
  rw [e2]
  by_cases h : wrongL k = []
  · simp [h]
  · simp [h]
end Go.Proofs.YtjjcopeedcdokaaDoor

set_option linter.unusedVariables false
set_option linter.unusedSimpArgs false
namespace Go.Proofs.YtjjcopeedcdokaaDoor
open Go.RowKit
theorem c_HomeTrue (k : Bk) (fA : Option Addr) (fc : Nat) (rA : Option Addr) (rc : Nat) (wA : Option Addr) (wc : Nat) (ge : TypeId) (gz : Nat × Nat) (n0 n1 n2 : Int) (w0 : World) (h : BkIn k fA fc rA rc wA wc w0) (hG : BlkIs 1 sidesA ge gz w0) (te : TypeId) (tz : Nat × Nat) (hT : BlkIs 0 toldA te tz w0) :
    Calls Tryd.prog 8 #[.agg #[.int .i64 k.sh.wide, .int .i64 k.sh.high, .slice fA k.sh.flaps.length fc, .slice rA k.sh.rules.length rc, .int .i64 k.gross, .int .i64 k.pay, .int .i64 k.fine, .slice wA k.ws.length wc], .agg #[.int .i64 n0, .int .i64 n1, .int .i64 n2]] w0 (Ret w0 (.bool true)) := by
  refine c_enter (n := 235) Tryd.func8 rfl rfl (Nat.le_of_ble_eq_true rfl) ?_; intro a hf; simp only [zipR] at hf
  have hs := St.start w0 [Rd encF 5 fA k.sh.flaps.length k.sh.flaps, Rd encR 2 rA k.sh.rules.length k.sh.rules, Rd encW 6 wA k.ws.length k.ws, OrdD k.ws, BlkIs 1 sidesA ge gz, BlkIs 0 toldA te tz] (stab_app (stab_app h.stab hG.st1) hT.st1)
  have hwm := h.W.2.1
  refine c_reg ?_
  refine vL hf (v_boxA hf hs rfl) (by decide) ?_; clear hs hf a; rintro _ w ⟨b1, rfl, hs⟩ a hf
  refine vL hf (v_boxA hf hs rfl) (by decide) ?_; clear hs hf a; rintro _ w ⟨b2, rfl, hs⟩ a hf
  refine gL hf (g_as hf rfl) (by decide) ?_; clear hf a; intro a hf
  refine e_nil ?_
  refine wp_seq ?_
  refine c_reg ?_
  refine gL hf (g_ldW hf hs T28 rfl (k := 1) rfl rfl) (by decide) ?_; clear hf a; intro a hf
  refine callL hf hs (c_soundH k _ _ _ _ _ _ ge gz _ ⟨⟨hs.rd (.head _), hs.rd (.tail _ (.head _)), h.sh.fc_, h.sh.rc_⟩, hs.rd (.tail _ (.tail _ (.head _))), h.wc_, hs.rd (.tail _ (.tail _ (.tail _ (.head _))))⟩ (hs.rd (.tail _ (.tail _ (.tail _ (.tail _ (.head _))))))) rfl rfl rfl E48 (by decide) ?_; clear hs hf a; intro w a hs hf
  refine gL hf (g_not hf rfl) (by decide) ?_; clear hf a; intro a hf
  refine e_nil ?_
  refine c_cond hf rfl (fun hc1 => ?_) (fun hc1 => ?_)
  · skip
    refine c_reg ?_
    refine callL hf hs (c_paid ge gz te tz _ (hs.rd (.tail _ (.tail _ (.tail _ (.tail _ (.head _)))))) (hs.rd (.tail _ (.tail _ (.tail _ (.tail _ (.tail _ (.head _)))))))) rfl rfl rfl E40 (by decide) ?_; clear hs hf a; intro w a hs hf
    refine gL hf (g_as hf rfl) (by decide) ?_; clear hf a; intro a hf
    refine e_nil ?_
    refine c_ret (q_thenR ?_)
    refine e_ret1 hf rfl rfl ?_
    exact ⟨rfl, hs.below⟩
  · skip
    have hck : hckB k = true := by simpa using hc1
    have hv := hck_iff.1 hck; have hwn := hv.n; have hgr1 := hv.g1; have hgr2 := hv.g2; have hpy1 := hv.p1; have hpy2 := hv.p2; have hfi1 := hv.f1; have hfi2 := hv.f2
    refine c_skip (q_thenN ?_)
    refine c_reg ?_
    refine gL hf (g_ldW hf hs T28 rfl (k := 1) rfl rfl) (by decide) ?_; clear hf a; intro a hf
    refine callX hf hs (c_WrongH k _ _ _ _ _ _ ge gz _ ⟨⟨hs.rd (.head _), hs.rd (.tail _ (.head _)), h.sh.fc_, h.sh.rc_⟩, hs.rd (.tail _ (.tail _ (.head _))), h.wc_, hs.rd (.tail _ (.tail _ (.tail _ (.head _))))⟩ (hs.rd (.tail _ (.tail _ (.tail _ (.tail _ (.head _))))))) rfl rfl rfl E20 (by decide) ?_; intro v w1 a hR hb hs1 hf; obtain ⟨Ap, cp, rfl, hou⟩ := hR; replace hs := hs.fresh hs1 (outFresh hou); clear hs1 hb
    refine gL hf (g_mv hf rfl) (by decide) ?_; clear hf a; intro a hf
    refine gL hf (g_ext hf rfl rfl) (by decide) ?_; clear hf a; intro a hf
    refine gL hf (g_ext hf rfl rfl) (by decide) ?_; clear hf a; intro a hf
    refine gL hf (g_as hf rfl) (by decide) ?_; clear hf a; intro a hf
    refine gL hf (g_as hf rfl) (by decide) ?_; clear hf a; intro a hf
    refine e_nil ?_
    refine wp_seq ?_
    refine c_reg ?_
    refine gL hf (g_mv hf rfl) (by decide) ?_; clear hf a; intro a hf
    refine gL hf (g_neq hf rfl rfl) (by decide) ?_; clear hf a; intro a hf
    refine gL hf (g_mv hf rfl) (by decide) ?_; clear hf a; intro a hf
    refine ggL hf rfl rfl (gyes_f _) (fun hg => g_mv hf rfl) (by decide) ?_; clear hf a; intro a hf
    refine ggL hf rfl rfl (gyes_f _) (fun hg => g_fa (off' := 7) hf F28_4 rfl rfl) (by decide) ?_; clear hf a; intro a hf
    refine ggL hf rfl rfl (gyes_f _) (fun hg => g_ld hf hs T26 (ev_gv rfl hg) (k := 1) rfl rfl) (by decide) ?_; clear hf a; intro a hf
    refine ggL hf rfl rfl (gyes_f _) (fun hg => g_len hf SL26 (ev_gv rfl hg)) (by decide) ?_; clear hf a; intro a hf
    refine callG hf hs rfl rfl (gyes_f _) (fun hg => ⟨_, _, _, _, c_Grows _ _ _ _ (by omega) _ (hs.rd (.head _)), rfl, evs_cons (ev_gv rfl hg) (evs_cons (ev_gv rfl hg) evs_nil), rfl⟩) E29 (by decide) ?_; clear hs hf a; intro w a hs hf
    refine ggL hf rfl rfl (gyes_f _) (fun hg => g_not hf (ev_gv rfl hg)) (by decide) ?_; clear hf a; intro a hf
    refine gL hf (g_or hf rfl rfl) (by decide) ?_; clear hf a; intro a hf
    refine e_nil ?_
    refine c_cond hf rfl (fun hc2 => ?_) (fun hc2 => ?_)
    · skip
      exfalso; rw [wrongP_ok hck, grows_wrong k] at hc2; cases hc2
    · skip
      refine c_skip (q_thenN ?_)
      refine c_reg ?_
      refine gL hf (g_as hf rfl) (by decide) ?_; clear hf a; intro a hf
      refine gL hf (g_as hf rfl) (by decide) ?_; clear hf a; intro a hf
      refine gL hf (g_as hf rfl) (by decide) ?_; clear hf a; intro a hf
      refine e_nil ?_
      refine wp_seq ?_
      refine c_reg ?_
      refine gL hf (g_as hf rfl) (by decide) ?_; clear hf a; intro a hf
      refine e_nil ?_
      refine c_block ?_
      refine c_loop hf hs (List.range' 4 1 ++ List.range' 7 17 ++ List.range' 47 141) (σ := Nat) (fun i => [(7, .int .i64 (spT k n0 n1 n2 i)), (8, .int .i64 (sgT k n0 n1 n2 i)), (9, .bool (whC k n0 n1 i)), (10, .int .i64 (i : Nat))]) (fun i => _) (fun i => i ≤ k.ws.length) (fun i => k.ws.length - i) 0 (Nat.zero_le _) (.cons rfl (.cons rfl (.cons rfl (.cons rfl .nil)))) rfl ?_
      intro i a w hJ hf hs
      refine wp_seq ?_
      refine c_reg ?_
      refine gL hf (g_mv hf rfl) (by decide) ?_; clear hf a; intro a hf
      refine gL hf (g_fa (off' := 7) hf F28_4 rfl rfl) (by decide) ?_; clear hf a; intro a hf
      refine gL hf (g_ld hf hs T26 rfl (k := 1) rfl rfl) (by decide) ?_; clear hf a; intro a hf
      refine gL hf (g_len hf SL26 rfl) (by decide) ?_; clear hf a; intro a hf
      refine gL hf (g_lss hf rfl rfl) (by decide) ?_; clear hf a; intro a hf
      refine e_nil ?_
      refine c_cond hf rfl (fun hc3 => ?_) (fun hc3 => ?_)
      · try simp only [decide_eq_true_eq, decide_eq_false_iff_not] at hc3
        have hi : i < k.ws.length := by omega
        have hx := hv.wk hi
        refine c_skip (q_thenN ?_)
        refine c_blockS ?_
        refine c_reg ?_
        refine gL hf (g_ldW hf hs T28 rfl (k := 1) rfl rfl) (by decide) ?_; clear hf a; intro a hf
        refine gL hf (g_mv hf rfl) (by decide) ?_; clear hf a; intro a hf
        have h9 := c_RightH k _ _ _ _ _ _ ge gz ((i : Nat) : Int) _ ⟨⟨hs.rd (.tail _ (.head _)), hs.rd (.tail _ (.tail _ (.head _))), h.sh.fc_, h.sh.rc_⟩, hs.rd (.tail _ (.tail _ (.tail _ (.head _)))), h.wc_, hs.rd (.tail _ (.tail _ (.tail _ (.tail _ (.head _)))))⟩ (hs.rd (.tail _ (.tail _ (.tail _ (.tail _ (.tail _ (.head _)))))))
        rw [right_ok hck hi] at h9; dsimp only at h9
        refine callL hf hs (h9) rfl rfl rfl E31 (by decide) ?_; clear hs hf a; intro w a hs hf
        refine gL hf (g_mv hf rfl) (by decide) ?_; clear hf a; intro a hf
        refine gL hf (g_ext hf rfl rfl) (by decide) ?_; clear hf a; intro a hf
        refine gL hf (g_ext hf rfl rfl) (by decide) ?_; clear hf a; intro a hf
        refine gL hf (g_as hf rfl) (by decide) ?_; clear hf a; intro a hf
        refine gL hf (g_as hf rfl) (by decide) ?_; clear hf a; intro a hf
        refine e_nil ?_
        refine wp_seq ?_
        refine c_reg ?_
        refine gL hf (g_mv hf rfl) (by decide) ?_; clear hf a; intro a hf
        refine gL hf (g_neq hf rfl rfl) (by decide) ?_; clear hf a; intro a hf
        refine gL hf (g_mv hf rfl) (by decide) ?_; clear hf a; intro a hf
        refine ggL hf rfl rfl (gyes_f _) (fun hg => g_mv hf rfl) (by decide) ?_; clear hf a; intro a hf
        refine ggL hf rfl rfl (gyes_f _) (fun hg => g_mv hf rfl) (by decide) ?_; clear hf a; intro a hf
        refine ggL hf rfl rfl (gyes_f _) (fun hg => g_mv hf rfl) (by decide) ?_; clear hf a; intro a hf
        refine callG hf hs rfl rfl (gyes_f _) (fun hg => ⟨_, _, _, _, c_IndexR _ _ _ _ _ _ (hs.rd (.head _)), rfl, evs_cons (ev_gv rfl hg) (evs_cons (ev_gv rfl hg) evs_nil), rfl⟩) E24 (by decide) ?_; clear hs hf a; intro w a hs hf
        refine ggL hf rfl rfl (gyes_f _) (fun hg => g_lss hf (ev_gv rfl hg) rfl) (by decide) ?_; clear hf a; intro a hf
        refine ggL hf rfl rfl (gyes_f _) (fun hg => g_neqB hf B4 (ev_gv rfl hg) (ev_gv rfl hg)) (by decide) ?_; clear hf a; intro a hf
        refine gL hf (g_or hf rfl rfl) (by decide) ?_; clear hf a; intro a hf
        refine e_nil ?_
        refine c_cond hf rfl (fun hc4 => ?_) (fun hc4 => ?_)
        · skip
          exfalso; rw [wrongP_ok hck, wrong_idx hi] at hc4; simp at hc4
        · skip
          refine c_skip (q_thenN ?_)
          refine c_reg ?_
          refine gL hf (g_fa (off' := 7) hf F28_4 rfl rfl) (by decide) ?_; clear hf a; intro a hf
          refine gL hf (g_ld hf hs T26 rfl (k := 1) rfl rfl) (by decide) ?_; clear hf a; intro a hf
          refine gL hf (g_mv hf rfl) (by decide) ?_; clear hf a; intro a hf
          (first | (refine gL hf (g_ixE hf hs (.tail _ (.tail _ (.tail _ (.head _)))) SL26 rfl rfl (by omega)) (by decide) ?_) | (refine gL hf (g_ixD hf hs (.tail _ (.tail _ (.tail _ (.head _)))) SL26 rfl rfl (by omega)) (by decide) ?_)); clear hf a; intro a hf
          refine gL hf (g_ldEW hf hs (.tail _ (.tail _ (.tail _ (.head _)))) T47 rfl rfl (by omega)) (by decide) ?_; clear hf a; intro a hf
          refine vL hf (v_alloc hs T47 rfl) (by decide) ?_; clear hs hf a; rintro _ w ⟨b3, rfl, hs⟩ a hf
          refine uL (u_stW hf hs T47 rfl rfl rfl (k := 0) rfl rfl rfl) ?_; clear hs; intro w hs; dsimp only [List.set] at hs
          refine e_nil ?_
          refine c_reg ?_
          refine gL hf (g_ldW hf hs T28 rfl (k := 2) rfl rfl) (by decide) ?_; clear hf a; intro a hf
          refine gL hf (g_mv hf rfl) (by decide) ?_; clear hf a; intro a hf
          refine gL hf (g_ixA hf AR56 rfl rfl (by omega)) (by decide) ?_; clear hf a; intro a hf
          refine gL hf (g_ld hf hs T3 rfl (k := 1) rfl rfl) (by decide) ?_; clear hf a; intro a hf
          refine gL hf (g_mv hf rfl) (by decide) ?_; clear hf a; intro a hf
          refine gL hf (g_add hf rfl rfl) (by decide) ?_; clear hf a; intro a hf
          refine gL hf (g_ixA hf AR56 rfl rfl (by omega)) (by decide) ?_; clear hf a; intro a hf
          refine gL hf (g_ld hf hs T3 rfl (k := 1) rfl rfl) (by decide) ?_; clear hf a; intro a hf
          refine gL hf (g_mv hf rfl) (by decide) ?_; clear hf a; intro a hf
          refine gL hf (g_add hf rfl rfl) (by decide) ?_; clear hf a; intro a hf
          refine gL hf (g_ixA hf AR56 rfl rfl (by omega)) (by decide) ?_; clear hf a; intro a hf
          refine gL hf (g_ld hf hs T3 rfl (k := 1) rfl rfl) (by decide) ?_; clear hf a; intro a hf
          refine gL hf (g_mv hf rfl) (by decide) ?_; clear hf a; intro a hf
          refine gL hf (g_mul hf rfl rfl) (by decide) ?_; clear hf a; intro a hf
          refine gL hf (g_add hf rfl rfl) (by decide) ?_; clear hf a; intro a hf
          refine gL hf (g_bld hf [[.int .i64 0], [.int .i64 0], [.int .i64 0]] (.cons rfl (.cons rfl (.cons rfl .nil))) (fun _ => by kernel_rfl)) (by decide) ?_; clear hf a; intro a hf
          have h9 := c_truly k _ _ _ _ _ _ ge gz i hi hv (cN n0 i) (cN n1 i) (cM n2 i) _ ⟨⟨hs.rd (.tail _ (.head _)), hs.rd (.tail _ (.tail _ (.head _))), h.sh.fc_, h.sh.rc_⟩, hs.rd (.tail _ (.tail _ (.tail _ (.head _)))), h.wc_, hs.rd (.tail _ (.tail _ (.tail _ (.tail _ (.head _)))))⟩ (hs.rd (.tail _ (.tail _ (.tail _ (.tail _ (.tail _ (.head _)))))))
          rw [show pasZ k (k.ws.getD i default) (cN n0 i) (cN n1 i) (cM n2 i) = pasI k n0 n1 n2 i from rfl, show canB (k.ws.getD i default) (cN n0 i) (cN n1 i) = canI k n0 n1 i from rfl] at h9
          refine callL hf hs (h9) rfl rfl rfl E49 (by decide) ?_; clear hs hf a; intro w a hs hf
          refine gL hf (g_mv hf rfl) (by decide) ?_; clear hf a; intro a hf
          refine gL hf (g_ext hf rfl rfl) (by decide) ?_; clear hf a; intro a hf
          refine gL hf (g_ext hf rfl rfl) (by decide) ?_; clear hf a; intro a hf
          refine vL hf (v_alloc hs T58 rfl) (by decide) ?_; clear hs hf a; rintro _ w ⟨b4, rfl, hs⟩ a hf
          refine uL (u_stW hf hs T58 rfl rfl rfl (k := 0) rfl rfl rfl) ?_; clear hs; intro w hs; dsimp only [List.set] at hs
          refine gL hf (g_as hf rfl) (by decide) ?_; clear hf a; intro a hf
          refine e_nil ?_
          refine c_reg ?_
          refine gL hf (g_mv hf rfl) (by decide) ?_; clear hf a; intro a hf
          refine gL hf (g_mv hf rfl) (by decide) ?_; clear hf a; intro a hf
          refine ggL hf rfl rfl (gyes_t _) (fun hg => g_mv hf rfl) (by decide) ?_; clear hf a; intro a hf
          refine gL hf (g_and hf rfl rfl) (by decide) ?_; clear hf a; intro a hf
          refine gL hf (g_as hf rfl) (by decide) ?_; clear hf a; intro a hf
          refine e_nil ?_
          refine wp_seq ?_
          refine c_reg ?_
          refine gL hf (g_mv hf rfl) (by decide) ?_; clear hf a; intro a hf
          refine gL hf (g_mv hf rfl) (by decide) ?_; clear hf a; intro a hf
          refine ggL hf rfl rfl (gyes_t _) (fun hg => g_mv hf rfl) (by decide) ?_; clear hf a; intro a hf
          refine ggL hf rfl rfl (gyes_t _) (fun hg => g_not hf (ev_gv rfl hg)) (by decide) ?_; clear hf a; intro a hf
          refine gL hf (g_and hf rfl rfl) (by decide) ?_; clear hf a; intro a hf
          refine e_nil ?_
          refine c_cond hf rfl (fun hc5 => ?_) (fun hc5 => ?_)
          · skip
            exfalso; rw [Bool.and_eq_true] at hc5; have h8 := can_right hx hc5.1; have h9 := hc5.2; rw [h8] at h9; cases h9
          · skip
            refine c_skip (q_thenN ?_)
            refine wp_seq ?_
            refine c_reg ?_
            refine gL hf (g_mv hf rfl) (by decide) ?_; clear hf a; intro a hf
            refine gL hf (g_not hf rfl) (by decide) ?_; clear hf a; intro a hf
            refine e_nil ?_
            refine c_cond hf rfl (fun hc6 => ?_) (fun hc6 => ?_)
            · skip
              have hcf : canI k n0 n1 i = false := by simpa using hc6
              have hsp : spT k n0 n1 n2 (i + 1) = spT k n0 n1 n2 i := by show spT k n0 n1 n2 i + (if canI k n0 n1 i = true then _ else _) = _; rw [hcf]; simp
              have hsg : sgT k n0 n1 n2 (i + 1) = sgT k n0 n1 n2 i := by show sgT k n0 n1 n2 i + (if canI k n0 n1 i = true then _ else _) = _; rw [hcf]; simp
              refine c_exit (q_thenX (q_blkX (q_thenN ?_)))
              refine c_reg1 ?_
              refine gL hf (g_mv hf rfl) (by decide) ?_; clear hf a; intro a hf
              refine gL hf (g_addI hf rfl rfl (by omega)) (by decide) ?_; clear hf a; intro a hf
              refine gL hf (g_as hf rfl) (by decide) ?_; clear hf a; intro a hf
              refine e_nil1 (q_thenN ?_)
              exact ⟨i + 1, (by omega), (by omega), hf.back (by repeat (first | (with_reducible exact Ext.base) | ((with_reducible refine Ext.cons ?_ ?_); (· rfl)) | ((with_reducible refine Ext.over ?_ ?_ ?_); (· rfl); (· rfl)))) (allKeys rfl) (.cons (by rw [hsp]; rfl) (.cons (by rw [hsg]; rfl) (.cons rfl (.cons rfl .nil)))), hs.dropN 2⟩
            · skip
              have hct : canI k n0 n1 i = true := by simpa using hc6
              have hrt := can_right hx hct
              obtain ⟨hpr, hmr, hh0, hh1, hh2⟩ := can_facts (n2 := n2) hv hi hct
              have htr := trues_in hx (can_mem hx hct)
              have ht1 := htr.n0; have ht2 := htr.t0; have ht3 := htr.s; have ht4 := htr.m
              have hsr := sums_rng (n0 := n0) (n1 := n1) (n2 := n2) hv i (by omega)
              have hsp : spT k n0 n1 n2 (i + 1) = spT k n0 n1 n2 i + (pasI k n0 n1 n2 i) := by show spT k n0 n1 n2 i + (if canI k n0 n1 i = true then _ else _) = _; rw [if_pos hct]
              have hsg : sgT k n0 n1 n2 (i + 1) = sgT k n0 n1 n2 i + (getI k n0 n1 n2 i) := by show sgT k n0 n1 n2 i + (if canI k n0 n1 i = true then _ else _) = _; rw [if_pos hct]
              have hfm := mul_rng (a := k.fine) (A := 99) (b := (misI k n0 n1 i)) (B := 600) ⟨hfi1, hfi2⟩ hmr
              have hgz := ofZ_rng (what := 2) hv hx (by decide)
              refine c_skip (q_thenN ?_)
              refine c_reg ?_
              refine gL hf (g_ldW hf hs T28 rfl (k := 3) rfl rfl) (by decide) ?_; clear hf a; intro a hf
              refine gL hf (g_mv hf rfl) (by decide) ?_; clear hf a; intro a hf
              have h9 := c_PassesH k _ _ _ _ _ _ ge gz ((i : Nat) : Int) _ ⟨⟨hs.rd (.tail _ (.head _)), hs.rd (.tail _ (.tail _ (.head _))), h.sh.fc_, h.sh.rc_⟩, hs.rd (.tail _ (.tail _ (.tail _ (.head _)))), h.wc_, hs.rd (.tail _ (.tail _ (.tail _ (.tail _ (.head _)))))⟩ (hs.rd (.tail _ (.tail _ (.tail _ (.tail _ (.tail _ (.head _))))))) te tz (hs.rd (.tail _ (.tail _ (.tail _ (.tail _ (.tail _ (.tail _ (.head _))))))))
              rw [tk_eq hck hi 0, tk_yes hrt] at h9; dsimp only at h9
              refine callL hf hs (h9) rfl rfl rfl E23 (by decide) ?_; clear hs hf a; intro w a hs hf
              refine gL hf (g_mv hf rfl) (by decide) ?_; clear hf a; intro a hf
              refine gL hf (g_ext hf rfl rfl) (by decide) ?_; clear hf a; intro a hf
              refine gL hf (g_ext hf rfl rfl) (by decide) ?_; clear hf a; intro a hf
              refine vL hf (v_alloc hs T40 rfl) (by decide) ?_; clear hs hf a; rintro _ w ⟨b5, rfl, hs⟩ a hf
              refine uL (u_stW hf hs T40 rfl rfl rfl (k := 0) rfl rfl rfl) ?_; clear hs; intro w hs; dsimp only [List.set] at hs
              refine gL hf (g_as hf rfl) (by decide) ?_; clear hf a; intro a hf
              refine e_nil ?_
              refine c_reg ?_
              refine gL hf (g_ldW hf hs T28 rfl (k := 4) rfl rfl) (by decide) ?_; clear hf a; intro a hf
              refine gL hf (g_mv hf rfl) (by decide) ?_; clear hf a; intro a hf
              have h9 := c_MissingH k _ _ _ _ _ _ ge gz ((i : Nat) : Int) _ ⟨⟨hs.rd (.tail _ (.head _)), hs.rd (.tail _ (.tail _ (.head _))), h.sh.fc_, h.sh.rc_⟩, hs.rd (.tail _ (.tail _ (.tail _ (.head _)))), h.wc_, hs.rd (.tail _ (.tail _ (.tail _ (.tail _ (.head _)))))⟩ (hs.rd (.tail _ (.tail _ (.tail _ (.tail _ (.tail _ (.head _))))))) te tz (hs.rd (.tail _ (.tail _ (.tail _ (.tail _ (.tail _ (.tail _ (.head _))))))))
              rw [tk_eq hck hi 1, tk_yes hrt] at h9; dsimp only at h9
              refine callL hf hs (h9) rfl rfl rfl E36 (by decide) ?_; clear hs hf a; intro w a hs hf
              refine gL hf (g_mv hf rfl) (by decide) ?_; clear hf a; intro a hf
              refine gL hf (g_ext hf rfl rfl) (by decide) ?_; clear hf a; intro a hf
              refine gL hf (g_ext hf rfl rfl) (by decide) ?_; clear hf a; intro a hf
              refine vL hf (v_alloc hs T40 rfl) (by decide) ?_; clear hs hf a; rintro _ w ⟨b6, rfl, hs⟩ a hf
              refine uL (u_stW hf hs T40 rfl rfl rfl (k := 0) rfl rfl rfl) ?_; clear hs; intro w hs; dsimp only [List.set] at hs
              refine gL hf (g_as hf rfl) (by decide) ?_; clear hf a; intro a hf
              refine e_nil ?_
              refine c_reg ?_
              refine gL hf (g_ldW hf hs T28 rfl (k := 5) rfl rfl) (by decide) ?_; clear hf a; intro a hf
              refine gL hf (g_mv hf rfl) (by decide) ?_; clear hf a; intro a hf
              have h9 := c_GetsH k _ _ _ _ _ _ ge gz ((i : Nat) : Int) _ ⟨⟨hs.rd (.tail _ (.head _)), hs.rd (.tail _ (.tail _ (.head _))), h.sh.fc_, h.sh.rc_⟩, hs.rd (.tail _ (.tail _ (.tail _ (.head _)))), h.wc_, hs.rd (.tail _ (.tail _ (.tail _ (.tail _ (.head _)))))⟩ (hs.rd (.tail _ (.tail _ (.tail _ (.tail _ (.tail _ (.head _))))))) te tz (hs.rd (.tail _ (.tail _ (.tail _ (.tail _ (.tail _ (.tail _ (.head _))))))))
              rw [tk_eq hck hi 2, tk_yes hrt] at h9; dsimp only at h9
              refine callL hf hs (h9) rfl rfl rfl E38 (by decide) ?_; clear hs hf a; intro w a hs hf
              refine gL hf (g_mv hf rfl) (by decide) ?_; clear hf a; intro a hf
              refine gL hf (g_ext hf rfl rfl) (by decide) ?_; clear hf a; intro a hf
              refine gL hf (g_ext hf rfl rfl) (by decide) ?_; clear hf a; intro a hf
              refine vL hf (v_alloc hs T40 rfl) (by decide) ?_; clear hs hf a; rintro _ w ⟨b7, rfl, hs⟩ a hf
              refine uL (u_stW hf hs T40 rfl rfl rfl (k := 0) rfl rfl rfl) ?_; clear hs; intro w hs; dsimp only [List.set] at hs
              refine gL hf (g_as hf rfl) (by decide) ?_; clear hf a; intro a hf
              refine e_nil ?_
              refine c_reg ?_
              refine gL hf (g_fa (off' := 2) hf F58_2 rfl rfl) (by decide) ?_; clear hf a; intro a hf
              refine gL hf (g_ld hf hs T3 rfl (k := 3) rfl rfl) (by decide) ?_; clear hf a; intro a hf
              refine gL hf (g_as hf rfl) (by decide) ?_; clear hf a; intro a hf
              refine gL hf (g_as hf rfl) (by decide) ?_; clear hf a; intro a hf
              refine e_nil ?_
              refine c_blockS ?_
              refine c_loop hf hs [21, 22, 126, 127, 128, 129, 130, 131, 132, 133, 134, 135, 136, 137] (σ := (Int × Int)) (fun s => [(21, .int .i64 s.1), (22, .int .i64 s.2)]) (fun s => _) (fun s => (0 ≤ s.1 ∧ s.1 ≤ (pasI k n0 n1 n2 i)) ∧ ∃ j : Int, (0 ≤ j ∧ j ≤ 600) ∧ s.1 = (pasI k n0 n1 n2 i) - j * k.gross ∧ s.2 = j * k.pay) (fun s => s.1.toNat) ((pasI k n0 n1 n2 i), 0) ⟨⟨hpr.1, Int.le_refl _⟩, 0, ⟨by decide, by decide⟩, by simp, by simp⟩ (.cons rfl (.cons rfl .nil)) rfl ?_
              intro ⟨lft, cns⟩ a w hJ hf hs
              dsimp only at hJ hf hs
              obtain ⟨⟨hjl, hjp⟩, j, ⟨hj1, hj2⟩, hj3, hj4⟩ := hJ
              have hjr := mul_rng (a := j) (A := 600) (b := k.pay) (B := 999) ⟨hj1, hj2⟩ ⟨hpy1, hpy2⟩
              refine wp_seq ?_
              refine c_reg ?_
              refine gL hf (g_mv hf rfl) (by decide) ?_; clear hf a; intro a hf
              refine gL hf (g_fa (off' := 4) hf F28_1 rfl rfl) (by decide) ?_; clear hf a; intro a hf
              refine gL hf (g_ld hf hs T3 rfl (k := 6) rfl rfl) (by decide) ?_; clear hf a; intro a hf
              refine gL hf (g_geq hf rfl rfl) (by decide) ?_; clear hf a; intro a hf
              refine e_nil ?_
              refine c_cond hf rfl (fun hc7 => ?_) (fun hc7 => ?_)
              · try simp only [decide_eq_true_eq, decide_eq_false_iff_not] at hc7
                obtain ⟨hj5, hj6⟩ := coin_next hj3 hgr1 (by omega) hpr.2 hj1
                refine c_skip (q_thenN ?_)
                refine c_block ?_
                refine c_reg ?_
                refine gL hf (g_mv hf rfl) (by decide) ?_; clear hf a; intro a hf
                refine gL hf (g_fa (off' := 4) hf F28_1 rfl rfl) (by decide) ?_; clear hf a; intro a hf
                refine gL hf (g_ld hf hs T3 rfl (k := 6) rfl rfl) (by decide) ?_; clear hf a; intro a hf
                refine gL hf (g_subI hf rfl rfl (by omega)) (by decide) ?_; clear hf a; intro a hf
                refine gL hf (g_as hf rfl) (by decide) ?_; clear hf a; intro a hf
                refine e_nil ?_
                refine c_reg1 ?_
                refine gL hf (g_mv hf rfl) (by decide) ?_; clear hf a; intro a hf
                refine gL hf (g_fa (off' := 5) hf F28_2 rfl rfl) (by decide) ?_; clear hf a; intro a hf
                refine gL hf (g_ld hf hs T3 rfl (k := 6) rfl rfl) (by decide) ?_; clear hf a; intro a hf
                refine gL hf (g_addI hf rfl rfl (by omega)) (by decide) ?_; clear hf a; intro a hf
                refine gL hf (g_as hf rfl) (by decide) ?_; clear hf a; intro a hf
                refine e_nil1 (q_blkN (q_thenN ?_))
                exact ⟨(lft - k.gross, cns + k.pay), ⟨⟨by dsimp only; omega, by dsimp only; omega⟩, j + 1, ⟨by omega, hj5⟩, hj6, by dsimp only; rw [hj4, Int.add_mul]; omega⟩, (by dsimp only; omega), hf.back (by repeat (first | (with_reducible exact Ext.base) | ((with_reducible refine Ext.cons ?_ ?_); (· rfl)) | ((with_reducible refine Ext.over ?_ ?_ ?_); (· rfl); (· rfl)))) (allKeys rfl) (.cons rfl (.cons rfl .nil)), hs.dropN 0⟩
              · try simp only [decide_eq_true_eq, decide_eq_false_iff_not] at hc7
                have hje : ((pasI k n0 n1 n2 i)).tdiv k.gross = j := coin_end (l := lft) hj3 hjl (by omega) hpr.1
                have hcoin : cns - k.fine * (misI k n0 n1 i) = (getI k n0 n1 n2 i) := by rw [hj4, ← hje]; exact rgets k (k.ws.getD i default) (truB (k.ws.getD i default) (cN n0 i), truT (k.ws.getD i default) (cN n1 i)) (pasI k n0 n1 n2 i)
                refine c_exit (q_thenX (q_thenX (q_blkX (q_thenN ?_))))
                refine c_reg ?_
                refine gL hf (g_fa (off' := 0) hf F47_0 rfl rfl) (by decide) ?_; clear hf a; intro a hf
                refine gL hf (g_ld hf hs T3 rfl (k := 4) rfl rfl) (by decide) ?_; clear hf a; intro a hf
                refine gL hf (g_fa (off' := 0) hf F58_0 rfl rfl) (by decide) ?_; clear hf a; intro a hf
                refine gL hf (g_ld hf hs T3 rfl (k := 3) rfl rfl) (by decide) ?_; clear hf a; intro a hf
                refine gL hf (g_subI hf rfl rfl (by omega)) (by decide) ?_; clear hf a; intro a hf
                refine gL hf (g_fa (off' := 1) hf F58_1 rfl rfl) (by decide) ?_; clear hf a; intro a hf
                refine gL hf (g_ld hf hs T3 rfl (k := 3) rfl rfl) (by decide) ?_; clear hf a; intro a hf
                refine gL hf (g_subI hf rfl rfl (by omega)) (by decide) ?_; clear hf a; intro a hf
                refine gL hf (g_as hf rfl) (by decide) ?_; clear hf a; intro a hf
                refine e_nil ?_
                rw [show ((k.ws.getD i default)).sheets - truB (k.ws.getD i default) (cN n0 i) - truT (k.ws.getD i default) (cN n1 i) = (misI k n0 n1 i) from rfl] at hf
                refine c_reg ?_
                refine gL hf (g_mv hf rfl) (by decide) ?_; clear hf a; intro a hf
                refine gL hf (g_fa (off' := 6) hf F28_3 rfl rfl) (by decide) ?_; clear hf a; intro a hf
                refine gL hf (g_ld hf hs T3 rfl (k := 6) rfl rfl) (by decide) ?_; clear hf a; intro a hf
                refine gL hf (g_mv hf rfl) (by decide) ?_; clear hf a; intro a hf
                refine gL hf (g_mulI hf rfl rfl (by omega)) (by decide) ?_; clear hf a; intro a hf
                refine gL hf (g_subI hf rfl rfl (by omega)) (by decide) ?_; clear hf a; intro a hf
                refine gL hf (g_as hf rfl) (by decide) ?_; clear hf a; intro a hf
                refine e_nil ?_
                refine wp_seq ?_
                rw [hcoin] at hf
                refine c_reg ?_
                refine gL hf (g_mv hf rfl) (by decide) ?_; clear hf a; intro a hf
                refine gL hf (g_neq hf rfl rfl) (by decide) ?_; clear hf a; intro a hf
                refine gL hf (g_mv hf rfl) (by decide) ?_; clear hf a; intro a hf
                refine ggL hf rfl rfl (gyes_f _) (fun hg => g_mv hf rfl) (by decide) ?_; clear hf a; intro a hf
                refine ggL hf rfl rfl (gyes_f _) (fun hg => g_neq hf (ev_gv rfl hg) rfl) (by decide) ?_; clear hf a; intro a hf
                refine gL hf (g_or hf rfl rfl) (by decide) ?_; clear hf a; intro a hf
                refine gL hf (g_mv hf rfl) (by decide) ?_; clear hf a; intro a hf
                refine ggL hf rfl rfl (gyes_f _) (fun hg => g_mv hf rfl) (by decide) ?_; clear hf a; intro a hf
                refine ggL hf rfl rfl (gyes_f _) (fun hg => g_neq hf (ev_gv rfl hg) rfl) (by decide) ?_; clear hf a; intro a hf
                refine gL hf (g_or hf rfl rfl) (by decide) ?_; clear hf a; intro a hf
                refine gL hf (g_mv hf rfl) (by decide) ?_; clear hf a; intro a hf
                refine ggL hf rfl rfl (gyes_f _) (fun hg => g_ldW hf hs T40 rfl (k := 2) rfl rfl) (by decide) ?_; clear hf a; intro a hf
                refine ggL hf rfl rfl (gyes_f _) (fun hg => g_fa (off' := 2) hf F58_2 rfl rfl) (by decide) ?_; clear hf a; intro a hf
                refine ggL hf rfl rfl (gyes_f _) (fun hg => g_ld hf hs T3 (ev_gv rfl hg) (k := 3) rfl rfl) (by decide) ?_; clear hf a; intro a hf
                refine callG hf hs rfl rfl (gyes_f _) (fun hg => ⟨_, _, _, _, c_Has _ _ _ _, rfl, evs_cons (ev_gv rfl hg) (evs_cons (ev_gv rfl hg) evs_nil), rfl⟩) E50 (by decide) ?_; clear hs hf a; intro w a hs hf
                refine ggL hf rfl rfl (gyes_f _) (fun hg => g_not hf (ev_gv rfl hg)) (by decide) ?_; clear hf a; intro a hf
                refine gL hf (g_or hf rfl rfl) (by decide) ?_; clear hf a; intro a hf
                refine gL hf (g_mv hf rfl) (by decide) ?_; clear hf a; intro a hf
                refine ggL hf rfl rfl (gyes_f _) (fun hg => g_ldW hf hs T40 rfl (k := 1) rfl rfl) (by decide) ?_; clear hf a; intro a hf
                refine ggL hf rfl rfl (gyes_f _) (fun hg => g_mv hf rfl) (by decide) ?_; clear hf a; intro a hf
                refine callG hf hs rfl rfl (gyes_f _) (fun hg => ⟨_, _, _, _, c_Has _ _ _ _, rfl, evs_cons (ev_gv rfl hg) (evs_cons (ev_gv rfl hg) evs_nil), rfl⟩) E50 (by decide) ?_; clear hs hf a; intro w a hs hf
                refine ggL hf rfl rfl (gyes_f _) (fun hg => g_not hf (ev_gv rfl hg)) (by decide) ?_; clear hf a; intro a hf
                refine gL hf (g_or hf rfl rfl) (by decide) ?_; clear hf a; intro a hf
                refine gL hf (g_mv hf rfl) (by decide) ?_; clear hf a; intro a hf
                refine ggL hf rfl rfl (gyes_f _) (fun hg => g_ldW hf hs T40 rfl (k := 0) rfl rfl) (by decide) ?_; clear hf a; intro a hf
                refine ggL hf rfl rfl (gyes_f _) (fun hg => g_mv hf rfl) (by decide) ?_; clear hf a; intro a hf
                refine callG hf hs rfl rfl (gyes_f _) (fun hg => ⟨_, _, _, _, c_Has _ _ _ _, rfl, evs_cons (ev_gv rfl hg) (evs_cons (ev_gv rfl hg) evs_nil), rfl⟩) E50 (by decide) ?_; clear hs hf a; intro w a hs hf
                refine ggL hf rfl rfl (gyes_f _) (fun hg => g_not hf (ev_gv rfl hg)) (by decide) ?_; clear hf a; intro a hf
                refine gL hf (g_or hf rfl rfl) (by decide) ?_; clear hf a; intro a hf
                refine e_nil ?_
                refine c_cond hf rfl (fun hc8 => ?_) (fun hc8 => ?_)
                · skip
                  exfalso; simp only [fitsB] at hc8; rw [decide_eq_true hh0.1, decide_eq_true hh0.2, decide_eq_true hh1.1, decide_eq_true hh1.2, decide_eq_true hh2.1, decide_eq_true hh2.2] at hc8; cases hc8
                · skip
                  refine c_skip (q_thenN ?_)
                  refine c_reg ?_
                  refine gL hf (g_mv hf rfl) (by decide) ?_; clear hf a; intro a hf
                  refine gL hf (g_fa (off' := 2) hf F58_2 rfl rfl) (by decide) ?_; clear hf a; intro a hf
                  refine gL hf (g_ld hf hs T3 rfl (k := 3) rfl rfl) (by decide) ?_; clear hf a; intro a hf
                  refine gL hf (g_addI hf rfl rfl (by omega)) (by decide) ?_; clear hf a; intro a hf
                  refine gL hf (g_as hf rfl) (by decide) ?_; clear hf a; intro a hf
                  refine e_nil ?_
                  refine c_reg1 ?_
                  refine gL hf (g_mv hf rfl) (by decide) ?_; clear hf a; intro a hf
                  refine gL hf (g_mv hf rfl) (by decide) ?_; clear hf a; intro a hf
                  refine gL hf (g_addI hf rfl rfl (by omega)) (by decide) ?_; clear hf a; intro a hf
                  refine gL hf (g_as hf rfl) (by decide) ?_; clear hf a; intro a hf
                  refine e_nil1 (q_blkN (q_thenN ?_))
                  refine c_reg1 ?_
                  refine gL hf (g_mv hf rfl) (by decide) ?_; clear hf a; intro a hf
                  refine gL hf (g_addI hf rfl rfl (by omega)) (by decide) ?_; clear hf a; intro a hf
                  refine gL hf (g_as hf rfl) (by decide) ?_; clear hf a; intro a hf
                  refine e_nil1 (q_thenN ?_)
                  exact ⟨i + 1, (by omega), (by omega), hf.back (by repeat (first | (with_reducible exact Ext.base) | ((with_reducible refine Ext.cons ?_ ?_); (· rfl)) | ((with_reducible refine Ext.over ?_ ?_ ?_); (· rfl); (· rfl)))) (allKeys rfl) (.cons (by rw [hsp]; rfl) (.cons (by rw [hsg]; rfl) (.cons rfl (.cons rfl .nil)))), hs.dropN 5⟩
      · try simp only [decide_eq_true_eq, decide_eq_false_iff_not] at hc3
        have hie : i = k.ws.length := by omega
        subst hie
        refine c_exit (q_thenX (q_thenX (q_blkX (q_thenN ?_))))
        refine c_reg ?_
        refine gL hf (g_ldW hf hs T28 rfl (k := 1) rfl rfl) (by decide) ?_; clear hf a; intro a hf
        refine callL hf hs (c_TotalH k _ _ _ _ _ _ ge gz  _ ⟨⟨hs.rd (.tail _ (.head _)), hs.rd (.tail _ (.tail _ (.head _))), h.sh.fc_, h.sh.rc_⟩, hs.rd (.tail _ (.tail _ (.tail _ (.head _)))), h.wc_, hs.rd (.tail _ (.tail _ (.tail _ (.tail _ (.head _)))))⟩ (hs.rd (.tail _ (.tail _ (.tail _ (.tail _ (.tail _ (.head _))))))) te tz (hs.rd (.tail _ (.tail _ (.tail _ (.tail _ (.tail _ (.tail _ (.head _))))))))) rfl rfl rfl E27 (by decide) ?_; clear hs hf a; intro w a hs hf
        refine gL hf (g_mv hf rfl) (by decide) ?_; clear hf a; intro a hf
        refine gL hf (g_ext hf rfl rfl) (by decide) ?_; clear hf a; intro a hf
        refine gL hf (g_ext hf rfl rfl) (by decide) ?_; clear hf a; intro a hf
        refine vL hf (v_alloc hs T40 rfl) (by decide) ?_; clear hs hf a; rintro _ w ⟨b3, rfl, hs⟩ a hf
        refine uL (u_stW hf hs T40 rfl rfl rfl (k := 0) rfl rfl rfl) ?_; clear hs; intro w hs; dsimp only [List.set] at hs
        refine gL hf (g_as hf rfl) (by decide) ?_; clear hf a; intro a hf
        refine e_nil ?_
        refine c_reg ?_
        refine gL hf (g_ldW hf hs T28 rfl (k := 2) rfl rfl) (by decide) ?_; clear hf a; intro a hf
        refine callL hf hs (c_GrossesH k _ _ _ _ _ _ ge gz  _ ⟨⟨hs.rd (.tail _ (.head _)), hs.rd (.tail _ (.tail _ (.head _))), h.sh.fc_, h.sh.rc_⟩, hs.rd (.tail _ (.tail _ (.tail _ (.head _)))), h.wc_, hs.rd (.tail _ (.tail _ (.tail _ (.tail _ (.head _)))))⟩ (hs.rd (.tail _ (.tail _ (.tail _ (.tail _ (.tail _ (.head _))))))) te tz (hs.rd (.tail _ (.tail _ (.tail _ (.tail _ (.tail _ (.tail _ (.head _))))))))) rfl rfl rfl E25 (by decide) ?_; clear hs hf a; intro w a hs hf
        refine gL hf (g_mv hf rfl) (by decide) ?_; clear hf a; intro a hf
        refine gL hf (g_ext hf rfl rfl) (by decide) ?_; clear hf a; intro a hf
        refine gL hf (g_ext hf rfl rfl) (by decide) ?_; clear hf a; intro a hf
        refine vL hf (v_alloc hs T40 rfl) (by decide) ?_; clear hs hf a; rintro _ w ⟨b4, rfl, hs⟩ a hf
        refine uL (u_stW hf hs T40 rfl rfl rfl (k := 0) rfl rfl rfl) ?_; clear hs; intro w hs; dsimp only [List.set] at hs
        refine gL hf (g_as hf rfl) (by decide) ?_; clear hf a; intro a hf
        refine e_nil ?_
        refine wp_seq ?_
        refine c_reg ?_
        refine gL hf (g_mv hf rfl) (by decide) ?_; clear hf a; intro a hf
        refine gL hf (g_eql hf rfl rfl) (by decide) ?_; clear hf a; intro a hf
        refine gL hf (g_mv hf rfl) (by decide) ?_; clear hf a; intro a hf
        refine gL hf (g_len hf SL31 rfl) (by decide) ?_; clear hf a; intro a hf
        refine gL hf (g_eql hf rfl rfl) (by decide) ?_; clear hf a; intro a hf
        refine gL hf (g_neqB hf B4 rfl rfl) (by decide) ?_; clear hf a; intro a hf
        refine gL hf (g_mv hf rfl) (by decide) ?_; clear hf a; intro a hf
        refine ggL hf rfl rfl (gyes_f _) (fun hg => g_mv hf rfl) (by decide) ?_; clear hf a; intro a hf
        refine ggL hf rfl rfl (gyes_f _) (fun hg => g_mv hf rfl) (by decide) ?_; clear hf a; intro a hf
        refine ggL hf rfl rfl (gyes_f _) (fun hg => g_neq hf (ev_gv rfl hg) (ev_gv rfl hg)) (by decide) ?_; clear hf a; intro a hf
        refine gL hf (g_or hf rfl rfl) (by decide) ?_; clear hf a; intro a hf
        refine gL hf (g_mv hf rfl) (by decide) ?_; clear hf a; intro a hf
        refine ggL hf rfl rfl (gyes_f _) (fun hg => g_mv hf rfl) (by decide) ?_; clear hf a; intro a hf
        refine ggL hf rfl rfl (gyes_f _) (fun hg => g_neq hf (ev_gv rfl hg) rfl) (by decide) ?_; clear hf a; intro a hf
        refine ggL hf rfl rfl (gyes_f _) (fun hg => g_mv hf (ev_gv rfl hg)) (by decide) ?_; clear hf a; intro a hf
        refine ggL hf rfl rfl (gyes_gt _ _) (fun hg => g_mv hf rfl) (by decide) ?_; clear hf a; intro a hf
        refine ggL hf rfl rfl (gyes_gt _ _) (fun hg => g_neq hf (ev_gv rfl hg) rfl) (by decide) ?_; clear hf a; intro a hf
        refine ggL hf rfl rfl (gyes_f _) (fun hg => g_and hf (ev_gv rfl hg) (ev_gvand rfl hg)) (by decide) ?_; clear hf a; intro a hf
        refine gL hf (g_or hf rfl rfl) (by decide) ?_; clear hf a; intro a hf
        refine e_nil ?_
        refine c_cond hf rfl (fun hc9 => ?_) (fun hc9 => ?_)
        · skip
          exfalso; rw [true_dead hck] at hc9; cases hc9
        · skip
          refine c_skip (q_thenN ?_)
          have hsr9 := sums_rng (n0 := n0) (n1 := n1) (n2 := n2) hv k.ws.length (Nat.le_refl _)
          have hq9 := tdiv_rng hv.g1 hsr9.1.1
          refine c_draw _ 19 Mx rfl hs (fun _ h => h) ?_; intro w hs hS
          refine gA hf hS (i := 0) rfl (by kernel_rfl) (fun w hs => g_mv hf rfl) (by decide) ?_; clear hf a; intro a hf
          refine gA hf hS (i := 1) rfl (by kernel_rfl) (fun w hs => g_not hf rfl) (by decide) ?_; clear hf a; intro a hf
          refine gA hf hS (i := 2) rfl (by kernel_rfl) (fun w hs => g_mv hf rfl) (by decide) ?_; clear hf a; intro a hf
          refine ggA hf hS (i := 3) rfl (by kernel_rfl) rfl rfl (gyes_f _) (fun hg w hs => g_ldW hf hs T40 rfl (k := 1) rfl rfl) (by decide) ?_; clear hf a; intro a hf
          refine ggA hf hS (i := 4) rfl (by kernel_rfl) rfl rfl (gyes_f _) (fun hg w hs => g_mv hf rfl) (by decide) ?_; clear hf a; intro a hf
          refine one (i := 5) (by kernel_rfl) ?_
          refine oCallG hf hs rfl rfl rfl (gyes_f _) (fun hg => ⟨_, _, _, _, c_Has _ _ _ _, rfl, evs_cons (ev_gv rfl hg) (evs_cons (ev_gv rfl hg) evs_nil), rfl⟩) E50 (by decide) (fun _ h => h.sub (.refl _)) ?_; clear hs hf hS a; intro w a hs hS hf
          refine ggA hf hS (i := 6) rfl (by kernel_rfl) rfl rfl (gyes_f _) (fun hg w hs => g_mv hf (ev_gv rfl hg)) (by decide) ?_; clear hf a; intro a hf
          refine ggA hf hS (i := 7) rfl (by kernel_rfl) rfl rfl (gyes_gt _ _) (fun hg w hs => g_ldW hf hs T40 rfl (k := 0) rfl rfl) (by decide) ?_; clear hf a; intro a hf
          refine ggA hf hS (i := 8) rfl (by kernel_rfl) rfl rfl (gyes_gt _ _) (fun hg w hs => g_mv hf rfl) (by decide) ?_; clear hf a; intro a hf
          refine ggA hf hS (i := 9) rfl (by kernel_rfl) rfl rfl (gyes_gt _ _) (fun hg w hs => g_fa (off' := 4) hf F28_1 rfl rfl) (by decide) ?_; clear hf a; intro a hf
          refine ggA hf hS (i := 10) rfl (by kernel_rfl) rfl rfl (gyes_gt _ _) (fun hg w hs => g_ld hf hs T3 (ev_gv rfl hg) (k := 3) rfl rfl) (by decide) ?_; clear hf a; intro a hf
          refine ggA hf hS (i := 11) rfl (by kernel_rfl) rfl rfl (gyes_gt _ _) (fun hg w hs => g_quoI hf (ev_gv rfl hg) (ev_gv rfl hg) (by omega)) (by decide) ?_; clear hf a; intro a hf
          refine one (i := 12) (by kernel_rfl) ?_
          refine oCallG hf hs rfl rfl rfl (gyes_gt _ _) (fun hg => ⟨_, _, _, _, c_Has _ _ _ _, rfl, evs_cons (ev_gv rfl hg) (evs_cons (ev_gv rfl hg) evs_nil), rfl⟩) E50 (by decide) (fun _ h => h.sub (.refl _)) ?_; clear hs hf hS a; intro w a hs hS hf
          refine ggA hf hS (i := 13) rfl (by kernel_rfl) rfl rfl (gyes_f _) (fun hg w hs => g_and hf (ev_gv rfl hg) (ev_gvand rfl hg)) (by decide) ?_; clear hf a; intro a hf
          refine gA hf hS (i := 14) rfl (by kernel_rfl) (fun w hs => g_or hf rfl rfl) (by decide) ?_; clear hf a; intro a hf
          refine gA hf hS (i := 15) rfl (by kernel_rfl) (fun w hs => g_mv hf rfl) (by decide) ?_; clear hf a; intro a hf
          refine one (i := 16) (by kernel_rfl) ?_
          refine oCallG hf hs rfl rfl rfl (gyes_t _) (fun hg => ⟨_, _, _, _, c_paid ge gz te tz _ (hs.rd (.tail _ (.tail _ (.tail _ (.tail _ (.tail _ (.head _))))))) (hs.rd (.tail _ (.tail _ (.tail _ (.tail _ (.tail _ (.tail _ (.head _)))))))), rfl, evs_nil, rfl⟩) E40 (by decide) (fun _ h => h.sub (.refl _)) ?_; clear hs hf hS a; intro w a hs hS hf
          refine gA hf hS (i := 17) rfl (by kernel_rfl) (fun w hs => g_and hf rfl rfl) (by decide) ?_; clear hf a; intro a hf
          refine gA hf hS (i := 18) rfl (by kernel_rfl) (fun w hs => g_as hf rfl) (by decide) ?_; clear hf a; intro a hf
          refine e_done (by kernel_rfl) ?_
          refine c_ret ?_
          refine e_ret1 hf rfl rfl ?_
          refine ⟨?_, hs.below⟩
          cases hw : whC k n0 n1 k.ws.length with
          | false => rfl
          | true => rw [true_fin hck hw]; rfl

end Go.Proofs.YtjjcopeedcdokaaDoor

set_option linter.unusedVariables false
namespace Go.Proofs.YtjjcopeedcdokaaDoor
open Go.ChangeShapes Go.WideShapes Go.ChangeAt Go.RowKit
set_option maxRecDepth 100000 in
theorem lifted8 (os : Os) (started : os.Started) (H : Type) (enc : TypeId × Value → H) :
    ReturnsInHanded {} Tryd.checked os 8 .any (fun w args => (Rows.homeTrueSpec.pre enc Tryd.prog Tryd.f8 [] false w args ∧ laidMetH Tryd.prog laid1 w) ∧ sizedMet enc Tryd.prog Tryd.f8 (OpenSpec.ofChange Rows.homeTrueSpec) false w args)
      (Rows.homeTrueSpec.post enc Tryd.prog Tryd.f8 false true false false) := by
  refine returnsInHanded_of_change_and (C := Tryd.checked) (X := fun w _ => laidMetH Tryd.prog laid1 w) (fun _ _ _ hh h => h.of_heap hh) pOwn started (by kernel_rfl) Tryd.func8
    (ChangeSpec.witness_shaped (enc := enc) (C := Tryd.checked) (os := os) (X := fun w _ => laidMetH Tryd.prog laid1 w) false (World.doorLaid Tryd.prog 600 os) #[.agg #[.int .i64 0, .int .i64 0, .slice none 0 0, .slice none 0 0, .int .i64 0, .int .i64 0, .int .i64 0, .slice none 0 0], .agg #[.int .i64 0, .int .i64 0, .int .i64 0]] 8 rfl (World.shaped_of_RefB (by kernel_rfl) (by kernel_rfl)) (by kernel_rfl) (by kernel_rfl) (by kernel_rfl) (door_met os _)) ?_
  intro W base args ds gs before hval0 hW _ _ hL _
  have hval : ∀ (j : Nat) t v, Tryd.f8.params[j]? = some t → args[j]? = some v → Value.okWide Tryd.prog W .any base t v := hval0
  have hW' := hW
  obtain ⟨p, q, hA0, hV, rfl, hfz, hnd⟩ := hW
  have hA : DataW.TrodAll enc Tryd.prog W 0 (fun _ => true) true Tryd.f8.params.toList args.toList ds p := hA0
  have hA9 := hA
  rw [Tryd.params8] at hA hval
  obtain ⟨v0, v1, d0, d1, p0, p1, rfl, rfl, rfl, h0, h1⟩ := trodAll_two hA
  obtain ⟨rfl, rfl⟩ := trodVars_none hV
  obtain ⟨k, fA, fc, rA, rc, wA, wc, rfl, hbk⟩ := open_book (hval 0 28 v0 rfl rfl) h0
  obtain ⟨n0, n1, n2, rfl⟩ := open_three (hval 1 56 v1 rfl rfl) h1
  obtain ⟨ge, gz, hG⟩ := of_laid hL
  obtain ⟨te, tz, hT⟩ := of_told hL
  refine (c_HomeTrue k fA fc rA rc wA wc ge gz n0 n1 n2 W hbk hG te tz hT).mono fun e W' ⟨he, hb⟩ => ?_
  subst he
  exact ⟨_, rfl, law_post rfl rfl rfl (by kernel_rfl) hW' rfl hA9 hb⟩
theorem row8 : Rows.HomeTrueSaid :=
  OpenClaim.holds_of_wide 8 Tryd.f8 rfl rfl rfl rfl rfl rfl rfl ⟨rfl, rfl, rfl, rfl, rfl⟩ rfl rfl rfl rfl rfl (by kernel_rfl) Tryd.func8 (by kernel_rfl)
    (of_decide_eq_true (by kernel_rfl)) (by unfold Func.isWrapper; first | (rw [if_pos (by decide +kernel)]; kernel_rfl) | (rw [if_neg (by decide +kernel)]; exact ⟨rfl, rfl⟩))
    (fun os started H enc _ => lifted8 os started H enc)
/-- The card. -/
theorem homeTrue_holds : Rows.HomeTrueCardSaid :=
  Claim7.holds_tied_plain_at .later [] [.funcs, .funcs] true (true, "812014c6ba21101d15e02d82012ffa61e4b3f2f84e9c736658d12c12a3cb442a") false
    row8 (fun _ h => by cases h) (by kernel_rfl) (fun _ h => by cases h) homeTrue_row_tie rfl ⟨rfl, rfl⟩ (by kernel_rfl) rfl
    (fun f fn hf hfn => by
      obtain rfl : f = 8 := Option.some.inj ((show Tryd.prog.funcNamed "lucifer/luciferlaw09.HomeTrue" = some 8 by kernel_rfl).symm.trans hf) |>.symm
      obtain rfl : fn = Tryd.f8 := (Option.some.inj (Tryd.func8.symm.trans hfn)).symm
      exact ⟨by kernel_rfl, fun j t ht => by
        rw [Tryd.params8] at ht
        have hm : t ∈ [28, 56] := by simpa using Array.mem_of_getElem? ht
        have hall : ([28, 56].all fun u => !Tryd.prog.wantsStandIn u) = true := by kernel_rfl
        exact (show Tryd.prog.wantsStandIn t = false by simpa using List.all_eq_true.1 hall t hm)⟩)
    (by kernel_rfl)
#print axioms homeTrue_holds
end Go.Proofs.YtjjcopeedcdokaaDoor

