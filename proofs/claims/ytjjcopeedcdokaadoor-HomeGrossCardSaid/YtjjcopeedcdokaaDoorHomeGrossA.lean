/- For every book and three numbers the law HomeGross returns true, and its arguments read afterwards as before: of all together there are no fewer whole gross than of each by itself, nobody gets less for a smaller gross, nobody gets more for a greater fine. Conditions: the tables of the sides and of what is told hold what the text of the program lays. -/
import Derived.Test.YtjjcopeedcdokaaDoorComF
import Derived.Test.YtjjcopeedcdokaaDoorTie
import Derived.Test.YtjjcopeedcdokaaDoorCards
set_option linter.unusedVariables false
set_option linter.unusedSimpArgs false
namespace Go.Proofs.YtjjcopeedcdokaaDoor
open Go.RowKit
theorem wrong_nil {k : Bk} (h : wrongL k = []) {i : Nat} (hi : i < k.ws.length) : rightB (k.ws.getD i default) = true := by
  unfold wrongL wrongTo at h
  have h1 := List.map_eq_nil_iff.1 h
  have h2 := (List.filter_eq_nil_iff.1 h1) i (List.mem_range.2 hi)
  simpa using h2
theorem togE_ok {k : Bk} (hb : hckB k = true) : togE k = if wrongL k = [] then 0 else 92 := by unfold togE; rw [if_pos hb]
end Go.Proofs.YtjjcopeedcdokaaDoor

set_option linter.unusedVariables false
set_option linter.unusedSimpArgs false
namespace Go.Proofs.YtjjcopeedcdokaaDoor
open Go.RowKit
end Go.Proofs.YtjjcopeedcdokaaDoor

set_option linter.unusedVariables false
set_option linter.unusedSimpArgs false
namespace Go.Proofs.YtjjcopeedcdokaaDoor
open Go.RowKit
abbrev kGr (k : Bk) (g : Int) : Bk := { k with gross := g }
abbrev kFi (k : Bk) (f : Int) : Bk := { k with fine := f }
theorem kGr_v {k : Bk} (hv : BkV k) {g : Int} (h1 : 1 ≤ g) (h2 : g ≤ 144) : BkV (kGr k g) := ⟨hv.ck, h1, h2, hv.p1, hv.p2, hv.f1, hv.f2, hv.n, hv.w⟩
theorem kFi_v {k : Bk} (hv : BkV k) {f : Int} (h1 : 0 ≤ f) (h2 : f ≤ 99) : BkV (kFi k f) := ⟨hv.ck, hv.g1, hv.g2, hv.p1, hv.p2, h1, h2, hv.n, hv.w⟩
theorem tdiv_anti {p g g' : Int} (hp : 0 ≤ p) (h1 : 1 ≤ g') (h2 : g' ≤ g) : p.tdiv g ≤ p.tdiv g' := by
  rw [Int.tdiv_eq_ediv_of_nonneg hp, Int.tdiv_eq_ediv_of_nonneg hp]
  refine Int.le_ediv_of_mul_le (by omega) ?_
  have h3 : 0 ≤ p / g := Int.ediv_nonneg hp (by omega)
  have h4 := Int.mul_le_mul_of_nonneg_left h2 h3
  have h5 := Int.ediv_mul_le p (show g ≠ 0 by omega)
  omega
theorem gross_less {k : Bk} (hv : BkV k) {x : Wkr} (hx : WkrV k.sh x) {g : Int} (h1 : 1 ≤ g) (h2 : g ≤ k.gross) : (ofZ k 2 x).1 ≤ (ofZ (kGr k g) 2 x).1 ∧ (ofZ k 2 x).2 ≤ (ofZ (kGr k g) 2 x).2 := by
  refine ofZ_mono rfl fun c hc => ?_
  rw [hspan2, hspan2]
  have ht := trues_in hx (n := c.1) (t := c.2) hc
  have h3 := hp_two (doesK k x) c.1 ht.n0
  have key : ∀ p m, 0 ≤ p → hgv k p m ≤ hgv (kGr k g) p m := fun p m hp => by
    unfold hgv
    have := Int.mul_le_mul_of_nonneg_right (tdiv_anti hp h1 h2) hv.p1
    show p.tdiv k.gross * k.pay + -m * k.fine ≤ p.tdiv g * k.pay + -m * k.fine
    omega
  exact ⟨key _ _ h3.2.2.1, key _ _ (Int.le_trans h3.2.2.1 h3.2.2.2)⟩
theorem fine_more {k : Bk} (hv : BkV k) {x : Wkr} (hx : WkrV k.sh x) {f : Int} (h1 : k.fine ≤ f) : (ofZ (kFi k f) 2 x).1 ≤ (ofZ k 2 x).1 ∧ (ofZ (kFi k f) 2 x).2 ≤ (ofZ k 2 x).2 := by
  refine ofZ_mono rfl fun c hc => ?_
  rw [hspan2, hspan2]
  have hmr : 0 ≤ hm x c ∧ hm x c ≤ 600 := (trues_in hx (n := c.1) (t := c.2) hc).hm
  have key : ∀ p, hgv (kFi k f) p (hm x c) ≤ hgv k p (hm x c) := fun p => by
    unfold hgv
    have := Int.mul_le_mul_of_nonneg_left h1 hmr.1
    show p.tdiv k.gross * k.pay + -hm x c * f ≤ p.tdiv k.gross * k.pay + -hm x c * k.fine
    rw [Int.neg_mul, Int.neg_mul]; omega
  exact ⟨key _, key _⟩
/-- Whole gross of each by itself, so far; are all accounts true so far? -/
def loTo (k : Bk) : Nat → Int
  | 0 => 0
  | i + 1 => loTo k i + if rightB (k.ws.getD i default) = true then (ofZ k 0 (k.ws.getD i default)).1.tdiv k.gross else 0
def wholeTo (k : Bk) (i : Nat) : Bool := (k.ws.take i).all rightB
theorem whole_succ {k : Bk} {i : Nat} (h : i < k.ws.length) : wholeTo k (i + 1) = (wholeTo k i && rightB (k.ws.getD i default)) := by
  unfold wholeTo; rw [take_snoc h, List.all_append]; simp
theorem whole_all {k : Bk} : wholeTo k k.ws.length = true ↔ wrongL k = [] := by
  unfold wholeTo
  rw [List.take_length, List.all_eq_true]
  constructor
  · intro h
    unfold wrongL wrongTo
    rw [List.map_eq_nil_iff, List.filter_eq_nil_iff]
    intro w hw
    rw [h _ (getD_mem (List.mem_range.1 hw))]; simp
  · intro h x hx
    obtain ⟨i, hi, rfl⟩ := List.mem_iff_getElem.1 hx
    have := wrong_nil h hi
    rwa [List.getD_eq_getElem?_getD, List.getElem?_eq_getElem hi] at this
theorem lo_rng {k : Bk} (hv : BkV k) : ∀ i, i ≤ k.ws.length → 0 ≤ loTo k i ∧ loTo k i ≤ 600000 * (i : Int)
  | 0, _ => by simp [loTo]
  | i + 1, h => by
    have h1 := lo_rng hv i (by omega)
    have h2 := ofZ_rng (what := 0) hv (hv.wk (show i < k.ws.length by omega)) (by decide)
    have h3 := tdiv_rng hv.g1 (h2.2.2.2 (by decide))
    unfold loTo
    split <;> omega
theorem tdiv_add_le {a b g : Int} (hg : 1 ≤ g) (ha : 0 ≤ a) (hb : 0 ≤ b) : a.tdiv g + b.tdiv g ≤ (a + b).tdiv g := by
  rw [Int.tdiv_eq_ediv_of_nonneg ha, Int.tdiv_eq_ediv_of_nonneg hb, Int.tdiv_eq_ediv_of_nonneg (by omega)]
  refine Int.le_ediv_of_mul_le (by omega) ?_
  have h1 := Int.ediv_mul_le a (show g ≠ 0 by omega)
  have h2 := Int.ediv_mul_le b (show g ≠ 0 by omega)
  rw [Int.add_mul]; omega
theorem lo_le {k : Bk} (hv : BkV k) : ∀ i, i ≤ k.ws.length → loTo k i ≤ (allP k 0 (k.ws.take i)).1.tdiv k.gross
  | 0, _ => by simp [loTo, allP]
  | i + 1, h => by
    have hi : i < k.ws.length := by omega
    have h1 := lo_le hv i (by omega)
    have h2 := (ofZ_rng (what := 0) hv (hv.wk hi) (by decide)).2.2.2 (by decide)
    have h3 := (allP_upto hv (what := 0) (by decide) i).2.2.2 (by decide)
    have h4 := tdiv_add_le hv.g1 h3 h2
    have h5 := (tdiv_rng hv.g1 h2).1
    rw [allP_take hi]
    unfold loTo
    simp only
    split <;> omega
theorem gross_err {k : Bk} (hb : hckB k = true) : (grossP k).2 = if wrongL k = [] then 0 else 92 := by
  have := togE_ok hb
  unfold grossP
  by_cases h : wrongL k = [] <;> simp [h, this]
theorem gross_lo {k : Bk} (hb : hckB k = true) (h : wrongL k = []) : loTo k k.ws.length ≤ (grossP k).1.1 := by
  have hv := hck_iff.1 hb
  have h1 := lo_le hv k.ws.length (Nat.le_refl _)
  rw [List.take_length] at h1
  have := togE_ok hb
  unfold grossP
  rw [if_pos (by rw [this, if_pos h])]
  exact h1
end Go.Proofs.YtjjcopeedcdokaaDoor

set_option linter.unusedVariables false
set_option linter.unusedSimpArgs false
namespace Go.Proofs.YtjjcopeedcdokaaDoor
open Go.RowKit
theorem c_HomeGross (k : Bk) (fA : Option Addr) (fc : Nat) (rA : Option Addr) (rc : Nat) (wA : Option Addr) (wc : Nat) (ge : TypeId) (gz : Nat × Nat) (n0 n1 n2 : Int) (w0 : World) (h : BkIn k fA fc rA rc wA wc w0) (hG : BlkIs 1 sidesA ge gz w0) (te : TypeId) (tz : Nat × Nat) (hT : BlkIs 0 toldA te tz w0) :
    Calls Tryd.prog 11 #[.agg #[.int .i64 k.sh.wide, .int .i64 k.sh.high, .slice fA k.sh.flaps.length fc, .slice rA k.sh.rules.length rc, .int .i64 k.gross, .int .i64 k.pay, .int .i64 k.fine, .slice wA k.ws.length wc], .agg #[.int .i64 n0, .int .i64 n1, .int .i64 n2]] w0 (Ret w0 (.bool true)) := by
  refine c_enter (n := 156) Tryd.func11 rfl rfl (Nat.le_of_ble_eq_true rfl) ?_; intro a hf; simp only [zipR] at hf
  have hs := St.start w0 [Rd encF 5 fA k.sh.flaps.length k.sh.flaps, Rd encR 2 rA k.sh.rules.length k.sh.rules, Rd encW 6 wA k.ws.length k.ws, OrdD k.ws, BlkIs 1 sidesA ge gz, BlkIs 0 toldA te tz] (stab_app (stab_app h.stab hG.st1) hT.st1)
  have hwm := h.W.2.1
  refine c_reg ?_
  refine vL hf (v_boxA hf hs rfl) (by decide) ?_; clear hs hf a; rintro _ w ⟨b1, rfl, hs⟩ a hf
  refine vL hf (v_boxA hf hs rfl) (by decide) ?_; clear hs hf a; rintro _ w ⟨b2, rfl, hs⟩ a hf
  refine gL hf (g_as hf rfl) (by decide) ?_; clear hf a; intro a hf
  refine e_nil ?_
  refine wp_seq ?_
  refine c_reg ?_
  refine gL hf (g_ldW hf hs T28 rfl (k := 1) rfl rfl) (by decide) ?_; clear hf a; intro a hf
  refine callL hf hs (c_soundH k _ _ _ _ _ _ ge gz _ ⟨⟨hs.rd (.head _), hs.rd (.tail _ (.head _)), h.sh.fc_, h.sh.rc_⟩, hs.rd (.tail _ (.tail _ (.head _))), h.wc_, hs.rd (.tail _ (.tail _ (.tail _ (.head _))))⟩ (hs.rd (.tail _ (.tail _ (.tail _ (.tail _ (.head _))))))) rfl rfl rfl E48 (by decide) ?_; clear hs hf a; intro w a hs hf
  refine gL hf (g_not hf rfl) (by decide) ?_; clear hf a; intro a hf
  refine e_nil ?_
  refine c_cond hf rfl (fun hc1 => ?_) (fun hc1 => ?_)
  · skip
    refine c_reg ?_
    refine callL hf hs (c_paid ge gz te tz _ (hs.rd (.tail _ (.tail _ (.tail _ (.tail _ (.head _)))))) (hs.rd (.tail _ (.tail _ (.tail _ (.tail _ (.tail _ (.head _)))))))) rfl rfl rfl E40 (by decide) ?_; clear hs hf a; intro w a hs hf
    refine gL hf (g_as hf rfl) (by decide) ?_; clear hf a; intro a hf
    refine e_nil ?_
    refine c_ret (q_thenR ?_)
    refine e_ret1 hf rfl rfl ?_
    exact ⟨rfl, hs.below⟩
  · skip
    have hck : hckB k = true := by simpa using hc1
    have hv := hck_iff.1 hck; have hwn := hv.n
    refine c_skip (q_thenN ?_)
    refine c_drawJ _ 6 (fun a w => ∃ b5 b6, Fr [] a 156 [(5, .pointer (some ⟨b5, 0, none⟩)), (6, .pointer (some ⟨b6, 0, none⟩)), (2, .pointer (some ⟨b1, 0, none⟩)), (3, .pointer (some ⟨b2, 0, none⟩)), (4, .bool false)] ∧ St (Base.of w0) [Rd encF 5 fA k.sh.flaps.length k.sh.flaps, Rd encR 2 rA k.sh.rules.length k.sh.rules, Rd encW 6 wA k.ws.length k.ws, OrdD k.ws, BlkIs 1 sidesA ge gz, BlkIs 0 toldA te tz] [(b5, .cells #[.int .i64 k.sh.wide, .int .i64 k.sh.high, .slice fA k.sh.flaps.length fc, .slice rA k.sh.rules.length rc, .int .i64 k.gross, .int .i64 k.pay, .int .i64 k.fine, .slice wA k.ws.length wc] 28 (0, 0)), (b6, .cells #[.int .i64 k.sh.wide, .int .i64 k.sh.high, .slice fA k.sh.flaps.length fc, .slice rA k.sh.rules.length rc, .int .i64 k.gross, .int .i64 k.pay, .int .i64 k.fine, .slice wA k.ws.length wc] 28 (0, 0)), (b2, .cells #[.int .i64 n0, .int .i64 n1, .int .i64 n2] 56 (0, 0)), (b1, .cells #[.int .i64 k.sh.wide, .int .i64 k.sh.high, .slice fA k.sh.flaps.length fc, .slice rA k.sh.rules.length rc, .int .i64 k.gross, .int .i64 k.pay, .int .i64 k.fine, .slice wA k.ws.length wc] 28 (0, 0))] w) Mx rfl hs (fun _ h => h) ?_ ?_
    · intro w hs hS
      refine gA hf hS (i := 0) rfl (by kernel_rfl) (fun w hs => g_ldW hf hs T28 rfl (k := 1) rfl rfl) (by decide) ?_; clear hf a; intro a hf
      refine gA hf hS (i := 1) rfl (by kernel_rfl) (fun w hs => g_ldW hf hs T28 rfl (k := 1) rfl rfl) (by decide) ?_; clear hf a; intro a hf
      refine two (i := 2) (j := 3) (by kernel_rfl) ?_ ?_
      · skip
        refine oV hf rfl (v_alloc hs T28 rfl) (by decide) (fun _ _ ⟨_, _, h⟩ => h.sub (.cons _ (.refl _))) ?_; clear hs hf hS a; rintro _ w ⟨b3, rfl, hs⟩ hS a hf
        refine one (i := 3) (by kernel_rfl) ?_
        refine oV hf rfl (v_alloc hs T28 rfl) (by decide) (fun _ _ ⟨_, _, h⟩ => h.sub (.cons _ (.cons _ (.refl _)))) ?_; clear hs hf hS a; rintro _ w ⟨b4, rfl, hs⟩ hS a hf
        refine one (i := 4) (by kernel_rfl) ?_
        refine oU rfl (u_stW hf hs T28 rfl rfl rfl (k := 1) rfl rfl rfl) (fun _ h => h.sub (.cons _ (.cons _ (.refl _)))) ?_; clear hs hS; intro w hs hS; dsimp only [List.set] at hs
        refine one (i := 5) (by kernel_rfl) ?_
        refine oU rfl (u_stW hf hs T28 rfl rfl rfl (k := 0) rfl rfl rfl) (fun _ h => h.sub (.cons _ (.cons _ (.refl _)))) ?_; clear hs hS; intro w hs hS; dsimp only [List.set] at hs
        refine e_doneJ (by kernel_rfl) ?_
        first | exact ⟨_, _, hf.only (.cons rfl (.cons rfl (.cons rfl (.cons rfl (.cons rfl .nil))))), hs⟩ | exact ⟨_, _, hf.only (.cons rfl (.cons rfl (.cons rfl (.cons rfl (.cons rfl .nil))))), hs.perm (.swap _ _ _)⟩
      · skip
        refine oV hf rfl (v_alloc hs T28 rfl) (by decide) (fun _ _ ⟨_, _, h⟩ => h.sub (.cons _ (.refl _))) ?_; clear hs hf hS a; rintro _ w ⟨b3, rfl, hs⟩ hS a hf
        refine one (i := 2) (by kernel_rfl) ?_
        refine oV hf rfl (v_alloc hs T28 rfl) (by decide) (fun _ _ ⟨_, _, h⟩ => h.sub (.cons _ (.cons _ (.refl _)))) ?_; clear hs hf hS a; rintro _ w ⟨b4, rfl, hs⟩ hS a hf
        refine one (i := 4) (by kernel_rfl) ?_
        refine oU rfl (u_stW hf hs T28 rfl rfl rfl (k := 0) rfl rfl rfl) (fun _ h => h.sub (.cons _ (.cons _ (.refl _)))) ?_; clear hs hS; intro w hs hS; dsimp only [List.set] at hs
        refine one (i := 5) (by kernel_rfl) ?_
        refine oU rfl (u_stW hf hs T28 rfl rfl rfl (k := 1) rfl rfl rfl) (fun _ h => h.sub (.cons _ (.cons _ (.refl _)))) ?_; clear hs hS; intro w hs hS; dsimp only [List.set] at hs
        refine e_doneJ (by kernel_rfl) ?_
        first | exact ⟨_, _, hf.only (.cons rfl (.cons rfl (.cons rfl (.cons rfl (.cons rfl .nil))))), hs⟩ | exact ⟨_, _, hf.only (.cons rfl (.cons rfl (.cons rfl (.cons rfl (.cons rfl .nil))))), hs.perm (.swap _ _ _)⟩
    · clear hs hf a; rintro a w ⟨b5, b6, hf, hs⟩
      have hsp0 := spin_rng n0 (m := 50) (by omega); have hsp1 := spin_rng n1 (m := 20) (by omega)
      have hgr1 := hv.g1; have hgr2 := hv.g2; have hfi1 := hv.f1; have hfi2 := hv.f2
      have hvg : BkV (kGr k (max 1 (k.gross - spin n0 50))) := kGr_v hv (by omega) (by omega)
      have hvf : BkV (kFi k (min 99 (k.fine + spin n1 20))) := kFi_v hv (by omega) (by omega)
      refine c_draw _ 9 Mx rfl hs (fun _ h => h.sub (.cons _ (.refl _))) ?_; intro w hs hS
      refine gA hf hS (i := 0) rfl (by kernel_rfl) (fun w hs => g_fa (off' := 4) hf F28_1 rfl rfl) (by decide) ?_; clear hf a; intro a hf
      refine gA hf hS (i := 1) rfl (by kernel_rfl) (fun w hs => g_ld hf hs T3 rfl (k := 2) rfl rfl) (by decide) ?_; clear hf a; intro a hf
      refine gA hf hS (i := 2) rfl (by kernel_rfl) (fun w hs => g_ixA hf AR56 rfl rfl (by omega)) (by decide) ?_; clear hf a; intro a hf
      refine gA hf hS (i := 3) rfl (by kernel_rfl) (fun w hs => g_ld hf hs T3 rfl (k := 1) rfl rfl) (by decide) ?_; clear hf a; intro a hf
      refine one (i := 4) (by kernel_rfl) ?_
      refine oCall hf hs rfl (c_Spin _ _ (by omega) _) rfl rfl rfl E22 (by decide) (fun _ h => h.sub (.cons _ (.refl _))) ?_; clear hs hf hS a; intro w a hs hS hf
      refine gA hf hS (i := 5) rfl (by kernel_rfl) (fun w hs => g_subI hf rfl rfl (by omega)) (by decide) ?_; clear hf a; intro a hf
      refine gA hf hS (i := 6) rfl (by kernel_rfl) (fun w hs => g_max hf rfl rfl) (by decide) ?_; clear hf a; intro a hf
      refine gA hf hS (i := 7) rfl (by kernel_rfl) (fun w hs => g_fa (off' := 4) hf F28_1 rfl rfl) (by decide) ?_; clear hf a; intro a hf
      refine one (i := 8) (by kernel_rfl) ?_
      refine oU rfl (u_st hf hs T3 rfl rfl rfl (k := 0) rfl (Nat.le_of_ble_eq_true rfl)) (fun _ h => h.sub (.cons _ (.refl _))) ?_; clear hs hS; intro w hs hS; dsimp only [List.set] at hs
      refine e_done (by kernel_rfl) ?_
      refine c_draw _ 9 Mx rfl hs (fun _ h => h.sub (.cons_cons _ (.cons _ (.refl _)))) ?_; intro w hs hS
      refine gA hf hS (i := 0) rfl (by kernel_rfl) (fun w hs => g_fa (off' := 6) hf F28_3 rfl rfl) (by decide) ?_; clear hf a; intro a hf
      refine gA hf hS (i := 1) rfl (by kernel_rfl) (fun w hs => g_ld hf hs T3 rfl (k := 2) rfl rfl) (by decide) ?_; clear hf a; intro a hf
      refine gA hf hS (i := 2) rfl (by kernel_rfl) (fun w hs => g_ixA hf AR56 rfl rfl (by omega)) (by decide) ?_; clear hf a; intro a hf
      refine gA hf hS (i := 3) rfl (by kernel_rfl) (fun w hs => g_ld hf hs T3 rfl (k := 1) rfl rfl) (by decide) ?_; clear hf a; intro a hf
      refine one (i := 4) (by kernel_rfl) ?_
      refine oCall hf hs rfl (c_Spin _ _ (by omega) _) rfl rfl rfl E22 (by decide) (fun _ h => h.sub (.cons_cons _ (.cons _ (.refl _)))) ?_; clear hs hf hS a; intro w a hs hS hf
      refine gA hf hS (i := 5) rfl (by kernel_rfl) (fun w hs => g_addI hf rfl rfl (by omega)) (by decide) ?_; clear hf a; intro a hf
      refine gA hf hS (i := 6) rfl (by kernel_rfl) (fun w hs => g_min hf rfl rfl) (by decide) ?_; clear hf a; intro a hf
      refine gA hf hS (i := 7) rfl (by kernel_rfl) (fun w hs => g_fa (off' := 6) hf F28_3 rfl rfl) (by decide) ?_; clear hf a; intro a hf
      refine one (i := 8) (by kernel_rfl) ?_
      refine oU rfl (u_st hf hs T3 rfl rfl rfl (k := 1) rfl (Nat.le_of_ble_eq_true rfl)) (fun _ h => h.sub (.cons_cons _ (.cons _ (.refl _)))) ?_; clear hs hS; intro w hs hS; dsimp only [List.set] at hs
      refine e_done (by kernel_rfl) ?_
      refine c_reg ?_
      refine gL hf (g_as hf rfl) (by decide) ?_; clear hf a; intro a hf
      refine gL hf (g_as hf rfl) (by decide) ?_; clear hf a; intro a hf
      refine e_nil ?_
      refine wp_seq ?_
      refine c_reg ?_
      refine gL hf (g_as hf rfl) (by decide) ?_; clear hf a; intro a hf
      refine e_nil ?_
      refine c_block ?_
      refine c_loop hf hs (List.range' 4 1 ++ List.range' 7 11 ++ List.range' 42 92) (σ := Nat) (fun i => [(7, .int .i64 (loTo k i)), (8, .bool (wholeTo k i)), (9, .int .i64 (i : Nat))]) (fun i => (b5, .cells #[.int .i64 k.sh.wide, .int .i64 k.sh.high, .slice fA k.sh.flaps.length fc, .slice rA k.sh.rules.length rc, .int .i64 (max 1 (k.gross - spin n0 50)), .int .i64 k.pay, .int .i64 k.fine, .slice wA k.ws.length wc] 28 (0, 0)) :: (b6, .cells #[.int .i64 k.sh.wide, .int .i64 k.sh.high, .slice fA k.sh.flaps.length fc, .slice rA k.sh.rules.length rc, .int .i64 k.gross, .int .i64 k.pay, .int .i64 (min 99 (k.fine + spin n1 20)), .slice wA k.ws.length wc] 28 (0, 0)) :: (b2, .cells #[.int .i64 n0, .int .i64 n1, .int .i64 n2] 56 (0, 0)) :: (b1, .cells #[.int .i64 k.sh.wide, .int .i64 k.sh.high, .slice fA k.sh.flaps.length fc, .slice rA k.sh.rules.length rc, .int .i64 k.gross, .int .i64 k.pay, .int .i64 k.fine, .slice wA k.ws.length wc] 28 (0, 0)) :: []) (fun i => i ≤ k.ws.length) (fun i => k.ws.length - i) 0 (Nat.zero_le _) (.cons rfl (.cons rfl (.cons rfl .nil))) rfl ?_
      intro i a w hJ hf hs
      refine wp_seq ?_
      refine c_reg ?_
      refine gL hf (g_mv hf rfl) (by decide) ?_; clear hf a; intro a hf
      refine gL hf (g_fa (off' := 7) hf F28_4 rfl rfl) (by decide) ?_; clear hf a; intro a hf
      refine gL hf (g_ld hf hs T26 rfl (k := 3) rfl rfl) (by decide) ?_; clear hf a; intro a hf
      refine gL hf (g_len hf SL26 rfl) (by decide) ?_; clear hf a; intro a hf
      refine gL hf (g_lss hf rfl rfl) (by decide) ?_; clear hf a; intro a hf
      refine e_nil ?_
      refine c_cond hf rfl (fun hc2 => ?_) (fun hc2 => ?_)
      · try simp only [decide_eq_true_eq, decide_eq_false_iff_not] at hc2
        have hi : i < k.ws.length := by omega
        refine c_skip (q_thenN ?_)
        refine c_blockS ?_
        refine c_reg ?_
        refine gL hf (g_ldW hf hs T28 rfl (k := 3) rfl rfl) (by decide) ?_; clear hf a; intro a hf
        refine gL hf (g_mv hf rfl) (by decide) ?_; clear hf a; intro a hf
        have h9 := c_PassesH k _ _ _ _ _ _ ge gz ((i : Nat) : Int) _ ⟨⟨hs.rd (.head _), hs.rd (.tail _ (.head _)), h.sh.fc_, h.sh.rc_⟩, hs.rd (.tail _ (.tail _ (.head _))), h.wc_, hs.rd (.tail _ (.tail _ (.tail _ (.head _))))⟩ (hs.rd (.tail _ (.tail _ (.tail _ (.tail _ (.head _)))))) te tz (hs.rd (.tail _ (.tail _ (.tail _ (.tail _ (.tail _ (.head _)))))))
        rw [tk_eq hck hi 0] at h9
        refine callL hf hs (h9) rfl rfl rfl E23 (by decide) ?_; clear hs hf a; intro w a hs hf
        refine gL hf (g_mv hf rfl) (by decide) ?_; clear hf a; intro a hf
        refine gL hf (g_ext hf rfl rfl) (by decide) ?_; clear hf a; intro a hf
        refine gL hf (g_ext hf rfl rfl) (by decide) ?_; clear hf a; intro a hf
        refine vL hf (v_alloc hs T40 rfl) (by decide) ?_; clear hs hf a; rintro _ w ⟨b7, rfl, hs⟩ a hf
        refine uL (u_stW hf hs T40 rfl rfl rfl (k := 0) rfl rfl rfl) ?_; clear hs; intro w hs; dsimp only [List.set] at hs
        refine gL hf (g_as hf rfl) (by decide) ?_; clear hf a; intro a hf
        refine e_nil ?_
        refine c_reg ?_
        refine gL hf (g_ldW hf hs T28 rfl (k := 4) rfl rfl) (by decide) ?_; clear hf a; intro a hf
        refine gL hf (g_mv hf rfl) (by decide) ?_; clear hf a; intro a hf
        have h9 := c_GetsH k _ _ _ _ _ _ ge gz ((i : Nat) : Int) _ ⟨⟨hs.rd (.head _), hs.rd (.tail _ (.head _)), h.sh.fc_, h.sh.rc_⟩, hs.rd (.tail _ (.tail _ (.head _))), h.wc_, hs.rd (.tail _ (.tail _ (.tail _ (.head _))))⟩ (hs.rd (.tail _ (.tail _ (.tail _ (.tail _ (.head _)))))) te tz (hs.rd (.tail _ (.tail _ (.tail _ (.tail _ (.tail _ (.head _)))))))
        rw [tk_eq hck hi 2] at h9
        refine callL hf hs (h9) rfl rfl rfl E38 (by decide) ?_; clear hs hf a; intro w a hs hf
        refine gL hf (g_mv hf rfl) (by decide) ?_; clear hf a; intro a hf
        refine gL hf (g_ext hf rfl rfl) (by decide) ?_; clear hf a; intro a hf
        refine gL hf (g_ext hf rfl rfl) (by decide) ?_; clear hf a; intro a hf
        refine vL hf (v_alloc hs T40 rfl) (by decide) ?_; clear hs hf a; rintro _ w ⟨b8, rfl, hs⟩ a hf
        refine uL (u_stW hf hs T40 rfl rfl rfl (k := 0) rfl rfl rfl) ?_; clear hs; intro w hs; dsimp only [List.set] at hs
        refine gL hf (g_as hf rfl) (by decide) ?_; clear hf a; intro a hf
        refine e_nil ?_
        refine c_reg ?_
        refine gL hf (g_ldW hf hs T28 rfl (k := 2) rfl rfl) (by decide) ?_; clear hf a; intro a hf
        refine gL hf (g_mv hf rfl) (by decide) ?_; clear hf a; intro a hf
        have h9 := c_GetsH (kGr k (max 1 (k.gross - spin n0 50))) fA fc rA rc wA wc ge gz ((i : Nat) : Int) _ (show BkIn (kGr k (max 1 (k.gross - spin n0 50))) fA fc rA rc wA wc _ from ⟨⟨hs.rd (.head _), hs.rd (.tail _ (.head _)), h.sh.fc_, h.sh.rc_⟩, hs.rd (.tail _ (.tail _ (.head _))), h.wc_, hs.rd (.tail _ (.tail _ (.tail _ (.head _))))⟩) (hs.rd (.tail _ (.tail _ (.tail _ (.tail _ (.head _)))))) te tz (hs.rd (.tail _ (.tail _ (.tail _ (.tail _ (.tail _ (.head _)))))))
        rw [tk_eq (hck_iff.2 hvg) hi 2] at h9
        refine callL hf hs (h9) rfl rfl rfl E38 (by decide) ?_; clear hs hf a; intro w a hs hf
        refine gL hf (g_mv hf rfl) (by decide) ?_; clear hf a; intro a hf
        refine gL hf (g_ext hf rfl rfl) (by decide) ?_; clear hf a; intro a hf
        refine gL hf (g_ext hf rfl rfl) (by decide) ?_; clear hf a; intro a hf
        refine vL hf (v_alloc hs T40 rfl) (by decide) ?_; clear hs hf a; rintro _ w ⟨b9, rfl, hs⟩ a hf
        refine uL (u_stW hf hs T40 rfl rfl rfl (k := 0) rfl rfl rfl) ?_; clear hs; intro w hs; dsimp only [List.set] at hs
        refine gL hf (g_as hf rfl) (by decide) ?_; clear hf a; intro a hf
        refine e_nil ?_
        refine c_reg ?_
        refine gL hf (g_ldW hf hs T28 rfl (k := 4) rfl rfl) (by decide) ?_; clear hf a; intro a hf
        refine gL hf (g_mv hf rfl) (by decide) ?_; clear hf a; intro a hf
        have h9 := c_GetsH (kFi k (min 99 (k.fine + spin n1 20))) fA fc rA rc wA wc ge gz ((i : Nat) : Int) _ (show BkIn (kFi k (min 99 (k.fine + spin n1 20))) fA fc rA rc wA wc _ from ⟨⟨hs.rd (.head _), hs.rd (.tail _ (.head _)), h.sh.fc_, h.sh.rc_⟩, hs.rd (.tail _ (.tail _ (.head _))), h.wc_, hs.rd (.tail _ (.tail _ (.tail _ (.head _))))⟩) (hs.rd (.tail _ (.tail _ (.tail _ (.tail _ (.head _)))))) te tz (hs.rd (.tail _ (.tail _ (.tail _ (.tail _ (.tail _ (.head _)))))))
        rw [tk_eq (hck_iff.2 hvf) hi 2] at h9
        refine callL hf hs (h9) rfl rfl rfl E38 (by decide) ?_; clear hs hf a; intro w a hs hf
        refine gL hf (g_mv hf rfl) (by decide) ?_; clear hf a; intro a hf
        refine gL hf (g_ext hf rfl rfl) (by decide) ?_; clear hf a; intro a hf
        refine gL hf (g_ext hf rfl rfl) (by decide) ?_; clear hf a; intro a hf
        refine vL hf (v_alloc hs T40 rfl) (by decide) ?_; clear hs hf a; rintro _ w ⟨b10, rfl, hs⟩ a hf
        refine uL (u_stW hf hs T40 rfl rfl rfl (k := 0) rfl rfl rfl) ?_; clear hs; intro w hs; dsimp only [List.set] at hs
        refine gL hf (g_as hf rfl) (by decide) ?_; clear hf a; intro a hf
        refine e_nil ?_
        refine wp_seq ?_
        refine c_reg ?_
        refine gL hf (g_mv hf rfl) (by decide) ?_; clear hf a; intro a hf
        refine gL hf (g_mv hf rfl) (by decide) ?_; clear hf a; intro a hf
        refine gL hf (g_neq hf rfl rfl) (by decide) ?_; clear hf a; intro a hf
        refine gL hf (g_mv hf rfl) (by decide) ?_; clear hf a; intro a hf
        refine ggL hf rfl rfl (gyes_f _) (fun hg => g_mv hf rfl) (by decide) ?_; clear hf a; intro a hf
        refine ggL hf rfl rfl (gyes_f _) (fun hg => g_mv hf rfl) (by decide) ?_; clear hf a; intro a hf
        refine ggL hf rfl rfl (gyes_f _) (fun hg => g_neq hf (ev_gv rfl hg) (ev_gv rfl hg)) (by decide) ?_; clear hf a; intro a hf
        refine gL hf (g_or hf rfl rfl) (by decide) ?_; clear hf a; intro a hf
        refine gL hf (g_mv hf rfl) (by decide) ?_; clear hf a; intro a hf
        refine ggL hf rfl rfl (gyes_f _) (fun hg => g_mv hf rfl) (by decide) ?_; clear hf a; intro a hf
        refine ggL hf rfl rfl (gyes_f _) (fun hg => g_mv hf rfl) (by decide) ?_; clear hf a; intro a hf
        refine ggL hf rfl rfl (gyes_f _) (fun hg => g_neq hf (ev_gv rfl hg) (ev_gv rfl hg)) (by decide) ?_; clear hf a; intro a hf
        refine gL hf (g_or hf rfl rfl) (by decide) ?_; clear hf a; intro a hf
        refine gL hf (g_mv hf rfl) (by decide) ?_; clear hf a; intro a hf
        refine ggL hf rfl rfl (gyes_f _) (fun hg => g_mv hf rfl) (by decide) ?_; clear hf a; intro a hf
        refine ggL hf rfl rfl (gyes_f _) (fun hg => g_neq hf (ev_gv rfl hg) rfl) (by decide) ?_; clear hf a; intro a hf
        refine ggL hf rfl rfl (gyes_f _) (fun hg => g_mv hf (ev_gv rfl hg)) (by decide) ?_; clear hf a; intro a hf
        refine ggL hf rfl rfl (gyes_gt _ _) (fun hg => g_mv hf rfl) (by decide) ?_; clear hf a; intro a hf
        refine ggL hf rfl rfl (gyes_gt _ _) (fun hg => g_neq hf (ev_gv rfl hg) rfl) (by decide) ?_; clear hf a; intro a hf
        refine ggL hf rfl rfl (gyes_f _) (fun hg => g_and hf (ev_gv rfl hg) (ev_gvand rfl hg)) (by decide) ?_; clear hf a; intro a hf
        refine gL hf (g_or hf rfl rfl) (by decide) ?_; clear hf a; intro a hf
        refine e_nil ?_
        refine c_cond hf rfl (fun hc3 => ?_) (fun hc3 => ?_)
        · skip
          exfalso; revert hc3; simp only [tk_err]; by_cases hrt : rightB (k.ws.getD i default) = true <;> simp only [hrt, if_true, if_false] <;> decide
        · skip
          refine c_skip (q_thenN ?_)
          refine wp_seq ?_
          refine c_reg ?_
          refine gL hf (g_mv hf rfl) (by decide) ?_; clear hf a; intro a hf
          refine gL hf (g_neq hf rfl rfl) (by decide) ?_; clear hf a; intro a hf
          refine e_nil ?_
          refine c_cond hf rfl (fun hc4 => ?_) (fun hc4 => ?_)
          · skip
            have hrt : rightB (k.ws.getD i default) = false := by cases h9 : rightB (k.ws.getD i default) with | false => rfl | true => rw [tk_yes h9] at hc4; simp at hc4
            have hlo : loTo k (i + 1) = loTo k i := by show loTo k i + (if rightB (k.ws.getD i default) = true then _ else _) = _; rw [if_neg (by rw [hrt]; decide)]; omega
            have hwt : wholeTo k (i + 1) = false := by rw [whole_succ hi, hrt, Bool.and_false]
            refine c_reg ?_
            refine gL hf (g_as hf rfl) (by decide) ?_; clear hf a; intro a hf
            refine e_nil ?_
            refine c_exit (q_thenX (q_blkX (q_thenN ?_)))
            refine c_reg1 ?_
            refine gL hf (g_mv hf rfl) (by decide) ?_; clear hf a; intro a hf
            refine gL hf (g_addI hf rfl rfl (by omega)) (by decide) ?_; clear hf a; intro a hf
            refine gL hf (g_as hf rfl) (by decide) ?_; clear hf a; intro a hf
            refine e_nil1 (q_thenN ?_)
            exact ⟨i + 1, (by omega), (by omega), hf.back (by repeat (first | (with_reducible exact Ext.base) | ((with_reducible refine Ext.cons ?_ ?_); (· rfl)) | ((with_reducible refine Ext.over ?_ ?_ ?_); (· rfl); (· rfl)))) (allKeys rfl) (.cons (by rw [hlo]; rfl) (.cons (by rw [hwt]; rfl) (.cons rfl .nil))), hs.dropN 4⟩
          · skip
            have hrt : rightB (k.ws.getD i default) = true := by cases h9 : rightB (k.ws.getD i default) with | true => rfl | false => rw [tk_no h9] at hc4; simp at hc4
            have hwt : wholeTo k (i + 1) = wholeTo k i := by rw [whole_succ hi, hrt, Bool.and_true]
            have hgl := gross_less hv (hv.wk hi) (g := (max 1 (k.gross - spin n0 50))) (by omega) (by omega)
            have hfm := fine_more hv (hv.wk hi) (f := (min 99 (k.fine + spin n1 20))) (by omega)
            have hp0 := (ofZ_rng (what := 0) hv (hv.wk hi) (by decide)).2.2.2 (by decide)
            have hlo : loTo k (i + 1) = loTo k i + (tk k (k.ws.getD i default) 0).1.1.tdiv k.gross := by rw [tk_yes hrt]; show loTo k i + (if rightB (k.ws.getD i default) = true then _ else _) = _; rw [if_pos hrt]
            refine c_skip (q_thenN ?_)
            refine wp_seq ?_
            refine c_reg ?_
            refine gL hf (g_fa (off' := 0) hf F40_0 rfl rfl) (by decide) ?_; clear hf a; intro a hf
            refine gL hf (g_ld hf hs T3 rfl (k := 1) rfl rfl) (by decide) ?_; clear hf a; intro a hf
            refine gL hf (g_fa (off' := 0) hf F40_0 rfl rfl) (by decide) ?_; clear hf a; intro a hf
            refine gL hf (g_ld hf hs T3 rfl (k := 2) rfl rfl) (by decide) ?_; clear hf a; intro a hf
            refine gL hf (g_lss hf rfl rfl) (by decide) ?_; clear hf a; intro a hf
            refine gL hf (g_mv hf rfl) (by decide) ?_; clear hf a; intro a hf
            refine ggL hf rfl rfl (gyes_f _) (fun hg => g_fa (off' := 1) hf F40_1 rfl rfl) (by decide) ?_; clear hf a; intro a hf
            refine ggL hf rfl rfl (gyes_f _) (fun hg => g_ld hf hs T3 (ev_gv rfl hg) (k := 1) rfl rfl) (by decide) ?_; clear hf a; intro a hf
            refine ggL hf rfl rfl (gyes_f _) (fun hg => g_fa (off' := 1) hf F40_1 rfl rfl) (by decide) ?_; clear hf a; intro a hf
            refine ggL hf rfl rfl (gyes_f _) (fun hg => g_ld hf hs T3 (ev_gv rfl hg) (k := 2) rfl rfl) (by decide) ?_; clear hf a; intro a hf
            refine ggL hf rfl rfl (gyes_f _) (fun hg => g_lss hf (ev_gv rfl hg) (ev_gv rfl hg)) (by decide) ?_; clear hf a; intro a hf
            refine gL hf (g_or hf rfl rfl) (by decide) ?_; clear hf a; intro a hf
            refine gL hf (g_mv hf rfl) (by decide) ?_; clear hf a; intro a hf
            refine ggL hf rfl rfl (gyes_f _) (fun hg => g_fa (off' := 0) hf F40_0 rfl rfl) (by decide) ?_; clear hf a; intro a hf
            refine ggL hf rfl rfl (gyes_f _) (fun hg => g_ld hf hs T3 (ev_gv rfl hg) (k := 0) rfl rfl) (by decide) ?_; clear hf a; intro a hf
            refine ggL hf rfl rfl (gyes_f _) (fun hg => g_fa (off' := 0) hf F40_0 rfl rfl) (by decide) ?_; clear hf a; intro a hf
            refine ggL hf rfl rfl (gyes_f _) (fun hg => g_ld hf hs T3 (ev_gv rfl hg) (k := 2) rfl rfl) (by decide) ?_; clear hf a; intro a hf
            refine ggL hf rfl rfl (gyes_f _) (fun hg => g_gtr hf (ev_gv rfl hg) (ev_gv rfl hg)) (by decide) ?_; clear hf a; intro a hf
            refine gL hf (g_or hf rfl rfl) (by decide) ?_; clear hf a; intro a hf
            refine gL hf (g_mv hf rfl) (by decide) ?_; clear hf a; intro a hf
            refine ggL hf rfl rfl (gyes_f _) (fun hg => g_fa (off' := 1) hf F40_1 rfl rfl) (by decide) ?_; clear hf a; intro a hf
            refine ggL hf rfl rfl (gyes_f _) (fun hg => g_ld hf hs T3 (ev_gv rfl hg) (k := 0) rfl rfl) (by decide) ?_; clear hf a; intro a hf
            refine ggL hf rfl rfl (gyes_f _) (fun hg => g_fa (off' := 1) hf F40_1 rfl rfl) (by decide) ?_; clear hf a; intro a hf
            refine ggL hf rfl rfl (gyes_f _) (fun hg => g_ld hf hs T3 (ev_gv rfl hg) (k := 2) rfl rfl) (by decide) ?_; clear hf a; intro a hf
            refine ggL hf rfl rfl (gyes_f _) (fun hg => g_gtr hf (ev_gv rfl hg) (ev_gv rfl hg)) (by decide) ?_; clear hf a; intro a hf
            refine gL hf (g_or hf rfl rfl) (by decide) ?_; clear hf a; intro a hf
            refine gL hf (g_mv hf rfl) (by decide) ?_; clear hf a; intro a hf
            refine ggL hf rfl rfl (gyes_f _) (fun hg => g_fa (off' := 0) hf F40_0 rfl rfl) (by decide) ?_; clear hf a; intro a hf
            refine ggL hf rfl rfl (gyes_f _) (fun hg => g_ld hf hs T3 (ev_gv rfl hg) (k := 3) rfl rfl) (by decide) ?_; clear hf a; intro a hf
            refine ggL hf rfl rfl (gyes_f _) (fun hg => g_lss hf (ev_gv rfl hg) rfl) (by decide) ?_; clear hf a; intro a hf
            refine gL hf (g_or hf rfl rfl) (by decide) ?_; clear hf a; intro a hf
            refine e_nil ?_
            refine c_cond hf rfl (fun hc5 => ?_) (fun hc5 => ?_)
            · skip
              exfalso; rw [tk_yes hrt, tk_yes hrt, tk_yes hrt, tk_yes hrt] at hc5; simp only [Bool.or_eq_true, decide_eq_true_eq] at hc5; omega
            · skip
              refine c_skip (q_thenN ?_)
              have hz0 := ofZ_rng (what := 0) hv (hv.wk hi) (by decide)
              have hzq := tdiv_rng hv.g1 (hz0.2.2.2 (by decide))
              have hlr := lo_rng hv i (by omega)
              have htk : (tk k (k.ws.getD i default) 0).1.1 = (ofZ k 0 (k.ws.getD i default)).1 := by rw [tk_yes hrt]
              refine c_reg1 ?_
              refine gL hf (g_mv hf rfl) (by decide) ?_; clear hf a; intro a hf
              refine gL hf (g_fa (off' := 0) hf F40_0 rfl rfl) (by decide) ?_; clear hf a; intro a hf
              refine gL hf (g_ld hf hs T3 rfl (k := 3) rfl rfl) (by decide) ?_; clear hf a; intro a hf
              refine gL hf (g_fa (off' := 4) hf F28_1 rfl rfl) (by decide) ?_; clear hf a; intro a hf
              refine gL hf (g_ld hf hs T3 rfl (k := 7) rfl rfl) (by decide) ?_; clear hf a; intro a hf
              refine gL hf (g_quoI hf rfl rfl (by rw [htk]; omega)) (by decide) ?_; clear hf a; intro a hf
              refine gL hf (g_addI hf rfl rfl (by rw [htk]; omega)) (by decide) ?_; clear hf a; intro a hf
              refine gL hf (g_as hf rfl) (by decide) ?_; clear hf a; intro a hf
              refine e_nil1 (q_blkN (q_thenN ?_))
              refine c_reg1 ?_
              refine gL hf (g_mv hf rfl) (by decide) ?_; clear hf a; intro a hf
              refine gL hf (g_addI hf rfl rfl (by omega)) (by decide) ?_; clear hf a; intro a hf
              refine gL hf (g_as hf rfl) (by decide) ?_; clear hf a; intro a hf
              refine e_nil1 (q_thenN ?_)
              exact ⟨i + 1, (by omega), (by omega), hf.back (by repeat (first | (with_reducible exact Ext.base) | ((with_reducible refine Ext.cons ?_ ?_); (· rfl)) | ((with_reducible refine Ext.over ?_ ?_ ?_); (· rfl); (· rfl)))) (allKeys rfl) (.cons (by rw [hlo]; rfl) (.cons (by rw [hwt]; rfl) (.cons rfl .nil))), hs.dropN 4⟩
      · try simp only [decide_eq_true_eq, decide_eq_false_iff_not] at hc2
        have hie : i = k.ws.length := by omega
        subst hie
        refine c_exit (q_thenX (q_thenX (q_blkX (q_thenN ?_))))
        refine c_reg ?_
        refine gL hf (g_ldW hf hs T28 rfl (k := 3) rfl rfl) (by decide) ?_; clear hf a; intro a hf
        refine callL hf hs (c_GrossesH k _ _ _ _ _ _ ge gz  _ ⟨⟨hs.rd (.head _), hs.rd (.tail _ (.head _)), h.sh.fc_, h.sh.rc_⟩, hs.rd (.tail _ (.tail _ (.head _))), h.wc_, hs.rd (.tail _ (.tail _ (.tail _ (.head _))))⟩ (hs.rd (.tail _ (.tail _ (.tail _ (.tail _ (.head _)))))) te tz (hs.rd (.tail _ (.tail _ (.tail _ (.tail _ (.tail _ (.head _)))))))) rfl rfl rfl E25 (by decide) ?_; clear hs hf a; intro w a hs hf
        refine gL hf (g_mv hf rfl) (by decide) ?_; clear hf a; intro a hf
        refine gL hf (g_ext hf rfl rfl) (by decide) ?_; clear hf a; intro a hf
        refine gL hf (g_ext hf rfl rfl) (by decide) ?_; clear hf a; intro a hf
        refine vL hf (v_alloc hs T40 rfl) (by decide) ?_; clear hs hf a; rintro _ w ⟨b7, rfl, hs⟩ a hf
        refine uL (u_stW hf hs T40 rfl rfl rfl (k := 0) rfl rfl rfl) ?_; clear hs; intro w hs; dsimp only [List.set] at hs
        refine gL hf (g_as hf rfl) (by decide) ?_; clear hf a; intro a hf
        refine e_nil ?_
        refine c_reg ?_
        refine gL hf (g_mv hf rfl) (by decide) ?_; clear hf a; intro a hf
        refine gL hf (g_eql hf rfl rfl) (by decide) ?_; clear hf a; intro a hf
        refine gL hf (g_mv hf rfl) (by decide) ?_; clear hf a; intro a hf
        refine gL hf (g_eqlB hf B4 rfl rfl) (by decide) ?_; clear hf a; intro a hf
        refine gL hf (g_mv hf rfl) (by decide) ?_; clear hf a; intro a hf
        refine ggL hf rfl rfl (gyes_t _) (fun hg => g_mv hf rfl) (by decide) ?_; clear hf a; intro a hf
        refine ggL hf rfl rfl (gyes_t _) (fun hg => g_not hf (ev_gv rfl hg)) (by decide) ?_; clear hf a; intro a hf
        refine ggL hf rfl rfl (gyes_t _) (fun hg => g_mv hf (ev_gv rfl hg)) (by decide) ?_; clear hf a; intro a hf
        refine ggL hf rfl rfl (gyes_gf _ _) (fun hg => g_fa (off' := 0) hf F40_0 rfl rfl) (by decide) ?_; clear hf a; intro a hf
        refine ggL hf rfl rfl (gyes_gf _ _) (fun hg => g_ld hf hs T3 (ev_gv rfl hg) (k := 0) rfl rfl) (by decide) ?_; clear hf a; intro a hf
        refine ggL hf rfl rfl (gyes_gf _ _) (fun hg => g_mv hf rfl) (by decide) ?_; clear hf a; intro a hf
        refine ggL hf rfl rfl (gyes_gf _ _) (fun hg => g_geq hf (ev_gv rfl hg) (ev_gv rfl hg)) (by decide) ?_; clear hf a; intro a hf
        refine ggL hf rfl rfl (gyes_t _) (fun hg => g_or hf (ev_gv rfl hg) (ev_gvand rfl hg)) (by decide) ?_; clear hf a; intro a hf
        refine gL hf (g_and hf rfl rfl) (by decide) ?_; clear hf a; intro a hf
        refine gL hf (g_mv hf rfl) (by decide) ?_; clear hf a; intro a hf
        refine callG hf hs rfl rfl (gyes_t _) (fun hg => ⟨_, _, _, _, c_paid ge gz te tz _ (hs.rd (.tail _ (.tail _ (.tail _ (.tail _ (.head _)))))) (hs.rd (.tail _ (.tail _ (.tail _ (.tail _ (.tail _ (.head _))))))), rfl, evs_nil, rfl⟩) E40 (by decide) ?_; clear hs hf a; intro w a hs hf
        refine gL hf (g_and hf rfl rfl) (by decide) ?_; clear hf a; intro a hf
        refine gL hf (g_as hf rfl) (by decide) ?_; clear hf a; intro a hf
        refine e_nil ?_
        refine c_ret ?_
        refine e_ret1 hf rfl rfl ?_
        refine ⟨?_, hs.below⟩
        have h5 := gross_err hck
        by_cases h6 : wrongL k = []
        · have h7 := gross_lo hck h6; have h8 := whole_all.2 h6
          rw [h5, if_pos h6, h8, decide_eq_true h7]; rfl
        · have h8 : wholeTo k k.ws.length = false := by cases h9 : wholeTo k k.ws.length with | false => rfl | true => exact absurd (whole_all.1 h9) h6
          rw [h5, if_neg h6, h8]; rfl

end Go.Proofs.YtjjcopeedcdokaaDoor

set_option linter.unusedVariables false
namespace Go.Proofs.YtjjcopeedcdokaaDoor
open Go.ChangeShapes Go.WideShapes Go.ChangeAt Go.RowKit
set_option maxRecDepth 100000 in
theorem lifted11 (os : Os) (started : os.Started) (H : Type) (enc : TypeId × Value → H) :
    ReturnsInHanded {} Tryd.checked os 11 .any (fun w args => (Rows.homeGrossSpec.pre enc Tryd.prog Tryd.f11 [] false w args ∧ laidMetH Tryd.prog laid1 w) ∧ sizedMet enc Tryd.prog Tryd.f11 (OpenSpec.ofChange Rows.homeGrossSpec) false w args)
      (Rows.homeGrossSpec.post enc Tryd.prog Tryd.f11 false true false false) := by
  refine returnsInHanded_of_change_and (C := Tryd.checked) (X := fun w _ => laidMetH Tryd.prog laid1 w) (fun _ _ _ hh h => h.of_heap hh) pOwn started (by kernel_rfl) Tryd.func11
    (ChangeSpec.witness_shaped (enc := enc) (C := Tryd.checked) (os := os) (X := fun w _ => laidMetH Tryd.prog laid1 w) false (World.doorLaid Tryd.prog 600 os) #[.agg #[.int .i64 0, .int .i64 0, .slice none 0 0, .slice none 0 0, .int .i64 0, .int .i64 0, .int .i64 0, .slice none 0 0], .agg #[.int .i64 0, .int .i64 0, .int .i64 0]] 8 rfl (World.shaped_of_RefB (by kernel_rfl) (by kernel_rfl)) (by kernel_rfl) (by kernel_rfl) (by kernel_rfl) (door_met os _)) ?_
  intro W base args ds gs before hval0 hW _ _ hL _
  have hval : ∀ (j : Nat) t v, Tryd.f11.params[j]? = some t → args[j]? = some v → Value.okWide Tryd.prog W .any base t v := hval0
  have hW' := hW
  obtain ⟨p, q, hA0, hV, rfl, hfz, hnd⟩ := hW
  have hA : DataW.TrodAll enc Tryd.prog W 0 (fun _ => true) true Tryd.f11.params.toList args.toList ds p := hA0
  have hA9 := hA
  rw [Tryd.params11] at hA hval
  obtain ⟨v0, v1, d0, d1, p0, p1, rfl, rfl, rfl, h0, h1⟩ := trodAll_two hA
  obtain ⟨rfl, rfl⟩ := trodVars_none hV
  obtain ⟨k, fA, fc, rA, rc, wA, wc, rfl, hbk⟩ := open_book (hval 0 28 v0 rfl rfl) h0
  obtain ⟨n0, n1, n2, rfl⟩ := open_three (hval 1 56 v1 rfl rfl) h1
  obtain ⟨ge, gz, hG⟩ := of_laid hL
  obtain ⟨te, tz, hT⟩ := of_told hL
  refine (c_HomeGross k fA fc rA rc wA wc ge gz n0 n1 n2 W hbk hG te tz hT).mono fun e W' ⟨he, hb⟩ => ?_
  subst he
  exact ⟨_, rfl, law_post rfl rfl rfl (by kernel_rfl) hW' rfl hA9 hb⟩
theorem row11 : Rows.HomeGrossSaid :=
  OpenClaim.holds_of_wide 11 Tryd.f11 rfl rfl rfl rfl rfl rfl rfl ⟨rfl, rfl, rfl, rfl, rfl⟩ rfl rfl rfl rfl rfl (by kernel_rfl) Tryd.func11 (by kernel_rfl)
    (of_decide_eq_true (by kernel_rfl)) (by unfold Func.isWrapper; first | (rw [if_pos (by decide +kernel)]; kernel_rfl) | (rw [if_neg (by decide +kernel)]; exact ⟨rfl, rfl⟩))
    (fun os started H enc _ => lifted11 os started H enc)
/-- The card. -/
theorem homeGross_holds : Rows.HomeGrossCardSaid :=
  Claim7.holds_tied_plain_at .later [] [.funcs, .funcs] true (true, "812014c6ba21101d15e02d82012ffa61e4b3f2f84e9c736658d12c12a3cb442a") false
    row11 (fun _ h => by cases h) (by kernel_rfl) (fun _ h => by cases h) homeGross_row_tie rfl ⟨rfl, rfl⟩ (by kernel_rfl) rfl
    (fun f fn hf hfn => by
      obtain rfl : f = 11 := Option.some.inj ((show Tryd.prog.funcNamed "lucifer/luciferlaw09.HomeGross" = some 11 by kernel_rfl).symm.trans hf) |>.symm
      obtain rfl : fn = Tryd.f11 := (Option.some.inj (Tryd.func11.symm.trans hfn)).symm
      exact ⟨by kernel_rfl, fun j t ht => by
        rw [Tryd.params11] at ht
        have hm : t ∈ [28, 56] := by simpa using Array.mem_of_getElem? ht
        have hall : ([28, 56].all fun u => !Tryd.prog.wantsStandIn u) = true := by kernel_rfl
        exact (show Tryd.prog.wantsStandIn t = false by simpa using List.all_eq_true.1 hall t hm)⟩)
    (by kernel_rfl)
#print axioms homeGross_holds
end Go.Proofs.YtjjcopeedcdokaaDoor

