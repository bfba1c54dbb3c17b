/- For every book and five numbers the law HomeKnows returns true, and its arguments read afterwards as before: if more is known of what came back of a worker nothing else can have passed, be missing, or be paid. Conditions: the tables of the sides and of what is told hold what the text of the program lays. -/
import Derived.Test.YtjjcopeedcdokaaDoorComF
import Derived.Test.YtjjcopeedcdokaaDoorTie
import Derived.Test.YtjjcopeedcdokaaDoorCards
set_option linter.unusedVariables false
set_option linter.unusedSimpArgs false
namespace Go.Proofs.YtjjcopeedcdokaaDoor
open Go.RowKit
theorem togE_ok {k : Bk} (hb : hckB k = true) : togE k = if wrongL k = [] then 0 else 92 := by unfold togE; rw [if_pos hb]
end Go.Proofs.YtjjcopeedcdokaaDoor

set_option linter.unusedVariables false
set_option linter.unusedSimpArgs false
namespace Go.Proofs.YtjjcopeedcdokaaDoor
open Go.RowKit
end Go.Proofs.YtjjcopeedcdokaaDoor

set_option linter.unusedVariables false
set_option linter.unusedSimpArgs false
namespace Go.Proofs.YtjjcopeedcdokaaDoor
open Go.RowKit
section
variable {P : Program} {ds : List Deferred} {a : Act} {n : Nat} {L : Regs} {w : World} {t : TypeId}
theorem g_nil (hf : Fr ds a n L) {x : Operand} {ad : Addr} (hx : ev L x = some (.pointer (some ad))) : Gets P (.nilCheck x) t a w (.pointer (some ad)) := by
  intro d p af g
  simp [execOp, hf.eval hx]
end
/-- Of a worker more is known. -/
def kn1 (x : Wkr) (n1 : Int) : Wkr := { x with bl := drawnZ x.bl x.bh n1 }
def kn2 (x : Wkr) (n1 n2 : Int) : Wkr := { kn1 x n1 with bh := drawnZ (drawnZ x.bl x.bh n1) x.bh n2 }
def kn3 (x : Wkr) (n1 n2 n3 : Int) : Wkr := { kn2 x n1 n2 with tl := drawnZ x.tl x.th n3 }
def kn4 (x : Wkr) (n1 n2 n3 n4 : Int) : Wkr := { kn3 x n1 n2 n3 with th := drawnZ (drawnZ x.tl x.th n3) x.th n4 }
theorem kn_rng {b : Sheet} {x : Wkr} (hx : WkrV b x) (n1 n2 n3 n4 : Int) : (x.bl ≤ drawnZ x.bl x.bh n1 ∧ drawnZ x.bl x.bh n1 ≤ x.bh) ∧ (drawnZ x.bl x.bh n1 ≤ drawnZ (drawnZ x.bl x.bh n1) x.bh n2 ∧ drawnZ (drawnZ x.bl x.bh n1) x.bh n2 ≤ x.bh) ∧ (x.tl ≤ drawnZ x.tl x.th n3 ∧ drawnZ x.tl x.th n3 ≤ x.th) ∧ drawnZ x.tl x.th n3 ≤ drawnZ (drawnZ x.tl x.th n3) x.th n4 ∧ drawnZ (drawnZ x.tl x.th n3) x.th n4 ≤ x.th := by
  have h1 := drawn_rng n1 hx.b1; have h3 := drawn_rng n3 hx.t1
  exact ⟨h1, drawn_rng n2 h1.2, h3, drawn_rng n4 h3.2⟩
theorem kn_v {b : Sheet} {x : Wkr} (hx : WkrV b x) (n1 n2 n3 n4 : Int) : WkrV b (kn4 x n1 n2 n3 n4) := by
  obtain ⟨h1, h2, h3, h4⟩ := kn_rng hx n1 n2 n3 n4
  have a1 := hx.b0; have a2 := hx.b2; have a3 := hx.b3; have a4 := hx.t0; have a5 := hx.t2; have a6 := hx.t3
  refine ⟨hx.ord, hx.s0, hx.s1, ?_, ?_, ?_, ?_, ?_, ?_, ?_, ?_⟩ <;> simp only [kn4, kn3, kn2, kn1] <;> omega
theorem kn_sub {b : Sheet} {x : Wkr} (hx : WkrV b x) (n1 n2 n3 n4 : Int) : ∀ c ∈ trues (kn4 x n1 n2 n3 n4), c ∈ trues x := fun c hc => by
  obtain ⟨h1, h2, h3, h4⟩ := kn_rng hx n1 n2 n3 n4
  have h := mem_trues.1 (show (c.1, c.2) ∈ _ from hc)
  simp only [kn4, kn3, kn2, kn1] at h
  exact mem_trues.2 (by omega)
theorem kn_right {b : Sheet} {x : Wkr} (hx : WkrV b x) {n1 n2 n3 n4 : Int} (h : rightB (kn4 x n1 n2 n3 n4) = true) : rightB x = true := by
  have h2 := (rightB_iff (kn_v hx n1 n2 n3 n4)).1 h
  obtain ⟨h3, h4, h5, h6⟩ := kn_rng hx n1 n2 n3 n4
  simp only [kn4, kn3, kn2, kn1] at h2
  exact (rightB_iff hx).2 (by omega)
def knW (k : Bk) (i : Nat) (y : Wkr) : Bk := { k with ws := k.ws.set i y }
theorem knW_len (k : Bk) (i : Nat) (y : Wkr) : (knW k i y).ws.length = k.ws.length := by simp [knW]
theorem knW_get {k : Bk} {i : Nat} (hi : i < k.ws.length) (y : Wkr) : (knW k i y).ws.getD i default = y := by
  unfold knW
  rw [List.getD_eq_getElem?_getD, List.getElem?_set_self hi]; rfl
theorem knW_ne {k : Bk} {i j : Nat} (h : i ≠ j) (y : Wkr) : (knW k i y).ws.getD j default = k.ws.getD j default := by
  unfold knW
  rw [List.getD_eq_getElem?_getD, List.getElem?_set_ne h, ← List.getD_eq_getElem?_getD]
theorem knW_v {k : Bk} (hv : BkV k) (i : Nat) {y : Wkr} (hy : WkrV k.sh y) : BkV (knW k i y) :=
  ⟨hv.ck, hv.g1, hv.g2, hv.p1, hv.p2, hv.f1, hv.f2, by rw [knW_len]; exact hv.n, fun x hx => by
    rcases List.mem_or_eq_of_mem_set hx with h | h
    · exact hv.w x h
    · rw [h]; exact hy⟩
theorem kn_wraps {k : Bk} {x : Wkr} (hx : WkrV k.sh x) {n1 n2 n3 n4 : Int} (h : rightB (kn4 x n1 n2 n3 n4) = true) (what : Nat) : (ofZ k what x).1 ≤ (ofZ k what (kn4 x n1 n2 n3 n4)).1 ∧ (ofZ k what (kn4 x n1 n2 n3 n4)).2 ≤ (ofZ k what x).2 := by
  obtain ⟨s, h1, h2⟩ := right_some (k := k) what (kn_right hx h)
  obtain ⟨t, h3, h4⟩ := right_some (k := k) what h
  unfold ofZ
  rw [h1, h3]
  exact ends_sub (f := hspan k x what) h2 h4 (kn_sub hx n1 n2 n3 n4)
/-- What is told of the same worker in the other book. -/
theorem tk_kn {k : Bk} (hv : BkV k) {i : Nat} (hi : i < k.ws.length) {y : Wkr} (hy : WkrV k.sh y) (what : Nat) : tellP (knW k i y) ((i : Nat) : Int) what = tk k y what := by
  rw [tk_eq (hck_iff.2 (knW_v hv i hy)) (by rw [knW_len]; exact hi), knW_get hi]; rfl
theorem right_kn {k : Bk} (hv : BkV k) {i : Nat} (hi : i < k.ws.length) {y : Wkr} (hy : WkrV k.sh y) : rightP (knW k i y) ((i : Nat) : Int) = (rightB y, 0) := by
  rw [right_ok (hck_iff.2 (knW_v hv i hy)) (by rw [knW_len]; exact hi), knW_get hi]
theorem allP_set {k : Bk} {what : Nat} : ∀ (l : List Wkr) (i : Nat) (y : Wkr), i < l.length → (ofZ k what (l.getD i default)).1 ≤ (ofZ k what y).1 → (ofZ k what y).2 ≤ (ofZ k what (l.getD i default)).2 → (allP k what l).1 ≤ (allP k what (l.set i y)).1 ∧ (allP k what (l.set i y)).2 ≤ (allP k what l).2
  | [], i, y, h, _, _ => absurd h (by simp)
  | x :: l, 0, y, _, h1, h2 => by
    simp only [List.set_cons_zero, allP]
    have e : (x :: l).getD 0 default = x := rfl
    rw [e] at h1 h2
    omega
  | x :: l, i + 1, y, h, h1, h2 => by
    have := allP_set l i y (by simpa using h) h1 h2
    simp only [List.set_cons_succ, allP]
    omega
theorem wrong_kn {k : Bk} {i : Nat} {y : Wkr} (hi : i < k.ws.length) (h1 : rightB (k.ws.getD i default) = true) (h2 : rightB y = true) : wrongL (knW k i y) = wrongL k := by
  unfold wrongL wrongTo
  rw [knW_len]
  congr 1
  refine List.filter_congr fun w hw => ?_
  by_cases e : i = w
  · subst e; rw [knW_get hi, h1, h2]
  · rw [knW_ne e]
theorem allP_knW (k : Bk) (i : Nat) (y : Wkr) (what : Nat) : ∀ l : List Wkr, allP (knW k i y) what l = allP k what l
  | [] => rfl
  | x :: l => by simp only [allP, allP_knW k i y what l]; rfl
theorem total_kn {k : Bk} (hv : BkV k) {i : Nat} {y : Wkr} (hi : i < k.ws.length) (hy : WkrV k.sh y) (h1 : rightB (k.ws.getD i default) = true) (h2 : rightB y = true) (h3 : (ofZ k 2 (k.ws.getD i default)).1 ≤ (ofZ k 2 y).1 ∧ (ofZ k 2 y).2 ≤ (ofZ k 2 (k.ws.getD i default)).2) :
    (totalP (knW k i y)).2 = (totalP k).2 ∧ ((totalP k).2 = 0 → (totalP k).1.1 ≤ (totalP (knW k i y)).1.1 ∧ (totalP (knW k i y)).1.2 ≤ (totalP k).1.2) := by
  have hb := hck_iff.2 hv; have hb2 := hck_iff.2 (knW_v hv i hy)
  have e1 := togE_ok hb
  have e2 : togE (knW k i y) = if wrongL k = [] then 0 else 92 := by rw [togE_ok hb2, wrong_kn hi h1 h2]
  unfold totalP
  by_cases h : wrongL k = []
  · simp only [e1, e2, h, if_true, true_implies, true_and]
    rw [allP_knW]; exact allP_set k.ws i y hi h3.1 h3.2
  · simp [e1, e2, h]
theorem ordD_kn {k : Bk} {X : List Nat} {w : World} {i : Nat} {y : Wkr} (hi : i < k.ws.length) (h : Stable X w (OrdD k.ws)) (h1 : y.order = (k.ws.getD i default).order) (h2 : y.oA = (k.ws.getD i default).oA) (h3 : y.oc = (k.ws.getD i default).oc) : Stable X w (OrdD (knW k i y).ws) := fun w' hl x hx => by
  rcases List.mem_or_eq_of_mem_set hx with h4 | h4
  · exact h w' hl x h4
  · rw [h4, h1, h2, h3]; exact h w' hl _ (getD_mem hi)
/-- Another cell of the same worker. -/
theorem accW_kn {l : List Wkr} {y y' : Wkr} {i r q : Nat} {v : Value} {bc : Nat} {cs : Array Value} (hi : i < l.length) (hr : r < 6) (hq : q = i * 6 + r) (he : encW y' = (encW y).set r v) (h : AccOK encW 6 (l.set i y) (some (bc, cs))) :
    q < cs.size ∧ AccOK encW 6 (l.set i y') (some (bc, cs.setIfInBounds q v)) := by
  have hg : (l.set i y).getD i default = y := by rw [List.getD_eq_getElem?_getD, List.getElem?_set_self hi]; rfl
  have := accW_set (l := l.set i y) (x' := y') (i := i) (r := r) (q := q) (v := v) (bc := bc) (cs := cs) (by rw [List.length_set]; exact hi) hr hq (by rw [hg]; exact he) h
  rwa [List.set_set] at this
theorem accW_cells {l : List Wkr} {y : Wkr} {i r : Nat} {u v : Value} {bc : Nat} {cs : Array Value} (hi : i < l.length) (hr : r + 1 < 6) (h : AccOK encW 6 (l.set i y) (some (bc, cs))) (h1 : (encW y)[r]? = some u) (h2 : (encW y)[r + 1]? = some v) (q : Nat) (hq : q = i * 6 + r) : ∀ j z, [u, v][j]? = some z → cs[q + j]? = some z := by
  obtain ⟨cap, g1, g2, g3, g4⟩ := h
  rw [List.length_set] at g2 g4
  have hcell : ∀ s, s < 6 → cs.toList[i * 6 + s]? = (encW y)[s]? := fun s hs => by
    have h5 := flat_get (enc := encW) (sz := 6) (fun _ => rfl) (l.set i y) i s hs
    rw [← g4, List.getElem?_take, if_pos (by omega), List.getElem?_set_self hi] at h5
    exact h5
  subst hq
  intro j z hj
  match j, hj with
  | 0, hj => cases hj; have := hcell r (by omega); rw [h1] at this; simpa using this
  | 1, hj => cases hj; have := hcell (r + 1) (by omega); rw [h2] at this; rw [← Array.getElem?_toList]; exact this
end Go.Proofs.YtjjcopeedcdokaaDoor

set_option linter.unusedVariables false
set_option linter.unusedSimpArgs false
namespace Go.Proofs.YtjjcopeedcdokaaDoor
open Go.RowKit
theorem c_HomeKnows (k : Bk) (fA : Option Addr) (fc : Nat) (rA : Option Addr) (rc : Nat) (wA : Option Addr) (wc : Nat) (ge : TypeId) (gz : Nat × Nat) (n0 n1 n2 n3 n4 : Int) (w0 : World) (h : BkIn k fA fc rA rc wA wc w0) (hG : BlkIs 1 sidesA ge gz w0) (te : TypeId) (tz : Nat × Nat) (hT : BlkIs 0 toldA te tz w0) :
    Calls Tryd.prog 12 #[.agg #[.int .i64 k.sh.wide, .int .i64 k.sh.high, .slice fA k.sh.flaps.length fc, .slice rA k.sh.rules.length rc, .int .i64 k.gross, .int .i64 k.pay, .int .i64 k.fine, .slice wA k.ws.length wc], .agg #[.int .i64 n0, .int .i64 n1, .int .i64 n2, .int .i64 n3, .int .i64 n4]] w0 (Ret w0 (.bool true)) := by
  refine c_enter (n := 227) Tryd.func12 rfl rfl (Nat.le_of_ble_eq_true rfl) ?_; intro a hf; simp only [zipR] at hf
  have hs := St.start w0 [Rd encF 5 fA k.sh.flaps.length k.sh.flaps, Rd encR 2 rA k.sh.rules.length k.sh.rules, Rd encW 6 wA k.ws.length k.ws, OrdD k.ws, BlkIs 1 sidesA ge gz, BlkIs 0 toldA te tz] (stab_app (stab_app h.stab hG.st1) hT.st1)
  have hwm := h.W.2.1
  refine c_reg ?_
  refine vL hf (v_boxA hf hs rfl) (by decide) ?_; clear hs hf a; rintro _ w ⟨b1, rfl, hs⟩ a hf
  refine vL hf (v_boxA hf hs rfl) (by decide) ?_; clear hs hf a; rintro _ w ⟨b2, rfl, hs⟩ a hf
  refine gL hf (g_as hf rfl) (by decide) ?_; clear hf a; intro a hf
  refine e_nil ?_
  refine wp_seq ?_
  refine c_reg ?_
  refine gL hf (g_ldW hf hs T28 rfl (k := 1) rfl rfl) (by decide) ?_; clear hf a; intro a hf
  refine callL hf hs (c_soundH k _ _ _ _ _ _ ge gz _ ⟨⟨hs.rd (.head _), hs.rd (.tail _ (.head _)), h.sh.fc_, h.sh.rc_⟩, hs.rd (.tail _ (.tail _ (.head _))), h.wc_, hs.rd (.tail _ (.tail _ (.tail _ (.head _))))⟩ (hs.rd (.tail _ (.tail _ (.tail _ (.tail _ (.head _))))))) rfl rfl rfl E48 (by decide) ?_; clear hs hf a; intro w a hs hf
  refine gL hf (g_not hf rfl) (by decide) ?_; clear hf a; intro a hf
  refine gL hf (g_mv hf rfl) (by decide) ?_; clear hf a; intro a hf
  refine ggL hf rfl rfl (gyes_f _) (fun hg => g_fa (off' := 7) hf F28_4 rfl rfl) (by decide) ?_; clear hf a; intro a hf
  refine ggL hf rfl rfl (gyes_f _) (fun hg => g_ld hf hs T26 (ev_gv rfl hg) (k := 1) rfl rfl) (by decide) ?_; clear hf a; intro a hf
  refine ggL hf rfl rfl (gyes_f _) (fun hg => g_len hf SL26 (ev_gv rfl hg)) (by decide) ?_; clear hf a; intro a hf
  refine ggL hf rfl rfl (gyes_f _) (fun hg => g_eql hf (ev_gv rfl hg) rfl) (by decide) ?_; clear hf a; intro a hf
  refine gL hf (g_or hf rfl rfl) (by decide) ?_; clear hf a; intro a hf
  refine e_nil ?_
  refine c_cond hf rfl (fun hc1 => ?_) (fun hc1 => ?_)
  · skip
    refine c_reg ?_
    refine callL hf hs (c_paid ge gz te tz _ (hs.rd (.tail _ (.tail _ (.tail _ (.tail _ (.head _)))))) (hs.rd (.tail _ (.tail _ (.tail _ (.tail _ (.tail _ (.head _)))))))) rfl rfl rfl E40 (by decide) ?_; clear hs hf a; intro w a hs hf
    refine gL hf (g_as hf rfl) (by decide) ?_; clear hf a; intro a hf
    refine e_nil ?_
    refine c_ret (q_thenR ?_)
    refine e_ret1 hf rfl rfl ?_
    exact ⟨rfl, hs.below⟩
  · skip
    obtain ⟨hck, hpos⟩ := sound_some hc1
    have hwn := (hck_iff.1 hck).n
    refine c_skip (q_thenN ?_)
    refine c_reg ?_
    refine gL hf (g_ixA hf AR65 rfl rfl (by omega)) (by decide) ?_; clear hf a; intro a hf
    refine gL hf (g_ld hf hs T3 rfl (k := 0) rfl rfl) (by decide) ?_; clear hf a; intro a hf
    refine gL hf (g_fa (off' := 7) hf F28_4 rfl rfl) (by decide) ?_; clear hf a; intro a hf
    refine gL hf (g_ld hf hs T26 rfl (k := 1) rfl rfl) (by decide) ?_; clear hf a; intro a hf
    refine gL hf (g_len hf SL26 rfl) (by decide) ?_; clear hf a; intro a hf
    refine callL hf hs (c_Spin _ _ (by omega) _) rfl rfl rfl E22 (by decide) ?_; clear hs hf a; intro w a hs hf
    obtain ⟨i, hie, hi⟩ := some_nat (n := n0) hpos
    rw [hie] at hf
    have hv := hck_iff.1 hck; have hx := hv.wk hi
    have hx1 := hx.b0; have hx2 := hx.b1; have hx3 := hx.b2; have hx4 := hx.t0; have hx5 := hx.t1; have hx6 := hx.t2
    obtain ⟨hk1, hk2, hk3, hk4⟩ := kn_rng hx n1 n2 n3 n4
    have hy := kn_v hx n1 n2 n3 n4
    refine gL hf (g_as hf rfl) (by decide) ?_; clear hf a; intro a hf
    refine e_nil ?_
    refine c_reg ?_
    refine gL hf (g_ldW hf hs T28 rfl (k := 1) rfl rfl) (by decide) ?_; clear hf a; intro a hf
    refine vL hf (v_alloc hs T28 rfl) (by decide) ?_; clear hs hf a; rintro _ w ⟨b3, rfl, hs⟩ a hf
    refine uL (u_stW hf hs T28 rfl rfl rfl (k := 0) rfl rfl rfl) ?_; clear hs; intro w hs; dsimp only [List.set] at hs
    refine e_nil ?_
    refine c_reg ?_
    refine vL hf (v_lits (len := 0) hf hs SL26 T47 .nil rfl rfl rfl rfl (by decide) rfl) (by decide) ?_; clear hs hf a; rintro _ w ⟨b4, rfl, hs⟩ a hf
    refine gL hf (g_fa (off' := 7) hf F28_4 rfl rfl) (by decide) ?_; clear hf a; intro a hf
    refine gL hf (g_ld hf hs T26 rfl (k := 3) rfl rfl) (by decide) ?_; clear hf a; intro a hf
    refine vL hf (v_accN (e := 47) (o := some (b4, #[])) (l := []) (l' := k.ws) (len := 0) hf 0 hs rfl ⟨0, rfl, Nat.le_refl _, by omega, rfl⟩ AP26 (enc := encW) (fun _ => rfl) (by decide) (by intro x v hv9; simp only [encW, List.mem_cons, List.not_mem_nil, or_false] at hv9; rcases hv9 with rfl | rfl | rfl | rfl | rfl | rfl <;> rfl) rfl rfl rfl (hs.rd (.tail _ (.tail _ (.head _)))) (by omega) (by decide)) (by decide) ?_; clear hs hf a; rintro _ w ⟨ox, rfl, hox, hs⟩ a hf; dsimp only [List.take, List.nil_append] at hs
    rw [List.nil_append] at hox
    obtain ⟨bcx, csx, rfl⟩ : ∃ bc cs, ox = some (bc, cs) := acc_some hox (by omega)
    simp only [Nat.zero_add] at hf; dsimp only [accV] at hf; dsimp only [accH, List.cons_append, List.nil_append] at hs
    have hcapx := hox.cap (sz := 6) (by decide)
    refine gL hf (g_fa (off' := 7) hf F28_4 rfl rfl) (by decide) ?_; clear hf a; intro a hf
    refine uL (u_st hf hs T26 rfl rfl rfl (k := 1) rfl (Nat.le_of_ble_eq_true rfl)) ?_; clear hs; intro w hs; dsimp only [List.set] at hs
    refine e_nil ?_
    refine c_reg ?_
    refine gL hf (g_fa (off' := 7) hf F28_4 rfl rfl) (by decide) ?_; clear hf a; intro a hf
    refine gL hf (g_ld hf hs T26 rfl (k := 1) rfl rfl) (by decide) ?_; clear hf a; intro a hf
    refine gL hf (g_mv hf rfl) (by decide) ?_; clear hf a; intro a hf
    refine gL hf (g_ixO hf SL26 rfl rfl (by omega)) (by decide) ?_; clear hf a; intro a hf
    refine gL hf (g_as hf rfl) (by decide) ?_; clear hf a; intro a hf
    refine e_nil ?_
    refine c_draw _ 14 Mx rfl hs (fun _ h => h.sub (.cons _ (.refl _))) ?_; intro w hs hS
    refine gA hf hS (i := 0) rfl (by kernel_rfl) (fun w hs => g_mv hf rfl) (by decide) ?_; clear hf a; intro a hf
    refine gA hf hS (i := 1) rfl (by kernel_rfl) (fun w hs => g_fa (off' := 7) hf F28_4 rfl rfl) (by decide) ?_; clear hf a; intro a hf
    refine gA hf hS (i := 2) rfl (by kernel_rfl) (fun w hs => g_ld hf hs T26 rfl (k := 2) rfl rfl) (by decide) ?_; clear hf a; intro a hf
    refine gA hf hS (i := 3) rfl (by kernel_rfl) (fun w hs => g_mv hf rfl) (by decide) ?_; clear hf a; intro a hf
    (first | (refine gA hf hS (i := 4) rfl (by kernel_rfl) (fun w hs => g_ixE hf hs (.tail _ (.tail _ (.head _))) SL26 rfl rfl (by omega)) (by decide) ?_) | (refine gA hf hS (i := 4) rfl (by kernel_rfl) (fun w hs => g_ixD hf hs (.tail _ (.tail _ (.head _))) SL26 rfl rfl (by omega)) (by decide) ?_)); clear hf a; intro a hf
    refine gA hf hS (i := 5) rfl (by kernel_rfl) (fun w hs => g_faD (j' := 2) hf hs (.tail _ (.tail _ (.head _))) F47_2 rfl (by omega) rfl) (by decide) ?_; clear hf a; intro a hf
    refine gA hf hS (i := 6) rfl (by kernel_rfl) (fun w hs => g_ldEP hf hs (.tail _ (.tail _ (.head _))) T40 rfl rfl (by omega)) (by decide) ?_; clear hf a; intro a hf
    refine gA hf hS (i := 7) rfl (by kernel_rfl) (fun w hs => g_ixA hf AR65 rfl rfl (by omega)) (by decide) ?_; clear hf a; intro a hf
    refine gA hf hS (i := 8) rfl (by kernel_rfl) (fun w hs => g_ld hf hs T3 rfl (k := 1) rfl rfl) (by decide) ?_; clear hf a; intro a hf
    refine one (i := 9) (by kernel_rfl) ?_
    refine oCall hf hs rfl (c_Drawn _ _ _ ⟨by omega, by omega, by omega⟩ _) rfl rfl rfl E53 (by decide) (fun _ h => h.sub (.cons _ (.refl _))) ?_; clear hs hf hS a; intro w a hs hS hf
    refine gA hf hS (i := 10) rfl (by kernel_rfl) (fun w hs => g_nil hf rfl) (by decide) ?_; clear hf a; intro a hf
    refine gA hf hS (i := 11) rfl (by kernel_rfl) (fun w hs => g_fa hf F47_2 rfl rfl) (by decide) ?_; clear hf a; intro a hf
    refine gA hf hS (i := 12) rfl (by kernel_rfl) (fun w hs => g_fa hf F40_0 rfl rfl) (by decide) ?_; clear hf a; intro a hf
    refine one (i := 13) (by kernel_rfl) ?_
    refine oU rfl (u_st hf hs T3 rfl rfl rfl (k := 0) rfl (accW_set (x' := (kn1 (k.ws.getD i default) n1)) (i := i) (r := 2) hi (by decide) (by omega) rfl hox).1) (fun _ h => h.sub (.cons _ (.refl _))) ?_; clear hs hS; intro w hs hS; dsimp only [List.set] at hs
    have hox1 := (accW_set (x' := (kn1 (k.ws.getD i default) n1)) (i := i) (r := 2) (q := 0 + i * 6 + 2) hi (by decide) (by omega) rfl hox).2
    refine e_done (by kernel_rfl) ?_
    refine c_draw _ 12 Mx rfl hs (fun _ h => h.sub (.cons _ (.refl _))) ?_; intro w hs hS
    refine gA hf hS (i := 0) rfl (by kernel_rfl) (fun w hs => g_mv hf rfl) (by decide) ?_; clear hf a; intro a hf
    refine gA hf hS (i := 1) rfl (by kernel_rfl) (fun w hs => g_mv hf rfl) (by decide) ?_; clear hf a; intro a hf
    refine gA hf hS (i := 2) rfl (by kernel_rfl) (fun w hs => g_nil hf rfl) (by decide) ?_; clear hf a; intro a hf
    refine gA hf hS (i := 3) rfl (by kernel_rfl) (fun w hs => g_fa hf F47_2 rfl rfl) (by decide) ?_; clear hf a; intro a hf
    refine gA hf hS (i := 5) rfl (by kernel_rfl) (fun w hs => g_ixA hf AR65 rfl rfl (by omega)) (by decide) ?_; clear hf a; intro a hf
    refine gA hf hS (i := 6) rfl (by kernel_rfl) (fun w hs => g_ld hf hs T3 rfl (k := 1) rfl rfl) (by decide) ?_; clear hf a; intro a hf
    refine one (i := 4) (by kernel_rfl) ?_
    refine oV hf rfl (goesV_of_gets (g_ldA hf hs T40 (vs := [.int .i64 (drawnZ (k.ws.getD i default).bl (k.ws.getD i default).bh n1), .int .i64 (k.ws.getD i default).bh]) rfl (k := 0) rfl rfl (accW_cells hi (r := 2) (by decide) hox1 rfl rfl _ (by omega)))) (by decide) (fun _ _ h => by rw [h.2]; exact hS) ?_; rintro _ w ⟨rfl, rfl⟩ hS a hf
    refine one (i := 7) (by kernel_rfl) ?_
    refine oCall hf hs rfl (c_Drawn _ _ _ ⟨by omega, by omega, by omega⟩ _) rfl rfl rfl E53 (by decide) (fun _ h => h.sub (.cons _ (.refl _))) ?_; clear hs hf hS a; intro w a hs hS hf
    refine gA hf hS (i := 8) rfl (by kernel_rfl) (fun w hs => g_nil hf rfl) (by decide) ?_; clear hf a; intro a hf
    refine gA hf hS (i := 9) rfl (by kernel_rfl) (fun w hs => g_fa hf F47_2 rfl rfl) (by decide) ?_; clear hf a; intro a hf
    refine gA hf hS (i := 10) rfl (by kernel_rfl) (fun w hs => g_fa hf F40_1 rfl rfl) (by decide) ?_; clear hf a; intro a hf
    refine one (i := 11) (by kernel_rfl) ?_
    refine oU rfl (u_st hf hs T3 rfl rfl rfl (k := 0) rfl (accW_kn (y := (kn1 (k.ws.getD i default) n1)) (y' := (kn2 (k.ws.getD i default) n1 n2)) (i := i) (r := 3) hi (by decide) (by omega) rfl hox1).1) (fun _ h => h.sub (.cons _ (.refl _))) ?_; clear hs hS; intro w hs hS; dsimp only [List.set] at hs
    have hox2 := (accW_kn (y := (kn1 (k.ws.getD i default) n1)) (y' := (kn2 (k.ws.getD i default) n1 n2)) (i := i) (r := 3) (q := 0 + i * 6 + 3) hi (by decide) (by omega) rfl hox1).2
    refine e_done (by kernel_rfl) ?_
    refine c_draw _ 14 Mx rfl hs (fun _ h => h.sub (.cons _ (.refl _))) ?_; intro w hs hS
    refine gA hf hS (i := 0) rfl (by kernel_rfl) (fun w hs => g_mv hf rfl) (by decide) ?_; clear hf a; intro a hf
    refine gA hf hS (i := 1) rfl (by kernel_rfl) (fun w hs => g_fa (off' := 7) hf F28_4 rfl rfl) (by decide) ?_; clear hf a; intro a hf
    refine gA hf hS (i := 2) rfl (by kernel_rfl) (fun w hs => g_ld hf hs T26 rfl (k := 2) rfl rfl) (by decide) ?_; clear hf a; intro a hf
    refine gA hf hS (i := 3) rfl (by kernel_rfl) (fun w hs => g_mv hf rfl) (by decide) ?_; clear hf a; intro a hf
    (first | (refine gA hf hS (i := 4) rfl (by kernel_rfl) (fun w hs => g_ixE hf hs (.tail _ (.tail _ (.head _))) SL26 rfl rfl (by omega)) (by decide) ?_) | (refine gA hf hS (i := 4) rfl (by kernel_rfl) (fun w hs => g_ixD hf hs (.tail _ (.tail _ (.head _))) SL26 rfl rfl (by omega)) (by decide) ?_)); clear hf a; intro a hf
    refine gA hf hS (i := 5) rfl (by kernel_rfl) (fun w hs => g_faD (j' := 4) hf hs (.tail _ (.tail _ (.head _))) F47_3 rfl (by omega) rfl) (by decide) ?_; clear hf a; intro a hf
    refine gA hf hS (i := 6) rfl (by kernel_rfl) (fun w hs => g_ldEP hf hs (.tail _ (.tail _ (.head _))) T40 rfl rfl (by omega)) (by decide) ?_; clear hf a; intro a hf
    refine gA hf hS (i := 7) rfl (by kernel_rfl) (fun w hs => g_ixA hf AR65 rfl rfl (by omega)) (by decide) ?_; clear hf a; intro a hf
    refine gA hf hS (i := 8) rfl (by kernel_rfl) (fun w hs => g_ld hf hs T3 rfl (k := 1) rfl rfl) (by decide) ?_; clear hf a; intro a hf
    refine one (i := 9) (by kernel_rfl) ?_
    refine oCall hf hs rfl (c_Drawn _ _ _ ⟨by omega, by omega, by omega⟩ _) rfl rfl rfl E53 (by decide) (fun _ h => h.sub (.cons _ (.refl _))) ?_; clear hs hf hS a; intro w a hs hS hf
    refine gA hf hS (i := 10) rfl (by kernel_rfl) (fun w hs => g_nil hf rfl) (by decide) ?_; clear hf a; intro a hf
    refine gA hf hS (i := 11) rfl (by kernel_rfl) (fun w hs => g_fa hf F47_3 rfl rfl) (by decide) ?_; clear hf a; intro a hf
    refine gA hf hS (i := 12) rfl (by kernel_rfl) (fun w hs => g_fa hf F40_0 rfl rfl) (by decide) ?_; clear hf a; intro a hf
    refine one (i := 13) (by kernel_rfl) ?_
    refine oU rfl (u_st hf hs T3 rfl rfl rfl (k := 0) rfl (accW_kn (y := (kn2 (k.ws.getD i default) n1 n2)) (y' := (kn3 (k.ws.getD i default) n1 n2 n3)) (i := i) (r := 4) hi (by decide) (by omega) rfl hox2).1) (fun _ h => h.sub (.cons _ (.refl _))) ?_; clear hs hS; intro w hs hS; dsimp only [List.set] at hs
    have hox3 := (accW_kn (y := (kn2 (k.ws.getD i default) n1 n2)) (y' := (kn3 (k.ws.getD i default) n1 n2 n3)) (i := i) (r := 4) (q := 0 + i * 6 + 4) hi (by decide) (by omega) rfl hox2).2
    refine e_done (by kernel_rfl) ?_
    refine c_draw _ 12 Mx rfl hs (fun _ h => h.sub (.cons _ (.refl _))) ?_; intro w hs hS
    refine gA hf hS (i := 0) rfl (by kernel_rfl) (fun w hs => g_mv hf rfl) (by decide) ?_; clear hf a; intro a hf
    refine gA hf hS (i := 1) rfl (by kernel_rfl) (fun w hs => g_mv hf rfl) (by decide) ?_; clear hf a; intro a hf
    refine gA hf hS (i := 2) rfl (by kernel_rfl) (fun w hs => g_nil hf rfl) (by decide) ?_; clear hf a; intro a hf
    refine gA hf hS (i := 3) rfl (by kernel_rfl) (fun w hs => g_fa hf F47_3 rfl rfl) (by decide) ?_; clear hf a; intro a hf
    refine gA hf hS (i := 5) rfl (by kernel_rfl) (fun w hs => g_ixA hf AR65 rfl rfl (by omega)) (by decide) ?_; clear hf a; intro a hf
    refine gA hf hS (i := 6) rfl (by kernel_rfl) (fun w hs => g_ld hf hs T3 rfl (k := 1) rfl rfl) (by decide) ?_; clear hf a; intro a hf
    refine one (i := 4) (by kernel_rfl) ?_
    refine oV hf rfl (goesV_of_gets (g_ldA hf hs T40 (vs := [.int .i64 (drawnZ (k.ws.getD i default).tl (k.ws.getD i default).th n3), .int .i64 (k.ws.getD i default).th]) rfl (k := 0) rfl rfl (accW_cells hi (r := 4) (by decide) hox3 rfl rfl _ (by omega)))) (by decide) (fun _ _ h => by rw [h.2]; exact hS) ?_; rintro _ w ⟨rfl, rfl⟩ hS a hf
    refine one (i := 7) (by kernel_rfl) ?_
    refine oCall hf hs rfl (c_Drawn _ _ _ ⟨by omega, by omega, by omega⟩ _) rfl rfl rfl E53 (by decide) (fun _ h => h.sub (.cons _ (.refl _))) ?_; clear hs hf hS a; intro w a hs hS hf
    refine gA hf hS (i := 8) rfl (by kernel_rfl) (fun w hs => g_nil hf rfl) (by decide) ?_; clear hf a; intro a hf
    refine gA hf hS (i := 9) rfl (by kernel_rfl) (fun w hs => g_fa hf F47_3 rfl rfl) (by decide) ?_; clear hf a; intro a hf
    refine gA hf hS (i := 10) rfl (by kernel_rfl) (fun w hs => g_fa hf F40_1 rfl rfl) (by decide) ?_; clear hf a; intro a hf
    refine one (i := 11) (by kernel_rfl) ?_
    refine oU rfl (u_st hf hs T3 rfl rfl rfl (k := 0) rfl (accW_kn (y := (kn3 (k.ws.getD i default) n1 n2 n3)) (y' := (kn4 (k.ws.getD i default) n1 n2 n3 n4)) (i := i) (r := 5) hi (by decide) (by omega) rfl hox3).1) (fun _ h => h.sub (.cons _ (.refl _))) ?_; clear hs hS; intro w hs hS; dsimp only [List.set] at hs
    have hox4 := (accW_kn (y := (kn3 (k.ws.getD i default) n1 n2 n3)) (y' := (kn4 (k.ws.getD i default) n1 n2 n3 n4)) (i := i) (r := 5) (q := 0 + i * 6 + 5) hi (by decide) (by omega) rfl hox3).2
    refine e_done (by kernel_rfl) ?_
    obtain ⟨Ax, cx, ex, hlx, hs⟩ := hs.freeze (e := 47) (o := some (bcx, _)) (l := (knW k i (kn4 (k.ws.getD i default) n1 n2 n3 n4)).ws) (enc := encW) (sz := 6) 0 rfl hox4 (fun _ => rfl) (by decide)
    dsimp only [List.take, List.nil_append] at hs
    dsimp only [accV] at ex
    injection ex with ex1 ex2 ex3; subst ex1
    replace hs := hs.addD (ordD_kn (y := (kn4 (k.ws.getD i default) n1 n2 n3 n4)) hi (hs.data _ (.tail _ (.tail _ (.tail _ (.tail _ (.head _)))))) rfl rfl rfl)
    refine c_reg ?_
    refine gL hf (g_ldW hf hs T28 rfl (k := 2) rfl rfl) (by decide) ?_; clear hf a; intro a hf
    refine gL hf (g_mv hf rfl) (by decide) ?_; clear hf a; intro a hf
    have h9 := c_RightH k _ _ _ _ _ _ ge gz ((i : Nat) : Int) _ ⟨⟨hs.rd (.tail _ (.tail _ (.head _))), hs.rd (.tail _ (.tail _ (.tail _ (.head _)))), h.sh.fc_, h.sh.rc_⟩, hs.rd (.tail _ (.tail _ (.tail _ (.tail _ (.head _))))), h.wc_, hs.rd (.tail _ (.tail _ (.tail _ (.tail _ (.tail _ (.head _))))))⟩ (hs.rd (.tail _ (.tail _ (.tail _ (.tail _ (.tail _ (.tail _ (.head _))))))))
    rw [right_ok hck hi] at h9; dsimp only at h9
    refine callL hf hs (h9) rfl rfl rfl E31 (by decide) ?_; clear hs hf a; intro w a hs hf
    refine gL hf (g_mv hf rfl) (by decide) ?_; clear hf a; intro a hf
    refine gL hf (g_ext hf rfl rfl) (by decide) ?_; clear hf a; intro a hf
    refine gL hf (g_ext hf rfl rfl) (by decide) ?_; clear hf a; intro a hf
    refine gL hf (g_as hf rfl) (by decide) ?_; clear hf a; intro a hf
    refine gL hf (g_as hf rfl) (by decide) ?_; clear hf a; intro a hf
    refine e_nil ?_
    refine c_reg ?_
    refine gL hf (g_ldW hf hs T28 rfl (k := 0) rfl rfl) (by decide) ?_; clear hf a; intro a hf
    refine gL hf (g_mv hf rfl) (by decide) ?_; clear hf a; intro a hf
    have h9 := c_RightH (knW k i (kn4 (k.ws.getD i default) n1 n2 n3 n4)) fA fc rA rc (some ⟨bcx, 0, none⟩) (csx.size / 6) ge gz ((i : Nat) : Int) _ (show BkIn (knW k i (kn4 (k.ws.getD i default) n1 n2 n3 n4)) fA fc rA rc (some ⟨bcx, 0, none⟩) (csx.size / 6) _ from ⟨⟨hs.rd (.tail _ (.tail _ (.head _))), hs.rd (.tail _ (.tail _ (.tail _ (.head _)))), h.sh.fc_, h.sh.rc_⟩, hs.rd (.tail _ (.head _)), by rw [knW_len]; exact hcapx, hs.rd (.head _)⟩) (hs.rd (.tail _ (.tail _ (.tail _ (.tail _ (.tail _ (.tail _ (.head _))))))))
    rw [right_kn hv hi hy] at h9; simp only [bkV, knW_len] at h9
    refine callL hf hs (h9) rfl rfl rfl E31 (by decide) ?_; clear hs hf a; intro w a hs hf
    refine gL hf (g_mv hf rfl) (by decide) ?_; clear hf a; intro a hf
    refine gL hf (g_ext hf rfl rfl) (by decide) ?_; clear hf a; intro a hf
    refine gL hf (g_ext hf rfl rfl) (by decide) ?_; clear hf a; intro a hf
    refine gL hf (g_as hf rfl) (by decide) ?_; clear hf a; intro a hf
    refine gL hf (g_as hf rfl) (by decide) ?_; clear hf a; intro a hf
    refine e_nil ?_
    refine wp_seq ?_
    refine c_reg ?_
    refine gL hf (g_mv hf rfl) (by decide) ?_; clear hf a; intro a hf
    refine gL hf (g_neq hf rfl rfl) (by decide) ?_; clear hf a; intro a hf
    refine gL hf (g_mv hf rfl) (by decide) ?_; clear hf a; intro a hf
    refine ggL hf rfl rfl (gyes_f _) (fun hg => g_mv hf rfl) (by decide) ?_; clear hf a; intro a hf
    refine ggL hf rfl rfl (gyes_f _) (fun hg => g_neq hf (ev_gv rfl hg) rfl) (by decide) ?_; clear hf a; intro a hf
    refine gL hf (g_or hf rfl rfl) (by decide) ?_; clear hf a; intro a hf
    refine gL hf (g_mv hf rfl) (by decide) ?_; clear hf a; intro a hf
    refine ggL hf rfl rfl (gyes_f _) (fun hg => g_mv hf rfl) (by decide) ?_; clear hf a; intro a hf
    refine ggL hf rfl rfl (gyes_f _) (fun hg => g_mv hf (ev_gv rfl hg)) (by decide) ?_; clear hf a; intro a hf
    refine ggL hf rfl rfl (gyes_gt _ _) (fun hg => g_mv hf rfl) (by decide) ?_; clear hf a; intro a hf
    refine ggL hf rfl rfl (gyes_gt _ _) (fun hg => g_not hf (ev_gv rfl hg)) (by decide) ?_; clear hf a; intro a hf
    refine ggL hf rfl rfl (gyes_f _) (fun hg => g_and hf (ev_gv rfl hg) (ev_gvand rfl hg)) (by decide) ?_; clear hf a; intro a hf
    refine gL hf (g_or hf rfl rfl) (by decide) ?_; clear hf a; intro a hf
    refine e_nil ?_
    refine c_cond hf rfl (fun hc2 => ?_) (fun hc2 => ?_)
    · skip
      exfalso; cases h8 : rightB (kn4 (k.ws.getD i default) n1 n2 n3 n4) with | false => (rw [h8] at hc2; simp at hc2) | true => (rw [h8, kn_right hx h8] at hc2; simp at hc2)
    · skip
      refine c_skip (q_thenN ?_)
      refine wp_seq ?_
      refine c_reg ?_
      refine gL hf (g_mv hf rfl) (by decide) ?_; clear hf a; intro a hf
      refine gL hf (g_not hf rfl) (by decide) ?_; clear hf a; intro a hf
      refine e_nil ?_
      refine c_cond hf rfl (fun hc3 => ?_) (fun hc3 => ?_)
      · skip
        refine c_reg ?_
        refine callL hf hs (c_paid ge gz te tz _ (hs.rd (.tail _ (.tail _ (.tail _ (.tail _ (.tail _ (.tail _ (.head _)))))))) (hs.rd (.tail _ (.tail _ (.tail _ (.tail _ (.tail _ (.tail _ (.tail _ (.head _)))))))))) rfl rfl rfl E40 (by decide) ?_; clear hs hf a; intro w a hs hf
        refine gL hf (g_as hf rfl) (by decide) ?_; clear hf a; intro a hf
        refine e_nil ?_
        refine c_ret (q_thenR ?_)
        refine e_ret1 hf rfl rfl ?_
        exact ⟨rfl, hs.below⟩
      · skip
        have hsy : rightB (kn4 (k.ws.getD i default) n1 n2 n3 n4) = true := by simpa using hc3
        have hsx := kn_right hx hsy
        have hw0 := kn_wraps hx hsy 0; have hw1 := kn_wraps hx hsy 1; have hw2 := kn_wraps hx hsy 2
        refine c_skip (q_thenN ?_)
        refine c_reg ?_
        refine gL hf (g_ldW hf hs T28 rfl (k := 2) rfl rfl) (by decide) ?_; clear hf a; intro a hf
        refine gL hf (g_mv hf rfl) (by decide) ?_; clear hf a; intro a hf
        have h9 := c_PassesH k _ _ _ _ _ _ ge gz ((i : Nat) : Int) _ ⟨⟨hs.rd (.tail _ (.tail _ (.head _))), hs.rd (.tail _ (.tail _ (.tail _ (.head _)))), h.sh.fc_, h.sh.rc_⟩, hs.rd (.tail _ (.tail _ (.tail _ (.tail _ (.head _))))), h.wc_, hs.rd (.tail _ (.tail _ (.tail _ (.tail _ (.tail _ (.head _))))))⟩ (hs.rd (.tail _ (.tail _ (.tail _ (.tail _ (.tail _ (.tail _ (.head _)))))))) te tz (hs.rd (.tail _ (.tail _ (.tail _ (.tail _ (.tail _ (.tail _ (.tail _ (.head _)))))))))
        rw [tk_eq hck hi 0, tk_yes hsx] at h9; dsimp only at h9
        refine callL hf hs (h9) rfl rfl rfl E23 (by decide) ?_; clear hs hf a; intro w a hs hf
        refine gL hf (g_mv hf rfl) (by decide) ?_; clear hf a; intro a hf
        refine gL hf (g_ext hf rfl rfl) (by decide) ?_; clear hf a; intro a hf
        refine gL hf (g_ext hf rfl rfl) (by decide) ?_; clear hf a; intro a hf
        refine vL hf (v_alloc hs T40 rfl) (by decide) ?_; clear hs hf a; rintro _ w ⟨b5, rfl, hs⟩ a hf
        refine uL (u_stW hf hs T40 rfl rfl rfl (k := 0) rfl rfl rfl) ?_; clear hs; intro w hs; dsimp only [List.set] at hs
        refine gL hf (g_as hf rfl) (by decide) ?_; clear hf a; intro a hf
        refine e_nil ?_
        refine c_reg ?_
        refine gL hf (g_ldW hf hs T28 rfl (k := 1) rfl rfl) (by decide) ?_; clear hf a; intro a hf
        refine gL hf (g_mv hf rfl) (by decide) ?_; clear hf a; intro a hf
        have h9 := c_PassesH (knW k i (kn4 (k.ws.getD i default) n1 n2 n3 n4)) fA fc rA rc (some ⟨bcx, 0, none⟩) (csx.size / 6) ge gz ((i : Nat) : Int) _ (show BkIn (knW k i (kn4 (k.ws.getD i default) n1 n2 n3 n4)) fA fc rA rc (some ⟨bcx, 0, none⟩) (csx.size / 6) _ from ⟨⟨hs.rd (.tail _ (.tail _ (.head _))), hs.rd (.tail _ (.tail _ (.tail _ (.head _)))), h.sh.fc_, h.sh.rc_⟩, hs.rd (.tail _ (.head _)), by rw [knW_len]; exact hcapx, hs.rd (.head _)⟩) (hs.rd (.tail _ (.tail _ (.tail _ (.tail _ (.tail _ (.tail _ (.head _)))))))) te tz (hs.rd (.tail _ (.tail _ (.tail _ (.tail _ (.tail _ (.tail _ (.tail _ (.head _)))))))))
        rw [tk_kn hv hi hy 0, tk_yes hsy] at h9; simp only [bkV, knW_len] at h9
        refine callL hf hs (h9) rfl rfl rfl E23 (by decide) ?_; clear hs hf a; intro w a hs hf
        refine gL hf (g_mv hf rfl) (by decide) ?_; clear hf a; intro a hf
        refine gL hf (g_ext hf rfl rfl) (by decide) ?_; clear hf a; intro a hf
        refine gL hf (g_ext hf rfl rfl) (by decide) ?_; clear hf a; intro a hf
        refine vL hf (v_alloc hs T40 rfl) (by decide) ?_; clear hs hf a; rintro _ w ⟨b6, rfl, hs⟩ a hf
        refine uL (u_stW hf hs T40 rfl rfl rfl (k := 0) rfl rfl rfl) ?_; clear hs; intro w hs; dsimp only [List.set] at hs
        refine gL hf (g_as hf rfl) (by decide) ?_; clear hf a; intro a hf
        refine e_nil ?_
        refine c_reg ?_
        refine gL hf (g_ldW hf hs T28 rfl (k := 4) rfl rfl) (by decide) ?_; clear hf a; intro a hf
        refine gL hf (g_mv hf rfl) (by decide) ?_; clear hf a; intro a hf
        have h9 := c_MissingH k _ _ _ _ _ _ ge gz ((i : Nat) : Int) _ ⟨⟨hs.rd (.tail _ (.tail _ (.head _))), hs.rd (.tail _ (.tail _ (.tail _ (.head _)))), h.sh.fc_, h.sh.rc_⟩, hs.rd (.tail _ (.tail _ (.tail _ (.tail _ (.head _))))), h.wc_, hs.rd (.tail _ (.tail _ (.tail _ (.tail _ (.tail _ (.head _))))))⟩ (hs.rd (.tail _ (.tail _ (.tail _ (.tail _ (.tail _ (.tail _ (.head _)))))))) te tz (hs.rd (.tail _ (.tail _ (.tail _ (.tail _ (.tail _ (.tail _ (.tail _ (.head _)))))))))
        rw [tk_eq hck hi 1, tk_yes hsx] at h9; dsimp only at h9
        refine callL hf hs (h9) rfl rfl rfl E36 (by decide) ?_; clear hs hf a; intro w a hs hf
        refine gL hf (g_mv hf rfl) (by decide) ?_; clear hf a; intro a hf
        refine gL hf (g_ext hf rfl rfl) (by decide) ?_; clear hf a; intro a hf
        refine gL hf (g_ext hf rfl rfl) (by decide) ?_; clear hf a; intro a hf
        refine vL hf (v_alloc hs T40 rfl) (by decide) ?_; clear hs hf a; rintro _ w ⟨b7, rfl, hs⟩ a hf
        refine uL (u_stW hf hs T40 rfl rfl rfl (k := 0) rfl rfl rfl) ?_; clear hs; intro w hs; dsimp only [List.set] at hs
        refine gL hf (g_as hf rfl) (by decide) ?_; clear hf a; intro a hf
        refine e_nil ?_
        refine c_reg ?_
        refine gL hf (g_ldW hf hs T28 rfl (k := 3) rfl rfl) (by decide) ?_; clear hf a; intro a hf
        refine gL hf (g_mv hf rfl) (by decide) ?_; clear hf a; intro a hf
        have h9 := c_MissingH (knW k i (kn4 (k.ws.getD i default) n1 n2 n3 n4)) fA fc rA rc (some ⟨bcx, 0, none⟩) (csx.size / 6) ge gz ((i : Nat) : Int) _ (show BkIn (knW k i (kn4 (k.ws.getD i default) n1 n2 n3 n4)) fA fc rA rc (some ⟨bcx, 0, none⟩) (csx.size / 6) _ from ⟨⟨hs.rd (.tail _ (.tail _ (.head _))), hs.rd (.tail _ (.tail _ (.tail _ (.head _)))), h.sh.fc_, h.sh.rc_⟩, hs.rd (.tail _ (.head _)), by rw [knW_len]; exact hcapx, hs.rd (.head _)⟩) (hs.rd (.tail _ (.tail _ (.tail _ (.tail _ (.tail _ (.tail _ (.head _)))))))) te tz (hs.rd (.tail _ (.tail _ (.tail _ (.tail _ (.tail _ (.tail _ (.tail _ (.head _)))))))))
        rw [tk_kn hv hi hy 1, tk_yes hsy] at h9; simp only [bkV, knW_len] at h9
        refine callL hf hs (h9) rfl rfl rfl E36 (by decide) ?_; clear hs hf a; intro w a hs hf
        refine gL hf (g_mv hf rfl) (by decide) ?_; clear hf a; intro a hf
        refine gL hf (g_ext hf rfl rfl) (by decide) ?_; clear hf a; intro a hf
        refine gL hf (g_ext hf rfl rfl) (by decide) ?_; clear hf a; intro a hf
        refine vL hf (v_alloc hs T40 rfl) (by decide) ?_; clear hs hf a; rintro _ w ⟨b8, rfl, hs⟩ a hf
        refine uL (u_stW hf hs T40 rfl rfl rfl (k := 0) rfl rfl rfl) ?_; clear hs; intro w hs; dsimp only [List.set] at hs
        refine gL hf (g_as hf rfl) (by decide) ?_; clear hf a; intro a hf
        refine e_nil ?_
        refine c_reg ?_
        refine gL hf (g_ldW hf hs T28 rfl (k := 6) rfl rfl) (by decide) ?_; clear hf a; intro a hf
        refine gL hf (g_mv hf rfl) (by decide) ?_; clear hf a; intro a hf
        have h9 := c_GetsH k _ _ _ _ _ _ ge gz ((i : Nat) : Int) _ ⟨⟨hs.rd (.tail _ (.tail _ (.head _))), hs.rd (.tail _ (.tail _ (.tail _ (.head _)))), h.sh.fc_, h.sh.rc_⟩, hs.rd (.tail _ (.tail _ (.tail _ (.tail _ (.head _))))), h.wc_, hs.rd (.tail _ (.tail _ (.tail _ (.tail _ (.tail _ (.head _))))))⟩ (hs.rd (.tail _ (.tail _ (.tail _ (.tail _ (.tail _ (.tail _ (.head _)))))))) te tz (hs.rd (.tail _ (.tail _ (.tail _ (.tail _ (.tail _ (.tail _ (.tail _ (.head _)))))))))
        rw [tk_eq hck hi 2, tk_yes hsx] at h9; dsimp only at h9
        refine callL hf hs (h9) rfl rfl rfl E38 (by decide) ?_; clear hs hf a; intro w a hs hf
        refine gL hf (g_mv hf rfl) (by decide) ?_; clear hf a; intro a hf
        refine gL hf (g_ext hf rfl rfl) (by decide) ?_; clear hf a; intro a hf
        refine gL hf (g_ext hf rfl rfl) (by decide) ?_; clear hf a; intro a hf
        refine vL hf (v_alloc hs T40 rfl) (by decide) ?_; clear hs hf a; rintro _ w ⟨b9, rfl, hs⟩ a hf
        refine uL (u_stW hf hs T40 rfl rfl rfl (k := 0) rfl rfl rfl) ?_; clear hs; intro w hs; dsimp only [List.set] at hs
        refine gL hf (g_as hf rfl) (by decide) ?_; clear hf a; intro a hf
        refine e_nil ?_
        refine c_reg ?_
        refine gL hf (g_ldW hf hs T28 rfl (k := 5) rfl rfl) (by decide) ?_; clear hf a; intro a hf
        refine gL hf (g_mv hf rfl) (by decide) ?_; clear hf a; intro a hf
        have h9 := c_GetsH (knW k i (kn4 (k.ws.getD i default) n1 n2 n3 n4)) fA fc rA rc (some ⟨bcx, 0, none⟩) (csx.size / 6) ge gz ((i : Nat) : Int) _ (show BkIn (knW k i (kn4 (k.ws.getD i default) n1 n2 n3 n4)) fA fc rA rc (some ⟨bcx, 0, none⟩) (csx.size / 6) _ from ⟨⟨hs.rd (.tail _ (.tail _ (.head _))), hs.rd (.tail _ (.tail _ (.tail _ (.head _)))), h.sh.fc_, h.sh.rc_⟩, hs.rd (.tail _ (.head _)), by rw [knW_len]; exact hcapx, hs.rd (.head _)⟩) (hs.rd (.tail _ (.tail _ (.tail _ (.tail _ (.tail _ (.tail _ (.head _)))))))) te tz (hs.rd (.tail _ (.tail _ (.tail _ (.tail _ (.tail _ (.tail _ (.tail _ (.head _)))))))))
        rw [tk_kn hv hi hy 2, tk_yes hsy] at h9; simp only [bkV, knW_len] at h9
        refine callL hf hs (h9) rfl rfl rfl E38 (by decide) ?_; clear hs hf a; intro w a hs hf
        refine gL hf (g_mv hf rfl) (by decide) ?_; clear hf a; intro a hf
        refine gL hf (g_ext hf rfl rfl) (by decide) ?_; clear hf a; intro a hf
        refine gL hf (g_ext hf rfl rfl) (by decide) ?_; clear hf a; intro a hf
        refine vL hf (v_alloc hs T40 rfl) (by decide) ?_; clear hs hf a; rintro _ w ⟨b10, rfl, hs⟩ a hf
        refine uL (u_stW hf hs T40 rfl rfl rfl (k := 0) rfl rfl rfl) ?_; clear hs; intro w hs; dsimp only [List.set] at hs
        refine gL hf (g_as hf rfl) (by decide) ?_; clear hf a; intro a hf
        refine e_nil ?_
        refine wp_seq ?_
        refine c_reg ?_
        refine gL hf (g_mv hf rfl) (by decide) ?_; clear hf a; intro a hf
        refine gL hf (g_neq hf rfl rfl) (by decide) ?_; clear hf a; intro a hf
        refine gL hf (g_mv hf rfl) (by decide) ?_; clear hf a; intro a hf
        refine ggL hf rfl rfl (gyes_f _) (fun hg => g_mv hf rfl) (by decide) ?_; clear hf a; intro a hf
        refine ggL hf rfl rfl (gyes_f _) (fun hg => g_neq hf (ev_gv rfl hg) rfl) (by decide) ?_; clear hf a; intro a hf
        refine gL hf (g_or hf rfl rfl) (by decide) ?_; clear hf a; intro a hf
        refine gL hf (g_mv hf rfl) (by decide) ?_; clear hf a; intro a hf
        refine ggL hf rfl rfl (gyes_f _) (fun hg => g_mv hf rfl) (by decide) ?_; clear hf a; intro a hf
        refine ggL hf rfl rfl (gyes_f _) (fun hg => g_neq hf (ev_gv rfl hg) rfl) (by decide) ?_; clear hf a; intro a hf
        refine gL hf (g_or hf rfl rfl) (by decide) ?_; clear hf a; intro a hf
        refine gL hf (g_mv hf rfl) (by decide) ?_; clear hf a; intro a hf
        refine ggL hf rfl rfl (gyes_f _) (fun hg => g_mv hf rfl) (by decide) ?_; clear hf a; intro a hf
        refine ggL hf rfl rfl (gyes_f _) (fun hg => g_neq hf (ev_gv rfl hg) rfl) (by decide) ?_; clear hf a; intro a hf
        refine gL hf (g_or hf rfl rfl) (by decide) ?_; clear hf a; intro a hf
        refine gL hf (g_mv hf rfl) (by decide) ?_; clear hf a; intro a hf
        refine ggL hf rfl rfl (gyes_f _) (fun hg => g_mv hf rfl) (by decide) ?_; clear hf a; intro a hf
        refine ggL hf rfl rfl (gyes_f _) (fun hg => g_neq hf (ev_gv rfl hg) rfl) (by decide) ?_; clear hf a; intro a hf
        refine gL hf (g_or hf rfl rfl) (by decide) ?_; clear hf a; intro a hf
        refine gL hf (g_mv hf rfl) (by decide) ?_; clear hf a; intro a hf
        refine ggL hf rfl rfl (gyes_f _) (fun hg => g_mv hf rfl) (by decide) ?_; clear hf a; intro a hf
        refine ggL hf rfl rfl (gyes_f _) (fun hg => g_neq hf (ev_gv rfl hg) rfl) (by decide) ?_; clear hf a; intro a hf
        refine gL hf (g_or hf rfl rfl) (by decide) ?_; clear hf a; intro a hf
        refine gL hf (g_mv hf rfl) (by decide) ?_; clear hf a; intro a hf
        refine ggL hf rfl rfl (gyes_f _) (fun hg => g_ldW hf hs T40 rfl (k := 5) rfl rfl) (by decide) ?_; clear hf a; intro a hf
        refine ggL hf rfl rfl (gyes_f _) (fun hg => g_ldW hf hs T40 rfl (k := 4) rfl rfl) (by decide) ?_; clear hf a; intro a hf
        refine callG hf hs rfl rfl (gyes_f _) (fun hg => ⟨_, _, _, _, c_Wraps _ _ _ _ _, rfl, evs_cons (ev_gv rfl hg) (evs_cons (ev_gv rfl hg) evs_nil), rfl⟩) E54 (by decide) ?_; clear hs hf a; intro w a hs hf
        refine ggL hf rfl rfl (gyes_f _) (fun hg => g_not hf (ev_gv rfl hg)) (by decide) ?_; clear hf a; intro a hf
        refine gL hf (g_or hf rfl rfl) (by decide) ?_; clear hf a; intro a hf
        refine gL hf (g_mv hf rfl) (by decide) ?_; clear hf a; intro a hf
        refine ggL hf rfl rfl (gyes_f _) (fun hg => g_ldW hf hs T40 rfl (k := 3) rfl rfl) (by decide) ?_; clear hf a; intro a hf
        refine ggL hf rfl rfl (gyes_f _) (fun hg => g_ldW hf hs T40 rfl (k := 2) rfl rfl) (by decide) ?_; clear hf a; intro a hf
        refine callG hf hs rfl rfl (gyes_f _) (fun hg => ⟨_, _, _, _, c_Wraps _ _ _ _ _, rfl, evs_cons (ev_gv rfl hg) (evs_cons (ev_gv rfl hg) evs_nil), rfl⟩) E54 (by decide) ?_; clear hs hf a; intro w a hs hf
        refine ggL hf rfl rfl (gyes_f _) (fun hg => g_not hf (ev_gv rfl hg)) (by decide) ?_; clear hf a; intro a hf
        refine gL hf (g_or hf rfl rfl) (by decide) ?_; clear hf a; intro a hf
        refine gL hf (g_mv hf rfl) (by decide) ?_; clear hf a; intro a hf
        refine ggL hf rfl rfl (gyes_f _) (fun hg => g_ldW hf hs T40 rfl (k := 1) rfl rfl) (by decide) ?_; clear hf a; intro a hf
        refine ggL hf rfl rfl (gyes_f _) (fun hg => g_ldW hf hs T40 rfl (k := 0) rfl rfl) (by decide) ?_; clear hf a; intro a hf
        refine callG hf hs rfl rfl (gyes_f _) (fun hg => ⟨_, _, _, _, c_Wraps _ _ _ _ _, rfl, evs_cons (ev_gv rfl hg) (evs_cons (ev_gv rfl hg) evs_nil), rfl⟩) E54 (by decide) ?_; clear hs hf a; intro w a hs hf
        refine ggL hf rfl rfl (gyes_f _) (fun hg => g_not hf (ev_gv rfl hg)) (by decide) ?_; clear hf a; intro a hf
        refine gL hf (g_or hf rfl rfl) (by decide) ?_; clear hf a; intro a hf
        refine e_nil ?_
        refine c_cond hf rfl (fun hc4 => ?_) (fun hc4 => ?_)
        · skip
          exfalso; rw [decide_eq_true hw0.1, decide_eq_true hw0.2, decide_eq_true hw1.1, decide_eq_true hw1.2, decide_eq_true hw2.1, decide_eq_true hw2.2] at hc4; cases hc4
        · skip
          refine c_skip (q_thenN ?_)
          refine c_reg ?_
          refine gL hf (g_ldW hf hs T28 rfl (k := 8) rfl rfl) (by decide) ?_; clear hf a; intro a hf
          refine callL hf hs (c_TotalH k _ _ _ _ _ _ ge gz  _ ⟨⟨hs.rd (.tail _ (.tail _ (.head _))), hs.rd (.tail _ (.tail _ (.tail _ (.head _)))), h.sh.fc_, h.sh.rc_⟩, hs.rd (.tail _ (.tail _ (.tail _ (.tail _ (.head _))))), h.wc_, hs.rd (.tail _ (.tail _ (.tail _ (.tail _ (.tail _ (.head _))))))⟩ (hs.rd (.tail _ (.tail _ (.tail _ (.tail _ (.tail _ (.tail _ (.head _)))))))) te tz (hs.rd (.tail _ (.tail _ (.tail _ (.tail _ (.tail _ (.tail _ (.tail _ (.head _)))))))))) rfl rfl rfl E27 (by decide) ?_; clear hs hf a; intro w a hs hf
          refine gL hf (g_mv hf rfl) (by decide) ?_; clear hf a; intro a hf
          refine gL hf (g_ext hf rfl rfl) (by decide) ?_; clear hf a; intro a hf
          refine gL hf (g_ext hf rfl rfl) (by decide) ?_; clear hf a; intro a hf
          refine vL hf (v_alloc hs T40 rfl) (by decide) ?_; clear hs hf a; rintro _ w ⟨b11, rfl, hs⟩ a hf
          refine uL (u_stW hf hs T40 rfl rfl rfl (k := 0) rfl rfl rfl) ?_; clear hs; intro w hs; dsimp only [List.set] at hs
          refine gL hf (g_as hf rfl) (by decide) ?_; clear hf a; intro a hf
          refine e_nil ?_
          refine c_reg ?_
          refine gL hf (g_ldW hf hs T28 rfl (k := 7) rfl rfl) (by decide) ?_; clear hf a; intro a hf
          have h9 := c_TotalH (knW k i (kn4 (k.ws.getD i default) n1 n2 n3 n4)) fA fc rA rc (some ⟨bcx, 0, none⟩) (csx.size / 6) ge gz _ (show BkIn (knW k i (kn4 (k.ws.getD i default) n1 n2 n3 n4)) fA fc rA rc (some ⟨bcx, 0, none⟩) (csx.size / 6) _ from ⟨⟨hs.rd (.tail _ (.tail _ (.head _))), hs.rd (.tail _ (.tail _ (.tail _ (.head _)))), h.sh.fc_, h.sh.rc_⟩, hs.rd (.tail _ (.head _)), by rw [knW_len]; exact hcapx, hs.rd (.head _)⟩) (hs.rd (.tail _ (.tail _ (.tail _ (.tail _ (.tail _ (.tail _ (.head _)))))))) te tz (hs.rd (.tail _ (.tail _ (.tail _ (.tail _ (.tail _ (.tail _ (.tail _ (.head _)))))))))
          simp only [bkV, knW_len] at h9
          refine callL hf hs (h9) rfl rfl rfl E27 (by decide) ?_; clear hs hf a; intro w a hs hf
          refine gL hf (g_mv hf rfl) (by decide) ?_; clear hf a; intro a hf
          refine gL hf (g_ext hf rfl rfl) (by decide) ?_; clear hf a; intro a hf
          refine gL hf (g_ext hf rfl rfl) (by decide) ?_; clear hf a; intro a hf
          refine vL hf (v_alloc hs T40 rfl) (by decide) ?_; clear hs hf a; rintro _ w ⟨b12, rfl, hs⟩ a hf
          refine uL (u_stW hf hs T40 rfl rfl rfl (k := 0) rfl rfl rfl) ?_; clear hs; intro w hs; dsimp only [List.set] at hs
          refine gL hf (g_as hf rfl) (by decide) ?_; clear hf a; intro a hf
          refine e_nil ?_
          refine c_reg ?_
          refine gL hf (g_mv hf rfl) (by decide) ?_; clear hf a; intro a hf
          refine gL hf (g_mv hf rfl) (by decide) ?_; clear hf a; intro a hf
          refine gL hf (g_eql hf rfl rfl) (by decide) ?_; clear hf a; intro a hf
          refine gL hf (g_mv hf rfl) (by decide) ?_; clear hf a; intro a hf
          refine ggL hf rfl rfl (gyes_t _) (fun hg => g_mv hf rfl) (by decide) ?_; clear hf a; intro a hf
          refine ggL hf rfl rfl (gyes_t _) (fun hg => g_neq hf (ev_gv rfl hg) rfl) (by decide) ?_; clear hf a; intro a hf
          refine ggL hf rfl rfl (gyes_t _) (fun hg => g_mv hf (ev_gv rfl hg)) (by decide) ?_; clear hf a; intro a hf
          refine ggL hf rfl rfl (gyes_gf _ _) (fun hg => g_ldW hf hs T40 rfl (k := 1) rfl rfl) (by decide) ?_; clear hf a; intro a hf
          refine ggL hf rfl rfl (gyes_gf _ _) (fun hg => g_ldW hf hs T40 rfl (k := 0) rfl rfl) (by decide) ?_; clear hf a; intro a hf
          refine callG hf hs rfl rfl (gyes_gf _ _) (fun hg => ⟨_, _, _, _, c_Wraps _ _ _ _ _, rfl, evs_cons (ev_gv rfl hg) (evs_cons (ev_gv rfl hg) evs_nil), rfl⟩) E54 (by decide) ?_; clear hs hf a; intro w a hs hf
          refine ggL hf rfl rfl (gyes_t _) (fun hg => g_or hf (ev_gv rfl hg) (ev_gvand rfl hg)) (by decide) ?_; clear hf a; intro a hf
          refine gL hf (g_and hf rfl rfl) (by decide) ?_; clear hf a; intro a hf
          refine gL hf (g_mv hf rfl) (by decide) ?_; clear hf a; intro a hf
          refine callG hf hs rfl rfl (gyes_t _) (fun hg => ⟨_, _, _, _, c_paid ge gz te tz _ (hs.rd (.tail _ (.tail _ (.tail _ (.tail _ (.tail _ (.tail _ (.head _)))))))) (hs.rd (.tail _ (.tail _ (.tail _ (.tail _ (.tail _ (.tail _ (.tail _ (.head _))))))))), rfl, evs_nil, rfl⟩) E40 (by decide) ?_; clear hs hf a; intro w a hs hf
          refine gL hf (g_and hf rfl rfl) (by decide) ?_; clear hf a; intro a hf
          refine gL hf (g_as hf rfl) (by decide) ?_; clear hf a; intro a hf
          refine e_nil ?_
          refine c_ret ?_
          refine e_ret1 hf rfl rfl ?_
          refine ⟨?_, hs.below⟩
          obtain ⟨g1, g2⟩ := total_kn hv hi hy hsx hsy hw2
          rw [g1]
          by_cases g3 : (totalP k).2 = 0
          · rw [decide_eq_true (g2 g3).1, decide_eq_true (g2 g3).2]; simp
          · rw [show ((totalP k).2 != 0) = true by simpa using g3]; simp

end Go.Proofs.YtjjcopeedcdokaaDoor

set_option linter.unusedVariables false
namespace Go.Proofs.YtjjcopeedcdokaaDoor
open Go.ChangeShapes Go.WideShapes Go.ChangeAt Go.RowKit
set_option maxRecDepth 100000 in
theorem lifted12 (os : Os) (started : os.Started) (H : Type) (enc : TypeId × Value → H) :
    ReturnsInHanded {} Tryd.checked os 12 .any (fun w args => (Rows.homeKnowsSpec.pre enc Tryd.prog Tryd.f12 [] false w args ∧ laidMetH Tryd.prog laid1 w) ∧ sizedMet enc Tryd.prog Tryd.f12 (OpenSpec.ofChange Rows.homeKnowsSpec) false w args)
      (Rows.homeKnowsSpec.post enc Tryd.prog Tryd.f12 false true false false) := by
  refine returnsInHanded_of_change_and (C := Tryd.checked) (X := fun w _ => laidMetH Tryd.prog laid1 w) (fun _ _ _ hh h => h.of_heap hh) pOwn started (by kernel_rfl) Tryd.func12
    (ChangeSpec.witness_shaped (enc := enc) (C := Tryd.checked) (os := os) (X := fun w _ => laidMetH Tryd.prog laid1 w) false (World.doorLaid Tryd.prog 600 os) #[.agg #[.int .i64 0, .int .i64 0, .slice none 0 0, .slice none 0 0, .int .i64 0, .int .i64 0, .int .i64 0, .slice none 0 0], .agg #[.int .i64 0, .int .i64 0, .int .i64 0, .int .i64 0, .int .i64 0]] 8 rfl (World.shaped_of_RefB (by kernel_rfl) (by kernel_rfl)) (by kernel_rfl) (by kernel_rfl) (by kernel_rfl) (door_met os _)) ?_
  intro W base args ds gs before hval0 hW _ _ hL _
  have hval : ∀ (j : Nat) t v, Tryd.f12.params[j]? = some t → args[j]? = some v → Value.okWide Tryd.prog W .any base t v := hval0
  have hW' := hW
  obtain ⟨p, q, hA0, hV, rfl, hfz, hnd⟩ := hW
  have hA : DataW.TrodAll enc Tryd.prog W 0 (fun _ => true) true Tryd.f12.params.toList args.toList ds p := hA0
  have hA9 := hA
  rw [Tryd.params12] at hA hval
  obtain ⟨v0, v1, d0, d1, p0, p1, rfl, rfl, rfl, h0, h1⟩ := trodAll_two hA
  obtain ⟨rfl, rfl⟩ := trodVars_none hV
  obtain ⟨k, fA, fc, rA, rc, wA, wc, rfl, hbk⟩ := open_book (hval 0 28 v0 rfl rfl) h0
  obtain ⟨n0, n1, n2, n3, n4, rfl⟩ := open_five (hval 1 65 v1 rfl rfl) h1
  obtain ⟨ge, gz, hG⟩ := of_laid hL
  obtain ⟨te, tz, hT⟩ := of_told hL
  refine (c_HomeKnows k fA fc rA rc wA wc ge gz n0 n1 n2 n3 n4 W hbk hG te tz hT).mono fun e W' ⟨he, hb⟩ => ?_
  subst he
  exact ⟨_, rfl, law_post rfl rfl rfl (by kernel_rfl) hW' rfl hA9 hb⟩
theorem row12 : Rows.HomeKnowsSaid :=
  OpenClaim.holds_of_wide 12 Tryd.f12 rfl rfl rfl rfl rfl rfl rfl ⟨rfl, rfl, rfl, rfl, rfl⟩ rfl rfl rfl rfl rfl (by kernel_rfl) Tryd.func12 (by kernel_rfl)
    (of_decide_eq_true (by kernel_rfl)) (by unfold Func.isWrapper; first | (rw [if_pos (by decide +kernel)]; kernel_rfl) | (rw [if_neg (by decide +kernel)]; exact ⟨rfl, rfl⟩))
    (fun os started H enc _ => lifted12 os started H enc)
/-- The card. -/
theorem homeKnows_holds : Rows.HomeKnowsCardSaid :=
  Claim7.holds_tied_plain_at .later [] [.funcs, .funcs] true (true, "812014c6ba21101d15e02d82012ffa61e4b3f2f84e9c736658d12c12a3cb442a") false
    row12 (fun _ h => by cases h) (by kernel_rfl) (fun _ h => by cases h) homeKnows_row_tie rfl ⟨rfl, rfl⟩ (by kernel_rfl) rfl
    (fun f fn hf hfn => by
      obtain rfl : f = 12 := Option.some.inj ((show Tryd.prog.funcNamed "lucifer/luciferlaw09.HomeKnows" = some 12 by kernel_rfl).symm.trans hf) |>.symm
      obtain rfl : fn = Tryd.f12 := (Option.some.inj (Tryd.func12.symm.trans hfn)).symm
      exact ⟨by kernel_rfl, fun j t ht => by
        rw [Tryd.params12] at ht
        have hm : t ∈ [28, 65] := by simpa using Array.mem_of_getElem? ht
        have hall : ([28, 65].all fun u => !Tryd.prog.wantsStandIn u) = true := by kernel_rfl
        exact (show Tryd.prog.wantsStandIn t = false by simpa using List.all_eq_true.1 hall t hm)⟩)
    (by kernel_rfl)
#print axioms homeKnows_holds
end Go.Proofs.YtjjcopeedcdokaaDoor

