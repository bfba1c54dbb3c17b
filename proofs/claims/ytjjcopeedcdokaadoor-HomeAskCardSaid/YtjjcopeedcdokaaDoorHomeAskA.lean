/- For every book and number the law HomeAsk returns true, and its arguments read afterwards as before: whose boxes should be counted. Conditions: the tables of the sides and of what is told hold what the text of the program lays. -/
import Derived.Test.YtjjcopeedcdokaaDoorComF
import Derived.Test.YtjjcopeedcdokaaDoorTie
import Derived.Test.YtjjcopeedcdokaaDoorCards
set_option linter.unusedVariables false
set_option linter.unusedSimpArgs false
namespace Go.Proofs.YtjjcopeedcdokaaDoor
open Go.RowKit
theorem most_spec (f : Nat → Int) : ∀ n : Nat, ((mostTo f n).2 = 0 ∧ (mostTo f n).1 = 0 ∧ ∀ w, w < n → f w ≤ 0) ∨ ∃ a, a < n ∧ mostTo f n = (((a : Nat) : Int), f a) ∧ 0 < f a ∧ ∀ w, w < n → f w ≤ f a ∧ (f w = f a → a ≤ w)
  | 0 => .inl ⟨rfl, rfl, fun w h => absurd h (by omega)⟩
  | n + 1 => by
    rcases most_spec f n with ⟨h1, h2, h3⟩ | ⟨a, h1, h2, h3, h4⟩
    · by_cases h : (mostTo f n).2 < f n
      · rw [most_yes h]
        refine .inr ⟨n, by omega, rfl, by omega, fun w hw => ?_⟩
        by_cases hwn : w = n
        · subst hwn; exact ⟨Int.le_refl _, fun _ => Nat.le_refl _⟩
        · have := h3 w (by omega)
          exact ⟨by omega, fun e => by omega⟩
      · rw [most_no h]
        refine .inl ⟨h1, h2, fun w hw => ?_⟩
        by_cases hwn : w = n
        · subst hwn; omega
        · exact h3 w (by omega)
    · by_cases h : (mostTo f n).2 < f n
      · rw [most_yes h]
        rw [h2] at h
        simp only at h
        refine .inr ⟨n, by omega, rfl, by omega, fun w hw => ?_⟩
        by_cases hwn : w = n
        · subst hwn; exact ⟨Int.le_refl _, fun _ => Nat.le_refl _⟩
        · have := (h4 w (by omega)).1
          exact ⟨by omega, fun e => by omega⟩
      · rw [most_no h]
        rw [h2] at h
        simp only at h
        refine .inr ⟨a, by omega, h2, h3, fun w hw => ?_⟩
        by_cases hwn : w = n
        · subst hwn; exact ⟨by omega, fun _ => by omega⟩
        · exact h4 w (by omega)
theorem most_cases (f : Nat → Int) (n : Nat) : (mostP f n = (0, 4) ∧ ∀ w, w < n → f w ≤ 0) ∨ ∃ a, a < n ∧ mostP f n = (((a : Nat) : Int), 0) ∧ 0 < f a ∧ ∀ w, w < n → f w ≤ f a ∧ (f w = f a → a ≤ w) := by
  unfold mostP
  rcases most_spec f n with ⟨h1, h2, h3⟩ | ⟨a, h1, h2, h3, h4⟩
  · rw [if_pos h1]; exact .inl ⟨rfl, h3⟩
  · rw [h2, if_neg (by simp only; omega)]
    exact .inr ⟨a, h1, rfl, h3, h4⟩
theorem wrong_nil {k : Bk} (h : wrongL k = []) {i : Nat} (hi : i < k.ws.length) : rightB (k.ws.getD i default) = true := by
  unfold wrongL wrongTo at h
  have h1 := List.map_eq_nil_iff.1 h
  have h2 := (List.filter_eq_nil_iff.1 h1) i (List.mem_range.2 hi)
  simpa using h2
theorem wrongP_ok {k : Bk} (hb : hckB k = true) : wrongP k = (wrongL k, 0) := by rw [wrongP, hb]; rfl
theorem togE_ok {k : Bk} (hb : hckB k = true) : togE k = if wrongL k = [] then 0 else 92 := by unfold togE; rw [if_pos hb]
abbrev farZ (k : Bk) (w : Nat) : Int := (ofZ k 2 (k.ws.getD w default)).2 - (ofZ k 2 (k.ws.getD w default)).1
theorem ask_cases {k : Bk} (hb : hckB k = true) : (wrongL k ≠ [] ∧ askP k = (0, 92)) ∨ (wrongL k = [] ∧ askP k = mostP (farZ k) k.ws.length) := by
  unfold askP
  rw [togE_ok hb]
  by_cases h : wrongL k = []
  · exact .inr ⟨h, by rw [if_pos h, if_pos rfl]⟩
  · exact .inl ⟨h, by simp [h]⟩
theorem ask_dead {k : Bk} (hb : hckB k = true) : (((((wrongP k).2 != 0) || (((askP k).2 == 92) != decide ((0 : Int) < (((wrongP k).1.length : Nat) : Int)))) || (((askP k).2 != 0) && (((askP k).1 != 0) || (((askP k).2 != 92) && ((askP k).2 != 4))))) || (((askP k).2 == 0) && !fitsB (askP k).1 0 (((k.ws.length : Nat) : Int) - 1))) = false := by
  rw [wrongP_ok hb]
  rcases ask_cases hb with ⟨h1, h2⟩ | ⟨h1, h3⟩
  · rw [h2]
    have := List.length_pos_iff.2 h1
    simp; omega
  · rw [h3, h1]
    rcases most_cases (farZ k) k.ws.length with ⟨h4, _⟩ | ⟨a, ha, h4, _⟩
    · rw [h4]; simp
    · rw [h4]; simp [fitsB]; omega
end Go.Proofs.YtjjcopeedcdokaaDoor

set_option linter.unusedVariables false
set_option linter.unusedSimpArgs false
namespace Go.Proofs.YtjjcopeedcdokaaDoor
open Go.RowKit
end Go.Proofs.YtjjcopeedcdokaaDoor

set_option linter.unusedVariables false
set_option linter.unusedSimpArgs false
namespace Go.Proofs.YtjjcopeedcdokaaDoor
open Go.RowKit
theorem c_HomeAsk (k : Bk) (fA : Option Addr) (fc : Nat) (rA : Option Addr) (rc : Nat) (wA : Option Addr) (wc : Nat) (ge : TypeId) (gz : Nat × Nat) (n : Int) (w0 : World) (h : BkIn k fA fc rA rc wA wc w0) (hG : BlkIs 1 sidesA ge gz w0) (te : TypeId) (tz : Nat × Nat) (hT : BlkIs 0 toldA te tz w0) :
    Calls Tryd.prog 14 #[.agg #[.int .i64 k.sh.wide, .int .i64 k.sh.high, .slice fA k.sh.flaps.length fc, .slice rA k.sh.rules.length rc, .int .i64 k.gross, .int .i64 k.pay, .int .i64 k.fine, .slice wA k.ws.length wc], .int .i64 n] w0 (Ret w0 (.bool true)) := by
  refine c_enter (n := 141) Tryd.func14 rfl rfl (Nat.le_of_ble_eq_true rfl) ?_; intro a hf; simp only [zipR] at hf
  have hs := St.start w0 [Rd encF 5 fA k.sh.flaps.length k.sh.flaps, Rd encR 2 rA k.sh.rules.length k.sh.rules, Rd encW 6 wA k.ws.length k.ws, OrdD k.ws, BlkIs 1 sidesA ge gz, BlkIs 0 toldA te tz] (stab_app (stab_app h.stab hG.st1) hT.st1)
  have hwm := h.W.2.1
  refine c_reg ?_
  refine vL hf (v_boxA hf hs rfl) (by decide) ?_; clear hs hf a; rintro _ w ⟨b1, rfl, hs⟩ a hf
  refine gL hf (g_as hf rfl) (by decide) ?_; clear hf a; intro a hf
  refine e_nil ?_
  refine wp_seq ?_
  refine c_reg ?_
  refine gL hf (g_ldW hf hs T28 rfl (k := 0) rfl rfl) (by decide) ?_; clear hf a; intro a hf
  refine callL hf hs (c_soundH k _ _ _ _ _ _ ge gz _ ⟨⟨hs.rd (.head _), hs.rd (.tail _ (.head _)), h.sh.fc_, h.sh.rc_⟩, hs.rd (.tail _ (.tail _ (.head _))), h.wc_, hs.rd (.tail _ (.tail _ (.tail _ (.head _))))⟩ (hs.rd (.tail _ (.tail _ (.tail _ (.tail _ (.head _))))))) rfl rfl rfl E48 (by decide) ?_; clear hs hf a; intro w a hs hf
  refine gL hf (g_not hf rfl) (by decide) ?_; clear hf a; intro a hf
  refine e_nil ?_
  refine c_cond hf rfl (fun hc1 => ?_) (fun hc1 => ?_)
  · skip
    refine c_reg ?_
    refine callL hf hs (c_paid ge gz te tz _ (hs.rd (.tail _ (.tail _ (.tail _ (.tail _ (.head _)))))) (hs.rd (.tail _ (.tail _ (.tail _ (.tail _ (.tail _ (.head _)))))))) rfl rfl rfl E40 (by decide) ?_; clear hs hf a; intro w a hs hf
    refine gL hf (g_as hf rfl) (by decide) ?_; clear hf a; intro a hf
    refine e_nil ?_
    refine c_ret (q_thenR ?_)
    refine e_ret1 hf rfl rfl ?_
    exact ⟨rfl, hs.below⟩
  · skip
    have hck : hckB k = true := by simpa using hc1
    have hv := hck_iff.1 hck; have hwn := hv.n
    refine c_skip (q_thenN ?_)
    refine c_reg ?_
    refine gL hf (g_ldW hf hs T28 rfl (k := 0) rfl rfl) (by decide) ?_; clear hf a; intro a hf
    refine callL hf hs (c_AskH k _ _ _ _ _ _ ge gz  _ ⟨⟨hs.rd (.head _), hs.rd (.tail _ (.head _)), h.sh.fc_, h.sh.rc_⟩, hs.rd (.tail _ (.tail _ (.head _))), h.wc_, hs.rd (.tail _ (.tail _ (.tail _ (.head _))))⟩ (hs.rd (.tail _ (.tail _ (.tail _ (.tail _ (.head _)))))) te tz (hs.rd (.tail _ (.tail _ (.tail _ (.tail _ (.tail _ (.head _)))))))) rfl rfl rfl E46 (by decide) ?_; clear hs hf a; intro w a hs hf
    refine gL hf (g_mv hf rfl) (by decide) ?_; clear hf a; intro a hf
    refine gL hf (g_ext hf rfl rfl) (by decide) ?_; clear hf a; intro a hf
    refine gL hf (g_ext hf rfl rfl) (by decide) ?_; clear hf a; intro a hf
    refine gL hf (g_as hf rfl) (by decide) ?_; clear hf a; intro a hf
    refine gL hf (g_as hf rfl) (by decide) ?_; clear hf a; intro a hf
    refine e_nil ?_
    refine c_reg ?_
    refine gL hf (g_ldW hf hs T28 rfl (k := 0) rfl rfl) (by decide) ?_; clear hf a; intro a hf
    refine callX hf hs (c_WrongH k _ _ _ _ _ _ ge gz _ ⟨⟨hs.rd (.head _), hs.rd (.tail _ (.head _)), h.sh.fc_, h.sh.rc_⟩, hs.rd (.tail _ (.tail _ (.head _))), h.wc_, hs.rd (.tail _ (.tail _ (.tail _ (.head _))))⟩ (hs.rd (.tail _ (.tail _ (.tail _ (.tail _ (.head _))))))) rfl rfl rfl E20 (by decide) ?_; intro v w1 a hR hb hs1 hf; obtain ⟨Ap, cp, rfl, hou⟩ := hR; replace hs := hs.fresh hs1 (outFresh hou); clear hs1 hb
    refine gL hf (g_mv hf rfl) (by decide) ?_; clear hf a; intro a hf
    refine gL hf (g_ext hf rfl rfl) (by decide) ?_; clear hf a; intro a hf
    refine gL hf (g_ext hf rfl rfl) (by decide) ?_; clear hf a; intro a hf
    refine gL hf (g_as hf rfl) (by decide) ?_; clear hf a; intro a hf
    refine gL hf (g_as hf rfl) (by decide) ?_; clear hf a; intro a hf
    refine e_nil ?_
    refine wp_seq ?_
    refine c_reg ?_
    refine gL hf (g_mv hf rfl) (by decide) ?_; clear hf a; intro a hf
    refine gL hf (g_neq hf rfl rfl) (by decide) ?_; clear hf a; intro a hf
    refine gL hf (g_mv hf rfl) (by decide) ?_; clear hf a; intro a hf
    refine ggL hf rfl rfl (gyes_f _) (fun hg => g_mv hf rfl) (by decide) ?_; clear hf a; intro a hf
    refine ggL hf rfl rfl (gyes_f _) (fun hg => g_eql hf (ev_gv rfl hg) rfl) (by decide) ?_; clear hf a; intro a hf
    refine ggL hf rfl rfl (gyes_f _) (fun hg => g_mv hf rfl) (by decide) ?_; clear hf a; intro a hf
    refine ggL hf rfl rfl (gyes_f _) (fun hg => g_len hf SL31 (ev_gv rfl hg)) (by decide) ?_; clear hf a; intro a hf
    refine ggL hf rfl rfl (gyes_f _) (fun hg => g_gtr hf (ev_gv rfl hg) rfl) (by decide) ?_; clear hf a; intro a hf
    refine ggL hf rfl rfl (gyes_f _) (fun hg => g_neqB hf B4 (ev_gv rfl hg) (ev_gv rfl hg)) (by decide) ?_; clear hf a; intro a hf
    refine gL hf (g_or hf rfl rfl) (by decide) ?_; clear hf a; intro a hf
    refine gL hf (g_mv hf rfl) (by decide) ?_; clear hf a; intro a hf
    refine ggL hf rfl rfl (gyes_f _) (fun hg => g_mv hf rfl) (by decide) ?_; clear hf a; intro a hf
    refine ggL hf rfl rfl (gyes_f _) (fun hg => g_neq hf (ev_gv rfl hg) rfl) (by decide) ?_; clear hf a; intro a hf
    refine ggL hf rfl rfl (gyes_f _) (fun hg => g_mv hf (ev_gv rfl hg)) (by decide) ?_; clear hf a; intro a hf
    refine ggL hf rfl rfl (gyes_gt _ _) (fun hg => g_mv hf rfl) (by decide) ?_; clear hf a; intro a hf
    refine ggL hf rfl rfl (gyes_gt _ _) (fun hg => g_neq hf (ev_gv rfl hg) rfl) (by decide) ?_; clear hf a; intro a hf
    refine ggL hf rfl rfl (gyes_gt _ _) (fun hg => g_mv hf (ev_gv rfl hg)) (by decide) ?_; clear hf a; intro a hf
    refine ggL hf rfl rfl (gyes_gf _ _) (fun hg => g_mv hf rfl) (by decide) ?_; clear hf a; intro a hf
    refine ggL hf rfl rfl (gyes_gf _ _) (fun hg => g_neq hf (ev_gv rfl hg) rfl) (by decide) ?_; clear hf a; intro a hf
    refine ggL hf rfl rfl (gyes_gf _ _) (fun hg => g_mv hf (ev_gv rfl hg)) (by decide) ?_; clear hf a; intro a hf
    refine ggL hf rfl rfl (gyes_gt _ _) (fun hg => g_mv hf rfl) (by decide) ?_; clear hf a; intro a hf
    refine ggL hf rfl rfl (gyes_gt _ _) (fun hg => g_neq hf (ev_gv rfl hg) rfl) (by decide) ?_; clear hf a; intro a hf
    refine ggL hf rfl rfl (gyes_gf _ _) (fun hg => g_and hf (ev_gv rfl hg) (ev_gvand rfl hg)) (by decide) ?_; clear hf a; intro a hf
    refine ggL hf rfl rfl (gyes_gt _ _) (fun hg => g_or hf (ev_gv rfl hg) (ev_gvand rfl hg)) (by decide) ?_; clear hf a; intro a hf
    refine ggL hf rfl rfl (gyes_f _) (fun hg => g_and hf (ev_gv rfl hg) (ev_gvand rfl hg)) (by decide) ?_; clear hf a; intro a hf
    refine gL hf (g_or hf rfl rfl) (by decide) ?_; clear hf a; intro a hf
    refine gL hf (g_mv hf rfl) (by decide) ?_; clear hf a; intro a hf
    refine ggL hf rfl rfl (gyes_f _) (fun hg => g_mv hf rfl) (by decide) ?_; clear hf a; intro a hf
    refine ggL hf rfl rfl (gyes_f _) (fun hg => g_eql hf (ev_gv rfl hg) rfl) (by decide) ?_; clear hf a; intro a hf
    refine ggL hf rfl rfl (gyes_f _) (fun hg => g_mv hf (ev_gv rfl hg)) (by decide) ?_; clear hf a; intro a hf
    refine ggL hf rfl rfl (gyes_gt _ _) (fun hg => g_mv hf rfl) (by decide) ?_; clear hf a; intro a hf
    refine ggL hf rfl rfl (gyes_gt _ _) (fun hg => g_fa (off' := 7) hf F28_4 rfl rfl) (by decide) ?_; clear hf a; intro a hf
    refine ggL hf rfl rfl (gyes_gt _ _) (fun hg => g_ld hf hs T26 (ev_gv rfl hg) (k := 0) rfl rfl) (by decide) ?_; clear hf a; intro a hf
    refine ggL hf rfl rfl (gyes_gt _ _) (fun hg => g_len hf SL26 (ev_gv rfl hg)) (by decide) ?_; clear hf a; intro a hf
    refine ggL hf rfl rfl (gyes_gt _ _) (fun hg => g_subI hf (ev_gv rfl hg) rfl (by omega)) (by decide) ?_; clear hf a; intro a hf
    refine callG hf hs rfl rfl (gyes_gt _ _) (fun hg => ⟨_, _, _, _, c_Fits _ _ _ _, rfl, evs_cons (ev_gv rfl hg) (evs_cons rfl (evs_cons (ev_gv rfl hg) evs_nil)), rfl⟩) E26 (by decide) ?_; clear hs hf a; intro w a hs hf
    refine ggL hf rfl rfl (gyes_gt _ _) (fun hg => g_not hf (ev_gv rfl hg)) (by decide) ?_; clear hf a; intro a hf
    refine ggL hf rfl rfl (gyes_f _) (fun hg => g_and hf (ev_gv rfl hg) (ev_gvand rfl hg)) (by decide) ?_; clear hf a; intro a hf
    refine gL hf (g_or hf rfl rfl) (by decide) ?_; clear hf a; intro a hf
    refine e_nil ?_
    refine c_cond hf rfl (fun hc2 => ?_) (fun hc2 => ?_)
    · skip
      rw [ask_dead hck] at hc2; cases hc2
    · skip
      refine c_skip (q_thenN ?_)
      refine wp_seq ?_
      refine c_reg ?_
      refine gL hf (g_mv hf rfl) (by decide) ?_; clear hf a; intro a hf
      refine gL hf (g_len hf SL31 rfl) (by decide) ?_; clear hf a; intro a hf
      refine gL hf (g_gtr hf rfl rfl) (by decide) ?_; clear hf a; intro a hf
      refine gL hf (g_mv hf rfl) (by decide) ?_; clear hf a; intro a hf
      refine ggL hf rfl rfl (gyes_f _) (fun hg => g_fa (off' := 7) hf F28_4 rfl rfl) (by decide) ?_; clear hf a; intro a hf
      refine ggL hf rfl rfl (gyes_f _) (fun hg => g_ld hf hs T26 (ev_gv rfl hg) (k := 0) rfl rfl) (by decide) ?_; clear hf a; intro a hf
      refine ggL hf rfl rfl (gyes_f _) (fun hg => g_len hf SL26 (ev_gv rfl hg)) (by decide) ?_; clear hf a; intro a hf
      refine ggL hf rfl rfl (gyes_f _) (fun hg => g_eql hf (ev_gv rfl hg) rfl) (by decide) ?_; clear hf a; intro a hf
      refine gL hf (g_or hf rfl rfl) (by decide) ?_; clear hf a; intro a hf
      refine e_nil ?_
      refine c_cond hf rfl (fun hc3 => ?_) (fun hc3 => ?_)
      · skip
        refine c_reg ?_
        refine callL hf hs (c_paid ge gz te tz _ (hs.rd (.tail _ (.tail _ (.tail _ (.tail _ (.tail _ (.head _))))))) (hs.rd (.tail _ (.tail _ (.tail _ (.tail _ (.tail _ (.tail _ (.head _))))))))) rfl rfl rfl E40 (by decide) ?_; clear hs hf a; intro w a hs hf
        refine gL hf (g_as hf rfl) (by decide) ?_; clear hf a; intro a hf
        refine e_nil ?_
        refine c_ret (q_thenR ?_)
        refine e_ret1 hf rfl rfl ?_
        exact ⟨rfl, hs.below⟩
      · skip
        rw [wrongP_ok hck] at hc3
        rw [Bool.or_eq_false_iff] at hc3
        have hwn0 : wrongL k = [] := List.eq_nil_of_length_eq_zero (by have := of_decide_eq_false hc3.1; simp only at this; omega)
        have hpos : 0 < k.ws.length := by have h2 := hc3.2; simp only [beq_eq_false_iff_ne] at h2; omega
        have htc : askP k = mostP (farZ k) k.ws.length := ((ask_cases hck).resolve_left fun h => h.1 hwn0).2
        refine c_skip (q_thenN ?_)
        refine c_reg ?_
        refine gL hf (g_mv hf rfl) (by decide) ?_; clear hf a; intro a hf
        refine gL hf (g_fa (off' := 7) hf F28_4 rfl rfl) (by decide) ?_; clear hf a; intro a hf
        refine gL hf (g_ld hf hs T26 rfl (k := 0) rfl rfl) (by decide) ?_; clear hf a; intro a hf
        refine gL hf (g_len hf SL26 rfl) (by decide) ?_; clear hf a; intro a hf
        refine callL hf hs (c_Spin _ _ (by omega) _) rfl rfl rfl E22 (by decide) ?_; clear hs hf a; intro w a hs hf
        obtain ⟨i, hie, hi⟩ := some_nat (n := n) hpos
        rw [hie] at hf
        have hx := hv.wk hi
        refine gL hf (g_as hf rfl) (by decide) ?_; clear hf a; intro a hf
        refine e_nil ?_
        refine c_reg ?_
        refine gL hf (g_ldW hf hs T28 rfl (k := 0) rfl rfl) (by decide) ?_; clear hf a; intro a hf
        refine gL hf (g_mv hf rfl) (by decide) ?_; clear hf a; intro a hf
        have h9 := c_GetsH k _ _ _ _ _ _ ge gz ((i : Nat) : Int) _ ⟨⟨hs.rd (.tail _ (.head _)), hs.rd (.tail _ (.tail _ (.head _))), h.sh.fc_, h.sh.rc_⟩, hs.rd (.tail _ (.tail _ (.tail _ (.head _)))), h.wc_, hs.rd (.tail _ (.tail _ (.tail _ (.tail _ (.head _)))))⟩ (hs.rd (.tail _ (.tail _ (.tail _ (.tail _ (.tail _ (.head _))))))) te tz (hs.rd (.tail _ (.tail _ (.tail _ (.tail _ (.tail _ (.tail _ (.head _))))))))
        rw [tk_eq hck hi 2, tk_yes (wrong_nil hwn0 hi)] at h9; dsimp only at h9
        refine callL hf hs (h9) rfl rfl rfl E38 (by decide) ?_; clear hs hf a; intro w a hs hf
        refine gL hf (g_mv hf rfl) (by decide) ?_; clear hf a; intro a hf
        refine gL hf (g_ext hf rfl rfl) (by decide) ?_; clear hf a; intro a hf
        refine gL hf (g_ext hf rfl rfl) (by decide) ?_; clear hf a; intro a hf
        refine vL hf (v_alloc hs T40 rfl) (by decide) ?_; clear hs hf a; rintro _ w ⟨b2, rfl, hs⟩ a hf
        refine uL (u_stW hf hs T40 rfl rfl rfl (k := 0) rfl rfl rfl) ?_; clear hs; intro w hs; dsimp only [List.set] at hs
        refine gL hf (g_as hf rfl) (by decide) ?_; clear hf a; intro a hf
        refine e_nil ?_
        obtain ⟨ja, ha, hae⟩ : ∃ a : Nat, a < k.ws.length ∧ (askP k).1 = ((a : Nat) : Int) := by
          rcases most_cases (farZ k) k.ws.length with ⟨h4, _⟩ | ⟨a, h5, h4, _⟩
          · exact ⟨0, hpos, by rw [htc, h4]; rfl⟩
          · exact ⟨a, h5, by rw [htc, h4]⟩
        rw [hae] at hf
        have hq1 := ofZ_rng (what := 2) hv (hv.wk hi) (by decide); have hq2 := ofZ_rng (what := 2) hv (hv.wk ha) (by decide)
        refine c_reg ?_
        refine gL hf (g_ldW hf hs T28 rfl (k := 1) rfl rfl) (by decide) ?_; clear hf a; intro a hf
        refine gL hf (g_mv hf rfl) (by decide) ?_; clear hf a; intro a hf
        have h9 := c_GetsH k _ _ _ _ _ _ ge gz ((ja : Nat) : Int) _ ⟨⟨hs.rd (.tail _ (.head _)), hs.rd (.tail _ (.tail _ (.head _))), h.sh.fc_, h.sh.rc_⟩, hs.rd (.tail _ (.tail _ (.tail _ (.head _)))), h.wc_, hs.rd (.tail _ (.tail _ (.tail _ (.tail _ (.head _)))))⟩ (hs.rd (.tail _ (.tail _ (.tail _ (.tail _ (.tail _ (.head _))))))) te tz (hs.rd (.tail _ (.tail _ (.tail _ (.tail _ (.tail _ (.tail _ (.head _))))))))
        rw [tk_eq hck ha 2, tk_yes (wrong_nil hwn0 ha)] at h9; dsimp only at h9
        refine callL hf hs (h9) rfl rfl rfl E38 (by decide) ?_; clear hs hf a; intro w a hs hf
        refine gL hf (g_mv hf rfl) (by decide) ?_; clear hf a; intro a hf
        refine gL hf (g_ext hf rfl rfl) (by decide) ?_; clear hf a; intro a hf
        refine gL hf (g_ext hf rfl rfl) (by decide) ?_; clear hf a; intro a hf
        refine vL hf (v_alloc hs T40 rfl) (by decide) ?_; clear hs hf a; rintro _ w ⟨b3, rfl, hs⟩ a hf
        refine uL (u_stW hf hs T40 rfl rfl rfl (k := 0) rfl rfl rfl) ?_; clear hs; intro w hs; dsimp only [List.set] at hs
        refine gL hf (g_as hf rfl) (by decide) ?_; clear hf a; intro a hf
        refine e_nil ?_
        refine wp_seq ?_
        refine c_reg ?_
        refine gL hf (g_mv hf rfl) (by decide) ?_; clear hf a; intro a hf
        refine gL hf (g_neq hf rfl rfl) (by decide) ?_; clear hf a; intro a hf
        refine gL hf (g_mv hf rfl) (by decide) ?_; clear hf a; intro a hf
        refine ggL hf rfl rfl (gyes_f _) (fun hg => g_mv hf rfl) (by decide) ?_; clear hf a; intro a hf
        refine ggL hf rfl rfl (gyes_f _) (fun hg => g_neq hf (ev_gv rfl hg) rfl) (by decide) ?_; clear hf a; intro a hf
        refine gL hf (g_or hf rfl rfl) (by decide) ?_; clear hf a; intro a hf
        refine e_nil ?_
        refine c_cond hf rfl (fun hc4 => ?_) (fun hc4 => ?_)
        · skip
          cases hc4
        · skip
          refine c_skip (q_thenN ?_)
          refine wp_seq ?_
          refine c_reg ?_
          refine gL hf (g_mv hf rfl) (by decide) ?_; clear hf a; intro a hf
          refine gL hf (g_neq hf rfl rfl) (by decide) ?_; clear hf a; intro a hf
          refine e_nil ?_
          refine c_cond hf rfl (fun hc5 => ?_) (fun hc5 => ?_)
          · skip
            have hz : (ofZ k 2 (k.ws.getD i default)).1 = (ofZ k 2 (k.ws.getD i default)).2 := by
              rcases most_cases (farZ k) k.ws.length with ⟨_, h4⟩ | ⟨a, _, h4, _⟩
              · have := h4 i hi; unfold farZ at this; omega
              · rw [htc, h4] at hc5; simp at hc5
            refine c_reg ?_
            refine gL hf (g_fa (off' := 0) hf F40_0 rfl rfl) (by decide) ?_; clear hf a; intro a hf
            refine gL hf (g_ld hf hs T3 rfl (k := 1) rfl rfl) (by decide) ?_; clear hf a; intro a hf
            refine gL hf (g_fa (off' := 1) hf F40_1 rfl rfl) (by decide) ?_; clear hf a; intro a hf
            refine gL hf (g_ld hf hs T3 rfl (k := 1) rfl rfl) (by decide) ?_; clear hf a; intro a hf
            refine gL hf (g_eql hf rfl rfl) (by decide) ?_; clear hf a; intro a hf
            refine gL hf (g_mv hf rfl) (by decide) ?_; clear hf a; intro a hf
            refine callG hf hs rfl rfl (gyes_t _) (fun hg => ⟨_, _, _, _, c_paid ge gz te tz _ (hs.rd (.tail _ (.tail _ (.tail _ (.tail _ (.tail _ (.head _))))))) (hs.rd (.tail _ (.tail _ (.tail _ (.tail _ (.tail _ (.tail _ (.head _)))))))), rfl, evs_nil, rfl⟩) E40 (by decide) ?_; clear hs hf a; intro w a hs hf
            refine gL hf (g_and hf rfl rfl) (by decide) ?_; clear hf a; intro a hf
            refine gL hf (g_as hf rfl) (by decide) ?_; clear hf a; intro a hf
            refine e_nil ?_
            refine c_ret (q_thenR ?_)
            refine e_ret1 hf rfl rfl ?_
            exact ⟨by rw [hz]; simp, hs.below⟩
          · skip
            obtain ⟨a2, ha2, hta, hpa, hmax⟩ := (most_cases (farZ k) k.ws.length).resolve_left (fun h => by rw [htc, h.1] at hc5; simp at hc5)
            have haa : a2 = ja := by rw [htc, hta] at hae; simp only at hae; omega
            subst haa
            refine c_skip (q_thenN ?_)
            refine c_draw _ 12 Mx rfl hs (fun _ h => h) ?_; intro w hs hS
            refine gA hf hS (i := 0) rfl (by kernel_rfl) (fun w hs => g_fa (off' := 1) hf F40_1 rfl rfl) (by decide) ?_; clear hf a; intro a hf
            refine gA hf hS (i := 1) rfl (by kernel_rfl) (fun w hs => g_ld hf hs T3 rfl (k := 0) rfl rfl) (by decide) ?_; clear hf a; intro a hf
            refine gA hf hS (i := 2) rfl (by kernel_rfl) (fun w hs => g_fa (off' := 0) hf F40_0 rfl rfl) (by decide) ?_; clear hf a; intro a hf
            refine gA hf hS (i := 3) rfl (by kernel_rfl) (fun w hs => g_ld hf hs T3 rfl (k := 0) rfl rfl) (by decide) ?_; clear hf a; intro a hf
            refine gA hf hS (i := 4) rfl (by kernel_rfl) (fun w hs => g_subI hf rfl rfl (by omega)) (by decide) ?_; clear hf a; intro a hf
            refine gA hf hS (i := 5) rfl (by kernel_rfl) (fun w hs => g_fa (off' := 1) hf F40_1 rfl rfl) (by decide) ?_; clear hf a; intro a hf
            refine gA hf hS (i := 6) rfl (by kernel_rfl) (fun w hs => g_ld hf hs T3 rfl (k := 1) rfl rfl) (by decide) ?_; clear hf a; intro a hf
            refine gA hf hS (i := 7) rfl (by kernel_rfl) (fun w hs => g_fa (off' := 0) hf F40_0 rfl rfl) (by decide) ?_; clear hf a; intro a hf
            refine gA hf hS (i := 8) rfl (by kernel_rfl) (fun w hs => g_ld hf hs T3 rfl (k := 1) rfl rfl) (by decide) ?_; clear hf a; intro a hf
            refine gA hf hS (i := 9) rfl (by kernel_rfl) (fun w hs => g_subI hf rfl rfl (by omega)) (by decide) ?_; clear hf a; intro a hf
            refine gA hf hS (i := 10) rfl (by kernel_rfl) (fun w hs => g_as hf rfl) (by decide) ?_; clear hf a; intro a hf
            refine gA hf hS (i := 11) rfl (by kernel_rfl) (fun w hs => g_as hf rfl) (by decide) ?_; clear hf a; intro a hf
            refine e_done (by kernel_rfl) ?_
            refine c_reg ?_
            refine gL hf (g_mv hf rfl) (by decide) ?_; clear hf a; intro a hf
            refine gL hf (g_gtr hf rfl rfl) (by decide) ?_; clear hf a; intro a hf
            refine gL hf (g_mv hf rfl) (by decide) ?_; clear hf a; intro a hf
            refine ggL hf rfl rfl (gyes_t _) (fun hg => g_mv hf rfl) (by decide) ?_; clear hf a; intro a hf
            refine ggL hf rfl rfl (gyes_t _) (fun hg => g_mv hf rfl) (by decide) ?_; clear hf a; intro a hf
            refine ggL hf rfl rfl (gyes_t _) (fun hg => g_gtr hf (ev_gv rfl hg) (ev_gv rfl hg)) (by decide) ?_; clear hf a; intro a hf
            refine ggL hf rfl rfl (gyes_t _) (fun hg => g_mv hf (ev_gv rfl hg)) (by decide) ?_; clear hf a; intro a hf
            refine ggL hf rfl rfl (gyes_gf _ _) (fun hg => g_mv hf rfl) (by decide) ?_; clear hf a; intro a hf
            refine ggL hf rfl rfl (gyes_gf _ _) (fun hg => g_mv hf rfl) (by decide) ?_; clear hf a; intro a hf
            refine ggL hf rfl rfl (gyes_gf _ _) (fun hg => g_eql hf (ev_gv rfl hg) (ev_gv rfl hg)) (by decide) ?_; clear hf a; intro a hf
            refine ggL hf rfl rfl (gyes_gf _ _) (fun hg => g_mv hf (ev_gv rfl hg)) (by decide) ?_; clear hf a; intro a hf
            refine ggL hf rfl rfl (gyes_gt _ _) (fun hg => g_mv hf rfl) (by decide) ?_; clear hf a; intro a hf
            refine ggL hf rfl rfl (gyes_gt _ _) (fun hg => g_mv hf rfl) (by decide) ?_; clear hf a; intro a hf
            refine ggL hf rfl rfl (gyes_gt _ _) (fun hg => g_leq hf (ev_gv rfl hg) (ev_gv rfl hg)) (by decide) ?_; clear hf a; intro a hf
            refine ggL hf rfl rfl (gyes_gf _ _) (fun hg => g_and hf (ev_gv rfl hg) (ev_gvand rfl hg)) (by decide) ?_; clear hf a; intro a hf
            refine ggL hf rfl rfl (gyes_t _) (fun hg => g_or hf (ev_gv rfl hg) (ev_gvand rfl hg)) (by decide) ?_; clear hf a; intro a hf
            refine gL hf (g_and hf rfl rfl) (by decide) ?_; clear hf a; intro a hf
            refine gL hf (g_mv hf rfl) (by decide) ?_; clear hf a; intro a hf
            refine callG hf hs rfl rfl (gyes_t _) (fun hg => ⟨_, _, _, _, c_paid ge gz te tz _ (hs.rd (.tail _ (.tail _ (.tail _ (.tail _ (.tail _ (.head _))))))) (hs.rd (.tail _ (.tail _ (.tail _ (.tail _ (.tail _ (.tail _ (.head _)))))))), rfl, evs_nil, rfl⟩) E40 (by decide) ?_; clear hs hf a; intro w a hs hf
            refine gL hf (g_and hf rfl rfl) (by decide) ?_; clear hf a; intro a hf
            refine gL hf (g_as hf rfl) (by decide) ?_; clear hf a; intro a hf
            refine e_nil ?_
            refine c_ret ?_
            refine e_ret1 hf rfl rfl ?_
            refine ⟨?_, hs.below⟩
            have h7 := (hmax i hi).1; have h8 := (hmax i hi).2
            have h9 : (decide (0 < farZ k a2) && (decide (farZ k i < farZ k a2) || ((farZ k a2 == farZ k i) && decide (((a2 : Nat) : Int) ≤ ((i : Nat) : Int))))) = true := by
              rw [decide_eq_true hpa, Bool.true_and, Bool.or_eq_true]
              rcases (show farZ k i < farZ k a2 ∨ farZ k a2 ≤ farZ k i by omega) with h6 | h6
              · exact .inl (decide_eq_true h6)
              · have h5 : farZ k i = farZ k a2 := by omega
                have := h8 h5
                right; rw [h5]; simp; omega
            exact congrArg Ending.returned (congrArg Value.bool (by rw [show ((ofZ k 2 (k.ws.getD a2 default)).2 - (ofZ k 2 (k.ws.getD a2 default)).1) = farZ k a2 from rfl, show ((ofZ k 2 (k.ws.getD i default)).2 - (ofZ k 2 (k.ws.getD i default)).1) = farZ k i from rfl, h9]; rfl))

end Go.Proofs.YtjjcopeedcdokaaDoor

set_option linter.unusedVariables false
namespace Go.Proofs.YtjjcopeedcdokaaDoor
open Go.ChangeShapes Go.WideShapes Go.ChangeAt Go.RowKit
set_option maxRecDepth 100000 in
theorem lifted14 (os : Os) (started : os.Started) (H : Type) (enc : TypeId × Value → H) :
    ReturnsInHanded {} Tryd.checked os 14 .any (fun w args => (Rows.homeAskSpec.pre enc Tryd.prog Tryd.f14 [] false w args ∧ laidMetH Tryd.prog laid1 w) ∧ sizedMet enc Tryd.prog Tryd.f14 (OpenSpec.ofChange Rows.homeAskSpec) false w args)
      (Rows.homeAskSpec.post enc Tryd.prog Tryd.f14 false true false false) := by
  refine returnsInHanded_of_change_and (C := Tryd.checked) (X := fun w _ => laidMetH Tryd.prog laid1 w) (fun _ _ _ hh h => h.of_heap hh) pOwn started (by kernel_rfl) Tryd.func14
    (ChangeSpec.witness_shaped (enc := enc) (C := Tryd.checked) (os := os) (X := fun w _ => laidMetH Tryd.prog laid1 w) false (World.doorLaid Tryd.prog 600 os) #[.agg #[.int .i64 0, .int .i64 0, .slice none 0 0, .slice none 0 0, .int .i64 0, .int .i64 0, .int .i64 0, .slice none 0 0], .int .i64 0] 8 rfl (World.shaped_of_RefB (by kernel_rfl) (by kernel_rfl)) (by kernel_rfl) (by kernel_rfl) (by kernel_rfl) (door_met os _)) ?_
  intro W base args ds gs before hval0 hW _ _ hL _
  have hval : ∀ (j : Nat) t v, Tryd.f14.params[j]? = some t → args[j]? = some v → Value.okWide Tryd.prog W .any base t v := hval0
  have hW' := hW
  obtain ⟨p, q, hA0, hV, rfl, hfz, hnd⟩ := hW
  have hA : DataW.TrodAll enc Tryd.prog W 0 (fun _ => true) true Tryd.f14.params.toList args.toList ds p := hA0
  have hA9 := hA
  rw [Tryd.params14] at hA hval
  obtain ⟨v0, v1, d0, d1, p0, p1, rfl, rfl, rfl, h0, h1⟩ := trodAll_two hA
  obtain ⟨rfl, rfl⟩ := trodVars_none hV
  obtain ⟨k, fA, fc, rA, rc, wA, wc, rfl, hbk⟩ := open_book (hval 0 28 v0 rfl rfl) h0
  obtain ⟨i, rfl, rfl, rfl, wi⟩ := open_int Tryd.underlying3 (hval 1 3 v1 rfl rfl) h1
  obtain ⟨ge, gz, hG⟩ := of_laid hL
  obtain ⟨te, tz, hT⟩ := of_told hL
  refine (c_HomeAsk k fA fc rA rc wA wc ge gz i W hbk hG te tz hT).mono fun e W' ⟨he, hb⟩ => ?_
  subst he
  exact ⟨_, rfl, law_post rfl rfl rfl (by kernel_rfl) hW' rfl hA9 hb⟩
theorem row14 : Rows.HomeAskSaid :=
  OpenClaim.holds_of_wide 14 Tryd.f14 rfl rfl rfl rfl rfl rfl rfl ⟨rfl, rfl, rfl, rfl, rfl⟩ rfl rfl rfl rfl rfl (by kernel_rfl) Tryd.func14 (by kernel_rfl)
    (of_decide_eq_true (by kernel_rfl)) (by unfold Func.isWrapper; first | (rw [if_pos (by decide +kernel)]; kernel_rfl) | (rw [if_neg (by decide +kernel)]; exact ⟨rfl, rfl⟩))
    (fun os started H enc _ => lifted14 os started H enc)
/-- The card. -/
theorem homeAsk_holds : Rows.HomeAskCardSaid :=
  Claim7.holds_tied_plain_at .later [] [.funcs, .funcs] true (true, "812014c6ba21101d15e02d82012ffa61e4b3f2f84e9c736658d12c12a3cb442a") false
    row14 (fun _ h => by cases h) (by kernel_rfl) (fun _ h => by cases h) homeAsk_row_tie rfl ⟨rfl, rfl⟩ (by kernel_rfl) rfl
    (fun f fn hf hfn => by
      obtain rfl : f = 14 := Option.some.inj ((show Tryd.prog.funcNamed "lucifer/luciferlaw09.HomeAsk" = some 14 by kernel_rfl).symm.trans hf) |>.symm
      obtain rfl : fn = Tryd.f14 := (Option.some.inj (Tryd.func14.symm.trans hfn)).symm
      exact ⟨by kernel_rfl, fun j t ht => by
        rw [Tryd.params14] at ht
        have hm : t ∈ [28, 3] := by simpa using Array.mem_of_getElem? ht
        have hall : ([28, 3].all fun u => !Tryd.prog.wantsStandIn u) = true := by kernel_rfl
        exact (show Tryd.prog.wantsStandIn t = false by simpa using List.all_eq_true.1 hall t hm)⟩)
    (by kernel_rfl)
#print axioms homeAsk_holds
end Go.Proofs.YtjjcopeedcdokaaDoor

