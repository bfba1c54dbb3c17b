/- Part 4 of the proof of HomeAsks: laws of the engine, plain facts and contracts of the functions that the law reaches. Conditions: none beyond those of each theorem. -/
import Derived.Test.YtjjcopeedcdokaaDoorHomeAsksC
set_option linter.unusedVariables false
set_option linter.unusedSimpArgs false
namespace Go.Proofs.YtjjcopeedcdokaaDoor
open Go.RowKit
theorem c_CheckH (k : Bk) (fA : Option Addr) (fc : Nat) (rA : Option Addr) (rc : Nat) (wA : Option Addr) (wc : Nat) (ge : TypeId) (gz : Nat × Nat)  (w0 : World) (h : BkIn k fA fc rA rc wA wc w0) (hG : BlkIs 1 sidesA ge gz w0) :
    Calls Tryd.prog 33 #[.agg #[.int .i64 k.sh.wide, .int .i64 k.sh.high, .slice fA k.sh.flaps.length fc, .slice rA k.sh.rules.length rc, .int .i64 k.gross, .int .i64 k.pay, .int .i64 k.fine, .slice wA k.ws.length wc]] w0 (Ret w0 (.int .i64 (bookE k))) := by
  refine c_enter (n := 71) Tryd.func33 rfl rfl (Nat.le_of_ble_eq_true rfl) ?_; intro a hf; simp only [zipR] at hf
  have hs := St.start w0 [Rd encF 5 fA k.sh.flaps.length k.sh.flaps, Rd encR 2 rA k.sh.rules.length k.sh.rules, Rd encW 6 wA k.ws.length k.ws, OrdD k.ws, BlkIs 1 sidesA ge gz] (stab_app h.stab hG.st1)
  have hwm := h.W.2.1
  refine c_reg ?_
  refine vL hf (v_boxA hf hs rfl) (by decide) ?_; clear hs hf a; rintro _ w ⟨b1, rfl, hs⟩ a hf
  refine gL hf (g_as hf rfl) (by decide) ?_; clear hf a; intro a hf
  refine e_nil ?_
  refine wp_seq ?_
  refine c_reg ?_
  refine gL hf (g_fa (off' := 0) hf F28_0 rfl rfl) (by decide) ?_; clear hf a; intro a hf
  refine gL hf (g_ldP hf hs T25 rfl (k := 0) rfl rfl) (by decide) ?_; clear hf a; intro a hf
  refine callL hf hs (c_Check k.sh _ _ _ _ _ ⟨hs.rd (.head _), hs.rd (.tail _ (.head _)), h.sh.fc_, h.sh.rc_⟩) rfl rfl rfl E61 (by decide) ?_; clear hs hf a; intro w a hs hf
  refine gL hf (g_neq hf rfl rfl) (by decide) ?_; clear hf a; intro a hf
  refine gL hf (g_mv hf rfl) (by decide) ?_; clear hf a; intro a hf
  refine ggL hf rfl rfl (gyes_f _) (fun hg => g_fa (off' := 4) hf F28_1 rfl rfl) (by decide) ?_; clear hf a; intro a hf
  refine ggL hf rfl rfl (gyes_f _) (fun hg => g_ld hf hs T3 (ev_gv rfl hg) (k := 0) rfl rfl) (by decide) ?_; clear hf a; intro a hf
  refine callG hf hs rfl rfl (gyes_f _) (fun hg => ⟨_, _, _, _, c_inH _ _ _ _, rfl, evs_cons (ev_gv rfl hg) (evs_cons rfl (evs_cons rfl evs_nil)), rfl⟩) E83 (by decide) ?_; clear hs hf a; intro w a hs hf
  refine ggL hf rfl rfl (gyes_f _) (fun hg => g_not hf (ev_gv rfl hg)) (by decide) ?_; clear hf a; intro a hf
  refine gL hf (g_or hf rfl rfl) (by decide) ?_; clear hf a; intro a hf
  refine gL hf (g_mv hf rfl) (by decide) ?_; clear hf a; intro a hf
  refine ggL hf rfl rfl (gyes_f _) (fun hg => g_fa (off' := 5) hf F28_2 rfl rfl) (by decide) ?_; clear hf a; intro a hf
  refine ggL hf rfl rfl (gyes_f _) (fun hg => g_ld hf hs T3 (ev_gv rfl hg) (k := 0) rfl rfl) (by decide) ?_; clear hf a; intro a hf
  refine callG hf hs rfl rfl (gyes_f _) (fun hg => ⟨_, _, _, _, c_inH _ _ _ _, rfl, evs_cons (ev_gv rfl hg) (evs_cons rfl (evs_cons rfl evs_nil)), rfl⟩) E83 (by decide) ?_; clear hs hf a; intro w a hs hf
  refine ggL hf rfl rfl (gyes_f _) (fun hg => g_not hf (ev_gv rfl hg)) (by decide) ?_; clear hf a; intro a hf
  refine gL hf (g_or hf rfl rfl) (by decide) ?_; clear hf a; intro a hf
  refine gL hf (g_mv hf rfl) (by decide) ?_; clear hf a; intro a hf
  refine ggL hf rfl rfl (gyes_f _) (fun hg => g_fa (off' := 6) hf F28_3 rfl rfl) (by decide) ?_; clear hf a; intro a hf
  refine ggL hf rfl rfl (gyes_f _) (fun hg => g_ld hf hs T3 (ev_gv rfl hg) (k := 0) rfl rfl) (by decide) ?_; clear hf a; intro a hf
  refine callG hf hs rfl rfl (gyes_f _) (fun hg => ⟨_, _, _, _, c_inH _ _ _ _, rfl, evs_cons (ev_gv rfl hg) (evs_cons rfl (evs_cons rfl evs_nil)), rfl⟩) E83 (by decide) ?_; clear hs hf a; intro w a hs hf
  refine ggL hf rfl rfl (gyes_f _) (fun hg => g_not hf (ev_gv rfl hg)) (by decide) ?_; clear hf a; intro a hf
  refine gL hf (g_or hf rfl rfl) (by decide) ?_; clear hf a; intro a hf
  refine gL hf (g_mv hf rfl) (by decide) ?_; clear hf a; intro a hf
  refine ggL hf rfl rfl (gyes_f _) (fun hg => g_fa (off' := 7) hf F28_4 rfl rfl) (by decide) ?_; clear hf a; intro a hf
  refine ggL hf rfl rfl (gyes_f _) (fun hg => g_ld hf hs T26 (ev_gv rfl hg) (k := 0) rfl rfl) (by decide) ?_; clear hf a; intro a hf
  refine ggL hf rfl rfl (gyes_f _) (fun hg => g_len hf SL26 (ev_gv rfl hg)) (by decide) ?_; clear hf a; intro a hf
  refine ggL hf rfl rfl (gyes_f _) (fun hg => g_gtr hf (ev_gv rfl hg) rfl) (by decide) ?_; clear hf a; intro a hf
  refine gL hf (g_or hf rfl rfl) (by decide) ?_; clear hf a; intro a hf
  refine e_nil ?_
  refine c_cond hf rfl (fun hc1 => ?_) (fun hc1 => ?_)
  · skip
    rw [base_cond] at hc1
    have hbk : hckB k = false := by rw [hck_eq, show baseK k = false by simpa using hc1]; rfl
    refine c_reg ?_
    refine gL hf (g_as hf rfl) (by decide) ?_; clear hf a; intro a hf
    refine e_nil ?_
    refine c_ret (q_thenR ?_)
    refine e_ret1 hf rfl rfl ?_
    exact ⟨by rw [bookE, hbk]; rfl, hs.below⟩
  · skip
    rw [base_cond] at hc1
    have hbk : baseK k = true := by simpa using hc1
    have hbt := base_true hbk; have hckS := hbt.1; have hwl := hbt.2
    refine c_skip (q_thenN ?_)
    refine wp_seq ?_
    refine c_reg ?_
    refine gL hf (g_fa (off' := 7) hf F28_4 rfl rfl) (by decide) ?_; clear hf a; intro a hf
    refine gL hf (g_ld hf hs T26 rfl (k := 0) rfl rfl) (by decide) ?_; clear hf a; intro a hf
    refine gL hf (g_len hf SL26 rfl) (by decide) ?_; clear hf a; intro a hf
    refine gL hf (g_mv hf rfl) (by decide) ?_; clear hf a; intro a hf
    refine e_nil ?_
    refine c_block ?_
    refine c_loop hf hs (List.range' 2 1 ++ List.range' 4 3 ++ List.range' 38 33) (σ := Nat) (fun i => [(38, .int .i64 (i : Nat))]) (fun i => _) (fun i => i ≤ k.ws.length ∧ okW k i = true) (fun i => k.ws.length - i) 0 ⟨Nat.zero_le _, rfl⟩ (.cons rfl .nil) rfl ?_
    intro i a w hJ hf hs
    obtain ⟨hile, hok⟩ := hJ
    refine c_reg ?_
    refine gL hf (g_lss hf rfl rfl) (by decide) ?_; clear hf a; intro a hf
    refine e_nil ?_
    refine c_condS hf rfl (fun hc2 => ?_) (fun hc2 => ?_)
    · try simp only [decide_eq_true_eq, decide_eq_false_iff_not] at hc2
      have hi : i < k.ws.length := by omega
      refine c_skip (q_thenN ?_)
      refine c_blockS ?_
      refine c_reg ?_
      (first | (refine gL hf (g_ixE hf hs (.tail _ (.tail _ (.head _))) SL26 rfl rfl (by omega)) (by decide) ?_) | (refine gL hf (g_ixD hf hs (.tail _ (.tail _ (.head _))) SL26 rfl rfl (by omega)) (by decide) ?_)); clear hf a; intro a hf
      refine gL hf (g_ldEW hf hs (.tail _ (.tail _ (.head _))) T47 rfl rfl (by omega)) (by decide) ?_; clear hf a; intro a hf
      refine vL hf (v_alloc hs T47 rfl) (by decide) ?_; clear hs hf a; rintro _ w ⟨b2, rfl, hs⟩ a hf
      refine uL (u_stW hf hs T47 rfl rfl rfl (k := 0) rfl rfl rfl) ?_; clear hs; intro w hs; dsimp only [List.set] at hs
      refine e_nil ?_
      refine c_reg ?_
      refine gL hf (g_fa (off' := 0) hf F28_0 rfl rfl) (by decide) ?_; clear hf a; intro a hf
      refine gL hf (g_ldP hf hs T25 rfl (k := 1) rfl rfl) (by decide) ?_; clear hf a; intro a hf
      refine gL hf (g_fa (off' := 1) hf F47_1 rfl rfl) (by decide) ?_; clear hf a; intro a hf
      refine gL hf (g_ld hf hs T31 rfl (k := 0) rfl rfl) (by decide) ?_; clear hf a; intro a hf
      refine callL hf hs (c_Does k.sh _ _ _ _ _ _ (k.ws.getD i default).order ge gz hckS _ ⟨hs.rd (.head _), hs.rd (.tail _ (.head _)), h.sh.fc_, h.sh.rc_⟩ ((hs.rd (.tail _ (.tail _ (.tail _ (.head _))))) _ (getD_mem hi)).2 (hs.rd (.tail _ (.tail _ (.tail _ (.tail _ (.head _))))))) rfl rfl rfl E51 (by decide) ?_; clear hs hf a; intro w a hs hf
      refine gL hf (g_mv hf rfl) (by decide) ?_; clear hf a; intro a hf
      refine gL hf (g_ext hf rfl rfl) (by decide) ?_; clear hf a; intro a hf
      refine gL hf (g_ext hf rfl rfl) (by decide) ?_; clear hf a; intro a hf
      refine gL hf (g_as hf rfl) (by decide) ?_; clear hf a; intro a hf
      refine gL hf (g_as hf rfl) (by decide) ?_; clear hf a; intro a hf
      refine e_nil ?_
      refine c_reg ?_
      refine gL hf (g_mv hf rfl) (by decide) ?_; clear hf a; intro a hf
      refine gL hf (g_neq hf rfl rfl) (by decide) ?_; clear hf a; intro a hf
      refine gL hf (g_mv hf rfl) (by decide) ?_; clear hf a; intro a hf
      refine ggL hf rfl rfl (gyes_f _) (fun hg => g_fa (off' := 0) hf F47_0 rfl rfl) (by decide) ?_; clear hf a; intro a hf
      refine ggL hf rfl rfl (gyes_f _) (fun hg => g_ld hf hs T3 (ev_gv rfl hg) (k := 0) rfl rfl) (by decide) ?_; clear hf a; intro a hf
      refine callG hf hs rfl rfl (gyes_f _) (fun hg => ⟨_, _, _, _, c_inH _ _ _ _, rfl, evs_cons (ev_gv rfl hg) (evs_cons rfl (evs_cons rfl evs_nil)), rfl⟩) E83 (by decide) ?_; clear hs hf a; intro w a hs hf
      refine ggL hf rfl rfl (gyes_f _) (fun hg => g_not hf (ev_gv rfl hg)) (by decide) ?_; clear hf a; intro a hf
      refine gL hf (g_or hf rfl rfl) (by decide) ?_; clear hf a; intro a hf
      refine gL hf (g_mv hf rfl) (by decide) ?_; clear hf a; intro a hf
      refine ggL hf rfl rfl (gyes_f _) (fun hg => g_fa (off' := 2) hf F47_2 rfl rfl) (by decide) ?_; clear hf a; intro a hf
      refine ggL hf rfl rfl (gyes_f _) (fun hg => g_ldP hf hs T40 (ev_gv rfl hg) (k := 0) rfl rfl) (by decide) ?_; clear hf a; intro a hf
      refine callG hf hs rfl rfl (gyes_f _) (fun hg => ⟨_, _, _, _, c_spans _ _ _, rfl, evs_cons (ev_gv rfl hg) evs_nil, rfl⟩) E84 (by decide) ?_; clear hs hf a; intro w a hs hf
      refine ggL hf rfl rfl (gyes_f _) (fun hg => g_not hf (ev_gv rfl hg)) (by decide) ?_; clear hf a; intro a hf
      refine gL hf (g_or hf rfl rfl) (by decide) ?_; clear hf a; intro a hf
      refine gL hf (g_mv hf rfl) (by decide) ?_; clear hf a; intro a hf
      refine ggL hf rfl rfl (gyes_f _) (fun hg => g_fa (off' := 4) hf F47_3 rfl rfl) (by decide) ?_; clear hf a; intro a hf
      refine ggL hf rfl rfl (gyes_f _) (fun hg => g_ldP hf hs T40 (ev_gv rfl hg) (k := 0) rfl rfl) (by decide) ?_; clear hf a; intro a hf
      refine callG hf hs rfl rfl (gyes_f _) (fun hg => ⟨_, _, _, _, c_spans _ _ _, rfl, evs_cons (ev_gv rfl hg) evs_nil, rfl⟩) E84 (by decide) ?_; clear hs hf a; intro w a hs hf
      refine ggL hf rfl rfl (gyes_f _) (fun hg => g_not hf (ev_gv rfl hg)) (by decide) ?_; clear hf a; intro a hf
      refine gL hf (g_or hf rfl rfl) (by decide) ?_; clear hf a; intro a hf
      refine e_nil ?_
      refine c_cond hf rfl (fun hc3 => ?_) (fun hc3 => ?_)
      · skip
        rw [wkr_cond] at hc3
        have hbk2 : hckB k = false := okW_no hi (by simpa using hc3)
        refine c_reg ?_
        refine gL hf (g_as hf rfl) (by decide) ?_; clear hf a; intro a hf
        refine e_nil ?_
        refine c_ret (q_blkR (q_thenR (q_thenR (q_blkR (q_thenR ?_)))))
        refine e_ret1 hf rfl rfl ?_
        exact ⟨by rw [bookE, hbk2]; rfl, hs.below⟩
      · skip
        rw [wkr_cond] at hc3
        have hok2 : okW k (i + 1) = true := by rw [okW_succ hi, hok, show wkrOK k.sh (k.ws.getD i default) = true by simpa using hc3]; rfl
        refine c_skip (q_blkN (q_thenN ?_))
        refine c_reg1 ?_
        refine gL hf (g_addI hf rfl rfl (by omega)) (by decide) ?_; clear hf a; intro a hf
        refine gL hf (g_mv hf rfl) (by decide) ?_; clear hf a; intro a hf
        refine e_nil1 (q_thenN ?_)
        exact ⟨i + 1, ⟨by omega, hok2⟩, (by omega), hf.back (by repeat (first | (with_reducible exact Ext.base) | ((with_reducible refine Ext.cons ?_ ?_); (· rfl)) | ((with_reducible refine Ext.over ?_ ?_ ?_); (· rfl); (· rfl)))) (allKeys rfl) (.cons rfl .nil), hs.dropN 1⟩
    · try simp only [decide_eq_true_eq, decide_eq_false_iff_not] at hc2
      have hix : i = k.ws.length := by omega
      subst hix
      have hbk2 : hckB k = true := by rw [hck_eq, hbk, hok]; rfl
      refine c_exit (q_thenX (q_thenX (q_blkX (q_thenN ?_))))
      refine c_reg ?_
      refine gL hf (g_as hf rfl) (by decide) ?_; clear hf a; intro a hf
      refine e_nil ?_
      refine c_ret ?_
      refine e_ret1 hf rfl rfl ?_
      exact ⟨by rw [bookE, hbk2]; rfl, hs.below⟩

end Go.Proofs.YtjjcopeedcdokaaDoor

set_option linter.unusedVariables false
set_option linter.unusedSimpArgs false
namespace Go.Proofs.YtjjcopeedcdokaaDoor
open Go.RowKit
theorem c_IsOrder (b : Sheet) (fA : Option Addr) (fc : Nat) (rA : Option Addr) (rc : Nat) (oA : Option Addr) (oc : Nat) (l : List Int) (hck : checkB b = true) (w0 : World) (h : ShIn b fA fc rA rc w0) (ho : Rd encI 1 oA l.length l w0) :
    Calls Tryd.prog 117 #[.agg #[.int .i64 b.wide, .int .i64 b.high, .slice fA b.flaps.length fc, .slice rA b.rules.length rc], .slice oA l.length oc] w0 (Ret w0 (.bool (ordB b l))) := by
  refine c_enter (n := 41) Tryd.func117 rfl rfl (Nat.le_of_ble_eq_true rfl) ?_; intro a hf; simp only [zipR] at hf
  have hs := St.start w0 [Rd encF 5 fA b.flaps.length b.flaps, Rd encR 2 rA b.rules.length b.rules, Rd encI 1 oA l.length l] (stab_app h.stab ho.st1)
  have hfm := h.F.2.1; have hrm := h.R.2.1
  have hv := valid_of hck; have hmany := hv.many; have hlm := ho.2.1
  refine c_reg ?_
  refine vL hf (v_boxA hf hs rfl) (by decide) ?_; clear hs hf a; rintro _ w ⟨b1, rfl, hs⟩ a hf
  refine gL hf (g_as hf rfl) (by decide) ?_; clear hf a; intro a hf
  refine e_nil ?_
  refine c_reg ?_
  refine gL hf (g_as hf rfl) (by decide) ?_; clear hf a; intro a hf
  refine e_nil ?_
  refine wp_seq ?_
  refine c_reg ?_
  refine gL hf (g_as hf rfl) (by decide) ?_; clear hf a; intro a hf
  refine e_nil ?_
  refine c_block ?_
  refine c_loop hf hs (List.range' 4 31) (σ := (Nat × Nat)) (fun s => [(5, .int .i64 (s.2 : Nat)), (6, .int .i64 (s.1 : Nat))]) (fun s => _) (fun s => s.1 ≤ l.length ∧ maskI l s.2 s.1 ∧ ∀ j, j < s.1 → flapB b.flaps.length (l.getD j default) = true ∧ l.getD j default ∉ l.take j) (fun s => l.length - s.1) (0, 0) ⟨Nat.zero_le _, mask_start l, fun j hj => absurd hj (by omega)⟩ (.cons rfl (.cons rfl .nil)) rfl ?_
  intro ⟨i, m⟩ a w hJ hf hs
  dsimp only at hJ hf hs
  obtain ⟨hile, hmk, hall⟩ := hJ
  refine wp_seq ?_
  refine c_reg ?_
  refine gL hf (g_mv hf rfl) (by decide) ?_; clear hf a; intro a hf
  refine gL hf (g_mv hf rfl) (by decide) ?_; clear hf a; intro a hf
  refine gL hf (g_len hf SL31 rfl) (by decide) ?_; clear hf a; intro a hf
  refine gL hf (g_lss hf rfl rfl) (by decide) ?_; clear hf a; intro a hf
  refine e_nil ?_
  refine c_cond hf rfl (fun hc1 => ?_) (fun hc1 => ?_)
  · try simp only [decide_eq_true_eq, decide_eq_false_iff_not] at hc1
    have hi : i < l.length := by omega
    refine c_skip (q_thenN ?_)
    refine c_blockS ?_
    refine wp_seq ?_
    refine c_draw _ 15 Mx rfl hs (fun _ h => h) ?_; intro w hs hS
    refine gA hf hS (i := 0) rfl (by kernel_rfl) (fun w hs => g_ldW hf hs T25 rfl (k := 0) rfl rfl) (by decide) ?_; clear hf a; intro a hf
    refine gA hf hS (i := 1) rfl (by kernel_rfl) (fun w hs => g_mv hf rfl) (by decide) ?_; clear hf a; intro a hf
    refine gA hf hS (i := 2) rfl (by kernel_rfl) (fun w hs => g_mv hf rfl) (by decide) ?_; clear hf a; intro a hf
    (first | (refine gA hf hS (i := 3) rfl (by kernel_rfl) (fun w hs => g_ixE hf hs (.tail _ (.tail _ (.head _))) SL31 rfl rfl (by omega)) (by decide) ?_) | (refine gA hf hS (i := 3) rfl (by kernel_rfl) (fun w hs => g_ixD hf hs (.tail _ (.tail _ (.head _))) SL31 rfl rfl (by omega)) (by decide) ?_)); clear hf a; intro a hf
    refine gA hf hS (i := 4) rfl (by kernel_rfl) (fun w hs => g_ldE hf hs (.tail _ (.tail _ (.head _))) T3 rfl rfl (by omega)) (by decide) ?_; clear hf a; intro a hf
    refine one (i := 5) (by kernel_rfl) ?_
    refine oCall hf hs rfl (c_isFlapR _ _ _ _ _ _ _ _ _ (by omega) _) rfl rfl rfl E116 (by decide) (fun _ h => h.sub (.refl _)) ?_; clear hs hf hS a; intro w a hs hS hf
    refine gA hf hS (i := 6) rfl (by kernel_rfl) (fun w hs => g_not hf rfl) (by decide) ?_; clear hf a; intro a hf
    refine gA hf hS (i := 7) rfl (by kernel_rfl) (fun w hs => g_mv hf rfl) (by decide) ?_; clear hf a; intro a hf
    refine ggA hf hS (i := 8) rfl (by kernel_rfl) rfl rfl (gyes_f _) (fun hg w hs => g_mv hf rfl) (by decide) ?_; clear hf a; intro a hf
    refine ggA hf hS (i := 9) rfl (by kernel_rfl) rfl rfl (gyes_f _) (fun hg w hs => g_mv hf rfl) (by decide) ?_; clear hf a; intro a hf
    refine ggA hf hS (i := 10) rfl (by kernel_rfl) rfl rfl (gyes_f _) (fun hg w hs => g_mv hf rfl) (by decide) ?_; clear hf a; intro a hf
    (first | (refine ggA hf hS (i := 11) rfl (by kernel_rfl) rfl rfl (gyes_f _) (fun hg w hs => g_ixE hf hs (.tail _ (.tail _ (.head _))) SL31 (ev_gv rfl hg) (ev_gv rfl hg) (by omega)) (by decide) ?_) | (refine ggA hf hS (i := 11) rfl (by kernel_rfl) rfl rfl (gyes_f _) (fun hg w hs => g_ixD hf hs (.tail _ (.tail _ (.head _))) SL31 (ev_gv rfl hg) (ev_gv rfl hg) (by omega)) (by decide) ?_)); clear hf a; intro a hf
    refine ggA hf hS (i := 12) rfl (by kernel_rfl) rfl rfl (gyes_f _) (fun hg w hs => g_ldE hf hs (.tail _ (.tail _ (.head _))) T3 (ev_gv rfl hg) rfl (by omega)) (by decide) ?_; clear hf a; intro a hf
    refine one (i := 13) (by kernel_rfl) ?_
    refine oCallG hf hs rfl rfl rfl (gyes_f _) (fun hg => ⟨_, _, _, _, c_In _ _ (by have := flapB_rng (n := b.flaps.length) (x := l.getD i default) (by simpa using hg) hmany.2; omega) _, rfl, evs_cons (ev_gv rfl hg) (evs_cons (ev_gv rfl hg) evs_nil), rfl⟩) E131 (by decide) (fun _ h => h.sub (.refl _)) ?_; clear hs hf hS a; intro w a hs hS hf
    refine gA hf hS (i := 14) rfl (by kernel_rfl) (fun w hs => g_or hf rfl rfl) (by decide) ?_; clear hf a; intro a hf
    refine e_done (by kernel_rfl) ?_
    refine c_cond hf rfl (fun hc2 => ?_) (fun hc2 => ?_)
    · skip
      have hno : ordB b l = false := ordB_no hi (mask_bad hmk hi hc2 hmany.2)
      refine c_reg ?_
      refine gL hf (g_as hf rfl) (by decide) ?_; clear hf a; intro a hf
      refine e_nil ?_
      refine c_ret (q_thenR (q_blkR (q_thenR (q_thenR (q_blkR (q_thenR ?_))))))
      refine e_ret1 hf rfl rfl ?_
      exact ⟨by rw [hno], hs.below⟩
    · skip
      have hgo := mask_good hmk hi hc2 hmany.2
      obtain ⟨m2, hm2, hmk2⟩ := mask_next hmk hi hgo.2.1 hgo.2.2
      have hng := hgo.2
      refine c_skip (q_thenN ?_)
      refine c_reg1 ?_
      refine gL hf (g_mv hf rfl) (by decide) ?_; clear hf a; intro a hf
      refine gL hf (g_mv hf rfl) (by decide) ?_; clear hf a; intro a hf
      refine gL hf (g_mv hf rfl) (by decide) ?_; clear hf a; intro a hf
      (first | (refine gL hf (g_ixE hf hs (.tail _ (.tail _ (.head _))) SL31 rfl rfl (by omega)) (by decide) ?_) | (refine gL hf (g_ixD hf hs (.tail _ (.tail _ (.head _))) SL31 rfl rfl (by omega)) (by decide) ?_)); clear hf a; intro a hf
      refine gL hf (g_ldE hf hs (.tail _ (.tail _ (.head _))) T3 rfl rfl (by omega)) (by decide) ?_; clear hf a; intro a hf
      refine gL hf (g_shl hf rfl rfl (by omega)) (by decide) ?_; clear hf a; intro a hf
      refine gL hf (g_bor hf rfl rfl) (by decide) ?_; clear hf a; intro a hf
      refine gL hf (g_as hf rfl) (by decide) ?_; clear hf a; intro a hf
      refine e_nil1 (q_blkN (q_thenN ?_))
      refine c_reg1 ?_
      refine gL hf (g_mv hf rfl) (by decide) ?_; clear hf a; intro a hf
      refine gL hf (g_addI hf rfl rfl (by omega)) (by decide) ?_; clear hf a; intro a hf
      refine gL hf (g_as hf rfl) (by decide) ?_; clear hf a; intro a hf
      refine e_nil1 (q_thenN ?_)
      rw [hm2] at hf
      exact ⟨(i + 1, m2), ⟨by dsimp only; omega, hmk2, lt_succ hall hgo.1⟩, (by dsimp only; omega), hf.back (by repeat (first | (with_reducible exact Ext.base) | ((with_reducible refine Ext.cons ?_ ?_); (· rfl)) | ((with_reducible refine Ext.over ?_ ?_ ?_); (· rfl); (· rfl)))) (allKeys rfl) (.cons rfl (.cons rfl .nil)), hs.dropN 0⟩
  · try simp only [decide_eq_true_eq, decide_eq_false_iff_not] at hc1
    have hix : i = l.length := by omega
    subst hix
    refine c_exit (q_thenX (q_thenX (q_blkX (q_thenN ?_))))
    refine c_reg ?_
    refine gL hf (g_mv hf rfl) (by decide) ?_; clear hf a; intro a hf
    refine gL hf (g_len hf SL31 rfl) (by decide) ?_; clear hf a; intro a hf
    refine gL hf (g_fa (off' := 2) hf F25_2 rfl rfl) (by decide) ?_; clear hf a; intro a hf
    refine gL hf (g_ld hf hs T22 rfl (k := 0) rfl rfl) (by decide) ?_; clear hf a; intro a hf
    refine gL hf (g_len hf SL22 rfl) (by decide) ?_; clear hf a; intro a hf
    refine gL hf (g_eql hf rfl rfl) (by decide) ?_; clear hf a; intro a hf
    refine gL hf (g_as hf rfl) (by decide) ?_; clear hf a; intro a hf
    refine e_nil ?_
    refine c_ret ?_
    refine e_ret1 hf rfl rfl ?_
    exact ⟨by rw [ordB_end hall], hs.below⟩

theorem c_DoesR (b : Sheet) (fA : Option Addr) (fc : Nat) (rA : Option Addr) (rc : Nat) (oA : Option Addr) (oc : Nat) (l : List Int) (hck : checkB b = true) (w0 : World) (h : ShIn b fA fc rA rc w0) (ho : Rd encI 1 oA l.length l w0) :
    Calls Tryd.prog 86 #[.agg #[.int .i64 b.wide, .int .i64 b.high, .slice fA b.flaps.length fc, .slice rA b.rules.length rc], .slice oA l.length oc] w0 (Ret w0 (.tuple #[.int .i64 (doesP b l).1, .int .i64 (doesP b l).2])) := by
  refine c_enter (n := 24) Tryd.func86 rfl rfl (Nat.le_of_ble_eq_true rfl) ?_; intro a hf; simp only [zipR] at hf
  have hs := St.start w0 [Rd encF 5 fA b.flaps.length b.flaps, Rd encR 2 rA b.rules.length b.rules, Rd encI 1 oA l.length l] (stab_app h.stab ho.st1)
  have hfm := h.F.2.1; have hrm := h.R.2.1
  have hv := valid_of hck
  refine c_reg ?_
  refine vL hf (v_boxA hf hs rfl) (by decide) ?_; clear hs hf a; rintro _ w ⟨b1, rfl, hs⟩ a hf
  refine gL hf (g_as hf rfl) (by decide) ?_; clear hf a; intro a hf
  refine gL hf (g_as hf rfl) (by decide) ?_; clear hf a; intro a hf
  refine e_nil ?_
  refine wp_seq ?_
  refine c_reg ?_
  refine gL hf (g_ldW hf hs T25 rfl (k := 0) rfl rfl) (by decide) ?_; clear hf a; intro a hf
  refine callL hf hs (c_CheckR b _ _ _ _ _ ⟨hs.rd (.head _), hs.rd (.tail _ (.head _)), h.fc_, h.rc_⟩) rfl rfl rfl E85 (by decide) ?_; clear hs hf a; intro w a hs hf
  refine gL hf (g_as hf rfl) (by decide) ?_; clear hf a; intro a hf
  refine e_nil ?_
  refine c_reg ?_
  refine gL hf (g_mv hf rfl) (by decide) ?_; clear hf a; intro a hf
  refine gL hf (g_neq hf rfl rfl) (by decide) ?_; clear hf a; intro a hf
  refine e_nil ?_
  refine c_cond hf rfl (fun hc1 => ?_) (fun hc1 => ?_)
  · skip
    rw [hck] at hc1; cases hc1
  · skip
    refine c_skip (q_thenN ?_)
    refine wp_seq ?_
    refine c_reg ?_
    refine gL hf (g_ldW hf hs T25 rfl (k := 0) rfl rfl) (by decide) ?_; clear hf a; intro a hf
    refine gL hf (g_mv hf rfl) (by decide) ?_; clear hf a; intro a hf
    refine callL hf hs (c_IsOrder b _ _ _ _ _ _ l hck _ ⟨hs.rd (.head _), hs.rd (.tail _ (.head _)), h.fc_, h.rc_⟩ (hs.rd (.tail _ (.tail _ (.head _))))) rfl rfl rfl E117 (by decide) ?_; clear hs hf a; intro w a hs hf
    refine gL hf (g_not hf rfl) (by decide) ?_; clear hf a; intro a hf
    refine e_nil ?_
    refine c_cond hf rfl (fun hc2 => ?_) (fun hc2 => ?_)
    · skip
      have hob : ordB b l = false := by simpa using hc2
      refine c_reg ?_
      refine gL hf (g_as hf rfl) (by decide) ?_; clear hf a; intro a hf
      refine gL hf (g_as hf rfl) (by decide) ?_; clear hf a; intro a hf
      refine e_nil ?_
      refine c_ret (q_thenR ?_)
      refine e_ret2 hf rfl rfl rfl ?_
      exact ⟨by simp [doesP, askE, hck, hob], hs.below⟩
    · skip
      have hob : ordB b l = true := by simpa using hc2
      have hdp := doesR_eq hck hob
      refine c_skip (q_thenN ?_)
      refine c_blockS ?_
      refine c_reg ?_
      refine gL hf (g_ldW hf hs T25 rfl (k := 0) rfl rfl) (by decide) ?_; clear hf a; intro a hf
      refine gL hf (g_mv hf rfl) (by decide) ?_; clear hf a; intro a hf
      refine callL hf hs (c_doesR b _ _ _ _ _ _ l _ hv _ ⟨hs.rd (.head _), hs.rd (.tail _ (.head _)), h.fc_, h.rc_⟩ (hs.rd (.tail _ (.tail _ (.head _))))) rfl rfl rfl E118 (by decide) ?_; clear hs hf a; intro w a hs hf
      refine gL hf (g_as hf rfl) (by decide) ?_; clear hf a; intro a hf
      refine e_nil ?_
      refine c_cond hf rfl (fun hc3 => ?_) (fun hc3 => ?_)
      · skip
        refine c_reg ?_
        refine gL hf (g_as hf rfl) (by decide) ?_; clear hf a; intro a hf
        refine gL hf (g_as hf rfl) (by decide) ?_; clear hf a; intro a hf
        refine e_nil ?_
        refine c_ret (q_blkR (q_thenR ?_))
        refine e_ret2 hf rfl rfl rfl ?_
        exact ⟨by rw [hdp, if_pos hc3], hs.below⟩
      · skip
        refine c_reg ?_
        refine gL hf (g_ldW hf hs T25 rfl (k := 0) rfl rfl) (by decide) ?_; clear hf a; intro a hf
        refine gL hf (g_mv hf rfl) (by decide) ?_; clear hf a; intro a hf
        refine callL hf hs (c_doesR b _ _ _ _ _ _ l _ hv _ ⟨hs.rd (.head _), hs.rd (.tail _ (.head _)), h.fc_, h.rc_⟩ (hs.rd (.tail _ (.tail _ (.head _))))) rfl rfl rfl E118 (by decide) ?_; clear hs hf a; intro w a hs hf
        refine gL hf (g_as hf rfl) (by decide) ?_; clear hf a; intro a hf
        refine e_nil ?_
        refine c_cond hf rfl (fun hc4 => ?_) (fun hc4 => ?_)
        · skip
          refine c_reg ?_
          refine gL hf (g_as hf rfl) (by decide) ?_; clear hf a; intro a hf
          refine gL hf (g_as hf rfl) (by decide) ?_; clear hf a; intro a hf
          refine e_nil ?_
          refine c_ret (q_blkR (q_thenR ?_))
          refine e_ret2 hf rfl rfl rfl ?_
          exact ⟨by rw [hdp, if_neg (by rw [hc3]; decide), if_pos hc4], hs.below⟩
        · skip
          refine c_skip (q_blkN (q_thenN ?_))
          refine c_reg ?_
          refine gL hf (g_as hf rfl) (by decide) ?_; clear hf a; intro a hf
          refine gL hf (g_as hf rfl) (by decide) ?_; clear hf a; intro a hf
          refine e_nil ?_
          refine c_ret ?_
          refine e_ret2 hf rfl rfl rfl ?_
          exact ⟨by rw [hdp, if_neg (by rw [hc3]; decide), if_neg (by rw [hc4]; decide)], hs.below⟩

end Go.Proofs.YtjjcopeedcdokaaDoor

set_option linter.unusedVariables false
set_option linter.unusedSimpArgs false
namespace Go.Proofs.YtjjcopeedcdokaaDoor
open Go.RowKit
theorem c_CheckR9 (k : Bk) (fA : Option Addr) (fc : Nat) (rA : Option Addr) (rc : Nat) (wA : Option Addr) (wc : Nat)  (w0 : World) (h : BkIn k fA fc rA rc wA wc w0) :
    Calls Tryd.prog 34 #[.agg #[.int .i64 k.sh.wide, .int .i64 k.sh.high, .slice fA k.sh.flaps.length fc, .slice rA k.sh.rules.length rc, .int .i64 k.gross, .int .i64 k.pay, .int .i64 k.fine, .slice wA k.ws.length wc]] w0 (Ret w0 (.int .i64 (bookE k))) := by
  refine c_enter (n := 75) Tryd.func34 rfl rfl (Nat.le_of_ble_eq_true rfl) ?_; intro a hf; simp only [zipR] at hf
  have hs := St.start w0 [Rd encF 5 fA k.sh.flaps.length k.sh.flaps, Rd encR 2 rA k.sh.rules.length k.sh.rules, Rd encW 6 wA k.ws.length k.ws, OrdD k.ws] h.stab
  have hwm := h.W.2.1
  refine c_reg ?_
  refine vL hf (v_boxA hf hs rfl) (by decide) ?_; clear hs hf a; rintro _ w ⟨b1, rfl, hs⟩ a hf
  refine gL hf (g_as hf rfl) (by decide) ?_; clear hf a; intro a hf
  refine e_nil ?_
  refine c_reg ?_
  refine gL hf (g_fa (off' := 0) hf F28_0 rfl rfl) (by decide) ?_; clear hf a; intro a hf
  refine gL hf (g_ldP hf hs T25 rfl (k := 0) rfl rfl) (by decide) ?_; clear hf a; intro a hf
  refine callL hf hs (c_CheckR k.sh _ _ _ _ _ ⟨hs.rd (.head _), hs.rd (.tail _ (.head _)), h.sh.fc_, h.sh.rc_⟩) rfl rfl rfl E85 (by decide) ?_; clear hs hf a; intro w a hs hf
  refine gL hf (g_eql hf rfl rfl) (by decide) ?_; clear hf a; intro a hf
  refine gL hf (g_mv hf rfl) (by decide) ?_; clear hf a; intro a hf
  refine ggL hf rfl rfl (gyes_t _) (fun hg => g_fa (off' := 4) hf F28_1 rfl rfl) (by decide) ?_; clear hf a; intro a hf
  refine ggL hf rfl rfl (gyes_t _) (fun hg => g_ld hf hs T3 (ev_gv rfl hg) (k := 0) rfl rfl) (by decide) ?_; clear hf a; intro a hf
  refine callG hf hs rfl rfl (gyes_t _) (fun hg => ⟨_, _, _, _, c_Fits _ _ _ _, rfl, evs_cons (ev_gv rfl hg) (evs_cons rfl (evs_cons rfl evs_nil)), rfl⟩) E26 (by decide) ?_; clear hs hf a; intro w a hs hf
  refine gL hf (g_and hf rfl rfl) (by decide) ?_; clear hf a; intro a hf
  refine gL hf (g_mv hf rfl) (by decide) ?_; clear hf a; intro a hf
  refine ggL hf rfl rfl (gyes_t _) (fun hg => g_fa (off' := 5) hf F28_2 rfl rfl) (by decide) ?_; clear hf a; intro a hf
  refine ggL hf rfl rfl (gyes_t _) (fun hg => g_ld hf hs T3 (ev_gv rfl hg) (k := 0) rfl rfl) (by decide) ?_; clear hf a; intro a hf
  refine callG hf hs rfl rfl (gyes_t _) (fun hg => ⟨_, _, _, _, c_Fits _ _ _ _, rfl, evs_cons (ev_gv rfl hg) (evs_cons rfl (evs_cons rfl evs_nil)), rfl⟩) E26 (by decide) ?_; clear hs hf a; intro w a hs hf
  refine gL hf (g_and hf rfl rfl) (by decide) ?_; clear hf a; intro a hf
  refine gL hf (g_mv hf rfl) (by decide) ?_; clear hf a; intro a hf
  refine ggL hf rfl rfl (gyes_t _) (fun hg => g_fa (off' := 6) hf F28_3 rfl rfl) (by decide) ?_; clear hf a; intro a hf
  refine ggL hf rfl rfl (gyes_t _) (fun hg => g_ld hf hs T3 (ev_gv rfl hg) (k := 0) rfl rfl) (by decide) ?_; clear hf a; intro a hf
  refine callG hf hs rfl rfl (gyes_t _) (fun hg => ⟨_, _, _, _, c_Fits _ _ _ _, rfl, evs_cons (ev_gv rfl hg) (evs_cons rfl (evs_cons rfl evs_nil)), rfl⟩) E26 (by decide) ?_; clear hs hf a; intro w a hs hf
  refine gL hf (g_and hf rfl rfl) (by decide) ?_; clear hf a; intro a hf
  refine gL hf (g_mv hf rfl) (by decide) ?_; clear hf a; intro a hf
  refine ggL hf rfl rfl (gyes_t _) (fun hg => g_fa (off' := 7) hf F28_4 rfl rfl) (by decide) ?_; clear hf a; intro a hf
  refine ggL hf rfl rfl (gyes_t _) (fun hg => g_ld hf hs T26 (ev_gv rfl hg) (k := 0) rfl rfl) (by decide) ?_; clear hf a; intro a hf
  refine ggL hf rfl rfl (gyes_t _) (fun hg => g_len hf SL26 (ev_gv rfl hg)) (by decide) ?_; clear hf a; intro a hf
  refine ggL hf rfl rfl (gyes_t _) (fun hg => g_leq hf (ev_gv rfl hg) rfl) (by decide) ?_; clear hf a; intro a hf
  refine gL hf (g_and hf rfl rfl) (by decide) ?_; clear hf a; intro a hf
  refine gL hf (g_as hf rfl) (by decide) ?_; clear hf a; intro a hf
  refine e_nil ?_
  refine wp_seq ?_
  rw [base_condR] at hf
  refine c_reg ?_
  refine gL hf (g_as hf rfl) (by decide) ?_; clear hf a; intro a hf
  refine e_nil ?_
  refine c_block ?_
  refine c_loop hf hs (List.range' 3 5 ++ List.range' 33 40) (σ := (Nat × Bool)) (fun s => [(3, .bool s.2), (4, .int .i64 (s.1 : Nat))]) (fun s => _) (fun s => s.1 ≤ k.ws.length ∧ s.2 = (baseK k && okW k s.1)) (fun s => k.ws.length - s.1) (0, baseK k) ⟨Nat.zero_le _, by dsimp only; rw [show okW k 0 = true from rfl, Bool.and_true]⟩ (.cons rfl (.cons rfl .nil)) rfl ?_
  intro ⟨i, ok⟩ a w hJ hf hs
  dsimp only at hJ hf hs
  obtain ⟨hile, hok⟩ := hJ
  refine wp_seq ?_
  refine c_reg ?_
  refine gL hf (g_mv hf rfl) (by decide) ?_; clear hf a; intro a hf
  refine gL hf (g_mv hf rfl) (by decide) ?_; clear hf a; intro a hf
  refine ggL hf rfl rfl (gyes_t _) (fun hg => g_mv hf rfl) (by decide) ?_; clear hf a; intro a hf
  refine ggL hf rfl rfl (gyes_t _) (fun hg => g_fa (off' := 7) hf F28_4 rfl rfl) (by decide) ?_; clear hf a; intro a hf
  refine ggL hf rfl rfl (gyes_t _) (fun hg => g_ld hf hs T26 (ev_gv rfl hg) (k := 0) rfl rfl) (by decide) ?_; clear hf a; intro a hf
  refine ggL hf rfl rfl (gyes_t _) (fun hg => g_len hf SL26 (ev_gv rfl hg)) (by decide) ?_; clear hf a; intro a hf
  refine ggL hf rfl rfl (gyes_t _) (fun hg => g_lss hf (ev_gv rfl hg) (ev_gv rfl hg)) (by decide) ?_; clear hf a; intro a hf
  refine gL hf (g_and hf rfl rfl) (by decide) ?_; clear hf a; intro a hf
  refine e_nil ?_
  refine c_cond hf rfl (fun hc1 => ?_) (fun hc1 => ?_)
  · skip
    obtain ⟨hc1a, hc1b⟩ := Bool.and_eq_true_iff.1 hc1
    have hi : i < k.ws.length := by have := of_decide_eq_true hc1b; omega
    have hbk : baseK k = true := by rw [hok] at hc1a; exact (Bool.and_eq_true_iff.1 hc1a).1
    have hoi : okW k i = true := by rw [hok] at hc1a; exact (Bool.and_eq_true_iff.1 hc1a).2
    have hbt := base_true hbk; have hckS := hbt.1; have hwl := hbt.2
    refine c_skip (q_thenN ?_)
    refine c_blockS ?_
    refine c_reg ?_
    refine gL hf (g_fa (off' := 7) hf F28_4 rfl rfl) (by decide) ?_; clear hf a; intro a hf
    refine gL hf (g_ld hf hs T26 rfl (k := 0) rfl rfl) (by decide) ?_; clear hf a; intro a hf
    refine gL hf (g_mv hf rfl) (by decide) ?_; clear hf a; intro a hf
    (first | (refine gL hf (g_ixE hf hs (.tail _ (.tail _ (.head _))) SL26 rfl rfl (by omega)) (by decide) ?_) | (refine gL hf (g_ixD hf hs (.tail _ (.tail _ (.head _))) SL26 rfl rfl (by omega)) (by decide) ?_)); clear hf a; intro a hf
    refine gL hf (g_ldEW hf hs (.tail _ (.tail _ (.head _))) T47 rfl rfl (by omega)) (by decide) ?_; clear hf a; intro a hf
    refine vL hf (v_alloc hs T47 rfl) (by decide) ?_; clear hs hf a; rintro _ w ⟨b2, rfl, hs⟩ a hf
    refine uL (u_stW hf hs T47 rfl rfl rfl (k := 0) rfl rfl rfl) ?_; clear hs; intro w hs; dsimp only [List.set] at hs
    refine e_nil ?_
    refine c_reg ?_
    refine gL hf (g_fa (off' := 0) hf F28_0 rfl rfl) (by decide) ?_; clear hf a; intro a hf
    refine gL hf (g_ldP hf hs T25 rfl (k := 1) rfl rfl) (by decide) ?_; clear hf a; intro a hf
    refine gL hf (g_fa (off' := 1) hf F47_1 rfl rfl) (by decide) ?_; clear hf a; intro a hf
    refine gL hf (g_ld hf hs T31 rfl (k := 0) rfl rfl) (by decide) ?_; clear hf a; intro a hf
    refine callL hf hs (c_DoesR k.sh _ _ _ _ _ _ (k.ws.getD i default).order hckS _ ⟨hs.rd (.head _), hs.rd (.tail _ (.head _)), h.sh.fc_, h.sh.rc_⟩ ((hs.rd (.tail _ (.tail _ (.tail _ (.head _))))) _ (getD_mem hi)).2) rfl rfl rfl E86 (by decide) ?_; clear hs hf a; intro w a hs hf
    refine gL hf (g_mv hf rfl) (by decide) ?_; clear hf a; intro a hf
    refine gL hf (g_ext hf rfl rfl) (by decide) ?_; clear hf a; intro a hf
    refine gL hf (g_ext hf rfl rfl) (by decide) ?_; clear hf a; intro a hf
    refine gL hf (g_as hf rfl) (by decide) ?_; clear hf a; intro a hf
    refine gL hf (g_as hf rfl) (by decide) ?_; clear hf a; intro a hf
    refine e_nil ?_
    refine c_reg1 ?_
    refine gL hf (g_fa (off' := 0) hf F47_0 rfl rfl) (by decide) ?_; clear hf a; intro a hf
    refine gL hf (g_ld hf hs T3 rfl (k := 0) rfl rfl) (by decide) ?_; clear hf a; intro a hf
    refine callL hf hs (c_Fits _ _ _ _) rfl rfl rfl E26 (by decide) ?_; clear hs hf a; intro w a hs hf
    refine gL hf (g_mv hf rfl) (by decide) ?_; clear hf a; intro a hf
    refine ggL hf rfl rfl (gyes_t _) (fun hg => g_mv hf rfl) (by decide) ?_; clear hf a; intro a hf
    refine ggL hf rfl rfl (gyes_t _) (fun hg => g_eql hf (ev_gv rfl hg) rfl) (by decide) ?_; clear hf a; intro a hf
    refine gL hf (g_and hf rfl rfl) (by decide) ?_; clear hf a; intro a hf
    refine gL hf (g_mv hf rfl) (by decide) ?_; clear hf a; intro a hf
    refine ggL hf rfl rfl (gyes_t _) (fun hg => g_fa (off' := 2) hf F47_2 rfl rfl) (by decide) ?_; clear hf a; intro a hf
    refine ggL hf rfl rfl (gyes_t _) (fun hg => g_ldP hf hs T40 (ev_gv rfl hg) (k := 0) rfl rfl) (by decide) ?_; clear hf a; intro a hf
    refine callG hf hs rfl rfl (gyes_t _) (fun hg => ⟨_, _, _, _, c_came _ _ _, rfl, evs_cons (ev_gv rfl hg) evs_nil, rfl⟩) E87 (by decide) ?_; clear hs hf a; intro w a hs hf
    refine gL hf (g_and hf rfl rfl) (by decide) ?_; clear hf a; intro a hf
    refine gL hf (g_mv hf rfl) (by decide) ?_; clear hf a; intro a hf
    refine ggL hf rfl rfl (gyes_t _) (fun hg => g_fa (off' := 4) hf F47_3 rfl rfl) (by decide) ?_; clear hf a; intro a hf
    refine ggL hf rfl rfl (gyes_t _) (fun hg => g_ldP hf hs T40 (ev_gv rfl hg) (k := 0) rfl rfl) (by decide) ?_; clear hf a; intro a hf
    refine callG hf hs rfl rfl (gyes_t _) (fun hg => ⟨_, _, _, _, c_came _ _ _, rfl, evs_cons (ev_gv rfl hg) evs_nil, rfl⟩) E87 (by decide) ?_; clear hs hf a; intro w a hs hf
    refine gL hf (g_and hf rfl rfl) (by decide) ?_; clear hf a; intro a hf
    refine gL hf (g_as hf rfl) (by decide) ?_; clear hf a; intro a hf
    refine e_nil1 (q_blkN (q_thenN ?_))
    refine c_reg1 ?_
    refine gL hf (g_mv hf rfl) (by decide) ?_; clear hf a; intro a hf
    refine gL hf (g_addI hf rfl rfl (by omega)) (by decide) ?_; clear hf a; intro a hf
    refine gL hf (g_as hf rfl) (by decide) ?_; clear hf a; intro a hf
    refine e_nil1 (q_thenN ?_)
    rw [wkr_condR] at hf
    exact ⟨(i + 1, wkrOK k.sh (k.ws.getD i default)), ⟨by dsimp only; omega, by dsimp only; rw [okW_succ hi, hbk, hoi]; rfl⟩, (by dsimp only; omega), hf.back (by repeat (first | (with_reducible exact Ext.base) | ((with_reducible refine Ext.cons ?_ ?_); (· rfl)) | ((with_reducible refine Ext.over ?_ ?_ ?_); (· rfl); (· rfl)))) (allKeys rfl) (.cons rfl (.cons rfl .nil)), hs.dropN 1⟩
  · skip
    have hfin := hck_stop hile hok hc1
    refine c_exit (q_thenX (q_thenX (q_blkX (q_thenN ?_))))
    refine wp_seq ?_
    refine c_reg ?_
    refine gL hf (g_mv hf rfl) (by decide) ?_; clear hf a; intro a hf
    refine gL hf (g_not hf rfl) (by decide) ?_; clear hf a; intro a hf
    refine e_nil ?_
    refine c_cond hf rfl (fun hc2 => ?_) (fun hc2 => ?_)
    · skip
      have hb2 : hckB k = false := by rw [hfin]; simpa using hc2
      refine c_reg ?_
      refine gL hf (g_as hf rfl) (by decide) ?_; clear hf a; intro a hf
      refine e_nil ?_
      refine c_ret (q_thenR ?_)
      refine e_ret1 hf rfl rfl ?_
      exact ⟨by rw [bookE, hb2]; rfl, hs.below⟩
    · skip
      have hb2 : hckB k = true := by rw [hfin]; simpa using hc2
      refine c_skip (q_thenN ?_)
      refine c_reg ?_
      refine gL hf (g_as hf rfl) (by decide) ?_; clear hf a; intro a hf
      refine e_nil ?_
      refine c_ret ?_
      refine e_ret1 hf rfl rfl ?_
      exact ⟨by rw [bookE, hb2]; rfl, hs.below⟩

end Go.Proofs.YtjjcopeedcdokaaDoor

set_option linter.unusedVariables false
set_option linter.unusedSimpArgs false
namespace Go.Proofs.YtjjcopeedcdokaaDoor
open Go.RowKit
theorem c_missingR (k : Bk) (fA : Option Addr) (fc : Nat) (rA : Option Addr) (rc : Nat) (wA : Option Addr) (wc : Nat) (i : Nat) (hi : i < k.ws.length) (c : Int × Int × Int) (ht : TrIn (k.ws.getD i default) c.1 c.2.1) (w0 : World) (h : BkIn k fA fc rA rc wA wc w0) :
    Calls Tryd.prog 119 #[.agg #[.int .i64 k.sh.wide, .int .i64 k.sh.high, .slice fA k.sh.flaps.length fc, .slice rA k.sh.rules.length rc, .int .i64 k.gross, .int .i64 k.pay, .int .i64 k.fine, .slice wA k.ws.length wc], .int .i64 ((i : Nat) : Int), .agg #[.int .i64 c.1, .int .i64 c.2.1, .int .i64 c.2.2]] w0 (Ret w0 (.int .i64 (rval k (k.ws.getD i default) 1 c))) := by
  refine c_enter (n := 19) Tryd.func119 rfl rfl (Nat.le_of_ble_eq_true rfl) ?_; intro a hf; simp only [zipR] at hf
  have hs := St.start w0 [Rd encF 5 fA k.sh.flaps.length k.sh.flaps, Rd encR 2 rA k.sh.rules.length k.sh.rules, Rd encW 6 wA k.ws.length k.ws, OrdD k.ws] h.stab
  have hwm := h.W.2.1
  have hn0 := ht.n0; have ht0 := ht.t0; have hts := ht.s; have htm := ht.m
  refine c_reg ?_
  refine vL hf (v_boxA hf hs rfl) (by decide) ?_; clear hs hf a; rintro _ w ⟨b1, rfl, hs⟩ a hf
  refine vL hf (v_boxA hf hs rfl) (by decide) ?_; clear hs hf a; rintro _ w ⟨b2, rfl, hs⟩ a hf
  refine gL hf (g_as hf rfl) (by decide) ?_; clear hf a; intro a hf
  refine e_nil ?_
  refine c_draw _ 13 Mx rfl hs (fun _ h => h) ?_; intro w hs hS
  refine gA hf hS (i := 0) rfl (by kernel_rfl) (fun w hs => g_fa (off' := 7) hf F28_4 rfl rfl) (by decide) ?_; clear hf a; intro a hf
  refine gA hf hS (i := 1) rfl (by kernel_rfl) (fun w hs => g_ld hf hs T26 rfl (k := 1) rfl rfl) (by decide) ?_; clear hf a; intro a hf
  refine gA hf hS (i := 2) rfl (by kernel_rfl) (fun w hs => g_mv hf rfl) (by decide) ?_; clear hf a; intro a hf
  (first | (refine gA hf hS (i := 3) rfl (by kernel_rfl) (fun w hs => g_ixE hf hs (.tail _ (.tail _ (.head _))) SL26 rfl rfl (by omega)) (by decide) ?_) | (refine gA hf hS (i := 3) rfl (by kernel_rfl) (fun w hs => g_ixD hf hs (.tail _ (.tail _ (.head _))) SL26 rfl rfl (by omega)) (by decide) ?_)); clear hf a; intro a hf
  refine gA hf hS (i := 4) rfl (by kernel_rfl) (fun w hs => g_faD (j' := 0) hf hs (.tail _ (.tail _ (.head _))) F47_0 rfl (by omega) rfl) (by decide) ?_; clear hf a; intro a hf
  refine gA hf hS (i := 5) rfl (by kernel_rfl) (fun w hs => g_ldE hf hs (.tail _ (.tail _ (.head _))) T3 rfl rfl (by omega)) (by decide) ?_; clear hf a; intro a hf
  refine gA hf hS (i := 6) rfl (by kernel_rfl) (fun w hs => g_fa (off' := 0) hf F142_0 rfl rfl) (by decide) ?_; clear hf a; intro a hf
  refine gA hf hS (i := 7) rfl (by kernel_rfl) (fun w hs => g_ld hf hs T3 rfl (k := 0) rfl rfl) (by decide) ?_; clear hf a; intro a hf
  refine gA hf hS (i := 8) rfl (by kernel_rfl) (fun w hs => g_subI hf rfl rfl (by omega)) (by decide) ?_; clear hf a; intro a hf
  refine gA hf hS (i := 9) rfl (by kernel_rfl) (fun w hs => g_fa (off' := 1) hf F142_1 rfl rfl) (by decide) ?_; clear hf a; intro a hf
  refine gA hf hS (i := 10) rfl (by kernel_rfl) (fun w hs => g_ld hf hs T3 rfl (k := 0) rfl rfl) (by decide) ?_; clear hf a; intro a hf
  refine gA hf hS (i := 11) rfl (by kernel_rfl) (fun w hs => g_subI hf rfl rfl (by omega)) (by decide) ?_; clear hf a; intro a hf
  refine gA hf hS (i := 12) rfl (by kernel_rfl) (fun w hs => g_as hf rfl) (by decide) ?_; clear hf a; intro a hf
  refine e_done (by kernel_rfl) ?_
  refine c_ret ?_
  refine e_ret1 hf rfl rfl ?_
  exact ⟨by rw [rval1]; rfl, hs.below⟩

theorem c_getsR (k : Bk) (fA : Option Addr) (fc : Nat) (rA : Option Addr) (rc : Nat) (wA : Option Addr) (wc : Nat) (i : Nat) (hi : i < k.ws.length) (c : Int × Int × Int) (ht : TrIn (k.ws.getD i default) c.1 c.2.1) (hp : 0 ≤ c.2.2 ∧ c.2.2 ≤ 600) (hv : BkV k) (w0 : World) (h : BkIn k fA fc rA rc wA wc w0) :
    Calls Tryd.prog 120 #[.agg #[.int .i64 k.sh.wide, .int .i64 k.sh.high, .slice fA k.sh.flaps.length fc, .slice rA k.sh.rules.length rc, .int .i64 k.gross, .int .i64 k.pay, .int .i64 k.fine, .slice wA k.ws.length wc], .int .i64 ((i : Nat) : Int), .agg #[.int .i64 c.1, .int .i64 c.2.1, .int .i64 c.2.2]] w0 (Ret w0 (.int .i64 (rval k (k.ws.getD i default) 2 c))) := by
  refine c_enter (n := 23) Tryd.func120 rfl rfl (Nat.le_of_ble_eq_true rfl) ?_; intro a hf; simp only [zipR] at hf
  have hs := St.start w0 [Rd encF 5 fA k.sh.flaps.length k.sh.flaps, Rd encR 2 rA k.sh.rules.length k.sh.rules, Rd encW 6 wA k.ws.length k.ws, OrdD k.ws] h.stab
  have hwm := h.W.2.1
  have hg1 := hv.g1
  have hq := tdiv_rng hv.g1 hp.1
  have hqp := mul_rng (a := c.2.2.tdiv k.gross) (A := 600) (b := k.pay) (B := 999) ⟨hq.1, by omega⟩ ⟨hv.p1, hv.p2⟩
  have hmr := ht.hm
  have hfm := mul_rng (a := k.fine) (A := 99) (b := hm (k.ws.getD i default) (c.1, c.2.1)) (B := 600) ⟨hv.f1, hv.f2⟩ hmr
  refine c_reg ?_
  refine vL hf (v_boxA hf hs rfl) (by decide) ?_; clear hs hf a; rintro _ w ⟨b1, rfl, hs⟩ a hf
  refine vL hf (v_boxA hf hs rfl) (by decide) ?_; clear hs hf a; rintro _ w ⟨b2, rfl, hs⟩ a hf
  refine gL hf (g_as hf rfl) (by decide) ?_; clear hf a; intro a hf
  refine e_nil ?_
  refine c_draw _ 17 Mx rfl hs (fun _ h => h) ?_; intro w hs hS
  refine gA hf hS (i := 0) rfl (by kernel_rfl) (fun w hs => g_fa (off' := 2) hf F142_2 rfl rfl) (by decide) ?_; clear hf a; intro a hf
  refine gA hf hS (i := 1) rfl (by kernel_rfl) (fun w hs => g_ld hf hs T3 rfl (k := 0) rfl rfl) (by decide) ?_; clear hf a; intro a hf
  refine gA hf hS (i := 2) rfl (by kernel_rfl) (fun w hs => g_fa (off' := 4) hf F28_1 rfl rfl) (by decide) ?_; clear hf a; intro a hf
  refine gA hf hS (i := 3) rfl (by kernel_rfl) (fun w hs => g_ld hf hs T3 rfl (k := 1) rfl rfl) (by decide) ?_; clear hf a; intro a hf
  refine gA hf hS (i := 4) rfl (by kernel_rfl) (fun w hs => g_quoI hf rfl rfl ⟨by omega, by omega⟩) (by decide) ?_; clear hf a; intro a hf
  refine gA hf hS (i := 5) rfl (by kernel_rfl) (fun w hs => g_fa (off' := 5) hf F28_2 rfl rfl) (by decide) ?_; clear hf a; intro a hf
  refine gA hf hS (i := 6) rfl (by kernel_rfl) (fun w hs => g_ld hf hs T3 rfl (k := 1) rfl rfl) (by decide) ?_; clear hf a; intro a hf
  refine gA hf hS (i := 7) rfl (by kernel_rfl) (fun w hs => g_mulI hf rfl rfl (by omega)) (by decide) ?_; clear hf a; intro a hf
  refine gA hf hS (i := 8) rfl (by kernel_rfl) (fun w hs => g_fa (off' := 6) hf F28_3 rfl rfl) (by decide) ?_; clear hf a; intro a hf
  refine gA hf hS (i := 9) rfl (by kernel_rfl) (fun w hs => g_ld hf hs T3 rfl (k := 1) rfl rfl) (by decide) ?_; clear hf a; intro a hf
  refine gA hf hS (i := 10) rfl (by kernel_rfl) (fun w hs => g_ldW hf hs T28 rfl (k := 1) rfl rfl) (by decide) ?_; clear hf a; intro a hf
  refine gA hf hS (i := 11) rfl (by kernel_rfl) (fun w hs => g_mv hf rfl) (by decide) ?_; clear hf a; intro a hf
  refine gA hf hS (i := 12) rfl (by kernel_rfl) (fun w hs => g_ldW hf hs T142 rfl (k := 0) rfl rfl) (by decide) ?_; clear hf a; intro a hf
  refine one (i := 13) (by kernel_rfl) ?_
  refine oCall hf hs rfl (c_missingR k _ _ _ _ _ _ i hi c ht _ ⟨⟨hs.rd (.head _), hs.rd (.tail _ (.head _)), h.sh.fc_, h.sh.rc_⟩, hs.rd (.tail _ (.tail _ (.head _))), h.wc_, hs.rd (.tail _ (.tail _ (.tail _ (.head _))))⟩) rfl rfl rfl E119 (by decide) (fun _ h => h.sub (.refl _)) ?_; clear hs hf hS a; intro w a hs hS hf
  refine gA hf hS (i := 14) rfl (by kernel_rfl) (fun w hs => g_mulI hf rfl rfl (by rw [rval1]; omega)) (by decide) ?_; clear hf a; intro a hf
  refine gA hf hS (i := 15) rfl (by kernel_rfl) (fun w hs => g_subI hf rfl rfl (by rw [rval1]; omega)) (by decide) ?_; clear hf a; intro a hf
  refine gA hf hS (i := 16) rfl (by kernel_rfl) (fun w hs => g_as hf rfl) (by decide) ?_; clear hf a; intro a hf
  refine e_done (by kernel_rfl) ?_
  refine c_ret ?_
  refine e_ret1 hf rfl rfl ?_
  exact ⟨by rfl, hs.below⟩

end Go.Proofs.YtjjcopeedcdokaaDoor

set_option linter.unusedVariables false
set_option linter.unusedSimpArgs false
namespace Go.Proofs.YtjjcopeedcdokaaDoor
open Go.RowKit
theorem c_truthsR (k : Bk) (fA : Option Addr) (fc : Nat) (rA : Option Addr) (rc : Nat) (wA : Option Addr) (wc : Nat) (i : Nat) (hi : i < k.ws.length) (hv : BkV k) (w0 : World) (h : BkIn k fA fc rA rc wA wc w0) :
    Calls Tryd.prog 91 #[.agg #[.int .i64 k.sh.wide, .int .i64 k.sh.high, .slice fA k.sh.flaps.length fc, .slice rA k.sh.rules.length rc, .int .i64 k.gross, .int .i64 k.pay, .int .i64 k.fine, .slice wA k.ws.length wc], .int .i64 ((i : Nat) : Int)] w0 (RetX w0 (fun v w0' => ∃ A c, v = .slice A (rtrues (doesK k (k.ws.getD i default)) (trues (k.ws.getD i default))).length c ∧ OutG encQ 3 (rtrues (doesK k (k.ws.getD i default)) (trues (k.ws.getD i default))) A c w0 w0')) := by
  refine c_enter (n := 70) Tryd.func91 rfl rfl (Nat.le_of_ble_eq_true rfl) ?_; intro a hf; simp only [zipR] at hf
  have hs := St.start w0 [Rd encF 5 fA k.sh.flaps.length k.sh.flaps, Rd encR 2 rA k.sh.rules.length k.sh.rules, Rd encW 6 wA k.ws.length k.ws, OrdD k.ws] h.stab
  have hwm := h.W.2.1
  have hckS := hv.ck; have hx := hv.wk hi; have hb0 := hx.b0; have hb1 := hx.b1; have hb2 := hx.b2; have ht0 := hx.t0; have ht1 := hx.t1; have ht2 := hx.t2; have hsm := hx.s1; have hs00 := hx.s0
  refine c_reg ?_
  refine vL hf (v_boxA hf hs rfl) (by decide) ?_; clear hs hf a; rintro _ w ⟨b1, rfl, hs⟩ a hf
  refine gL hf (g_as hf rfl) (by decide) ?_; clear hf a; intro a hf
  refine e_nil ?_
  refine c_reg ?_
  refine gL hf (g_fa (off' := 7) hf F28_4 rfl rfl) (by decide) ?_; clear hf a; intro a hf
  refine gL hf (g_ld hf hs T26 rfl (k := 0) rfl rfl) (by decide) ?_; clear hf a; intro a hf
  refine gL hf (g_mv hf rfl) (by decide) ?_; clear hf a; intro a hf
  (first | (refine gL hf (g_ixE hf hs (.tail _ (.tail _ (.head _))) SL26 rfl rfl (by omega)) (by decide) ?_) | (refine gL hf (g_ixD hf hs (.tail _ (.tail _ (.head _))) SL26 rfl rfl (by omega)) (by decide) ?_)); clear hf a; intro a hf
  refine gL hf (g_ldEW hf hs (.tail _ (.tail _ (.head _))) T47 rfl rfl (by omega)) (by decide) ?_; clear hf a; intro a hf
  refine vL hf (v_alloc hs T47 rfl) (by decide) ?_; clear hs hf a; rintro _ w ⟨b2, rfl, hs⟩ a hf
  refine uL (u_stW hf hs T47 rfl rfl rfl (k := 0) rfl rfl rfl) ?_; clear hs; intro w hs; dsimp only [List.set] at hs
  refine e_nil ?_
  refine c_reg ?_
  refine gL hf (g_fa (off' := 0) hf F28_0 rfl rfl) (by decide) ?_; clear hf a; intro a hf
  refine gL hf (g_ldP hf hs T25 rfl (k := 1) rfl rfl) (by decide) ?_; clear hf a; intro a hf
  refine gL hf (g_fa (off' := 1) hf F47_1 rfl rfl) (by decide) ?_; clear hf a; intro a hf
  refine gL hf (g_ld hf hs T31 rfl (k := 0) rfl rfl) (by decide) ?_; clear hf a; intro a hf
  refine callL hf hs (c_DoesR k.sh _ _ _ _ _ _ (k.ws.getD i default).order hckS _ ⟨hs.rd (.head _), hs.rd (.tail _ (.head _)), h.sh.fc_, h.sh.rc_⟩ ((hs.rd (.tail _ (.tail _ (.tail _ (.head _))))) _ (getD_mem hi)).2) rfl rfl rfl E86 (by decide) ?_; clear hs hf a; intro w a hs hf
  refine gL hf (g_mv hf rfl) (by decide) ?_; clear hf a; intro a hf
  refine gL hf (g_ext hf rfl rfl) (by decide) ?_; clear hf a; intro a hf
  refine gL hf (g_ext hf rfl rfl) (by decide) ?_; clear hf a; intro a hf
  refine gL hf (g_as hf rfl) (by decide) ?_; clear hf a; intro a hf
  refine gL hf (g_as hf rfl) (by decide) ?_; clear hf a; intro a hf
  refine e_nil ?_
  have hdk : (doesP k.sh (k.ws.getD i default).order).1 = (doesK k (k.ws.getD i default)) := rfl
  rw [hdk] at hf
  refine c_reg ?_
  refine gL hf (g_as hf rfl) (by decide) ?_; clear hf a; intro a hf
  refine e_nil ?_
  refine wp_seq ?_
  refine c_reg ?_
  refine gL hf (g_fa (off' := 2) hf F47_2 rfl rfl) (by decide) ?_; clear hf a; intro a hf
  refine gL hf (g_fa (off' := 2) hf F40_0 rfl rfl) (by decide) ?_; clear hf a; intro a hf
  refine gL hf (g_ld hf hs T3 rfl (k := 0) rfl rfl) (by decide) ?_; clear hf a; intro a hf
  refine gL hf (g_as hf rfl) (by decide) ?_; clear hf a; intro a hf
  refine e_nil ?_
  refine c_block ?_
  have hz0 : (k.ws.getD i default).bl + ((0 : Nat) : Int) = (k.ws.getD i default).bl := by omega
  have hz1 : rtrues (doesK k (k.ws.getD i default)) (truesTo (k.ws.getD i default) (k.ws.getD i default).bl) = [] := by rw [trues_start]; rfl
  refine c_loop hf hs (List.range' 8 3 ++ List.range' 27 42) (σ := (Nat × Acc)) (fun s => [(8, accV 3 (rtrues (doesK k (k.ws.getD i default)) (truesTo (k.ws.getD i default) ((k.ws.getD i default).bl + ((s.1 : Nat) : Int)))).length s.2), (9, .int .i64 ((k.ws.getD i default).bl + ((s.1 : Nat) : Int)))]) (fun s => (b2, .cells (encW (k.ws.getD i default)).toArray 47 (0, 0)) :: (b1, .cells #[.int .i64 k.sh.wide, .int .i64 k.sh.high, .slice fA k.sh.flaps.length fc, .slice rA k.sh.rules.length rc, .int .i64 k.gross, .int .i64 k.pay, .int .i64 k.fine, .slice wA k.ws.length wc] 28 (0, 0)) :: accH 142 s.2) (fun s => (k.ws.getD i default).bl + ((s.1 : Nat) : Int) ≤ (k.ws.getD i default).bh + 1 ∧ AccOK encQ 3 (rtrues (doesK k (k.ws.getD i default)) (truesTo (k.ws.getD i default) ((k.ws.getD i default).bl + ((s.1 : Nat) : Int)))) s.2) (fun s => ((k.ws.getD i default).bh - (k.ws.getD i default).bl + 1).toNat - s.1) (0, none) ⟨by dsimp only; omega, by dsimp only; rw [hz0, hz1]; rfl⟩ (.cons rfl (.cons (by show _ = some (Value.int .i64 ((k.ws.getD i default).bl + ((0 : Nat) : Int))); rw [hz0]; rfl) .nil)) rfl ?_
  intro ⟨q, oa⟩ a w hJ hf hs
  dsimp only at hJ hf hs
  obtain ⟨hqle, hoa⟩ := hJ
  refine wp_seq ?_
  refine c_reg ?_
  refine gL hf (g_mv hf rfl) (by decide) ?_; clear hf a; intro a hf
  refine gL hf (g_fa (off' := 2) hf F47_2 rfl rfl) (by decide) ?_; clear hf a; intro a hf
  refine gL hf (g_fa (off' := 3) hf F40_1 rfl rfl) (by decide) ?_; clear hf a; intro a hf
  refine gL hf (g_ld hf hs T3 rfl (k := 0) rfl rfl) (by decide) ?_; clear hf a; intro a hf
  refine gL hf (g_leq hf rfl rfl) (by decide) ?_; clear hf a; intro a hf
  refine e_nil ?_
  refine c_cond hf rfl (fun hc1 => ?_) (fun hc1 => ?_)
  · try simp only [decide_eq_true_eq, decide_eq_false_iff_not] at hc1
    refine c_skip (q_thenN ?_)
    refine c_blockS ?_
    refine c_reg ?_
    refine gL hf (g_fa (off' := 4) hf F47_3 rfl rfl) (by decide) ?_; clear hf a; intro a hf
    refine gL hf (g_fa (off' := 4) hf F40_0 rfl rfl) (by decide) ?_; clear hf a; intro a hf
    refine gL hf (g_ld hf hs T3 rfl (k := 0) rfl rfl) (by decide) ?_; clear hf a; intro a hf
    refine gL hf (g_as hf rfl) (by decide) ?_; clear hf a; intro a hf
    refine e_nil ?_
    refine c_block ?_
    rw [← rt_start] at hf hoa
    have hz8 : (k.ws.getD i default).tl + ((0 : Nat) : Int) = (k.ws.getD i default).tl := by omega
    have hz9 : (k.ws.getD i default).tl + ((0 : Nat) : Int) - 1 = (k.ws.getD i default).tl - 1 := by omega
    refine c_loop hf hs (List.range' 8 1 ++ List.range' 10 1 ++ List.range' 37 32) (σ := (Nat × Acc)) (fun s => [(8, accV 3 (rtL (doesK k (k.ws.getD i default)) (k.ws.getD i default) ((k.ws.getD i default).bl + ((q : Nat) : Int)) ((k.ws.getD i default).tl + ((s.1 : Nat) : Int) - 1)).length s.2), (10, .int .i64 ((k.ws.getD i default).tl + ((s.1 : Nat) : Int)))]) (fun s => (b2, .cells (encW (k.ws.getD i default)).toArray 47 (0, 0)) :: (b1, .cells #[.int .i64 k.sh.wide, .int .i64 k.sh.high, .slice fA k.sh.flaps.length fc, .slice rA k.sh.rules.length rc, .int .i64 k.gross, .int .i64 k.pay, .int .i64 k.fine, .slice wA k.ws.length wc] 28 (0, 0)) :: accH 142 s.2) (fun s => (k.ws.getD i default).tl + ((s.1 : Nat) : Int) ≤ (k.ws.getD i default).th + 1 ∧ (1 ≤ s.1 → ((k.ws.getD i default).bl + ((q : Nat) : Int)) + ((k.ws.getD i default).tl + ((s.1 : Nat) : Int) - 1) ≤ (k.ws.getD i default).sheets) ∧ AccOK encQ 3 (rtL (doesK k (k.ws.getD i default)) (k.ws.getD i default) ((k.ws.getD i default).bl + ((q : Nat) : Int)) ((k.ws.getD i default).tl + ((s.1 : Nat) : Int) - 1)) s.2) (fun s => ((k.ws.getD i default).th - (k.ws.getD i default).tl + 1).toNat - s.1) (0, oa) ⟨by dsimp only; omega, fun h9 => by dsimp only at h9; omega, by dsimp only; rw [show (k.ws.getD i default).tl + ((0 : Nat) : Int) - 1 = (k.ws.getD i default).tl - 1 by omega]; exact hoa⟩ (.cons (by show _ = some (accV 3 (rtL (doesK k (k.ws.getD i default)) (k.ws.getD i default) ((k.ws.getD i default).bl + ((q : Nat) : Int)) ((k.ws.getD i default).tl + ((0 : Nat) : Int) - 1)).length oa); rw [hz9]; rfl) (.cons (by show _ = some (Value.int .i64 ((k.ws.getD i default).tl + ((0 : Nat) : Int))); rw [hz8]; rfl) .nil)) rfl ?_
    intro ⟨t, oa⟩ a w hJ hf hs
    dsimp only at hJ hf hs
    clear hoa
    obtain ⟨htle, hts, hoa⟩ := hJ
    refine wp_seq ?_
    refine c_reg ?_
    refine gL hf (g_mv hf rfl) (by decide) ?_; clear hf a; intro a hf
    refine gL hf (g_fa (off' := 4) hf F47_3 rfl rfl) (by decide) ?_; clear hf a; intro a hf
    refine gL hf (g_fa (off' := 5) hf F40_1 rfl rfl) (by decide) ?_; clear hf a; intro a hf
    refine gL hf (g_ld hf hs T3 rfl (k := 0) rfl rfl) (by decide) ?_; clear hf a; intro a hf
    refine gL hf (g_leq hf rfl rfl) (by decide) ?_; clear hf a; intro a hf
    refine gL hf (g_mv hf rfl) (by decide) ?_; clear hf a; intro a hf
    refine ggL hf rfl rfl (gyes_t _) (fun hg => g_mv hf rfl) (by decide) ?_; clear hf a; intro a hf
    refine ggL hf rfl rfl (gyes_t _) (fun hg => g_mv hf rfl) (by decide) ?_; clear hf a; intro a hf
    refine ggL hf rfl rfl (gyes_t _) (fun hg => g_addI hf (ev_gv rfl hg) (ev_gv rfl hg) (by omega)) (by decide) ?_; clear hf a; intro a hf
    refine ggL hf rfl rfl (gyes_t _) (fun hg => g_fa (off' := 0) hf F47_0 rfl rfl) (by decide) ?_; clear hf a; intro a hf
    refine ggL hf rfl rfl (gyes_t _) (fun hg => g_ld hf hs T3 (ev_gv rfl hg) (k := 0) rfl rfl) (by decide) ?_; clear hf a; intro a hf
    refine ggL hf rfl rfl (gyes_t _) (fun hg => g_leq hf (ev_gv rfl hg) (ev_gv rfl hg)) (by decide) ?_; clear hf a; intro a hf
    refine gL hf (g_and hf rfl rfl) (by decide) ?_; clear hf a; intro a hf
    refine e_nil ?_
    refine c_cond hf rfl (fun hc2 => ?_) (fun hc2 => ?_)
    · skip
      obtain ⟨hc2a, hc2b⟩ := Bool.and_eq_true_iff.1 hc2
      replace hc2a := of_decide_eq_true hc2a
      replace hc2b := of_decide_eq_true hc2b
      have hlen := rt_small hx (d := (doesK k (k.ws.getD i default))) (n := ((k.ws.getD i default).bl + ((q : Nat) : Int))) (t := ((k.ws.getD i default).tl + ((t : Nat) : Int))) (by omega) (by omega) (by omega) (by omega) (by omega)
      refine c_skip (q_thenN ?_)
      refine c_blockS ?_
      refine wp_seq ?_
      refine c_reg ?_
      refine gL hf (g_mv hf rfl) (by decide) ?_; clear hf a; intro a hf
      refine gL hf (g_lss hf rfl rfl) (by decide) ?_; clear hf a; intro a hf
      refine e_nil ?_
      refine c_cond hf rfl (fun hc3 => ?_) (fun hc3 => ?_)
      · try simp only [decide_eq_true_eq, decide_eq_false_iff_not] at hc3
        refine c_reg1 ?_
        refine gL hf (g_mv hf rfl) (by decide) ?_; clear hf a; intro a hf
        refine gL hf (g_mv hf rfl) (by decide) ?_; clear hf a; intro a hf
        refine gL hf (g_mv hf rfl) (by decide) ?_; clear hf a; intro a hf
        refine gL hf (g_bld hf [[.int .i64 0], [.int .i64 0], [.int .i64 0]] (.cons rfl (.cons rfl (.cons rfl .nil))) (fun _ => by kernel_rfl)) (by decide) ?_; clear hf a; intro a hf
        refine vL hf (v_lits (len := 1) hf hs SL108 T142 (.cons rfl .nil) rfl rfl rfl rfl (by decide) rfl) (by decide) ?_; clear hs hf a; rintro _ w ⟨b3, rfl, hs⟩ a hf
        refine vL hf (v_accN (e := 142) (R := []) (o := oa) hf 3 hs (by simp) hoa AP108 (enc := encQ) (l := (rtL (doesK k (k.ws.getD i default)) (k.ws.getD i default) ((k.ws.getD i default).bl + ((q : Nat) : Int)) (((k.ws.getD i default).tl + ((t : Nat) : Int)) - 1))) (l' := [(((k.ws.getD i default).bl + ((q : Nat) : Int)), ((k.ws.getD i default).tl + ((t : Nat) : Int)), 0)]) (fun _ => rfl) (by decide) (by intro x v hv9; simp only [encQ, List.mem_cons, List.not_mem_nil, or_false] at hv9; rcases hv9 with rfl | rfl | rfl <;> rfl) rfl rfl rfl (rd_single (enc := encQ) rfl (hs.own _ _ (.head _)).2) (by first | omega | (simp only [List.length_append, List.length_cons, List.length_nil]; omega)) (by decide)) (by decide) ?_; clear hs hf a; rintro _ w ⟨oa1, rfl, hoa1, hs⟩ a hf; dsimp only [List.take, List.cons_append, List.nil_append] at hs; rw [List.append_nil] at hs
        rw [show List.length (α := Int × Int × Int) (rtL (doesK k (k.ws.getD i default)) (k.ws.getD i default) ((k.ws.getD i default).bl + ((q : Nat) : Int)) (((k.ws.getD i default).tl + ((t : Nat) : Int)) - 1)) + 1 = List.length (α := Int × Int × Int) ((rtL (doesK k (k.ws.getD i default)) (k.ws.getD i default) ((k.ws.getD i default).bl + ((q : Nat) : Int)) (((k.ws.getD i default).tl + ((t : Nat) : Int)) - 1)) ++ [(((k.ws.getD i default).bl + ((q : Nat) : Int)), ((k.ws.getD i default).tl + ((t : Nat) : Int)), 0)]) by simp only [List.length_append, List.length_cons, List.length_nil]] at hf
        refine gL hf (g_as hf rfl) (by decide) ?_; clear hf a; intro a hf
        refine e_nil1 (q_thenN ?_)
        refine c_reg ?_
        refine gL hf (g_mv hf rfl) (by decide) ?_; clear hf a; intro a hf
        refine gL hf (g_gtr hf rfl rfl) (by decide) ?_; clear hf a; intro a hf
        refine e_nil ?_
        refine c_cond hf rfl (fun hc4 => ?_) (fun hc4 => ?_)
        · try simp only [decide_eq_true_eq, decide_eq_false_iff_not] at hc4
          have hLn : rtL (doesK k (k.ws.getD i default)) (k.ws.getD i default) ((k.ws.getD i default).bl + ((q : Nat) : Int)) ((k.ws.getD i default).tl + ((t + 1 : Nat) : Int) - 1) = rtL (doesK k (k.ws.getD i default)) (k.ws.getD i default) ((k.ws.getD i default).bl + ((q : Nat) : Int)) (((k.ws.getD i default).tl + ((t : Nat) : Int)) - 1) ++ [(((k.ws.getD i default).bl + ((q : Nat) : Int)), ((k.ws.getD i default).tl + ((t : Nat) : Int)), 0)] ++ [(((k.ws.getD i default).bl + ((q : Nat) : Int)), ((k.ws.getD i default).tl + ((t : Nat) : Int)), ((k.ws.getD i default).bl + ((q : Nat) : Int)))] := by rw [show (k.ws.getD i default).tl + ((t + 1 : Nat) : Int) - 1 = ((k.ws.getD i default).tl + ((t : Nat) : Int)) by omega, rt_next (by omega)]; unfold rrow; rw [if_pos hc3, if_pos hc4]; simp only [List.append_assoc, List.append_nil, List.nil_append]
          refine c_reg1 ?_
          refine gL hf (g_mv hf rfl) (by decide) ?_; clear hf a; intro a hf
          refine gL hf (g_mv hf rfl) (by decide) ?_; clear hf a; intro a hf
          refine gL hf (g_mv hf rfl) (by decide) ?_; clear hf a; intro a hf
          refine gL hf (g_mv hf rfl) (by decide) ?_; clear hf a; intro a hf
          refine gL hf (g_bld hf [[.int .i64 0], [.int .i64 0], [.int .i64 0]] (.cons rfl (.cons rfl (.cons rfl .nil))) (fun _ => by kernel_rfl)) (by decide) ?_; clear hf a; intro a hf
          refine vL hf (v_lits (len := 1) hf hs SL108 T142 (.cons rfl .nil) rfl rfl rfl rfl (by decide) rfl) (by decide) ?_; clear hs hf a; rintro _ w ⟨b4, rfl, hs⟩ a hf
          refine vL hf (v_accN (e := 142) (R := []) (o := oa1) hf 4 hs (by simp) hoa1 AP108 (enc := encQ) (l := ((rtL (doesK k (k.ws.getD i default)) (k.ws.getD i default) ((k.ws.getD i default).bl + ((q : Nat) : Int)) (((k.ws.getD i default).tl + ((t : Nat) : Int)) - 1)) ++ [(((k.ws.getD i default).bl + ((q : Nat) : Int)), ((k.ws.getD i default).tl + ((t : Nat) : Int)), 0)])) (l' := [(((k.ws.getD i default).bl + ((q : Nat) : Int)), ((k.ws.getD i default).tl + ((t : Nat) : Int)), ((k.ws.getD i default).bl + ((q : Nat) : Int)))]) (fun _ => rfl) (by decide) (by intro x v hv9; simp only [encQ, List.mem_cons, List.not_mem_nil, or_false] at hv9; rcases hv9 with rfl | rfl | rfl <;> rfl) rfl rfl rfl (rd_single (enc := encQ) rfl (hs.own _ _ (.head _)).2) (by first | omega | (simp only [List.length_append, List.length_cons, List.length_nil]; omega)) (by decide)) (by decide) ?_; clear hs hf a; rintro _ w ⟨oa11, rfl, hoa11, hs⟩ a hf; dsimp only [List.take, List.cons_append, List.nil_append] at hs; rw [List.append_nil] at hs
          rw [show List.length (α := Int × Int × Int) ((rtL (doesK k (k.ws.getD i default)) (k.ws.getD i default) ((k.ws.getD i default).bl + ((q : Nat) : Int)) (((k.ws.getD i default).tl + ((t : Nat) : Int)) - 1)) ++ [(((k.ws.getD i default).bl + ((q : Nat) : Int)), ((k.ws.getD i default).tl + ((t : Nat) : Int)), 0)]) + 1 = List.length (α := Int × Int × Int) (((rtL (doesK k (k.ws.getD i default)) (k.ws.getD i default) ((k.ws.getD i default).bl + ((q : Nat) : Int)) (((k.ws.getD i default).tl + ((t : Nat) : Int)) - 1)) ++ [(((k.ws.getD i default).bl + ((q : Nat) : Int)), ((k.ws.getD i default).tl + ((t : Nat) : Int)), 0)]) ++ [(((k.ws.getD i default).bl + ((q : Nat) : Int)), ((k.ws.getD i default).tl + ((t : Nat) : Int)), ((k.ws.getD i default).bl + ((q : Nat) : Int)))]) by simp only [List.length_append, List.length_cons, List.length_nil]] at hf
          refine gL hf (g_as hf rfl) (by decide) ?_; clear hf a; intro a hf
          refine e_nil1 (q_blkN (q_thenN ?_))
          refine c_reg1 ?_
          refine gL hf (g_mv hf rfl) (by decide) ?_; clear hf a; intro a hf
          refine gL hf (g_addI hf rfl rfl (by omega)) (by decide) ?_; clear hf a; intro a hf
          refine gL hf (g_as hf rfl) (by decide) ?_; clear hf a; intro a hf
          refine e_nil1 (q_thenN ?_)
          rw [← hLn, show ((k.ws.getD i default).tl + ((t : Nat) : Int)) + 1 = (k.ws.getD i default).tl + ((t + 1 : Nat) : Int) by omega] at hf
          first | exact ⟨(t + 1, oa11), ⟨by dsimp only; omega, fun _ => by dsimp only; omega, by dsimp only; rw [hLn]; exact hoa11⟩, (by dsimp only; omega), hf.back (by repeat (first | (with_reducible exact Ext.base) | ((with_reducible refine Ext.cons ?_ ?_); (· rfl)) | ((with_reducible refine Ext.over ?_ ?_ ?_); (· rfl); (· rfl)))) (allKeys rfl) (.cons rfl (.cons rfl .nil)), (by first | exact hs.dropN 2 | exact hs.dropN 1)⟩ | exact ⟨(t + 1, oa1), ⟨by dsimp only; omega, fun _ => by dsimp only; omega, by dsimp only; rw [hLn]; exact hoa1⟩, (by dsimp only; omega), hf.back (by repeat (first | (with_reducible exact Ext.base) | ((with_reducible refine Ext.cons ?_ ?_); (· rfl)) | ((with_reducible refine Ext.over ?_ ?_ ?_); (· rfl); (· rfl)))) (allKeys rfl) (.cons rfl (.cons rfl .nil)), (by first | exact hs.dropN 2 | exact hs.dropN 1)⟩
        · try simp only [decide_eq_true_eq, decide_eq_false_iff_not] at hc4
          have hLn : rtL (doesK k (k.ws.getD i default)) (k.ws.getD i default) ((k.ws.getD i default).bl + ((q : Nat) : Int)) ((k.ws.getD i default).tl + ((t + 1 : Nat) : Int) - 1) = rtL (doesK k (k.ws.getD i default)) (k.ws.getD i default) ((k.ws.getD i default).bl + ((q : Nat) : Int)) (((k.ws.getD i default).tl + ((t : Nat) : Int)) - 1) ++ [(((k.ws.getD i default).bl + ((q : Nat) : Int)), ((k.ws.getD i default).tl + ((t : Nat) : Int)), 0)] := by rw [show (k.ws.getD i default).tl + ((t + 1 : Nat) : Int) - 1 = ((k.ws.getD i default).tl + ((t : Nat) : Int)) by omega, rt_next (by omega)]; unfold rrow; rw [if_pos hc3, if_neg hc4]; simp only [List.append_assoc, List.append_nil, List.nil_append]
          refine c_skip (q_blkN (q_thenN ?_))
          refine c_reg1 ?_
          refine gL hf (g_mv hf rfl) (by decide) ?_; clear hf a; intro a hf
          refine gL hf (g_addI hf rfl rfl (by omega)) (by decide) ?_; clear hf a; intro a hf
          refine gL hf (g_as hf rfl) (by decide) ?_; clear hf a; intro a hf
          refine e_nil1 (q_thenN ?_)
          rw [← hLn, show ((k.ws.getD i default).tl + ((t : Nat) : Int)) + 1 = (k.ws.getD i default).tl + ((t + 1 : Nat) : Int) by omega] at hf
          first | exact ⟨(t + 1, oa11), ⟨by dsimp only; omega, fun _ => by dsimp only; omega, by dsimp only; rw [hLn]; exact hoa11⟩, (by dsimp only; omega), hf.back (by repeat (first | (with_reducible exact Ext.base) | ((with_reducible refine Ext.cons ?_ ?_); (· rfl)) | ((with_reducible refine Ext.over ?_ ?_ ?_); (· rfl); (· rfl)))) (allKeys rfl) (.cons rfl (.cons rfl .nil)), (by first | exact hs.dropN 2 | exact hs.dropN 1)⟩ | exact ⟨(t + 1, oa1), ⟨by dsimp only; omega, fun _ => by dsimp only; omega, by dsimp only; rw [hLn]; exact hoa1⟩, (by dsimp only; omega), hf.back (by repeat (first | (with_reducible exact Ext.base) | ((with_reducible refine Ext.cons ?_ ?_); (· rfl)) | ((with_reducible refine Ext.over ?_ ?_ ?_); (· rfl); (· rfl)))) (allKeys rfl) (.cons rfl (.cons rfl .nil)), (by first | exact hs.dropN 2 | exact hs.dropN 1)⟩
      · try simp only [decide_eq_true_eq, decide_eq_false_iff_not] at hc3
        refine c_skip (q_thenN ?_)
        refine c_reg ?_
        refine gL hf (g_mv hf rfl) (by decide) ?_; clear hf a; intro a hf
        refine gL hf (g_gtr hf rfl rfl) (by decide) ?_; clear hf a; intro a hf
        refine e_nil ?_
        refine c_cond hf rfl (fun hc5 => ?_) (fun hc5 => ?_)
        · try simp only [decide_eq_true_eq, decide_eq_false_iff_not] at hc5
          have hLn : rtL (doesK k (k.ws.getD i default)) (k.ws.getD i default) ((k.ws.getD i default).bl + ((q : Nat) : Int)) ((k.ws.getD i default).tl + ((t + 1 : Nat) : Int) - 1) = rtL (doesK k (k.ws.getD i default)) (k.ws.getD i default) ((k.ws.getD i default).bl + ((q : Nat) : Int)) (((k.ws.getD i default).tl + ((t : Nat) : Int)) - 1) ++ [(((k.ws.getD i default).bl + ((q : Nat) : Int)), ((k.ws.getD i default).tl + ((t : Nat) : Int)), ((k.ws.getD i default).bl + ((q : Nat) : Int)))] := by rw [show (k.ws.getD i default).tl + ((t + 1 : Nat) : Int) - 1 = ((k.ws.getD i default).tl + ((t : Nat) : Int)) by omega, rt_next (by omega)]; unfold rrow; rw [if_neg hc3, if_pos hc5]; simp only [List.append_assoc, List.append_nil, List.nil_append]
          refine c_reg1 ?_
          refine gL hf (g_mv hf rfl) (by decide) ?_; clear hf a; intro a hf
          refine gL hf (g_mv hf rfl) (by decide) ?_; clear hf a; intro a hf
          refine gL hf (g_mv hf rfl) (by decide) ?_; clear hf a; intro a hf
          refine gL hf (g_mv hf rfl) (by decide) ?_; clear hf a; intro a hf
          refine gL hf (g_bld hf [[.int .i64 0], [.int .i64 0], [.int .i64 0]] (.cons rfl (.cons rfl (.cons rfl .nil))) (fun _ => by kernel_rfl)) (by decide) ?_; clear hf a; intro a hf
          refine vL hf (v_lits (len := 1) hf hs SL108 T142 (.cons rfl .nil) rfl rfl rfl rfl (by decide) rfl) (by decide) ?_; clear hs hf a; rintro _ w ⟨b3, rfl, hs⟩ a hf
          refine vL hf (v_accN (e := 142) (R := []) (o := oa) hf 3 hs (by simp) hoa AP108 (enc := encQ) (l := (rtL (doesK k (k.ws.getD i default)) (k.ws.getD i default) ((k.ws.getD i default).bl + ((q : Nat) : Int)) (((k.ws.getD i default).tl + ((t : Nat) : Int)) - 1))) (l' := [(((k.ws.getD i default).bl + ((q : Nat) : Int)), ((k.ws.getD i default).tl + ((t : Nat) : Int)), ((k.ws.getD i default).bl + ((q : Nat) : Int)))]) (fun _ => rfl) (by decide) (by intro x v hv9; simp only [encQ, List.mem_cons, List.not_mem_nil, or_false] at hv9; rcases hv9 with rfl | rfl | rfl <;> rfl) rfl rfl rfl (rd_single (enc := encQ) rfl (hs.own _ _ (.head _)).2) (by first | omega | (simp only [List.length_append, List.length_cons, List.length_nil]; omega)) (by decide)) (by decide) ?_; clear hs hf a; rintro _ w ⟨oa1, rfl, hoa1, hs⟩ a hf; dsimp only [List.take, List.cons_append, List.nil_append] at hs; rw [List.append_nil] at hs
          rw [show List.length (α := Int × Int × Int) (rtL (doesK k (k.ws.getD i default)) (k.ws.getD i default) ((k.ws.getD i default).bl + ((q : Nat) : Int)) (((k.ws.getD i default).tl + ((t : Nat) : Int)) - 1)) + 1 = List.length (α := Int × Int × Int) ((rtL (doesK k (k.ws.getD i default)) (k.ws.getD i default) ((k.ws.getD i default).bl + ((q : Nat) : Int)) (((k.ws.getD i default).tl + ((t : Nat) : Int)) - 1)) ++ [(((k.ws.getD i default).bl + ((q : Nat) : Int)), ((k.ws.getD i default).tl + ((t : Nat) : Int)), ((k.ws.getD i default).bl + ((q : Nat) : Int)))]) by simp only [List.length_append, List.length_cons, List.length_nil]] at hf
          refine gL hf (g_as hf rfl) (by decide) ?_; clear hf a; intro a hf
          refine e_nil1 (q_blkN (q_thenN ?_))
          refine c_reg1 ?_
          refine gL hf (g_mv hf rfl) (by decide) ?_; clear hf a; intro a hf
          refine gL hf (g_addI hf rfl rfl (by omega)) (by decide) ?_; clear hf a; intro a hf
          refine gL hf (g_as hf rfl) (by decide) ?_; clear hf a; intro a hf
          refine e_nil1 (q_thenN ?_)
          rw [← hLn, show ((k.ws.getD i default).tl + ((t : Nat) : Int)) + 1 = (k.ws.getD i default).tl + ((t + 1 : Nat) : Int) by omega] at hf
          first | exact ⟨(t + 1, oa11), ⟨by dsimp only; omega, fun _ => by dsimp only; omega, by dsimp only; rw [hLn]; exact hoa11⟩, (by dsimp only; omega), hf.back (by repeat (first | (with_reducible exact Ext.base) | ((with_reducible refine Ext.cons ?_ ?_); (· rfl)) | ((with_reducible refine Ext.over ?_ ?_ ?_); (· rfl); (· rfl)))) (allKeys rfl) (.cons rfl (.cons rfl .nil)), (by first | exact hs.dropN 2 | exact hs.dropN 1)⟩ | exact ⟨(t + 1, oa1), ⟨by dsimp only; omega, fun _ => by dsimp only; omega, by dsimp only; rw [hLn]; exact hoa1⟩, (by dsimp only; omega), hf.back (by repeat (first | (with_reducible exact Ext.base) | ((with_reducible refine Ext.cons ?_ ?_); (· rfl)) | ((with_reducible refine Ext.over ?_ ?_ ?_); (· rfl); (· rfl)))) (allKeys rfl) (.cons rfl (.cons rfl .nil)), (by first | exact hs.dropN 2 | exact hs.dropN 1)⟩
        · try simp only [decide_eq_true_eq, decide_eq_false_iff_not] at hc5
          omega
    · skip
      have hLo := rt_row (d := (doesK k (k.ws.getD i default))) (x := (k.ws.getD i default)) (n := ((k.ws.getD i default).bl + ((q : Nat) : Int))) (t := ((k.ws.getD i default).tl + ((t : Nat) : Int))) (by omega) (by omega) (by omega) (fun h9 => hts (by omega)) hc2
      rw [show ((k.ws.getD i default).bl + ((q : Nat) : Int)) + 1 = (k.ws.getD i default).bl + ((q + 1 : Nat) : Int) by omega] at hLo
      rw [hLo] at hf hoa
      refine c_exit (q_thenX (q_thenX (q_blkX (q_blkN (q_thenN ?_)))))
      refine c_reg1 ?_
      refine gL hf (g_mv hf rfl) (by decide) ?_; clear hf a; intro a hf
      refine gL hf (g_addI hf rfl rfl (by omega)) (by decide) ?_; clear hf a; intro a hf
      refine gL hf (g_as hf rfl) (by decide) ?_; clear hf a; intro a hf
      refine e_nil1 (q_thenN ?_)
      rw [show ((k.ws.getD i default).bl + ((q : Nat) : Int)) + 1 = (k.ws.getD i default).bl + ((q + 1 : Nat) : Int) by omega] at hf
      exact ⟨(q + 1, oa), ⟨by dsimp only; omega, hoa⟩, (by dsimp only; omega), hf.back (by repeat (first | (with_reducible exact Ext.base) | ((with_reducible refine Ext.cons ?_ ?_); (· rfl)) | ((with_reducible refine Ext.over ?_ ?_ ?_); (· rfl); (· rfl)))) (allKeys rfl) (.cons rfl (.cons rfl .nil)), hs⟩
  · try simp only [decide_eq_true_eq, decide_eq_false_iff_not] at hc1
    have hqe : (k.ws.getD i default).bl + ((q : Nat) : Int) = (k.ws.getD i default).bh + 1 := by omega
    rw [hqe, ← trues_eq] at hf hoa
    have hn1 : ∀ q, oa = some q → w0.heap.size ≤ q.1 := fun q e => by subst e; exact (hs.own _ _ (.tail _ (.tail _ (.head _)))).1
    obtain ⟨A3, c3, e3, hl3, hs⟩ := hs.freeze (R := []) (e := 142) (o := oa) (enc := encQ) (sz := 3) 2 (by simp) hoa (fun _ => rfl) (by decide)
    have hA3 := acc_new hn1 e3
    rw [e3] at hf
    refine c_exit (q_thenX (q_thenX (q_blkX (q_thenN ?_))))
    refine c_reg ?_
    refine gL hf (g_mv hf rfl) (by decide) ?_; clear hf a; intro a hf
    refine gL hf (g_as hf rfl) (by decide) ?_; clear hf a; intro a hf
    refine e_nil ?_
    refine c_ret ?_
    refine e_ret1 hf rfl rfl ?_
    exact ⟨_, rfl, hs.below, A3, c3, rfl, ⟨hl3, hs.rd (.head _), hA3⟩⟩

end Go.Proofs.YtjjcopeedcdokaaDoor

set_option linter.unusedVariables false
set_option linter.unusedSimpArgs false
namespace Go.Proofs.YtjjcopeedcdokaaDoor
open Go.RowKit
theorem c_toldR (k : Bk) (fA : Option Addr) (fc : Nat) (rA : Option Addr) (rc : Nat) (wA : Option Addr) (wc : Nat) (i : Nat) (hi : i < k.ws.length) (what : Nat) (hw : what < 3) (hv : BkV k) (w0 : World) (h : BkIn k fA fc rA rc wA wc w0) :
    Calls Tryd.prog 88 #[.agg #[.int .i64 k.sh.wide, .int .i64 k.sh.high, .slice fA k.sh.flaps.length fc, .slice rA k.sh.rules.length rc, .int .i64 k.gross, .int .i64 k.pay, .int .i64 k.fine, .slice wA k.ws.length wc], .int .i64 ((i : Nat) : Int), .int .i64 ((what : Nat) : Int)] w0 (Ret w0 (.agg #[.int .i64 (ofZ k what (k.ws.getD i default)).1, .int .i64 (ofZ k what (k.ws.getD i default)).2])) := by
  refine c_enter (n := 57) Tryd.func88 rfl rfl (Nat.le_of_ble_eq_true rfl) ?_; intro a hf; simp only [zipR] at hf
  have hs := St.start w0 [Rd encF 5 fA k.sh.flaps.length k.sh.flaps, Rd encR 2 rA k.sh.rules.length k.sh.rules, Rd encW 6 wA k.ws.length k.ws, OrdD k.ws] h.stab
  have hwm := h.W.2.1
  have hx := hv.wk hi; have hxs := hx.s1
  refine c_reg ?_
  refine vL hf (v_boxA hf hs rfl) (by decide) ?_; clear hs hf a; rintro _ w ⟨b1, rfl, hs⟩ a hf
  refine vL hf (v_alloc hs T40 rfl) (by decide) ?_; clear hs hf a; rintro _ w ⟨b2, rfl, hs⟩ a hf
  refine e_nil ?_
  refine c_reg ?_
  refine gL hf (g_ldW hf hs T28 rfl (k := 1) rfl rfl) (by decide) ?_; clear hf a; intro a hf
  refine gL hf (g_mv hf rfl) (by decide) ?_; clear hf a; intro a hf
  refine callX hf hs (c_truthsR k _ _ _ _ _ _ i hi hv _ ⟨⟨hs.rd (.head _), hs.rd (.tail _ (.head _)), h.sh.fc_, h.sh.rc_⟩, hs.rd (.tail _ (.tail _ (.head _))), h.wc_, hs.rd (.tail _ (.tail _ (.tail _ (.head _))))⟩) rfl rfl rfl E91 (by decide) ?_; intro v w1 a hR hb hs1 hf; obtain ⟨Aq, cq, rfl, hoq⟩ := hR; obtain ⟨l, hl⟩ : ∃ l, rtrues (doesK k (k.ws.getD i default)) (trues (k.ws.getD i default)) = l := ⟨_, rfl⟩; rw [hl] at hf hoq; replace hs := hs.fresh hs1 hoq.fresh; clear hs1 hb
  refine gL hf (g_as hf rfl) (by decide) ?_; clear hf a; intro a hf
  refine e_nil ?_
  have hlm := hoq.2.1.2.1
  have hle : ∀ e ∈ l, TrIn (k.ws.getD i default) e.1 e.2.1 ∧ 0 ≤ e.2.2 ∧ e.2.2 ≤ e.1 := fun e he => rtrues_in hx (by rw [hl]; exact he)
  refine c_reg ?_
  refine vL hf (v_alloc hs T40 rfl) (by decide) ?_; clear hs hf a; rintro _ w ⟨b3, rfl, hs⟩ a hf
  refine e_nil ?_
  refine wp_seq ?_
  refine c_reg ?_
  refine gL hf (g_as hf rfl) (by decide) ?_; clear hf a; intro a hf
  refine e_nil ?_
  refine c_block ?_
  refine c_loop hf hs (List.range' 9 2 ++ List.range' 14 42) (σ := Nat) (fun j => [(9, .int .i64 (j : Nat))]) (fun j => (b3, .cells #[.int .i64 (rO k (k.ws.getD i default) what l j).1, .int .i64 (rO k (k.ws.getD i default) what l j).2] 40 (0, 0)) :: (b2, .cells #[.int .i64 0, .int .i64 0] 40 (0, 0)) :: (b1, .cells #[.int .i64 k.sh.wide, .int .i64 k.sh.high, .slice fA k.sh.flaps.length fc, .slice rA k.sh.rules.length rc, .int .i64 k.gross, .int .i64 k.pay, .int .i64 k.fine, .slice wA k.ws.length wc] 28 (0, 0)) :: []) (fun j => j ≤ l.length) (fun j => l.length - j) 0 (Nat.zero_le _) (.cons rfl .nil) rfl ?_
  intro j a w hJ hf hs
  refine wp_seq ?_
  refine c_reg ?_
  refine gL hf (g_mv hf rfl) (by decide) ?_; clear hf a; intro a hf
  refine gL hf (g_mv hf rfl) (by decide) ?_; clear hf a; intro a hf
  refine gL hf (g_len hf SL108 rfl) (by decide) ?_; clear hf a; intro a hf
  refine gL hf (g_lss hf rfl rfl) (by decide) ?_; clear hf a; intro a hf
  refine e_nil ?_
  refine c_cond hf rfl (fun hc1 => ?_) (fun hc1 => ?_)
  · try simp only [decide_eq_true_eq, decide_eq_false_iff_not] at hc1
    have hj : j < l.length := by omega
    have hlj := hle _ (getD_mem hj)
    refine c_skip (q_thenN ?_)
    refine c_blockS ?_
    refine c_reg ?_
    refine gL hf (g_mv hf rfl) (by decide) ?_; clear hf a; intro a hf
    refine gL hf (g_mv hf rfl) (by decide) ?_; clear hf a; intro a hf
    (first | (refine gL hf (g_ixE hf hs (.head _) SL108 rfl rfl (by omega)) (by decide) ?_) | (refine gL hf (g_ixD hf hs (.head _) SL108 rfl rfl (by omega)) (by decide) ?_)); clear hf a; intro a hf
    refine gL hf (g_faD (j' := 2) hf hs (.head _) F142_2 rfl (by omega) rfl) (by decide) ?_; clear hf a; intro a hf
    refine gL hf (g_ldE hf hs (.head _) T3 rfl rfl (by omega)) (by decide) ?_; clear hf a; intro a hf
    refine gL hf (g_as hf rfl) (by decide) ?_; clear hf a; intro a hf
    refine e_nil ?_
    refine wp_seq ?_
    refine c_reg ?_
    refine gL hf (g_mv hf rfl) (by decide) ?_; clear hf a; intro a hf
    refine gL hf (g_eql hf rfl rfl) (by decide) ?_; clear hf a; intro a hf
    refine e_nil ?_
    refine c_cond hf rfl (fun hc2 => ?_) (fun hc2 => ?_)
    · skip
      have hwe : what = 1 := nat_is 1 hc2
      subst hwe
      refine c_draw1 _ 8 Mx rfl hs (fun _ h => h) ?_; intro w hs hS
      refine gA hf hS (i := 0) rfl (by kernel_rfl) (fun w hs => g_ldW hf hs T28 rfl (k := 2) rfl rfl) (by decide) ?_; clear hf a; intro a hf
      refine gA hf hS (i := 1) rfl (by kernel_rfl) (fun w hs => g_mv hf rfl) (by decide) ?_; clear hf a; intro a hf
      refine gA hf hS (i := 2) rfl (by kernel_rfl) (fun w hs => g_mv hf rfl) (by decide) ?_; clear hf a; intro a hf
      refine gA hf hS (i := 3) rfl (by kernel_rfl) (fun w hs => g_mv hf rfl) (by decide) ?_; clear hf a; intro a hf
      (first | (refine gA hf hS (i := 4) rfl (by kernel_rfl) (fun w hs => g_ixE hf hs (.head _) SL108 rfl rfl (by omega)) (by decide) ?_) | (refine gA hf hS (i := 4) rfl (by kernel_rfl) (fun w hs => g_ixD hf hs (.head _) SL108 rfl rfl (by omega)) (by decide) ?_)); clear hf a; intro a hf
      refine gA hf hS (i := 5) rfl (by kernel_rfl) (fun w hs => g_ldEW hf hs (.head _) T142 rfl rfl (by omega)) (by decide) ?_; clear hf a; intro a hf
      refine one (i := 6) (by kernel_rfl) ?_
      refine oCall hf hs rfl (c_missingR k _ _ _ _ _ _ i hi _ hlj.1 _ ⟨⟨hs.rd (.tail _ (.head _)), hs.rd (.tail _ (.tail _ (.head _))), h.sh.fc_, h.sh.rc_⟩, hs.rd (.tail _ (.tail _ (.tail _ (.head _)))), h.wc_, hs.rd (.tail _ (.tail _ (.tail _ (.tail _ (.head _)))))⟩) rfl rfl rfl E119 (by decide) (fun _ h => h.sub (.refl _)) ?_; clear hs hf hS a; intro w a hs hS hf
      refine gA hf hS (i := 7) rfl (by kernel_rfl) (fun w hs => g_as hf rfl) (by decide) ?_; clear hf a; intro a hf
      refine e_done1 (by kernel_rfl) ?_
      refine q_thenN ?_
      refine wp_seq ?_
      refine c_reg ?_
      refine gL hf (g_mv hf rfl) (by decide) ?_; clear hf a; intro a hf
      refine gL hf (g_eql hf rfl rfl) (by decide) ?_; clear hf a; intro a hf
      refine e_nil ?_
      refine c_cond hf rfl (fun hc3 => ?_) (fun hc3 => ?_)
      · skip
        cases hc3
      · skip
        refine c_skip (q_thenN ?_)
        refine wp_seq ?_
        refine c_reg ?_
        refine gL hf (g_mv hf rfl) (by decide) ?_; clear hf a; intro a hf
        refine gL hf (g_eql hf rfl rfl) (by decide) ?_; clear hf a; intro a hf
        refine e_nil ?_
        refine c_cond hf rfl (fun hc4 => ?_) (fun hc4 => ?_)
        · skip
          have hj0 : j = 0 := nat_is 0 hc4
          subst hj0
          have hO : rO k (k.ws.getD i default) 1 l (0 + 1) = (min (rval k (k.ws.getD i default) 1 (l.getD 0 default)) (rval k (k.ws.getD i default) 1 (l.getD 0 default)), max (rval k (k.ws.getD i default) 1 (l.getD 0 default)) (rval k (k.ws.getD i default) 1 (l.getD 0 default))) := by rw [rO_first hj, Int.min_self, Int.max_self]
          refine c_reg1 ?_
          refine gL hf (g_mv hf rfl) (by decide) ?_; clear hf a; intro a hf
          refine callL hf hs (c_Only _ _) rfl rfl rfl E60 (by decide) ?_; clear hs hf a; intro w a hs hf
          refine uL (u_stW hf hs T40 rfl rfl rfl (k := 0) rfl rfl rfl) ?_; clear hs; intro w hs; dsimp only [List.set] at hs
          refine e_nil1 (q_thenN ?_)
          refine c_reg1 ?_
          refine gL hf (g_fa (off' := 0) hf F40_0 rfl rfl) (by decide) ?_; clear hf a; intro a hf
          refine gL hf (g_ld hf hs T3 rfl (k := 0) rfl rfl) (by decide) ?_; clear hf a; intro a hf
          refine gL hf (g_mv hf rfl) (by decide) ?_; clear hf a; intro a hf
          refine gL hf (g_min hf rfl rfl) (by decide) ?_; clear hf a; intro a hf
          refine gL hf (g_fa (off' := 1) hf F40_1 rfl rfl) (by decide) ?_; clear hf a; intro a hf
          refine gL hf (g_ld hf hs T3 rfl (k := 0) rfl rfl) (by decide) ?_; clear hf a; intro a hf
          refine gL hf (g_mv hf rfl) (by decide) ?_; clear hf a; intro a hf
          refine gL hf (g_max hf rfl rfl) (by decide) ?_; clear hf a; intro a hf
          refine callL hf hs (c_Sp _ _ _) rfl rfl rfl E52 (by decide) ?_; clear hs hf a; intro w a hs hf
          refine uL (u_stW hf hs T40 rfl rfl rfl (k := 0) rfl rfl rfl) ?_; clear hs; intro w hs; dsimp only [List.set] at hs
          refine e_nil1 (q_blkN (q_thenN ?_))
          refine c_reg1 ?_
          refine gL hf (g_mv hf rfl) (by decide) ?_; clear hf a; intro a hf
          refine gL hf (g_addI hf rfl rfl (by omega)) (by decide) ?_; clear hf a; intro a hf
          refine gL hf (g_as hf rfl) (by decide) ?_; clear hf a; intro a hf
          refine e_nil1 (q_thenN ?_)
          first | exact ⟨j + 1, (by omega), (by omega), hf.back (by repeat (first | (with_reducible exact Ext.base) | ((with_reducible refine Ext.cons ?_ ?_); (· rfl)) | ((with_reducible refine Ext.over ?_ ?_ ?_); (· rfl); (· rfl)))) (allKeys rfl) (.cons rfl .nil), (by (try dsimp only); rw [hO]; exact hs.dropN 0)⟩ | exact ⟨0 + 1, (by omega), (by omega), hf.back (by repeat (first | (with_reducible exact Ext.base) | ((with_reducible refine Ext.cons ?_ ?_); (· rfl)) | ((with_reducible refine Ext.over ?_ ?_ ?_); (· rfl); (· rfl)))) (allKeys rfl) (.cons rfl .nil), (by (try dsimp only); rw [hO]; exact hs.dropN 0)⟩
        · skip
          have hj0 : j ≠ 0 := nat_not 0 hc4
          have hO := rO_next (k := k) (x := (k.ws.getD i default)) (what := 1) hj hj0
          refine c_skip (q_thenN ?_)
          refine c_reg1 ?_
          refine gL hf (g_fa (off' := 0) hf F40_0 rfl rfl) (by decide) ?_; clear hf a; intro a hf
          refine gL hf (g_ld hf hs T3 rfl (k := 0) rfl rfl) (by decide) ?_; clear hf a; intro a hf
          refine gL hf (g_mv hf rfl) (by decide) ?_; clear hf a; intro a hf
          refine gL hf (g_min hf rfl rfl) (by decide) ?_; clear hf a; intro a hf
          refine gL hf (g_fa (off' := 1) hf F40_1 rfl rfl) (by decide) ?_; clear hf a; intro a hf
          refine gL hf (g_ld hf hs T3 rfl (k := 0) rfl rfl) (by decide) ?_; clear hf a; intro a hf
          refine gL hf (g_mv hf rfl) (by decide) ?_; clear hf a; intro a hf
          refine gL hf (g_max hf rfl rfl) (by decide) ?_; clear hf a; intro a hf
          refine callL hf hs (c_Sp _ _ _) rfl rfl rfl E52 (by decide) ?_; clear hs hf a; intro w a hs hf
          refine uL (u_stW hf hs T40 rfl rfl rfl (k := 0) rfl rfl rfl) ?_; clear hs; intro w hs; dsimp only [List.set] at hs
          refine e_nil1 (q_blkN (q_thenN ?_))
          refine c_reg1 ?_
          refine gL hf (g_mv hf rfl) (by decide) ?_; clear hf a; intro a hf
          refine gL hf (g_addI hf rfl rfl (by omega)) (by decide) ?_; clear hf a; intro a hf
          refine gL hf (g_as hf rfl) (by decide) ?_; clear hf a; intro a hf
          refine e_nil1 (q_thenN ?_)
          first | exact ⟨j + 1, (by omega), (by omega), hf.back (by repeat (first | (with_reducible exact Ext.base) | ((with_reducible refine Ext.cons ?_ ?_); (· rfl)) | ((with_reducible refine Ext.over ?_ ?_ ?_); (· rfl); (· rfl)))) (allKeys rfl) (.cons rfl .nil), (by (try dsimp only); rw [hO]; exact hs.dropN 0)⟩ | exact ⟨0 + 1, (by omega), (by omega), hf.back (by repeat (first | (with_reducible exact Ext.base) | ((with_reducible refine Ext.cons ?_ ?_); (· rfl)) | ((with_reducible refine Ext.over ?_ ?_ ?_); (· rfl); (· rfl)))) (allKeys rfl) (.cons rfl .nil), (by (try dsimp only); rw [hO]; exact hs.dropN 0)⟩
    · skip
      have hw1 : what ≠ 1 := nat_not 1 hc2
      refine c_skip (q_thenN ?_)
      refine wp_seq ?_
      refine c_reg ?_
      refine gL hf (g_mv hf rfl) (by decide) ?_; clear hf a; intro a hf
      refine gL hf (g_eql hf rfl rfl) (by decide) ?_; clear hf a; intro a hf
      refine e_nil ?_
      refine c_cond hf rfl (fun hc5 => ?_) (fun hc5 => ?_)
      · skip
        have hwe : what = 2 := nat_is 2 hc5
        subst hwe
        refine c_draw1 _ 8 Mx rfl hs (fun _ h => h) ?_; intro w hs hS
        refine gA hf hS (i := 0) rfl (by kernel_rfl) (fun w hs => g_ldW hf hs T28 rfl (k := 2) rfl rfl) (by decide) ?_; clear hf a; intro a hf
        refine gA hf hS (i := 1) rfl (by kernel_rfl) (fun w hs => g_mv hf rfl) (by decide) ?_; clear hf a; intro a hf
        refine gA hf hS (i := 2) rfl (by kernel_rfl) (fun w hs => g_mv hf rfl) (by decide) ?_; clear hf a; intro a hf
        refine gA hf hS (i := 3) rfl (by kernel_rfl) (fun w hs => g_mv hf rfl) (by decide) ?_; clear hf a; intro a hf
        (first | (refine gA hf hS (i := 4) rfl (by kernel_rfl) (fun w hs => g_ixE hf hs (.head _) SL108 rfl rfl (by omega)) (by decide) ?_) | (refine gA hf hS (i := 4) rfl (by kernel_rfl) (fun w hs => g_ixD hf hs (.head _) SL108 rfl rfl (by omega)) (by decide) ?_)); clear hf a; intro a hf
        refine gA hf hS (i := 5) rfl (by kernel_rfl) (fun w hs => g_ldEW hf hs (.head _) T142 rfl rfl (by omega)) (by decide) ?_; clear hf a; intro a hf
        refine one (i := 6) (by kernel_rfl) ?_
        refine oCall hf hs rfl (c_getsR k _ _ _ _ _ _ i hi _ hlj.1 ⟨hlj.2.1, by have h9 := hlj.1.s; have h8 := hlj.1.t0; have h7 := hlj.2.2; omega⟩ hv _ ⟨⟨hs.rd (.tail _ (.head _)), hs.rd (.tail _ (.tail _ (.head _))), h.sh.fc_, h.sh.rc_⟩, hs.rd (.tail _ (.tail _ (.tail _ (.head _)))), h.wc_, hs.rd (.tail _ (.tail _ (.tail _ (.tail _ (.head _)))))⟩) rfl rfl rfl E120 (by decide) (fun _ h => h.sub (.refl _)) ?_; clear hs hf hS a; intro w a hs hS hf
        refine gA hf hS (i := 7) rfl (by kernel_rfl) (fun w hs => g_as hf rfl) (by decide) ?_; clear hf a; intro a hf
        refine e_done1 (by kernel_rfl) ?_
        refine q_thenN ?_
        refine wp_seq ?_
        refine c_reg ?_
        refine gL hf (g_mv hf rfl) (by decide) ?_; clear hf a; intro a hf
        refine gL hf (g_eql hf rfl rfl) (by decide) ?_; clear hf a; intro a hf
        refine e_nil ?_
        refine c_cond hf rfl (fun hc6 => ?_) (fun hc6 => ?_)
        · skip
          have hj0 : j = 0 := nat_is 0 hc6
          subst hj0
          have hO : rO k (k.ws.getD i default) 2 l (0 + 1) = (min (rval k (k.ws.getD i default) 2 (l.getD 0 default)) (rval k (k.ws.getD i default) 2 (l.getD 0 default)), max (rval k (k.ws.getD i default) 2 (l.getD 0 default)) (rval k (k.ws.getD i default) 2 (l.getD 0 default))) := by rw [rO_first hj, Int.min_self, Int.max_self]
          refine c_reg1 ?_
          refine gL hf (g_mv hf rfl) (by decide) ?_; clear hf a; intro a hf
          refine callL hf hs (c_Only _ _) rfl rfl rfl E60 (by decide) ?_; clear hs hf a; intro w a hs hf
          refine uL (u_stW hf hs T40 rfl rfl rfl (k := 0) rfl rfl rfl) ?_; clear hs; intro w hs; dsimp only [List.set] at hs
          refine e_nil1 (q_thenN ?_)
          refine c_reg1 ?_
          refine gL hf (g_fa (off' := 0) hf F40_0 rfl rfl) (by decide) ?_; clear hf a; intro a hf
          refine gL hf (g_ld hf hs T3 rfl (k := 0) rfl rfl) (by decide) ?_; clear hf a; intro a hf
          refine gL hf (g_mv hf rfl) (by decide) ?_; clear hf a; intro a hf
          refine gL hf (g_min hf rfl rfl) (by decide) ?_; clear hf a; intro a hf
          refine gL hf (g_fa (off' := 1) hf F40_1 rfl rfl) (by decide) ?_; clear hf a; intro a hf
          refine gL hf (g_ld hf hs T3 rfl (k := 0) rfl rfl) (by decide) ?_; clear hf a; intro a hf
          refine gL hf (g_mv hf rfl) (by decide) ?_; clear hf a; intro a hf
          refine gL hf (g_max hf rfl rfl) (by decide) ?_; clear hf a; intro a hf
          refine callL hf hs (c_Sp _ _ _) rfl rfl rfl E52 (by decide) ?_; clear hs hf a; intro w a hs hf
          refine uL (u_stW hf hs T40 rfl rfl rfl (k := 0) rfl rfl rfl) ?_; clear hs; intro w hs; dsimp only [List.set] at hs
          refine e_nil1 (q_blkN (q_thenN ?_))
          refine c_reg1 ?_
          refine gL hf (g_mv hf rfl) (by decide) ?_; clear hf a; intro a hf
          refine gL hf (g_addI hf rfl rfl (by omega)) (by decide) ?_; clear hf a; intro a hf
          refine gL hf (g_as hf rfl) (by decide) ?_; clear hf a; intro a hf
          refine e_nil1 (q_thenN ?_)
          first | exact ⟨j + 1, (by omega), (by omega), hf.back (by repeat (first | (with_reducible exact Ext.base) | ((with_reducible refine Ext.cons ?_ ?_); (· rfl)) | ((with_reducible refine Ext.over ?_ ?_ ?_); (· rfl); (· rfl)))) (allKeys rfl) (.cons rfl .nil), (by (try dsimp only); rw [hO]; exact hs.dropN 0)⟩ | exact ⟨0 + 1, (by omega), (by omega), hf.back (by repeat (first | (with_reducible exact Ext.base) | ((with_reducible refine Ext.cons ?_ ?_); (· rfl)) | ((with_reducible refine Ext.over ?_ ?_ ?_); (· rfl); (· rfl)))) (allKeys rfl) (.cons rfl .nil), (by (try dsimp only); rw [hO]; exact hs.dropN 0)⟩
        · skip
          have hj0 : j ≠ 0 := nat_not 0 hc6
          have hO := rO_next (k := k) (x := (k.ws.getD i default)) (what := 2) hj hj0
          refine c_skip (q_thenN ?_)
          refine c_reg1 ?_
          refine gL hf (g_fa (off' := 0) hf F40_0 rfl rfl) (by decide) ?_; clear hf a; intro a hf
          refine gL hf (g_ld hf hs T3 rfl (k := 0) rfl rfl) (by decide) ?_; clear hf a; intro a hf
          refine gL hf (g_mv hf rfl) (by decide) ?_; clear hf a; intro a hf
          refine gL hf (g_min hf rfl rfl) (by decide) ?_; clear hf a; intro a hf
          refine gL hf (g_fa (off' := 1) hf F40_1 rfl rfl) (by decide) ?_; clear hf a; intro a hf
          refine gL hf (g_ld hf hs T3 rfl (k := 0) rfl rfl) (by decide) ?_; clear hf a; intro a hf
          refine gL hf (g_mv hf rfl) (by decide) ?_; clear hf a; intro a hf
          refine gL hf (g_max hf rfl rfl) (by decide) ?_; clear hf a; intro a hf
          refine callL hf hs (c_Sp _ _ _) rfl rfl rfl E52 (by decide) ?_; clear hs hf a; intro w a hs hf
          refine uL (u_stW hf hs T40 rfl rfl rfl (k := 0) rfl rfl rfl) ?_; clear hs; intro w hs; dsimp only [List.set] at hs
          refine e_nil1 (q_blkN (q_thenN ?_))
          refine c_reg1 ?_
          refine gL hf (g_mv hf rfl) (by decide) ?_; clear hf a; intro a hf
          refine gL hf (g_addI hf rfl rfl (by omega)) (by decide) ?_; clear hf a; intro a hf
          refine gL hf (g_as hf rfl) (by decide) ?_; clear hf a; intro a hf
          refine e_nil1 (q_thenN ?_)
          first | exact ⟨j + 1, (by omega), (by omega), hf.back (by repeat (first | (with_reducible exact Ext.base) | ((with_reducible refine Ext.cons ?_ ?_); (· rfl)) | ((with_reducible refine Ext.over ?_ ?_ ?_); (· rfl); (· rfl)))) (allKeys rfl) (.cons rfl .nil), (by (try dsimp only); rw [hO]; exact hs.dropN 0)⟩ | exact ⟨0 + 1, (by omega), (by omega), hf.back (by repeat (first | (with_reducible exact Ext.base) | ((with_reducible refine Ext.cons ?_ ?_); (· rfl)) | ((with_reducible refine Ext.over ?_ ?_ ?_); (· rfl); (· rfl)))) (allKeys rfl) (.cons rfl .nil), (by (try dsimp only); rw [hO]; exact hs.dropN 0)⟩
      · skip
        have hw2 : what ≠ 2 := nat_not 2 hc5
        have hwe : what = 0 := by omega
        subst hwe
        rw [← rval0 k (k.ws.getD i default)] at hf
        refine c_skip (q_thenN ?_)
        refine wp_seq ?_
        refine c_reg ?_
        refine gL hf (g_mv hf rfl) (by decide) ?_; clear hf a; intro a hf
        refine gL hf (g_eql hf rfl rfl) (by decide) ?_; clear hf a; intro a hf
        refine e_nil ?_
        refine c_cond hf rfl (fun hc7 => ?_) (fun hc7 => ?_)
        · skip
          have hj0 : j = 0 := nat_is 0 hc7
          subst hj0
          have hO : rO k (k.ws.getD i default) 0 l (0 + 1) = (min (rval k (k.ws.getD i default) 0 (l.getD 0 default)) (rval k (k.ws.getD i default) 0 (l.getD 0 default)), max (rval k (k.ws.getD i default) 0 (l.getD 0 default)) (rval k (k.ws.getD i default) 0 (l.getD 0 default))) := by rw [rO_first hj, Int.min_self, Int.max_self]
          refine c_reg1 ?_
          refine gL hf (g_mv hf rfl) (by decide) ?_; clear hf a; intro a hf
          refine callL hf hs (c_Only _ _) rfl rfl rfl E60 (by decide) ?_; clear hs hf a; intro w a hs hf
          refine uL (u_stW hf hs T40 rfl rfl rfl (k := 0) rfl rfl rfl) ?_; clear hs; intro w hs; dsimp only [List.set] at hs
          refine e_nil1 (q_thenN ?_)
          refine c_reg1 ?_
          refine gL hf (g_fa (off' := 0) hf F40_0 rfl rfl) (by decide) ?_; clear hf a; intro a hf
          refine gL hf (g_ld hf hs T3 rfl (k := 0) rfl rfl) (by decide) ?_; clear hf a; intro a hf
          refine gL hf (g_mv hf rfl) (by decide) ?_; clear hf a; intro a hf
          refine gL hf (g_min hf rfl rfl) (by decide) ?_; clear hf a; intro a hf
          refine gL hf (g_fa (off' := 1) hf F40_1 rfl rfl) (by decide) ?_; clear hf a; intro a hf
          refine gL hf (g_ld hf hs T3 rfl (k := 0) rfl rfl) (by decide) ?_; clear hf a; intro a hf
          refine gL hf (g_mv hf rfl) (by decide) ?_; clear hf a; intro a hf
          refine gL hf (g_max hf rfl rfl) (by decide) ?_; clear hf a; intro a hf
          refine callL hf hs (c_Sp _ _ _) rfl rfl rfl E52 (by decide) ?_; clear hs hf a; intro w a hs hf
          refine uL (u_stW hf hs T40 rfl rfl rfl (k := 0) rfl rfl rfl) ?_; clear hs; intro w hs; dsimp only [List.set] at hs
          refine e_nil1 (q_blkN (q_thenN ?_))
          refine c_reg1 ?_
          refine gL hf (g_mv hf rfl) (by decide) ?_; clear hf a; intro a hf
          refine gL hf (g_addI hf rfl rfl (by omega)) (by decide) ?_; clear hf a; intro a hf
          refine gL hf (g_as hf rfl) (by decide) ?_; clear hf a; intro a hf
          refine e_nil1 (q_thenN ?_)
          first | exact ⟨j + 1, (by omega), (by omega), hf.back (by repeat (first | (with_reducible exact Ext.base) | ((with_reducible refine Ext.cons ?_ ?_); (· rfl)) | ((with_reducible refine Ext.over ?_ ?_ ?_); (· rfl); (· rfl)))) (allKeys rfl) (.cons rfl .nil), (by (try dsimp only); rw [hO]; exact hs.dropN 0)⟩ | exact ⟨0 + 1, (by omega), (by omega), hf.back (by repeat (first | (with_reducible exact Ext.base) | ((with_reducible refine Ext.cons ?_ ?_); (· rfl)) | ((with_reducible refine Ext.over ?_ ?_ ?_); (· rfl); (· rfl)))) (allKeys rfl) (.cons rfl .nil), (by (try dsimp only); rw [hO]; exact hs.dropN 0)⟩
        · skip
          have hj0 : j ≠ 0 := nat_not 0 hc7
          have hO := rO_next (k := k) (x := (k.ws.getD i default)) (what := 0) hj hj0
          refine c_skip (q_thenN ?_)
          refine c_reg1 ?_
          refine gL hf (g_fa (off' := 0) hf F40_0 rfl rfl) (by decide) ?_; clear hf a; intro a hf
          refine gL hf (g_ld hf hs T3 rfl (k := 0) rfl rfl) (by decide) ?_; clear hf a; intro a hf
          refine gL hf (g_mv hf rfl) (by decide) ?_; clear hf a; intro a hf
          refine gL hf (g_min hf rfl rfl) (by decide) ?_; clear hf a; intro a hf
          refine gL hf (g_fa (off' := 1) hf F40_1 rfl rfl) (by decide) ?_; clear hf a; intro a hf
          refine gL hf (g_ld hf hs T3 rfl (k := 0) rfl rfl) (by decide) ?_; clear hf a; intro a hf
          refine gL hf (g_mv hf rfl) (by decide) ?_; clear hf a; intro a hf
          refine gL hf (g_max hf rfl rfl) (by decide) ?_; clear hf a; intro a hf
          refine callL hf hs (c_Sp _ _ _) rfl rfl rfl E52 (by decide) ?_; clear hs hf a; intro w a hs hf
          refine uL (u_stW hf hs T40 rfl rfl rfl (k := 0) rfl rfl rfl) ?_; clear hs; intro w hs; dsimp only [List.set] at hs
          refine e_nil1 (q_blkN (q_thenN ?_))
          refine c_reg1 ?_
          refine gL hf (g_mv hf rfl) (by decide) ?_; clear hf a; intro a hf
          refine gL hf (g_addI hf rfl rfl (by omega)) (by decide) ?_; clear hf a; intro a hf
          refine gL hf (g_as hf rfl) (by decide) ?_; clear hf a; intro a hf
          refine e_nil1 (q_thenN ?_)
          first | exact ⟨j + 1, (by omega), (by omega), hf.back (by repeat (first | (with_reducible exact Ext.base) | ((with_reducible refine Ext.cons ?_ ?_); (· rfl)) | ((with_reducible refine Ext.over ?_ ?_ ?_); (· rfl); (· rfl)))) (allKeys rfl) (.cons rfl .nil), (by (try dsimp only); rw [hO]; exact hs.dropN 0)⟩ | exact ⟨0 + 1, (by omega), (by omega), hf.back (by repeat (first | (with_reducible exact Ext.base) | ((with_reducible refine Ext.cons ?_ ?_); (· rfl)) | ((with_reducible refine Ext.over ?_ ?_ ?_); (· rfl); (· rfl)))) (allKeys rfl) (.cons rfl .nil), (by (try dsimp only); rw [hO]; exact hs.dropN 0)⟩
  · try simp only [decide_eq_true_eq, decide_eq_false_iff_not] at hc1
    have hje : j = l.length := by omega
    subst hje
    refine c_exit (q_thenX (q_thenX (q_blkX (q_thenN ?_))))
    refine c_reg ?_
    refine gL hf (g_ldW hf hs T40 rfl (k := 0) rfl rfl) (by decide) ?_; clear hf a; intro a hf
    refine uL (u_stW hf hs T40 rfl rfl rfl (k := 1) rfl rfl rfl) ?_; clear hs; intro w hs; dsimp only [List.set] at hs
    refine e_nil ?_
    refine c_ret ?_
    refine e_res hf hs rfl (.cellA T40 rfl (k := 1) rfl rfl .nil) rfl ?_
    exact ⟨by rw [← rO_all hv hx hw, hl]; rfl, hs.below⟩

end Go.Proofs.YtjjcopeedcdokaaDoor

set_option linter.unusedVariables false
set_option linter.unusedSimpArgs false
namespace Go.Proofs.YtjjcopeedcdokaaDoor
open Go.RowKit
theorem c_WrongR (k : Bk) (fA : Option Addr) (fc : Nat) (rA : Option Addr) (rc : Nat) (wA : Option Addr) (wc : Nat)  (w0 : World) (h : BkIn k fA fc rA rc wA wc w0) :
    Calls Tryd.prog 43 #[.agg #[.int .i64 k.sh.wide, .int .i64 k.sh.high, .slice fA k.sh.flaps.length fc, .slice rA k.sh.rules.length rc, .int .i64 k.gross, .int .i64 k.pay, .int .i64 k.fine, .slice wA k.ws.length wc]] w0 (RetX w0 (fun v w0' => ∃ A c, v = .tuple #[.slice A (wrongP k).1.length c, .int .i64 (wrongP k).2] ∧ Out (wrongP k).1 A c w0 w0')) := by
  refine c_enter (n := 29) Tryd.func43 rfl rfl (Nat.le_of_ble_eq_true rfl) ?_; intro a hf; simp only [zipR] at hf
  have hs := St.start w0 [Rd encF 5 fA k.sh.flaps.length k.sh.flaps, Rd encR 2 rA k.sh.rules.length k.sh.rules, Rd encW 6 wA k.ws.length k.ws, OrdD k.ws] h.stab
  have hwm := h.W.2.1
  refine c_reg ?_
  refine vL hf (v_boxA hf hs rfl) (by decide) ?_; clear hs hf a; rintro _ w ⟨b1, rfl, hs⟩ a hf
  refine gL hf (g_as hf rfl) (by decide) ?_; clear hf a; intro a hf
  refine gL hf (g_as hf rfl) (by decide) ?_; clear hf a; intro a hf
  refine e_nil ?_
  refine wp_seq ?_
  refine c_reg ?_
  refine gL hf (g_ldW hf hs T28 rfl (k := 0) rfl rfl) (by decide) ?_; clear hf a; intro a hf
  refine callL hf hs (c_CheckR9 k _ _ _ _ _ _ _ ⟨⟨hs.rd (.head _), hs.rd (.tail _ (.head _)), h.sh.fc_, h.sh.rc_⟩, hs.rd (.tail _ (.tail _ (.head _))), h.wc_, hs.rd (.tail _ (.tail _ (.tail _ (.head _))))⟩) rfl rfl rfl E34 (by decide) ?_; clear hs hf a; intro w a hs hf
  refine gL hf (g_as hf rfl) (by decide) ?_; clear hf a; intro a hf
  refine e_nil ?_
  refine c_reg ?_
  refine gL hf (g_mv hf rfl) (by decide) ?_; clear hf a; intro a hf
  refine gL hf (g_neq hf rfl rfl) (by decide) ?_; clear hf a; intro a hf
  refine e_nil ?_
  refine c_cond hf rfl (fun hc1 => ?_) (fun hc1 => ?_)
  · skip
    have hbk : hckB k = false := by cases h9 : hckB k with | false => rfl | true => rw [bookE, h9] at hc1; cases hc1
    refine c_reg ?_
    refine gL hf (g_mv hf rfl) (by decide) ?_; clear hf a; intro a hf
    refine gL hf (g_as hf rfl) (by decide) ?_; clear hf a; intro a hf
    refine gL hf (g_as hf rfl) (by decide) ?_; clear hf a; intro a hf
    refine e_nil ?_
    refine c_ret (q_thenR ?_)
    refine e_ret2 hf rfl rfl rfl ?_
    have hor : wrongP k = ([], 90) := by rw [wrongP, hbk]; rfl
    exact ⟨_, rfl, hs.below, none, 0, by rw [hor, bookE, hbk]; rfl, by rw [hor]; exact ⟨Nat.le_refl _, rd_nil, fun b o e => by cases e⟩⟩
  · skip
    have hbk : hckB k = true := by cases h9 : hckB k with | false => (rw [bookE, h9] at hc1; cases hc1) | true => rfl
    have hv := hck_iff.1 hbk
    refine c_skip (q_thenN ?_)
    refine c_reg ?_
    refine gL hf (g_as hf rfl) (by decide) ?_; clear hf a; intro a hf
    refine e_nil ?_
    refine wp_seq ?_
    refine c_reg ?_
    refine gL hf (g_as hf rfl) (by decide) ?_; clear hf a; intro a hf
    refine e_nil ?_
    refine c_block ?_
    refine c_loop hf hs [5, 6, 12, 13, 14, 15, 16, 17, 18, 19, 20, 21, 22, 23, 24, 25, 26, 27] (σ := (Nat × Acc)) (fun s => [(5, accV 1 (wrongTo k s.1).length s.2), (6, .int .i64 (s.1 : Nat))]) (fun s => (b1, .cells #[.int .i64 k.sh.wide, .int .i64 k.sh.high, .slice fA k.sh.flaps.length fc, .slice rA k.sh.rules.length rc, .int .i64 k.gross, .int .i64 k.pay, .int .i64 k.fine, .slice wA k.ws.length wc] 28 (0, 0)) :: accH 3 s.2) (fun s => s.1 ≤ k.ws.length ∧ AccOK encI 1 (wrongTo k s.1) s.2) (fun s => k.ws.length - s.1) (0, none) ⟨Nat.zero_le _, rfl⟩ (.cons rfl (.cons rfl .nil)) rfl ?_
    intro ⟨i, oa⟩ a w hJ hf hs
    dsimp only at hJ hf hs
    obtain ⟨hile, hoa⟩ := hJ
    refine wp_seq ?_
    refine c_reg ?_
    refine gL hf (g_mv hf rfl) (by decide) ?_; clear hf a; intro a hf
    refine gL hf (g_fa (off' := 7) hf F28_4 rfl rfl) (by decide) ?_; clear hf a; intro a hf
    refine gL hf (g_ld hf hs T26 rfl (k := 0) rfl rfl) (by decide) ?_; clear hf a; intro a hf
    refine gL hf (g_len hf SL26 rfl) (by decide) ?_; clear hf a; intro a hf
    refine gL hf (g_lss hf rfl rfl) (by decide) ?_; clear hf a; intro a hf
    refine e_nil ?_
    refine c_cond hf rfl (fun hc2 => ?_) (fun hc2 => ?_)
    · try simp only [decide_eq_true_eq, decide_eq_false_iff_not] at hc2
      have hi : i < k.ws.length := by omega
      refine c_skip (q_thenN ?_)
      refine c_blockS ?_
      refine c_reg ?_
      refine gL hf (g_ldW hf hs T28 rfl (k := 0) rfl rfl) (by decide) ?_; clear hf a; intro a hf
      refine gL hf (g_mv hf rfl) (by decide) ?_; clear hf a; intro a hf
      refine callX hf hs (c_truthsR k _ _ _ _ _ _ i hi hv _ ⟨⟨hs.rd (.head _), hs.rd (.tail _ (.head _)), h.sh.fc_, h.sh.rc_⟩, hs.rd (.tail _ (.tail _ (.head _))), h.wc_, hs.rd (.tail _ (.tail _ (.tail _ (.head _))))⟩) rfl rfl rfl E91 (by decide) ?_; intro v w1 a hR hb hs1 hf; obtain ⟨Aq, cq, rfl, hoq⟩ := hR; obtain ⟨l, hl⟩ : ∃ l, rtrues (doesK k (k.ws.getD i default)) (trues (k.ws.getD i default)) = l := ⟨_, rfl⟩; rw [hl] at hf hoq; replace hs := hs.fresh hs1 hoq.fresh; clear hs1 hb
      refine gL hf (g_len hf SL108 rfl) (by decide) ?_; clear hf a; intro a hf
      refine gL hf (g_eql hf rfl rfl) (by decide) ?_; clear hf a; intro a hf
      refine e_nil ?_
      refine c_cond hf rfl (fun hc3 => ?_) (fun hc3 => ?_)
      · skip
        rw [← hl] at hc3
        have hrt : rightB (k.ws.getD i default) = false := by have h9 := rt_isE.symm.trans hc3; simpa using h9
        have hws : wrongTo k (i + 1) = wrongTo k i ++ [((i : Nat) : Int)] := by rw [wrong_succ, hrt]; rfl
        have hlw := wrong_len k i
        have hwn := hv.n
        refine c_reg1 ?_
        refine gL hf (g_mv hf rfl) (by decide) ?_; clear hf a; intro a hf
        refine gL hf (g_mv hf rfl) (by decide) ?_; clear hf a; intro a hf
        refine vL hf (v_lits (len := 1) hf hs SL31 T3 (.cons rfl .nil) rfl rfl rfl rfl (by decide) rfl) (by decide) ?_; clear hs hf a; rintro _ w ⟨b2, rfl, hs⟩ a hf
        refine vL hf (v_accN (e := 3) (R := []) (o := oa) hf 2 hs (by simp) hoa AP31 (enc := encI) (l := (wrongTo k i)) (l' := [((i : Nat) : Int)]) (fun _ => rfl) (by decide) (by intro x v hv9; rw [List.mem_singleton.1 hv9]; rfl) rfl rfl rfl (rd_one rfl (hs.own _ _ (.head _)).2) (by omega) (by decide)) (by decide) ?_; clear hs hf a; rintro _ w ⟨oa2, rfl, hoa2, hs⟩ a hf; dsimp only [List.take, List.cons_append, List.nil_append] at hs; rw [List.append_nil] at hs
        rw [show (wrongTo k i).length + 1 = ((wrongTo k i) ++ [((i : Nat) : Int)]).length by rw [List.length_append]; rfl] at hf
        refine gL hf (g_as hf rfl) (by decide) ?_; clear hf a; intro a hf
        refine e_nil1 (q_blkN (q_thenN ?_))
        refine c_reg1 ?_
        refine gL hf (g_mv hf rfl) (by decide) ?_; clear hf a; intro a hf
        refine gL hf (g_addI hf rfl rfl (by omega)) (by decide) ?_; clear hf a; intro a hf
        refine gL hf (g_as hf rfl) (by decide) ?_; clear hf a; intro a hf
        refine e_nil1 (q_thenN ?_)
        rw [← hws] at hf
        first | exact ⟨(i + 1, oa2), ⟨by dsimp only; omega, by dsimp only; rw [hws]; exact hoa2⟩, (by dsimp only; omega), hf.back (by repeat (first | (with_reducible exact Ext.base) | ((with_reducible refine Ext.cons ?_ ?_); (· rfl)) | ((with_reducible refine Ext.over ?_ ?_ ?_); (· rfl); (· rfl)))) (allKeys rfl) (.cons rfl (.cons rfl .nil)), (by first | exact (hs.dropN 1).subD (fun _ h => .tail _ h) | exact (hs.dropN 0).subD (fun _ h => .tail _ h))⟩ | exact ⟨(i + 1, oa), ⟨by dsimp only; omega, by dsimp only; rw [hws]; exact hoa⟩, (by dsimp only; omega), hf.back (by repeat (first | (with_reducible exact Ext.base) | ((with_reducible refine Ext.cons ?_ ?_); (· rfl)) | ((with_reducible refine Ext.over ?_ ?_ ?_); (· rfl); (· rfl)))) (allKeys rfl) (.cons rfl (.cons rfl .nil)), (by first | exact (hs.dropN 1).subD (fun _ h => .tail _ h) | exact (hs.dropN 0).subD (fun _ h => .tail _ h))⟩
      · skip
        rw [← hl] at hc3
        have hrt : rightB (k.ws.getD i default) = true := by have h9 := rt_isE.symm.trans hc3; simpa using h9
        have hws : wrongTo k (i + 1) = wrongTo k i := by rw [wrong_succ, hrt]; exact List.append_nil _
        refine c_skip (q_blkN (q_thenN ?_))
        refine c_reg1 ?_
        refine gL hf (g_mv hf rfl) (by decide) ?_; clear hf a; intro a hf
        refine gL hf (g_addI hf rfl rfl (by omega)) (by decide) ?_; clear hf a; intro a hf
        refine gL hf (g_as hf rfl) (by decide) ?_; clear hf a; intro a hf
        refine e_nil1 (q_thenN ?_)
        rw [← hws] at hf
        first | exact ⟨(i + 1, oa2), ⟨by dsimp only; omega, by dsimp only; rw [hws]; exact hoa2⟩, (by dsimp only; omega), hf.back (by repeat (first | (with_reducible exact Ext.base) | ((with_reducible refine Ext.cons ?_ ?_); (· rfl)) | ((with_reducible refine Ext.over ?_ ?_ ?_); (· rfl); (· rfl)))) (allKeys rfl) (.cons rfl (.cons rfl .nil)), (by first | exact (hs.dropN 1).subD (fun _ h => .tail _ h) | exact (hs.dropN 0).subD (fun _ h => .tail _ h))⟩ | exact ⟨(i + 1, oa), ⟨by dsimp only; omega, by dsimp only; rw [hws]; exact hoa⟩, (by dsimp only; omega), hf.back (by repeat (first | (with_reducible exact Ext.base) | ((with_reducible refine Ext.cons ?_ ?_); (· rfl)) | ((with_reducible refine Ext.over ?_ ?_ ?_); (· rfl); (· rfl)))) (allKeys rfl) (.cons rfl (.cons rfl .nil)), (by first | exact (hs.dropN 1).subD (fun _ h => .tail _ h) | exact (hs.dropN 0).subD (fun _ h => .tail _ h))⟩
    · try simp only [decide_eq_true_eq, decide_eq_false_iff_not] at hc2
      have hie : i = k.ws.length := by omega
      subst hie
      have hn1 : ∀ q, oa = some q → w0.heap.size ≤ q.1 := fun q e => by subst e; exact (hs.own _ _ (.tail _ (.head _))).1
      obtain ⟨A3, c3, e3, hl3, hs⟩ := hs.freeze (R := []) (e := 3) (o := oa) (enc := encI) (sz := 1) 1 (by simp) hoa (fun _ => rfl) (by decide)
      have hA3 := acc_new hn1 e3
      rw [e3] at hf
      refine c_exit (q_thenX (q_thenX (q_blkX (q_thenN ?_))))
      refine c_reg ?_
      refine gL hf (g_mv hf rfl) (by decide) ?_; clear hf a; intro a hf
      refine gL hf (g_as hf rfl) (by decide) ?_; clear hf a; intro a hf
      refine gL hf (g_as hf rfl) (by decide) ?_; clear hf a; intro a hf
      refine e_nil ?_
      refine c_ret ?_
      refine e_ret2 hf rfl rfl rfl ?_
      have hor : wrongP k = (wrongTo k k.ws.length, 0) := by rw [wrongP, hbk]; rfl
      exact ⟨_, rfl, hs.below, A3, c3, by rw [hor], by rw [hor]; exact ⟨hl3, hs.rd (.head _), hA3⟩⟩

theorem c_allR (k : Bk) (fA : Option Addr) (fc : Nat) (rA : Option Addr) (rc : Nat) (wA : Option Addr) (wc : Nat)  (w0 : World) (h : BkIn k fA fc rA rc wA wc w0) :
    Calls Tryd.prog 89 #[.agg #[.int .i64 k.sh.wide, .int .i64 k.sh.high, .slice fA k.sh.flaps.length fc, .slice rA k.sh.rules.length rc, .int .i64 k.gross, .int .i64 k.pay, .int .i64 k.fine, .slice wA k.ws.length wc]] w0 (Ret w0 (.int .i64 (togE k))) := by
  refine c_enter (n := 18) Tryd.func89 rfl rfl (Nat.le_of_ble_eq_true rfl) ?_; intro a hf; simp only [zipR] at hf
  have hs := St.start w0 [Rd encF 5 fA k.sh.flaps.length k.sh.flaps, Rd encR 2 rA k.sh.rules.length k.sh.rules, Rd encW 6 wA k.ws.length k.ws, OrdD k.ws] h.stab
  have hwm := h.W.2.1
  refine c_reg ?_
  refine vL hf (v_boxA hf hs rfl) (by decide) ?_; clear hs hf a; rintro _ w ⟨b1, rfl, hs⟩ a hf
  refine gL hf (g_as hf rfl) (by decide) ?_; clear hf a; intro a hf
  refine e_nil ?_
  refine c_reg ?_
  refine gL hf (g_ldW hf hs T28 rfl (k := 0) rfl rfl) (by decide) ?_; clear hf a; intro a hf
  refine callX hf hs (c_WrongR k _ _ _ _ _ _ _ ⟨⟨hs.rd (.head _), hs.rd (.tail _ (.head _)), h.sh.fc_, h.sh.rc_⟩, hs.rd (.tail _ (.tail _ (.head _))), h.wc_, hs.rd (.tail _ (.tail _ (.tail _ (.head _))))⟩) rfl rfl rfl E43 (by decide) ?_; intro v w1 a hR hb hs1 hf; obtain ⟨Aw, cw, rfl, how⟩ := hR; replace hs := hs.fresh hs1 (outFresh how); clear hs1 hb
  refine gL hf (g_mv hf rfl) (by decide) ?_; clear hf a; intro a hf
  refine gL hf (g_ext hf rfl rfl) (by decide) ?_; clear hf a; intro a hf
  refine gL hf (g_ext hf rfl rfl) (by decide) ?_; clear hf a; intro a hf
  refine gL hf (g_as hf rfl) (by decide) ?_; clear hf a; intro a hf
  refine gL hf (g_as hf rfl) (by decide) ?_; clear hf a; intro a hf
  refine e_nil ?_
  refine wp_seq ?_
  refine c_reg ?_
  refine gL hf (g_mv hf rfl) (by decide) ?_; clear hf a; intro a hf
  refine gL hf (g_eql hf rfl rfl) (by decide) ?_; clear hf a; intro a hf
  refine gL hf (g_mv hf rfl) (by decide) ?_; clear hf a; intro a hf
  refine ggL hf rfl rfl (gyes_t _) (fun hg => g_mv hf rfl) (by decide) ?_; clear hf a; intro a hf
  refine ggL hf rfl rfl (gyes_t _) (fun hg => g_len hf SL31 (ev_gv rfl hg)) (by decide) ?_; clear hf a; intro a hf
  refine ggL hf rfl rfl (gyes_t _) (fun hg => g_gtr hf (ev_gv rfl hg) rfl) (by decide) ?_; clear hf a; intro a hf
  refine gL hf (g_and hf rfl rfl) (by decide) ?_; clear hf a; intro a hf
  refine e_nil ?_
  refine c_cond hf rfl (fun hc1 => ?_) (fun hc1 => ?_)
  · skip
    have htg := tog_yes hc1
    refine c_reg ?_
    refine gL hf (g_as hf rfl) (by decide) ?_; clear hf a; intro a hf
    refine e_nil ?_
    refine c_ret (q_thenR ?_)
    refine e_ret1 hf rfl rfl ?_
    exact ⟨by rw [htg], hs.below⟩
  · skip
    have htg := tog_no hc1
    refine c_skip (q_thenN ?_)
    refine c_reg ?_
    refine gL hf (g_mv hf rfl) (by decide) ?_; clear hf a; intro a hf
    refine gL hf (g_as hf rfl) (by decide) ?_; clear hf a; intro a hf
    refine e_nil ?_
    refine c_ret ?_
    refine e_ret1 hf rfl rfl ?_
    exact ⟨by rw [htg]; rfl, hs.below⟩

end Go.Proofs.YtjjcopeedcdokaaDoor

set_option linter.unusedVariables false
set_option linter.unusedSimpArgs false
namespace Go.Proofs.YtjjcopeedcdokaaDoor
open Go.RowKit
theorem c_Taught (k : Bk) (fA : Option Addr) (fc : Nat) (rA : Option Addr) (rc : Nat) (wA : Option Addr) (wc : Nat) (i : Nat) (hi : i < k.ws.length) (hn : k.ws.length ≤ 4) (l : List Int) (oA : Option Addr) (oc : Nat) (w0 : World) (h : BkIn k fA fc rA rc wA wc w0) :
    Calls Tryd.prog 93 #[.agg #[.int .i64 k.sh.wide, .int .i64 k.sh.high, .slice fA k.sh.flaps.length fc, .slice rA k.sh.rules.length rc, .int .i64 k.gross, .int .i64 k.pay, .int .i64 k.fine, .slice wA k.ws.length wc], .int .i64 ((i : Nat) : Int), .slice oA l.length oc] w0 (RetX w0 (fun v w0' => ∃ A c, v = .agg #[.int .i64 k.sh.wide, .int .i64 k.sh.high, .slice fA k.sh.flaps.length fc, .slice rA k.sh.rules.length rc, .int .i64 k.gross, .int .i64 k.pay, .int .i64 k.fine, .slice A k.ws.length c] ∧ OutG encW 6 (setW k i l oA oc).ws A c w0 w0')) := by
  refine c_enter (n := 21) Tryd.func93 rfl rfl (Nat.le_of_ble_eq_true rfl) ?_; intro a hf; simp only [zipR] at hf
  have hs := St.start w0 [Rd encF 5 fA k.sh.flaps.length k.sh.flaps, Rd encR 2 rA k.sh.rules.length k.sh.rules, Rd encW 6 wA k.ws.length k.ws, OrdD k.ws] h.stab
  have hwm := h.W.2.1
  refine c_reg ?_
  refine vL hf (v_boxA hf hs rfl) (by decide) ?_; clear hs hf a; rintro _ w ⟨b1, rfl, hs⟩ a hf
  refine vL hf (v_alloc hs T28 rfl) (by decide) ?_; clear hs hf a; rintro _ w ⟨b2, rfl, hs⟩ a hf
  refine e_nil ?_
  refine c_reg ?_
  refine gL hf (g_ldW hf hs T28 rfl (k := 1) rfl rfl) (by decide) ?_; clear hf a; intro a hf
  refine vL hf (v_alloc hs T28 rfl) (by decide) ?_; clear hs hf a; rintro _ w ⟨b3, rfl, hs⟩ a hf
  refine uL (u_stW hf hs T28 rfl rfl rfl (k := 0) rfl rfl rfl) ?_; clear hs; intro w hs; dsimp only [List.set] at hs
  refine e_nil ?_
  refine c_reg ?_
  refine vL hf (v_lits (len := 0) hf hs SL26 T47 .nil rfl rfl rfl rfl (by decide) rfl) (by decide) ?_; clear hs hf a; rintro _ w ⟨b4, rfl, hs⟩ a hf
  refine gL hf (g_fa (off' := 7) hf F28_4 rfl rfl) (by decide) ?_; clear hf a; intro a hf
  refine gL hf (g_ld hf hs T26 rfl (k := 3) rfl rfl) (by decide) ?_; clear hf a; intro a hf
  refine vL hf (v_accN (e := 47) (o := some (b4, #[])) (l := []) (l' := k.ws) (len := 0) hf 0 hs rfl ⟨0, rfl, Nat.le_refl _, by omega, rfl⟩ AP26 (enc := encW) (fun _ => rfl) (by decide) (by intro x v hv9; simp only [encW, List.mem_cons, List.not_mem_nil, or_false] at hv9; rcases hv9 with rfl | rfl | rfl | rfl | rfl | rfl <;> rfl) rfl rfl rfl (hs.rd (.tail _ (.tail _ (.head _)))) (by omega) (by decide)) (by decide) ?_; clear hs hf a; rintro _ w ⟨ox, rfl, hox, hs⟩ a hf; dsimp only [List.take, List.nil_append] at hs
  rw [List.nil_append] at hox
  obtain ⟨bcx, csx, rfl⟩ : ∃ bc cs, ox = some (bc, cs) := acc_some hox (by omega)
  simp only [Nat.zero_add] at hf; dsimp only [accV] at hf; dsimp only [accH, List.cons_append, List.nil_append] at hs
  have hcapx := hox.cap (sz := 6) (by decide)
  refine gL hf (g_fa (off' := 7) hf F28_4 rfl rfl) (by decide) ?_; clear hf a; intro a hf
  refine uL (u_st hf hs T26 rfl rfl rfl (k := 1) rfl (Nat.le_of_ble_eq_true rfl)) ?_; clear hs; intro w hs; dsimp only [List.set] at hs
  refine e_nil ?_
  refine c_reg ?_
  refine gL hf (g_fa (off' := 7) hf F28_4 rfl rfl) (by decide) ?_; clear hf a; intro a hf
  refine gL hf (g_ld hf hs T26 rfl (k := 1) rfl rfl) (by decide) ?_; clear hf a; intro a hf
  refine gL hf (g_mv hf rfl) (by decide) ?_; clear hf a; intro a hf
  refine gL hf (g_mv hf rfl) (by decide) ?_; clear hf a; intro a hf
  refine gL hf (g_ixO hf SL26 rfl rfl (by omega)) (by decide) ?_; clear hf a; intro a hf
  refine gL hf (g_fa hf F47_1 rfl rfl) (by decide) ?_; clear hf a; intro a hf
  refine uL (u_st hf hs T31 rfl rfl rfl (k := 0) rfl (accW_set (x' := reO (k.ws.getD i default) l oA oc) (i := i) (r := 1) hi (by decide) (by omega) rfl hox).1) ?_; clear hs; intro w hs; dsimp only [List.set] at hs
  have hox2 := (accW_set (x' := reO (k.ws.getD i default) l oA oc) (i := i) (r := 1) (q := 0 + i * 6 + 1) hi (by decide) (by omega) rfl hox).2
  refine e_nil ?_
  refine c_reg ?_
  refine gL hf (g_ldW hf hs T28 rfl (k := 1) rfl rfl) (by decide) ?_; clear hf a; intro a hf
  refine uL (u_stW hf hs T28 rfl rfl rfl (k := 2) rfl rfl rfl) ?_; clear hs; intro w hs; dsimp only [List.set] at hs
  refine e_nil ?_
  refine c_ret ?_
  refine e_res hf hs rfl (.cellA T28 rfl (k := 2) rfl rfl .nil) rfl ?_
  exact ⟨_, rfl, hs.below, some ⟨bcx, 0, none⟩, csx.size / 6, rfl, by rw [setW_len]; exact hcapx, hox2.rdb (sz := 6) (fun _ => rfl) (by decide) (hs.own _ _ (.head _)).2, fun bk off e => by cases e; exact (hs.own _ _ (.head _)).1⟩

end Go.Proofs.YtjjcopeedcdokaaDoor

set_option linter.unusedVariables false
set_option linter.unusedSimpArgs false
namespace Go.Proofs.YtjjcopeedcdokaaDoor
open Go.RowKit
theorem c_TeachR (k : Bk) (fA : Option Addr) (fc : Nat) (rA : Option Addr) (rc : Nat) (wA : Option Addr) (wc : Nat)  (w0 : World) (h : BkIn k fA fc rA rc wA wc w0) :
    Calls Tryd.prog 45 #[.agg #[.int .i64 k.sh.wide, .int .i64 k.sh.high, .slice fA k.sh.flaps.length fc, .slice rA k.sh.rules.length rc, .int .i64 k.gross, .int .i64 k.pay, .int .i64 k.fine, .slice wA k.ws.length wc]] w0 (Ret w0 (.tuple #[.int .i64 (teachP k).1, .int .i64 (teachP k).2])) := by
  refine c_enter (n := 53) Tryd.func45 rfl rfl (Nat.le_of_ble_eq_true rfl) ?_; intro a hf; simp only [zipR] at hf
  have hs := St.start w0 [Rd encF 5 fA k.sh.flaps.length k.sh.flaps, Rd encR 2 rA k.sh.rules.length k.sh.rules, Rd encW 6 wA k.ws.length k.ws, OrdD k.ws] h.stab
  have hwm := h.W.2.1
  refine c_reg ?_
  refine vL hf (v_boxA hf hs rfl) (by decide) ?_; clear hs hf a; rintro _ w ⟨b1, rfl, hs⟩ a hf
  refine gL hf (g_as hf rfl) (by decide) ?_; clear hf a; intro a hf
  refine gL hf (g_as hf rfl) (by decide) ?_; clear hf a; intro a hf
  refine e_nil ?_
  refine wp_seq ?_
  refine c_reg ?_
  refine gL hf (g_ldW hf hs T28 rfl (k := 0) rfl rfl) (by decide) ?_; clear hf a; intro a hf
  refine callL hf hs (c_allR k _ _ _ _ _ _ _ ⟨⟨hs.rd (.head _), hs.rd (.tail _ (.head _)), h.sh.fc_, h.sh.rc_⟩, hs.rd (.tail _ (.tail _ (.head _))), h.wc_, hs.rd (.tail _ (.tail _ (.tail _ (.head _))))⟩) rfl rfl rfl E89 (by decide) ?_; clear hs hf a; intro w a hs hf
  refine gL hf (g_as hf rfl) (by decide) ?_; clear hf a; intro a hf
  refine e_nil ?_
  refine c_reg ?_
  refine gL hf (g_mv hf rfl) (by decide) ?_; clear hf a; intro a hf
  refine gL hf (g_neq hf rfl rfl) (by decide) ?_; clear hf a; intro a hf
  refine e_nil ?_
  refine c_cond hf rfl (fun hc1 => ?_) (fun hc1 => ?_)
  · skip
    have htg : togE k ≠ 0 := by simpa using hc1
    refine c_reg ?_
    refine gL hf (g_mv hf rfl) (by decide) ?_; clear hf a; intro a hf
    refine gL hf (g_as hf rfl) (by decide) ?_; clear hf a; intro a hf
    refine gL hf (g_as hf rfl) (by decide) ?_; clear hf a; intro a hf
    refine e_nil ?_
    refine c_ret (q_thenR ?_)
    refine e_ret2 hf rfl rfl rfl ?_
    exact ⟨by rw [teachP, if_neg htg], hs.below⟩
  · skip
    have htg : togE k = 0 := by simpa using hc1
    obtain ⟨hbk, hnw⟩ := togE_zero htg
    have hv := hck_iff.1 hbk
    have hg1 := hv.g1
    refine c_skip (q_thenN ?_)
    refine c_reg ?_
    refine gL hf (g_fa (off' := 0) hf F28_0 rfl rfl) (by decide) ?_; clear hf a; intro a hf
    refine gL hf (g_ldP hf hs T25 rfl (k := 0) rfl rfl) (by decide) ?_; clear hf a; intro a hf
    refine callX hf hs (c_OrderR k.sh _ _ _ _ _ ⟨hs.rd (.head _), hs.rd (.tail _ (.head _)), h.sh.fc_, h.sh.rc_⟩) rfl rfl rfl E92 (by decide) ?_; intro v w1 a hR hb hs1 hf; obtain ⟨Ao, co, rfl, hoo⟩ := hR; replace hs := hs.fresh hs1 (outFresh hoo); clear hs1 hb
    refine gL hf (g_mv hf rfl) (by decide) ?_; clear hf a; intro a hf
    refine gL hf (g_ext hf rfl rfl) (by decide) ?_; clear hf a; intro a hf
    refine gL hf (g_ext hf rfl rfl) (by decide) ?_; clear hf a; intro a hf
    refine gL hf (g_as hf rfl) (by decide) ?_; clear hf a; intro a hf
    refine gL hf (g_as hf rfl) (by decide) ?_; clear hf a; intro a hf
    refine e_nil ?_
    refine c_reg ?_
    refine gL hf (g_as hf rfl) (by decide) ?_; clear hf a; intro a hf
    refine gL hf (g_as hf rfl) (by decide) ?_; clear hf a; intro a hf
    refine e_nil ?_
    refine wp_seq ?_
    refine c_reg ?_
    refine gL hf (g_as hf rfl) (by decide) ?_; clear hf a; intro a hf
    refine e_nil ?_
    refine c_block ?_
    refine c_loop hf hs (List.range' 7 4 ++ List.range' 22 28) (σ := Nat) (fun i => [(7, .int .i64 (mostTo (moreZ k (orderP k.sh).1) i).1), (8, .int .i64 (mostTo (moreZ k (orderP k.sh).1) i).2), (9, .int .i64 (i : Nat))]) (fun i => _) (fun i => i ≤ k.ws.length ∧ ((orderP k.sh).2 ≠ 0 → i = 0)) (fun i => k.ws.length - i) 0 ⟨Nat.zero_le _, fun _ => rfl⟩ (.cons rfl (.cons rfl (.cons rfl .nil))) rfl ?_
    intro i a w hJ hf hs
    obtain ⟨hile, hor⟩ := hJ
    refine wp_seq ?_
    refine c_reg ?_
    refine gL hf (g_mv hf rfl) (by decide) ?_; clear hf a; intro a hf
    refine gL hf (g_eql hf rfl rfl) (by decide) ?_; clear hf a; intro a hf
    refine gL hf (g_mv hf rfl) (by decide) ?_; clear hf a; intro a hf
    refine ggL hf rfl rfl (gyes_t _) (fun hg => g_mv hf rfl) (by decide) ?_; clear hf a; intro a hf
    refine ggL hf rfl rfl (gyes_t _) (fun hg => g_fa (off' := 7) hf F28_4 rfl rfl) (by decide) ?_; clear hf a; intro a hf
    refine ggL hf rfl rfl (gyes_t _) (fun hg => g_ld hf hs T26 (ev_gv rfl hg) (k := 0) rfl rfl) (by decide) ?_; clear hf a; intro a hf
    refine ggL hf rfl rfl (gyes_t _) (fun hg => g_len hf SL26 (ev_gv rfl hg)) (by decide) ?_; clear hf a; intro a hf
    refine ggL hf rfl rfl (gyes_t _) (fun hg => g_lss hf (ev_gv rfl hg) (ev_gv rfl hg)) (by decide) ?_; clear hf a; intro a hf
    refine gL hf (g_and hf rfl rfl) (by decide) ?_; clear hf a; intro a hf
    refine e_nil ?_
    refine c_cond hf rfl (fun hc2 => ?_) (fun hc2 => ?_)
    · skip
      obtain ⟨hc2a, hc2b⟩ := Bool.and_eq_true_iff.1 hc2
      have hi : i < k.ws.length := by have := of_decide_eq_true hc2b; omega
      have hoz : (orderP k.sh).2 = 0 := by simpa using hc2a
      have hoord := order_ord hv.ck hoz
      have hmr := most_rng (moreZ k (orderP k.sh).1) i
      refine c_skip (q_thenN ?_)
      refine c_blockS ?_
      refine c_draw _ 13 Mx rfl hs (fun _ h => h) ?_; intro w hs hS
      refine gA hf hS (i := 0) rfl (by kernel_rfl) (fun w hs => g_ldW hf hs T28 rfl (k := 0) rfl rfl) (by decide) ?_; clear hf a; intro a hf
      refine gA hf hS (i := 1) rfl (by kernel_rfl) (fun w hs => g_mv hf rfl) (by decide) ?_; clear hf a; intro a hf
      refine gA hf hS (i := 2) rfl (by kernel_rfl) (fun w hs => g_mv hf rfl) (by decide) ?_; clear hf a; intro a hf
      refine gA hf hS (i := 4) rfl (by kernel_rfl) (fun w hs => g_mv hf rfl) (by decide) ?_; clear hf a; intro a hf
      refine gA hf hS (i := 7) rfl (by kernel_rfl) (fun w hs => g_ldW hf hs T28 rfl (k := 0) rfl rfl) (by decide) ?_; clear hf a; intro a hf
      refine gA hf hS (i := 8) rfl (by kernel_rfl) (fun w hs => g_mv hf rfl) (by decide) ?_; clear hf a; intro a hf
      refine one (i := 3) (by kernel_rfl) ?_
      refine oCallX hf hs rfl (c_Taught k _ _ _ _ _ _ i hi hv.n (orderP k.sh).1 Ao co _ ⟨⟨hs.rd (.tail _ (.head _)), hs.rd (.tail _ (.tail _ (.head _))), h.sh.fc_, h.sh.rc_⟩, hs.rd (.tail _ (.tail _ (.tail _ (.head _)))), h.wc_, hs.rd (.tail _ (.tail _ (.tail _ (.tail _ (.head _)))))⟩) rfl rfl rfl E93 (by decide) (fun _ h => h.sub (.refl _)) ?_; intro v w1 a hR hb hs1 hS hf; obtain ⟨Ax, cx, rfl, how⟩ := hR; replace hs := hs.fresh hs1 how.fresh; clear hs1 hb
      refine one (i := 5) (by kernel_rfl) ?_
      have hk2 : BkIn (setW k i (orderP k.sh).1 Ao co) fA fc rA rc Ax cx _ := ⟨⟨hs.rd (.tail _ (.tail _ (.head _))), hs.rd (.tail _ (.tail _ (.tail _ (.head _)))), h.sh.fc_, h.sh.rc_⟩, hs.rd (.head _), how.1, (OrdD.setW (hs.rd (.tail _ (.tail _ (.tail _ (.tail _ (.tail _ (.head _))))))) hoo.1 (hs.rd (.tail _ (.head _))))⟩
      have h9 := c_toldR (setW k i (orderP k.sh).1 Ao co) fA fc rA rc Ax cx i (by rw [setW_len]; exact hi) 0 (by decide) (setW_v hv hi hoord.1 Ao co) _ hk2
      simp only [setW_len] at h9
      refine oCall hf hs rfl (h9) rfl rfl rfl E88 (by decide) (fun _ h => (h.sub (.refl _)).subD (fun _ h => (.tail _ h))) ?_; clear hs hf hS a; intro w a hs hS hf
      refine gA hf hS (i := 6) rfl (by kernel_rfl) (fun w hs => g_fld hf FV40_0 rfl rfl) (by decide) ?_; clear hf a; intro a hf
      refine one (i := 9) (by kernel_rfl) ?_
      refine oCall hf hs rfl (c_toldR k _ _ _ _ _ _ i hi 0 (by decide) hv _ ⟨⟨hs.rd (.tail _ (.tail _ (.head _))), hs.rd (.tail _ (.tail _ (.tail _ (.head _)))), h.sh.fc_, h.sh.rc_⟩, hs.rd (.tail _ (.tail _ (.tail _ (.tail _ (.head _))))), h.wc_, hs.rd (.tail _ (.tail _ (.tail _ (.tail _ (.tail _ (.head _))))))⟩) rfl rfl rfl E88 (by decide) (fun _ h => (h.sub (.refl _)).subD (fun _ h => (.tail _ h))) ?_; clear hs hf hS a; intro w a hs hS hf
      refine gA hf hS (i := 10) rfl (by kernel_rfl) (fun w hs => g_fld hf FV40_0 rfl rfl) (by decide) ?_; clear hf a; intro a hf
      refine gA hf hS (i := 11) rfl (by kernel_rfl) (fun w hs => g_subI hf rfl rfl (by have h1 := ofZ_rng (what := 0) (setW_v hv hi hoord.1 Ao co) ((setW_v hv hi hoord.1 Ao co).wk (i := i) (by rw [setW_len]; exact hi)) (by decide); have h2 := ofZ_rng (what := 0) hv (hv.wk hi) (by decide); omega)) (by decide) ?_; clear hf a; intro a hf
      refine gA hf hS (i := 12) rfl (by kernel_rfl) (fun w hs => g_as hf rfl) (by decide) ?_; clear hf a; intro a hf
      refine e_done (by kernel_rfl) ?_
      rw [more_setW hi] at hf
      refine c_reg ?_
      refine gL hf (g_mv hf rfl) (by decide) ?_; clear hf a; intro a hf
      refine gL hf (g_mv hf rfl) (by decide) ?_; clear hf a; intro a hf
      refine gL hf (g_gtr hf rfl rfl) (by decide) ?_; clear hf a; intro a hf
      refine e_nil ?_
      refine c_cond hf rfl (fun hc3 => ?_) (fun hc3 => ?_)
      · try simp only [decide_eq_true_eq, decide_eq_false_iff_not] at hc3
        have hms := most_yes (f := (moreZ k (orderP k.sh).1)) (n := i) (by omega)
        refine c_reg1 ?_
        refine gL hf (g_mv hf rfl) (by decide) ?_; clear hf a; intro a hf
        refine gL hf (g_mv hf rfl) (by decide) ?_; clear hf a; intro a hf
        refine gL hf (g_as hf rfl) (by decide) ?_; clear hf a; intro a hf
        refine gL hf (g_as hf rfl) (by decide) ?_; clear hf a; intro a hf
        refine e_nil1 (q_blkN (q_thenN ?_))
        refine c_reg1 ?_
        refine gL hf (g_mv hf rfl) (by decide) ?_; clear hf a; intro a hf
        refine gL hf (g_addI hf rfl rfl (by omega)) (by decide) ?_; clear hf a; intro a hf
        refine gL hf (g_as hf rfl) (by decide) ?_; clear hf a; intro a hf
        refine e_nil1 (q_thenN ?_)
        exact ⟨i + 1, ⟨by omega, fun h => absurd hoz h⟩, (by omega), hf.back (by repeat (first | (with_reducible exact Ext.base) | ((with_reducible refine Ext.cons ?_ ?_); (· rfl)) | ((with_reducible refine Ext.over ?_ ?_ ?_); (· rfl); (· rfl)))) (allKeys rfl) (.cons (by rw [hms]; rfl) (.cons (by rw [hms]; rfl) (.cons rfl .nil))), (hs.dropN 0).subD (fun _ h => (.tail _ h))⟩
      · try simp only [decide_eq_true_eq, decide_eq_false_iff_not] at hc3
        have hms := most_no (f := (moreZ k (orderP k.sh).1)) (n := i) (by omega)
        refine c_skip (q_blkN (q_thenN ?_))
        refine c_reg1 ?_
        refine gL hf (g_mv hf rfl) (by decide) ?_; clear hf a; intro a hf
        refine gL hf (g_addI hf rfl rfl (by omega)) (by decide) ?_; clear hf a; intro a hf
        refine gL hf (g_as hf rfl) (by decide) ?_; clear hf a; intro a hf
        refine e_nil1 (q_thenN ?_)
        exact ⟨i + 1, ⟨by omega, fun h => absurd hoz h⟩, (by omega), hf.back (by repeat (first | (with_reducible exact Ext.base) | ((with_reducible refine Ext.cons ?_ ?_); (· rfl)) | ((with_reducible refine Ext.over ?_ ?_ ?_); (· rfl); (· rfl)))) (allKeys rfl) (.cons (by rw [hms]; rfl) (.cons (by rw [hms]; rfl) (.cons rfl .nil))), (hs.dropN 0).subD (fun _ h => (.tail _ h))⟩
    · skip
      have hfin := teach_fin htg hile hor hc2
      refine c_exit (q_thenX (q_thenX (q_blkX (q_thenN ?_))))
      refine wp_seq ?_
      refine c_reg ?_
      refine gL hf (g_mv hf rfl) (by decide) ?_; clear hf a; intro a hf
      refine gL hf (g_eql hf rfl rfl) (by decide) ?_; clear hf a; intro a hf
      refine e_nil ?_
      refine c_cond hf rfl (fun hc4 => ?_) (fun hc4 => ?_)
      · skip
        have hz : (mostTo (moreZ k (orderP k.sh).1) i).2 = 0 := by simpa using hc4
        refine c_reg ?_
        refine gL hf (g_as hf rfl) (by decide) ?_; clear hf a; intro a hf
        refine gL hf (g_as hf rfl) (by decide) ?_; clear hf a; intro a hf
        refine e_nil ?_
        refine c_ret (q_thenR ?_)
        refine e_ret2 hf rfl rfl rfl ?_
        exact ⟨by rw [hfin, if_pos hz], hs.below⟩
      · skip
        have hz : (mostTo (moreZ k (orderP k.sh).1) i).2 ≠ 0 := by simpa using hc4
        refine c_skip (q_thenN ?_)
        refine c_reg ?_
        refine gL hf (g_mv hf rfl) (by decide) ?_; clear hf a; intro a hf
        refine gL hf (g_as hf rfl) (by decide) ?_; clear hf a; intro a hf
        refine gL hf (g_as hf rfl) (by decide) ?_; clear hf a; intro a hf
        refine e_nil ?_
        refine c_ret ?_
        refine e_ret2 hf rfl rfl rfl ?_
        exact ⟨by rw [hfin, if_neg hz], hs.below⟩

theorem c_AskR (k : Bk) (fA : Option Addr) (fc : Nat) (rA : Option Addr) (rc : Nat) (wA : Option Addr) (wc : Nat)  (w0 : World) (h : BkIn k fA fc rA rc wA wc w0) :
    Calls Tryd.prog 47 #[.agg #[.int .i64 k.sh.wide, .int .i64 k.sh.high, .slice fA k.sh.flaps.length fc, .slice rA k.sh.rules.length rc, .int .i64 k.gross, .int .i64 k.pay, .int .i64 k.fine, .slice wA k.ws.length wc]] w0 (Ret w0 (.tuple #[.int .i64 (askP k).1, .int .i64 (askP k).2])) := by
  refine c_enter (n := 40) Tryd.func47 rfl rfl (Nat.le_of_ble_eq_true rfl) ?_; intro a hf; simp only [zipR] at hf
  have hs := St.start w0 [Rd encF 5 fA k.sh.flaps.length k.sh.flaps, Rd encR 2 rA k.sh.rules.length k.sh.rules, Rd encW 6 wA k.ws.length k.ws, OrdD k.ws] h.stab
  have hwm := h.W.2.1
  refine c_reg ?_
  refine vL hf (v_boxA hf hs rfl) (by decide) ?_; clear hs hf a; rintro _ w ⟨b1, rfl, hs⟩ a hf
  refine gL hf (g_as hf rfl) (by decide) ?_; clear hf a; intro a hf
  refine gL hf (g_as hf rfl) (by decide) ?_; clear hf a; intro a hf
  refine e_nil ?_
  refine wp_seq ?_
  refine c_reg ?_
  refine gL hf (g_ldW hf hs T28 rfl (k := 0) rfl rfl) (by decide) ?_; clear hf a; intro a hf
  refine callL hf hs (c_allR k _ _ _ _ _ _ _ ⟨⟨hs.rd (.head _), hs.rd (.tail _ (.head _)), h.sh.fc_, h.sh.rc_⟩, hs.rd (.tail _ (.tail _ (.head _))), h.wc_, hs.rd (.tail _ (.tail _ (.tail _ (.head _))))⟩) rfl rfl rfl E89 (by decide) ?_; clear hs hf a; intro w a hs hf
  refine gL hf (g_as hf rfl) (by decide) ?_; clear hf a; intro a hf
  refine e_nil ?_
  refine c_reg ?_
  refine gL hf (g_mv hf rfl) (by decide) ?_; clear hf a; intro a hf
  refine gL hf (g_neq hf rfl rfl) (by decide) ?_; clear hf a; intro a hf
  refine e_nil ?_
  refine c_cond hf rfl (fun hc1 => ?_) (fun hc1 => ?_)
  · skip
    have htg : togE k ≠ 0 := by simpa using hc1
    refine c_reg ?_
    refine gL hf (g_mv hf rfl) (by decide) ?_; clear hf a; intro a hf
    refine gL hf (g_as hf rfl) (by decide) ?_; clear hf a; intro a hf
    refine gL hf (g_as hf rfl) (by decide) ?_; clear hf a; intro a hf
    refine e_nil ?_
    refine c_ret (q_thenR ?_)
    refine e_ret2 hf rfl rfl rfl ?_
    exact ⟨by rw [askP, if_neg htg], hs.below⟩
  · skip
    have htg : togE k = 0 := by simpa using hc1
    obtain ⟨hbk, hnw⟩ := togE_zero htg
    have hv := hck_iff.1 hbk
    have hg1 := hv.g1
    refine c_skip (q_thenN ?_)
    refine c_reg ?_
    refine gL hf (g_as hf rfl) (by decide) ?_; clear hf a; intro a hf
    refine gL hf (g_as hf rfl) (by decide) ?_; clear hf a; intro a hf
    refine e_nil ?_
    refine wp_seq ?_
    refine c_reg ?_
    refine gL hf (g_as hf rfl) (by decide) ?_; clear hf a; intro a hf
    refine e_nil ?_
    refine c_block ?_
    refine c_loop hf hs (List.range' 5 4 ++ List.range' 14 23) (σ := Nat) (fun i => [(5, .int .i64 (mostTo (fun w : Nat => (ofZ k 2 (k.ws.getD w default)).2 - (ofZ k 2 (k.ws.getD w default)).1) i).1), (6, .int .i64 (mostTo (fun w : Nat => (ofZ k 2 (k.ws.getD w default)).2 - (ofZ k 2 (k.ws.getD w default)).1) i).2), (7, .int .i64 (i : Nat))]) (fun i => _) (fun i => i ≤ k.ws.length) (fun i => k.ws.length - i) 0 (Nat.zero_le _) (.cons rfl (.cons rfl (.cons rfl .nil))) rfl ?_
    intro i a w hJ hf hs
    refine wp_seq ?_
    refine c_reg ?_
    refine gL hf (g_mv hf rfl) (by decide) ?_; clear hf a; intro a hf
    refine gL hf (g_fa (off' := 7) hf F28_4 rfl rfl) (by decide) ?_; clear hf a; intro a hf
    refine gL hf (g_ld hf hs T26 rfl (k := 0) rfl rfl) (by decide) ?_; clear hf a; intro a hf
    refine gL hf (g_len hf SL26 rfl) (by decide) ?_; clear hf a; intro a hf
    refine gL hf (g_lss hf rfl rfl) (by decide) ?_; clear hf a; intro a hf
    refine e_nil ?_
    refine c_cond hf rfl (fun hc2 => ?_) (fun hc2 => ?_)
    · try simp only [decide_eq_true_eq, decide_eq_false_iff_not] at hc2
      have hi : i < k.ws.length := by omega
      have hrx := ofZ_rng (what := 2) hv (hv.wk hi) (by decide)
      have hmr := most_rng (fun w : Nat => (ofZ k 2 (k.ws.getD w default)).2 - (ofZ k 2 (k.ws.getD w default)).1) i
      refine c_skip (q_thenN ?_)
      refine c_blockS ?_
      refine c_reg ?_
      refine gL hf (g_ldW hf hs T28 rfl (k := 0) rfl rfl) (by decide) ?_; clear hf a; intro a hf
      refine gL hf (g_mv hf rfl) (by decide) ?_; clear hf a; intro a hf
      refine callL hf hs (c_toldR k _ _ _ _ _ _ i hi 2 (by decide) hv _ ⟨⟨hs.rd (.head _), hs.rd (.tail _ (.head _)), h.sh.fc_, h.sh.rc_⟩, hs.rd (.tail _ (.tail _ (.head _))), h.wc_, hs.rd (.tail _ (.tail _ (.tail _ (.head _))))⟩) rfl rfl rfl E88 (by decide) ?_; clear hs hf a; intro w a hs hf
      refine vL hf (v_alloc hs T40 rfl) (by decide) ?_; clear hs hf a; rintro _ w ⟨b2, rfl, hs⟩ a hf
      refine uL (u_stW hf hs T40 rfl rfl rfl (k := 0) rfl rfl rfl) ?_; clear hs; intro w hs; dsimp only [List.set] at hs
      refine e_nil ?_
      refine c_reg ?_
      refine gL hf (g_fa (off' := 1) hf F40_1 rfl rfl) (by decide) ?_; clear hf a; intro a hf
      refine gL hf (g_ld hf hs T3 rfl (k := 0) rfl rfl) (by decide) ?_; clear hf a; intro a hf
      refine gL hf (g_fa (off' := 0) hf F40_0 rfl rfl) (by decide) ?_; clear hf a; intro a hf
      refine gL hf (g_ld hf hs T3 rfl (k := 0) rfl rfl) (by decide) ?_; clear hf a; intro a hf
      refine gL hf (g_subI hf rfl rfl (by omega)) (by decide) ?_; clear hf a; intro a hf
      refine gL hf (g_mv hf rfl) (by decide) ?_; clear hf a; intro a hf
      refine gL hf (g_gtr hf rfl rfl) (by decide) ?_; clear hf a; intro a hf
      refine e_nil ?_
      refine c_cond hf rfl (fun hc3 => ?_) (fun hc3 => ?_)
      · try simp only [decide_eq_true_eq, decide_eq_false_iff_not] at hc3
        have hms := most_yes (f := (fun w : Nat => (ofZ k 2 (k.ws.getD w default)).2 - (ofZ k 2 (k.ws.getD w default)).1)) (n := i) (by omega)
        refine c_draw1 _ 8 Mx rfl hs (fun _ h => h) ?_; intro w hs hS
        refine gA hf hS (i := 0) rfl (by kernel_rfl) (fun w hs => g_mv hf rfl) (by decide) ?_; clear hf a; intro a hf
        refine gA hf hS (i := 1) rfl (by kernel_rfl) (fun w hs => g_fa (off' := 1) hf F40_1 rfl rfl) (by decide) ?_; clear hf a; intro a hf
        refine gA hf hS (i := 2) rfl (by kernel_rfl) (fun w hs => g_ld hf hs T3 rfl (k := 0) rfl rfl) (by decide) ?_; clear hf a; intro a hf
        refine gA hf hS (i := 3) rfl (by kernel_rfl) (fun w hs => g_fa (off' := 0) hf F40_0 rfl rfl) (by decide) ?_; clear hf a; intro a hf
        refine gA hf hS (i := 4) rfl (by kernel_rfl) (fun w hs => g_ld hf hs T3 rfl (k := 0) rfl rfl) (by decide) ?_; clear hf a; intro a hf
        refine gA hf hS (i := 5) rfl (by kernel_rfl) (fun w hs => g_subI hf rfl rfl (by omega)) (by decide) ?_; clear hf a; intro a hf
        refine gA hf hS (i := 6) rfl (by kernel_rfl) (fun w hs => g_as hf rfl) (by decide) ?_; clear hf a; intro a hf
        refine gA hf hS (i := 7) rfl (by kernel_rfl) (fun w hs => g_as hf rfl) (by decide) ?_; clear hf a; intro a hf
        refine e_done1 (by kernel_rfl) ?_
        refine q_blkN (q_thenN ?_)
        refine c_reg1 ?_
        refine gL hf (g_mv hf rfl) (by decide) ?_; clear hf a; intro a hf
        refine gL hf (g_addI hf rfl rfl (by omega)) (by decide) ?_; clear hf a; intro a hf
        refine gL hf (g_as hf rfl) (by decide) ?_; clear hf a; intro a hf
        refine e_nil1 (q_thenN ?_)
        exact ⟨i + 1, (by omega), (by omega), hf.back (by repeat (first | (with_reducible exact Ext.base) | ((with_reducible refine Ext.cons ?_ ?_); (· rfl)) | ((with_reducible refine Ext.over ?_ ?_ ?_); (· rfl); (· rfl)))) (allKeys rfl) (.cons (by rw [hms]; rfl) (.cons (by rw [hms]; rfl) (.cons rfl .nil))), hs.dropN 1⟩
      · try simp only [decide_eq_true_eq, decide_eq_false_iff_not] at hc3
        have hms := most_no (f := (fun w : Nat => (ofZ k 2 (k.ws.getD w default)).2 - (ofZ k 2 (k.ws.getD w default)).1)) (n := i) (by omega)
        refine c_skip (q_blkN (q_thenN ?_))
        refine c_reg1 ?_
        refine gL hf (g_mv hf rfl) (by decide) ?_; clear hf a; intro a hf
        refine gL hf (g_addI hf rfl rfl (by omega)) (by decide) ?_; clear hf a; intro a hf
        refine gL hf (g_as hf rfl) (by decide) ?_; clear hf a; intro a hf
        refine e_nil1 (q_thenN ?_)
        exact ⟨i + 1, (by omega), (by omega), hf.back (by repeat (first | (with_reducible exact Ext.base) | ((with_reducible refine Ext.cons ?_ ?_); (· rfl)) | ((with_reducible refine Ext.over ?_ ?_ ?_); (· rfl); (· rfl)))) (allKeys rfl) (.cons (by rw [hms]; rfl) (.cons (by rw [hms]; rfl) (.cons rfl .nil))), hs.dropN 1⟩
    · try simp only [decide_eq_true_eq, decide_eq_false_iff_not] at hc2
      have hie : i = k.ws.length := by omega
      subst hie
      refine c_exit (q_thenX (q_thenX (q_blkX (q_thenN ?_))))
      refine wp_seq ?_
      refine c_reg ?_
      refine gL hf (g_mv hf rfl) (by decide) ?_; clear hf a; intro a hf
      refine gL hf (g_eql hf rfl rfl) (by decide) ?_; clear hf a; intro a hf
      refine e_nil ?_
      refine c_cond hf rfl (fun hc4 => ?_) (fun hc4 => ?_)
      · skip
        have hz : (mostTo (fun w : Nat => (ofZ k 2 (k.ws.getD w default)).2 - (ofZ k 2 (k.ws.getD w default)).1) k.ws.length).2 = 0 := by simpa using hc4
        refine c_reg ?_
        refine gL hf (g_as hf rfl) (by decide) ?_; clear hf a; intro a hf
        refine gL hf (g_as hf rfl) (by decide) ?_; clear hf a; intro a hf
        refine e_nil ?_
        refine c_ret (q_thenR ?_)
        refine e_ret2 hf rfl rfl rfl ?_
        exact ⟨by rw [askP, if_pos htg, mostP, if_pos hz], hs.below⟩
      · skip
        have hz : (mostTo (fun w : Nat => (ofZ k 2 (k.ws.getD w default)).2 - (ofZ k 2 (k.ws.getD w default)).1) k.ws.length).2 ≠ 0 := by simpa using hc4
        refine c_skip (q_thenN ?_)
        refine c_reg ?_
        refine gL hf (g_mv hf rfl) (by decide) ?_; clear hf a; intro a hf
        refine gL hf (g_as hf rfl) (by decide) ?_; clear hf a; intro a hf
        refine gL hf (g_as hf rfl) (by decide) ?_; clear hf a; intro a hf
        refine e_nil ?_
        refine c_ret ?_
        refine e_ret2 hf rfl rfl rfl ?_
        exact ⟨by rw [askP, if_pos htg, mostP, if_neg hz], hs.below⟩

end Go.Proofs.YtjjcopeedcdokaaDoor

set_option linter.unusedVariables false
set_option linter.unusedSimpArgs false
namespace Go.Proofs.YtjjcopeedcdokaaDoor
open Go.RowKit

/-- The function value (gf, lb) hands out the values of 'all', one behind the other, unless it is told to stop. -/
def SeqV (P : Program) (gf : Nat) (lb : List Value) {α : Type} (V : α → Value) (all : List α) (Xs : List Nat) (w : World) : Prop :=
  ∀ (l : Nat) (X : List Nat) (J Jx : List α → World → Prop) (W : World),
    Later Xs w W → (∀ i ∈ X, i < w.heap.size → i ∈ Xs) → (∀ i ∈ X, i < W.heap.size) →
    (∀ pre A B, J pre A → Below W.heap.size A B → J pre B) →
    (∀ pre x W1, J pre W1 → Later X W W1 → pre ++ [x] <+: all →
      YieldAt Fence.wide 0 P l #[V x] W1 fun e W' => Later X W1 W' ∧ ((e = .returned (.bool true) ∧ J (pre ++ [x]) W') ∨ (e = .returned (.bool false) ∧ Jx (pre ++ [x]) W'))) →
    J [] W →
    Calls P gf (.func (.yield l) #[] #[] :: lb).toArray W fun e W' => (∃ v, e = .returned v) ∧ Later X W W' ∧ (J all W' ∨ ∃ pre, pre ≠ [] ∧ pre <+: all ∧ Jx pre W')
section
variable {P : Program} {Q : Exit → Act → World → Prop} {a : Act} {n : Nat} {L : Regs} {w : World} {w0 : Base} {Ds : List (World → Prop)} {H : Own}
theorem c_rangeV {α : Type} {V : α → Value} {g : Operand} {p : Nat} {assign body : Code} (hf : Fr [] a n L) (hs : St w0 Ds H w) {gf : Nat} {lb : List Value} (hg : ev L g = some (.func (.func gf) #[] lb.toArray)) (hk : Enters P gf) (hp : p < n)
    {all : List α} (hc : SeqV P gf lb V all (w0.ex ++ ids H) w) {σ τ : Type} (hex : w0.ex = []) (Ip : σ → List α → Prop) (G : σ → List α → Own) (Ix : τ → List α → Prop) (Dx : τ → List α → List (World → Prop)) (Gx : τ → List α → Own) (s0 : σ) (hI0 : Ip s0 []) (hG0 : G s0 [] = H) (hGi : ∀ s pre, ids (G s pre) = ids H) (hGxi : ∀ t pre, ids (Gx t pre) = ids H) (L1 : Value → Regs)
    (hassign : ∀ l v a' W, Fr [] a' n ((p, v) :: L) → assign.wpIn (fen (some l)) 0 P (Exit.then (fun a1 W1 => W1 = W ∧ Fr [] a1 n (L1 v)) (fun _ _ _ => False)) a' W)
    (hbody : ∀ l s pre x W a1 E hE, pre ++ [x] <+: all → Ip s pre → Fr [] a1 n (L1 (V x)) → St (Base.rnd W (ids H) E hE) Ds (G s pre) W →
      body.wpIn (fen (some l)) 0 P (rndQ (fun W' => ∃ s' Ds', St (Base.rnd W (ids H) E hE) Ds' (G s' (pre ++ [x])) W' ∧ Ip s' (pre ++ [x])) (fun W' => ∃ t, St (Base.rnd W (ids H) E hE) (Dx t (pre ++ [x])) (Gx t (pre ++ [x])) W' ∧ Ix t (pre ++ [x]))) a1 W)
    (hdone : ∀ D s a' w', Fr [coll D] a' n L → Ip s all → St w0 Ds (G s all ++ [(D, .deferred (some []))]) w' → Q .normal a' w')
    (hstop : ∀ D t pre a' w', pre ≠ [] → pre <+: all → Ix t pre → Fr [coll D] a' n L → St w0 (Dx t pre ++ Ds) (Gx t pre ++ [(D, .deferred (some []))]) w' → Q .ret a' w') :
    (Code.rangeFunc g #[p] assign body).wp P Q a w := by
  refine (wpIn_wide (n := 0)).1 (wpIn_rangeFunc ?_)
  intro fn _
  have hro : Fence.wide.round = none := rfl
  rw [hro]
  obtain ⟨rec, hrec⟩ : ∃ rec : LoopState → Option Code → Loop, rec = fun st pe => { state := st, pending := pe, fn, tmps := a.tmps, params := #[p], assign, body, defers := w.heap.size } := ⟨_, rfl⟩
  obtain ⟨W1, hW1⟩ : ∃ W1, (w.alloc (.deferred (some []))).alloc (.loop (rec .ready none)) = W1 := ⟨_, rfl⟩
  have hsz : W1.heap.size = w.heap.size + 2 := by rw [← hW1]; simp
  have hL1 : W1.heap[w.heap.size + 1]? = some (.loop (rec .ready none)) := by
    rw [← hW1]; have := World.alloc_heap_new (w.alloc (.deferred (some []))) (.loop (rec .ready none)); rwa [World.size_alloc] at this
  have hK1 : W1.heap[w.heap.size]? = some (.deferred (some [])) := by
    rw [← hW1]; exact (Below.heap_alloc _ _ _ (by simp)).trans (World.alloc_heap_new w _)
  have hb1 : Below w.heap.size w W1 := by rw [← hW1]; exact ((Below.refl _ w).alloc (Nat.le_refl _) _).alloc (by simp) _
  have hlt : ∀ i ∈ ids H, i < w.heap.size := fun i hi => hs.lt' hi
  have hmine : ∀ i ∈ ids H, w0.mine i := fun i hi => by obtain ⟨o, ho⟩ := mem_ids hi; exact (hs.own _ _ ho).1
  have hnd : ∀ G' : Own, ids G' = ids H → (ids G').Nodup := fun G' h => h ▸ hs.nodup
  -- what holds between two rounds
  obtain ⟨JJ, hJJ⟩ : ∃ JJ : Own → Loop → World → Prop, JJ = fun G' r A => w0.rel A ∧ (∀ b o, (b, o) ∈ G' → A.heap[b]? = some o) ∧ Later (w0.ex ++ ids H) w A ∧ A.heap[w.heap.size + 1]? = some (.loop r) ∧ A.heap[w.heap.size]? = some (.deferred (some [])) := ⟨_, rfl⟩
  have hJst : ∀ {G' r A}, ids G' = ids H → JJ G' r A → St w0 Ds G' A := fun {G' r A} hi h => by
    rw [hJJ] at h
    refine ⟨h.1, fun b o hm => ⟨hmine b (hi ▸ ids_mem hm), h.2.1 b o hm⟩, hnd _ hi, fun D hD => ?_⟩
    rw [hi]; exact (hs.data D hD).later h.2.2.1
  have hJB : ∀ {G' r A B}, ids G' = ids H → JJ G' r A → Below W1.heap.size A B → JJ G' r B := fun {G' r A B} hi h hb => by
    rw [hJJ] at h ⊢
    have hle : w.heap.size + 2 ≤ A.heap.size := by
      have := (Array.getElem?_eq_some_iff.1 h.2.2.2.1).1; omega
    refine ⟨w0.closed _ _ h.1 ⟨hb.os, hb.tape, hb.output, hb.size, fun i hi hn => hb.block i ?_⟩, fun b o hm => (hb.block b ?_).trans (h.2.1 b o hm), ⟨Nat.le_trans h.2.2.1.1 hb.size, fun i hi hn => (hb.block i (by omega)).trans (h.2.2.1.2 i hi hn)⟩, (hb.block _ (by omega)).trans h.2.2.2.1, (hb.block _ (by omega)).trans h.2.2.2.2⟩
    · rcases Nat.lt_or_ge i w.heap.size with h1 | h1
      · omega
      · exact absurd (w0.new _ hs.below i h1) hn
    · have := hlt b (hi ▸ ids_mem hm); omega
  refine ⟨w.heap.size + 1, [coll w.heap.size], W1, { target := .fn (.func gf) lb.toArray, args := #[.func (.yield (w.heap.size + 1)) #[] #[]] }, W1, gf,
    (.func (.yield (w.heap.size + 1)) #[] #[] :: lb).toArray, W1, ?_, ?_, fun _ _ => trivial, ?_, fun h => (by cases h), ?_⟩
  · rw [← hW1, hrec]; exact run_enterLoop_outer _ _ _ _ _
  · have := hf.eval hg
    simp [resolve, this, Sem.run_bind, Sem.run_pure, Result.andThen_ok, Deferred.ofValue]
    rfl
  · have := hk (.func (.yield (w.heap.size + 1)) #[] #[] :: lb).toArray W1
    simp only [invoke]
    simpa using this
  · refine callsIn_wide.2 ((hc (w.heap.size + 1) (ids H ++ [w.heap.size, w.heap.size + 1]) (fun pre A => ∃ s, JJ (G s pre) (rec .ready none) A ∧ Ip s pre) (fun pre A => ∃ t, Ix t pre ∧ JJ (Gx t pre) (rec .done (some .ret)) A ∧ ∀ D ∈ Dx t pre, Stable (w.heap.size :: (w.heap.size + 1) :: ids H) A D) W1 (later_of_below hb1 _) ?_ ?_ (fun pre A B h hb => h.elim fun s h => ⟨s, hJB (hGi s pre) h.1 hb, h.2⟩) ?_ ?_).mono ?_)
    · intro i hi hl
      simp only [List.mem_append, List.mem_cons, List.not_mem_nil, or_false] at hi ⊢
      rcases hi with h | h | h
      · exact .inr h
      · omega
      · omega
    · intro i hi
      simp only [List.mem_append, List.mem_cons, List.not_mem_nil, or_false] at hi
      rcases hi with h | h | h
      · have := hlt i h; omega
      · omega
      · omega
    · -- one round
      rintro pre x W ⟨s, hJ, hIp⟩ hlat hpre
      have hst := hJst (hGi s pre) hJ
      have hJ0 := hJ
      rw [hJJ] at hJ
      obtain ⟨j1, j2, j3, j4, j5⟩ := hJ
      have hWl : w.heap.size + 1 < W.heap.size := (Array.getElem?_eq_some_iff.1 j4).1
      have hy : (Instr.yield (w.heap.size + 1) #[V x]).run P W = .ok (.round (w.heap.size + 1) fn (a.tmps.setIfInBounds p (V x)) assign body) W := by
        have := run_yield (P := P) (args := #[V x]) j4 (by rw [hrec]; rfl)
        rw [hrec] at this
        simpa using this
      refine ⟨fn, _, assign, body, hy, roundIn_of_wpIn (F := Fence.wide) trivial ?_⟩
      have hfr : Fr [] { tmps := a.tmps.setIfInBounds p (V x), defers := [] } n ((p, V x) :: L) := ⟨rfl, (hf.put hp (V x)).size, (hf.put hp (V x)).at_⟩
      refine Go.wpIn_mono (F := Fence.wide.inRound (w.heap.size + 1)) (hassign (w.heap.size + 1) _ _ W hfr) ?_
      intro e a1 W' he
      cases e with
      | normal =>
        obtain ⟨hWW, hfa⟩ := he
        subst hWW
        refine ⟨_, run_beginRound j4 (by rw [hrec]), ?_⟩
        obtain ⟨W2, hW2⟩ : ∃ W2, W'.putObj (w.heap.size + 1) (.loop { rec .ready none with state := .busy }) = W2 := ⟨_, rfl⟩
        rw [hW2]
        have hp2 := putObj_eq W' (w.heap.size + 1) (.loop { rec .ready none with state := .busy })
        rw [hW2] at hp2
        have hl2 : W2.heap[w.heap.size + 1]? = some (.loop { rec .ready none with state := .busy }) := by rw [← hW2]; exact World.putObj_heap_same hWl
        have hk2 : W2.heap[w.heap.size]? = some (.deferred (some [])) := (hp2.2 _ (by omega)).trans j5
        have hos2 : W2.os = W'.os ∧ W2.tape = W'.tape ∧ W2.output = W'.output := by rw [← hW2]; exact ⟨rfl, rfl, rfl⟩
        have hlat2 : Later [w.heap.size + 1] W' W2 := ⟨Nat.le_of_eq hp2.1.symm, fun i hi hn => hp2.2 i (fun e => hn (by simp [e]))⟩
        have hE : ∀ i ∈ [w.heap.size, w.heap.size + 1], i < W2.heap.size ∧ i ∉ ids H := fun i hi => by
          simp only [List.mem_cons, List.not_mem_nil, or_false] at hi
          exact ⟨by omega, fun h => by have := hlt i h; omega⟩
        have hst2 : St (Base.rnd W2 (ids H) [w.heap.size, w.heap.size + 1] hE) Ds (G s pre) W2 := by
          refine ⟨⟨rfl, rfl, rfl, Later.refl _ _⟩, fun b o hm => ⟨.inl (hGi s pre ▸ ids_mem hm), (hp2.2 b ?_).trans (j2 b o hm)⟩, hnd _ (hGi s pre), fun D hD => ?_⟩
          · have := hlt b (hGi s pre ▸ ids_mem hm); omega
          · rw [hGi]
            · skip
              have h0 := (hs.data D hD).more (ids' := w0.ex ++ (w.heap.size :: (w.heap.size + 1) :: ids H)) fun i hi hl => by
                simp only [List.mem_append, List.mem_cons] at hi ⊢
                rcases hi with h | h | h | h
                · exact .inl h
                · omega
                · omega
                · exact .inr h
              have h1 := h0.later (b := W2) ⟨Nat.le_trans j3.1 hlat2.1, fun i hi hn => (hp2.2 i (by omega)).trans (j3.2 i hi fun h => hn (by
                rcases List.mem_append.1 h with h | h
                · exact List.mem_append_left _ h
                · simp [h]))⟩
              exact h1.sub fun i hi => List.mem_append_right _ (by simpa [Base.rnd] using hi)
        refine Go.wpIn_mono (F := Fence.wide.inRound (w.heap.size + 1)) (hbody (w.heap.size + 1) s pre x W2 a1 _ hE hpre hIp hfa hst2) ?_
        have fin : ∀ (jump : Option Code) (G' : Own) (Ds' : List (World → Prop)) (W3 : World), ids G' = ids H → St (Base.rnd W2 (ids H) [w.heap.size, w.heap.size + 1] hE) Ds' G' W3 →
            (Instr.endRound (w.heap.size + 1) jump).run P W3 = .ok (.bool jump.isNone) (W3.putObj (w.heap.size + 1) (.loop (rec (if jump.isNone then .ready else .done) jump))) ∧
            Later (ids H ++ [w.heap.size, w.heap.size + 1]) W' (W3.putObj (w.heap.size + 1) (.loop (rec (if jump.isNone then .ready else .done) jump))) ∧
            JJ G' (rec (if jump.isNone then .ready else .done) jump) (W3.putObj (w.heap.size + 1) (.loop (rec (if jump.isNone then .ready else .done) jump))) := by
          intro jump G' Ds' W3 hi h3
          obtain ⟨k1, k2, k3, k4⟩ := h3.below
          have hl3 : W3.heap[w.heap.size + 1]? = some (.loop { rec .ready none with state := .busy }) := (k4.2 _ (by omega) (fun h => by have := hlt _ h; omega)).trans hl2
          have hk3 : W3.heap[w.heap.size]? = some (.deferred (some [])) := (k4.2 _ (by omega) (fun h => by have := hlt _ h; omega)).trans hk2
          have h4 := run_endRound (P := P) jump hl3
          rw [hrec] at h4
          obtain ⟨W4, hW4⟩ : ∃ W4, W3.putObj (w.heap.size + 1) (.loop (rec (if jump.isNone then .ready else .done) jump)) = W4 := ⟨_, rfl⟩
          have hp4 := putObj_eq W3 (w.heap.size + 1) (.loop (rec (if jump.isNone then .ready else .done) jump))
          have hl4 : (W3.putObj (w.heap.size + 1) (.loop (rec (if jump.isNone then .ready else .done) jump))).heap[w.heap.size + 1]? = some (.loop (rec (if jump.isNone then .ready else .done) jump)) := World.putObj_heap_same (Array.getElem?_eq_some_iff.1 hl3).1
          have hos4 : W4.os = W3.os ∧ W4.tape = W3.tape ∧ W4.output = W3.output := by rw [← hW4]; exact ⟨rfl, rfl, rfl⟩
          have hsz3 : W2.heap.size ≤ W3.heap.size := k4.1
          rw [hW4] at hp4 hl4 ⊢
          have hall : ∀ i, i < W'.heap.size → i ∉ ids H → i ≠ w.heap.size + 1 → W4.heap[i]? = W'.heap[i]? := fun i hi hn hne => (hp4.2 i hne).trans ((k4.2 i (by omega) hn).trans (hp2.2 i hne))
          refine ⟨by rw [← hW4, hrec]; exact h4, ⟨by omega, fun i hi hn => hall i hi (fun h => hn (by simp [h])) (fun h => hn (by simp [h]))⟩, ?_⟩
          rw [hJJ]
          refine ⟨w0.closed _ _ j1 ⟨hos4.1.trans (k1.trans hos2.1), hos4.2.1.trans (k2.trans hos2.2.1), hos4.2.2.trans (k3.trans hos2.2.2), by omega, fun i hi hn => hall i hi (fun h => hn (hmine i h)) (fun h => hn (w0.new _ hs.below i (by omega)))⟩, fun b o hm => (hp4.2 b ?_).trans (h3.own b o hm).2, ⟨by have := j3.1; omega, fun i hi hn => (hall i (by have := j3.1; omega) (fun h => hn (List.mem_append_right _ h)) (by omega)).trans (j3.2 i hi hn)⟩, hl4, (hp4.2 _ (by omega)).trans hk3⟩
          have := hlt b (hi ▸ ids_mem hm); omega
        intro e a3 W3 he
        cases e with
        | normal =>
          obtain ⟨s', Ds', h3, h3I⟩ := he
          obtain ⟨h4, h5, h6⟩ := fin none _ Ds' W3 (hGi _ _) h3
          exact ⟨_, _, h4, h5, .inl ⟨rfl, s', h6, h3I⟩⟩
        | ret =>
          obtain ⟨t, h3, h3I⟩ := he
          obtain ⟨h4, h5, h6⟩ := fin (some .ret) _ _ W3 (hGxi _ _) h3
          refine ⟨_, _, h4, h5, .inr ⟨rfl, t, h3I, h6, fun D hD => ?_⟩⟩
          have h7 := h3.data D hD
          rw [hGxi] at h7
          have hp4 := putObj_eq W3 (w.heap.size + 1) (.loop (rec (if (some Code.ret).isNone then .ready else .done) (some .ret)))
          exact h7.later ⟨by omega, fun i hi hn => hp4.2 i fun e => hn (by simp [Base.rnd, e])⟩
        | _ => exact he.elim
      | _ => exact he.elim
    · refine ⟨s0, ?_, hI0⟩
      show JJ (G s0 []) _ W1
      rw [hJJ, hG0]
      exact ⟨w0.closed _ _ hs.below (turns_of_below hb1), fun b o hm => (hb1.block b (hs.lt hm)).trans (hs.own b o hm).2, later_of_below hb1 _, hL1, hK1⟩
    · -- behind the iterator
      rintro e W2 ⟨⟨v, rfl⟩, hlat, hj⟩
      have endl : ∀ (G' : Own) (r : Loop) (pe : Option Code), ids G' = ids H → r.state ≠ .busy → r.pending = pe → JJ G' r W2 → ∃ W3, (Instr.endLoop (w.heap.size + 1)).run P W2 = .ok pe W3 ∧ Later [w.heap.size + 1] W2 W3 ∧ St w0 Ds (G' ++ [(w.heap.size, .deferred (some []))]) W3 := by
        intro G' r pe hi hb hpe h
        have hst := hJst hi h
        rw [hJJ] at h
        obtain ⟨j1, j2, j3, j4, j5⟩ := h
        have h1 := run_endLoop (P := P) j4 hb
        subst hpe
        refine ⟨_, h1, ⟨by rw [(putObj_eq _ _ _).1]; exact Nat.le_refl _, fun i _ hn => (putObj_eq W2 (w.heap.size + 1) _).2 i (fun e => hn (by simp [e]))⟩, ?_⟩
        obtain ⟨W3, hW3⟩ : ∃ W3, W2.putObj (w.heap.size + 1) (.loop { r with state := .exhausted }) = W3 := ⟨_, rfl⟩
        have hp3 := putObj_eq W2 (w.heap.size + 1) (.loop { r with state := .exhausted })
        rw [hW3] at hp3 ⊢
        have hos3 : W3.os = W2.os ∧ W3.tape = W2.tape ∧ W3.output = W2.output := by rw [← hW3]; exact ⟨rfl, rfl, rfl⟩
        have hids : ids (G' ++ [(w.heap.size, Obj.deferred (some []))]) = ids H ++ [w.heap.size] := by simp [ids, ← hi]
        have hW2l : w.heap.size + 1 < W2.heap.size := (Array.getElem?_eq_some_iff.1 j4).1
        refine ⟨w0.closed _ _ j1 ⟨hos3.1, hos3.2.1, hos3.2.2, by omega, fun i hi' hn => hp3.2 i fun e => hn (w0.new _ hs.below i (by omega))⟩, fun b o hm => ?_, ?_, fun D hD => ?_⟩
        · rcases List.mem_append.1 hm with hm | hm
          · have := hlt b (hi ▸ ids_mem hm)
            exact ⟨hmine b (hi ▸ ids_mem hm), (hp3.2 b (by omega)).trans (j2 b o hm)⟩
          · rcases List.mem_singleton.1 hm with e
            cases e
            exact ⟨w0.new _ hs.below _ (Nat.le_refl _), (hp3.2 _ (by omega)).trans j5⟩
        · rw [hids, List.nodup_append]
          refine ⟨hs.nodup, by simp, fun x hx y hy e => ?_⟩
          have := hlt x hx
          simp at hy; omega
        · rw [hids]
          have h2 := ((hs.data D hD).more (ids' := w0.ex ++ (ids H ++ [w.heap.size])) fun i hi' hl => ?_).later (b := W3) ⟨by have := j3.1; omega, fun i hi' hn => (hp3.2 i (by omega)).trans (j3.2 i hi' fun h => hn ?_)⟩
          · exact h2
          · simp only [List.mem_append, List.mem_singleton] at hi' ⊢
            rcases hi' with h | h | h
            · exact .inl h
            · exact .inr h
            · omega
          · simp only [List.mem_append, List.mem_singleton] at h ⊢
            rcases h with h | h
            · exact .inl h
            · exact .inr (.inl h)
      have hfD : Fr [coll w.heap.size] { a with defers := [coll w.heap.size] ++ a.defers } n L := ⟨by simp [hf.defers], hf.size, hf.at_⟩
      rcases hj with ⟨s, hj, hIp⟩ | ⟨pre, hne, hpre, t, hIx, hj, hjD⟩
      · obtain ⟨W3, h1, _, h2⟩ := endl _ _ none (hGi _ _) (by rw [hrec]; simp) (by rw [hrec]) hj
        exact ⟨none, W3, h1, hdone _ _ _ _ hfD hIp h2⟩
      · obtain ⟨W3, h1, hL3, h2⟩ := endl _ _ (some .ret) (hGxi _ _) (by rw [hrec]; simp) (by rw [hrec]) hj
        refine ⟨some .ret, W3, h1, wpIn_ret (hstop _ t pre _ _ hne hpre hIx hfD ⟨h2.below, h2.own, h2.nodup, fun D hD => ?_⟩)⟩
        rcases List.mem_append.1 hD with hD | hD
        · have h7 := (hjD D hD).later (b := W3) ⟨hL3.1, fun i hi hn => hL3.2 i hi fun h => hn (by rw [List.mem_singleton.1 h]; simp)⟩
          refine h7.sub fun i hi => ?_
          rw [hex] at hi
          simp only [List.nil_append, ids, List.map_append, List.map_cons, List.map_nil, List.mem_append, List.mem_singleton] at hi
          rcases hi with h | h
          · have : i ∈ ids H := by rw [← hGxi t pre]; exact h
            simp [this]
          · simp [h]
        · exact h2.data D hD
theorem c_rangeVS {α : Type} {V : α → Value} {g : Operand} {p : Nat} {body : Code} (hf : Fr [] a n L) (hs : St w0 Ds H w) {gf : Nat} {lb : List Value} (hg : ev L g = some (.func (.func gf) #[] lb.toArray)) (hk : Enters P gf) (hp : p < n)
    {all : List α} (hc : SeqV P gf lb V all (w0.ex ++ ids H) w) {σ τ : Type} (hex : w0.ex = []) (Ip : σ → List α → Prop) (G : σ → List α → Own) (Ix : τ → List α → Prop) (Dx : τ → List α → List (World → Prop)) (Gx : τ → List α → Own) (s0 : σ) (hI0 : Ip s0 []) (hG0 : G s0 [] = H) (hGi : ∀ s pre, ids (G s pre) = ids H) (hGxi : ∀ t pre, ids (Gx t pre) = ids H)
    (hbody : ∀ l s pre x W a1 E hE, pre ++ [x] <+: all → Ip s pre → Fr [] a1 n ((p, V x) :: L) → St (Base.rnd W (ids H) E hE) Ds (G s pre) W →
      body.wpIn (fen (some l)) 0 P (rndQ (fun W' => ∃ s' Ds', St (Base.rnd W (ids H) E hE) Ds' (G s' (pre ++ [x])) W' ∧ Ip s' (pre ++ [x])) (fun W' => ∃ t, St (Base.rnd W (ids H) E hE) (Dx t (pre ++ [x])) (Gx t (pre ++ [x])) W' ∧ Ix t (pre ++ [x]))) a1 W)
    (hdone : ∀ D s a' w', Fr [coll D] a' n L → Ip s all → St w0 Ds (G s all ++ [(D, .deferred (some []))]) w' → Q .normal a' w')
    (hstop : ∀ D t pre a' w', pre ≠ [] → pre <+: all → Ix t pre → Fr [coll D] a' n L → St w0 (Dx t pre ++ Ds) (Gx t pre ++ [(D, .deferred (some []))]) w' → Q .ret a' w') :
    (Code.rangeFunc g #[p] .skip body).wp P Q a w :=
  c_rangeV hf hs hg hk hp hc hex Ip G Ix Dx Gx s0 hI0 hG0 hGi hGxi (fun v => (p, v) :: L) (fun l v a W hf => r_skip ⟨rfl, hf⟩) hbody hdone hstop
theorem c_rangeVW {α : Type} {V : α → Value} {g : Operand} {p : Nat} {assign body : Code} (hf : Fr [] a n L) (hs : St w0 Ds H w) {gf : Nat} {lb : List Value} (hg : ev L g = some (.func (.func gf) #[] lb.toArray)) (hk : Enters P gf) (hp : p < n)
    {all : List α} (hc : SeqV P gf lb V all (w0.ex ++ ids H) w) {σ τ : Type} (hex : w0.ex = []) (Ip : σ → List α → Prop) (G : σ → List α → Own) (Ix : τ → List α → Prop) (Dx : τ → List α → List (World → Prop)) (Gx : τ → List α → Own) (s0 : σ) (hI0 : Ip s0 []) (hG0 : G s0 [] = H) (hGi : ∀ s pre, ids (G s pre) = ids H) (hGxi : ∀ t pre, ids (Gx t pre) = ids H) (L1 : Nat → α → Regs) (O : α → Obj)
    (hassign : ∀ l x a' W, Fr [] a' n ((p, V x) :: L) → assign.wpIn (fen (some l)) 0 P (Exit.then (fun a1 W1 => ∃ b, Below W.heap.size W W1 ∧ W.heap.size ≤ b ∧ W1.heap[b]? = some (O x) ∧ Fr [] a1 n (L1 b x)) (fun _ _ _ => False)) a' W)
    (hbody : ∀ l s pre x W W2 b a1 E hE, pre ++ [x] <+: all → Ip s pre → Fr [] a1 n (L1 b x) → St (Base.rnd W (ids H) E hE) Ds ((b, O x) :: G s pre) W2 →
      body.wpIn (fen (some l)) 0 P (rndQ (fun W' => ∃ s' Ds', St (Base.rnd W (ids H) E hE) Ds' (G s' (pre ++ [x])) W' ∧ Ip s' (pre ++ [x])) (fun W' => ∃ t, St (Base.rnd W (ids H) E hE) (Dx t (pre ++ [x])) (Gx t (pre ++ [x])) W' ∧ Ix t (pre ++ [x]))) a1 W2)
    (hdone : ∀ D s a' w', Fr [coll D] a' n L → Ip s all → St w0 Ds (G s all ++ [(D, .deferred (some []))]) w' → Q .normal a' w')
    (hstop : ∀ D t pre a' w', pre ≠ [] → pre <+: all → Ix t pre → Fr [coll D] a' n L → St w0 (Dx t pre ++ Ds) (Gx t pre ++ [(D, .deferred (some []))]) w' → Q .ret a' w') :
    (Code.rangeFunc g #[p] assign body).wp P Q a w := by
  refine (wpIn_wide (n := 0)).1 (wpIn_rangeFunc ?_)
  intro fn _
  have hro : Fence.wide.round = none := rfl
  rw [hro]
  obtain ⟨rec, hrec⟩ : ∃ rec : LoopState → Option Code → Loop, rec = fun st pe => { state := st, pending := pe, fn, tmps := a.tmps, params := #[p], assign, body, defers := w.heap.size } := ⟨_, rfl⟩
  obtain ⟨W1, hW1⟩ : ∃ W1, (w.alloc (.deferred (some []))).alloc (.loop (rec .ready none)) = W1 := ⟨_, rfl⟩
  have hsz : W1.heap.size = w.heap.size + 2 := by rw [← hW1]; simp
  have hL1 : W1.heap[w.heap.size + 1]? = some (.loop (rec .ready none)) := by
    rw [← hW1]; have := World.alloc_heap_new (w.alloc (.deferred (some []))) (.loop (rec .ready none)); rwa [World.size_alloc] at this
  have hK1 : W1.heap[w.heap.size]? = some (.deferred (some [])) := by
    rw [← hW1]; exact (Below.heap_alloc _ _ _ (by simp)).trans (World.alloc_heap_new w _)
  have hb1 : Below w.heap.size w W1 := by rw [← hW1]; exact ((Below.refl _ w).alloc (Nat.le_refl _) _).alloc (by simp) _
  have hlt : ∀ i ∈ ids H, i < w.heap.size := fun i hi => hs.lt' hi
  have hmine : ∀ i ∈ ids H, w0.mine i := fun i hi => by obtain ⟨o, ho⟩ := mem_ids hi; exact (hs.own _ _ ho).1
  have hnd : ∀ G' : Own, ids G' = ids H → (ids G').Nodup := fun G' h => h ▸ hs.nodup
  -- what holds between two rounds
  obtain ⟨JJ, hJJ⟩ : ∃ JJ : Own → Loop → World → Prop, JJ = fun G' r A => w0.rel A ∧ (∀ b o, (b, o) ∈ G' → A.heap[b]? = some o) ∧ Later (w0.ex ++ ids H) w A ∧ A.heap[w.heap.size + 1]? = some (.loop r) ∧ A.heap[w.heap.size]? = some (.deferred (some [])) := ⟨_, rfl⟩
  have hJst : ∀ {G' r A}, ids G' = ids H → JJ G' r A → St w0 Ds G' A := fun {G' r A} hi h => by
    rw [hJJ] at h
    refine ⟨h.1, fun b o hm => ⟨hmine b (hi ▸ ids_mem hm), h.2.1 b o hm⟩, hnd _ hi, fun D hD => ?_⟩
    rw [hi]; exact (hs.data D hD).later h.2.2.1
  have hJB : ∀ {G' r A B}, ids G' = ids H → JJ G' r A → Below W1.heap.size A B → JJ G' r B := fun {G' r A B} hi h hb => by
    rw [hJJ] at h ⊢
    have hle : w.heap.size + 2 ≤ A.heap.size := by
      have := (Array.getElem?_eq_some_iff.1 h.2.2.2.1).1; omega
    refine ⟨w0.closed _ _ h.1 ⟨hb.os, hb.tape, hb.output, hb.size, fun i hi hn => hb.block i ?_⟩, fun b o hm => (hb.block b ?_).trans (h.2.1 b o hm), ⟨Nat.le_trans h.2.2.1.1 hb.size, fun i hi hn => (hb.block i (by omega)).trans (h.2.2.1.2 i hi hn)⟩, (hb.block _ (by omega)).trans h.2.2.2.1, (hb.block _ (by omega)).trans h.2.2.2.2⟩
    · rcases Nat.lt_or_ge i w.heap.size with h1 | h1
      · omega
      · exact absurd (w0.new _ hs.below i h1) hn
    · have := hlt b (hi ▸ ids_mem hm); omega
  refine ⟨w.heap.size + 1, [coll w.heap.size], W1, { target := .fn (.func gf) lb.toArray, args := #[.func (.yield (w.heap.size + 1)) #[] #[]] }, W1, gf,
    (.func (.yield (w.heap.size + 1)) #[] #[] :: lb).toArray, W1, ?_, ?_, fun _ _ => trivial, ?_, fun h => (by cases h), ?_⟩
  · rw [← hW1, hrec]; exact run_enterLoop_outer _ _ _ _ _
  · have := hf.eval hg
    simp [resolve, this, Sem.run_bind, Sem.run_pure, Result.andThen_ok, Deferred.ofValue]
    rfl
  · have := hk (.func (.yield (w.heap.size + 1)) #[] #[] :: lb).toArray W1
    simp only [invoke]
    simpa using this
  · refine callsIn_wide.2 ((hc (w.heap.size + 1) (ids H ++ [w.heap.size, w.heap.size + 1]) (fun pre A => ∃ s, JJ (G s pre) (rec .ready none) A ∧ Ip s pre) (fun pre A => ∃ t, Ix t pre ∧ JJ (Gx t pre) (rec .done (some .ret)) A ∧ ∀ D ∈ Dx t pre, Stable (w.heap.size :: (w.heap.size + 1) :: ids H) A D) W1 (later_of_below hb1 _) ?_ ?_ (fun pre A B h hb => h.elim fun s h => ⟨s, hJB (hGi s pre) h.1 hb, h.2⟩) ?_ ?_).mono ?_)
    · intro i hi hl
      simp only [List.mem_append, List.mem_cons, List.not_mem_nil, or_false] at hi ⊢
      rcases hi with h | h | h
      · exact .inr h
      · omega
      · omega
    · intro i hi
      simp only [List.mem_append, List.mem_cons, List.not_mem_nil, or_false] at hi
      rcases hi with h | h | h
      · have := hlt i h; omega
      · omega
      · omega
    · -- one round
      rintro pre x W ⟨s, hJ, hIp⟩ hlat hpre
      have hst := hJst (hGi s pre) hJ
      have hJ0 := hJ
      rw [hJJ] at hJ
      obtain ⟨j1, j2, j3, j4, j5⟩ := hJ
      have hWl : w.heap.size + 1 < W.heap.size := (Array.getElem?_eq_some_iff.1 j4).1
      have hy : (Instr.yield (w.heap.size + 1) #[V x]).run P W = .ok (.round (w.heap.size + 1) fn (a.tmps.setIfInBounds p (V x)) assign body) W := by
        have := run_yield (P := P) (args := #[V x]) j4 (by rw [hrec]; rfl)
        rw [hrec] at this
        simpa using this
      refine ⟨fn, _, assign, body, hy, roundIn_of_wpIn (F := Fence.wide) trivial ?_⟩
      have hfr : Fr [] { tmps := a.tmps.setIfInBounds p (V x), defers := [] } n ((p, V x) :: L) := ⟨rfl, (hf.put hp (V x)).size, (hf.put hp (V x)).at_⟩
      refine Go.wpIn_mono (F := Fence.wide.inRound (w.heap.size + 1)) (hassign (w.heap.size + 1) x _ W hfr) ?_
      intro e a1 W' he
      cases e with
      | normal =>
        obtain ⟨bn, hbw, hbn, hbo, hfa⟩ := he
        have hloop1 : W'.heap[w.heap.size + 1]? = some (.loop (rec .ready none)) := (hbw.block _ hWl).trans j4
        refine ⟨_, run_beginRound hloop1 (by rw [hrec]), ?_⟩
        have hWl' : w.heap.size + 1 < W'.heap.size := (Array.getElem?_eq_some_iff.1 hloop1).1
        obtain ⟨W2, hW2⟩ : ∃ W2, W.putObj (w.heap.size + 1) (.loop { rec .ready none with state := .busy }) = W2 := ⟨_, rfl⟩
        obtain ⟨W2a, hW2a⟩ : ∃ W2a, W'.putObj (w.heap.size + 1) (.loop { rec .ready none with state := .busy }) = W2a := ⟨_, rfl⟩
        rw [hW2a]
        have hp2 := putObj_eq W (w.heap.size + 1) (.loop { rec .ready none with state := .busy })
        rw [hW2] at hp2
        have hp2a := putObj_eq W' (w.heap.size + 1) (.loop { rec .ready none with state := .busy })
        rw [hW2a] at hp2a
        have hl2 : W2.heap[w.heap.size + 1]? = some (.loop { rec .ready none with state := .busy }) := by rw [← hW2]; exact World.putObj_heap_same hWl
        have hl2a : W2a.heap[w.heap.size + 1]? = some (.loop { rec .ready none with state := .busy }) := by rw [← hW2a]; exact World.putObj_heap_same hWl'
        have hk2 : W2.heap[w.heap.size]? = some (.deferred (some [])) := (hp2.2 _ (by omega)).trans j5
        have hos2 : W2.os = W.os ∧ W2.tape = W.tape ∧ W2.output = W.output := by rw [← hW2]; exact ⟨rfl, rfl, rfl⟩
        have hos2a : W2a.os = W'.os ∧ W2a.tape = W'.tape ∧ W2a.output = W'.output := by rw [← hW2a]; exact ⟨rfl, rfl, rfl⟩
        have hszb : W.heap.size ≤ W'.heap.size := hbw.size
        have hE : ∀ i ∈ [w.heap.size, w.heap.size + 1], i < W2.heap.size ∧ i ∉ ids H := fun i hi => by
          simp only [List.mem_cons, List.not_mem_nil, or_false] at hi
          exact ⟨by omega, fun h => by have := hlt i h; omega⟩
        have hold : ∀ i, i < W.heap.size → i ≠ w.heap.size + 1 → W2a.heap[i]? = W.heap[i]? := fun i hi hne => (hp2a.2 i hne).trans (hbw.block i hi)
        have hst2 : St (Base.rnd W2 (ids H) [w.heap.size, w.heap.size + 1] hE) Ds ((bn, O x) :: G s pre) W2a := by
          refine ⟨⟨hos2a.1.trans (hbw.os.trans hos2.1.symm), hos2a.2.1.trans (hbw.tape.trans hos2.2.1.symm), hos2a.2.2.trans (hbw.output.trans hos2.2.2.symm), by omega, fun i hi hn => ?_⟩, fun b o hm => ?_, ?_, fun D hD => ?_⟩
          · by_cases hil : i = w.heap.size + 1
            · subst hil; rw [hl2, hl2a]
            · exact (hold i (by omega) hil).trans (hp2.2 i hil).symm
          · rcases List.mem_cons.1 hm with e | hm
            · cases e
              exact ⟨.inr (by omega), (hp2a.2 _ (by omega)).trans hbo⟩
            · have hb1 := hlt b (hGi s pre ▸ ids_mem hm)
              exact ⟨.inl (hGi s pre ▸ ids_mem hm), (hold b (by omega) (by omega)).trans (j2 b o hm)⟩
          · simp only [ids, List.map_cons, List.nodup_cons]
            refine ⟨fun h => ?_, hnd _ (hGi s pre)⟩
            have h9 : bn ∈ ids H := hGi s pre ▸ h
            have := hlt bn h9; omega
          · have h0 := (hs.data D hD).more (ids' := w0.ex ++ (w.heap.size :: (w.heap.size + 1) :: bn :: ids H)) fun i hi hl => by
              simp only [List.mem_append, List.mem_cons] at hi ⊢
              rcases hi with h | h | h | h | h
              · exact .inl h
              · omega
              · omega
              · omega
              · exact .inr h
            have h1 := h0.later (b := W2a) ⟨by have := j3.1; omega, fun i hi hn => (hold i (by have := j3.1; omega) (by omega)).trans (j3.2 i hi fun h => hn (by
              rcases List.mem_append.1 h with h | h
              · exact List.mem_append_left _ h
              · simp [h]))⟩
            refine h1.sub fun i hi => List.mem_append_right _ ?_
            have hG9 : ids ((bn, O x) :: G s pre) = bn :: ids H := by rw [← hGi s pre]; rfl
            rw [hG9] at hi
            simpa [Base.rnd] using hi
        refine Go.wpIn_mono (F := Fence.wide.inRound (w.heap.size + 1)) (hbody (w.heap.size + 1) s pre x W2 W2a bn a1 _ hE hpre hIp hfa hst2) ?_
        have fin : ∀ (jump : Option Code) (G' : Own) (Ds' : List (World → Prop)) (W3 : World), ids G' = ids H → St (Base.rnd W2 (ids H) [w.heap.size, w.heap.size + 1] hE) Ds' G' W3 →
            (Instr.endRound (w.heap.size + 1) jump).run P W3 = .ok (.bool jump.isNone) (W3.putObj (w.heap.size + 1) (.loop (rec (if jump.isNone then .ready else .done) jump))) ∧
            Later (ids H ++ [w.heap.size, w.heap.size + 1]) W (W3.putObj (w.heap.size + 1) (.loop (rec (if jump.isNone then .ready else .done) jump))) ∧
            JJ G' (rec (if jump.isNone then .ready else .done) jump) (W3.putObj (w.heap.size + 1) (.loop (rec (if jump.isNone then .ready else .done) jump))) := by
          intro jump G' Ds' W3 hi h3
          obtain ⟨k1, k2, k3, k4⟩ := h3.below
          have hl3 : W3.heap[w.heap.size + 1]? = some (.loop { rec .ready none with state := .busy }) := (k4.2 _ (by omega) (fun h => by have := hlt _ h; omega)).trans hl2
          have hk3 : W3.heap[w.heap.size]? = some (.deferred (some [])) := (k4.2 _ (by omega) (fun h => by have := hlt _ h; omega)).trans hk2
          have h4 := run_endRound (P := P) jump hl3
          rw [hrec] at h4
          obtain ⟨W4, hW4⟩ : ∃ W4, W3.putObj (w.heap.size + 1) (.loop (rec (if jump.isNone then .ready else .done) jump)) = W4 := ⟨_, rfl⟩
          have hp4 := putObj_eq W3 (w.heap.size + 1) (.loop (rec (if jump.isNone then .ready else .done) jump))
          have hl4 : (W3.putObj (w.heap.size + 1) (.loop (rec (if jump.isNone then .ready else .done) jump))).heap[w.heap.size + 1]? = some (.loop (rec (if jump.isNone then .ready else .done) jump)) := World.putObj_heap_same (Array.getElem?_eq_some_iff.1 hl3).1
          have hos4 : W4.os = W3.os ∧ W4.tape = W3.tape ∧ W4.output = W3.output := by rw [← hW4]; exact ⟨rfl, rfl, rfl⟩
          have hsz3 : W2.heap.size ≤ W3.heap.size := k4.1
          rw [hW4] at hp4 hl4 ⊢
          have hall : ∀ i, i < W.heap.size → i ∉ ids H → i ≠ w.heap.size + 1 → W4.heap[i]? = W.heap[i]? := fun i hi hn hne => (hp4.2 i hne).trans ((k4.2 i (by omega) hn).trans (hp2.2 i hne))
          refine ⟨by rw [← hW4, hrec]; exact h4, ⟨by omega, fun i hi hn => hall i hi (fun h => hn (by simp [h])) (fun h => hn (by simp [h]))⟩, ?_⟩
          rw [hJJ]
          refine ⟨w0.closed _ _ j1 ⟨hos4.1.trans (k1.trans hos2.1), hos4.2.1.trans (k2.trans hos2.2.1), hos4.2.2.trans (k3.trans hos2.2.2), by omega, fun i hi hn => hall i hi (fun h => hn (hmine i h)) (fun h => hn (w0.new _ hs.below i (by omega)))⟩, fun b o hm => (hp4.2 b ?_).trans (h3.own b o hm).2, ⟨by have := j3.1; omega, fun i hi hn => (hall i (by have := j3.1; omega) (fun h => hn (List.mem_append_right _ h)) (by omega)).trans (j3.2 i hi hn)⟩, hl4, (hp4.2 _ (by omega)).trans hk3⟩
          have := hlt b (hi ▸ ids_mem hm); omega
        intro e a3 W3 he
        cases e with
        | normal =>
          obtain ⟨s', Ds', h3, h3I⟩ := he
          obtain ⟨h4, h5, h6⟩ := fin none _ Ds' W3 (hGi _ _) h3
          exact ⟨_, _, h4, h5, .inl ⟨rfl, s', h6, h3I⟩⟩
        | ret =>
          obtain ⟨t, h3, h3I⟩ := he
          obtain ⟨h4, h5, h6⟩ := fin (some .ret) _ _ W3 (hGxi _ _) h3
          refine ⟨_, _, h4, h5, .inr ⟨rfl, t, h3I, h6, fun D hD => ?_⟩⟩
          have h7 := h3.data D hD
          rw [hGxi] at h7
          have hp4 := putObj_eq W3 (w.heap.size + 1) (.loop (rec (if (some Code.ret).isNone then .ready else .done) (some .ret)))
          exact h7.later ⟨by omega, fun i hi hn => hp4.2 i fun e => hn (by simp [Base.rnd, e])⟩
        | _ => exact he.elim
      | _ => exact he.elim
    · refine ⟨s0, ?_, hI0⟩
      show JJ (G s0 []) _ W1
      rw [hJJ, hG0]
      exact ⟨w0.closed _ _ hs.below (turns_of_below hb1), fun b o hm => (hb1.block b (hs.lt hm)).trans (hs.own b o hm).2, later_of_below hb1 _, hL1, hK1⟩
    · -- behind the iterator
      rintro e W2 ⟨⟨v, rfl⟩, hlat, hj⟩
      have endl : ∀ (G' : Own) (r : Loop) (pe : Option Code), ids G' = ids H → r.state ≠ .busy → r.pending = pe → JJ G' r W2 → ∃ W3, (Instr.endLoop (w.heap.size + 1)).run P W2 = .ok pe W3 ∧ Later [w.heap.size + 1] W2 W3 ∧ St w0 Ds (G' ++ [(w.heap.size, .deferred (some []))]) W3 := by
        intro G' r pe hi hb hpe h
        have hst := hJst hi h
        rw [hJJ] at h
        obtain ⟨j1, j2, j3, j4, j5⟩ := h
        have h1 := run_endLoop (P := P) j4 hb
        subst hpe
        refine ⟨_, h1, ⟨by rw [(putObj_eq _ _ _).1]; exact Nat.le_refl _, fun i _ hn => (putObj_eq W2 (w.heap.size + 1) _).2 i (fun e => hn (by simp [e]))⟩, ?_⟩
        obtain ⟨W3, hW3⟩ : ∃ W3, W2.putObj (w.heap.size + 1) (.loop { r with state := .exhausted }) = W3 := ⟨_, rfl⟩
        have hp3 := putObj_eq W2 (w.heap.size + 1) (.loop { r with state := .exhausted })
        rw [hW3] at hp3 ⊢
        have hos3 : W3.os = W2.os ∧ W3.tape = W2.tape ∧ W3.output = W2.output := by rw [← hW3]; exact ⟨rfl, rfl, rfl⟩
        have hids : ids (G' ++ [(w.heap.size, Obj.deferred (some []))]) = ids H ++ [w.heap.size] := by simp [ids, ← hi]
        have hW2l : w.heap.size + 1 < W2.heap.size := (Array.getElem?_eq_some_iff.1 j4).1
        refine ⟨w0.closed _ _ j1 ⟨hos3.1, hos3.2.1, hos3.2.2, by omega, fun i hi' hn => hp3.2 i fun e => hn (w0.new _ hs.below i (by omega))⟩, fun b o hm => ?_, ?_, fun D hD => ?_⟩
        · rcases List.mem_append.1 hm with hm | hm
          · have := hlt b (hi ▸ ids_mem hm)
            exact ⟨hmine b (hi ▸ ids_mem hm), (hp3.2 b (by omega)).trans (j2 b o hm)⟩
          · rcases List.mem_singleton.1 hm with e
            cases e
            exact ⟨w0.new _ hs.below _ (Nat.le_refl _), (hp3.2 _ (by omega)).trans j5⟩
        · rw [hids, List.nodup_append]
          refine ⟨hs.nodup, by simp, fun x hx y hy e => ?_⟩
          have := hlt x hx
          simp at hy; omega
        · rw [hids]
          have h2 := ((hs.data D hD).more (ids' := w0.ex ++ (ids H ++ [w.heap.size])) fun i hi' hl => ?_).later (b := W3) ⟨by have := j3.1; omega, fun i hi' hn => (hp3.2 i (by omega)).trans (j3.2 i hi' fun h => hn ?_)⟩
          · exact h2
          · simp only [List.mem_append, List.mem_singleton] at hi' ⊢
            rcases hi' with h | h | h
            · exact .inl h
            · exact .inr h
            · omega
          · simp only [List.mem_append, List.mem_singleton] at h ⊢
            rcases h with h | h
            · exact .inl h
            · exact .inr (.inl h)
      have hfD : Fr [coll w.heap.size] { a with defers := [coll w.heap.size] ++ a.defers } n L := ⟨by simp [hf.defers], hf.size, hf.at_⟩
      rcases hj with ⟨s, hj, hIp⟩ | ⟨pre, hne, hpre, t, hIx, hj, hjD⟩
      · obtain ⟨W3, h1, _, h2⟩ := endl _ _ none (hGi _ _) (by rw [hrec]; simp) (by rw [hrec]) hj
        exact ⟨none, W3, h1, hdone _ _ _ _ hfD hIp h2⟩
      · obtain ⟨W3, h1, hL3, h2⟩ := endl _ _ (some .ret) (hGxi _ _) (by rw [hrec]; simp) (by rw [hrec]) hj
        refine ⟨some .ret, W3, h1, wpIn_ret (hstop _ t pre _ _ hne hpre hIx hfD ⟨h2.below, h2.own, h2.nodup, fun D hD => ?_⟩)⟩
        rcases List.mem_append.1 hD with hD | hD
        · have h7 := (hjD D hD).later (b := W3) ⟨hL3.1, fun i hi hn => hL3.2 i hi fun h => hn (by rw [List.mem_singleton.1 h]; simp)⟩
          refine h7.sub fun i hi => ?_
          rw [hex] at hi
          simp only [List.nil_append, ids, List.map_append, List.map_cons, List.map_nil, List.mem_append, List.mem_singleton] at hi
          rcases hi with h | h
          · have : i ∈ ids H := by rw [← hGxi t pre]; exact h
            simp [this]
          · simp [h]
        · exact h2.data D hD
/-- The assignment makes a new variable of the value's type. -/
theorem c_rangeVWA {α : Type} {V : α → List Value} {g : Operand} {p : Nat} {q id : Nat} {ty : TypeId} {ps : String} {af : Array Edge} {ps' : String} {tt tt' : TypeId} {af' : Array Edge} {sz : Nat} {z : Value} (hT : Ty P ty true sz z) (hz : ∀ x, (V x).length = sz) (hzz : z.cells.size = sz) (hp9 : ∀ x, (V x).all plain = true) (hq : q < n) (hqp : q ≠ p) {body : Code} (hf : Fr [] a n L) (hs : St w0 Ds H w) {gf : Nat} {lb : List Value} (hg : ev L g = some (.func (.func gf) #[] lb.toArray)) (hk : Enters P gf) (hp : p < n)
    {all : List α} (hc : SeqV P gf lb (fun x => .agg (V x).toArray) all (w0.ex ++ ids H) w) {σ τ : Type} (hex : w0.ex = []) (Ip : σ → List α → Prop) (G : σ → List α → Own) (Ix : τ → List α → Prop) (Dx : τ → List α → List (World → Prop)) (Gx : τ → List α → Own) (s0 : σ) (hI0 : Ip s0 []) (hG0 : G s0 [] = H) (hGi : ∀ s pre, ids (G s pre) = ids H) (hGxi : ∀ t pre, ids (Gx t pre) = ids H)
    (hbody : ∀ l s pre x W W2 b a1 E hE, pre ++ [x] <+: all → Ip s pre → Fr [] a1 n ((q, .pointer (some ⟨b, 0, none⟩)) :: (p, .agg (V x).toArray) :: L) → St (Base.rnd W (ids H) E hE) Ds ((b, .cells (V x).toArray ty (0, 0)) :: G s pre) W2 →
      body.wpIn (fen (some l)) 0 P (rndQ (fun W' => ∃ s' Ds', St (Base.rnd W (ids H) E hE) Ds' (G s' (pre ++ [x])) W' ∧ Ip s' (pre ++ [x])) (fun W' => ∃ t, St (Base.rnd W (ids H) E hE) (Dx t (pre ++ [x])) (Gx t (pre ++ [x])) W' ∧ Ix t (pre ++ [x]))) a1 W2)
    (hdone : ∀ D s a' w', Fr [coll D] a' n L → Ip s all → St w0 Ds (G s all ++ [(D, .deferred (some []))]) w' → Q .normal a' w')
    (hstop : ∀ D t pre a' w', pre ≠ [] → pre <+: all → Ix t pre → Fr [coll D] a' n L → St w0 (Dx t pre ++ Ds) (Gx t pre ++ [(D, .deferred (some []))]) w' → Q .ret a' w') :
    (Code.rangeFunc g #[p] (.region id [⟨some q, .alloc ty, tt, ps, af, none⟩, ⟨none, .store ty (.tmp q) (.tmp p), tt', ps', af', none⟩].toArray false) body).wp P Q a w :=
  c_rangeVW (V := fun x => .agg (V x).toArray) hf hs hg hk hp hc hex Ip G Ix Dx Gx s0 hI0 hG0 hGi hGxi (fun b x => (q, .pointer (some ⟨b, 0, none⟩)) :: (p, .agg (V x).toArray) :: L) (fun x => .cells (V x).toArray ty (0, 0))
    (fun l x a W hf => r_reg1 rfl (vL hf (v_alloc (St.start W [] (by simp)) hT rfl) hq fun v w' hR a hf => by
      obtain ⟨b, rfl, hs⟩ := hR
      have h9 : (p == q) = false := by simpa using fun e => hqp e.symm
      have hx1 : ev ((q, .pointer (some ⟨b, 0, none⟩)) :: (p, .agg (V x).toArray) :: L) (.tmp q) = some (.pointer (some ⟨b, 0, none⟩)) := by simp [ev, List.lookup]
      have hx2 : ev ((q, .pointer (some ⟨b, 0, none⟩)) :: (p, .agg (V x).toArray) :: L) (.tmp p) = some (.agg (V x).toArray) := by simp [ev, List.lookup, h9]
      refine uL (u_stW hf hs hT hx1 hx2 (hp9 x) (k := 0) rfl (hz x) (by rw [hz x, hzz])) fun w' hs => e_nilJ ?_
      exact ⟨b, hs.below, (hs.own b _ (.head _)).1, (hs.own b _ (.head _)).2, hf⟩)) hbody hdone hstop
end
end Go.Proofs.YtjjcopeedcdokaaDoor

set_option linter.unusedVariables false
set_option linter.unusedSimpArgs false
namespace Go.Proofs.YtjjcopeedcdokaaDoor
open Go.RowKit
section
variable {P : Program} {Q : Exit → Act → World → Prop} {ds : List Deferred} {a : Act} {n : Nat} {L : Regs} {w w' : World} {t : TypeId} {w0 : Base} {Ds : List (World → Prop)} {H : Own} {ops : Array Oper} {d : Nat} {p : String} {af : Array Edge}
/-- An own block that a call has turned. -/
theorem St.turnedAt {j b : Nat} {o o' : Obj} (hs : St w0 Ds H w) (hj : H[j]? = some (b, o)) (hos : w'.os = w.os) (ht : w'.tape = w.tape) (hu : w'.output = w.output) (hl : Later [b] w w') (hb : w'.heap[b]? = some o') : St w0 Ds (H.set j (b, o')) w' := by
  have hm : (b, o) ∈ H := List.mem_of_getElem? hj
  have hmine := (hs.own b o hm).1
  refine ⟨w0.closed _ _ hs.below ⟨hos, ht, hu, hl.1, fun i hi hn => hl.2 i hi fun h => hn (by rw [List.mem_singleton.1 h]; exact hmine)⟩, fun c u hc => ?_, by rw [ids_set hj]; exact hs.nodup, fun D hD => ?_⟩
  · rcases mem_set hs.nodup hj hc with ⟨rfl, rfl⟩ | ⟨hne, hm'⟩
    · exact ⟨hmine, hb⟩
    · exact ⟨(hs.own _ _ hm').1, (hl.2 c (hs.lt hm') (by simpa using hne)).trans (hs.own _ _ hm').2⟩
  · rw [ids_set hj]
    exact (hs.data D hD).later ⟨hl.1, fun i hi hn => hl.2 i hi fun h => hn (by rw [List.mem_singleton.1 h]; exact List.mem_append_right _ (ids_mem hm))⟩
/-- What is known of the sheets that are missing is right. -/
def kOK (k : Bk) (m : KM) : Prop := ∀ c v, (c, v) ∈ m → ∃ i : Nat, i < k.ws.length ∧ c.1 = ((i : Nat) : Int) ∧ v = hm (k.ws.getD i default) c.2
theorem kOK_nil (k : Bk) : kOK k [] := fun c v h => by cases h
theorem kOK_get {k : Bk} {m : KM} (h : kOK k m) {i : Nat} {n t : Int} (hh : khas m (((i : Nat) : Int), n, t) = true) : kget m (((i : Nat) : Int), n, t) = hm (k.ws.getD i default) (n, t) := by
  obtain ⟨j, _, h2, h3⟩ := h _ _ (khas_mem hh)
  have : i = j := by simp only at h2; omega
  subst this; exact h3
theorem kOK_add {k : Bk} {m : KM} (h : kOK k m) {i : Nat} (hi : i < k.ws.length) {n t v : Int} (hv : v = hm (k.ws.getD i default) (n, t)) : kOK k (m ++ [((((i : Nat) : Int), n, t), v)]) := fun c u hc => by
  rcases List.mem_append.1 hc with hc | hc
  · exact h c u hc
  · have e := List.mem_singleton.1 hc
    cases e
    exact ⟨i, hi, rfl, hv⟩
def MapAt (k : Bk) (mb : Nat) (w : World) : Prop := ∃ m, kOK k m ∧ w.heap[mb]? = some (mapK m)
/-- What a call leaves that may write the map of a book. -/
abbrev MRet (k : Bk) (mb : Nat) (w : World) (v0 : Value) : Ending → World → Prop :=
  RetR fun v w' => v = v0 ∧ w'.os = w.os ∧ w'.tape = w.tape ∧ w'.output = w.output ∧ Later [mb] w w' ∧ MapAt k mb w'
theorem mret_of {k : Bk} {mb : Nat} {v : Value} {f : FuncId} {xs : Array Value} (h : Calls P f xs w (Ret w v)) (hm : MapAt k mb w) : Calls P f xs w (MRet k mb w v) :=
  Calls.mono h fun e w' ⟨he, hb⟩ => by
    obtain ⟨m, h1, h2⟩ := hm
    exact ⟨v, he, rfl, hb.os, hb.tape, hb.output, later_of_below hb _, m, h1, (hb.block mb (Array.getElem?_eq_some_iff.1 h2).1).trans h2⟩
theorem callM {rest : List Oper} {kb : Bk} {mb j : Nat} {m : KM} (hf : Fr ds a n L) (hs : St w0 Ds H w) (hj : H[j]? = some (mb, mapK m)) {f : Operand} {args : List Operand} {ats : Array TypeId} {k : FuncId} {us caps vs vs' : List Value} {v0 : Value}
    (hc : Calls P k vs'.toArray w (MRet kb mb w v0)) (hfn : ev L f = some (.func (.func k) us.toArray caps.toArray)) (hargs : evs L args = some vs) (hv : us ++ vs ++ caps = vs') (hk : Enters P k) (hd : d < n)
    (h : ∀ m' w' a', kOK kb m' → St w0 Ds (H.set j (mb, mapK m')) w' → Fr ds a' n ((d, v0) :: L) → wpList P ops Q rest a' w') : wpList P ops Q (⟨some d, .call { callee := .value f, args := args.toArray, argTypes := ats }, t, p, af, none⟩ :: rest) a w :=
  callB hf hc hfn hargs hv hk hd fun v w' a' hR hf' => by
    obtain ⟨rfl, h1, h2, h3, h4, m', h5, h6⟩ := hR
    exact h m' w' a' h5 (hs.turnedAt hj h1 h2 h3 h4 h6) hf'
theorem oCallM {S : World → Prop} {i : Nat} {KK : Act → World → Prop} {kb : Bk} {mb j : Nat} {m : KM} (hf : Fr ds a n L) (hs : St w0 Ds H w) (hj : H[j]? = some (mb, mapK m)) {f : Operand} {args : List Operand} {ats : Array TypeId} {k : FuncId} {us caps vs vs' : List Value} {v0 : Value} (hi : ops[i]? = some ⟨some d, .call { callee := .value f, args := args.toArray, argTypes := ats }, t, p, af, none⟩)
    (hc : Calls P k vs'.toArray w (MRet kb mb w v0)) (hfn : ev L f = some (.func (.func k) us.toArray caps.toArray)) (hargs : evs L args = some vs) (hv : us ++ vs ++ caps = vs') (hk : Enters P k) (hd : d < n)
    (hS : ∀ m' w', St w0 Ds (H.set j (mb, mapK m')) w' → S w')
    (h : ∀ m' w' a', kOK kb m' → St w0 Ds (H.set j (mb, mapK m')) w' → S w' → Fr ds a' n ((d, v0) :: L) → KK a' w') : wpOp P ops Q i (fun a' w' => S w' ∧ KK a' w') a w :=
  oCallB hf hi hc hfn hargs hv hk hd (fun v w' hR => by
    obtain ⟨rfl, h1, h2, h3, h4, m', h5, h6⟩ := hR
    exact hS m' w' (hs.turnedAt hj h1 h2 h3 h4 h6)) fun v w' a' hR hS' hf' => by
    obtain ⟨rfl, h1, h2, h3, h4, m', h5, h6⟩ := hR
    exact h m' w' a' h5 (hs.turnedAt hj h1 h2 h3 h4 h6) hS' hf'
end
/-- How often the orders of all workers do. -/
def doesL (k : Bk) : List Int := k.ws.map (doesK k)
theorem doesL_get {k : Bk} {i : Nat} (h : i < k.ws.length) : (doesL k).getD i default = doesK k (k.ws.getD i default) := by
  unfold doesL
  rw [List.getD_eq_getElem?_getD, List.getElem?_map, List.getD_eq_getElem?_getD, List.getElem?_eq_getElem h]; rfl
/-- A book in the calculation lies in memory, and its map. -/
structure BkO (k : Bk) (fA : Option Addr) (fc : Nat) (rA : Option Addr) (rc : Nat) (wA : Option Addr) (wc : Nat) (dA : Option Addr) (mb : Nat) (w : World) : Prop where
  F : Stable [mb] w (Rd encF 5 fA k.sh.flaps.length k.sh.flaps)
  R : Stable [mb] w (Rd encR 2 rA k.sh.rules.length k.sh.rules)
  W : Stable [mb] w (Rd encW 6 wA k.ws.length k.ws)
  O : Stable [mb] w (OrdD k.ws)
  D : Stable [mb] w (Rd encI 1 dA k.ws.length (doesL k))
  map : MapAt k mb w
theorem BkO.at_ {k : Bk} {fA : Option Addr} {fc : Nat} {rA : Option Addr} {rc : Nat} {wA : Option Addr} {wc : Nat} {dA : Option Addr} {mb : Nat} {w : World} (h : BkO k fA fc rA rc wA wc dA mb w) {m : KM} (hm : w.heap[mb]? = some (mapK m)) (X : List (World → Prop)) (hX : ∀ D ∈ X, Stable [mb] w D) :
    St (Base.rnd w [mb] [] noE) (X ++ [Rd encF 5 fA k.sh.flaps.length k.sh.flaps, Rd encR 2 rA k.sh.rules.length k.sh.rules, Rd encW 6 wA k.ws.length k.ws, OrdD k.ws, Rd encI 1 dA k.ws.length (doesL k)]) [(mb, mapK m)] w := by
  refine ⟨⟨rfl, rfl, rfl, Later.refl _ _⟩, fun b o hb => ?_, by simp, fun D hD => ?_⟩
  · rcases List.mem_singleton.1 hb with e
    cases e
    exact ⟨.inl (by simp), hm⟩
  · show Stable ([] ++ [mb]) w D
    rcases List.mem_append.1 hD with hD | hD
    · exact hX D hD
    · simp only [List.mem_cons, List.not_mem_nil, or_false] at hD
      rcases hD with rfl | rfl | rfl | rfl | rfl
      · exact h.F
      · exact h.R
      · exact h.W
      · exact h.O
      · exact h.D
theorem bkO_of {k : Bk} {fA : Option Addr} {rA : Option Addr} {wA : Option Addr} {dA : Option Addr} {mb : Nat} {w : World} {w0 : Base} {Ds : List (World → Prop)} {H : Own} {m : KM} (fc rc wc : Nat) (hs : St w0 Ds H w) (j : Nat) (hj : H[j]? = some (mb, mapK m)) (hk : kOK k m)
    (h1 : Rd encF 5 fA k.sh.flaps.length k.sh.flaps ∈ Ds) (h2 : Rd encR 2 rA k.sh.rules.length k.sh.rules ∈ Ds) (h3 : Rd encW 6 wA k.ws.length k.ws ∈ Ds) (h4 : OrdD k.ws ∈ Ds) (h5 : Rd encI 1 dA k.ws.length (doesL k) ∈ Ds) : BkO k fA fc rA rc wA wc dA mb w := by
  have hm : (mb, mapK m) ∈ H := List.mem_of_getElem? hj
  have hsub : ∀ D ∈ Ds, Stable [mb] w D := fun D hD => (hs.data D hD).sub fun i hi => by rw [List.mem_singleton.1 hi]; exact List.mem_append_right _ (ids_mem hm)
  exact ⟨hsub _ h1, hsub _ h2, hsub _ h3, hsub _ h4, hsub _ h5, m, hk, (hs.own _ _ hm).2⟩
def fo (k : Bk) (x : Wkr) (what : Nat) (pre : List (Int × Int)) : Option (Int × Int) := pre.foldl (fun o c => mrg o (hspan k x what c)) none
def outZ (k : Bk) (x : Wkr) (what : Nat) (pre : List (Int × Int)) : Int × Int := (fo k x what pre).getD (0, 0)
theorem fo_snoc (k : Bk) (x : Wkr) (what : Nat) (pre : List (Int × Int)) (c : Int × Int) : fo k x what (pre ++ [c]) = mrg (fo k x what pre) (hspan k x what c) := by unfold fo; rw [List.foldl_append]; rfl
theorem fo_some (k : Bk) (x : Wkr) (what : Nat) (pre : List (Int × Int)) : (fo k x what pre).isSome = !pre.isEmpty := by
  refine snocInd (Q := fun pre => (fo k x what pre).isSome = !pre.isEmpty) rfl (fun l c ih => ?_) pre
  rw [fo_snoc]
  cases fo k x what l <;> cases l <;> rfl
theorem outZ_snoc_no {k : Bk} {x : Wkr} {what : Nat} {pre : List (Int × Int)} (c : Int × Int) (h : (fo k x what pre).isSome = false) : outZ k x what (pre ++ [c]) = hspan k x what c := by
  unfold outZ; rw [fo_snoc]
  cases he : fo k x what pre with
  | none => rfl
  | some s => rw [he] at h; cases h
theorem outZ_snoc_yes {k : Bk} {x : Wkr} {what : Nat} {pre : List (Int × Int)} (c : Int × Int) (h : (fo k x what pre).isSome = true) : outZ k x what (pre ++ [c]) = (min (outZ k x what pre).1 (hspan k x what c).1, max (outZ k x what pre).2 (hspan k x what c).2) := by
  unfold outZ; rw [fo_snoc]
  cases he : fo k x what pre with
  | none => rw [he] at h; cases h
  | some s => rfl
theorem fo_snoc_some (k : Bk) (x : Wkr) (what : Nat) (pre : List (Int × Int)) (c : Int × Int) : (fo k x what (pre ++ [c])).isSome = true := by
  rw [fo_snoc]; cases fo k x what pre <;> rfl
theorem fo_all (k : Bk) (x : Wkr) (what : Nat) : (fo k x what (trues x)).isSome = rightB x := fo_some _ _ _ _
theorem outZ_all (k : Bk) (x : Wkr) (what : Nat) : outZ k x what (trues x) = ofZ k what x := rfl
section
variable {P : Program} {Q : Exit → Act → World → Prop} {ds : List Deferred} {a : Act} {n : Nat} {L : Regs} {w : World} {t : TypeId} {w0 : Base} {Ds : List (World → Prop)} {H : Own} {ops : Array Oper} {S : World → Prop} {fuel : Nat} {listed : Array Bool} {i : Nat}
/-- One of three may come up. -/
theorem three {j l : Nat} (hr : Region.ready .any ops listed = [i, j, l]) (h : wpOp P ops Q i (fun a' w' => S w' ∧ wpAnyH P .any ops Q S fuel (listed.setIfInBounds i true) a' w') a w)
    (h' : wpOp P ops Q j (fun a' w' => S w' ∧ wpAnyH P .any ops Q S fuel (listed.setIfInBounds j true) a' w') a w) (h'' : wpOp P ops Q l (fun a' w' => S w' ∧ wpAnyH P .any ops Q S fuel (listed.setIfInBounds l true) a' w') a w) : wpAnyH P .any ops Q S (fuel + 1) listed a w :=
  wpAnyH_all hr (by simp) fun m hm => by
    rcases List.mem_cons.1 hm with rfl | hm
    · exact h
    · rcases List.mem_cons.1 hm with rfl | hm
      · exact h'
      · rcases List.mem_singleton.1 hm with rfl; exact h''
theorem v_mapK (hs : St w0 Ds H w) {ty : TypeId} : GoesV P (.makeMap ty none) t a w fun u w' => ∃ b, u = .map (some b) ∧ St w0 Ds ((b, mapK []) :: H) w' := v_map hs
end
theorem fresh_own {w0 w : World} {Ds : List (World → Prop)} {H : Own} {b : Nat} {cs : Array Value} {e : TypeId} {fz : Nat × Nat} (hs : St (Base.of w0) Ds H w) (hm : (b, .cells cs e fz) ∈ H) : Fresh w0 w (BlkIs b cs e fz) :=
  fun w'' _ h => (h b (hs.own b _ hm).1 (hs.lt hm)).trans (hs.own b _ hm).2
theorem stab3 {X : List Nat} {w : World} {A B C : World → Prop} (h1 : Stable X w A) (h2 : Stable X w B) (h3 : Stable X w C) : ∀ D ∈ [A, B, C], Stable X w D := fun D hD => by
  simp only [List.mem_cons, List.not_mem_nil, or_false] at hD
  rcases hD with rfl | rfl | rfl
  · exact h1
  · exact h2
  · exact h3
/-- A truth, as it is handed out. -/
abbrev cameV (i : Nat) (c : Int × Int) : List Value := [.int .i64 ((i : Nat) : Int), .int .i64 c.1, .int .i64 c.2]
section
variable {P : Program} {ds : List Deferred} {a : Act} {n : Nat} {L : Regs} {w : World} {t : TypeId} {w0 : Base} {Ds : List (World → Prop)} {H : Own}
theorem g_slArr (hf : Fr ds a n L) {ta e : TypeId} {len sz : Nat} (hT : ArT P ta e len sz) {x : Operand} {b : Nat} (hx : ev L x = some (.pointer (some ⟨b, 0, none⟩))) : Gets P (.slice ta x none none none) t a w (.slice (some ⟨b, 0, none⟩) len len) := by
  intro d p af g
  simp [execOp, Instr.sliceAt, hT.under w, hT.size w, Instr.sureAddr, Instr.sliceBounds, hf.eval hx, Addr.add]
/-- What an array of seven zeros holds behind a copy. -/
def pad7 (l : List Int) : List Int := l.take 7 ++ List.replicate (7 - l.length) 0
theorem pad7_len (l : List Int) : (pad7 l).length = 7 := by simp [pad7]; omega
theorem pad7_inj {l m : List Int} (h : l.length = m.length) (h1 : l.length ≤ 7) (he : pad7 l = pad7 m) : l = m := by
  unfold pad7 at he
  rw [List.take_of_length_le h1, List.take_of_length_le (by omega)] at he
  exact List.append_inj_left he h
theorem v_copy7 (hf : Fr ds a n L) (hs : St w0 Ds H w) {ts ts' et : TypeId} (hT : SlT P ts et 1) {x y : Operand} {b k len c : Nat} {A : Option Addr} {l : List Int} {e : TypeId} (hx : ev L x = some (.slice (some ⟨b, 0, none⟩) 7 7)) (hy : ev L y = some (.slice A len c)) (hk : H[k]? = some (b, .cells (ints7 (List.replicate 7 0)) e (0, 0))) (hR : Rd encI 1 A len l w) :
    GoesV P (.call { callee := .builtin .copy, args := #[x, y], argTypes := #[ts, ts'] }) t a w fun v w' => v = .int .i64 ((min len 7 : Nat) : Int) ∧ St w0 Ds (H.set k (b, .cells (ints7 (pad7 l)) e (0, 0))) w' := by
  intro d p af g
  have hl := hR.1
  obtain ⟨vs, hvs⟩ : ∃ vs : List Value, vs = (l.take 7).map fun x => Value.int .i64 x := ⟨_, rfl⟩
  have hvl : vs.length = min len 7 := by rw [hvs, List.length_map, List.length_take, hl]; omega
  have hcells : (Builtin.firstCells 1 (min len 7) (.slice A len c)).run P w = .ok vs.toArray w := by
    cases A with
    | none =>
      have h0 : len = 0 := by
        rcases Nat.eq_zero_or_pos len with h | h
        · exact h
        · have := hR.isSome h; cases this
      subst h0
      have : vs = [] := List.eq_nil_of_length_eq_zero (by rw [hvl]; omega)
      simp [Builtin.firstCells, this]
    | some ad =>
      have h1 := Rd.flat (enc := encI) (sz := 1) (fun _ => rfl) (by decide) hR
      have h2 := run_loadCells (P := P) (w := w) (ad := ad) vs 0 #[] fun j v hj => by
        rw [Nat.zero_add]
        refine h1 j v ?_
        have e1 : l.flatMap encI = l.map fun x => Value.int .i64 x := by
          clear h1 hj hvl hvs hl hR
          induction l with
          | nil => rfl
          | cons x l ih => rw [List.flatMap_cons, ih]; rfl
        rw [e1]
        rw [hvs, List.getElem?_map, List.getElem?_take] at hj
        split at hj
        · rw [List.getElem?_map]; exact hj
        · cases hj
      rw [hvl] at h2
      simpa [Builtin.firstCells, loadCells] using h2
  have hsz : (ints7 (List.replicate 7 0)).size = 7 := rfl
  obtain ⟨w', hr, hs'⟩ := run_storeCells (P := P) vs 0 (off := 0) (k := k) (fun v hv => by rw [hvs] at hv; obtain ⟨x, _, rfl⟩ := List.mem_map.1 hv; rfl) (by rw [hsz, hvl]; omega) hs hk
  have hcs : splat (ints7 (List.replicate 7 0)) (0 + 0) vs = ints7 (pad7 l) := by
    apply Array.toList_inj.1
    rw [splat_toList _ _ _ (by rw [hsz, hvl]; omega)]
    have hlen7 : (l.take 7).length = min len 7 := by rw [List.length_take, hl]; omega
    simp only [ints7, pad7, List.map_append, hvs, List.length_map, List.map_replicate, Nat.zero_add, List.take_zero, List.nil_append, List.drop_replicate]
    congr 2
    rw [hlen7, hl]; omega
  rw [hcs] at hs'
  refine ⟨_, w', ?_, rfl, hs'⟩
  simp [execOp, resolve, invoke, builtin, hf.eval hx, hf.eval hy, Builtin.copy_, hT.under w, Builtin.lenOf, hT.size w]
  rw [show Nat.min len 7 = min len 7 from rfl, hcells]
  simp [hr, goInt]
end
end Go.Proofs.YtjjcopeedcdokaaDoor

set_option linter.unusedVariables false
set_option linter.unusedSimpArgs false
namespace Go.Proofs.YtjjcopeedcdokaaDoor
open Go.RowKit
theorem c_truths1 (k : Bk) (fA : Option Addr) (fc : Nat) (rA : Option Addr) (rc : Nat) (wA : Option Addr) (wc : Nat) (dA : Option Addr) (dc mb : Nat) (i : Nat) (hi : i < k.ws.length) (hx : WkrV k.sh (k.ws.getD i default)) (bb bw l : Nat) (X : List Nat) (J Jx : List (Int × Int) → World → Prop) (w0 : World) (hXl : ∀ j ∈ X, j < w0.heap.size) (hJB : ∀ pre A B, J pre A → Below w0.heap.size A B → J pre B) (hY : ∀ pre c W1, J pre W1 → Later X w0 W1 → pre ++ [c] <+: trues (k.ws.getD i default) → YieldAt Fence.wide 0 Tryd.prog l #[.agg (cameV i c).toArray] W1 fun e W' => Later X W1 W' ∧ ((e = .returned (.bool true) ∧ J (pre ++ [c]) W') ∨ (e = .returned (.bool false) ∧ Jx (pre ++ [c]) W'))) (hJ0 : J [] w0) (hB : Stable X w0 (BlkIs bb #[.int .i64 k.sh.wide, .int .i64 k.sh.high, .slice fA k.sh.flaps.length fc, .slice rA k.sh.rules.length rc, .int .i64 k.gross, .int .i64 k.pay, .int .i64 k.fine, .slice wA k.ws.length wc, .slice dA k.ws.length dc, .map (some mb)] 89 (0, 0))) (hW : Stable X w0 (BlkIs bw #[.int .i64 ((i : Nat) : Int)] 3 (0, 0))) (hR : Stable X w0 (Rd encW 6 wA k.ws.length k.ws)) :
    Calls Tryd.prog 128 #[.func (.yield l) #[] #[], .pointer (some ⟨bb, 0, none⟩), .pointer (some ⟨bw, 0, none⟩)] w0 ((fun e W' => (∃ v, e = .returned v) ∧ Later X w0 W' ∧ (J (trues (k.ws.getD i default)) W' ∨ ∃ pre, pre ≠ [] ∧ pre <+: trues (k.ws.getD i default) ∧ Jx pre W'))) := by
  refine c_enter (n := 62) Tryd.func128 rfl rfl (Nat.le_of_ble_eq_true rfl) ?_; intro a hf; simp only [zipR] at hf
  have hs := St.startI hXl (Nat.le_refl _) ⟨J [], hJB []⟩ hJ0 (stab3 hB hW hR)
  have hb0 := hx.b0; have hb1 := hx.b1; have hb2 := hx.b2; have ht0 := hx.t0; have ht1_ := hx.t1; have ht2 := hx.t2; have hs0_ := hx.s0; have hs1_ := hx.s1
  have hwm := (hR.now).2.1
  refine wp_scope_straight ?_
  refine c_reg ?_
  refine gL hf (g_fa (off' := 0) hf F89_0 rfl rfl) (by decide) ?_; clear hf a; intro a hf
  refine gL hf (g_fa (off' := 7) hf F28_4 rfl rfl) (by decide) ?_; clear hf a; intro a hf
  refine gL hf (g_ldB hf hs (.head _) T26 rfl rfl) (by decide) ?_; clear hf a; intro a hf
  refine gL hf (g_ldB hf hs (.tail _ (.head _)) T3 rfl rfl) (by decide) ?_; clear hf a; intro a hf
  (first | (refine gL hf (g_ixE hf hs (.tail _ (.tail _ (.head _))) SL26 rfl rfl (by omega)) (by decide) ?_) | (refine gL hf (g_ixD hf hs (.tail _ (.tail _ (.head _))) SL26 rfl rfl (by omega)) (by decide) ?_)); clear hf a; intro a hf
  refine gL hf (g_ldEW hf hs (.tail _ (.tail _ (.head _))) T47 rfl rfl (by omega)) (by decide) ?_; clear hf a; intro a hf
  refine vL hf (v_alloc hs T47 rfl) (by decide) ?_; clear hs hf a; rintro _ w ⟨b1, rfl, hs⟩ a hf
  refine uL (u_stW hf hs T47 rfl rfl rfl (k := 0) rfl rfl rfl) ?_; clear hs; intro w hs; dsimp only [List.set] at hs
  refine e_nil ?_
  refine wp_seq ?_
  refine c_label (q_thenN ?_)
  refine c_reg ?_
  refine gL hf (g_fa (off' := 2) hf F47_2 rfl rfl) (by decide) ?_; clear hf a; intro a hf
  refine gL hf (g_fa (off' := 3) hf F40_1 rfl rfl) (by decide) ?_; clear hf a; intro a hf
  refine gL hf (g_ld hf hs T3 rfl (k := 0) rfl rfl) (by decide) ?_; clear hf a; intro a hf
  refine gL hf (g_fa (off' := 2) hf F47_2 rfl rfl) (by decide) ?_; clear hf a; intro a hf
  refine gL hf (g_fa (off' := 2) hf F40_0 rfl rfl) (by decide) ?_; clear hf a; intro a hf
  refine gL hf (g_ld hf hs T3 rfl (k := 0) rfl rfl) (by decide) ?_; clear hf a; intro a hf
  refine gL hf (g_subI hf rfl rfl (by omega)) (by decide) ?_; clear hf a; intro a hf
  refine gL hf (g_addI hf rfl rfl (by omega)) (by decide) ?_; clear hf a; intro a hf
  refine gL hf (g_mv hf rfl) (by decide) ?_; clear hf a; intro a hf
  refine e_nil ?_
  refine c_block ?_
  have e0 : ([] : List (Int × Int)) = truesTo (k.ws.getD i default) ((k.ws.getD i default).bl + ((0 : Nat) : Int)) := by rw [show (k.ws.getD i default).bl + ((0 : Nat) : Int) = (k.ws.getD i default).bl by omega, trues_start]
  rw [e0] at hs
  refine c_loopB (fun u => Base.it w0 X w0.heap.size hXl (Nat.le_refl _) ⟨J (truesTo (k.ws.getD i default) ((k.ws.getD i default).bl + ((u : Nat) : Int))), hJB _⟩) hf (List.range' 5 3 ++ List.range' 22 40) (σ := Nat) (fun u => [(22, .int .i64 (u : Nat))]) (fun u => [(b1, .cells (encW (k.ws.getD i default)).toArray 47 (0, 0))]) (fun u => ((u : Nat) : Int) ≤ (k.ws.getD i default).bh - (k.ws.getD i default).bl + 1) (fun u => ((k.ws.getD i default).bh - (k.ws.getD i default).bl + 1).toNat - u) 0 hs (by omega) (.cons rfl .nil) ?_
  intro u a w hJ hf hs
  refine c_reg ?_
  refine gL hf (g_lss hf rfl rfl) (by decide) ?_; clear hf a; intro a hf
  refine e_nil ?_
  refine c_condS hf rfl (fun hc1 => ?_) (fun hc1 => ?_)
  · try simp only [decide_eq_true_eq, decide_eq_false_iff_not] at hc1
    refine c_skip (q_thenN ?_)
    refine c_blockS ?_
    refine c_reg ?_
    refine gL hf (g_mv hf rfl) (by decide) ?_; clear hf a; intro a hf
    refine gL hf (g_as hf rfl) (by decide) ?_; clear hf a; intro a hf
    refine e_nil ?_
    refine c_reg ?_
    refine gL hf (g_fa (off' := 4) hf F47_3 rfl rfl) (by decide) ?_; clear hf a; intro a hf
    refine gL hf (g_fa (off' := 5) hf F40_1 rfl rfl) (by decide) ?_; clear hf a; intro a hf
    refine gL hf (g_ld hf hs T3 rfl (k := 0) rfl rfl) (by decide) ?_; clear hf a; intro a hf
    refine gL hf (g_fa (off' := 4) hf F47_3 rfl rfl) (by decide) ?_; clear hf a; intro a hf
    refine gL hf (g_fa (off' := 4) hf F40_0 rfl rfl) (by decide) ?_; clear hf a; intro a hf
    refine gL hf (g_ld hf hs T3 rfl (k := 0) rfl rfl) (by decide) ?_; clear hf a; intro a hf
    refine gL hf (g_subI hf rfl rfl (by omega)) (by decide) ?_; clear hf a; intro a hf
    refine gL hf (g_addI hf rfl rfl (by omega)) (by decide) ?_; clear hf a; intro a hf
    refine gL hf (g_mv hf rfl) (by decide) ?_; clear hf a; intro a hf
    refine e_nil ?_
    refine c_block ?_
    have e0 : truesTo (k.ws.getD i default) ((k.ws.getD i default).bl + ((u : Nat) : Int)) = truesTo (k.ws.getD i default) ((k.ws.getD i default).bl + ((u : Nat) : Int)) ++ rowTo (k.ws.getD i default) ((k.ws.getD i default).bl + ((u : Nat) : Int)) ((k.ws.getD i default).tl + ((0 : Nat) : Int) - 1) := by rw [show (k.ws.getD i default).tl + ((0 : Nat) : Int) - 1 = (k.ws.getD i default).tl - 1 by omega, rowTo_start, List.append_nil]
    rw [e0] at hs
    refine c_loopB (fun c => Base.it w0 X w0.heap.size hXl (Nat.le_refl _) ⟨J (truesTo (k.ws.getD i default) ((k.ws.getD i default).bl + ((u : Nat) : Int)) ++ rowTo (k.ws.getD i default) ((k.ws.getD i default).bl + ((u : Nat) : Int)) ((k.ws.getD i default).tl + ((c : Nat) : Int) - 1)), hJB _⟩) hf (List.range' 6 2 ++ List.range' 33 28) (σ := Nat) (fun c => [(33, .int .i64 (c : Nat))]) (fun c => [(b1, .cells (encW (k.ws.getD i default)).toArray 47 (0, 0))]) (fun c => ((c : Nat) : Int) ≤ (k.ws.getD i default).th - (k.ws.getD i default).tl + 1 ∧ (0 < c → (k.ws.getD i default).bl + ((u : Nat) : Int) + ((k.ws.getD i default).tl + ((c : Nat) : Int) - 1) ≤ (k.ws.getD i default).sheets)) (fun c => ((k.ws.getD i default).th - (k.ws.getD i default).tl + 1).toNat - c) 0 hs ⟨by omega, fun h => absurd h (by omega)⟩ (.cons rfl .nil) ?_
    intro c a w hJ hf hs
    obtain ⟨hc9, hc0⟩ := hJ
    refine c_reg ?_
    refine gL hf (g_lss hf rfl rfl) (by decide) ?_; clear hf a; intro a hf
    refine e_nil ?_
    refine c_condS hf rfl (fun hc2 => ?_) (fun hc2 => ?_)
    · try simp only [decide_eq_true_eq, decide_eq_false_iff_not] at hc2
      refine c_skip (q_thenN ?_)
      refine c_blockS ?_
      refine c_reg ?_
      refine gL hf (g_mv hf rfl) (by decide) ?_; clear hf a; intro a hf
      refine gL hf (g_as hf rfl) (by decide) ?_; clear hf a; intro a hf
      refine e_nil ?_
      refine c_reg ?_
      refine gL hf (g_ldB hf hs (.tail _ (.head _)) T3 rfl rfl) (by decide) ?_; clear hf a; intro a hf
      refine gL hf (g_fa (off' := 2) hf F47_2 rfl rfl) (by decide) ?_; clear hf a; intro a hf
      refine gL hf (g_fa (off' := 2) hf F40_0 rfl rfl) (by decide) ?_; clear hf a; intro a hf
      refine gL hf (g_ld hf hs T3 rfl (k := 0) rfl rfl) (by decide) ?_; clear hf a; intro a hf
      refine gL hf (g_mv hf rfl) (by decide) ?_; clear hf a; intro a hf
      refine gL hf (g_addI hf rfl rfl (by omega)) (by decide) ?_; clear hf a; intro a hf
      refine gL hf (g_fa (off' := 4) hf F47_3 rfl rfl) (by decide) ?_; clear hf a; intro a hf
      refine gL hf (g_fa (off' := 4) hf F40_0 rfl rfl) (by decide) ?_; clear hf a; intro a hf
      refine gL hf (g_ld hf hs T3 rfl (k := 0) rfl rfl) (by decide) ?_; clear hf a; intro a hf
      refine gL hf (g_mv hf rfl) (by decide) ?_; clear hf a; intro a hf
      refine gL hf (g_addI hf rfl rfl (by omega)) (by decide) ?_; clear hf a; intro a hf
      refine gL hf (g_bld hf [[.int .i64 0], [.int .i64 0], [.int .i64 0]] (.cons rfl (.cons rfl (.cons rfl .nil))) (fun _ => by kernel_rfl)) (by decide) ?_; clear hf a; intro a hf
      refine vL hf (v_alloc hs T134 rfl) (by decide) ?_; clear hs hf a; rintro _ w ⟨b2, rfl, hs⟩ a hf
      refine uL (u_stW hf hs T134 rfl rfl rfl (k := 0) rfl rfl rfl) ?_; clear hs; intro w hs; dsimp only [List.set] at hs
      refine e_nil ?_
      refine wp_seq ?_
      refine c_reg ?_
      refine gL hf (g_fa (off' := 1) hf F134_1 rfl rfl) (by decide) ?_; clear hf a; intro a hf
      refine gL hf (g_ld hf hs T3 rfl (k := 0) rfl rfl) (by decide) ?_; clear hf a; intro a hf
      refine gL hf (g_fa (off' := 2) hf F134_2 rfl rfl) (by decide) ?_; clear hf a; intro a hf
      refine gL hf (g_ld hf hs T3 rfl (k := 0) rfl rfl) (by decide) ?_; clear hf a; intro a hf
      refine gL hf (g_addI hf rfl rfl (by omega)) (by decide) ?_; clear hf a; intro a hf
      refine gL hf (g_fa (off' := 0) hf F47_0 rfl rfl) (by decide) ?_; clear hf a; intro a hf
      refine gL hf (g_ld hf hs T3 rfl (k := 1) rfl rfl) (by decide) ?_; clear hf a; intro a hf
      refine gL hf (g_gtr hf rfl rfl) (by decide) ?_; clear hf a; intro a hf
      refine e_nil ?_
      refine c_cond hf rfl (fun hc3 => ?_) (fun hc3 => ?_)
      · try simp only [decide_eq_true_eq, decide_eq_false_iff_not] at hc3
        have hsn : St (Base.it w0 X w0.heap.size hXl (Nat.le_refl _) ⟨J (truesTo (k.ws.getD i default) ((k.ws.getD i default).bl + ((u + 1 : Nat) : Int))), hJB _⟩) [BlkIs bb #[.int .i64 k.sh.wide, .int .i64 k.sh.high, .slice fA k.sh.flaps.length fc, .slice rA k.sh.rules.length rc, .int .i64 k.gross, .int .i64 k.pay, .int .i64 k.fine, .slice wA k.ws.length wc, .slice dA k.ws.length dc, .map (some mb)] 89 (0, 0), BlkIs bw #[.int .i64 ((i : Nat) : Int)] 3 (0, 0), Rd encW 6 wA k.ws.length k.ws] [(b1, .cells (encW (k.ws.getD i default)).toArray 47 (0, 0))] w := by rw [show (k.ws.getD i default).bl + ((u + 1 : Nat) : Int) = (k.ws.getD i default).bl + ((u : Nat) : Int) + 1 by omega, trues_succ (by omega), row_stop (t := (k.ws.getD i default).tl + ((c : Nat) : Int)) (by omega) (by omega) (fun h9 => by have := hc0 (by omega); omega) (.inr (by omega))]; exact hs.dropN 1
        refine c_exit (q_thenX (q_blkY (by decide) (q_thenX (q_thenX (q_blkY (by decide) (q_blkX (q_thenN ?_)))))))
        refine c_reg1 ?_
        refine gL hf (g_addI hf rfl rfl (by omega)) (by decide) ?_; clear hf a; intro a hf
        refine gL hf (g_mv hf rfl) (by decide) ?_; clear hf a; intro a hf
        refine e_nil1 (q_thenN ?_)
        exact ⟨u + 1, (by omega), (by omega), hf.back (by repeat (first | (with_reducible exact Ext.base) | ((with_reducible refine Ext.cons ?_ ?_); (· rfl)) | ((with_reducible refine Ext.over ?_ ?_ ?_); (· rfl); (· rfl)))) (allKeys rfl) (.cons rfl .nil), hsn⟩
      · try simp only [decide_eq_true_eq, decide_eq_false_iff_not] at hc3
        have hnext : truesTo (k.ws.getD i default) ((k.ws.getD i default).bl + ((u : Nat) : Int)) ++ rowTo (k.ws.getD i default) ((k.ws.getD i default).bl + ((u : Nat) : Int)) ((k.ws.getD i default).tl + ((c + 1 : Nat) : Int) - 1) = (truesTo (k.ws.getD i default) ((k.ws.getD i default).bl + ((u : Nat) : Int)) ++ rowTo (k.ws.getD i default) ((k.ws.getD i default).bl + ((u : Nat) : Int)) ((k.ws.getD i default).tl + ((c : Nat) : Int) - 1)) ++ [((k.ws.getD i default).bl + ((u : Nat) : Int), (k.ws.getD i default).tl + ((c : Nat) : Int))] := by rw [show (k.ws.getD i default).tl + ((c + 1 : Nat) : Int) - 1 = (k.ws.getD i default).tl + ((c : Nat) : Int) by omega, rowTo_succ (by omega), ← List.append_assoc]
        have hpre : (truesTo (k.ws.getD i default) ((k.ws.getD i default).bl + ((u : Nat) : Int)) ++ rowTo (k.ws.getD i default) ((k.ws.getD i default).bl + ((u : Nat) : Int)) ((k.ws.getD i default).tl + ((c : Nat) : Int) - 1)) ++ [((k.ws.getD i default).bl + ((u : Nat) : Int), (k.ws.getD i default).tl + ((c : Nat) : Int))] <+: trues (k.ws.getD i default) := by rw [← hnext, show (k.ws.getD i default).tl + ((c + 1 : Nat) : Int) - 1 = (k.ws.getD i default).tl + ((c : Nat) : Int) by omega]; exact all_prefix (by omega) (by omega) (by omega) (by omega) (by omega)
        refine c_skip (q_thenN ?_)
        refine (wpIn_wide (n := 0)).1 (i_reg (r := none) (m := 0) ?_)
        refine gI hf (g_mv hf rfl) (by intro c; simp) (by decide) ?_; clear hf a; intro a hf
        refine gI hf (g_ldW hf hs T134 rfl (k := 0) rfl rfl) (by intro c; simp) (by decide) ?_; clear hf a; intro a hf
        refine yieldI (m := 0) hf (hY (truesTo (k.ws.getD i default) ((k.ws.getD i default).bl + ((u : Nat) : Int)) ++ rowTo (k.ws.getD i default) ((k.ws.getD i default).bl + ((u : Nat) : Int)) ((k.ws.getD i default).tl + ((c : Nat) : Int) - 1)) ((k.ws.getD i default).bl + ((u : Nat) : Int), (k.ws.getD i default).tl + ((c : Nat) : Int)) w hs.kept hs.later hpre) rfl rfl (by decide) (fun e w' h => by rcases h.2 with h | h <;> exact ⟨_, h.1⟩) ?_
        clear hf a; intro y w1 a hR1 hf
        obtain ⟨r, rfl, hl1, ht1, hf1⟩ : ∃ r, y = .bool r ∧ Later X w w1 ∧ (r = true → J (truesTo (k.ws.getD i default) ((k.ws.getD i default).bl + ((u : Nat) : Int)) ++ rowTo (k.ws.getD i default) ((k.ws.getD i default).bl + ((u : Nat) : Int)) ((k.ws.getD i default).tl + ((c + 1 : Nat) : Int) - 1)) w1) ∧ (r = false → Jx ((truesTo (k.ws.getD i default) ((k.ws.getD i default).bl + ((u : Nat) : Int)) ++ rowTo (k.ws.getD i default) ((k.ws.getD i default).bl + ((u : Nat) : Int)) ((k.ws.getD i default).tl + ((c : Nat) : Int) - 1)) ++ [((k.ws.getD i default).bl + ((u : Nat) : Int), (k.ws.getD i default).tl + ((c : Nat) : Int))]) w1) := by
          rcases hR1.2 with ⟨e1, hj⟩ | ⟨e1, hj⟩
          · cases e1; exact ⟨true, rfl, hR1.1, fun _ => (by rw [hnext]; exact hj), fun h => (by cases h)⟩
          · cases e1; exact ⟨false, rfl, hR1.1, fun h => (by cases h), fun _ => hj⟩
        refine gI hf (g_not hf rfl) (by intro c; simp) (by decide) ?_; clear hf a; intro a hf
        refine i_nil ((wpIn_wide (n := 0)).2 ?_)
        refine c_cond hf rfl (fun hc4 => ?_) (fun hc4 => ?_)
        · skip
          have hr : r = false := by simpa using hc4
          refine c_ret (q_blkR (q_thenR (q_thenR (q_blkR (q_blkR (q_thenR (q_thenR (q_blkR (q_scopeR ?_)))))))))
          refine e_ret0 hf rfl ?_
          exact ⟨⟨_, rfl⟩, hs.later.trans hl1, .inr ⟨_, by simp, hpre, hf1 hr⟩⟩
        · skip
          have hr : r = true := by simpa using hc4
          have hsn : St (Base.it w0 X w0.heap.size hXl (Nat.le_refl _) ⟨J (truesTo (k.ws.getD i default) ((k.ws.getD i default).bl + ((u : Nat) : Int)) ++ rowTo (k.ws.getD i default) ((k.ws.getD i default).bl + ((u : Nat) : Int)) ((k.ws.getD i default).tl + ((c + 1 : Nat) : Int) - 1)), hJB _⟩) _ [(b1, .cells (encW (k.ws.getD i default)).toArray 47 (0, 0))] w1 := (hs.dropN 1).yielded (K' := ⟨J (truesTo (k.ws.getD i default) ((k.ws.getD i default).bl + ((u : Nat) : Int)) ++ rowTo (k.ws.getD i default) ((k.ws.getD i default).bl + ((u : Nat) : Int)) ((k.ws.getD i default).tl + ((c + 1 : Nat) : Int) - 1)), hJB _⟩) hl1 (ht1 hr)
          refine c_skip (q_blkN (q_thenN ?_))
          refine c_reg1 ?_
          refine gL hf (g_addI hf rfl rfl (by omega)) (by decide) ?_; clear hf a; intro a hf
          refine gL hf (g_mv hf rfl) (by decide) ?_; clear hf a; intro a hf
          refine e_nil1 (q_thenN ?_)
          exact ⟨c + 1, ⟨by omega, fun _ => by omega⟩, (by omega), hf.back (by repeat (first | (with_reducible exact Ext.base) | ((with_reducible refine Ext.cons ?_ ?_); (· rfl)) | ((with_reducible refine Ext.over ?_ ?_ ?_); (· rfl); (· rfl)))) (allKeys rfl) (.cons rfl .nil), hsn⟩
    · try simp only [decide_eq_true_eq, decide_eq_false_iff_not] at hc2
      have hsn : St (Base.it w0 X w0.heap.size hXl (Nat.le_refl _) ⟨J (truesTo (k.ws.getD i default) ((k.ws.getD i default).bl + ((u + 1 : Nat) : Int))), hJB _⟩) [BlkIs bb #[.int .i64 k.sh.wide, .int .i64 k.sh.high, .slice fA k.sh.flaps.length fc, .slice rA k.sh.rules.length rc, .int .i64 k.gross, .int .i64 k.pay, .int .i64 k.fine, .slice wA k.ws.length wc, .slice dA k.ws.length dc, .map (some mb)] 89 (0, 0), BlkIs bw #[.int .i64 ((i : Nat) : Int)] 3 (0, 0), Rd encW 6 wA k.ws.length k.ws] [(b1, .cells (encW (k.ws.getD i default)).toArray 47 (0, 0))] w := by rw [show (k.ws.getD i default).bl + ((u + 1 : Nat) : Int) = (k.ws.getD i default).bl + ((u : Nat) : Int) + 1 by omega, trues_succ (by omega), row_stop (t := (k.ws.getD i default).tl + ((c : Nat) : Int)) (by omega) (by omega) (fun h9 => by have := hc0 (by omega); omega) (.inl (by omega))]; exact hs
      refine c_exit (q_thenX (q_thenX (q_blkX (q_blkN (q_thenN ?_)))))
      refine c_reg1 ?_
      refine gL hf (g_addI hf rfl rfl (by omega)) (by decide) ?_; clear hf a; intro a hf
      refine gL hf (g_mv hf rfl) (by decide) ?_; clear hf a; intro a hf
      refine e_nil1 (q_thenN ?_)
      exact ⟨u + 1, (by omega), (by omega), hf.back (by repeat (first | (with_reducible exact Ext.base) | ((with_reducible refine Ext.cons ?_ ?_); (· rfl)) | ((with_reducible refine Ext.over ?_ ?_ ?_); (· rfl); (· rfl)))) (allKeys rfl) (.cons rfl .nil), hsn⟩
  · try simp only [decide_eq_true_eq, decide_eq_false_iff_not] at hc1
    have hue : ((u : Nat) : Int) = (k.ws.getD i default).bh - (k.ws.getD i default).bl + 1 := by omega
    have hfin : truesTo (k.ws.getD i default) ((k.ws.getD i default).bl + ((u : Nat) : Int)) = trues (k.ws.getD i default) := by rw [trues_eq, hue]; congr 1; omega
    refine c_exit (q_thenX (q_thenX (q_blkX (q_scopeN ?_))))
    refine e_end0 hf rfl ?_
    exact ⟨⟨_, rfl⟩, hs.later, .inl (by rw [← hfin]; exact hs.kept)⟩

theorem c_truths (k : Bk) (fA : Option Addr) (fc : Nat) (rA : Option Addr) (rc : Nat) (wA : Option Addr) (wc : Nat) (dA : Option Addr) (dc mb : Nat) (i : Nat) (w0 : World) :
    Calls Tryd.prog 110 #[.agg #[.int .i64 k.sh.wide, .int .i64 k.sh.high, .slice fA k.sh.flaps.length fc, .slice rA k.sh.rules.length rc, .int .i64 k.gross, .int .i64 k.pay, .int .i64 k.fine, .slice wA k.ws.length wc, .slice dA k.ws.length dc, .map (some mb)], .int .i64 ((i : Nat) : Int)] w0 (RetX w0 fun v w0' => ∃ b2 b3, v = .func (.func 128) #[] #[.pointer (some ⟨b2, 0, none⟩), .pointer (some ⟨b3, 0, none⟩)] ∧ Fresh w0 w0' (BlkIs b2 #[.int .i64 k.sh.wide, .int .i64 k.sh.high, .slice fA k.sh.flaps.length fc, .slice rA k.sh.rules.length rc, .int .i64 k.gross, .int .i64 k.pay, .int .i64 k.fine, .slice wA k.ws.length wc, .slice dA k.ws.length dc, .map (some mb)] 89 (0, 0)) ∧ Fresh w0 w0' (BlkIs b3 #[.int .i64 ((i : Nat) : Int)] 3 (0, 0))) := by
  refine c_enter (n := 6) Tryd.func110 rfl rfl (Nat.le_of_ble_eq_true rfl) ?_; intro a hf; simp only [zipR] at hf
  have hs := St.start w0 [] (by simp)
  refine c_reg ?_
  refine vL hf (v_boxA hf hs rfl) (by decide) ?_; clear hs hf a; rintro _ w ⟨b1, rfl, hs⟩ a hf
  refine vL hf (v_box hf hs rfl rfl) (by decide) ?_; clear hs hf a; rintro _ w ⟨b2, rfl, hs⟩ a hf
  refine gL hf (g_as hf rfl) (by decide) ?_; clear hf a; intro a hf
  refine e_nil ?_
  refine c_reg ?_
  refine gL hf (g_fn hf rfl rfl) (by decide) ?_; clear hf a; intro a hf
  refine gL hf (g_as hf rfl) (by decide) ?_; clear hf a; intro a hf
  refine e_nil ?_
  refine c_ret ?_
  refine e_ret1 hf rfl rfl ?_
  exact ⟨_, rfl, hs.below, _, _, rfl, fresh_own hs (.tail _ (.head _)), fresh_own hs (.head _)⟩

end Go.Proofs.YtjjcopeedcdokaaDoor

set_option linter.unusedVariables false
set_option linter.unusedSimpArgs false
namespace Go.Proofs.YtjjcopeedcdokaaDoor
open Go.RowKit
theorem Stable.seq {Xs X : List Nat} {w W : World} {D : World → Prop} (h : Stable Xs w D) (h1 : Later Xs w W) (h2 : ∀ i ∈ X, i < w.heap.size → i ∈ Xs) : Stable X W D := fun W' hl =>
  h W' ⟨Nat.le_trans h1.1 hl.1, fun i hi hn => (hl.2 i (by have := h1.1; omega) (fun hx => hn (h2 i hx hi))).trans (h1.2 i hi hn)⟩
theorem seq_truths (k : Bk) (fA : Option Addr) (fc : Nat) (rA : Option Addr) (rc : Nat) (wA : Option Addr) (wc : Nat) (dA : Option Addr) (dc mb : Nat) (i : Nat) (hi : i < k.ws.length) (hx : WkrV k.sh (k.ws.getD i default)) (bb bw : Nat) {Xs : List Nat} {w : World}
    (hB : Stable Xs w (BlkIs bb #[.int .i64 k.sh.wide, .int .i64 k.sh.high, .slice fA k.sh.flaps.length fc, .slice rA k.sh.rules.length rc, .int .i64 k.gross, .int .i64 k.pay, .int .i64 k.fine, .slice wA k.ws.length wc, .slice dA k.ws.length dc, .map (some mb)] 89 (0, 0)))
    (hW : Stable Xs w (BlkIs bw #[.int .i64 ((i : Nat) : Int)] 3 (0, 0))) (hR : Stable Xs w (Rd encW 6 wA k.ws.length k.ws)) :
    SeqV Tryd.prog 128 [.pointer (some ⟨bb, 0, none⟩), .pointer (some ⟨bw, 0, none⟩)] (fun c => .agg (cameV i c).toArray) (trues (k.ws.getD i default)) Xs w :=
  fun l X J Jx W h1 h2 h3 h4 h5 h6 => c_truths1 k fA fc rA rc wA wc dA dc mb i hi hx bb bw l X J Jx W h3 h4 h5 h6 (hB.seq h1 h2) (hW.seq h1 h2) (hR.seq h1 h2)
/-- The table of what is told of a truth. -/
abbrev toldA : Array Value := #[.func (.func 159) #[] #[], .func (.func 160) #[] #[], .func (.func 161) #[] #[]]
abbrev toldF (what : Nat) : Nat := 159 + what
theorem told_get {what : Nat} (h : what < 3) : toldA[what]? = some (.func (.func (toldF what)) #[] #[]) := by
  rcases (show what = 0 ∨ what = 1 ∨ what = 2 by omega) with rfl | rfl | rfl <;> rfl
theorem hp_rng {d n : Int} (h : 0 ≤ n ∧ n ≤ 600) : (0 ≤ (hp d n).1 ∧ (hp d n).1 ≤ 600) ∧ 0 ≤ (hp d n).2 ∧ (hp d n).2 ≤ 600 := by
  unfold hp
  split
  · exact ⟨h, h⟩
  · split
    · exact ⟨⟨by simp, by simp⟩, h⟩
    · exact ⟨⟨by simp, by simp⟩, by simp, by simp⟩
/-- What is paid, part by part, fits. -/
theorem pay_rng {k : Bk} (hv : BkV k) {p m : Int} (hp : 0 ≤ p ∧ p ≤ 600) (hm : 0 ≤ m ∧ m ≤ 600) : (0 ≤ p.tdiv k.gross ∧ p.tdiv k.gross ≤ 600) ∧ (0 ≤ p.tdiv k.gross * k.pay ∧ p.tdiv k.gross * k.pay ≤ 600 * 999) ∧ -(600 * 99) ≤ -m * k.fine ∧ -m * k.fine ≤ 0 := by
  have h1 := tdiv_rng hv.g1 hp.1
  have h2 := mul_rng (a := p.tdiv k.gross) (A := 600) (b := k.pay) (B := 999) ⟨h1.1, by omega⟩ ⟨hv.p1, hv.p2⟩
  have h3 := mul_rng (a := m) (A := 600) (b := k.fine) (B := 99) hm ⟨hv.f1, hv.f2⟩
  refine ⟨⟨h1.1, by omega⟩, h2, ?_, ?_⟩ <;> rw [Int.neg_mul] <;> omega
theorem rd_two {x y : Int} {b : Nat} {e : TypeId} {fz : Nat × Nat} {w : World} (hb : w.heap[b]? = some (.cells #[.int .i64 x, .int .i64 y] e fz)) : Rd encI 1 (some ⟨b, 0, none⟩) 2 [x, y] w :=
  rd_of_block hb rfl (by decide) fun i u hi j v hj => by
    match i, hi with
    | 0, hi => cases hi; match j, hj with | 0, hj => cases hj; rfl
    | 1, hi => cases hi; match j, hj with | 0, hj => cases hj; rfl
theorem sum2 (a b : Int) : sumZ [a, b] = a + b := by simp [sumZ]
end Go.Proofs.YtjjcopeedcdokaaDoor

