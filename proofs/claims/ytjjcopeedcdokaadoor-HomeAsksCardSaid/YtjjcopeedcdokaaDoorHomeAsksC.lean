/- Part 3 of the proof of HomeAsks: laws of the engine, plain facts and contracts of the functions that the law reaches. Conditions: none beyond those of each theorem. -/
import Derived.Test.YtjjcopeedcdokaaDoorHomeAsksB
set_option linter.unusedVariables false
set_option linter.unusedSimpArgs false
namespace Go.Proofs.YtjjcopeedcdokaaDoor
open Go.RowKit
theorem c_Check (b : Sheet) (fA : Option Addr) (fc : Nat) (rA : Option Addr) (rc : Nat)  (w0 : World) (h : ShIn b fA fc rA rc w0) :
    Calls Tryd.prog 61 #[.agg #[.int .i64 b.wide, .int .i64 b.high, .slice fA b.flaps.length fc, .slice rA b.rules.length rc]] w0 (Ret w0 (.int .i64 (if checkB b then 0 else 40))) := by
  refine c_enter (n := 112) Tryd.func61 rfl rfl (Nat.le_of_ble_eq_true rfl) ?_; intro a hf; simp only [zipR] at hf
  have hs := St.start w0 [Rd encF 5 fA b.flaps.length b.flaps, Rd encR 2 rA b.rules.length b.rules] h.stab
  have hfm := h.F.2.1; have hrm := h.R.2.1
  refine c_reg ?_
  refine vL hf (v_boxA hf hs rfl) (by decide) ?_; clear hs hf a; rintro _ w ⟨b1, rfl, hs⟩ a hf
  refine gL hf (g_as hf rfl) (by decide) ?_; clear hf a; intro a hf
  refine e_nil ?_
  refine c_reg ?_
  refine gL hf (g_fa (off' := 0) hf F25_0 rfl rfl) (by decide) ?_; clear hf a; intro a hf
  refine gL hf (g_ld hf hs T3 rfl (k := 0) rfl rfl) (by decide) ?_; clear hf a; intro a hf
  refine callL hf hs (c_within _ _ _ _) rfl rfl rfl E99 (by decide) ?_; clear hs hf a; intro w a hs hf
  refine gL hf (g_mv hf rfl) (by decide) ?_; clear hf a; intro a hf
  refine ggL hf rfl rfl (gyes_t _) (fun hg => g_fa (off' := 1) hf F25_1 rfl rfl) (by decide) ?_; clear hf a; intro a hf
  refine ggL hf rfl rfl (gyes_t _) (fun hg => g_ld hf hs T3 (ev_gv rfl hg) (k := 0) rfl rfl) (by decide) ?_; clear hf a; intro a hf
  refine callG hf hs rfl rfl (gyes_t _) (fun hg => ⟨_, _, _, _, c_within _ _ _ _, rfl, evs_cons (ev_gv rfl hg) (evs_cons rfl (evs_cons rfl evs_nil)), rfl⟩) E99 (by decide) ?_; clear hs hf a; intro w a hs hf
  refine gL hf (g_and hf rfl rfl) (by decide) ?_; clear hf a; intro a hf
  refine gL hf (g_mv hf rfl) (by decide) ?_; clear hf a; intro a hf
  refine ggL hf rfl rfl (gyes_t _) (fun hg => g_fa (off' := 2) hf F25_2 rfl rfl) (by decide) ?_; clear hf a; intro a hf
  refine ggL hf rfl rfl (gyes_t _) (fun hg => g_ld hf hs T22 (ev_gv rfl hg) (k := 0) rfl rfl) (by decide) ?_; clear hf a; intro a hf
  refine ggL hf rfl rfl (gyes_t _) (fun hg => g_len hf SL22 (ev_gv rfl hg)) (by decide) ?_; clear hf a; intro a hf
  refine callG hf hs rfl rfl (gyes_t _) (fun hg => ⟨_, _, _, _, c_within _ _ _ _, rfl, evs_cons (ev_gv rfl hg) (evs_cons rfl (evs_cons rfl evs_nil)), rfl⟩) E99 (by decide) ?_; clear hs hf a; intro w a hs hf
  refine gL hf (g_and hf rfl rfl) (by decide) ?_; clear hf a; intro a hf
  refine gL hf (g_mv hf rfl) (by decide) ?_; clear hf a; intro a hf
  refine ggL hf rfl rfl (gyes_t _) (fun hg => g_fa (off' := 3) hf F25_3 rfl rfl) (by decide) ?_; clear hf a; intro a hf
  refine ggL hf rfl rfl (gyes_t _) (fun hg => g_ld hf hs T23 (ev_gv rfl hg) (k := 0) rfl rfl) (by decide) ?_; clear hf a; intro a hf
  refine ggL hf rfl rfl (gyes_t _) (fun hg => g_len hf SL23 (ev_gv rfl hg)) (by decide) ?_; clear hf a; intro a hf
  refine ggL hf rfl rfl (gyes_t _) (fun hg => g_leq hf (ev_gv rfl hg) rfl) (by decide) ?_; clear hf a; intro a hf
  refine gL hf (g_and hf rfl rfl) (by decide) ?_; clear hf a; intro a hf
  refine gL hf (g_as hf rfl) (by decide) ?_; clear hf a; intro a hf
  refine e_nil ?_
  refine wp_seq ?_
  refine c_reg ?_
  refine gL hf (g_fa (off' := 2) hf F25_2 rfl rfl) (by decide) ?_; clear hf a; intro a hf
  refine gL hf (g_ld hf hs T22 rfl (k := 0) rfl rfl) (by decide) ?_; clear hf a; intro a hf
  refine gL hf (g_len hf SL22 rfl) (by decide) ?_; clear hf a; intro a hf
  refine gL hf (g_mv hf rfl) (by decide) ?_; clear hf a; intro a hf
  refine e_nil ?_
  refine c_block ?_
  have e0 : (fitsB b.wide 1 99 && fitsB b.high 1 99 && fitsB (b.flaps.length : Int) 1 7 && decide ((b.rules.length : Int) ≤ 10)) = okF b 0 := by simp [okF, baseOK]
  rw [e0] at hf
  refine c_loop hf hs (List.range' 3 1 ++ List.range' 5 3 ++ List.range' 33 33) (σ := Nat) (fun k => [(3, .bool (okF b k)), (33, .int .i64 (k : Nat))]) (fun k => _) (fun k => k ≤ b.flaps.length) (fun k => b.flaps.length - k) 0 (by omega) (.cons rfl (.cons rfl .nil)) rfl ?_
  intro k a w hJ hf hs
  refine c_reg ?_
  refine gL hf (g_lss hf rfl rfl) (by decide) ?_; clear hf a; intro a hf
  refine e_nil ?_
  refine c_condS hf rfl (fun hc1 => ?_) (fun hc1 => ?_)
  · try simp only [decide_eq_true_eq, decide_eq_false_iff_not] at hc1
    refine c_skip (q_thenN ?_)
    refine c_blockS ?_
    refine c_reg ?_
    (first | (refine gL hf (g_ixE hf hs (.head _) SL22 rfl rfl (by omega)) (by decide) ?_) | (refine gL hf (g_ixD hf hs (.head _) SL22 rfl rfl (by omega)) (by decide) ?_)); clear hf a; intro a hf
    refine gL hf (g_ldEW hf hs (.head _) T117 rfl rfl (by omega)) (by decide) ?_; clear hf a; intro a hf
    refine vL hf (v_alloc hs T117 rfl) (by decide) ?_; clear hs hf a; rintro _ w ⟨b2, rfl, hs⟩ a hf
    refine uL (u_stW hf hs T117 rfl rfl rfl (k := 0) rfl rfl rfl) ?_; clear hs; intro w hs; dsimp only [List.set] at hs
    refine e_nil ?_
    refine c_draw _ 6 Mx rfl hs (fun _ h => h) ?_; intro w hs hS
    refine gA hf hS (i := 0) rfl (by kernel_rfl) (fun w hs => g_fa (off' := 0) hf F25_0 rfl rfl) (by decide) ?_; clear hf a; intro a hf
    refine gA hf hS (i := 1) rfl (by kernel_rfl) (fun w hs => g_ld hf hs T3 rfl (k := 1) rfl rfl) (by decide) ?_; clear hf a; intro a hf
    refine gA hf hS (i := 2) rfl (by kernel_rfl) (fun w hs => g_fa (off' := 1) hf F25_1 rfl rfl) (by decide) ?_; clear hf a; intro a hf
    refine gA hf hS (i := 3) rfl (by kernel_rfl) (fun w hs => g_ld hf hs T3 rfl (k := 1) rfl rfl) (by decide) ?_; clear hf a; intro a hf
    refine gA hf hS (i := 4) rfl (by kernel_rfl) (fun w hs => g_as hf rfl) (by decide) ?_; clear hf a; intro a hf
    refine gA hf hS (i := 5) rfl (by kernel_rfl) (fun w hs => g_as hf rfl) (by decide) ?_; clear hf a; intro a hf
    refine e_done (by kernel_rfl) ?_
    refine wp_seq ?_
    refine c_reg ?_
    refine gL hf (g_fa (off' := 0) hf F117_0 rfl rfl) (by decide) ?_; clear hf a; intro a hf
    refine gL hf (g_ld hf hs T3 rfl (k := 0) rfl rfl) (by decide) ?_; clear hf a; intro a hf
    refine gL hf (g_geq hf rfl rfl) (by decide) ?_; clear hf a; intro a hf
    refine e_nil ?_
    refine c_cond hf rfl (fun hc2 => ?_) (fun hc2 => ?_)
    · try simp only [decide_eq_true_eq, decide_eq_false_iff_not] at hc2
      have e1 : okF b (k + 1) = (okF b k && fitsB (b.flaps.getD k default).side 0 3 && spanB (b.flaps.getD k default).rl (b.flaps.getD k default).rh 1 b.high && spanB (b.flaps.getD k default).al (b.flaps.getD k default).ah 0 (b.wide - 1)) := by rw [okF_succ (by omega), flapOK, if_neg (by omega)]; simp only [Bool.and_assoc]
      refine c_reg1 ?_
      refine gL hf (g_mv hf rfl) (by decide) ?_; clear hf a; intro a hf
      refine gL hf (g_mv hf rfl) (by decide) ?_; clear hf a; intro a hf
      refine gL hf (g_as hf rfl) (by decide) ?_; clear hf a; intro a hf
      refine gL hf (g_as hf rfl) (by decide) ?_; clear hf a; intro a hf
      refine e_nil1 (q_thenN ?_)
      refine c_reg1 ?_
      refine gL hf (g_mv hf rfl) (by decide) ?_; clear hf a; intro a hf
      refine gL hf (g_mv hf rfl) (by decide) ?_; clear hf a; intro a hf
      refine ggL hf rfl rfl (gyes_t _) (fun hg => g_fa (off' := 0) hf F117_0 rfl rfl) (by decide) ?_; clear hf a; intro a hf
      refine ggL hf rfl rfl (gyes_t _) (fun hg => g_ld hf hs T3 (ev_gv rfl hg) (k := 0) rfl rfl) (by decide) ?_; clear hf a; intro a hf
      refine callG hf hs rfl rfl (gyes_t _) (fun hg => ⟨_, _, _, _, c_within _ _ _ _, rfl, evs_cons (ev_gv rfl hg) (evs_cons rfl (evs_cons rfl evs_nil)), rfl⟩) E99 (by decide) ?_; clear hs hf a; intro w a hs hf
      refine gL hf (g_and hf rfl rfl) (by decide) ?_; clear hf a; intro a hf
      refine gL hf (g_mv hf rfl) (by decide) ?_; clear hf a; intro a hf
      refine ggL hf rfl rfl (gyes_t _) (fun hg => g_fa (off' := 1) hf F117_1 rfl rfl) (by decide) ?_; clear hf a; intro a hf
      refine ggL hf rfl rfl (gyes_t _) (fun hg => g_ldP hf hs T40 (ev_gv rfl hg) (k := 0) rfl rfl) (by decide) ?_; clear hf a; intro a hf
      refine ggL hf rfl rfl (gyes_t _) (fun hg => g_mv hf rfl) (by decide) ?_; clear hf a; intro a hf
      refine callG hf hs rfl rfl (gyes_t _) (fun hg => ⟨_, _, _, _, c_isSpan _ _ _ _ _, rfl, evs_cons (ev_gv rfl hg) (evs_cons rfl (evs_cons (ev_gv rfl hg) evs_nil)), rfl⟩) E100 (by decide) ?_; clear hs hf a; intro w a hs hf
      refine gL hf (g_and hf rfl rfl) (by decide) ?_; clear hf a; intro a hf
      refine gL hf (g_mv hf rfl) (by decide) ?_; clear hf a; intro a hf
      refine ggL hf rfl rfl (gyes_t _) (fun hg => g_fa (off' := 3) hf F117_2 rfl rfl) (by decide) ?_; clear hf a; intro a hf
      refine ggL hf rfl rfl (gyes_t _) (fun hg => g_ldP hf hs T40 (ev_gv rfl hg) (k := 0) rfl rfl) (by decide) ?_; clear hf a; intro a hf
      refine ggL hf rfl rfl (gyes_t _) (fun hg => g_mv hf rfl) (by decide) ?_; clear hf a; intro a hf
      refine ggL hf rfl rfl (gyes_t _) (fun hg => g_subI hf (ev_gv rfl hg) rfl (by have h9 := okF_base (and_l (and_l hg)); omega)) (by decide) ?_; clear hf a; intro a hf
      refine callG hf hs rfl rfl (gyes_t _) (fun hg => ⟨_, _, _, _, c_isSpan _ _ _ _ _, rfl, evs_cons (ev_gv rfl hg) (evs_cons rfl (evs_cons (ev_gv rfl hg) evs_nil)), rfl⟩) E100 (by decide) ?_; clear hs hf a; intro w a hs hf
      refine gL hf (g_and hf rfl rfl) (by decide) ?_; clear hf a; intro a hf
      refine gL hf (g_as hf rfl) (by decide) ?_; clear hf a; intro a hf
      refine e_nil1 (q_blkN (q_thenN ?_))
      refine c_reg1 ?_
      refine gL hf (g_addI hf rfl rfl (by omega)) (by decide) ?_; clear hf a; intro a hf
      refine gL hf (g_mv hf rfl) (by decide) ?_; clear hf a; intro a hf
      refine e_nil1 (q_thenN ?_)
      rw [← e1] at hf
      exact ⟨k + 1, (by omega), (by omega), hf.back (by repeat (first | (with_reducible exact Ext.base) | ((with_reducible refine Ext.cons ?_ ?_); (· rfl)) | ((with_reducible refine Ext.over ?_ ?_ ?_); (· rfl); (· rfl)))) (allKeys rfl) (.cons rfl (.cons rfl .nil)), hs.dropN 1⟩
    · try simp only [decide_eq_true_eq, decide_eq_false_iff_not] at hc2
      have e1 : okF b (k + 1) = (okF b k && fitsB (b.flaps.getD k default).side 0 3 && spanB (b.flaps.getD k default).rl (b.flaps.getD k default).rh 1 b.wide && spanB (b.flaps.getD k default).al (b.flaps.getD k default).ah 0 (b.high - 1)) := by rw [okF_succ (by omega), flapOK, if_pos (by omega)]; simp only [Bool.and_assoc]
      refine c_skip (q_thenN ?_)
      refine c_reg1 ?_
      refine gL hf (g_mv hf rfl) (by decide) ?_; clear hf a; intro a hf
      refine gL hf (g_mv hf rfl) (by decide) ?_; clear hf a; intro a hf
      refine ggL hf rfl rfl (gyes_t _) (fun hg => g_fa (off' := 0) hf F117_0 rfl rfl) (by decide) ?_; clear hf a; intro a hf
      refine ggL hf rfl rfl (gyes_t _) (fun hg => g_ld hf hs T3 (ev_gv rfl hg) (k := 0) rfl rfl) (by decide) ?_; clear hf a; intro a hf
      refine callG hf hs rfl rfl (gyes_t _) (fun hg => ⟨_, _, _, _, c_within _ _ _ _, rfl, evs_cons (ev_gv rfl hg) (evs_cons rfl (evs_cons rfl evs_nil)), rfl⟩) E99 (by decide) ?_; clear hs hf a; intro w a hs hf
      refine gL hf (g_and hf rfl rfl) (by decide) ?_; clear hf a; intro a hf
      refine gL hf (g_mv hf rfl) (by decide) ?_; clear hf a; intro a hf
      refine ggL hf rfl rfl (gyes_t _) (fun hg => g_fa (off' := 1) hf F117_1 rfl rfl) (by decide) ?_; clear hf a; intro a hf
      refine ggL hf rfl rfl (gyes_t _) (fun hg => g_ldP hf hs T40 (ev_gv rfl hg) (k := 0) rfl rfl) (by decide) ?_; clear hf a; intro a hf
      refine ggL hf rfl rfl (gyes_t _) (fun hg => g_mv hf rfl) (by decide) ?_; clear hf a; intro a hf
      refine callG hf hs rfl rfl (gyes_t _) (fun hg => ⟨_, _, _, _, c_isSpan _ _ _ _ _, rfl, evs_cons (ev_gv rfl hg) (evs_cons rfl (evs_cons (ev_gv rfl hg) evs_nil)), rfl⟩) E100 (by decide) ?_; clear hs hf a; intro w a hs hf
      refine gL hf (g_and hf rfl rfl) (by decide) ?_; clear hf a; intro a hf
      refine gL hf (g_mv hf rfl) (by decide) ?_; clear hf a; intro a hf
      refine ggL hf rfl rfl (gyes_t _) (fun hg => g_fa (off' := 3) hf F117_2 rfl rfl) (by decide) ?_; clear hf a; intro a hf
      refine ggL hf rfl rfl (gyes_t _) (fun hg => g_ldP hf hs T40 (ev_gv rfl hg) (k := 0) rfl rfl) (by decide) ?_; clear hf a; intro a hf
      refine ggL hf rfl rfl (gyes_t _) (fun hg => g_mv hf rfl) (by decide) ?_; clear hf a; intro a hf
      refine ggL hf rfl rfl (gyes_t _) (fun hg => g_subI hf (ev_gv rfl hg) rfl (by have h9 := okF_base (and_l (and_l hg)); omega)) (by decide) ?_; clear hf a; intro a hf
      refine callG hf hs rfl rfl (gyes_t _) (fun hg => ⟨_, _, _, _, c_isSpan _ _ _ _ _, rfl, evs_cons (ev_gv rfl hg) (evs_cons rfl (evs_cons (ev_gv rfl hg) evs_nil)), rfl⟩) E100 (by decide) ?_; clear hs hf a; intro w a hs hf
      refine gL hf (g_and hf rfl rfl) (by decide) ?_; clear hf a; intro a hf
      refine gL hf (g_as hf rfl) (by decide) ?_; clear hf a; intro a hf
      refine e_nil1 (q_blkN (q_thenN ?_))
      refine c_reg1 ?_
      refine gL hf (g_addI hf rfl rfl (by omega)) (by decide) ?_; clear hf a; intro a hf
      refine gL hf (g_mv hf rfl) (by decide) ?_; clear hf a; intro a hf
      refine e_nil1 (q_thenN ?_)
      rw [← e1] at hf
      exact ⟨k + 1, (by omega), (by omega), hf.back (by repeat (first | (with_reducible exact Ext.base) | ((with_reducible refine Ext.cons ?_ ?_); (· rfl)) | ((with_reducible refine Ext.over ?_ ?_ ?_); (· rfl); (· rfl)))) (allKeys rfl) (.cons rfl (.cons rfl .nil)), hs.dropN 1⟩
  · try simp only [decide_eq_true_eq, decide_eq_false_iff_not] at hc1
    refine c_exit (q_thenX (q_thenX (q_blkX (q_thenN ?_))))
    refine wp_seq ?_
    refine c_reg ?_
    refine gL hf (g_fa (off' := 3) hf F25_3 rfl rfl) (by decide) ?_; clear hf a; intro a hf
    refine gL hf (g_ld hf hs T23 rfl (k := 0) rfl rfl) (by decide) ?_; clear hf a; intro a hf
    refine gL hf (g_len hf SL23 rfl) (by decide) ?_; clear hf a; intro a hf
    refine gL hf (g_mv hf rfl) (by decide) ?_; clear hf a; intro a hf
    refine e_nil ?_
    refine c_block ?_
    have e2 : okF b k = okF b b.flaps.length := by rw [show k = b.flaps.length by omega]
    rw [e2, show okF b b.flaps.length = okR b 0 by simp [okR]] at hf
    refine c_loop hf hs (List.range' 3 1 ++ List.range' 8 2 ++ List.range' 69 41) (σ := Nat) (fun i => [(3, .bool (okR b i)), (69, .int .i64 (i : Nat))]) (fun i => _) (fun i => i ≤ b.rules.length) (fun i => b.rules.length - i) 0 (by omega) (.cons rfl (.cons rfl .nil)) rfl ?_
    intro i a w hJ hf hs
    refine c_reg ?_
    refine gL hf (g_lss hf rfl rfl) (by decide) ?_; clear hf a; intro a hf
    refine e_nil ?_
    refine c_condS hf rfl (fun hc3 => ?_) (fun hc3 => ?_)
    · try simp only [decide_eq_true_eq, decide_eq_false_iff_not] at hc3
      refine c_skip (q_thenN ?_)
      refine c_blockS ?_
      refine c_reg ?_
      refine gL hf (g_mv hf rfl) (by decide) ?_; clear hf a; intro a hf
      (first | (refine gL hf (g_ixE hf hs (.tail _ (.head _)) SL23 rfl rfl (by omega)) (by decide) ?_) | (refine gL hf (g_ixD hf hs (.tail _ (.head _)) SL23 rfl rfl (by omega)) (by decide) ?_)); clear hf a; intro a hf
      refine gL hf (g_ldEW hf hs (.tail _ (.head _)) T51 rfl rfl (by omega)) (by decide) ?_; clear hf a; intro a hf
      refine vL hf (v_alloc hs T51 rfl) (by decide) ?_; clear hs hf a; rintro _ w ⟨b2, rfl, hs⟩ a hf
      refine gL hf (g_as hf rfl) (by decide) ?_; clear hf a; intro a hf
      refine uL (u_stW hf hs T51 rfl rfl rfl (k := 0) rfl rfl rfl) ?_; clear hs; intro w hs; dsimp only [List.set] at hs
      refine e_nil ?_
      refine c_draw1 _ 36 Mx rfl hs (fun _ h => h) ?_; intro w hs hS
      refine gA hf hS (i := 0) rfl (by kernel_rfl) (fun w hs => g_mv hf rfl) (by decide) ?_; clear hf a; intro a hf
      refine gA hf hS (i := 1) rfl (by kernel_rfl) (fun w hs => g_mv hf rfl) (by decide) ?_; clear hf a; intro a hf
      refine ggA hf hS (i := 2) rfl (by kernel_rfl) rfl rfl (gyes_t _) (fun hg w hs => g_fa (off' := 0) hf F51_0 rfl rfl) (by decide) ?_; clear hf a; intro a hf
      refine ggA hf hS (i := 3) rfl (by kernel_rfl) rfl rfl (gyes_t _) (fun hg w hs => g_ld hf hs T3 (ev_gv rfl hg) (k := 0) rfl rfl) (by decide) ?_; clear hf a; intro a hf
      refine ggA hf hS (i := 4) rfl (by kernel_rfl) rfl rfl (gyes_t _) (fun hg w hs => g_fa (off' := 2) hf F25_2 rfl rfl) (by decide) ?_; clear hf a; intro a hf
      refine ggA hf hS (i := 5) rfl (by kernel_rfl) rfl rfl (gyes_t _) (fun hg w hs => g_ld hf hs T22 (ev_gv rfl hg) (k := 1) rfl rfl) (by decide) ?_; clear hf a; intro a hf
      refine ggA hf hS (i := 6) rfl (by kernel_rfl) rfl rfl (gyes_t _) (fun hg w hs => g_len hf SL22 (ev_gv rfl hg)) (by decide) ?_; clear hf a; intro a hf
      refine ggA hf hS (i := 7) rfl (by kernel_rfl) rfl rfl (gyes_t _) (fun hg w hs => g_subI hf (ev_gv rfl hg) rfl (by omega)) (by decide) ?_; clear hf a; intro a hf
      refine one (i := 8) (by kernel_rfl) ?_
      refine oCallG hf hs rfl rfl rfl (gyes_t _) (fun hg => ⟨_, _, _, _, c_within _ _ _ _, rfl, evs_cons (ev_gv rfl hg) (evs_cons rfl (evs_cons (ev_gv rfl hg) evs_nil)), rfl⟩) E99 (by decide) (fun _ h => h.sub (.refl _)) ?_; clear hs hf hS a; intro w a hs hS hf
      refine gA hf hS (i := 9) rfl (by kernel_rfl) (fun w hs => g_and hf rfl rfl) (by decide) ?_; clear hf a; intro a hf
      refine gA hf hS (i := 10) rfl (by kernel_rfl) (fun w hs => g_mv hf rfl) (by decide) ?_; clear hf a; intro a hf
      refine ggA hf hS (i := 11) rfl (by kernel_rfl) rfl rfl (gyes_t _) (fun hg w hs => g_fa (off' := 1) hf F51_1 rfl rfl) (by decide) ?_; clear hf a; intro a hf
      refine ggA hf hS (i := 12) rfl (by kernel_rfl) rfl rfl (gyes_t _) (fun hg w hs => g_ld hf hs T3 (ev_gv rfl hg) (k := 0) rfl rfl) (by decide) ?_; clear hf a; intro a hf
      refine ggA hf hS (i := 13) rfl (by kernel_rfl) rfl rfl (gyes_t _) (fun hg w hs => g_fa (off' := 2) hf F25_2 rfl rfl) (by decide) ?_; clear hf a; intro a hf
      refine ggA hf hS (i := 14) rfl (by kernel_rfl) rfl rfl (gyes_t _) (fun hg w hs => g_ld hf hs T22 (ev_gv rfl hg) (k := 1) rfl rfl) (by decide) ?_; clear hf a; intro a hf
      refine ggA hf hS (i := 15) rfl (by kernel_rfl) rfl rfl (gyes_t _) (fun hg w hs => g_len hf SL22 (ev_gv rfl hg)) (by decide) ?_; clear hf a; intro a hf
      refine ggA hf hS (i := 16) rfl (by kernel_rfl) rfl rfl (gyes_t _) (fun hg w hs => g_subI hf (ev_gv rfl hg) rfl (by omega)) (by decide) ?_; clear hf a; intro a hf
      refine one (i := 17) (by kernel_rfl) ?_
      refine oCallG hf hs rfl rfl rfl (gyes_t _) (fun hg => ⟨_, _, _, _, c_within _ _ _ _, rfl, evs_cons (ev_gv rfl hg) (evs_cons rfl (evs_cons (ev_gv rfl hg) evs_nil)), rfl⟩) E99 (by decide) (fun _ h => h.sub (.refl _)) ?_; clear hs hf hS a; intro w a hs hS hf
      refine gA hf hS (i := 18) rfl (by kernel_rfl) (fun w hs => g_and hf rfl rfl) (by decide) ?_; clear hf a; intro a hf
      refine gA hf hS (i := 19) rfl (by kernel_rfl) (fun w hs => g_mv hf rfl) (by decide) ?_; clear hf a; intro a hf
      refine ggA hf hS (i := 20) rfl (by kernel_rfl) rfl rfl (gyes_t _) (fun hg w hs => g_fa (off' := 0) hf F51_0 rfl rfl) (by decide) ?_; clear hf a; intro a hf
      refine ggA hf hS (i := 21) rfl (by kernel_rfl) rfl rfl (gyes_t _) (fun hg w hs => g_ld hf hs T3 (ev_gv rfl hg) (k := 0) rfl rfl) (by decide) ?_; clear hf a; intro a hf
      refine ggA hf hS (i := 22) rfl (by kernel_rfl) rfl rfl (gyes_t _) (fun hg w hs => g_fa (off' := 1) hf F51_1 rfl rfl) (by decide) ?_; clear hf a; intro a hf
      refine ggA hf hS (i := 23) rfl (by kernel_rfl) rfl rfl (gyes_t _) (fun hg w hs => g_ld hf hs T3 (ev_gv rfl hg) (k := 0) rfl rfl) (by decide) ?_; clear hf a; intro a hf
      refine ggA hf hS (i := 24) rfl (by kernel_rfl) rfl rfl (gyes_t _) (fun hg w hs => g_neq hf (ev_gv rfl hg) (ev_gv rfl hg)) (by decide) ?_; clear hf a; intro a hf
      refine gA hf hS (i := 25) rfl (by kernel_rfl) (fun w hs => g_and hf rfl rfl) (by decide) ?_; clear hf a; intro a hf
      refine gA hf hS (i := 26) rfl (by kernel_rfl) (fun w hs => g_mv hf rfl) (by decide) ?_; clear hf a; intro a hf
      refine ggA hf hS (i := 27) rfl (by kernel_rfl) rfl rfl (gyes_t _) (fun hg w hs => g_fa (off' := 3) hf F25_3 rfl rfl) (by decide) ?_; clear hf a; intro a hf
      refine ggA hf hS (i := 28) rfl (by kernel_rfl) rfl rfl (gyes_t _) (fun hg w hs => g_ld hf hs T23 (ev_gv rfl hg) (k := 1) rfl rfl) (by decide) ?_; clear hf a; intro a hf
      refine ggA hf hS (i := 29) rfl (by kernel_rfl) rfl rfl (gyes_t _) (fun hg w hs => g_mv hf rfl) (by decide) ?_; clear hf a; intro a hf
      refine ggA hf hS (i := 30) rfl (by kernel_rfl) rfl rfl (gyes_t _) (fun hg w hs => g_slH hf SL23 (ev_gv rfl hg) (ev_gv rfl hg) (by have := h.rc_; omega)) (by decide) ?_; clear hf a; intro a hf
      refine ggA hf hS (i := 31) rfl (by kernel_rfl) rfl rfl (gyes_t _) (fun hg w hs => g_ldW hf hs T51 rfl (k := 0) rfl rfl) (by decide) ?_; clear hf a; intro a hf
      refine one (i := 32) (by kernel_rfl) ?_
      refine oCallG hf hs rfl rfl rfl (gyes_t _) (fun hg => ⟨_, _, _, _, c_ContainsS _ ((i : Nat) : Int).toNat _ (b.rules.take i) (b.rules.getD i default) _ (by simpa using (hs.rd (.tail _ (.head _))).take i (by omega)), rfl, evs_cons (ev_gv rfl hg) (evs_cons (ev_gv rfl hg) evs_nil), rfl⟩) E101 (by decide) (fun _ h => h.sub (.refl _)) ?_; clear hs hf hS a; intro w a hs hS hf
      refine ggA hf hS (i := 33) rfl (by kernel_rfl) rfl rfl (gyes_t _) (fun hg w hs => g_not hf (ev_gv rfl hg)) (by decide) ?_; clear hf a; intro a hf
      refine gA hf hS (i := 34) rfl (by kernel_rfl) (fun w hs => g_and hf rfl rfl) (by decide) ?_; clear hf a; intro a hf
      refine gA hf hS (i := 35) rfl (by kernel_rfl) (fun w hs => g_as hf rfl) (by decide) ?_; clear hf a; intro a hf
      refine e_done1 (by kernel_rfl) ?_
      refine q_blkN (q_thenN ?_)
      refine c_reg1 ?_
      refine gL hf (g_addI hf rfl rfl (by omega)) (by decide) ?_; clear hf a; intro a hf
      refine gL hf (g_mv hf rfl) (by decide) ?_; clear hf a; intro a hf
      refine e_nil1 (q_thenN ?_)
      have e4 : okR b (i + 1) = (okR b i && fitsB (b.rules.getD i default).over 0 ((b.flaps.length : Int) - 1) && fitsB (b.rules.getD i default).under 0 ((b.flaps.length : Int) - 1) && (b.rules.getD i default).over != (b.rules.getD i default).under && !(b.rules.take i).any fun x => sameR (b.rules.getD i default) x) := by rw [okR_succ]; simp only [ruleOK, Bool.and_assoc]
      rw [← e4] at hf
      exact ⟨i + 1, (by omega), (by omega), hf.back (by repeat (first | (with_reducible exact Ext.base) | ((with_reducible refine Ext.cons ?_ ?_); (· rfl)) | ((with_reducible refine Ext.over ?_ ?_ ?_); (· rfl); (· rfl)))) (allKeys rfl) (.cons rfl (.cons rfl .nil)), hs.dropN 1⟩
    · try simp only [decide_eq_true_eq, decide_eq_false_iff_not] at hc3
      rw [show i = b.rules.length by omega, show okR b b.rules.length = checkB b by simp [checkB, okR, okF, List.take_length]] at hf
      refine c_exit (q_thenX (q_thenX (q_blkX (q_thenN ?_))))
      refine wp_seq ?_
      refine c_reg ?_
      refine gL hf (g_mv hf rfl) (by decide) ?_; clear hf a; intro a hf
      refine gL hf (g_not hf rfl) (by decide) ?_; clear hf a; intro a hf
      refine e_nil ?_
      refine c_cond hf rfl (fun hc4 => ?_) (fun hc4 => ?_)
      · try simp only [decide_eq_true_eq, decide_eq_false_iff_not] at hc4
        refine c_reg ?_
        refine gL hf (g_as hf rfl) (by decide) ?_; clear hf a; intro a hf
        refine e_nil ?_
        refine c_ret (q_thenR ?_)
        refine e_ret1 hf rfl rfl ?_
        exact ⟨by rw [show checkB b = false by simpa using hc4]; rfl, hs.below⟩
      · try simp only [decide_eq_true_eq, decide_eq_false_iff_not] at hc4
        refine c_skip (q_thenN ?_)
        refine c_reg ?_
        refine gL hf (g_as hf rfl) (by decide) ?_; clear hf a; intro a hf
        refine e_nil ?_
        refine c_ret ?_
        refine e_ret1 hf rfl rfl ?_
        exact ⟨by rw [show checkB b = true by simpa using hc4]; rfl, hs.below⟩

end Go.Proofs.YtjjcopeedcdokaaDoor

set_option linter.unusedVariables false
set_option linter.unusedSimpArgs false
namespace Go.Proofs.YtjjcopeedcdokaaDoor
open Go.RowKit
theorem c_isOrder (b : Sheet) (fA : Option Addr) (fc : Nat) (rA : Option Addr) (rc : Nat) (oA : Option Addr) (oc : Nat) (l : List Int) (hv : Valid b) (w0 : World) (h : ShIn b fA fc rA rc w0) (ho : Rd encI 1 oA l.length l w0) :
    Calls Tryd.prog 95 #[.agg #[.int .i64 b.wide, .int .i64 b.high, .slice fA b.flaps.length fc, .slice rA b.rules.length rc], .slice oA l.length oc] w0 (Ret w0 (.bool (ordB b l))) := by
  refine c_enter (n := 36) Tryd.func95 rfl rfl (Nat.le_of_ble_eq_true rfl) ?_; intro a hf; simp only [zipR] at hf
  have hs := St.start w0 [Rd encF 5 fA b.flaps.length b.flaps, Rd encR 2 rA b.rules.length b.rules, Rd encI 1 oA l.length l] (stab_app h.stab ho.st1)
  have hfm := h.F.2.1; have hrm := h.R.2.1; have hlm := ho.2.1
  have hmany := hv.many
  refine c_reg ?_
  refine vL hf (v_boxA hf hs rfl) (by decide) ?_; clear hs hf a; rintro _ w ⟨b1, rfl, hs⟩ a hf
  refine gL hf (g_as hf rfl) (by decide) ?_; clear hf a; intro a hf
  refine e_nil ?_
  refine wp_seq ?_
  refine c_reg ?_
  refine gL hf (g_mv hf rfl) (by decide) ?_; clear hf a; intro a hf
  refine gL hf (g_len hf SL31 rfl) (by decide) ?_; clear hf a; intro a hf
  refine gL hf (g_fa (off' := 2) hf F25_2 rfl rfl) (by decide) ?_; clear hf a; intro a hf
  refine gL hf (g_ld hf hs T22 rfl (k := 0) rfl rfl) (by decide) ?_; clear hf a; intro a hf
  refine gL hf (g_len hf SL22 rfl) (by decide) ?_; clear hf a; intro a hf
  refine gL hf (g_neq hf rfl rfl) (by decide) ?_; clear hf a; intro a hf
  refine e_nil ?_
  refine c_cond hf rfl (fun hc1 => ?_) (fun hc1 => ?_)
  · try simp only [decide_eq_true_eq, decide_eq_false_iff_not] at hc1
    refine c_reg ?_
    refine gL hf (g_as hf rfl) (by decide) ?_; clear hf a; intro a hf
    refine e_nil ?_
    refine c_ret (q_thenR ?_)
    refine e_ret1 hf rfl rfl ?_
    exact ⟨by rw [show ordB b l = false by unfold ordB; rw [show (l.length == b.flaps.length) = false by simp at hc1 ⊢; omega]; rfl], hs.below⟩
  · try simp only [decide_eq_true_eq, decide_eq_false_iff_not] at hc1
    refine c_skip (q_thenN ?_)
    refine c_reg ?_
    refine callL hf hs (c_none _) rfl rfl rfl E108 (by decide) ?_; clear hs hf a; intro w a hs hf
    refine vL hf (v_alloc hs T126 rfl) (by decide) ?_; clear hs hf a; rintro _ w ⟨b2, rfl, hs⟩ a hf
    refine uL (u_stW hf hs T126 rfl rfl rfl (k := 0) rfl rfl rfl) ?_; clear hs; intro w hs; dsimp only [List.set] at hs
    refine e_nil ?_
    refine wp_seq ?_
    refine c_reg ?_
    refine gL hf (g_mv hf rfl) (by decide) ?_; clear hf a; intro a hf
    refine gL hf (g_len hf SL31 rfl) (by decide) ?_; clear hf a; intro a hf
    refine gL hf (g_mv hf rfl) (by decide) ?_; clear hf a; intro a hf
    refine e_nil ?_
    refine c_block ?_
    have hlen : l.length = b.flaps.length := by simp at hc1; omega
    have e0 : (#[.bool false, .bool false, .bool false, .bool false, .bool false, .bool false, .bool false] : Array Value) = dnA (marks (l.take 0)) := rfl
    rw [e0] at hs
    refine c_loop hf hs [4, 7, 17, 18, 19, 20, 21, 22, 23, 24, 25, 26, 27, 28, 29, 30, 31, 32] (σ := Nat) (fun k => [(17, .int .i64 (k : Nat))]) (fun k => [(b2, .cells (dnA (marks (l.take k))) 126 (0, 0)), (b1, .cells #[.int .i64 b.wide, .int .i64 b.high, .slice fA b.flaps.length fc, .slice rA b.rules.length rc] 25 (0, 0))]) (fun k => k ≤ l.length ∧ ∀ j, j < k → (flapB b.flaps.length (l.getD j default) && !decide (l.getD j default ∈ l.take j)) = true) (fun k => l.length - k) 0 ⟨by omega, fun z hz => absurd hz (by omega)⟩ (.cons rfl .nil) rfl ?_
    intro k a w hJ hf hs
    obtain ⟨hk, hp⟩ := hJ
    have hrg : ∀ x ∈ l.take k, 0 ≤ x ∧ x < 7 := fun x hx => by
              obtain ⟨j, hj, rfl⟩ := List.mem_take_iff_getElem.1 hx
              have h1 := hp j (by omega)
              rw [List.getD_eq_getElem?_getD, List.getElem?_eq_getElem (by omega : j < l.length), Option.getD_some, Bool.and_eq_true, flapB, fitsB_iff] at h1
              omega
    refine c_reg ?_
    refine gL hf (g_lss hf rfl rfl) (by decide) ?_; clear hf a; intro a hf
    refine e_nil ?_
    refine c_condS hf rfl (fun hc2 => ?_) (fun hc2 => ?_)
    · try simp only [decide_eq_true_eq, decide_eq_false_iff_not] at hc2
      refine c_skip (q_thenN ?_)
      refine c_blockS ?_
      refine c_reg ?_
      (first | (refine gL hf (g_ixE hf hs (.tail _ (.tail _ (.head _))) SL31 rfl rfl (by omega)) (by decide) ?_) | (refine gL hf (g_ixD hf hs (.tail _ (.tail _ (.head _))) SL31 rfl rfl (by omega)) (by decide) ?_)); clear hf a; intro a hf
      refine gL hf (g_ldE hf hs (.tail _ (.tail _ (.head _))) T3 rfl rfl (by omega)) (by decide) ?_; clear hf a; intro a hf
      refine gL hf (g_as hf rfl) (by decide) ?_; clear hf a; intro a hf
      refine e_nil ?_
      refine wp_seq ?_
      refine c_reg ?_
      refine gL hf (g_ldW hf hs T25 rfl (k := 1) rfl rfl) (by decide) ?_; clear hf a; intro a hf
      refine gL hf (g_mv hf rfl) (by decide) ?_; clear hf a; intro a hf
      refine callL hf hs (c_isFlap _ _ _ _ _ _ _ _ _ (by omega) _) rfl rfl rfl E122 (by decide) ?_; clear hs hf a; intro w a hs hf
      refine gL hf (g_not hf rfl) (by decide) ?_; clear hf a; intro a hf
      refine gL hf (g_mv hf rfl) (by decide) ?_; clear hf a; intro a hf
      refine ggL hf rfl rfl (gyes_f _) (fun hg => g_mv hf rfl) (by decide) ?_; clear hf a; intro a hf
      refine ggL hf rfl rfl (gyes_f _) (fun hg => g_ixA hf AR126 rfl (ev_gv rfl hg) (by have h8 := flap_rng hg; omega)) (by decide) ?_; clear hf a; intro a hf
      refine ggL hf rfl rfl (gyes_f _) (fun hg => g_ld hf hs T4 (ev_gv rfl hg) (k := 0) rfl (dn_get (marks_len _) (by have h8 := flap_rng hg; omega))) (by decide) ?_; clear hf a; intro a hf
      refine gL hf (g_or hf rfl rfl) (by decide) ?_; clear hf a; intro a hf
      refine e_nil ?_
      refine c_cond hf rfl (fun hc3 => ?_) (fun hc3 => ?_)
      · skip
        have hno : (flapB b.flaps.length (l.getD k default) && !decide (l.getD k default ∈ l.take k)) = false := by
              cases hfl : flapB b.flaps.length (l.getD k default) with
              | false => rfl
              | true =>
                have h1 := fitsB_iff.1 hfl
                rw [hfl, marks_get (fun x hx => (hrg x hx).1) (by omega), Int.toNat_of_nonneg h1.1] at hc3
                simpa using hc3
        refine c_reg ?_
        refine gL hf (g_as hf rfl) (by decide) ?_; clear hf a; intro a hf
        refine e_nil ?_
        refine c_ret (q_thenR (q_blkR (q_thenR (q_thenR (q_blkR (q_thenR ?_))))))
        refine e_ret1 hf rfl rfl ?_
        exact ⟨by rw [ord_no (k := k) (by omega) hno], hs.below⟩
      · skip
        have hfl : flapB b.flaps.length (l.getD k default) = true := by cases h9 : flapB b.flaps.length (l.getD k default) <;> simp_all
        have h1 := fitsB_iff.1 hfl
        have hok : (flapB b.flaps.length (l.getD k default) && !decide (l.getD k default ∈ l.take k)) = true := by
              rw [hfl, marks_get (fun x hx => (hrg x hx).1) (by omega), Int.toNat_of_nonneg h1.1] at hc3
              rw [hfl]; simpa using hc3
        refine c_skip (q_thenN ?_)
        refine c_reg1 ?_
        refine gL hf (g_mv hf rfl) (by decide) ?_; clear hf a; intro a hf
        refine gL hf (g_ixA hf AR126 rfl rfl (by omega)) (by decide) ?_; clear hf a; intro a hf
        refine uL (u_st hf hs T4 rfl rfl rfl (k := 0) rfl (by rw [dn_size, marks_len]; omega)) ?_; clear hs; intro w hs; dsimp only [List.set] at hs
        rw [dn_set] at hs
        refine e_nil1 (q_blkN (q_thenN ?_))
        refine c_reg1 ?_
        refine gL hf (g_addI hf rfl rfl (by omega)) (by decide) ?_; clear hf a; intro a hf
        refine gL hf (g_mv hf rfl) (by decide) ?_; clear hf a; intro a hf
        refine e_nil1 (q_thenN ?_)
        rw [← marks_take (by omega)] at hs
        exact ⟨k + 1, ⟨by omega, lt_succ hp hok⟩, (by omega), hf.back (by repeat (first | (with_reducible exact Ext.base) | ((with_reducible refine Ext.cons ?_ ?_); (· rfl)) | ((with_reducible refine Ext.over ?_ ?_ ?_); (· rfl); (· rfl)))) (allKeys rfl) (.cons rfl .nil), hs.dropN 0⟩
    · try simp only [decide_eq_true_eq, decide_eq_false_iff_not] at hc2
      refine c_exit (q_thenX (q_thenX (q_blkX (q_thenN ?_))))
      refine c_draw _ 4 Mx rfl hs (fun _ h => h) ?_; intro w hs hS
      refine gA hf hS (i := 0) rfl (by kernel_rfl) (fun w hs => g_ldW hf hs T126 rfl (k := 0) rfl (by rw [dn_size, marks_len])) (by decide) ?_; clear hf a; intro a hf
      refine one (i := 1) (by kernel_rfl) ?_
      refine oCall hf hs rfl (c_none _) rfl rfl rfl E108 (by decide) (fun _ h => h.sub (.refl _)) ?_; clear hs hf hS a; intro w a hs hS hf
      refine gA hf hS (i := 2) rfl (by kernel_rfl) (fun w hs => g_neN hf NN102 (marks_len _) rfl rfl) (by decide) ?_; clear hf a; intro a hf
      refine gA hf hS (i := 3) rfl (by kernel_rfl) (fun w hs => g_as hf rfl) (by decide) ?_; clear hf a; intro a hf
      refine e_done (by kernel_rfl) ?_
      refine c_ret ?_
      refine e_ret1 hf rfl rfl ?_
      refine ⟨?_, hs.below⟩
      have hk9 : k = l.length := by omega
      subst hk9
      rw [marks_any (l := l.take l.length) (by rw [List.take_length]; intro e; rw [e] at hlen; simp at hlen; omega) hrg, ord_yes hlen hp]

end Go.Proofs.YtjjcopeedcdokaaDoor

set_option linter.unusedVariables false
namespace Go.Proofs.YtjjcopeedcdokaaDoor
open Go.RowKit
theorem E163 : Enters Tryd.prog 163 := fun _ _ => by kernel_rfl
theorem E164 : Enters Tryd.prog 164 := fun _ _ => by kernel_rfl
theorem E165 : Enters Tryd.prog 165 := fun _ _ => by kernel_rfl
theorem E166 : Enters Tryd.prog 166 := fun _ _ => by kernel_rfl
theorem E134' : Enters Tryd.prog 134 := fun _ _ => by kernel_rfl
theorem E135' : Enters Tryd.prog 135 := fun _ _ => by kernel_rfl
theorem c_side (b : Sheet) (fA : Option Addr) (fc : Nat) (rA : Option Addr) (rc : Nat) (mp : Option Nat) (x : Flap) (r : Int) (h1 : 0 ≤ b.wide ∧ b.wide ≤ 99) (h2 : 0 ≤ b.high ∧ b.high ≤ 99) (h3 : 0 ≤ r ∧ r ≤ 99) (hx : 0 ≤ x.side ∧ x.side < 4) (w : World) :
    Calls Tryd.prog (163 + x.side.toNat) #[.agg #[.int .i64 b.wide, .int .i64 b.high, .slice fA b.flaps.length fc, .slice rA b.rules.length rc, .map mp], .agg #[.int .i64 x.side, .int .i64 x.rl, .int .i64 x.rh, .int .i64 x.al, .int .i64 x.ah], .int .i64 r] w (Ret w (.agg (encA b x r).toArray)) := by
  have : x.side = 0 ∨ x.side = 1 ∨ x.side = 2 ∨ x.side = 3 := by omega
  rcases this with h | h | h | h
  · have := c_left b.wide b.high fA b.flaps.length fc rA b.rules.length rc mp x r h1 h2 h3 w
    rw [show 163 + x.side.toNat = 163 by omega]
    rwa [show (encA b x r).toArray = #[.int .i64 0, .int .i64 (r - 1), .int .i64 x.al, .int .i64 x.ah] by simp [encA, colLo, colHi, rowLo, rowHi, h]]
  · have := c_right b.wide b.high fA b.flaps.length fc rA b.rules.length rc mp x r h1 h2 h3 w
    rw [show 163 + x.side.toNat = 164 by omega]
    rwa [show (encA b x r).toArray = #[.int .i64 (b.wide - r), .int .i64 (b.wide - 1), .int .i64 x.al, .int .i64 x.ah] by simp [encA, colLo, colHi, rowLo, rowHi, h]]
  · have := c_top b.wide b.high fA b.flaps.length fc rA b.rules.length rc mp x r h1 h2 h3 w
    rw [show 163 + x.side.toNat = 165 by omega]
    rwa [show (encA b x r).toArray = #[.int .i64 x.al, .int .i64 x.ah, .int .i64 0, .int .i64 (r - 1)] by simp [encA, colLo, colHi, rowLo, rowHi, h]]
  · have := c_bottom b.wide b.high fA b.flaps.length fc rA b.rules.length rc mp x r h1 h2 h3 w
    rw [show 163 + x.side.toNat = 166 by omega]
    rwa [show (encA b x r).toArray = #[.int .i64 x.al, .int .i64 x.ah, .int .i64 (b.high - r), .int .i64 (b.high - 1)] by simp [encA, colLo, colHi, rowLo, rowHi, h]]
theorem e_side {x : Flap} (hx : 0 ≤ x.side ∧ x.side < 4) : Enters Tryd.prog (163 + x.side.toNat) := by
  have : x.side = 0 ∨ x.side = 1 ∨ x.side = 2 ∨ x.side = 3 := by omega
  rcases this with h | h | h | h
  · rw [show 163 + x.side.toNat = 163 by omega]; exact E163
  · rw [show 163 + x.side.toNat = 164 by omega]; exact E164
  · rw [show 163 + x.side.toNat = 165 by omega]; exact E165
  · rw [show 163 + x.side.toNat = 166 by omega]; exact E166
/-- The function that says how far a flap is taken to reach. -/
def byF (m : Bool) : Nat := if m then 135 else 134
theorem c_by (m : Bool) (x : Flap) (w : World) : Calls Tryd.prog (byF m) #[.agg #[.int .i64 x.rl, .int .i64 x.rh]] w (Ret w (.int .i64 (farF x m))) := by
  cases m
  · exact c_least1 _ _ _
  · exact c_most1 _ _ _
theorem e_by (m : Bool) : Enters Tryd.prog (byF m) := by
  cases m
  · exact E134'
  · exact E135'
theorem by_get {q : Nat} (h : q < 2) : ∀ j v, [Value.func (.func (byF (decide (q = 1)))) #[] #[]][j]? = some v → (#[Value.func (.func 134) #[] #[], .func (.func 135) #[] #[]])[0 + ((q : Nat) : Int).toNat * 1 + j]? = some v := by
  intro j v hj
  cases j with
  | succ j => simp at hj
  | zero =>
    match q, h with
    | 0, _ => simpa [byF] using hj
    | 1, _ => simpa [byF] using hj
theorem flapA_mem {b : Sheet} {i : Int} (h : inN b i) : flapA b i ∈ b.flaps := getD_mem (by have := h.1; have := h.2; omega)
theorem pI_in {b : Sheet} {i j : Int} (hi : inN b i) (hj : inN b j) (k : Nat) : inN b (pI i j k) := by unfold pI; split <;> assumption
end Go.Proofs.YtjjcopeedcdokaaDoor

set_option linter.unusedVariables false
set_option linter.unusedSimpArgs false
namespace Go.Proofs.YtjjcopeedcdokaaDoor
open Go.RowKit
theorem c_touch (b : Sheet) (fA : Option Addr) (fc : Nat) (rA : Option Addr) (rc : Nat) (mo : Option Nat) (ge : TypeId) (gz : Nat × Nat) (i j : Int) (m : Bool) (hv : Valid b) (hi : inN b i) (hj : inN b j) (w0 : World) (h : ShIn b fA fc rA rc w0) (hG : BlkIs 1 sidesA ge gz w0) :
    Calls Tryd.prog 126 #[.agg #[.int .i64 b.wide, .int .i64 b.high, .slice fA b.flaps.length fc, .slice rA b.rules.length rc, .map mo], .agg #[.int .i64 i, .int .i64 j], .agg #[.func (.func (byF m)) #[] #[]]] w0 (Ret w0 (.bool (touchB b i j m))) := by
  refine c_enter (n := 57) Tryd.func126 rfl rfl (Nat.le_of_ble_eq_true rfl) ?_; intro a hf; simp only [zipR] at hf
  have hs := St.start w0 [Rd encF 5 fA b.flaps.length b.flaps, Rd encR 2 rA b.rules.length b.rules, BlkIs 1 sidesA ge gz] (stab_app h.stab hG.st1)
  have hfm := h.F.2.1; have hrm := h.R.2.1
  have hw1 := hv.wide; have hw2 := hv.high
  refine c_reg ?_
  refine vL hf (v_boxA hf hs rfl) (by decide) ?_; clear hs hf a; rintro _ w ⟨b1, rfl, hs⟩ a hf
  refine vL hf (v_boxA hf hs rfl) (by decide) ?_; clear hs hf a; rintro _ w ⟨b2, rfl, hs⟩ a hf
  refine vL hf (v_boxA hf hs rfl) (by decide) ?_; clear hs hf a; rintro _ w ⟨b3, rfl, hs⟩ a hf
  refine gL hf (g_as hf rfl) (by decide) ?_; clear hf a; intro a hf
  refine e_nil ?_
  refine c_reg ?_
  refine vL hf (v_alloc hs T160 rfl) (by decide) ?_; clear hs hf a; rintro _ w ⟨b4, rfl, hs⟩ a hf
  refine e_nil ?_
  refine wp_seq ?_
  refine c_reg ?_
  refine gL hf (g_fa (off' := 0) hf F114_0 rfl rfl) (by decide) ?_; clear hf a; intro a hf
  refine gL hf (g_ld hf hs T3 rfl (k := 2) rfl rfl) (by decide) ?_; clear hf a; intro a hf
  refine gL hf (g_fa (off' := 1) hf F114_1 rfl rfl) (by decide) ?_; clear hf a; intro a hf
  refine gL hf (g_ld hf hs T3 rfl (k := 2) rfl rfl) (by decide) ?_; clear hf a; intro a hf
  refine gL hf (g_bld hf [[.int .i64 0], [.int .i64 0]] (.cons rfl (.cons rfl .nil)) (fun _ => by kernel_rfl)) (by decide) ?_; clear hf a; intro a hf
  refine gL hf (g_mv hf rfl) (by decide) ?_; clear hf a; intro a hf
  refine e_nil ?_
  refine c_block ?_
  have e0 : (#[.int .i64 0, .int .i64 0, .int .i64 0, .int .i64 0, .int .i64 0, .int .i64 0, .int .i64 0, .int .i64 0] : Array Value) = arC b i j m 0 := rfl
  rw [e0] at hs
  refine c_loop hf hs (List.range' 8 3 ++ List.range' 16 25) (σ := Nat) (fun k => [(16, .int .i64 (k : Nat))]) (fun k => [(b4, .cells (arC b i j m k) 160 (0, 0)), (b3, .cells #[.func (.func (byF m)) #[] #[]] 149 (0, 0)), (b2, .cells #[.int .i64 i, .int .i64 j] 114 (0, 0)), (b1, .cells #[.int .i64 b.wide, .int .i64 b.high, .slice fA b.flaps.length fc, .slice rA b.rules.length rc, .map mo] 80 (0, 0))]) (fun k => k ≤ 2) (fun k => 2 - k) 0 (by omega) (.cons rfl .nil) rfl ?_
  intro k a w hJ hf hs
  have hp := pI_in hi hj k; have hpm := flapA_mem hp; have hfl := hv.flap _ hpm; have hfar := hv.far hpm m; have hp1 := hp.1; have hp2 := hp.2
  simp only [flapA] at hfl hfar
  refine c_reg ?_
  refine gL hf (g_lss hf rfl rfl) (by decide) ?_; clear hf a; intro a hf
  refine e_nil ?_
  refine c_condS hf rfl (fun hc1 => ?_) (fun hc1 => ?_)
  · try simp only [decide_eq_true_eq, decide_eq_false_iff_not] at hc1
    refine c_skip (q_thenN ?_)
    refine c_blockS ?_
    refine c_reg ?_
    refine gL hf (g_mv hf rfl) (by decide) ?_; clear hf a; intro a hf
    refine gL hf (g_idx hf AR161 T3.agg rfl rfl (by omega) (idx2 (by omega))) (by decide) ?_; clear hf a; intro a hf
    refine gL hf (g_as hf rfl) (by decide) ?_; clear hf a; intro a hf
    refine gL hf (g_as hf rfl) (by decide) ?_; clear hf a; intro a hf
    refine e_nil ?_
    refine c_reg ?_
    refine gL hf (g_fa (off' := 0) hf F80_0 rfl rfl) (by decide) ?_; clear hf a; intro a hf
    refine gL hf (g_fa (off' := 2) hf F25_2 rfl rfl) (by decide) ?_; clear hf a; intro a hf
    refine gL hf (g_ld hf hs T22 rfl (k := 3) rfl rfl) (by decide) ?_; clear hf a; intro a hf
    refine gL hf (g_mv hf rfl) (by decide) ?_; clear hf a; intro a hf
    (first | (refine gL hf (g_ixE hf hs (.head _) SL22 rfl rfl (by omega)) (by decide) ?_) | (refine gL hf (g_ixD hf hs (.head _) SL22 rfl rfl (by omega)) (by decide) ?_)); clear hf a; intro a hf
    refine gL hf (g_ldEW hf hs (.head _) T117 rfl rfl (by omega)) (by decide) ?_; clear hf a; intro a hf
    refine vL hf (v_alloc hs T117 rfl) (by decide) ?_; clear hs hf a; rintro _ w ⟨b5, rfl, hs⟩ a hf
    refine uL (u_stW hf hs T117 rfl rfl rfl (k := 0) rfl rfl rfl) ?_; clear hs; intro w hs; dsimp only [List.set] at hs
    refine e_nil ?_
    refine c_draw1 _ 15 Mx rfl hs (fun _ h => h.sub (.cons_cons _ (.cons _ (.refl _)))) ?_; intro w hs hS
    refine gA hf hS (i := 0) rfl (by kernel_rfl) (fun w hs => g_mv hf rfl) (by decide) ?_; clear hf a; intro a hf
    refine gA hf hS (i := 1) rfl (by kernel_rfl) (fun w hs => g_fa (off' := 0) hf F117_0 rfl rfl) (by decide) ?_; clear hf a; intro a hf
    refine gA hf hS (i := 2) rfl (by kernel_rfl) (fun w hs => g_ld hf hs T3 rfl (k := 0) rfl rfl) (by decide) ?_; clear hf a; intro a hf
    refine gA hf hS (i := 3) rfl (by kernel_rfl) (fun w hs => g_ixA hf AR163 rfl rfl (by omega)) (by decide) ?_; clear hf a; intro a hf
    refine gA hf hS (i := 4) rfl (by kernel_rfl) (fun w hs => g_ldB hf hs (.tail _ (.tail _ (.head _))) T162 rfl (sides_get (by omega))) (by decide) ?_; clear hf a; intro a hf
    refine gA hf hS (i := 5) rfl (by kernel_rfl) (fun w hs => g_ldW hf hs T80 rfl (k := 3) rfl rfl) (by decide) ?_; clear hf a; intro a hf
    refine gA hf hS (i := 6) rfl (by kernel_rfl) (fun w hs => g_ldW hf hs T117 rfl (k := 0) rfl rfl) (by decide) ?_; clear hf a; intro a hf
    refine gA hf hS (i := 7) rfl (by kernel_rfl) (fun w hs => g_fa (off' := 0) hf F149_0 rfl rfl) (by decide) ?_; clear hf a; intro a hf
    refine gA hf hS (i := 8) rfl (by kernel_rfl) (fun w hs => g_ld hf hs T147 rfl (k := 1) rfl rfl) (by decide) ?_; clear hf a; intro a hf
    refine gA hf hS (i := 9) rfl (by kernel_rfl) (fun w hs => g_fa (off' := 1) hf F117_1 rfl rfl) (by decide) ?_; clear hf a; intro a hf
    refine gA hf hS (i := 10) rfl (by kernel_rfl) (fun w hs => g_ldP hf hs T40 rfl (k := 0) rfl rfl) (by decide) ?_; clear hf a; intro a hf
    refine one (i := 11) (by kernel_rfl) ?_
    refine oCall hf hs rfl (c_by m (b.flaps.getD (pI i j k).toNat default) _) rfl rfl rfl (e_by m) (by decide) (fun _ h => h.sub (.cons_cons _ (.cons _ (.refl _)))) ?_; clear hs hf hS a; intro w a hs hS hf
    refine one (i := 12) (by kernel_rfl) ?_
    refine oCall hf hs rfl (c_side b _ _ _ _ _ (b.flaps.getD (pI i j k).toNat default) _ (by omega) (by omega) (by omega) (by omega) _) rfl rfl rfl (e_side (by omega)) (by decide) (fun _ h => h.sub (.cons_cons _ (.cons _ (.refl _)))) ?_; clear hs hf hS a; intro w a hs hS hf
    refine gA hf hS (i := 13) rfl (by kernel_rfl) (fun w hs => g_ixA hf AR160 rfl rfl (by omega)) (by decide) ?_; clear hf a; intro a hf
    refine one (i := 14) (by kernel_rfl) ?_
    refine oU rfl (u_stA hf hs T159 rfl rfl rfl (k := 1) rfl rfl (by rw [arC_size]; show 0 + ((k : Nat) : Int).toNat * 4 + 4 ≤ 8; omega)) (fun _ h => h.sub (.cons_cons _ (.cons _ (.refl _)))) ?_; clear hs hS; intro w hs hS; dsimp only [List.set] at hs
    rw [arC_splat (by omega)] at hs
    refine e_done1 (by kernel_rfl) ?_
    refine q_blkN (q_thenN ?_)
    refine c_reg1 ?_
    refine gL hf (g_addI hf rfl rfl (by omega)) (by decide) ?_; clear hf a; intro a hf
    refine gL hf (g_mv hf rfl) (by decide) ?_; clear hf a; intro a hf
    refine e_nil1 (q_thenN ?_)
    exact ⟨k + 1, (by omega), (by omega), hf.back (by repeat (first | (with_reducible exact Ext.base) | ((with_reducible refine Ext.cons ?_ ?_); (· rfl)) | ((with_reducible refine Ext.over ?_ ?_ ?_); (· rfl); (· rfl)))) (allKeys rfl) (.cons rfl .nil), hs.dropN 1⟩
  · try simp only [decide_eq_true_eq, decide_eq_false_iff_not] at hc1
    obtain rfl : k = 2 := by omega
    refine c_exit (q_thenX (q_thenX (q_blkX (q_thenN ?_))))
    refine c_reg ?_
    refine gL hf (g_ixA hf AR160 rfl rfl (by omega)) (by decide) ?_; clear hf a; intro a hf
    refine gL hf (g_fa (off' := 0) hf F159_0 rfl rfl) (by decide) ?_; clear hf a; intro a hf
    refine gL hf (g_ldP hf hs T40 rfl (k := 0) rfl rfl) (by decide) ?_; clear hf a; intro a hf
    refine gL hf (g_ixA hf AR160 rfl rfl (by omega)) (by decide) ?_; clear hf a; intro a hf
    refine gL hf (g_fa (off' := 4) hf F159_0 rfl rfl) (by decide) ?_; clear hf a; intro a hf
    refine gL hf (g_ldP hf hs T40 rfl (k := 0) rfl rfl) (by decide) ?_; clear hf a; intro a hf
    refine callL hf hs (c_overlaps _ _ _ _ _) rfl rfl rfl E136 (by decide) ?_; clear hs hf a; intro w a hs hf
    refine gL hf (g_mv hf rfl) (by decide) ?_; clear hf a; intro a hf
    refine ggL hf rfl rfl (gyes_t _) (fun hg => g_ixA hf AR160 rfl rfl (by omega)) (by decide) ?_; clear hf a; intro a hf
    refine ggL hf rfl rfl (gyes_t _) (fun hg => g_fa (off' := 2) hf F159_1 (ev_gv rfl hg) rfl) (by decide) ?_; clear hf a; intro a hf
    refine ggL hf rfl rfl (gyes_t _) (fun hg => g_ldP hf hs T40 (ev_gv rfl hg) (k := 0) rfl rfl) (by decide) ?_; clear hf a; intro a hf
    refine ggL hf rfl rfl (gyes_t _) (fun hg => g_ixA hf AR160 rfl rfl (by omega)) (by decide) ?_; clear hf a; intro a hf
    refine ggL hf rfl rfl (gyes_t _) (fun hg => g_fa (off' := 6) hf F159_1 (ev_gv rfl hg) rfl) (by decide) ?_; clear hf a; intro a hf
    refine ggL hf rfl rfl (gyes_t _) (fun hg => g_ldP hf hs T40 (ev_gv rfl hg) (k := 0) rfl rfl) (by decide) ?_; clear hf a; intro a hf
    refine callG hf hs rfl rfl (gyes_t _) (fun hg => ⟨_, _, _, _, c_overlaps _ _ _ _ _, rfl, evs_cons (ev_gv rfl hg) (evs_cons (ev_gv rfl hg) evs_nil), rfl⟩) E136 (by decide) ?_; clear hs hf a; intro w a hs hf
    refine gL hf (g_and hf rfl rfl) (by decide) ?_; clear hf a; intro a hf
    refine gL hf (g_as hf rfl) (by decide) ?_; clear hf a; intro a hf
    refine e_nil ?_
    refine c_ret ?_
    refine e_ret1 hf rfl rfl ?_
    exact ⟨rfl, hs.below⟩

end Go.Proofs.YtjjcopeedcdokaaDoor

set_option linter.unusedVariables false
set_option linter.unusedSimpArgs false
namespace Go.Proofs.YtjjcopeedcdokaaDoor
open Go.RowKit
theorem c_opened (b : Sheet) (fA : Option Addr) (fc : Nat) (rA : Option Addr) (rc : Nat) (ge : TypeId) (gz : Nat × Nat) (hv : Valid b) (w0 : World) (h : ShIn b fA fc rA rc w0) (hG : BlkIs 1 sidesA ge gz w0) :
    Calls Tryd.prog 102 #[.agg #[.int .i64 b.wide, .int .i64 b.high, .slice fA b.flaps.length fc, .slice rA b.rules.length rc]] w0 (RetX w0 (fun v w0' => ∃ mb mp, v = .agg #[.int .i64 b.wide, .int .i64 b.high, .slice fA b.flaps.length fc, .slice rA b.rules.length rc, .map (some mb)] ∧ meetsOK b mp ∧ w0.heap.size ≤ mb ∧ MapIs mb mp w0')) := by
  refine c_enter (n := 55) Tryd.func102 rfl rfl (Nat.le_of_ble_eq_true rfl) ?_; intro a hf; simp only [zipR] at hf
  have hs := St.start w0 [Rd encF 5 fA b.flaps.length b.flaps, Rd encR 2 rA b.rules.length b.rules, BlkIs 1 sidesA ge gz] (stab_app h.stab hG.st1)
  have hfm := h.F.2.1; have hrm := h.R.2.1
  refine c_reg ?_
  refine vL hf (v_boxA hf hs rfl) (by decide) ?_; clear hs hf a; rintro _ w ⟨b1, rfl, hs⟩ a hf
  refine vL hf (v_alloc hs T80 rfl) (by decide) ?_; clear hs hf a; rintro _ w ⟨b2, rfl, hs⟩ a hf
  refine e_nil ?_
  refine c_reg ?_
  refine gL hf (g_ldW hf hs T25 rfl (k := 1) rfl rfl) (by decide) ?_; clear hf a; intro a hf
  refine vL hf (v_mapM hs) (by decide) ?_; clear hs hf a; rintro _ w ⟨b3, rfl, hs⟩ a hf
  refine gL hf (g_bld hf [[.int .i64 0, .int .i64 0, .slice none 0 0, .slice none 0 0], [.map none]] (.cons rfl (.cons rfl .nil)) (fun _ => by kernel_rfl)) (by decide) ?_; clear hf a; intro a hf
  refine vL hf (v_alloc hs T80 rfl) (by decide) ?_; clear hs hf a; rintro _ w ⟨b4, rfl, hs⟩ a hf
  refine uL (u_stW hf hs T80 rfl rfl rfl (k := 0) rfl rfl rfl) ?_; clear hs; intro w hs; dsimp only [List.set] at hs
  refine e_nil ?_
  refine wp_seq ?_
  refine c_reg ?_
  refine gL hf (g_fa (off' := 2) hf F25_2 rfl rfl) (by decide) ?_; clear hf a; intro a hf
  refine gL hf (g_ld hf hs T22 rfl (k := 3) rfl rfl) (by decide) ?_; clear hf a; intro a hf
  refine gL hf (g_len hf SL22 rfl) (by decide) ?_; clear hf a; intro a hf
  refine gL hf (g_mv hf rfl) (by decide) ?_; clear hf a; intro a hf
  refine e_nil ?_
  refine c_block ?_
  refine c_loop hf hs (List.range' 4 3 ++ List.range' 8 1 ++ List.range' 15 39) (σ := (Nat × MP)) (fun s => [(15, .int .i64 (s.1 : Nat))]) (fun s => [(b4, .cells #[.int .i64 b.wide, .int .i64 b.high, .slice fA b.flaps.length fc, .slice rA b.rules.length rc, .map (some b3)] 80 (0, 0)), (b3, mapO s.2), (b2, .cells #[.int .i64 0, .int .i64 0, .slice none 0 0, .slice none 0 0, .map none] 80 (0, 0)), (b1, .cells #[.int .i64 b.wide, .int .i64 b.high, .slice fA b.flaps.length fc, .slice rA b.rules.length rc] 25 (0, 0))]) (fun s => s.1 ≤ b.flaps.length ∧ cntI b s.1 0 0 s.2) (fun s => b.flaps.length - s.1) (0, []) ⟨Nat.zero_le _, cnt_start b⟩ (.cons rfl .nil) rfl ?_
  intro ⟨i, mp1⟩ a w hJ hf hs
  dsimp only at hJ hf hs
  obtain ⟨hi, hc1n⟩ := hJ
  refine c_reg ?_
  refine gL hf (g_lss hf rfl rfl) (by decide) ?_; clear hf a; intro a hf
  refine e_nil ?_
  refine c_condS hf rfl (fun hc1 => ?_) (fun hc1 => ?_)
  · try simp only [decide_eq_true_eq, decide_eq_false_iff_not] at hc1
    refine c_skip (q_thenN ?_)
    refine c_blockS ?_
    refine c_reg ?_
    refine gL hf (g_mv hf rfl) (by decide) ?_; clear hf a; intro a hf
    refine gL hf (g_as hf rfl) (by decide) ?_; clear hf a; intro a hf
    refine e_nil ?_
    refine c_reg ?_
    refine gL hf (g_fa (off' := 2) hf F25_2 rfl rfl) (by decide) ?_; clear hf a; intro a hf
    refine gL hf (g_ld hf hs T22 rfl (k := 3) rfl rfl) (by decide) ?_; clear hf a; intro a hf
    refine gL hf (g_len hf SL22 rfl) (by decide) ?_; clear hf a; intro a hf
    refine gL hf (g_mv hf rfl) (by decide) ?_; clear hf a; intro a hf
    refine e_nil ?_
    refine c_block ?_
    refine c_loop hf hs (List.range' 5 2 ++ List.range' 8 1 ++ List.range' 21 32) (σ := (Nat × MP)) (fun s => [(21, .int .i64 (s.1 : Nat))]) (fun s => [(b4, .cells #[.int .i64 b.wide, .int .i64 b.high, .slice fA b.flaps.length fc, .slice rA b.rules.length rc, .map (some b3)] 80 (0, 0)), (b3, mapO s.2), (b2, .cells #[.int .i64 0, .int .i64 0, .slice none 0 0, .slice none 0 0, .map none] 80 (0, 0)), (b1, .cells #[.int .i64 b.wide, .int .i64 b.high, .slice fA b.flaps.length fc, .slice rA b.rules.length rc] 25 (0, 0))]) (fun s => s.1 ≤ b.flaps.length ∧ cntI b i s.1 0 s.2) (fun s => b.flaps.length - s.1) (0, mp1) ⟨Nat.zero_le _, hc1n⟩ (.cons rfl .nil) rfl ?_
    intro ⟨j, mp2⟩ a w hJ hf hs
    dsimp only at hJ hf hs
    obtain ⟨hj, hc2n⟩ := hJ
    refine c_reg ?_
    refine gL hf (g_lss hf rfl rfl) (by decide) ?_; clear hf a; intro a hf
    refine e_nil ?_
    refine c_condS hf rfl (fun hc2 => ?_) (fun hc2 => ?_)
    · try simp only [decide_eq_true_eq, decide_eq_false_iff_not] at hc2
      have hin : inN b ((i : Nat) : Int) := ⟨by omega, by omega⟩; have hjn : inN b ((j : Nat) : Int) := ⟨by omega, by omega⟩
      refine c_skip (q_thenN ?_)
      refine c_blockS ?_
      refine c_reg ?_
      refine gL hf (g_mv hf rfl) (by decide) ?_; clear hf a; intro a hf
      refine gL hf (g_as hf rfl) (by decide) ?_; clear hf a; intro a hf
      refine e_nil ?_
      refine c_reg ?_
      refine gL hf (g_mv hf rfl) (by decide) ?_; clear hf a; intro a hf
      refine gL hf (g_mv hf rfl) (by decide) ?_; clear hf a; intro a hf
      refine gL hf (g_bld hf [[.int .i64 0], [.int .i64 0]] (.cons rfl (.cons rfl .nil)) (fun _ => by kernel_rfl)) (by decide) ?_; clear hf a; intro a hf
      refine vL hf (v_alloc hs T114 rfl) (by decide) ?_; clear hs hf a; rintro _ w ⟨b5, rfl, hs⟩ a hf
      refine uL (u_stW hf hs T114 rfl rfl rfl (k := 0) rfl rfl rfl) ?_; clear hs; intro w hs; dsimp only [List.set] at hs
      refine e_nil ?_
      refine c_reg ?_
      refine callL hf hs (c_least _) rfl rfl rfl E124 (by decide) ?_; clear hs hf a; intro w a hs hf
      refine callL hf hs (c_most _) rfl rfl rfl E125 (by decide) ?_; clear hs hf a; intro w a hs hf
      refine vL hf (v_lits (len := 2) hf hs SL151 T149 (.cons rfl (.cons rfl .nil)) rfl rfl rfl rfl (by decide) rfl) (by decide) ?_; clear hs hf a; rintro _ w ⟨b6, rfl, hs⟩ a hf
      refine gL hf (g_len hf SL151 rfl) (by decide) ?_; clear hf a; intro a hf
      refine gL hf (g_mv hf rfl) (by decide) ?_; clear hf a; intro a hf
      refine e_nil ?_
      refine c_block ?_
      refine c_loop hf hs [8, 31, 32, 33, 34, 35, 36, 37, 38, 39, 40, 41, 42, 43, 44, 45, 46, 47, 48, 49, 50, 51] (σ := (Nat × MP)) (fun s => [(31, .int .i64 (s.1 : Nat))]) (fun s => (b6, .cells #[.func (.func 134) #[] #[], .func (.func 135) #[] #[]] 149 (0, 0)) :: (b5, .cells #[.int .i64 (i : Nat), .int .i64 (j : Nat)] 114 (0, 0)) :: [(b4, .cells #[.int .i64 b.wide, .int .i64 b.high, .slice fA b.flaps.length fc, .slice rA b.rules.length rc, .map (some b3)] 80 (0, 0)), (b3, mapO s.2), (b2, .cells #[.int .i64 0, .int .i64 0, .slice none 0 0, .slice none 0 0, .map none] 80 (0, 0)), (b1, .cells #[.int .i64 b.wide, .int .i64 b.high, .slice fA b.flaps.length fc, .slice rA b.rules.length rc] 25 (0, 0))]) (fun s => s.1 ≤ 2 ∧ cntI b i j s.1 s.2) (fun s => 2 - s.1) (0, mp2) ⟨Nat.zero_le _, hc2n⟩ (.cons rfl .nil) rfl ?_
      intro ⟨q, mp3⟩ a w hJ hf hs
      dsimp only at hJ hf hs
      obtain ⟨hq, hc3n⟩ := hJ
      refine c_reg ?_
      refine gL hf (g_lss hf rfl rfl) (by decide) ?_; clear hf a; intro a hf
      refine e_nil ?_
      refine c_condS hf rfl (fun hc3 => ?_) (fun hc3 => ?_)
      · try simp only [decide_eq_true_eq, decide_eq_false_iff_not] at hc3
        refine c_skip (q_thenN ?_)
        refine c_blockS ?_
        refine c_reg ?_
        refine gL hf (g_ixO hf SL151 rfl rfl (by omega)) (by decide) ?_; clear hf a; intro a hf
        refine gL hf (g_ldA hf hs T149 rfl (k := 0) rfl (vs := [.func (.func (byF (decide (q = 1)))) #[] #[]]) rfl (by_get (by omega))) (by decide) ?_; clear hf a; intro a hf
        refine vL hf (v_alloc hs T149 rfl) (by decide) ?_; clear hs hf a; rintro _ w ⟨b7, rfl, hs⟩ a hf
        refine uL (u_stW hf hs T149 rfl rfl rfl (k := 0) rfl rfl rfl) ?_; clear hs; intro w hs; dsimp only [List.set] at hs
        refine e_nil ?_
        refine c_reg ?_
        refine gL hf (g_mv hf rfl) (by decide) ?_; clear hf a; intro a hf
        refine gL hf (g_mv hf rfl) (by decide) ?_; clear hf a; intro a hf
        refine gL hf (g_neq hf rfl rfl) (by decide) ?_; clear hf a; intro a hf
        refine gL hf (g_mv hf rfl) (by decide) ?_; clear hf a; intro a hf
        refine ggL hf rfl rfl (gyes_t _) (fun hg => g_ldW hf hs T80 rfl (k := 3) rfl rfl) (by decide) ?_; clear hf a; intro a hf
        refine ggL hf rfl rfl (gyes_t _) (fun hg => g_ldW hf hs T114 rfl (k := 2) rfl rfl) (by decide) ?_; clear hf a; intro a hf
        refine ggL hf rfl rfl (gyes_t _) (fun hg => g_ldW hf hs T149 rfl (k := 0) rfl rfl) (by decide) ?_; clear hf a; intro a hf
        refine callG hf hs rfl rfl (gyes_t _) (fun hg => ⟨_, _, _, _, c_touch b _ _ _ _ (some b3) _ _ i j (decide (q = 1)) hv hin hjn _ ⟨hs.rd (.head _), hs.rd (.tail _ (.head _)), h.fc_, h.rc_⟩ (hs.rd (.tail _ (.tail _ (.head _)))), rfl, evs_cons (ev_gv rfl hg) (evs_cons (ev_gv rfl hg) (evs_cons (ev_gv rfl hg) evs_nil)), rfl⟩) E126 (by decide) ?_; clear hs hf a; intro w a hs hf
        refine gL hf (g_and hf rfl rfl) (by decide) ?_; clear hf a; intro a hf
        refine e_nil ?_
        refine c_cond hf rfl (fun hc4 => ?_) (fun hc4 => ?_)
        · skip
          have ht : ((i : Nat) : Int) ≠ ((j : Nat) : Int) ∧ touchB b i j (decide (q = 1)) = true := by simpa only [Bool.and_eq_true, bne_iff_ne] using hc4
          refine c_draw1 _ 8 Mx rfl hs (fun _ h => h.sub (.cons_cons _ (.cons_cons _ (.cons_cons _ (.cons_cons _ (.cons _ (.refl _))))))) ?_; intro w hs hS
          refine gA hf hS (i := 0) rfl (by kernel_rfl) (fun w hs => g_fa (off' := 4) hf F80_1 rfl rfl) (by decide) ?_; clear hf a; intro a hf
          refine gA hf hS (i := 1) rfl (by kernel_rfl) (fun w hs => g_ld hf hs T78 rfl (k := 3) rfl rfl) (by decide) ?_; clear hf a; intro a hf
          refine gA hf hS (i := 2) rfl (by kernel_rfl) (fun w hs => g_ldW hf hs T114 rfl (k := 2) rfl rfl) (by decide) ?_; clear hf a; intro a hf
          refine two (i := 3) (j := 5) (by kernel_rfl) ?_ ?_
          · skip
            refine oV hf rfl (goesV_of_gets (g_lookO hf hs (k := 4) rfl MT78 rfl rfl)) (by decide) (fun _ _ h => by rw [h.2]; exact hS) ?_; rintro _ w ⟨rfl, rfl⟩ hS a hf
            refine gA hf hS (i := 4) rfl (by kernel_rfl) (fun w hs => g_addI hf rfl rfl (by have h8 := cnt_le hc3n i j; first | omega | (rw [mget_put]; omega))) (by decide) ?_; clear hf a; intro a hf
            refine one (i := 5) (by kernel_rfl) ?_
            refine oV hf rfl (v_entry hf hs (k := 4) rfl MT78 rfl rfl) (by decide) (fun _ _ ⟨_, h⟩ => h.sub (.cons_cons _ (.cons_cons _ (.cons_cons _ (.cons_cons _ (.cons _ (.refl _))))))) ?_; clear hs hf hS a; rintro _ w ⟨rfl, hs⟩ hS a hf; dsimp only [List.set] at hs
            refine gA hf hS (i := 6) rfl (by kernel_rfl) (fun w hs => g_ext hf rfl rfl) (by decide) ?_; clear hf a; intro a hf
            refine one (i := 7) (by kernel_rfl) ?_
            refine oU rfl (u_entry hf hs (k := 4) rfl (midx_lt _ _ _) rfl rfl rfl) (fun _ h => h.sub (.cons_cons _ (.cons_cons _ (.cons_cons _ (.cons_cons _ (.cons _ (.refl _))))))) ?_; clear hs hS; intro w hs hS; dsimp only [List.set] at hs
            refine e_done1 (by kernel_rfl) ?_
            refine q_blkN (q_thenN ?_)
            refine c_reg1 ?_
            refine gL hf (g_addI hf rfl rfl (by omega)) (by decide) ?_; clear hf a; intro a hf
            refine gL hf (g_mv hf rfl) (by decide) ?_; clear hf a; intro a hf
            refine e_nil1 (q_thenN ?_)
            first | exact ⟨(q + 1, mset (mput mp3 i j) (midx mp3 i j) (mget mp3 i j + 1)), ⟨by dsimp only; omega, cnt_hit hin hjn (by omega) hc3n ht rfl⟩, (by dsimp only; omega), hf.back (by repeat (first | (with_reducible exact Ext.base) | ((with_reducible refine Ext.cons ?_ ?_); (· rfl)) | ((with_reducible refine Ext.over ?_ ?_ ?_); (· rfl); (· rfl)))) (allKeys rfl) (.cons rfl .nil), hs.dropN 1⟩ | exact ⟨(q + 1, mset (mput mp3 i j) (midx mp3 i j) (mget (mput mp3 i j) i j + 1)), ⟨by dsimp only; omega, cnt_hit hin hjn (by omega) hc3n ht (by rw [mget_put])⟩, (by dsimp only; omega), hf.back (by repeat (first | (with_reducible exact Ext.base) | ((with_reducible refine Ext.cons ?_ ?_); (· rfl)) | ((with_reducible refine Ext.over ?_ ?_ ?_); (· rfl); (· rfl)))) (allKeys rfl) (.cons rfl .nil), hs.dropN 1⟩ | exact ⟨(q + 1, mp3), ⟨by dsimp only; omega, cnt_miss (by omega) hc3n ht⟩, (by dsimp only; omega), hf.back (by repeat (first | (with_reducible exact Ext.base) | ((with_reducible refine Ext.cons ?_ ?_); (· rfl)) | ((with_reducible refine Ext.over ?_ ?_ ?_); (· rfl); (· rfl)))) (allKeys rfl) (.cons rfl .nil), hs.dropN 1⟩
          · skip
            refine oV hf rfl (v_entry hf hs (k := 4) rfl MT78 rfl rfl) (by decide) (fun _ _ ⟨_, h⟩ => h.sub (.cons_cons _ (.cons_cons _ (.cons_cons _ (.cons_cons _ (.cons _ (.refl _))))))) ?_; clear hs hf hS a; rintro _ w ⟨rfl, hs⟩ hS a hf; dsimp only [List.set] at hs
            refine gA hf hS (i := 6) rfl (by kernel_rfl) (fun w hs => g_ext hf rfl rfl) (by decide) ?_; clear hf a; intro a hf
            refine one (i := 3) (by kernel_rfl) ?_
            refine oV hf rfl (goesV_of_gets (g_lookO hf hs (k := 4) rfl MT78 rfl rfl)) (by decide) (fun _ _ h => by rw [h.2]; exact hS) ?_; rintro _ w ⟨rfl, rfl⟩ hS a hf
            refine gA hf hS (i := 4) rfl (by kernel_rfl) (fun w hs => g_addI hf rfl rfl (by have h8 := cnt_le hc3n i j; first | omega | (rw [mget_put]; omega))) (by decide) ?_; clear hf a; intro a hf
            refine one (i := 7) (by kernel_rfl) ?_
            refine oU rfl (u_entry hf hs (k := 4) rfl (midx_lt _ _ _) rfl rfl rfl) (fun _ h => h.sub (.cons_cons _ (.cons_cons _ (.cons_cons _ (.cons_cons _ (.cons _ (.refl _))))))) ?_; clear hs hS; intro w hs hS; dsimp only [List.set] at hs
            refine e_done1 (by kernel_rfl) ?_
            refine q_blkN (q_thenN ?_)
            refine c_reg1 ?_
            refine gL hf (g_addI hf rfl rfl (by omega)) (by decide) ?_; clear hf a; intro a hf
            refine gL hf (g_mv hf rfl) (by decide) ?_; clear hf a; intro a hf
            refine e_nil1 (q_thenN ?_)
            first | exact ⟨(q + 1, mset (mput mp3 i j) (midx mp3 i j) (mget mp3 i j + 1)), ⟨by dsimp only; omega, cnt_hit hin hjn (by omega) hc3n ht rfl⟩, (by dsimp only; omega), hf.back (by repeat (first | (with_reducible exact Ext.base) | ((with_reducible refine Ext.cons ?_ ?_); (· rfl)) | ((with_reducible refine Ext.over ?_ ?_ ?_); (· rfl); (· rfl)))) (allKeys rfl) (.cons rfl .nil), hs.dropN 1⟩ | exact ⟨(q + 1, mset (mput mp3 i j) (midx mp3 i j) (mget (mput mp3 i j) i j + 1)), ⟨by dsimp only; omega, cnt_hit hin hjn (by omega) hc3n ht (by rw [mget_put])⟩, (by dsimp only; omega), hf.back (by repeat (first | (with_reducible exact Ext.base) | ((with_reducible refine Ext.cons ?_ ?_); (· rfl)) | ((with_reducible refine Ext.over ?_ ?_ ?_); (· rfl); (· rfl)))) (allKeys rfl) (.cons rfl .nil), hs.dropN 1⟩ | exact ⟨(q + 1, mp3), ⟨by dsimp only; omega, cnt_miss (by omega) hc3n ht⟩, (by dsimp only; omega), hf.back (by repeat (first | (with_reducible exact Ext.base) | ((with_reducible refine Ext.cons ?_ ?_); (· rfl)) | ((with_reducible refine Ext.over ?_ ?_ ?_); (· rfl); (· rfl)))) (allKeys rfl) (.cons rfl .nil), hs.dropN 1⟩
        · skip
          have ht : ¬ (((i : Nat) : Int) ≠ ((j : Nat) : Int) ∧ touchB b i j (decide (q = 1)) = true) := by rw [← bne_iff_ne, ← Bool.and_eq_true, hc4]; simp
          refine c_skip (q_blkN (q_thenN ?_))
          refine c_reg1 ?_
          refine gL hf (g_addI hf rfl rfl (by omega)) (by decide) ?_; clear hf a; intro a hf
          refine gL hf (g_mv hf rfl) (by decide) ?_; clear hf a; intro a hf
          refine e_nil1 (q_thenN ?_)
          first | exact ⟨(q + 1, mset (mput mp3 i j) (midx mp3 i j) (mget mp3 i j + 1)), ⟨by dsimp only; omega, cnt_hit hin hjn (by omega) hc3n ht rfl⟩, (by dsimp only; omega), hf.back (by repeat (first | (with_reducible exact Ext.base) | ((with_reducible refine Ext.cons ?_ ?_); (· rfl)) | ((with_reducible refine Ext.over ?_ ?_ ?_); (· rfl); (· rfl)))) (allKeys rfl) (.cons rfl .nil), hs.dropN 1⟩ | exact ⟨(q + 1, mset (mput mp3 i j) (midx mp3 i j) (mget (mput mp3 i j) i j + 1)), ⟨by dsimp only; omega, cnt_hit hin hjn (by omega) hc3n ht (by rw [mget_put])⟩, (by dsimp only; omega), hf.back (by repeat (first | (with_reducible exact Ext.base) | ((with_reducible refine Ext.cons ?_ ?_); (· rfl)) | ((with_reducible refine Ext.over ?_ ?_ ?_); (· rfl); (· rfl)))) (allKeys rfl) (.cons rfl .nil), hs.dropN 1⟩ | exact ⟨(q + 1, mp3), ⟨by dsimp only; omega, cnt_miss (by omega) hc3n ht⟩, (by dsimp only; omega), hf.back (by repeat (first | (with_reducible exact Ext.base) | ((with_reducible refine Ext.cons ?_ ?_); (· rfl)) | ((with_reducible refine Ext.over ?_ ?_ ?_); (· rfl); (· rfl)))) (allKeys rfl) (.cons rfl .nil), hs.dropN 1⟩
      · try simp only [decide_eq_true_eq, decide_eq_false_iff_not] at hc3
        obtain rfl : q = 2 := by omega
        refine c_exit (q_thenX (q_thenX (q_blkX (q_blkN (q_thenN ?_)))))
        refine c_reg1 ?_
        refine gL hf (g_addI hf rfl rfl (by omega)) (by decide) ?_; clear hf a; intro a hf
        refine gL hf (g_mv hf rfl) (by decide) ?_; clear hf a; intro a hf
        refine e_nil1 (q_thenN ?_)
        exact ⟨(j + 1, mp3), ⟨by dsimp only; omega, cnt_next hc3n⟩, (by dsimp only; omega), hf.back (by repeat (first | (with_reducible exact Ext.base) | ((with_reducible refine Ext.cons ?_ ?_); (· rfl)) | ((with_reducible refine Ext.over ?_ ?_ ?_); (· rfl); (· rfl)))) (allKeys rfl) (.cons rfl .nil), hs.dropN 2⟩
    · try simp only [decide_eq_true_eq, decide_eq_false_iff_not] at hc2
      obtain rfl : j = b.flaps.length := by omega
      refine c_exit (q_thenX (q_thenX (q_blkX (q_blkN (q_thenN ?_)))))
      refine c_reg1 ?_
      refine gL hf (g_addI hf rfl rfl (by omega)) (by decide) ?_; clear hf a; intro a hf
      refine gL hf (g_mv hf rfl) (by decide) ?_; clear hf a; intro a hf
      refine e_nil1 (q_thenN ?_)
      exact ⟨(i + 1, mp2), ⟨by dsimp only; omega, cnt_row hc2n⟩, (by dsimp only; omega), hf.back (by repeat (first | (with_reducible exact Ext.base) | ((with_reducible refine Ext.cons ?_ ?_); (· rfl)) | ((with_reducible refine Ext.over ?_ ?_ ?_); (· rfl); (· rfl)))) (allKeys rfl) (.cons rfl .nil), hs.dropN 0⟩
  · try simp only [decide_eq_true_eq, decide_eq_false_iff_not] at hc1
    obtain rfl : i = b.flaps.length := by omega
    refine c_exit (q_thenX (q_thenX (q_blkX (q_thenN ?_))))
    refine c_reg ?_
    refine gL hf (g_ldW hf hs T80 rfl (k := 0) rfl rfl) (by decide) ?_; clear hf a; intro a hf
    refine uL (u_stW hf hs T80 rfl rfl rfl (k := 2) rfl rfl rfl) ?_; clear hs; intro w hs; dsimp only [List.set] at hs
    refine e_nil ?_
    refine c_ret ?_
    refine e_res hf hs rfl (.cellA T80 rfl (k := 2) rfl rfl .nil) rfl ?_
    have ho := hs.own b3 (mapO mp1) (.tail _ (.head _))
    exact ⟨_, rfl, hs.below, b3, mp1, rfl, cnt_done hc1n, ho.1, ho.2⟩

end Go.Proofs.YtjjcopeedcdokaaDoor

set_option linter.unusedVariables false
set_option linter.unusedSimpArgs false
namespace Go.Proofs.YtjjcopeedcdokaaDoor
open Go.RowKit
theorem c_asked (b : Sheet) (fA : Option Addr) (fc : Nat) (rA : Option Addr) (rc : Nat) (ge : TypeId) (gz : Nat × Nat) (ok : Bool) (w0 : World) (h : ShIn b fA fc rA rc w0) (hG : BlkIs 1 sidesA ge gz w0) :
    Calls Tryd.prog 65 #[.agg #[.int .i64 b.wide, .int .i64 b.high, .slice fA b.flaps.length fc, .slice rA b.rules.length rc], .bool ok] w0 (RetX w0 (askR b fA fc rA rc ok w0)) := by
  refine c_enter (n := 18) Tryd.func65 rfl rfl (Nat.le_of_ble_eq_true rfl) ?_; intro a hf; simp only [zipR] at hf
  have hs := St.start w0 [Rd encF 5 fA b.flaps.length b.flaps, Rd encR 2 rA b.rules.length b.rules, BlkIs 1 sidesA ge gz] (stab_app h.stab hG.st1)
  have hfm := h.F.2.1; have hrm := h.R.2.1
  refine c_reg ?_
  refine vL hf (v_boxA hf hs rfl) (by decide) ?_; clear hs hf a; rintro _ w ⟨b1, rfl, hs⟩ a hf
  refine vL hf (v_alloc hs T80 rfl) (by decide) ?_; clear hs hf a; rintro _ w ⟨b2, rfl, hs⟩ a hf
  refine gL hf (g_as hf rfl) (by decide) ?_; clear hf a; intro a hf
  refine e_nil ?_
  refine wp_seq ?_
  refine c_reg ?_
  refine gL hf (g_ldW hf hs T25 rfl (k := 1) rfl rfl) (by decide) ?_; clear hf a; intro a hf
  refine callL hf hs (c_Check b _ _ _ _ _ ⟨hs.rd (.head _), hs.rd (.tail _ (.head _)), h.fc_, h.rc_⟩) rfl rfl rfl E61 (by decide) ?_; clear hs hf a; intro w a hs hf
  refine gL hf (g_as hf rfl) (by decide) ?_; clear hf a; intro a hf
  refine e_nil ?_
  refine c_reg ?_
  refine gL hf (g_mv hf rfl) (by decide) ?_; clear hf a; intro a hf
  refine gL hf (g_neq hf rfl rfl) (by decide) ?_; clear hf a; intro a hf
  refine e_nil ?_
  refine c_cond hf rfl (fun hc1 => ?_) (fun hc1 => ?_)
  · try simp only [decide_eq_true_eq, decide_eq_false_iff_not] at hc1
    have hck : checkB b = false := by cases h9 : checkB b <;> simp_all
    have he : askE b ok = 40 := by simp [askE, hck]
    refine c_reg ?_
    refine gL hf (g_bld hf [[.int .i64 0, .int .i64 0, .slice none 0 0, .slice none 0 0], [.map none]] .nil (fun _ => by kernel_rfl)) (by decide) ?_; clear hf a; intro a hf
    refine gL hf (g_mv hf rfl) (by decide) ?_; clear hf a; intro a hf
    refine uL (u_stW hf hs T80 rfl rfl rfl (k := 0) rfl rfl rfl) ?_; clear hs; intro w hs; dsimp only [List.set] at hs
    refine gL hf (g_as hf rfl) (by decide) ?_; clear hf a; intro a hf
    refine e_nil ?_
    refine c_ret (q_thenR ?_)
    refine e_res hf hs rfl (.cellA T80 rfl (k := 0) rfl rfl (.tmp rfl .nil)) rfl ?_
    exact ⟨_, rfl, hs.below, [.int .i64 0, .int .i64 0, .slice none 0 0, .slice none 0 0, .map none], 0, [], by rw [he, hck]; rfl, rfl, rfl, fun h0 => absurd h0 (by omega)⟩
  · try simp only [decide_eq_true_eq, decide_eq_false_iff_not] at hc1
    have hck : checkB b = true := by cases h9 : checkB b <;> simp_all
    refine c_skip (q_thenN ?_)
    refine wp_seq ?_
    refine c_reg ?_
    refine gL hf (g_mv hf rfl) (by decide) ?_; clear hf a; intro a hf
    refine gL hf (g_not hf rfl) (by decide) ?_; clear hf a; intro a hf
    refine e_nil ?_
    refine c_cond hf rfl (fun hc2 => ?_) (fun hc2 => ?_)
    · try simp only [decide_eq_true_eq, decide_eq_false_iff_not] at hc2
      have he : askE b ok = 41 := by simp at hc2; simp [askE, hck, hc2]
      refine c_reg ?_
      refine gL hf (g_bld hf [[.int .i64 0, .int .i64 0, .slice none 0 0, .slice none 0 0], [.map none]] .nil (fun _ => by kernel_rfl)) (by decide) ?_; clear hf a; intro a hf
      refine uL (u_stW hf hs T80 rfl rfl rfl (k := 0) rfl rfl rfl) ?_; clear hs; intro w hs; dsimp only [List.set] at hs
      refine gL hf (g_as hf rfl) (by decide) ?_; clear hf a; intro a hf
      refine e_nil ?_
      refine c_ret (q_thenR ?_)
      refine e_res hf hs rfl (.cellA T80 rfl (k := 0) rfl rfl (.tmp rfl .nil)) rfl ?_
      exact ⟨_, rfl, hs.below, [.int .i64 0, .int .i64 0, .slice none 0 0, .slice none 0 0, .map none], 0, [], by rw [he]; rfl, rfl, rfl, fun h0 => absurd h0 (by omega)⟩
    · try simp only [decide_eq_true_eq, decide_eq_false_iff_not] at hc2
      have he : askE b ok = 0 := by simp at hc2; simp [askE, hck, hc2]
      refine c_skip (q_thenN ?_)
      refine c_reg ?_
      refine gL hf (g_ldW hf hs T25 rfl (k := 1) rfl rfl) (by decide) ?_; clear hf a; intro a hf
      refine callX hf hs (c_opened b _ _ _ _ _ _ (valid_of hck) _ ⟨hs.rd (.head _), hs.rd (.tail _ (.head _)), h.fc_, h.rc_⟩ (hs.rd (.tail _ (.tail _ (.head _))))) rfl rfl rfl E102 (by decide) ?_; intro v w1 a hR hb hs1 hf; obtain ⟨mb, mp, rfl, hmo, hle, hmi⟩ := hR; have hle0 := Nat.le_trans hs.below.size hle; replace hs := hs.fresh hs1 (mapFresh hle hmi); clear hs1 hb
      refine uL (u_stW hf hs T80 rfl rfl rfl (k := 0) rfl rfl rfl) ?_; clear hs; intro w hs; dsimp only [List.set] at hs
      refine gL hf (g_as hf rfl) (by decide) ?_; clear hf a; intro a hf
      refine e_nil ?_
      refine c_ret ?_
      refine e_res hf hs rfl (.cellA T80 rfl (k := 0) rfl rfl (.tmp rfl .nil)) rfl ?_
      exact ⟨_, rfl, hs.below, sh5 b fA fc rA rc mb, mb, mp, by rw [he]; rfl, rfl, rfl, fun _ => ⟨rfl, hmo, hle0, hs.rd (.head _)⟩⟩

theorem c_Does (b : Sheet) (fA : Option Addr) (fc : Nat) (rA : Option Addr) (rc : Nat) (oA : Option Addr) (oc : Nat) (l : List Int) (ge : TypeId) (gz : Nat × Nat) (hck : checkB b = true) (w0 : World) (h : ShIn b fA fc rA rc w0) (ho : Rd encI 1 oA l.length l w0) (hG : BlkIs 1 sidesA ge gz w0) :
    Calls Tryd.prog 51 #[.agg #[.int .i64 b.wide, .int .i64 b.high, .slice fA b.flaps.length fc, .slice rA b.rules.length rc], .slice oA l.length oc] w0 (Ret w0 (.tuple #[.int .i64 (doesP b l).1, .int .i64 (doesP b l).2])) := by
  refine c_enter (n := 53) Tryd.func51 rfl rfl (Nat.le_of_ble_eq_true rfl) ?_; intro a hf; simp only [zipR] at hf
  have hs := St.start w0 [Rd encF 5 fA b.flaps.length b.flaps, Rd encR 2 rA b.rules.length b.rules, Rd encI 1 oA l.length l, BlkIs 1 sidesA ge gz] (stab_app h.stab (stab_app ho.st1 hG.st1))
  have hfm := h.F.2.1; have hrm := h.R.2.1; have hlm := ho.2.1
  have hv := valid_of hck
  refine c_reg ?_
  refine vL hf (v_boxA hf hs rfl) (by decide) ?_; clear hs hf a; rintro _ w ⟨b1, rfl, hs⟩ a hf
  refine gL hf (g_as hf rfl) (by decide) ?_; clear hf a; intro a hf
  refine gL hf (g_as hf rfl) (by decide) ?_; clear hf a; intro a hf
  refine e_nil ?_
  refine c_draw _ 11 Mx rfl hs (fun _ h => h) ?_; intro w hs hS
  refine gA hf hS (i := 0) rfl (by kernel_rfl) (fun w hs => g_ldW hf hs T25 rfl (k := 0) rfl rfl) (by decide) ?_; clear hf a; intro a hf
  refine gA hf hS (i := 1) rfl (by kernel_rfl) (fun w hs => g_ldW hf hs T25 rfl (k := 0) rfl rfl) (by decide) ?_; clear hf a; intro a hf
  refine gA hf hS (i := 2) rfl (by kernel_rfl) (fun w hs => g_mv hf rfl) (by decide) ?_; clear hf a; intro a hf
  refine two (i := 3) (j := 8) (by kernel_rfl) ?_ ?_
  · skip
    refine oCall hf hs rfl (c_isOrder b _ _ _ _ _ _ l hv _ ⟨hs.rd (.head _), hs.rd (.tail _ (.head _)), h.fc_, h.rc_⟩ (hs.rd (.tail _ (.tail _ (.head _))))) rfl rfl rfl E95 (by decide) (fun _ h => h.sub (.refl _)) ?_; clear hs hf hS a; intro w a hs hS hf
    refine two (i := 4) (j := 8) (by kernel_rfl) ?_ ?_
    · skip
      refine oCallX hf hs rfl (c_asked b _ _ _ _ _ _ (ordB b l) _ ⟨hs.rd (.head _), hs.rd (.tail _ (.head _)), h.fc_, h.rc_⟩ (hs.rd (.tail _ (.tail _ (.tail _ (.head _)))))) rfl rfl rfl E65 (by decide) (fun _ h => h.sub (.refl _)) ?_; intro v w1 a hR hb hs1 hS hf; obtain ⟨cs, mb, mp, rfl, hcl, hcp, hcm⟩ := hR; replace hs := hs.fresh hs1 (condFresh fun he => (hcm he).2.2); clear hs1 hb
      refine gA hf hS (i := 5) rfl (by kernel_rfl) (fun w hs => g_mv hf rfl) (by decide) ?_; clear hf a; intro a hf
      refine gA hf hS (i := 6) rfl (by kernel_rfl) (fun w hs => g_ext hf rfl rfl) (by decide) ?_; clear hf a; intro a hf
      refine gA hf hS (i := 7) rfl (by kernel_rfl) (fun w hs => g_ext hf rfl rfl) (by decide) ?_; clear hf a; intro a hf
      refine one (i := 8) (by kernel_rfl) ?_
      refine oV hf rfl (v_alloc hs T80 rfl) (by decide) (fun _ _ ⟨_, _, h⟩ => (h.sub (.cons _ (.refl _))).subD (fun _ h => (.tail _ h))) ?_; clear hs hf hS a; rintro _ w ⟨b2, rfl, hs⟩ hS a hf
      refine one (i := 9) (by kernel_rfl) ?_
      refine oU rfl (u_stW hf hs T80 rfl rfl hcp (k := 0) rfl hcl hcl) (fun _ h => (h.sub (.cons _ (.refl _))).subD (fun _ h => (.tail _ h))) ?_; clear hs hS; intro w hs hS; dsimp only [List.set] at hs
      refine gA hf hS (i := 10) rfl (by kernel_rfl) (fun w hs => g_as hf rfl) (by decide) ?_; clear hf a; intro a hf
      refine e_done (by kernel_rfl) ?_
      refine wp_seq ?_
      refine c_reg ?_
      refine gL hf (g_mv hf rfl) (by decide) ?_; clear hf a; intro a hf
      refine gL hf (g_neq hf rfl rfl) (by decide) ?_; clear hf a; intro a hf
      refine e_nil ?_
      refine c_cond hf rfl (fun hc1 => ?_) (fun hc1 => ?_)
      · try simp only [decide_eq_true_eq, decide_eq_false_iff_not] at hc1
        have he : ¬ askE b (ordB b l) = 0 := by simpa using hc1
        refine c_reg ?_
        refine gL hf (g_mv hf rfl) (by decide) ?_; clear hf a; intro a hf
        refine gL hf (g_as hf rfl) (by decide) ?_; clear hf a; intro a hf
        refine gL hf (g_as hf rfl) (by decide) ?_; clear hf a; intro a hf
        refine e_nil ?_
        refine c_ret (q_thenR ?_)
        refine e_ret2 hf rfl rfl rfl ?_
        exact ⟨by simp only [doesP, if_neg he]; rfl, hs.below⟩
      · try simp only [decide_eq_true_eq, decide_eq_false_iff_not] at hc1
        have he : askE b (ordB b l) = 0 := by simpa using hc1
        obtain ⟨rfl, hmo, _, _⟩ := hcm he
        replace hs := hs.un (fun w h => h he)
        refine c_skip (q_thenN ?_)
        refine c_reg ?_
        refine gL hf (g_as hf rfl) (by decide) ?_; clear hf a; intro a hf
        refine e_nil ?_
        refine wp_seq ?_
        refine c_reg ?_
        refine gL hf (g_fa (off' := 0) hf F80_0 rfl rfl) (by decide) ?_; clear hf a; intro a hf
        refine gL hf (g_fa (off' := 3) hf F25_3 rfl rfl) (by decide) ?_; clear hf a; intro a hf
        refine gL hf (g_ld hf hs T23 rfl (k := 0) rfl rfl) (by decide) ?_; clear hf a; intro a hf
        refine gL hf (g_len hf SL23 rfl) (by decide) ?_; clear hf a; intro a hf
        refine gL hf (g_mv hf rfl) (by decide) ?_; clear hf a; intro a hf
        refine e_nil ?_
        refine c_block ?_
        refine c_loop hf hs (List.range' 8 1 ++ List.range' 10 1 ++ List.range' 26 25) (σ := Nat) (fun k => [(8, .int .i64 (worst b l k)), (26, .int .i64 (k : Nat))]) (fun k => _) (fun k => k ≤ b.rules.length) (fun k => b.rules.length - k) 0 (by omega) (.cons rfl (.cons rfl .nil)) rfl ?_
        intro k a w hJ hf hs
        refine c_reg ?_
        refine gL hf (g_lss hf rfl rfl) (by decide) ?_; clear hf a; intro a hf
        refine e_nil ?_
        refine c_condS hf rfl (fun hc2 => ?_) (fun hc2 => ?_)
        · try simp only [decide_eq_true_eq, decide_eq_false_iff_not] at hc2
          have hrm9 := getD_mem (l := b.rules) (i := k) (by omega)
          refine c_skip (q_thenN ?_)
          refine c_blockS ?_
          refine c_reg ?_
          (first | (refine gL hf (g_ixE hf hs (.tail _ (.tail _ (.head _))) SL23 rfl rfl (by omega)) (by decide) ?_) | (refine gL hf (g_ixD hf hs (.tail _ (.tail _ (.head _))) SL23 rfl rfl (by omega)) (by decide) ?_)); clear hf a; intro a hf
          refine gL hf (g_ldEW hf hs (.tail _ (.tail _ (.head _))) T51 rfl rfl (by omega)) (by decide) ?_; clear hf a; intro a hf
          refine vL hf (v_alloc hs T51 rfl) (by decide) ?_; clear hs hf a; rintro _ w ⟨b3, rfl, hs⟩ a hf
          refine uL (u_stW hf hs T51 rfl rfl rfl (k := 0) rfl rfl rfl) ?_; clear hs; intro w hs; dsimp only [List.set] at hs
          refine e_nil ?_
          refine c_draw _ 9 Mx rfl hs (fun _ h => h) ?_; intro w hs hS
          refine gA hf hS (i := 0) rfl (by kernel_rfl) (fun w hs => g_mv hf rfl) (by decide) ?_; clear hf a; intro a hf
          refine gA hf hS (i := 1) rfl (by kernel_rfl) (fun w hs => g_fa (off' := 1) hf F51_1 rfl rfl) (by decide) ?_; clear hf a; intro a hf
          refine gA hf hS (i := 2) rfl (by kernel_rfl) (fun w hs => g_ld hf hs T3 rfl (k := 0) rfl rfl) (by decide) ?_; clear hf a; intro a hf
          refine gA hf hS (i := 4) rfl (by kernel_rfl) (fun w hs => g_mv hf rfl) (by decide) ?_; clear hf a; intro a hf
          refine gA hf hS (i := 5) rfl (by kernel_rfl) (fun w hs => g_fa (off' := 0) hf F51_0 rfl rfl) (by decide) ?_; clear hf a; intro a hf
          refine gA hf hS (i := 6) rfl (by kernel_rfl) (fun w hs => g_ld hf hs T3 rfl (k := 0) rfl rfl) (by decide) ?_; clear hf a; intro a hf
          refine one (i := 3) (by kernel_rfl) ?_
          refine oCall hf hs rfl (c_Index _ _ _ l _ _ (hs.rd (.tail _ (.tail _ (.tail _ (.head _)))))) rfl rfl rfl E96 (by decide) (fun _ h => h.sub (.refl _)) ?_; clear hs hf hS a; intro w a hs hS hf
          refine one (i := 7) (by kernel_rfl) ?_
          refine oCall hf hs rfl (c_Index _ _ _ l _ _ (hs.rd (.tail _ (.tail _ (.tail _ (.head _)))))) rfl rfl rfl E96 (by decide) (fun _ h => h.sub (.refl _)) ?_; clear hs hf hS a; intro w a hs hS hf
          refine gA hf hS (i := 8) rfl (by kernel_rfl) (fun w hs => g_gtr hf rfl rfl) (by decide) ?_; clear hf a; intro a hf
          refine e_done (by kernel_rfl) ?_
          refine c_cond hf rfl (fun hc3 => ?_) (fun hc3 => ?_)
          · try simp only [decide_eq_true_eq, decide_eq_false_iff_not] at hc3
            have e9 : worst b l (k + 1) = max (worst b l k) (mget mp (b.rules.getD k default).over (b.rules.getD k default).under) := by rw [worst_succ (by omega), stepW, if_pos hc3, meets_rule hv hmo hrm9]
            refine c_reg1 ?_
            refine gL hf (g_mv hf rfl) (by decide) ?_; clear hf a; intro a hf
            refine gL hf (g_fa (off' := 4) hf F80_1 rfl rfl) (by decide) ?_; clear hf a; intro a hf
            refine gL hf (g_ld hf hs T78 rfl (k := 1) rfl rfl) (by decide) ?_; clear hf a; intro a hf
            refine gL hf (g_fa (off' := 0) hf F51_0 rfl rfl) (by decide) ?_; clear hf a; intro a hf
            refine gL hf (g_ld hf hs T3 rfl (k := 0) rfl rfl) (by decide) ?_; clear hf a; intro a hf
            refine gL hf (g_fa (off' := 1) hf F51_1 rfl rfl) (by decide) ?_; clear hf a; intro a hf
            refine gL hf (g_ld hf hs T3 rfl (k := 0) rfl rfl) (by decide) ?_; clear hf a; intro a hf
            refine gL hf (g_bld hf [[.int .i64 0], [.int .i64 0]] (.cons rfl (.cons rfl .nil)) (fun _ => by kernel_rfl)) (by decide) ?_; clear hf a; intro a hf
            refine gL hf (g_lookD hf hs (.head _) MT78 rfl rfl) (by decide) ?_; clear hf a; intro a hf
            refine vL hf (v_lits (len := 1) hf hs SL31 T3 (.cons rfl .nil) rfl rfl rfl rfl (by decide) rfl) (by decide) ?_; clear hs hf a; rintro _ w ⟨b4, rfl, hs⟩ a hf
            refine callL hf hs (c_greatest _ _ [_] (worst b l k) _ (rd_one rfl (hs.own _ _ (.head _)).2)) rfl rfl rfl E97 (by decide) ?_; clear hs hf a; intro w a hs hf
            refine gL hf (g_as hf rfl) (by decide) ?_; clear hf a; intro a hf
            refine e_nil1 (q_blkN (q_thenN ?_))
            refine c_reg1 ?_
            refine gL hf (g_addI hf rfl rfl (by omega)) (by decide) ?_; clear hf a; intro a hf
            refine gL hf (g_mv hf rfl) (by decide) ?_; clear hf a; intro a hf
            refine e_nil1 (q_thenN ?_)
            first | rw [show maxL (worst b l k) [mget mp (b.rules.getD k default).over (b.rules.getD k default).under] = worst b l (k + 1) from e9.symm] at hf | rw [← e9] at hf
            exact ⟨k + 1, (by omega), (by omega), hf.back (by repeat (first | (with_reducible exact Ext.base) | ((with_reducible refine Ext.cons ?_ ?_); (· rfl)) | ((with_reducible refine Ext.over ?_ ?_ ?_); (· rfl); (· rfl)))) (allKeys rfl) (.cons rfl (.cons rfl .nil)), hs.dropN 2⟩
          · try simp only [decide_eq_true_eq, decide_eq_false_iff_not] at hc3
            have e9 : worst b l (k + 1) = worst b l k := by rw [worst_succ (by omega), stepW, if_neg hc3]
            refine c_skip (q_blkN (q_thenN ?_))
            refine c_reg1 ?_
            refine gL hf (g_addI hf rfl rfl (by omega)) (by decide) ?_; clear hf a; intro a hf
            refine gL hf (g_mv hf rfl) (by decide) ?_; clear hf a; intro a hf
            refine e_nil1 (q_thenN ?_)
            first | rw [show maxL (worst b l k) [mget mp (b.rules.getD k default).over (b.rules.getD k default).under] = worst b l (k + 1) from e9.symm] at hf | rw [← e9] at hf
            exact ⟨k + 1, (by omega), (by omega), hf.back (by repeat (first | (with_reducible exact Ext.base) | ((with_reducible refine Ext.cons ?_ ?_); (· rfl)) | ((with_reducible refine Ext.over ?_ ?_ ?_); (· rfl); (· rfl)))) (allKeys rfl) (.cons rfl (.cons rfl .nil)), hs.dropN 1⟩
        · try simp only [decide_eq_true_eq, decide_eq_false_iff_not] at hc2
          refine c_exit (q_thenX (q_thenX (q_blkX (q_thenN ?_))))
          refine c_reg ?_
          refine gL hf (g_mv hf rfl) (by decide) ?_; clear hf a; intro a hf
          refine gL hf (g_subI hf rfl rfl (by have := worst_le b l k; omega)) (by decide) ?_; clear hf a; intro a hf
          refine gL hf (g_as hf rfl) (by decide) ?_; clear hf a; intro a hf
          refine gL hf (g_as hf rfl) (by decide) ?_; clear hf a; intro a hf
          refine e_nil ?_
          refine c_ret ?_
          refine e_ret2 hf rfl rfl rfl ?_
          have hk9 : k = b.rules.length := by omega
          subst hk9
          exact ⟨by simp only [doesP, he, if_true], hs.below⟩
    · skip
      refine oV hf rfl (v_alloc hs T80 rfl) (by decide) (fun _ _ ⟨_, _, h⟩ => h.sub (.cons _ (.refl _))) ?_; clear hs hf hS a; rintro _ w ⟨b2, rfl, hs⟩ hS a hf
      refine one (i := 4) (by kernel_rfl) ?_
      refine oCallX hf hs rfl (c_asked b _ _ _ _ _ _ (ordB b l) _ ⟨hs.rd (.head _), hs.rd (.tail _ (.head _)), h.fc_, h.rc_⟩ (hs.rd (.tail _ (.tail _ (.tail _ (.head _)))))) rfl rfl rfl E65 (by decide) (fun _ h => h.sub (.cons _ (.refl _))) ?_; intro v w1 a hR hb hs1 hS hf; obtain ⟨cs, mb, mp, rfl, hcl, hcp, hcm⟩ := hR; replace hs := hs.fresh hs1 (condFresh fun he => (hcm he).2.2); clear hs1 hb
      refine gA hf hS (i := 5) rfl (by kernel_rfl) (fun w hs => g_mv hf rfl) (by decide) ?_; clear hf a; intro a hf
      refine gA hf hS (i := 6) rfl (by kernel_rfl) (fun w hs => g_ext hf rfl rfl) (by decide) ?_; clear hf a; intro a hf
      refine gA hf hS (i := 7) rfl (by kernel_rfl) (fun w hs => g_ext hf rfl rfl) (by decide) ?_; clear hf a; intro a hf
      refine one (i := 9) (by kernel_rfl) ?_
      refine oU rfl (u_stW hf hs T80 rfl rfl hcp (k := 0) rfl hcl hcl) (fun _ h => (h.sub (.cons _ (.refl _))).subD (fun _ h => (.tail _ h))) ?_; clear hs hS; intro w hs hS; dsimp only [List.set] at hs
      refine gA hf hS (i := 10) rfl (by kernel_rfl) (fun w hs => g_as hf rfl) (by decide) ?_; clear hf a; intro a hf
      refine e_done (by kernel_rfl) ?_
      refine wp_seq ?_
      refine c_reg ?_
      refine gL hf (g_mv hf rfl) (by decide) ?_; clear hf a; intro a hf
      refine gL hf (g_neq hf rfl rfl) (by decide) ?_; clear hf a; intro a hf
      refine e_nil ?_
      refine c_cond hf rfl (fun hc1 => ?_) (fun hc1 => ?_)
      · try simp only [decide_eq_true_eq, decide_eq_false_iff_not] at hc1
        have he : ¬ askE b (ordB b l) = 0 := by simpa using hc1
        refine c_reg ?_
        refine gL hf (g_mv hf rfl) (by decide) ?_; clear hf a; intro a hf
        refine gL hf (g_as hf rfl) (by decide) ?_; clear hf a; intro a hf
        refine gL hf (g_as hf rfl) (by decide) ?_; clear hf a; intro a hf
        refine e_nil ?_
        refine c_ret (q_thenR ?_)
        refine e_ret2 hf rfl rfl rfl ?_
        exact ⟨by simp only [doesP, if_neg he]; rfl, hs.below⟩
      · try simp only [decide_eq_true_eq, decide_eq_false_iff_not] at hc1
        have he : askE b (ordB b l) = 0 := by simpa using hc1
        obtain ⟨rfl, hmo, _, _⟩ := hcm he
        replace hs := hs.un (fun w h => h he)
        refine c_skip (q_thenN ?_)
        refine c_reg ?_
        refine gL hf (g_as hf rfl) (by decide) ?_; clear hf a; intro a hf
        refine e_nil ?_
        refine wp_seq ?_
        refine c_reg ?_
        refine gL hf (g_fa (off' := 0) hf F80_0 rfl rfl) (by decide) ?_; clear hf a; intro a hf
        refine gL hf (g_fa (off' := 3) hf F25_3 rfl rfl) (by decide) ?_; clear hf a; intro a hf
        refine gL hf (g_ld hf hs T23 rfl (k := 0) rfl rfl) (by decide) ?_; clear hf a; intro a hf
        refine gL hf (g_len hf SL23 rfl) (by decide) ?_; clear hf a; intro a hf
        refine gL hf (g_mv hf rfl) (by decide) ?_; clear hf a; intro a hf
        refine e_nil ?_
        refine c_block ?_
        refine c_loop hf hs (List.range' 8 1 ++ List.range' 10 1 ++ List.range' 26 25) (σ := Nat) (fun k => [(8, .int .i64 (worst b l k)), (26, .int .i64 (k : Nat))]) (fun k => _) (fun k => k ≤ b.rules.length) (fun k => b.rules.length - k) 0 (by omega) (.cons rfl (.cons rfl .nil)) rfl ?_
        intro k a w hJ hf hs
        refine c_reg ?_
        refine gL hf (g_lss hf rfl rfl) (by decide) ?_; clear hf a; intro a hf
        refine e_nil ?_
        refine c_condS hf rfl (fun hc2 => ?_) (fun hc2 => ?_)
        · try simp only [decide_eq_true_eq, decide_eq_false_iff_not] at hc2
          have hrm9 := getD_mem (l := b.rules) (i := k) (by omega)
          refine c_skip (q_thenN ?_)
          refine c_blockS ?_
          refine c_reg ?_
          (first | (refine gL hf (g_ixE hf hs (.tail _ (.tail _ (.head _))) SL23 rfl rfl (by omega)) (by decide) ?_) | (refine gL hf (g_ixD hf hs (.tail _ (.tail _ (.head _))) SL23 rfl rfl (by omega)) (by decide) ?_)); clear hf a; intro a hf
          refine gL hf (g_ldEW hf hs (.tail _ (.tail _ (.head _))) T51 rfl rfl (by omega)) (by decide) ?_; clear hf a; intro a hf
          refine vL hf (v_alloc hs T51 rfl) (by decide) ?_; clear hs hf a; rintro _ w ⟨b3, rfl, hs⟩ a hf
          refine uL (u_stW hf hs T51 rfl rfl rfl (k := 0) rfl rfl rfl) ?_; clear hs; intro w hs; dsimp only [List.set] at hs
          refine e_nil ?_
          refine c_draw _ 9 Mx rfl hs (fun _ h => h) ?_; intro w hs hS
          refine gA hf hS (i := 0) rfl (by kernel_rfl) (fun w hs => g_mv hf rfl) (by decide) ?_; clear hf a; intro a hf
          refine gA hf hS (i := 1) rfl (by kernel_rfl) (fun w hs => g_fa (off' := 1) hf F51_1 rfl rfl) (by decide) ?_; clear hf a; intro a hf
          refine gA hf hS (i := 2) rfl (by kernel_rfl) (fun w hs => g_ld hf hs T3 rfl (k := 0) rfl rfl) (by decide) ?_; clear hf a; intro a hf
          refine gA hf hS (i := 4) rfl (by kernel_rfl) (fun w hs => g_mv hf rfl) (by decide) ?_; clear hf a; intro a hf
          refine gA hf hS (i := 5) rfl (by kernel_rfl) (fun w hs => g_fa (off' := 0) hf F51_0 rfl rfl) (by decide) ?_; clear hf a; intro a hf
          refine gA hf hS (i := 6) rfl (by kernel_rfl) (fun w hs => g_ld hf hs T3 rfl (k := 0) rfl rfl) (by decide) ?_; clear hf a; intro a hf
          refine one (i := 3) (by kernel_rfl) ?_
          refine oCall hf hs rfl (c_Index _ _ _ l _ _ (hs.rd (.tail _ (.tail _ (.tail _ (.head _)))))) rfl rfl rfl E96 (by decide) (fun _ h => h.sub (.refl _)) ?_; clear hs hf hS a; intro w a hs hS hf
          refine one (i := 7) (by kernel_rfl) ?_
          refine oCall hf hs rfl (c_Index _ _ _ l _ _ (hs.rd (.tail _ (.tail _ (.tail _ (.head _)))))) rfl rfl rfl E96 (by decide) (fun _ h => h.sub (.refl _)) ?_; clear hs hf hS a; intro w a hs hS hf
          refine gA hf hS (i := 8) rfl (by kernel_rfl) (fun w hs => g_gtr hf rfl rfl) (by decide) ?_; clear hf a; intro a hf
          refine e_done (by kernel_rfl) ?_
          refine c_cond hf rfl (fun hc3 => ?_) (fun hc3 => ?_)
          · try simp only [decide_eq_true_eq, decide_eq_false_iff_not] at hc3
            have e9 : worst b l (k + 1) = max (worst b l k) (mget mp (b.rules.getD k default).over (b.rules.getD k default).under) := by rw [worst_succ (by omega), stepW, if_pos hc3, meets_rule hv hmo hrm9]
            refine c_reg1 ?_
            refine gL hf (g_mv hf rfl) (by decide) ?_; clear hf a; intro a hf
            refine gL hf (g_fa (off' := 4) hf F80_1 rfl rfl) (by decide) ?_; clear hf a; intro a hf
            refine gL hf (g_ld hf hs T78 rfl (k := 1) rfl rfl) (by decide) ?_; clear hf a; intro a hf
            refine gL hf (g_fa (off' := 0) hf F51_0 rfl rfl) (by decide) ?_; clear hf a; intro a hf
            refine gL hf (g_ld hf hs T3 rfl (k := 0) rfl rfl) (by decide) ?_; clear hf a; intro a hf
            refine gL hf (g_fa (off' := 1) hf F51_1 rfl rfl) (by decide) ?_; clear hf a; intro a hf
            refine gL hf (g_ld hf hs T3 rfl (k := 0) rfl rfl) (by decide) ?_; clear hf a; intro a hf
            refine gL hf (g_bld hf [[.int .i64 0], [.int .i64 0]] (.cons rfl (.cons rfl .nil)) (fun _ => by kernel_rfl)) (by decide) ?_; clear hf a; intro a hf
            refine gL hf (g_lookD hf hs (.head _) MT78 rfl rfl) (by decide) ?_; clear hf a; intro a hf
            refine vL hf (v_lits (len := 1) hf hs SL31 T3 (.cons rfl .nil) rfl rfl rfl rfl (by decide) rfl) (by decide) ?_; clear hs hf a; rintro _ w ⟨b4, rfl, hs⟩ a hf
            refine callL hf hs (c_greatest _ _ [_] (worst b l k) _ (rd_one rfl (hs.own _ _ (.head _)).2)) rfl rfl rfl E97 (by decide) ?_; clear hs hf a; intro w a hs hf
            refine gL hf (g_as hf rfl) (by decide) ?_; clear hf a; intro a hf
            refine e_nil1 (q_blkN (q_thenN ?_))
            refine c_reg1 ?_
            refine gL hf (g_addI hf rfl rfl (by omega)) (by decide) ?_; clear hf a; intro a hf
            refine gL hf (g_mv hf rfl) (by decide) ?_; clear hf a; intro a hf
            refine e_nil1 (q_thenN ?_)
            first | rw [show maxL (worst b l k) [mget mp (b.rules.getD k default).over (b.rules.getD k default).under] = worst b l (k + 1) from e9.symm] at hf | rw [← e9] at hf
            exact ⟨k + 1, (by omega), (by omega), hf.back (by repeat (first | (with_reducible exact Ext.base) | ((with_reducible refine Ext.cons ?_ ?_); (· rfl)) | ((with_reducible refine Ext.over ?_ ?_ ?_); (· rfl); (· rfl)))) (allKeys rfl) (.cons rfl (.cons rfl .nil)), hs.dropN 2⟩
          · try simp only [decide_eq_true_eq, decide_eq_false_iff_not] at hc3
            have e9 : worst b l (k + 1) = worst b l k := by rw [worst_succ (by omega), stepW, if_neg hc3]
            refine c_skip (q_blkN (q_thenN ?_))
            refine c_reg1 ?_
            refine gL hf (g_addI hf rfl rfl (by omega)) (by decide) ?_; clear hf a; intro a hf
            refine gL hf (g_mv hf rfl) (by decide) ?_; clear hf a; intro a hf
            refine e_nil1 (q_thenN ?_)
            first | rw [show maxL (worst b l k) [mget mp (b.rules.getD k default).over (b.rules.getD k default).under] = worst b l (k + 1) from e9.symm] at hf | rw [← e9] at hf
            exact ⟨k + 1, (by omega), (by omega), hf.back (by repeat (first | (with_reducible exact Ext.base) | ((with_reducible refine Ext.cons ?_ ?_); (· rfl)) | ((with_reducible refine Ext.over ?_ ?_ ?_); (· rfl); (· rfl)))) (allKeys rfl) (.cons rfl (.cons rfl .nil)), hs.dropN 1⟩
        · try simp only [decide_eq_true_eq, decide_eq_false_iff_not] at hc2
          refine c_exit (q_thenX (q_thenX (q_blkX (q_thenN ?_))))
          refine c_reg ?_
          refine gL hf (g_mv hf rfl) (by decide) ?_; clear hf a; intro a hf
          refine gL hf (g_subI hf rfl rfl (by have := worst_le b l k; omega)) (by decide) ?_; clear hf a; intro a hf
          refine gL hf (g_as hf rfl) (by decide) ?_; clear hf a; intro a hf
          refine gL hf (g_as hf rfl) (by decide) ?_; clear hf a; intro a hf
          refine e_nil ?_
          refine c_ret ?_
          refine e_ret2 hf rfl rfl rfl ?_
          have hk9 : k = b.rules.length := by omega
          subst hk9
          exact ⟨by simp only [doesP, he, if_true], hs.below⟩
  · skip
    refine oV hf rfl (v_alloc hs T80 rfl) (by decide) (fun _ _ ⟨_, _, h⟩ => h.sub (.cons _ (.refl _))) ?_; clear hs hf hS a; rintro _ w ⟨b2, rfl, hs⟩ hS a hf
    refine one (i := 3) (by kernel_rfl) ?_
    refine oCall hf hs rfl (c_isOrder b _ _ _ _ _ _ l hv _ ⟨hs.rd (.head _), hs.rd (.tail _ (.head _)), h.fc_, h.rc_⟩ (hs.rd (.tail _ (.tail _ (.head _))))) rfl rfl rfl E95 (by decide) (fun _ h => h.sub (.cons _ (.refl _))) ?_; clear hs hf hS a; intro w a hs hS hf
    refine one (i := 4) (by kernel_rfl) ?_
    refine oCallX hf hs rfl (c_asked b _ _ _ _ _ _ (ordB b l) _ ⟨hs.rd (.head _), hs.rd (.tail _ (.head _)), h.fc_, h.rc_⟩ (hs.rd (.tail _ (.tail _ (.tail _ (.head _)))))) rfl rfl rfl E65 (by decide) (fun _ h => h.sub (.cons _ (.refl _))) ?_; intro v w1 a hR hb hs1 hS hf; obtain ⟨cs, mb, mp, rfl, hcl, hcp, hcm⟩ := hR; replace hs := hs.fresh hs1 (condFresh fun he => (hcm he).2.2); clear hs1 hb
    refine gA hf hS (i := 5) rfl (by kernel_rfl) (fun w hs => g_mv hf rfl) (by decide) ?_; clear hf a; intro a hf
    refine gA hf hS (i := 6) rfl (by kernel_rfl) (fun w hs => g_ext hf rfl rfl) (by decide) ?_; clear hf a; intro a hf
    refine gA hf hS (i := 7) rfl (by kernel_rfl) (fun w hs => g_ext hf rfl rfl) (by decide) ?_; clear hf a; intro a hf
    refine one (i := 9) (by kernel_rfl) ?_
    refine oU rfl (u_stW hf hs T80 rfl rfl hcp (k := 0) rfl hcl hcl) (fun _ h => (h.sub (.cons _ (.refl _))).subD (fun _ h => (.tail _ h))) ?_; clear hs hS; intro w hs hS; dsimp only [List.set] at hs
    refine gA hf hS (i := 10) rfl (by kernel_rfl) (fun w hs => g_as hf rfl) (by decide) ?_; clear hf a; intro a hf
    refine e_done (by kernel_rfl) ?_
    refine wp_seq ?_
    refine c_reg ?_
    refine gL hf (g_mv hf rfl) (by decide) ?_; clear hf a; intro a hf
    refine gL hf (g_neq hf rfl rfl) (by decide) ?_; clear hf a; intro a hf
    refine e_nil ?_
    refine c_cond hf rfl (fun hc1 => ?_) (fun hc1 => ?_)
    · try simp only [decide_eq_true_eq, decide_eq_false_iff_not] at hc1
      have he : ¬ askE b (ordB b l) = 0 := by simpa using hc1
      refine c_reg ?_
      refine gL hf (g_mv hf rfl) (by decide) ?_; clear hf a; intro a hf
      refine gL hf (g_as hf rfl) (by decide) ?_; clear hf a; intro a hf
      refine gL hf (g_as hf rfl) (by decide) ?_; clear hf a; intro a hf
      refine e_nil ?_
      refine c_ret (q_thenR ?_)
      refine e_ret2 hf rfl rfl rfl ?_
      exact ⟨by simp only [doesP, if_neg he]; rfl, hs.below⟩
    · try simp only [decide_eq_true_eq, decide_eq_false_iff_not] at hc1
      have he : askE b (ordB b l) = 0 := by simpa using hc1
      obtain ⟨rfl, hmo, _, _⟩ := hcm he
      replace hs := hs.un (fun w h => h he)
      refine c_skip (q_thenN ?_)
      refine c_reg ?_
      refine gL hf (g_as hf rfl) (by decide) ?_; clear hf a; intro a hf
      refine e_nil ?_
      refine wp_seq ?_
      refine c_reg ?_
      refine gL hf (g_fa (off' := 0) hf F80_0 rfl rfl) (by decide) ?_; clear hf a; intro a hf
      refine gL hf (g_fa (off' := 3) hf F25_3 rfl rfl) (by decide) ?_; clear hf a; intro a hf
      refine gL hf (g_ld hf hs T23 rfl (k := 0) rfl rfl) (by decide) ?_; clear hf a; intro a hf
      refine gL hf (g_len hf SL23 rfl) (by decide) ?_; clear hf a; intro a hf
      refine gL hf (g_mv hf rfl) (by decide) ?_; clear hf a; intro a hf
      refine e_nil ?_
      refine c_block ?_
      refine c_loop hf hs (List.range' 8 1 ++ List.range' 10 1 ++ List.range' 26 25) (σ := Nat) (fun k => [(8, .int .i64 (worst b l k)), (26, .int .i64 (k : Nat))]) (fun k => _) (fun k => k ≤ b.rules.length) (fun k => b.rules.length - k) 0 (by omega) (.cons rfl (.cons rfl .nil)) rfl ?_
      intro k a w hJ hf hs
      refine c_reg ?_
      refine gL hf (g_lss hf rfl rfl) (by decide) ?_; clear hf a; intro a hf
      refine e_nil ?_
      refine c_condS hf rfl (fun hc2 => ?_) (fun hc2 => ?_)
      · try simp only [decide_eq_true_eq, decide_eq_false_iff_not] at hc2
        have hrm9 := getD_mem (l := b.rules) (i := k) (by omega)
        refine c_skip (q_thenN ?_)
        refine c_blockS ?_
        refine c_reg ?_
        (first | (refine gL hf (g_ixE hf hs (.tail _ (.tail _ (.head _))) SL23 rfl rfl (by omega)) (by decide) ?_) | (refine gL hf (g_ixD hf hs (.tail _ (.tail _ (.head _))) SL23 rfl rfl (by omega)) (by decide) ?_)); clear hf a; intro a hf
        refine gL hf (g_ldEW hf hs (.tail _ (.tail _ (.head _))) T51 rfl rfl (by omega)) (by decide) ?_; clear hf a; intro a hf
        refine vL hf (v_alloc hs T51 rfl) (by decide) ?_; clear hs hf a; rintro _ w ⟨b3, rfl, hs⟩ a hf
        refine uL (u_stW hf hs T51 rfl rfl rfl (k := 0) rfl rfl rfl) ?_; clear hs; intro w hs; dsimp only [List.set] at hs
        refine e_nil ?_
        refine c_draw _ 9 Mx rfl hs (fun _ h => h) ?_; intro w hs hS
        refine gA hf hS (i := 0) rfl (by kernel_rfl) (fun w hs => g_mv hf rfl) (by decide) ?_; clear hf a; intro a hf
        refine gA hf hS (i := 1) rfl (by kernel_rfl) (fun w hs => g_fa (off' := 1) hf F51_1 rfl rfl) (by decide) ?_; clear hf a; intro a hf
        refine gA hf hS (i := 2) rfl (by kernel_rfl) (fun w hs => g_ld hf hs T3 rfl (k := 0) rfl rfl) (by decide) ?_; clear hf a; intro a hf
        refine gA hf hS (i := 4) rfl (by kernel_rfl) (fun w hs => g_mv hf rfl) (by decide) ?_; clear hf a; intro a hf
        refine gA hf hS (i := 5) rfl (by kernel_rfl) (fun w hs => g_fa (off' := 0) hf F51_0 rfl rfl) (by decide) ?_; clear hf a; intro a hf
        refine gA hf hS (i := 6) rfl (by kernel_rfl) (fun w hs => g_ld hf hs T3 rfl (k := 0) rfl rfl) (by decide) ?_; clear hf a; intro a hf
        refine one (i := 3) (by kernel_rfl) ?_
        refine oCall hf hs rfl (c_Index _ _ _ l _ _ (hs.rd (.tail _ (.tail _ (.tail _ (.head _)))))) rfl rfl rfl E96 (by decide) (fun _ h => h.sub (.refl _)) ?_; clear hs hf hS a; intro w a hs hS hf
        refine one (i := 7) (by kernel_rfl) ?_
        refine oCall hf hs rfl (c_Index _ _ _ l _ _ (hs.rd (.tail _ (.tail _ (.tail _ (.head _)))))) rfl rfl rfl E96 (by decide) (fun _ h => h.sub (.refl _)) ?_; clear hs hf hS a; intro w a hs hS hf
        refine gA hf hS (i := 8) rfl (by kernel_rfl) (fun w hs => g_gtr hf rfl rfl) (by decide) ?_; clear hf a; intro a hf
        refine e_done (by kernel_rfl) ?_
        refine c_cond hf rfl (fun hc3 => ?_) (fun hc3 => ?_)
        · try simp only [decide_eq_true_eq, decide_eq_false_iff_not] at hc3
          have e9 : worst b l (k + 1) = max (worst b l k) (mget mp (b.rules.getD k default).over (b.rules.getD k default).under) := by rw [worst_succ (by omega), stepW, if_pos hc3, meets_rule hv hmo hrm9]
          refine c_reg1 ?_
          refine gL hf (g_mv hf rfl) (by decide) ?_; clear hf a; intro a hf
          refine gL hf (g_fa (off' := 4) hf F80_1 rfl rfl) (by decide) ?_; clear hf a; intro a hf
          refine gL hf (g_ld hf hs T78 rfl (k := 1) rfl rfl) (by decide) ?_; clear hf a; intro a hf
          refine gL hf (g_fa (off' := 0) hf F51_0 rfl rfl) (by decide) ?_; clear hf a; intro a hf
          refine gL hf (g_ld hf hs T3 rfl (k := 0) rfl rfl) (by decide) ?_; clear hf a; intro a hf
          refine gL hf (g_fa (off' := 1) hf F51_1 rfl rfl) (by decide) ?_; clear hf a; intro a hf
          refine gL hf (g_ld hf hs T3 rfl (k := 0) rfl rfl) (by decide) ?_; clear hf a; intro a hf
          refine gL hf (g_bld hf [[.int .i64 0], [.int .i64 0]] (.cons rfl (.cons rfl .nil)) (fun _ => by kernel_rfl)) (by decide) ?_; clear hf a; intro a hf
          refine gL hf (g_lookD hf hs (.head _) MT78 rfl rfl) (by decide) ?_; clear hf a; intro a hf
          refine vL hf (v_lits (len := 1) hf hs SL31 T3 (.cons rfl .nil) rfl rfl rfl rfl (by decide) rfl) (by decide) ?_; clear hs hf a; rintro _ w ⟨b4, rfl, hs⟩ a hf
          refine callL hf hs (c_greatest _ _ [_] (worst b l k) _ (rd_one rfl (hs.own _ _ (.head _)).2)) rfl rfl rfl E97 (by decide) ?_; clear hs hf a; intro w a hs hf
          refine gL hf (g_as hf rfl) (by decide) ?_; clear hf a; intro a hf
          refine e_nil1 (q_blkN (q_thenN ?_))
          refine c_reg1 ?_
          refine gL hf (g_addI hf rfl rfl (by omega)) (by decide) ?_; clear hf a; intro a hf
          refine gL hf (g_mv hf rfl) (by decide) ?_; clear hf a; intro a hf
          refine e_nil1 (q_thenN ?_)
          first | rw [show maxL (worst b l k) [mget mp (b.rules.getD k default).over (b.rules.getD k default).under] = worst b l (k + 1) from e9.symm] at hf | rw [← e9] at hf
          exact ⟨k + 1, (by omega), (by omega), hf.back (by repeat (first | (with_reducible exact Ext.base) | ((with_reducible refine Ext.cons ?_ ?_); (· rfl)) | ((with_reducible refine Ext.over ?_ ?_ ?_); (· rfl); (· rfl)))) (allKeys rfl) (.cons rfl (.cons rfl .nil)), hs.dropN 2⟩
        · try simp only [decide_eq_true_eq, decide_eq_false_iff_not] at hc3
          have e9 : worst b l (k + 1) = worst b l k := by rw [worst_succ (by omega), stepW, if_neg hc3]
          refine c_skip (q_blkN (q_thenN ?_))
          refine c_reg1 ?_
          refine gL hf (g_addI hf rfl rfl (by omega)) (by decide) ?_; clear hf a; intro a hf
          refine gL hf (g_mv hf rfl) (by decide) ?_; clear hf a; intro a hf
          refine e_nil1 (q_thenN ?_)
          first | rw [show maxL (worst b l k) [mget mp (b.rules.getD k default).over (b.rules.getD k default).under] = worst b l (k + 1) from e9.symm] at hf | rw [← e9] at hf
          exact ⟨k + 1, (by omega), (by omega), hf.back (by repeat (first | (with_reducible exact Ext.base) | ((with_reducible refine Ext.cons ?_ ?_); (· rfl)) | ((with_reducible refine Ext.over ?_ ?_ ?_); (· rfl); (· rfl)))) (allKeys rfl) (.cons rfl (.cons rfl .nil)), hs.dropN 1⟩
      · try simp only [decide_eq_true_eq, decide_eq_false_iff_not] at hc2
        refine c_exit (q_thenX (q_thenX (q_blkX (q_thenN ?_))))
        refine c_reg ?_
        refine gL hf (g_mv hf rfl) (by decide) ?_; clear hf a; intro a hf
        refine gL hf (g_subI hf rfl rfl (by have := worst_le b l k; omega)) (by decide) ?_; clear hf a; intro a hf
        refine gL hf (g_as hf rfl) (by decide) ?_; clear hf a; intro a hf
        refine gL hf (g_as hf rfl) (by decide) ?_; clear hf a; intro a hf
        refine e_nil ?_
        refine c_ret ?_
        refine e_ret2 hf rfl rfl rfl ?_
        have hk9 : k = b.rules.length := by omega
        subst hk9
        exact ⟨by simp only [doesP, he, if_true], hs.below⟩

end Go.Proofs.YtjjcopeedcdokaaDoor

set_option linter.unusedVariables false
set_option linter.unusedSimpArgs false
namespace Go.Proofs.YtjjcopeedcdokaaDoor
open Go.RowKit
theorem c_on_step (c : OnCtx) (k : Nat) (ih : ∀ k1, k1 < k → OnSpec c k1) (w0 : World) (pre : List (List Int)) (p : List Int) (d : List Bool) (A : Option Addr) (cp : Nat) (hl3 : Later c.X c.w3 w0) (hJ0 : (c.J pre).1 w0) (hpre : pre ++ ordsF c.b c.mp k p d <+: allOrds c.b c.mp) (hpk : p.length + k = c.b.flaps.length) (hd : d.length = 7) (hp : Rd encI 1 A p.length p w0) (hA : ∀ b o, A = some ⟨b, o, none⟩ → c.M0 ≤ b) (hcp : p.length ≤ cp) :
    Calls Tryd.prog 107 #[.slice A p.length cp, .agg (dnA d), .pointer (some ⟨c.bs, 0, none⟩), .pointer (some ⟨c.yb, 0, none⟩), .pointer (some ⟨c.tb, 0, none⟩), .pointer (some ⟨c.nb, 0, none⟩)] w0 (RetR (OnR c k pre p d w0)) := by
  have hM : c.M0 ≤ w0.heap.size := by have := c.hW.1; have := hl3.1; have := c.hM; omega
  have hA0 : A = none → p.length = 0 := fun e => by
    rcases Nat.eq_zero_or_pos p.length with h | h
    · exact h
    · have := hp.isSome h; rw [e] at this; cases this
  refine c_enter (n := 54) Tryd.func107 rfl rfl (Nat.le_of_ble_eq_true rfl) ?_; intro a hf; simp only [zipR] at hf
  have hs := c.start hM hl3 (c.J pre) hJ0 hp hA
  have hmany := c.hv.many; have hlm := hp.2.1
  refine c_reg ?_
  refine vL hf (v_boxA hf hs rfl) (by decide) ?_; clear hs hf a; rintro _ w ⟨b1, rfl, hs⟩ a hf
  refine gL hf (g_as hf rfl) (by decide) ?_; clear hf a; intro a hf
  refine e_nil ?_
  refine wp_scope_straight ?_
  refine c_reg ?_
  refine gL hf (g_mv hf rfl) (by decide) ?_; clear hf a; intro a hf
  refine gL hf (g_len hf SL31 rfl) (by decide) ?_; clear hf a; intro a hf
  refine gL hf (g_as hf rfl) (by decide) ?_; clear hf a; intro a hf
  refine e_nil ?_
  refine wp_seq ?_
  refine c_reg ?_
  refine gL hf (g_mv hf rfl) (by decide) ?_; clear hf a; intro a hf
  refine gL hf (g_fa (off' := 0) hf F80_0 rfl rfl) (by decide) ?_; clear hf a; intro a hf
  refine gL hf (g_fa (off' := 2) hf F25_2 rfl rfl) (by decide) ?_; clear hf a; intro a hf
  refine gL hf (g_ldB hf hs (.tail _ (.tail _ (.tail _ (.tail _ (.head _))))) T22 rfl rfl) (by decide) ?_; clear hf a; intro a hf
  refine gL hf (g_len hf SL22 rfl) (by decide) ?_; clear hf a; intro a hf
  refine gL hf (g_eql hf rfl rfl) (by decide) ?_; clear hf a; intro a hf
  refine e_nil ?_
  refine c_cond hf rfl (fun hc1 => ?_) (fun hc1 => ?_)
  · skip
    have hk0 : k = 0 := by simp at hc1; omega
    subst hk0
    refine (wpIn_wide (n := 0)).1 (i_reg (r := none) (m := 0) ?_)
    refine gI hf (g_ldB hf hs (.tail _ (.tail _ (.tail _ (.tail _ (.tail _ (.head _)))))) T122 rfl rfl) (by intro c; simp) (by decide) ?_; clear hf a; intro a hf
    refine gI hf (g_mv hf rfl) (by intro c; simp) (by decide) ?_; clear hf a; intro a hf
    refine yieldI (m := 0) hf (c.hY pre p A cp w hs.kept (c.hW.trans (hl3.trans hs.later)) hpre (hs.rd (.head _)) hcp hA) rfl rfl (by decide) (fun e w' h => by rcases h.2 with h | h <;> exact ⟨_, h.1⟩) ?_
    clear hf a; intro u w1 a hR1 hf
    obtain ⟨r, rfl, hl1, ht1, hf1⟩ : ∃ r, u = .bool r ∧ Later c.X w w1 ∧ (r = true → (c.J (pre ++ [p])).1 w1) ∧ (r = false → c.Jx (pre ++ [p]) w1) := by
      rcases hR1.2 with ⟨e1, hj⟩ | ⟨e1, hj⟩
      · cases e1; exact ⟨true, rfl, hR1.1, fun _ => hj, fun h => (by cases h)⟩
      · cases e1; exact ⟨false, rfl, hR1.1, fun h => (by cases h), fun _ => hj⟩
    refine gI hf (g_as hf rfl) (by intro c; simp) (by decide) ?_; clear hf a; intro a hf
    refine i_nil ((wpIn_wide (n := 0)).2 ?_)
    refine c_ret (q_thenR (q_scopeR ?_))
    refine e_ret1 hf rfl rfl ?_
    exact ⟨_, rfl, r, rfl, hs.later.trans hl1, ht1, fun h => ⟨[p], by simp, List.prefix_refl _, hf1 h⟩⟩
  · skip
    obtain ⟨k1, rfl⟩ : ∃ k1, k = k1 + 1 := ⟨k - 1, by simp at hc1; omega⟩
    refine c_skip (q_thenN ?_)
    refine wp_seq ?_
    refine c_label (q_thenN ?_)
    refine wp_seq ?_
    refine c_reg ?_
    refine gL hf (g_fa (off' := 0) hf F80_0 rfl rfl) (by decide) ?_; clear hf a; intro a hf
    refine gL hf (g_fa (off' := 2) hf F25_2 rfl rfl) (by decide) ?_; clear hf a; intro a hf
    refine gL hf (g_ldB hf hs (.tail _ (.tail _ (.tail _ (.tail _ (.head _))))) T22 rfl rfl) (by decide) ?_; clear hf a; intro a hf
    refine gL hf (g_len hf SL22 rfl) (by decide) ?_; clear hf a; intro a hf
    refine gL hf (g_mv hf rfl) (by decide) ?_; clear hf a; intro a hf
    refine e_nil ?_
    refine c_block ?_
    have e0 : pre = pre ++ (List.range 0).flatMap (ordStep c.b c.mp p d (ordsF c.b c.mp k1)) := by simp
    rw [e0] at hs
    refine c_loopB (fun i => Base.it w0 c.X c.M0 c.hX hM (c.J (pre ++ (List.range i).flatMap (ordStep c.b c.mp p d (ordsF c.b c.mp k1))))) hf (List.range' 8 1 ++ List.range' 10 2 ++ List.range' 27 27) (σ := Nat) (fun i => [(27, .int .i64 (i : Nat))]) (fun i => [(b1, .cells (dnA d) 126 (0, 0))]) (fun i => i ≤ c.b.flaps.length) (fun i => c.b.flaps.length - i) 0 hs (by omega) (.cons rfl .nil) ?_
    intro i a w hJ hf hs
    refine c_reg ?_
    refine gL hf (g_lss hf rfl rfl) (by decide) ?_; clear hf a; intro a hf
    refine e_nil ?_
    refine c_condS hf rfl (fun hc2 => ?_) (fun hc2 => ?_)
    · try simp only [decide_eq_true_eq, decide_eq_false_iff_not] at hc2
      refine c_skip (q_thenN ?_)
      refine c_blockS ?_
      refine c_reg ?_
      refine gL hf (g_mv hf rfl) (by decide) ?_; clear hf a; intro a hf
      refine gL hf (g_as hf rfl) (by decide) ?_; clear hf a; intro a hf
      refine e_nil ?_
      refine wp_seq ?_
      refine c_reg ?_
      refine gL hf (g_mv hf rfl) (by decide) ?_; clear hf a; intro a hf
      refine gL hf (g_ixA hf AR126 rfl rfl (by omega)) (by decide) ?_; clear hf a; intro a hf
      refine gL hf (g_ld hf hs T4 rfl (k := 0) rfl (dn_get hd (by omega))) (by decide) ?_; clear hf a; intro a hf
      refine gL hf (g_mv hf rfl) (by decide) ?_; clear hf a; intro a hf
      refine ggL hf rfl rfl (gyes_f _) (fun hg => g_ldB hf hs (.tail _ (.tail _ (.tail _ (.tail _ (.tail _ (.tail _ (.head _))))))) T123 rfl rfl) (by decide) ?_; clear hf a; intro a hf
      refine ggL hf rfl rfl (gyes_f _) (fun hg => g_ldW hf hs T126 rfl (k := 0) rfl (by rw [dn_size]; exact hd)) (by decide) ?_; clear hf a; intro a hf
      refine ggL hf rfl rfl (gyes_f _) (fun hg => g_mv hf rfl) (by decide) ?_; clear hf a; intro a hf
      refine callG hf hs rfl rfl (gyes_f _) (fun hg => ⟨_, _, _, _, c_stopped c.b _ _ _ _ _ _ d _ c.hv hd _ ⟨hs.rd (.tail _ (.head _)), hs.rd (.tail _ (.tail _ (.head _))), c.hfc, c.hrc⟩ (hs.rd (.tail _ (.tail _ (.tail _ (.head _))))), (ev_gv rfl hg), evs_cons (ev_gv rfl hg) (evs_cons (ev_gv rfl hg) evs_nil), rfl⟩) E106 (by decide) ?_; clear hs hf a; intro w a hs hf
      refine gL hf (g_or hf rfl rfl) (by decide) ?_; clear hf a; intro a hf
      refine e_nil ?_
      refine c_cond hf rfl (fun hc3 => ?_) (fun hc3 => ?_)
      · skip
        have hgi : (ordStep c.b c.mp p d (ordsF c.b c.mp k1)) i = [] := by unfold ordStep; rw [if_pos (by simpa using hc3)]
        have hsn : St (Base.it w0 c.X c.M0 c.hX hM (c.J (pre ++ (List.range (i + 1)).flatMap (ordStep c.b c.mp p d (ordsF c.b c.mp k1))))) (Rd encI 1 A p.length p :: c.Ds) [(b1, .cells (dnA d) 126 (0, 0))] w := by rw [fm_succ, hgi, List.append_nil]; exact hs
        refine c_exit (q_thenX (q_blkX (q_thenN ?_)))
        refine c_reg1 ?_
        refine gL hf (g_addI hf rfl rfl (by omega)) (by decide) ?_; clear hf a; intro a hf
        refine gL hf (g_mv hf rfl) (by decide) ?_; clear hf a; intro a hf
        refine e_nil1 (q_thenN ?_)
        exact ⟨i + 1, (by omega), (by omega), hf.back (by repeat (first | (with_reducible exact Ext.base) | ((with_reducible refine Ext.cons ?_ ?_); (· rfl)) | ((with_reducible refine Ext.over ?_ ?_ ?_); (· rfl); (· rfl)))) (allKeys rfl) (.cons rfl .nil), hsn⟩
      · skip
        have hgi : (ordStep c.b c.mp p d (ordsF c.b c.mp k1)) i = ordsF c.b c.mp k1 (p ++ [((i : Nat) : Int)]) (d.set i true) := by unfold ordStep; rw [if_neg (by rw [Bool.not_eq_true]; simpa using hc3)]
        have hpre2 : (pre ++ (List.range i).flatMap (ordStep c.b c.mp p d (ordsF c.b c.mp k1))) ++ ordsF c.b c.mp k1 (p ++ [((i : Nat) : Int)]) (d.set i true) <+: allOrds c.b c.mp := by rw [List.append_assoc, ← hgi, ← fm_succ]; exact ((List.prefix_append_right_inj _).2 (fm_prefix _ (by omega))).trans hpre
        refine c_skip (q_thenN ?_)
        refine c_reg ?_
        refine gL hf (g_ldW hf hs T126 rfl (k := 0) rfl (by rw [dn_size]; exact hd)) (by decide) ?_; clear hf a; intro a hf
        refine vL hf (v_alloc hs T126 rfl) (by decide) ?_; clear hs hf a; rintro _ w ⟨b2, rfl, hs⟩ a hf
        refine uL (u_stW hf hs T126 rfl rfl (dn_plain d) (k := 0) rfl (by simpa using hd) (by rw [List.length_map, hd]; rfl)) ?_; clear hs; intro w hs; dsimp only [List.set] at hs
        replace hs : St _ _ [(b2, .cells (dnA d) 126 (0, 0)), (b1, .cells (dnA d) 126 (0, 0))] w := hs
        refine e_nil ?_
        refine c_reg ?_
        refine gL hf (g_mv hf rfl) (by decide) ?_; clear hf a; intro a hf
        refine gL hf (g_ixA hf AR126 rfl rfl (by omega)) (by decide) ?_; clear hf a; intro a hf
        refine uL (u_st hf hs T4 rfl rfl rfl (k := 0) rfl (by rw [dn_size, hd]; omega)) ?_; clear hs; intro w hs; dsimp only [List.set] at hs
        rw [dn_set, Int.toNat_natCast] at hs
        refine e_nil ?_
        refine c_draw (fun w => ∃ B, St B _ _ w) 11 Mx rfl hs (fun _ h => ⟨_, h⟩) ?_; intro w hs hS
        refine gA hf hS (i := 0) rfl (by kernel_rfl) (fun w ⟨_, hs⟩ => g_ldB hf hs (.tail _ (.tail _ (.tail _ (.tail _ (.tail _ (.tail _ (.tail _ (.head _)))))))) T124 rfl rfl) (by decide) ?_; clear hf a; intro a hf
        refine gA hf hS (i := 1) rfl (by kernel_rfl) (fun w ⟨_, hs⟩ => g_mv hf rfl) (by decide) ?_; clear hf a; intro a hf
        refine gA hf hS (i := 2) rfl (by kernel_rfl) (fun w ⟨_, hs⟩ => g_mv hf rfl) (by decide) ?_; clear hf a; intro a hf
        refine gA hf hS (i := 3) rfl (by kernel_rfl) (fun w ⟨_, hs⟩ => g_mv hf rfl) (by decide) ?_; clear hf a; intro a hf
        refine gA hf hS (i := 4) rfl (by kernel_rfl) (fun w ⟨_, hs⟩ => g_slHM hf SL31 rfl rfl rfl (by omega) (by omega)) (by decide) ?_; clear hf a; intro a hf
        refine gA hf hS (i := 5) rfl (by kernel_rfl) (fun w ⟨_, hs⟩ => g_mv hf rfl) (by decide) ?_; clear hf a; intro a hf
        refine gA hf hS (i := 8) rfl (by kernel_rfl) (fun w ⟨_, hs⟩ => g_ldW hf hs T126 rfl (k := 0) rfl (by rw [dn_size]; exact (by simp [hd]))) (by decide) ?_; clear hf a; intro a hf
        refine one (i := 6) (by kernel_rfl) ?_
        refine oV hf rfl (v_lits (len := 1) hf hs SL31 T3 (.cons rfl .nil) rfl rfl rfl rfl (by decide) rfl) (by decide) (fun _ _ ⟨_, _, h⟩ => ⟨_, h.sub (.cons _ (.refl _))⟩) ?_; clear hs hf hS a; rintro _ w ⟨b3, rfl, hs⟩ hS a hf
        refine one (i := 7) (by kernel_rfl) ?_
        refine oV hf rfl (v_app hf hs AP31 (fun _ => rfl) (by decide) rfl rfl (l := p) (by simpa using hs.rd (.head _)) (rd_one (enc := encI) (x := ((i : Nat) : Int)) rfl (hs.own _ _ (.head _)).2) (by omega) (Nat.le_refl _) (fun e => by have h9 := hA0 e; omega) (by omega) (by decide)) (by decide) (fun _ _ ⟨_, _, _, _, h⟩ => ⟨_, h.sub (.cons _ (.cons _ (.refl _)))⟩) ?_; clear hs hf hS a; rintro _ w ⟨b4, cs4, rfl, hok, hs⟩ hS a hf
        rw [show ((p.length : Nat) : Int).toNat + 1 = (p ++ [((i : Nat) : Int)]).length by simp] at hf
        refine one (i := 9) (by kernel_rfl) ?_
        refine oCallB hf rfl (ih k1 (by omega) w (pre ++ (List.range i).flatMap (ordStep c.b c.mp p d (ordsF c.b c.mp k1))) (p ++ [((i : Nat) : Int)]) (d.set i true) (some ⟨b4, 0, none⟩) _ (hl3.trans hs.later) hs.kept hpre2 (by simp; omega) (by simp [hd]) (hok.rdb (sz := 1) (fun _ => rfl) (by decide) (hs.own _ _ (.head _)).2) (fun b o e => by cases e; exact Nat.le_trans hM (hs.own _ _ (.head _)).1) (hok.cap (sz := 1) (by decide))) rfl rfl rfl E107 (by decide)
          (fun v w2 hR2 => by obtain ⟨r, rfl, hl2, ht2, hf2⟩ := hR2; exact ⟨_, (hs.sub (.cons _ (.cons _ (.refl _)))).yielded (K' := ⟨fun _ => True, fun _ _ _ _ => trivial⟩) hl2 trivial⟩) ?_; clear hf hS a; intro v w2 a hR2 hS hf; obtain ⟨r, rfl, hl2, ht2, hf2⟩ := hR2
        refine gA hf hS (i := 10) rfl (by kernel_rfl) (fun w ⟨_, hs⟩ => g_not hf rfl) (by decide) ?_; clear hf a; intro a hf
        refine e_done (by kernel_rfl) ?_
        refine c_cond hf rfl (fun hc4 => ?_) (fun hc4 => ?_)
        · skip
          have hr : r = false := by simpa using hc4
          obtain ⟨q, hq, hqp, hqj⟩ := hf2 hr
          have hq2 : (List.range i).flatMap (ordStep c.b c.mp p d (ordsF c.b c.mp k1)) ++ q <+: ordsF c.b c.mp (k1 + 1) p d := ((List.prefix_append_right_inj _).2 hqp).trans (by rw [← hgi, ← fm_succ]; exact fm_prefix _ (by omega))
          refine c_reg ?_
          refine gL hf (g_as hf rfl) (by decide) ?_; clear hf a; intro a hf
          refine e_nil ?_
          refine c_ret (q_blkR (q_thenR (q_thenR (q_blkR (q_thenR (q_scopeR ?_))))))
          refine e_ret1 hf rfl rfl ?_
          exact ⟨_, rfl, false, rfl, hs.later.trans hl2, fun h => (by cases h), fun _ => ⟨_, by simp [hq], hq2, by rw [← List.append_assoc]; exact hqj⟩⟩
        · skip
          have hr : r = true := by simpa using hc4
          have hsn : St (Base.it w0 c.X c.M0 c.hX hM (c.J (pre ++ (List.range (i + 1)).flatMap (ordStep c.b c.mp p d (ordsF c.b c.mp k1))))) (Rd encI 1 A p.length p :: c.Ds) [(b1, .cells (dnA d) 126 (0, 0))] w2 := by rw [fm_succ, hgi, ← List.append_assoc]; exact (hs.dropN 3).yielded hl2 (ht2 hr)
          refine c_skip (q_blkN (q_thenN ?_))
          refine c_reg1 ?_
          refine gL hf (g_addI hf rfl rfl (by omega)) (by decide) ?_; clear hf a; intro a hf
          refine gL hf (g_mv hf rfl) (by decide) ?_; clear hf a; intro a hf
          refine e_nil1 (q_thenN ?_)
          exact ⟨i + 1, (by omega), (by omega), hf.back (by repeat (first | (with_reducible exact Ext.base) | ((with_reducible refine Ext.cons ?_ ?_); (· rfl)) | ((with_reducible refine Ext.over ?_ ?_ ?_); (· rfl); (· rfl)))) (allKeys rfl) (.cons rfl .nil), hsn⟩
    · try simp only [decide_eq_true_eq, decide_eq_false_iff_not] at hc2
      obtain rfl : i = c.b.flaps.length := by omega
      refine c_exit (q_thenX (q_thenX (q_blkX (q_thenN ?_))))
      refine c_reg ?_
      refine gL hf (g_as hf rfl) (by decide) ?_; clear hf a; intro a hf
      refine e_nil ?_
      refine c_ret (q_scopeR ?_)
      refine e_ret1 hf rfl rfl ?_
      exact ⟨_, rfl, true, rfl, hs.later, fun _ => hs.kept, fun h => (by cases h)⟩

end Go.Proofs.YtjjcopeedcdokaaDoor

set_option linter.unusedVariables false
namespace Go.Proofs.YtjjcopeedcdokaaDoor
open Go.RowKit
theorem c_on (c : OnCtx) : ∀ k, OnSpec c k := by
  intro k
  induction k using Nat.strongRecOn with
  | _ k ih => exact fun w pre p d A cp h1 h2 h3 h4 h5 h6 h7 h8 => c_on_step c k ih w pre p d A cp h1 h2 h3 h4 h5 h6 h7 h8
end Go.Proofs.YtjjcopeedcdokaaDoor

set_option linter.unusedVariables false
set_option linter.unusedSimpArgs false
namespace Go.Proofs.YtjjcopeedcdokaaDoor
open Go.RowKit
theorem c_seq (b : Sheet) (fA : Option Addr) (fc : Nat) (rA : Option Addr) (rc : Nat) (mb : Nat) (mp : MP) (hv : Valid b) (bs l : Nat) (X : List Nat) (J Jx : List (List Int) → World → Prop) (w0 : World) (hXl : ∀ i ∈ X, i < w0.heap.size) (hJ : ∀ pre A B, J pre A → Below w0.heap.size A B → J pre B) (hY : ∀ pre x A c W1, J pre W1 → Later X w0 W1 → pre ++ [x] <+: allOrds b mp → Rd encI 1 A x.length x W1 → x.length ≤ c → (∀ b o, A = some ⟨b, o, none⟩ → w0.heap.size ≤ b) → YieldAt Fence.wide 0 Tryd.prog l #[.slice A x.length c] W1 fun e W' => Later X W1 W' ∧ ((e = .returned (.bool true) ∧ J (pre ++ [x]) W') ∨ (e = .returned (.bool false) ∧ Jx (pre ++ [x]) W'))) (h0 : J [] w0) (hF : Stable X w0 (Rd encF 5 fA b.flaps.length b.flaps)) (hR : Stable X w0 (Rd encR 2 rA b.rules.length b.rules)) (hM : Stable X w0 (MapIs mb mp)) (hfc : b.flaps.length ≤ fc) (hrc : b.rules.length ≤ rc) (hS : Stable X w0 (BlkIs bs (sh5 b fA fc rA rc mb).toArray 80 (0, 0))) :
    Calls Tryd.prog 105 #[.func (.yield l) #[] #[], .pointer (some ⟨bs, 0, none⟩)] w0 (RetR (fun _ w0' => Later X w0 w0' ∧ (J (allOrds b mp) w0' ∨ ∃ pre, pre ≠ [] ∧ pre <+: allOrds b mp ∧ Jx pre w0'))) := by
  refine c_enter (n := 11) Tryd.func105 rfl rfl (Nat.le_of_ble_eq_true rfl) ?_; intro a hf; simp only [zipR] at hf
  have hs := St.startI (M0 := w0.heap.size) (Ds := [Rd encF 5 fA b.flaps.length b.flaps, Rd encR 2 rA b.rules.length b.rules, MapIs mb mp, BlkIs bs (sh5 b fA fc rA rc mb).toArray 80 (0, 0)]) hXl (Nat.le_refl _) ⟨J [], hJ []⟩ h0 (by intro D hD; simp only [List.mem_cons, List.not_mem_nil, or_false] at hD; rcases hD with rfl | rfl | rfl | rfl <;> assumption)
  refine c_reg ?_
  refine vL hf (v_box hf hs rfl rfl) (by decide) ?_; clear hs hf a; rintro _ w ⟨b1, rfl, hs⟩ a hf
  refine e_nil ?_
  refine c_reg ?_
  refine gL hf (g_ldBW hf hs (.tail _ (.tail _ (.tail _ (.head _)))) T80 rfl rfl) (by decide) ?_; clear hf a; intro a hf
  refine gL hf (g_fn hf rfl rfl) (by decide) ?_; clear hf a; intro a hf
  refine vL hf (v_alloc hs T123 rfl) (by decide) ?_; clear hs hf a; rintro _ w ⟨b2, rfl, hs⟩ a hf
  refine uL (u_st hf hs T123 rfl rfl rfl (k := 0) rfl (Nat.le_of_ble_eq_true rfl)) ?_; clear hs; intro w hs; dsimp only [List.set] at hs
  refine e_nil ?_
  refine c_reg ?_
  refine vL hf (v_alloc hs T124 rfl) (by decide) ?_; clear hs hf a; rintro _ w ⟨b3, rfl, hs⟩ a hf
  refine e_nil ?_
  refine c_reg ?_
  refine gL hf (g_fn hf rfl rfl) (by decide) ?_; clear hf a; intro a hf
  refine uL (u_st hf hs T124 rfl rfl rfl (k := 0) rfl (Nat.le_of_ble_eq_true rfl)) ?_; clear hs; intro w hs; dsimp only [List.set] at hs
  refine e_nil ?_
  refine c_draw1 (fun w => ∃ B, St B _ _ w) 3 Mx rfl hs (fun _ h => ⟨_, h⟩) ?_; intro w hs hS
  refine gA hf hS (i := 0) rfl (by kernel_rfl) (fun w ⟨_, hs⟩ => g_ld hf hs T124 rfl (k := 0) rfl rfl) (by decide) ?_; clear hf a; intro a hf
  refine one (i := 1) (by kernel_rfl) ?_
  refine oCall hf hs rfl (c_none _) rfl rfl rfl E108 (by decide) (fun _ h => ⟨_, h.sub (.refl _)⟩) ?_; clear hs hf hS a; intro w a hs hS hf
  refine one (i := 2) (by kernel_rfl) ?_
  refine oCallB hf rfl (c_on (OnCtx.mk b fA fc rA rc mb mp l X w0.heap.size hXl (fun pre => ⟨J pre, hJ pre⟩) Jx w0 w bs b1 b2 b3 hv rfl hs.later ((hs.data _ (.head _)).sub (fun i hi => List.mem_append_left _ hi)) ((hs.data _ (.tail _ (.head _))).sub (fun i hi => List.mem_append_left _ hi)) ((hs.data _ (.tail _ (.tail _ (.head _)))).sub (fun i hi => List.mem_append_left _ hi)) hfc hrc ((hs.data _ (.tail _ (.tail _ (.tail _ (.head _))))).sub (fun i hi => List.mem_append_left _ hi)) (BlkIs.stable (hs.own _ _ (.tail _ (.tail _ (.head _)))).2 (fun hx => by have h8 := hXl _ hx; have h9 : w0.heap.size ≤ _ := (hs.own _ _ (.tail _ (.tail _ (.head _)))).1; omega)) (BlkIs.stable (hs.own _ _ (.tail _ (.head _))).2 (fun hx => by have h8 := hXl _ hx; have h9 : w0.heap.size ≤ _ := (hs.own _ _ (.tail _ (.head _))).1; omega)) (BlkIs.stable (hs.own _ _ (.head _)).2 (fun hx => by have h8 := hXl _ hx; have h9 : w0.heap.size ≤ _ := (hs.own _ _ (.head _)).1; omega)) hY) b.flaps.length w [] [] (List.replicate 7 false) none 0 (Later.refl _ _) hs.kept (List.prefix_refl _) (by simp) (by simp) rd_nil (fun b o e => by cases e) (Nat.le_refl _)) rfl rfl rfl E107 (by decide)
    (fun v w2 hR2 => by obtain ⟨r, rfl, hl2, ht2, hf2⟩ := hR2; exact ⟨_, (hs.sub (.refl _)).yielded (K' := ⟨fun _ => True, fun _ _ _ _ => trivial⟩) hl2 trivial⟩) ?_; clear hf hS a; intro v w2 a hR2 hS hf; obtain ⟨r, rfl, hl2, ht2, hf2⟩ := hR2
  refine e_done1 (by kernel_rfl) ?_
  refine e_end0 hf rfl ?_
  exact ⟨_, rfl, hs.later.trans hl2, by cases r; exact (by obtain ⟨q, h1, h2, h3⟩ := hf2 rfl; exact .inr ⟨q, h1, h2, h3⟩); exact .inl (ht2 rfl)⟩

theorem c_orders (b : Sheet) (fA : Option Addr) (fc : Nat) (rA : Option Addr) (rc : Nat) (mb : Nat) (w0 : World) :
    Calls Tryd.prog 69 #[.agg (sh5 b fA fc rA rc mb).toArray] w0 (RetX w0 (fun v w0' => ∃ bs, v = .func (.func 105) #[] #[.pointer (some ⟨bs, 0, none⟩)] ∧ w0.heap.size ≤ bs ∧ BlkIs bs (sh5 b fA fc rA rc mb).toArray 80 (0, 0) w0')) := by
  refine c_enter (n := 4) Tryd.func69 rfl rfl (Nat.le_of_ble_eq_true rfl) ?_; intro a hf; simp only [zipR] at hf
  have hs := St.start w0 [] (by simp)
  refine c_reg ?_
  refine vL hf (v_boxA hf hs rfl) (by decide) ?_; clear hs hf a; rintro _ w ⟨b1, rfl, hs⟩ a hf
  refine gL hf (g_as hf rfl) (by decide) ?_; clear hf a; intro a hf
  refine e_nil ?_
  refine c_reg ?_
  refine gL hf (g_fn hf rfl rfl) (by decide) ?_; clear hf a; intro a hf
  refine gL hf (g_as hf rfl) (by decide) ?_; clear hf a; intro a hf
  refine e_nil ?_
  refine c_ret ?_
  refine e_ret1 hf rfl rfl ?_
  exact ⟨_, rfl, hs.below, b1, rfl, (hs.own _ _ (.head _)).1, (hs.own _ _ (.head _)).2⟩

end Go.Proofs.YtjjcopeedcdokaaDoor

set_option linter.unusedVariables false
namespace Go.Proofs.YtjjcopeedcdokaaDoor
open Go.RowKit
theorem blkFresh {w w' : World} {b : Nat} {cs : Array Value} {e : TypeId} {fz : Nat × Nat} (h1 : w.heap.size ≤ b) (h2 : BlkIs b cs e fz w') : Fresh w w' (BlkIs b cs e fz) := fun w'' _ h => (h b h1 (Array.getElem?_eq_some_iff.1 h2).1).trans h2
theorem stab_seq {Xs X : List Nat} {w W : World} {D : World → Prop} (h : Stable Xs w D) (hl : Later Xs w W) (hX : ∀ i ∈ X, i < w.heap.size → i ∈ Xs) : Stable X W D := fun w' hw => h w' ⟨Nat.le_trans hl.1 hw.1, fun i hi hn => (hw.2 i (Nat.lt_of_lt_of_le hi hl.1) (fun hx => hn (hX i hx hi))).trans (hl.2 i hi hn)⟩
theorem seqL_of {b : Sheet} {fA : Option Addr} {fc : Nat} {rA : Option Addr} {rc mb bs : Nat} {mp : MP} {w0 : Base} {Ds : List (World → Prop)} {H : Own} {w : World} (hv : Valid b) (hs : St w0 Ds H w) (hF : Rd encF 5 fA b.flaps.length b.flaps ∈ Ds) (hR : Rd encR 2 rA b.rules.length b.rules ∈ Ds) (hM : MapIs mb mp ∈ Ds)
    (hS : BlkIs bs (sh5 b fA fc rA rc mb).toArray 80 (0, 0) ∈ Ds) (hfc : b.flaps.length ≤ fc) (hrc : b.rules.length ≤ rc) : SeqL Tryd.prog 105 [.pointer (some ⟨bs, 0, none⟩)] (allOrds b mp) (w0.ex ++ ids H) w := by
  intro l X J Jx W hlat hX1 hXl hJ hY h0
  have st := fun D hD => stab_seq (hs.data D hD) hlat hX1
  refine Calls.mono (c_seq b fA fc rA rc mb mp hv bs l X J Jx W hXl hJ hY h0 (st _ hF) (st _ hR) (st _ hM) hfc hrc (st _ hS)) ?_
  rintro e w' ⟨v, rfl, h1, h2⟩
  exact ⟨⟨v, rfl⟩, h1, h2⟩
end Go.Proofs.YtjjcopeedcdokaaDoor

set_option linter.unusedVariables false
set_option linter.unusedSimpArgs false
namespace Go.Proofs.YtjjcopeedcdokaaDoor
open Go.RowKit
end Go.Proofs.YtjjcopeedcdokaaDoor

set_option linter.unusedVariables false
set_option linter.unusedSimpArgs false
namespace Go.Proofs.YtjjcopeedcdokaaDoor
open Go.RowKit
end Go.Proofs.YtjjcopeedcdokaaDoor

set_option linter.unusedVariables false
set_option linter.unusedSimpArgs false
namespace Go.Proofs.YtjjcopeedcdokaaDoor
open Go.RowKit
theorem c_Order (b : Sheet) (fA : Option Addr) (fc : Nat) (rA : Option Addr) (rc : Nat) (ge : TypeId) (gz : Nat × Nat)  (w0 : World) (h : ShIn b fA fc rA rc w0) (hG : BlkIs 1 sidesA ge gz w0) :
    Calls Tryd.prog 19 #[.agg #[.int .i64 b.wide, .int .i64 b.high, .slice fA b.flaps.length fc, .slice rA b.rules.length rc]] w0 (RetX w0 (fun v w0' => ∃ A c, v = .tuple #[.slice A (orderP b).1.length c, .int .i64 (orderP b).2] ∧ Out (orderP b).1 A c w0 w0')) := by
  refine c_enterM (n := 24) Tryd.func19 rfl rfl (Nat.le_of_ble_eq_true rfl) ?_; intro a hf; simp only [zipR] at hf
  have hs := St.start w0 [Rd encF 5 fA b.flaps.length b.flaps, Rd encR 2 rA b.rules.length b.rules, BlkIs 1 sidesA ge gz] (stab_app h.stab hG.st1)
  have hfm := h.F.2.1; have hrm := h.R.2.1
  refine c_reg ?_
  refine vL hf (v_boxA hf hs rfl) (by decide) ?_; clear hs hf a; rintro _ w ⟨b1, rfl, hs⟩ a hf
  refine vL hf (v_alloc hs T31 rfl) (by decide) ?_; clear hs hf a; rintro _ w ⟨b2, rfl, hs⟩ a hf
  refine vL hf (v_alloc hs T32 rfl) (by decide) ?_; clear hs hf a; rintro _ w ⟨b3, rfl, hs⟩ a hf
  refine e_nil ?_
  refine c_reg ?_
  refine gL hf (g_ldW hf hs T25 rfl (k := 2) rfl rfl) (by decide) ?_; clear hf a; intro a hf
  refine callX hf hs (c_asked b _ _ _ _ _ _ true _ ⟨hs.rd (.head _), hs.rd (.tail _ (.head _)), h.fc_, h.rc_⟩ (hs.rd (.tail _ (.tail _ (.head _))))) rfl rfl rfl E65 (by decide) ?_; intro v w1 a hR hb hs1 hf; obtain ⟨cs, mb, mp, rfl, hcl, hcp, hcm⟩ := hR; replace hs := hs.fresh hs1 (condFresh fun he => (hcm he).2.2); clear hs1 hb
  refine gL hf (g_mv hf rfl) (by decide) ?_; clear hf a; intro a hf
  refine gL hf (g_ext hf rfl rfl) (by decide) ?_; clear hf a; intro a hf
  refine gL hf (g_ext hf rfl rfl) (by decide) ?_; clear hf a; intro a hf
  refine vL hf (v_alloc hs T80 rfl) (by decide) ?_; clear hs hf a; rintro _ w ⟨b4, rfl, hs⟩ a hf
  refine uL (u_stW hf hs T80 rfl rfl hcp (k := 0) rfl hcl hcl) ?_; clear hs; intro w hs; dsimp only [List.set] at hs
  refine gL hf (g_as hf rfl) (by decide) ?_; clear hf a; intro a hf
  refine e_nil ?_
  refine wp_seq ?_
  refine c_reg ?_
  refine gL hf (g_mv hf rfl) (by decide) ?_; clear hf a; intro a hf
  refine gL hf (g_neq hf rfl rfl) (by decide) ?_; clear hf a; intro a hf
  refine e_nil ?_
  refine c_cond hf rfl (fun hc1 => ?_) (fun hc1 => ?_)
  · try simp only [decide_eq_true_eq, decide_eq_false_iff_not] at hc1
    have he : ¬ askE b true = 0 := by simpa using hc1
    refine c_reg ?_
    refine gL hf (g_mv hf rfl) (by decide) ?_; clear hf a; intro a hf
    refine uL (u_st hf hs T31 rfl rfl rfl (k := 2) rfl (Nat.le_of_ble_eq_true rfl)) ?_; clear hs; intro w hs; dsimp only [List.set] at hs
    refine uL (u_st hf hs T32 rfl rfl rfl (k := 1) rfl (Nat.le_of_ble_eq_true rfl)) ?_; clear hs; intro w hs; dsimp only [List.set] at hs
    refine e_nil ?_
    refine c_ret (q_thenR ?_)
    refine outM0 hf hs rfl (.cell1 T31 rfl (k := 2) rfl rfl (.cell1 T32 rfl (k := 1) rfl rfl .nil)) rfl ?_
    have hor : orderP b = ([], askE b true) := by simp only [orderP, if_neg he]
    exact ⟨_, rfl, hs.below, none, 0, by rw [hor]; rfl, by rw [hor]; exact ⟨Nat.le_refl _, rd_nil, fun b o e => by cases e⟩⟩
  · try simp only [decide_eq_true_eq, decide_eq_false_iff_not] at hc1
    have he : askE b true = 0 := by simpa using hc1
    obtain ⟨rfl, hmo, _, _⟩ := hcm he
    replace hs := hs.un (fun w h => h he)
    have hok := askE_zero he
    have hv := valid_of hok.1
    have hall := allOrds_eq hv hmo
    have hmany := hv.many
    refine c_skip (q_thenN ?_)
    refine wp_seq ?_
    refine c_reg ?_
    refine gL hf (g_ldW hf hs T80 rfl (k := 0) rfl rfl) (by decide) ?_; clear hf a; intro a hf
    refine callX hf hs (c_orders b fA fc rA rc mb _) rfl rfl rfl E69 (by decide) ?_; intro v w1 a hR hb hs1 hf; obtain ⟨bs, rfl, hbs, hbi⟩ := hR; replace hs := hs.fresh hs1 (blkFresh hbs hbi); clear hs1 hb
    refine e_nil ?_
    refine c_block ?_
    have hsz0 := hs.below.size
    refine c_rangeA (τ := (Option Addr × List Int)) (by decide) hf hs rfl E105 (by decide) (seqL_of (b := b) (mp := mp) hv hs (.tail _ (.tail _ (.head _))) (.tail _ (.tail _ (.tail _ (.head _)))) (.tail _ (.head _)) (.head _) h.fc_ h.rc_) rfl (fun pre => pre = []) (fun pre => [(b4, .cells (sh5 b fA fc rA rc mb).toArray 80 (0, 0)), (b3, .cells #[.int .i64 0] 32 (0, 0)), (b2, .cells #[.slice none 0 0] 31 (0, 0)), (b1, .cells #[.int .i64 b.wide, .int .i64 b.high, .slice fA b.flaps.length fc, .slice rA b.rules.length rc] 25 (0, 0))]) (fun t pre => pre = [t.2] ∧ ∀ b o, t.1 = some ⟨b, o, none⟩ → w0.heap.size ≤ b) (fun t pre => [Rd encI 1 t.1 t.2.length t.2]) (fun t pre => [(b4, .cells (sh5 b fA fc rA rc mb).toArray 80 (0, 0)), (b3, .cells #[.int .i64 0] 32 (0, 0)), (b2, .cells #[.slice t.1 t.2.length t.2.length] 31 (0, 0)), (b1, .cells #[.int .i64 b.wide, .int .i64 b.high, .slice fA b.flaps.length fc, .slice rA b.rules.length rc] 25 (0, 0))]) rfl rfl (fun _ => rfl) (fun _ _ => rfl) ?body ?done ?stop
    case body =>
      clear hf hs; intro l pre x A c W a E hE hpre hIp hxc hA hf hs
      refine r_block ?_
      refine r_reg rfl ?_
      refine gL hf (g_mv hf rfl) (by decide) ?_; clear hf a; intro a hf
      refine gL hf (g_mv hf rfl) (by decide) ?_; clear hf a; intro a hf
      refine gL hf (g_len hf SL31 rfl) (by decide) ?_; clear hf a; intro a hf
      refine gL hf (g_mv hf rfl) (by decide) ?_; clear hf a; intro a hf
      refine gL hf (g_len hf SL31 rfl) (by decide) ?_; clear hf a; intro a hf
      refine gL hf (g_slHM hf SL31 rfl rfl rfl (by omega) (by omega)) (by decide) ?_; clear hf a; intro a hf
      refine uL (u_st hf hs T31 rfl rfl rfl (k := 2) rfl (Nat.le_of_ble_eq_true rfl)) ?_; clear hs; intro w hs; dsimp only [List.set] at hs
      refine uL (u_st hf hs T32 rfl rfl rfl (k := 1) rfl (Nat.le_of_ble_eq_true rfl)) ?_; clear hs; intro w hs; dsimp only [List.set] at hs
      refine e_nilJ ?_
      refine r_ret (q_blkR ?_)
      simp only [Int.toNat_natCast] at hs
      exact ⟨(A, x), (hs.dropN 0).subD (fun _ h => by rcases List.mem_singleton.1 h with rfl; exact .head _), ⟨by rw [hIp]; rfl, fun b o e => Nat.le_trans hsz0 (hA b o e)⟩⟩
    case done =>
      clear hf hs; intro D a w hf hIp hs; dsimp only [List.cons_append, List.nil_append] at hs
      refine q_blkN (q_thenN ?_)
      refine c_reg ?_
      refine uL (u_st hf hs T31 rfl rfl rfl (k := 2) rfl (Nat.le_of_ble_eq_true rfl)) ?_; clear hs; intro w hs; dsimp only [List.set] at hs
      refine uL (u_st hf hs T32 rfl rfl rfl (k := 1) rfl (Nat.le_of_ble_eq_true rfl)) ?_; clear hs; intro w hs; dsimp only [List.set] at hs
      refine e_nil ?_
      refine c_ret ?_
      refine outMR 4 hf hs rfl rfl (.cell1 T31 rfl (k := 2) rfl rfl (.cell1 T32 rfl (k := 1) rfl rfl .nil)) rfl ?_; clear hs; intro w hs
      have hor : orderP b = ([], 4) := by simp only [orderP, he, if_true, ← hall, hIp]
      exact ⟨_, rfl, hs.below, none, 0, by rw [hor]; rfl, by rw [hor]; exact ⟨Nat.le_refl _, rd_nil, fun b o e => by cases e⟩⟩
    case stop =>
      clear hf hs; intro D t pre a w hne hpre hIx hf hs; dsimp only [List.cons_append, List.nil_append] at hs
      obtain ⟨A, x⟩ := t
      dsimp only at hIx hs
      obtain ⟨rfl, hAx⟩ := hIx
      obtain ⟨rest, hrest⟩ := hpre
      refine q_blkR (q_thenR ?_)
      refine outMR 4 hf hs rfl rfl (.cell1 T31 rfl (k := 2) rfl rfl (.cell1 T32 rfl (k := 1) rfl rfl .nil)) rfl ?_; clear hs; intro w hs
      have hor : orderP b = (x, 0) := by simp only [orderP, he, if_true, ← hall, ← hrest]; rfl
      exact ⟨_, rfl, hs.below, A, x.length, by rw [hor]; rfl, by rw [hor]; exact ⟨Nat.le_refl _, hs.rd (.head _), hAx⟩⟩

end Go.Proofs.YtjjcopeedcdokaaDoor

set_option linter.unusedVariables false
set_option linter.unusedSimpArgs false
namespace Go.Proofs.YtjjcopeedcdokaaDoor
open Go.RowKit
end Go.Proofs.YtjjcopeedcdokaaDoor

set_option linter.unusedVariables false
set_option linter.unusedSimpArgs false
namespace Go.Proofs.YtjjcopeedcdokaaDoor
open Go.RowKit
end Go.Proofs.YtjjcopeedcdokaaDoor

set_option linter.unusedVariables false
set_option linter.unusedSimpArgs false
namespace Go.Proofs.YtjjcopeedcdokaaDoor
open Go.RowKit
end Go.Proofs.YtjjcopeedcdokaaDoor

set_option linter.unusedVariables false
set_option linter.unusedSimpArgs false
namespace Go.Proofs.YtjjcopeedcdokaaDoor
open Go.RowKit
end Go.Proofs.YtjjcopeedcdokaaDoor

set_option linter.unusedVariables false
set_option linter.unusedSimpArgs false
namespace Go.Proofs.YtjjcopeedcdokaaDoor
open Go.RowKit
end Go.Proofs.YtjjcopeedcdokaaDoor

set_option linter.unusedVariables false
namespace Go.Proofs.YtjjcopeedcdokaaDoor
open Go.RowKit
/-- One own block, and it has been turned by a call. -/
theorem St.turned {w0 : Base} {Ds : List (World → Prop)} {b : Nat} {o o' : Obj} {w w' : World} (hs : St w0 Ds [(b, o)] w) (hos : w'.os = w.os) (ht : w'.tape = w.tape) (hu : w'.output = w.output) (hl : Later [b] w w') (hb : w'.heap[b]? = some o') : St w0 Ds [(b, o')] w' := by
  have hm := (hs.own b o (.head _)).1
  refine ⟨w0.closed _ _ hs.below ⟨hos, ht, hu, hl.1, fun i hi hn => hl.2 i hi fun h => hn (by rw [List.mem_singleton.1 h]; exact hm)⟩, fun c u hc => ?_, by simp, fun D hD => ?_⟩
  · rcases List.mem_singleton.1 hc with e
    cases e
    exact ⟨hm, hb⟩
  · have h1 := hs.data D hD
    exact h1.later ⟨hl.1, fun i hi hn => hl.2 i hi fun h => hn (by rw [List.mem_singleton.1 h]; simp)⟩
end Go.Proofs.YtjjcopeedcdokaaDoor

set_option linter.unusedVariables false
set_option linter.unusedSimpArgs false
namespace Go.Proofs.YtjjcopeedcdokaaDoor
open Go.RowKit
end Go.Proofs.YtjjcopeedcdokaaDoor

set_option linter.unusedVariables false
set_option linter.unusedSimpArgs false
namespace Go.Proofs.YtjjcopeedcdokaaDoor
open Go.RowKit
end Go.Proofs.YtjjcopeedcdokaaDoor

set_option linter.unusedVariables false
set_option linter.unusedSimpArgs false
namespace Go.Proofs.YtjjcopeedcdokaaDoor
open Go.RowKit
end Go.Proofs.YtjjcopeedcdokaaDoor

set_option linter.unusedVariables false
set_option linter.unusedSimpArgs false
namespace Go.Proofs.YtjjcopeedcdokaaDoor
open Go.RowKit
end Go.Proofs.YtjjcopeedcdokaaDoor

set_option linter.unusedVariables false
set_option linter.unusedSimpArgs false
namespace Go.Proofs.YtjjcopeedcdokaaDoor
open Go.RowKit
end Go.Proofs.YtjjcopeedcdokaaDoor

set_option linter.unusedVariables false
set_option linter.unusedSimpArgs false
namespace Go.Proofs.YtjjcopeedcdokaaDoor
open Go.RowKit
end Go.Proofs.YtjjcopeedcdokaaDoor

set_option linter.unusedVariables false
set_option linter.unusedSimpArgs false
namespace Go.Proofs.YtjjcopeedcdokaaDoor
open Go.RowKit
end Go.Proofs.YtjjcopeedcdokaaDoor

set_option linter.unusedVariables false
set_option linter.unusedSimpArgs false
namespace Go.Proofs.YtjjcopeedcdokaaDoor
open Go.RowKit
end Go.Proofs.YtjjcopeedcdokaaDoor

set_option linter.unusedVariables false
set_option linter.unusedSimpArgs false
namespace Go.Proofs.YtjjcopeedcdokaaDoor
open Go.RowKit
end Go.Proofs.YtjjcopeedcdokaaDoor

set_option linter.unusedVariables false
set_option linter.unusedSimpArgs false
namespace Go.Proofs.YtjjcopeedcdokaaDoor
open Go.RowKit
end Go.Proofs.YtjjcopeedcdokaaDoor

set_option linter.unusedVariables false
set_option linter.unusedSimpArgs false
namespace Go.Proofs.YtjjcopeedcdokaaDoor
open Go.RowKit
end Go.Proofs.YtjjcopeedcdokaaDoor

set_option linter.unusedVariables false
set_option linter.unusedSimpArgs false
namespace Go.Proofs.YtjjcopeedcdokaaDoor
open Go.RowKit
end Go.Proofs.YtjjcopeedcdokaaDoor

set_option linter.unusedVariables false
set_option linter.unusedSimpArgs false
namespace Go.Proofs.YtjjcopeedcdokaaDoor
open Go.RowKit
end Go.Proofs.YtjjcopeedcdokaaDoor

set_option linter.unusedVariables false
set_option linter.unusedSimpArgs false
namespace Go.Proofs.YtjjcopeedcdokaaDoor
open Go.RowKit
end Go.Proofs.YtjjcopeedcdokaaDoor

set_option linter.unusedVariables false
set_option linter.unusedSimpArgs false
namespace Go.Proofs.YtjjcopeedcdokaaDoor
open Go.RowKit
section
variable {P : Program} {ds : List Deferred} {a : Act} {n : Nat} {L : Regs} {w w' : World} {t : TypeId} {w0 : Base} {Ds : List (World → Prop)} {H : Own}
end
section
variable {b : Sheet} (h : checkB b = false)
include h
theorem bad_ask (ok : Bool) : askE b ok = 40 := by simp [askE, h]
theorem bad_order : orderP b = ([], 40) := by simp [orderP, bad_ask h]
end
def kF (f0 f1 f2 : Flap) : List Flap := [f0, f1, f2, ⟨3, 2, 2, 8, 9⟩]
def kSheets : List Sheet := [⟨0, 0, [], []⟩, { chapB 5 6 with wide := 100 }, { chapB 5 6 with flaps := kF ⟨4, 5, 6, 0, 7⟩ ⟨1, 4, 5, 0, 7⟩ ⟨2, 3, 3, 2, 7⟩ }, chapB 5 11,
  { chapB 5 6 with flaps := kF ⟨0, 5, 6, 0, 7⟩ ⟨1, 4, 5, 0, 7⟩ ⟨2, 3, 9, 2, 7⟩ }, { chapB 5 6 with flaps := kF ⟨0, 5, 6, 0, 7⟩ ⟨1, 4, 5, 0, 8⟩ ⟨2, 3, 3, 2, 7⟩ }, { chapB 5 6 with flaps := kF ⟨0, 5, 6, 0, 7⟩ ⟨1, 0, 5, 0, 7⟩ ⟨2, 3, 3, 2, 7⟩ },
  { chapB 5 6 with rules := [⟨0, 0⟩, ⟨2, 1⟩, ⟨0, 2⟩, ⟨3, 1⟩] }, { chapB 5 6 with rules := [⟨1, 4⟩, ⟨2, 1⟩, ⟨0, 2⟩, ⟨3, 1⟩] }, { chapB 5 6 with rules := (chapB 5 6).rules ++ [⟨2, 1⟩] }, { chapB 5 6 with flaps := (chapB 5 6).flaps ++ (chapB 5 6).flaps }]
def kB (i : Nat) : Sheet := kSheets.getD i default
def KSh (fA : Nat → Option Addr) (fc : Nat → Nat) (rA : Nat → Option Addr) (rc : Nat → Nat) : World → Prop := fun w => ∀ i, i < 11 → ShIn (kB i) (fA i) (fc i) (rA i) (rc i) w
theorem KSh.stable {fA : Nat → Option Addr} {fc : Nat → Nat} {rA : Nat → Option Addr} {rc : Nat → Nat} {w : World} (h : KSh fA fc rA rc w) : Stable [] w (KSh fA fc rA rc) := fun w' hw i hi =>
  ⟨(h i hi).F.stable (by simp) w' hw, (h i hi).R.stable (by simp) w' hw, (h i hi).fc_, (h i hi).rc_⟩
theorem k1 : meetP (chapB 5 6) 0 0 = (0, 41) := by decide +kernel
theorem k2 : meetP (chapB 5 6) 4 0 = (0, 41) := by decide +kernel
theorem k3 : doesP (chapB 5 6) [0, 1, 2] = (0, 41) := by decide +kernel
theorem k4 : doesP (chapB 5 6) [0, 1, 2, 2] = (0, 41) := by decide +kernel
end Go.Proofs.YtjjcopeedcdokaaDoor

set_option linter.unusedVariables false
set_option linter.unusedSimpArgs false
namespace Go.Proofs.YtjjcopeedcdokaaDoor
open Go.RowKit
end Go.Proofs.YtjjcopeedcdokaaDoor

set_option linter.unusedVariables false
set_option linter.unusedSimpArgs false
namespace Go.Proofs.YtjjcopeedcdokaaDoor
end Go.Proofs.YtjjcopeedcdokaaDoor

set_option linter.unusedVariables false
set_option linter.unusedSimpArgs false
namespace Go.Proofs.YtjjcopeedcdokaaDoor
open Go.RowKit
abbrev Tr := Option Addr × Nat × List Int
def encT (t : Tr) : List Value := [.slice t.1 t.2.2.length t.2.1]
/-- Each row of a row of rows lies in memory. -/
def TSD (ts : List Tr) : World → Prop := fun w => ∀ t ∈ ts, t.2.2.length ≤ t.2.1 ∧ Rd encI 1 t.1 t.2.2.length t.2.2 w
def rowsT (ts : List Tr) : List (List Int) := ts.map fun t => t.2.2
theorem tsd_nil (w : World) : TSD [] w := fun t h => by cases h
theorem TSD.stab {ts : List Tr} {w : World} {is : List Nat} (h : TSD ts w) (hd : ∀ t ∈ ts, ∀ bk off, t.1 = some ⟨bk, off, none⟩ → bk ∉ is) : Stable is w (TSD ts) :=
  fun w' hw t ht => ⟨(h t ht).1, (h t ht).2.stable (hd t ht) w' hw⟩
theorem tsd_app {ts us : List Tr} {w : World} {is : List Nat} (h1 : Stable is w (TSD ts)) (h2 : Stable is w (TSD us)) : Stable is w (TSD (ts ++ us)) := fun w' hw t ht => by
  rcases List.mem_append.1 ht with ht | ht
  · exact h1 w' hw t ht
  · exact h2 w' hw t ht
section
variable {w0 : Base} {Ds : List (World → Prop)} {H : Own} {w : World}
theorem St.one {A : Option Addr} {cp : Nat} {r : List Int} (hs : St w0 Ds H w) (hD : Rd encI 1 A r.length r ∈ Ds) (hc : r.length ≤ cp) : Stable (w0.ex ++ ids H) w (TSD [(A, cp, r)]) := fun w' hw t ht => by
  rw [List.mem_singleton.1 ht]
  exact ⟨hc, hs.data _ hD w' hw⟩
end
theorem rowsT_len (ts : List Tr) : (rowsT ts).length = ts.length := by simp [rowsT]
theorem rowsT_app (ts us : List Tr) : rowsT (ts ++ us) = rowsT ts ++ rowsT us := by simp [rowsT]
/-- What is handed back: a row of rows, the rows new or the one that came in. -/
def RowsOut (L : List (List Int)) (A : Option Addr) (w : World) (v : Value) (w' : World) : Prop :=
  ∃ (A2 : Option Addr) (c2 : Nat) (ts : List Tr), v = .slice A2 ts.length c2 ∧ rowsT ts = L ∧ OutG encT 1 ts A2 c2 w w' ∧ TSD ts w' ∧ ∀ t ∈ ts, (∀ bk off, t.1 = some ⟨bk, off, none⟩ → w.heap.size ≤ bk) ∨ t.1 = A
theorem fm_len2 {α : Type} (g : Nat → List α) (m : Nat) : ∀ n, (∀ i, i < n → (g i).length ≤ m) → ((List.range n).flatMap g).length ≤ n * m
  | 0, _ => by simp
  | n + 1, h => by
    have h1 := fm_len2 g m n (fun i hi => h i (by omega))
    have h2 := h n (by omega)
    rw [List.range_succ, List.flatMap_append, List.length_append, Nat.add_mul]
    simp only [List.flatMap_cons, List.flatMap_nil, List.append_nil]
    omega
theorem fm_snoc {α : Type} (g : Nat → List α) (i : Nat) : (List.range (i + 1)).flatMap g = (List.range i).flatMap g ++ g i := by
  rw [List.range_succ, List.flatMap_append]; simp
theorem dis_of {us : List Tr} {A : Option Addr} {m1 m2 : Nat} {is : List Nat} (h1 : ∀ bk, bk ∈ is → bk < m1) (h2 : ∀ bk, bk ∈ is → bk < m2) (hf : ∀ t ∈ us, (∀ bk off, t.1 = some ⟨bk, off, none⟩ → m2 ≤ bk) ∨ t.1 = A) (hA : ∀ bk off, A = some ⟨bk, off, none⟩ → m1 ≤ bk) : ∀ t ∈ us, ∀ bk off, t.1 = some ⟨bk, off, none⟩ → bk ∉ is := fun t ht bk off e hm => by
  rcases hf t ht with h7 | h7
  · have := h7 bk off e; have := h2 bk hm; omega
  · have := hA bk off (h7 ▸ e); have := h1 bk hm; omega
theorem index_neg_iff (v : Int) (l : List Int) : decide (indexZ (fun x => x == v) l < 0) = !decide (v ∈ l) := by
  rw [Bool.eq_iff_iff, decide_eq_true_eq, Bool.not_eq_true', decide_eq_false_iff_not]
  exact ⟨indexZ_neg, fun h => by
    by_cases h' : indexZ (fun x => x == v) l < 0
    · exact h'
    · exact absurd (indexZ_pos h') h⟩
end Go.Proofs.YtjjcopeedcdokaaDoor

set_option linter.unusedVariables false
set_option linter.unusedSimpArgs false
namespace Go.Proofs.YtjjcopeedcdokaaDoor
open Go.RowKit
theorem c_Plus (oA : Option Addr) (oc : Nat) (l : List Int) (x : Int) (hl9 : l.length ≤ 1000) (w0 : World) (h : Rd encI 1 oA l.length l w0) :
    Calls Tryd.prog 133 #[.slice oA l.length oc, .int .i64 x] w0 (RetX w0 (fun v w0' => ∃ A c, v = .slice A (l ++ [x]).length c ∧ Out (l ++ [x]) A c w0 w0')) := by
  refine c_enter (n := 11) Tryd.func133 rfl rfl (Nat.le_of_ble_eq_true rfl) ?_; intro a hf; simp only [zipR] at hf
  have hs := St.start w0 [Rd encI 1 oA l.length l] h.st1
  refine c_reg ?_
  refine gL hf (g_as hf rfl) (by decide) ?_; clear hf a; intro a hf
  refine e_nil ?_
  refine c_reg ?_
  refine vL hf (v_lits (len := 0) hf hs SL31 T3 .nil rfl rfl rfl rfl (by decide) rfl) (by decide) ?_; clear hs hf a; rintro _ w ⟨b1, rfl, hs⟩ a hf
  refine gL hf (g_mv hf rfl) (by decide) ?_; clear hf a; intro a hf
  refine vL hf (v_accN (e := 3) (o := some (b1, #[])) (l := []) (l' := l) (len := 0) hf 0 hs rfl ⟨0, rfl, Nat.le_refl _, by omega, rfl⟩ AP31 (enc := encI) (fun _ => rfl) (by decide) (by intro x v hv9; rw [List.mem_singleton.1 hv9]; rfl) rfl rfl rfl (hs.rd (.head _)) (by omega) (by decide)) (by decide) ?_; clear hs hf a; rintro _ w ⟨o1, rfl, ho1, hs⟩ a hf; dsimp only [List.take, List.nil_append] at hs
  refine gL hf (g_mv hf rfl) (by decide) ?_; clear hf a; intro a hf
  refine vL hf (v_lits (len := 1) hf hs SL31 T3 (.cons rfl .nil) rfl rfl rfl rfl (by decide) rfl) (by decide) ?_; clear hs hf a; rintro _ w ⟨b2, rfl, hs⟩ a hf
  refine vL hf (v_accN (e := 3) (R := []) (o := o1) (l := [] ++ l) (l' := [x]) hf 1 hs (by simp) ho1 AP31 (enc := encI) (fun _ => rfl) (by decide) (by intro x v hv9; rw [List.mem_singleton.1 hv9]; rfl) (by simp) rfl rfl (rd_one rfl (hs.own _ _ (.head _)).2) (by omega) (by decide)) (by decide) ?_; clear hs hf a; rintro _ w ⟨o2, rfl, ho2, hs⟩ a hf; dsimp only [List.take, List.cons_append, List.nil_append] at hs; rw [List.append_nil] at hs
  have hn1 : ∀ q, o2 = some q → w0.heap.size ≤ q.1 := fun q e => by subst e; exact (hs.own _ _ (.tail _ (.head _))).1
  obtain ⟨A3, c3, e3, hl3, hs⟩ := hs.freeze (R := []) (e := 3) (o := o2) (enc := encI) (sz := 1) 1 (by simp) ho2 (fun _ => rfl) (by decide)
  have hA3 := acc_new hn1 e3; rw [show 0 + l.length + 1 = ([] ++ l ++ [x]).length by simp] at hf; rw [e3] at hf
  refine gL hf (g_as hf rfl) (by decide) ?_; clear hf a; intro a hf
  refine e_nil ?_
  refine c_ret ?_
  refine e_ret1 hf rfl rfl ?_
  exact ⟨_, rfl, hs.below, A3, c3, rfl, hl3, hs.rd (.head _), hA3⟩

end Go.Proofs.YtjjcopeedcdokaaDoor

set_option linter.unusedVariables false
set_option linter.unusedSimpArgs false
namespace Go.Proofs.YtjjcopeedcdokaaDoor
open Go.RowKit
def tA : Option Tr → Option Addr
  | none => none
  | some t => t.1
def tL : Option Tr → List Int
  | none => []
  | some t => t.2.2
def tC : Option Tr → Nat
  | none => 0
  | some t => t.2.1
/-- A row, or none, as it lies in memory. -/
def tOK (o : Option Tr) (m : Nat) (w : World) : Prop := (tL o).length ≤ tC o ∧ Rd encI 1 (tA o) (tL o).length (tL o) w ∧ (∀ bk off, tA o = some ⟨bk, off, none⟩ → m ≤ bk) ∧ (o.isSome = true → tL o ≠ [])
theorem tOK.isNone {o : Option Tr} {m : Nat} {w : World} (h : tOK o m w) : (tA o).isNone = o.isNone := by
  cases o with
  | none => rfl
  | some t =>
    have h1 := h.2.2.2 rfl
    have h2 := h.2.1.isSome (List.length_pos_iff.2 h1)
    obtain ⟨ad, ha⟩ := Option.isSome_iff_exists.1 h2
    rw [ha]; rfl
def OrdsSpec (b : Sheet) (k : Nat) : Prop := ∀ (w : World) (r : List Int) (A : Option Addr) (cp : Nat) (fA : Option Addr) (fc : Nat) (rA : Option Addr) (rc : Nat), ShIn b fA fc rA rc w → r.length + k = b.flaps.length → r.length ≤ cp → Rd encI 1 A r.length r w →
  Calls Tryd.prog 121 #[.agg #[.int .i64 b.wide, .int .i64 b.high, .slice fA b.flaps.length fc, .slice rA b.rules.length rc], .slice A r.length cp] w (RetX w (RowsOut (ordsR b k r) A w))
def ordN (b : Sheet) (k : Nat) (r : List Int) (i : Nat) : List (List Int) := if (!decide (((i : Nat) : Int) ∈ r) && doesB b (r ++ [((i : Nat) : Int)]) true) = true then ordsR b k (r ++ [((i : Nat) : Int)]) else []
theorem ords_full {b : Sheet} {k : Nat} {r : List Int} (h : r.length = b.flaps.length) : ordsR b k r = [r] := by cases k <;> simp only [ordsR] <;> rw [if_pos h]
theorem ords_more {b : Sheet} {k : Nat} {r : List Int} (h : r.length ≠ b.flaps.length) : ordsR b (k + 1) r = (List.range b.flaps.length).flatMap (ordN b k r) := by simp only [ordsR]; rw [if_neg h]; rfl
theorem ordsR_bound {b : Sheet} (hm : b.flaps.length ≤ 7) : ∀ (k : Nat) (r : List Int), (ordsR b k r).length ≤ 7 ^ k
  | 0, r => by simp only [ordsR]; split <;> simp
  | k + 1, r => by
    by_cases h : r.length = b.flaps.length
    · rw [ords_full h]; exact Nat.succ_le_of_lt (Nat.pow_pos (n := k + 1) (show 0 < 7 by decide))
    · rw [ords_more h]
      have h1 := fm_len2 (ordN b k r) (7 ^ k) b.flaps.length (fun i _ => by
        unfold ordN
        split
        · exact ordsR_bound hm k _
        · simp)
      have h2 := Nat.mul_le_mul_right (7 ^ k) hm
      rw [Nat.pow_succ, Nat.mul_comm]
      exact Nat.le_trans h1 h2
theorem ordPart_bound {b : Sheet} (hm : b.flaps.length ≤ 7) (r : List Int) {k i : Nat} (hk : k ≤ 6) (hi : i ≤ b.flaps.length) : ((List.range i).flatMap (ordN b k r)).length ≤ i * 117649 := by
  refine fm_len2 (ordN b k r) 117649 i fun j _ => ?_
  unfold ordN
  split
  · refine Nat.le_trans (ordsR_bound hm k _) (Nat.le_trans (Nat.pow_le_pow_right (by decide) hk) (by decide))
  · simp
theorem new_of2 {us : List Tr} {A : Option Addr} {m0 m1 m2 : Nat} (h0 : m0 ≤ m1) (hA : ∀ bk off, A = some ⟨bk, off, none⟩ → m1 ≤ bk) (hf : ∀ t ∈ us, (∀ bk off, t.1 = some ⟨bk, off, none⟩ → m2 ≤ bk) ∨ t.1 = A) (h02 : m0 ≤ m2) : ∀ t ∈ us, ∀ bk off, t.1 = some ⟨bk, off, none⟩ → m0 ≤ bk := fun t ht bk off e => by
  rcases hf t ht with h7 | h7
  · have := h7 bk off e; omega
  · have := hA bk off (h7 ▸ e); omega
end Go.Proofs.YtjjcopeedcdokaaDoor

set_option linter.unusedVariables false
set_option linter.unusedSimpArgs false
namespace Go.Proofs.YtjjcopeedcdokaaDoor
open Go.RowKit
end Go.Proofs.YtjjcopeedcdokaaDoor

set_option linter.unusedVariables false
set_option linter.unusedSimpArgs false
namespace Go.Proofs.YtjjcopeedcdokaaDoor
open Go.RowKit
theorem c_orders_step (b : Sheet) (k : Nat) (hv : Valid b) (ih : ∀ k2, k = k2 + 1 → OrdsSpec b k2) (fA : Option Addr) (fc : Nat) (rA : Option Addr) (rc : Nat) (A : Option Addr) (cp : Nat) (r : List Int) (w0 : World) (h : ShIn b fA fc rA rc w0) (hrk : r.length + k = b.flaps.length) (hcp : r.length ≤ cp) (hr : Rd encI 1 A r.length r w0) :
    Calls Tryd.prog 121 #[.agg #[.int .i64 b.wide, .int .i64 b.high, .slice fA b.flaps.length fc, .slice rA b.rules.length rc], .slice A r.length cp] w0 (RetX w0 (RowsOut (ordsR b k r) A w0)) := by
  refine c_enter (n := 41) Tryd.func121 rfl rfl (Nat.le_of_ble_eq_true rfl) ?_; intro a hf; simp only [zipR] at hf
  have hs := St.start w0 [Rd encF 5 fA b.flaps.length b.flaps, Rd encR 2 rA b.rules.length b.rules, Rd encI 1 A r.length r] (stab_app h.stab hr.st1)
  have hfm := h.F.2.1; have hrm := h.R.2.1; have hmany := hv.many; have hrlm := hr.2.1
  refine c_reg ?_
  refine vL hf (v_boxA hf hs rfl) (by decide) ?_; clear hs hf a; rintro _ w ⟨b1, rfl, hs⟩ a hf
  refine gL hf (g_as hf rfl) (by decide) ?_; clear hf a; intro a hf
  refine e_nil ?_
  refine wp_seq ?_
  refine c_reg ?_
  refine gL hf (g_mv hf rfl) (by decide) ?_; clear hf a; intro a hf
  refine gL hf (g_len hf SL31 rfl) (by decide) ?_; clear hf a; intro a hf
  refine gL hf (g_fa (off' := 2) hf F25_2 rfl rfl) (by decide) ?_; clear hf a; intro a hf
  refine gL hf (g_ld hf hs T22 rfl (k := 0) rfl rfl) (by decide) ?_; clear hf a; intro a hf
  refine gL hf (g_len hf SL22 rfl) (by decide) ?_; clear hf a; intro a hf
  refine gL hf (g_eql hf rfl rfl) (by decide) ?_; clear hf a; intro a hf
  refine e_nil ?_
  refine c_cond hf rfl (fun hc1 => ?_) (fun hc1 => ?_)
  · try simp only [decide_eq_true_eq, decide_eq_false_iff_not] at hc1
    have hfull : r.length = b.flaps.length := by simp at hc1; omega
    refine c_reg ?_
    refine gL hf (g_mv hf rfl) (by decide) ?_; clear hf a; intro a hf
    refine vL hf (v_lits (len := 1) hf hs SL144 T31 (.cons rfl .nil) rfl rfl rfl rfl (by decide) rfl) (by decide) ?_; clear hs hf a; rintro _ w ⟨b2, rfl, hs⟩ a hf
    refine gL hf (g_as hf rfl) (by decide) ?_; clear hf a; intro a hf
    refine e_nil ?_
    refine c_ret (q_thenR ?_)
    refine e_ret1 hf rfl rfl ?_
    exact ⟨_, rfl, hs.below, some ⟨b2, 0, none⟩, 1, [(A, cp, r)], rfl, by rw [ords_full hfull]; rfl, ⟨Nat.le_refl _, rd_one (enc := encT) (x := (A, cp, r)) rfl (hs.own _ _ (.head _)).2, fun bk off e => by cases e; exact (hs.own _ _ (.head _)).1⟩, fun t ht => by rw [List.mem_singleton.1 ht]; exact ⟨hcp, hs.rd (.tail _ (.tail _ (.head _)))⟩, fun t ht => by rw [List.mem_singleton.1 ht]; exact .inr rfl⟩
  · try simp only [decide_eq_true_eq, decide_eq_false_iff_not] at hc1
    have hnf : r.length ≠ b.flaps.length := by simp at hc1; omega
    obtain ⟨k2, hk2⟩ : ∃ k2, k = k2 + 1 := ⟨k - 1, by omega⟩
    have hform : ordsR b k r = (List.range b.flaps.length).flatMap (ordN b k2 r) := by rw [hk2]; exact ords_more hnf
    refine c_skip (q_thenN ?_)
    refine c_reg ?_
    refine gL hf (g_as hf rfl) (by decide) ?_; clear hf a; intro a hf
    refine e_nil ?_
    refine wp_seq ?_
    refine c_reg ?_
    refine gL hf (g_as hf rfl) (by decide) ?_; clear hf a; intro a hf
    refine e_nil ?_
    refine c_block ?_
    replace hs := hs.addD (D := TSD []) ((tsd_nil _).stab (fun t ht => by cases ht))
    refine c_loopD (fun s => Base.of w0) (fun s => TSD s.2.2 :: Rd encF 5 fA b.flaps.length b.flaps :: Rd encR 2 rA b.rules.length b.rules :: Rd encI 1 A r.length r :: []) hf (List.range' 5 3 ++ List.range' 16 24) (σ := (Nat × Acc × List Tr)) (fun s => [(5, accV 1 s.2.2.length s.2.1), (6, .int .i64 (s.1 : Nat))]) (fun s => (b1, .cells #[.int .i64 b.wide, .int .i64 b.high, .slice fA b.flaps.length fc, .slice rA b.rules.length rc] 25 (0, 0)) :: accH 31 s.2.1) (fun s => s.1 ≤ b.flaps.length ∧ AccOK encT 1 s.2.2 s.2.1 ∧ rowsT s.2.2 = (List.range s.1).flatMap (ordN b k2 r) ∧ ∀ t ∈ s.2.2, (∀ bk off, t.1 = some ⟨bk, off, none⟩ → w0.heap.size ≤ bk) ∨ t.1 = A) (fun s => b.flaps.length - s.1) (0, none, []) hs ⟨Nat.zero_le _, rfl, rfl, (fun t ht => by cases ht)⟩ (.cons rfl (.cons rfl .nil)) ?_
    intro ⟨i, oa, ts⟩ a w hJ hf hs
    dsimp only at hJ hf hs
    obtain ⟨hi2, hoa, hrws, hfrs⟩ := hJ
    refine wp_seq ?_
    refine c_reg ?_
    refine gL hf (g_mv hf rfl) (by decide) ?_; clear hf a; intro a hf
    refine gL hf (g_fa (off' := 2) hf F25_2 rfl rfl) (by decide) ?_; clear hf a; intro a hf
    refine gL hf (g_ld hf hs T22 rfl (k := 0) rfl rfl) (by decide) ?_; clear hf a; intro a hf
    refine gL hf (g_len hf SL22 rfl) (by decide) ?_; clear hf a; intro a hf
    refine gL hf (g_lss hf rfl rfl) (by decide) ?_; clear hf a; intro a hf
    refine e_nil ?_
    refine c_cond hf rfl (fun hc2 => ?_) (fun hc2 => ?_)
    · try simp only [decide_eq_true_eq, decide_eq_false_iff_not] at hc2
      have hii : i < b.flaps.length := by omega
      refine c_skip (q_thenN ?_)
      refine c_blockS ?_
      refine c_reg ?_
      refine gL hf (g_mv hf rfl) (by decide) ?_; clear hf a; intro a hf
      refine gL hf (g_mv hf rfl) (by decide) ?_; clear hf a; intro a hf
      refine callX hf hs (c_Plus _ _ r ((i : Nat) : Int) (by omega) _ (hs.rd (.tail _ (.tail _ (.tail _ (.head _)))))) rfl rfl rfl E133 (by decide) ?_; have hsz9 := fun bk hbk => hs.lt' (b := bk) hbk; have hsz0 := hs.below.size; intro v w1 a hR hb hs1 hf; obtain ⟨Ap, cp9, rfl, hou⟩ := hR; have hsz7 := hb.size; replace hs := hs.fresh hs1 (outFresh hou); clear hs1 hb
      refine gL hf (g_as hf rfl) (by decide) ?_; clear hf a; intro a hf
      refine e_nil ?_
      refine c_reg ?_
      refine gL hf (g_mv hf rfl) (by decide) ?_; clear hf a; intro a hf
      refine gL hf (g_mv hf rfl) (by decide) ?_; clear hf a; intro a hf
      refine callL hf hs (c_IndexR _ _ _ r _ _ (hs.rd (.tail _ (.tail _ (.tail _ (.tail _ (.head _))))))) rfl rfl rfl E24 (by decide) ?_; clear hs hf a; intro w a hs hf
      refine gL hf (g_lss hf rfl rfl) (by decide) ?_; clear hf a; intro a hf
      refine gL hf (g_mv hf rfl) (by decide) ?_; clear hf a; intro a hf
      refine ggL hf rfl rfl (gyes_t _) (fun hg => g_ldW hf hs T25 rfl (k := 0) rfl rfl) (by decide) ?_; clear hf a; intro a hf
      refine ggL hf rfl rfl (gyes_t _) (fun hg => g_mv hf rfl) (by decide) ?_; clear hf a; intro a hf
      refine callG hf hs rfl rfl (gyes_t _) (fun hg => ⟨_, _, _, _, c_doesR b _ _ _ _ _ _ (r ++ [((i : Nat) : Int)]) true hv _ ⟨hs.rd (.tail _ (.tail _ (.head _))), hs.rd (.tail _ (.tail _ (.tail _ (.head _)))), h.fc_, h.rc_⟩ (hs.rd (.head _)), rfl, evs_cons (ev_gv rfl hg) (evs_cons (ev_gv rfl hg) (evs_cons rfl evs_nil)), rfl⟩) E118 (by decide) ?_; clear hs hf a; intro w a hs hf
      refine gL hf (g_and hf rfl rfl) (by decide) ?_; clear hf a; intro a hf
      refine e_nil ?_
      refine c_cond hf rfl (fun hc3 => ?_) (fun hc3 => ?_)
      · skip
        rw [index_neg_iff] at hc3
        have hrn : ordN b k2 r i = ordsR b k2 (r ++ [((i : Nat) : Int)]) := by unfold ordN; rw [if_pos hc3]
        have hpb := ordPart_bound hmany.2 r (k := k2) (i := i + 1) (by omega) (by omega)
        rw [fm_snoc, hrn, ← hrws, List.length_append, rowsT_len] at hpb
        refine c_reg1 ?_
        refine gL hf (g_mv hf rfl) (by decide) ?_; clear hf a; intro a hf
        refine gL hf (g_ldW hf hs T25 rfl (k := 0) rfl rfl) (by decide) ?_; clear hf a; intro a hf
        refine gL hf (g_mv hf rfl) (by decide) ?_; clear hf a; intro a hf
        refine callX hf hs (ih k2 hk2 _ (r ++ [((i : Nat) : Int)]) Ap cp9 _ _ _ _ ⟨hs.rd (.tail _ (.tail _ (.head _))), hs.rd (.tail _ (.tail _ (.tail _ (.head _)))), h.fc_, h.rc_⟩ (by rw [List.length_append]; simp only [List.length_cons, List.length_nil]; omega) hou.1 (hs.rd (.head _))) rfl rfl rfl E121 (by decide) ?_; have hsz6 := hs.below.size; have hsz8 := fun bk hbk => hs.lt' (b := bk) hbk; intro v w1 a hR hb hs1 hf; obtain ⟨A5, c5, us, rfl, hus, houu, htu, hfu⟩ := hR; have hdis := dis_of hsz9 hsz8 hfu hou.2.2; replace hs := (hs.fresh hs1 houu.fresh).addD (D := TSD us) (htu.stab hdis); clear hs1 hb
        have hul : us.length = (ordsR b k2 (r ++ [((i : Nat) : Int)])).length := by rw [← hus, rowsT_len]
        refine vL hf (v_accN (e := 31) (R := []) (o := oa) (l := ts) (l' := us) hf 1 hs (by simp) hoa AP144 (enc := encT) (fun _ => rfl) (by decide) (by intro x v hv9; rw [List.mem_singleton.1 hv9]; rfl) rfl rfl rfl (hs.rd (.tail _ (.head _))) (by omega) (by decide)) (by decide) ?_; clear hs hf a; rintro _ w ⟨oa2, rfl, hoa2, hs⟩ a hf; dsimp only [List.take, List.cons_append, List.nil_append] at hs; rw [List.append_nil] at hs
        replace hs := hs.addD (tsd_app (hs.data _ (.tail _ (.tail _ (.tail _ (.head _))))) (hs.data _ (.head _)))
        rw [← List.length_append] at hf
        refine gL hf (g_as hf rfl) (by decide) ?_; clear hf a; intro a hf
        refine e_nil1 (q_blkN (q_thenN ?_))
        refine c_reg1 ?_
        refine gL hf (g_mv hf rfl) (by decide) ?_; clear hf a; intro a hf
        refine gL hf (g_addI hf rfl rfl (by omega)) (by decide) ?_; clear hf a; intro a hf
        refine gL hf (g_as hf rfl) (by decide) ?_; clear hf a; intro a hf
        refine e_nil1 (q_thenN ?_)
        first | exact ⟨(i + 1, oa2, ts ++ us), ⟨by dsimp only; omega, hoa2, by dsimp only; rw [rowsT_app, hrws, hus, fm_snoc, hrn], fun t ht => by rcases List.mem_append.1 ht with ht | ht; exact hfrs t ht; exact .inl (new_of2 hsz0 hou.2.2 hfu hsz6 t ht)⟩, (by dsimp only; omega), hf.back (by repeat (first | (with_reducible exact Ext.base) | ((with_reducible refine Ext.cons ?_ ?_); (· rfl)) | ((with_reducible refine Ext.over ?_ ?_ ?_); (· rfl); (· rfl)))) (allKeys rfl) (.cons rfl (.cons rfl .nil)), (by first | exact hs.subD (fun _ h => by rcases List.mem_cons.1 h with rfl | h; exact .head _; exact .tail _ (.tail _ (.tail _ (.tail _ (.tail _ h))))) | exact hs.subD (fun _ h => .tail _ h))⟩ | exact ⟨(i + 1, oa, ts), ⟨by dsimp only; omega, hoa, by dsimp only; rw [fm_snoc, hrn, List.append_nil]; exact hrws, hfrs⟩, (by dsimp only; omega), hf.back (by repeat (first | (with_reducible exact Ext.base) | ((with_reducible refine Ext.cons ?_ ?_); (· rfl)) | ((with_reducible refine Ext.over ?_ ?_ ?_); (· rfl); (· rfl)))) (allKeys rfl) (.cons rfl (.cons rfl .nil)), (by first | exact hs.subD (fun _ h => by rcases List.mem_cons.1 h with rfl | h; exact .head _; exact .tail _ (.tail _ (.tail _ (.tail _ (.tail _ h))))) | exact hs.subD (fun _ h => .tail _ h))⟩
      · skip
        rw [index_neg_iff] at hc3
        have hrn : ordN b k2 r i = [] := by unfold ordN; rw [hc3]; simp
        refine c_skip (q_blkN (q_thenN ?_))
        refine c_reg1 ?_
        refine gL hf (g_mv hf rfl) (by decide) ?_; clear hf a; intro a hf
        refine gL hf (g_addI hf rfl rfl (by omega)) (by decide) ?_; clear hf a; intro a hf
        refine gL hf (g_as hf rfl) (by decide) ?_; clear hf a; intro a hf
        refine e_nil1 (q_thenN ?_)
        first | exact ⟨(i + 1, oa2, ts ++ us), ⟨by dsimp only; omega, hoa2, by dsimp only; rw [rowsT_app, hrws, hus, fm_snoc, hrn], fun t ht => by rcases List.mem_append.1 ht with ht | ht; exact hfrs t ht; exact .inl (new_of2 hsz0 hou.2.2 hfu hsz6 t ht)⟩, (by dsimp only; omega), hf.back (by repeat (first | (with_reducible exact Ext.base) | ((with_reducible refine Ext.cons ?_ ?_); (· rfl)) | ((with_reducible refine Ext.over ?_ ?_ ?_); (· rfl); (· rfl)))) (allKeys rfl) (.cons rfl (.cons rfl .nil)), (by first | exact hs.subD (fun _ h => by rcases List.mem_cons.1 h with rfl | h; exact .head _; exact .tail _ (.tail _ (.tail _ (.tail _ (.tail _ h))))) | exact hs.subD (fun _ h => .tail _ h))⟩ | exact ⟨(i + 1, oa, ts), ⟨by dsimp only; omega, hoa, by dsimp only; rw [fm_snoc, hrn, List.append_nil]; exact hrws, hfrs⟩, (by dsimp only; omega), hf.back (by repeat (first | (with_reducible exact Ext.base) | ((with_reducible refine Ext.cons ?_ ?_); (· rfl)) | ((with_reducible refine Ext.over ?_ ?_ ?_); (· rfl); (· rfl)))) (allKeys rfl) (.cons rfl (.cons rfl .nil)), (by first | exact hs.subD (fun _ h => by rcases List.mem_cons.1 h with rfl | h; exact .head _; exact .tail _ (.tail _ (.tail _ (.tail _ (.tail _ h))))) | exact hs.subD (fun _ h => .tail _ h))⟩
    · try simp only [decide_eq_true_eq, decide_eq_false_iff_not] at hc2
      obtain rfl : i = b.flaps.length := by omega
      have hn1 : ∀ q, oa = some q → w0.heap.size ≤ q.1 := fun q e => by subst e; exact (hs.own _ _ (.tail _ (.head _))).1
      obtain ⟨A3, c3, e3, hl3, hs⟩ := hs.freeze (R := []) (e := 31) (o := oa) (enc := encT) (sz := 1) 1 (by simp) hoa (fun _ => rfl) (by decide)
      have hA3 := acc_new hn1 e3
      rw [e3] at hf
      refine c_exit (q_thenX (q_thenX (q_blkX (q_thenN ?_))))
      refine c_reg ?_
      refine gL hf (g_mv hf rfl) (by decide) ?_; clear hf a; intro a hf
      refine gL hf (g_as hf rfl) (by decide) ?_; clear hf a; intro a hf
      refine e_nil ?_
      refine c_ret ?_
      refine e_ret1 hf rfl rfl ?_
      exact ⟨_, rfl, hs.below, A3, c3, ts, rfl, by rw [hform]; exact hrws, ⟨hl3, hs.rd (.head _), hA3⟩, hs.rd (.tail _ (.head _)), hfrs⟩

end Go.Proofs.YtjjcopeedcdokaaDoor

set_option linter.unusedVariables false
set_option linter.unusedSimpArgs false
namespace Go.Proofs.YtjjcopeedcdokaaDoor
open Go.RowKit
theorem c_ordersR {b : Sheet} (hv : Valid b) : ∀ k, OrdsSpec b k
  | 0 => fun w r A cp fA fc rA rc h1 h2 h3 h4 => c_orders_step b 0 hv (fun k2 e => by cases e) fA fc rA rc A cp r w h1 h2 h3 h4
  | k + 1 => fun w r A cp fA fc rA rc h1 h2 h3 h4 => c_orders_step b (k + 1) hv (fun k2 e => by cases e; exact c_ordersR hv k) fA fc rA rc A cp r w h1 h2 h3 h4
end Go.Proofs.YtjjcopeedcdokaaDoor

set_option linter.unusedVariables false
set_option linter.unusedSimpArgs false
namespace Go.Proofs.YtjjcopeedcdokaaDoor
open Go.RowKit
theorem c_OrderR (b : Sheet) (fA : Option Addr) (fc : Nat) (rA : Option Addr) (rc : Nat)  (w0 : World) (h : ShIn b fA fc rA rc w0) :
    Calls Tryd.prog 92 #[.agg #[.int .i64 b.wide, .int .i64 b.high, .slice fA b.flaps.length fc, .slice rA b.rules.length rc]] w0 (RetX w0 (fun v w0' => ∃ A c, v = .tuple #[.slice A (orderP b).1.length c, .int .i64 (orderP b).2] ∧ Out (orderP b).1 A c w0 w0')) := by
  refine c_enter (n := 19) Tryd.func92 rfl rfl (Nat.le_of_ble_eq_true rfl) ?_; intro a hf; simp only [zipR] at hf
  have hs := St.start w0 [Rd encF 5 fA b.flaps.length b.flaps, Rd encR 2 rA b.rules.length b.rules] h.stab
  have hfm := h.F.2.1; have hrm := h.R.2.1
  refine c_reg ?_
  refine vL hf (v_boxA hf hs rfl) (by decide) ?_; clear hs hf a; rintro _ w ⟨b1, rfl, hs⟩ a hf
  refine gL hf (g_as hf rfl) (by decide) ?_; clear hf a; intro a hf
  refine gL hf (g_as hf rfl) (by decide) ?_; clear hf a; intro a hf
  refine e_nil ?_
  refine wp_seq ?_
  refine c_reg ?_
  refine gL hf (g_ldW hf hs T25 rfl (k := 0) rfl rfl) (by decide) ?_; clear hf a; intro a hf
  refine callL hf hs (c_CheckR b _ _ _ _ _ ⟨hs.rd (.head _), hs.rd (.tail _ (.head _)), h.fc_, h.rc_⟩) rfl rfl rfl E85 (by decide) ?_; clear hs hf a; intro w a hs hf
  refine gL hf (g_as hf rfl) (by decide) ?_; clear hf a; intro a hf
  refine e_nil ?_
  refine c_reg ?_
  refine gL hf (g_mv hf rfl) (by decide) ?_; clear hf a; intro a hf
  refine gL hf (g_neq hf rfl rfl) (by decide) ?_; clear hf a; intro a hf
  refine e_nil ?_
  refine c_cond hf rfl (fun hc1 => ?_) (fun hc1 => ?_)
  · skip
    have hck : checkB b = false := by cases h9 : checkB b with
            | false => rfl
            | true => rw [h9] at hc1; cases hc1
    have hb40 := bad_ask hck true
    refine c_reg ?_
    refine gL hf (g_mv hf rfl) (by decide) ?_; clear hf a; intro a hf
    refine gL hf (g_as hf rfl) (by decide) ?_; clear hf a; intro a hf
    refine gL hf (g_as hf rfl) (by decide) ?_; clear hf a; intro a hf
    refine e_nil ?_
    refine c_ret (q_thenR ?_)
    refine e_ret2 hf rfl rfl rfl ?_
    have hor : orderP b = ([], 40) := bad_order hck
    have e40 : (if checkB b = true then (0 : Int) else 40) = 40 := by rw [hck]; rfl
    exact ⟨_, rfl, hs.below, none, 0, by rw [hor, e40]; rfl, by rw [hor]; exact ⟨Nat.le_refl _, rd_nil, fun b o e => by cases e⟩⟩
  · skip
    have hck : checkB b = true := by cases h9 : checkB b with
            | true => rfl
            | false => rw [h9] at hc1; cases hc1
    have hv := valid_of hck
    have hmany := hv.many
    have hrl := hv.rules
    refine c_skip (q_thenN ?_)
    have hsz28 := hs.below.size
    have ha0 : askE b true = 0 := by simp [askE, hck]
    refine c_reg ?_
    refine gL hf (g_ldW hf hs T25 rfl (k := 0) rfl rfl) (by decide) ?_; clear hf a; intro a hf
    refine callX hf hs (c_ordersR hv b.flaps.length _ [] none 0 _ _ _ _ ⟨hs.rd (.head _), hs.rd (.tail _ (.head _)), h.fc_, h.rc_⟩ (by simp) (Nat.le_refl _) rd_nil) rfl rfl rfl E121 (by decide) ?_; have hsz8 := fun bk hbk => hs.lt' (b := bk) hbk; intro v w1 a hR hb hs1 hf; obtain ⟨A5, c5, us, rfl, hus, houu, htu, hfu⟩ := hR; rw [ordsR_all hv] at hus; replace hs := (hs.fresh hs1 houu.fresh).addD (D := TSD us) (htu.stab (dis_of hsz8 hsz8 hfu (fun bk off e => by cases e))); clear hs1 hb
    refine gL hf (g_as hf rfl) (by decide) ?_; clear hf a; intro a hf
    refine e_nil ?_
    refine wp_seq ?_
    refine c_reg ?_
    refine gL hf (g_mv hf rfl) (by decide) ?_; clear hf a; intro a hf
    refine gL hf (g_len hf SL144 rfl) (by decide) ?_; clear hf a; intro a hf
    refine gL hf (g_eql hf rfl rfl) (by decide) ?_; clear hf a; intro a hf
    refine e_nil ?_
    refine c_cond hf rfl (fun hc2 => ?_) (fun hc2 => ?_)
    · try simp only [decide_eq_true_eq, decide_eq_false_iff_not] at hc2
      have hu0 : us = [] := by simpa using hc2
      refine c_reg ?_
      refine gL hf (g_as hf rfl) (by decide) ?_; clear hf a; intro a hf
      refine gL hf (g_as hf rfl) (by decide) ?_; clear hf a; intro a hf
      refine e_nil ?_
      refine c_ret (q_thenR ?_)
      refine e_ret2 hf rfl rfl rfl ?_
      have hor : orderP b = ([], 4) := by rw [hu0] at hus; simp only [orderP, ha0, ← hus]; rfl
      exact ⟨_, rfl, hs.below, none, 0, by rw [hor]; rfl, by rw [hor]; exact ⟨Nat.le_refl _, rd_nil, fun b o e => by cases e⟩⟩
    · try simp only [decide_eq_true_eq, decide_eq_false_iff_not] at hc2
      have hu1 : 0 < us.length := by cases us with | nil => simp at hc2 | cons u us => simp
      refine c_skip (q_thenN ?_)
      refine c_reg ?_
      refine gL hf (g_mv hf rfl) (by decide) ?_; clear hf a; intro a hf
      (first | (refine gL hf (g_ixE hf hs (.tail _ (.head _)) SL144 rfl rfl (by omega)) (by decide) ?_) | (refine gL hf (g_ixD hf hs (.tail _ (.head _)) SL144 rfl rfl (by omega)) (by decide) ?_)); clear hf a; intro a hf
      refine gL hf (g_ldE hf hs (.tail _ (.head _)) T31 rfl rfl (by omega)) (by decide) ?_; clear hf a; intro a hf
      refine gL hf (g_as hf rfl) (by decide) ?_; clear hf a; intro a hf
      refine gL hf (g_as hf rfl) (by decide) ?_; clear hf a; intro a hf
      refine e_nil ?_
      refine c_ret ?_
      refine e_ret2 hf rfl rfl rfl ?_
      have htj := (hs.rd (.head _)) _ (getD_mem (l := us) (i := 0) hu1)
      have hor : orderP b = ((us.getD 0 default).2.2, 0) := by
          cases us with
          | nil => simp at hu1
          | cons u us => simp only [orderP, ha0, ← hus]; rfl
      exact ⟨_, rfl, hs.below, (us.getD 0 default).1, (us.getD 0 default).2.1, by rw [hor], by rw [hor]; exact ⟨htj.1, htj.2, fun bk off e => by rcases hfu _ (getD_mem (l := us) (i := 0) hu1) with h7 | h7; (exact Nat.le_trans hsz28 (h7 bk off e)); (rw [h7] at e; cases e)⟩⟩

end Go.Proofs.YtjjcopeedcdokaaDoor

set_option linter.unusedVariables false
set_option linter.unusedSimpArgs false
namespace Go.Proofs.YtjjcopeedcdokaaDoor
open Go.RowKit
end Go.Proofs.YtjjcopeedcdokaaDoor

set_option linter.unusedVariables false
set_option linter.unusedSimpArgs false
namespace Go.Proofs.YtjjcopeedcdokaaDoor
open Go.RowKit
def encW (x : Wkr) : List Value := [.int .i64 x.sheets, .slice x.oA x.order.length x.oc, .int .i64 x.bl, .int .i64 x.bh, .int .i64 x.tl, .int .i64 x.th]
/-- The orders of the workers lie where they are said to. -/
def OrdD (ws : List Wkr) (w : World) : Prop := ∀ x ∈ ws, x.order.length ≤ x.oc ∧ Rd encI 1 x.oA x.order.length x.order w
theorem OrdD.stable {ws : List Wkr} {w : World} {is : List Nat} (h : OrdD ws w) (hn : ∀ x ∈ ws, ∀ b o, x.oA = some ⟨b, o, none⟩ → b ∉ is) : Stable is w (OrdD ws) :=
  fun w' hl x hx => ⟨(h x hx).1, ((h x hx).2.stable (hn x hx)) w' hl⟩
structure BkIn (k : Bk) (fA : Option Addr) (fc : Nat) (rA : Option Addr) (rc : Nat) (wA : Option Addr) (wc : Nat) (w : World) : Prop where
  sh : ShIn k.sh fA fc rA rc w
  W : Rd encW 6 wA k.ws.length k.ws w
  wc_ : k.ws.length ≤ wc
  O : OrdD k.ws w
theorem BkIn.stab {k : Bk} {fA : Option Addr} {fc : Nat} {rA : Option Addr} {rc : Nat} {wA : Option Addr} {wc : Nat} {w : World} (h : BkIn k fA fc rA rc wA wc w) : ∀ D ∈ [Rd encF 5 fA k.sh.flaps.length k.sh.flaps, Rd encR 2 rA k.sh.rules.length k.sh.rules, Rd encW 6 wA k.ws.length k.ws, OrdD k.ws], Stable [] w D := by
  intro D hD
  simp only [List.mem_cons, List.not_mem_nil, or_false] at hD
  rcases hD with rfl | rfl | rfl | rfl
  · exact h.sh.F.stable (by simp)
  · exact h.sh.R.stable (by simp)
  · exact h.W.stable (by simp)
  · exact h.O.stable (by simp)
def baseK (k : Bk) : Bool := checkB k.sh && fitsB k.gross 1 144 && fitsB k.pay 0 999 && fitsB k.fine 0 99 && decide ((k.ws.length : Int) ≤ 4)
def okW (k : Bk) (i : Nat) : Bool := (k.ws.take i).all (wkrOK k.sh)
theorem hck_eq (k : Bk) : hckB k = (baseK k && okW k k.ws.length) := by unfold hckB baseK okW; rw [List.take_length]
theorem base_cond (k : Bk) : ((((((if checkB k.sh = true then (0 : Int) else 40) != 0) || !fitsB k.gross 1 144) || !fitsB k.pay 0 999) || !fitsB k.fine 0 99) || decide (4 < ((k.ws.length : Nat) : Int))) = !baseK k := by
  unfold baseK
  rw [show decide (4 < ((k.ws.length : Nat) : Int)) = !decide (((k.ws.length : Nat) : Int) ≤ 4) by rw [Bool.eq_iff_iff]; simp]
  cases checkB k.sh <;> simp
theorem base_true {k : Bk} (h : baseK k = true) : checkB k.sh = true ∧ k.ws.length ≤ 4 := by
  simp only [baseK, Bool.and_eq_true, decide_eq_true_eq] at h
  exact ⟨h.1.1.1.1, by omega⟩
theorem okW_succ {k : Bk} {i : Nat} (h : i < k.ws.length) : okW k (i + 1) = (okW k i && wkrOK k.sh (k.ws.getD i default)) := by
  unfold okW
  rw [List.take_add_one, List.getElem?_eq_getElem h, List.all_append, List.getD_eq_getElem?_getD, List.getElem?_eq_getElem h]
  simp
theorem okW_no {k : Bk} {i : Nat} (h : i < k.ws.length) (h1 : wkrOK k.sh (k.ws.getD i default) = false) : hckB k = false := by
  rw [hck_eq, Bool.and_eq_false_iff]
  right
  rw [Bool.eq_false_iff]; intro h2
  unfold okW at h2
  rw [List.take_length, List.all_eq_true] at h2
  rw [h2 _ (getD_mem h)] at h1; cases h1
theorem wkr_cond (b : Sheet) (x : Wkr) : (((((doesP b x.order).2 != 0) || !fitsB x.sheets 0 600) || !spanS x.bl x.bh) || !spanS x.tl x.th) = !wkrOK b x := by
  unfold wkrOK
  rw [show ((doesP b x.order).2 != 0) = !decide ((doesP b x.order).2 = 0) by rw [Bool.eq_iff_iff]; simp]
  simp only [Bool.not_and]
/-- The same, as the specification asks it. -/
theorem base_condR (k : Bk) : ((((((if checkB k.sh = true then (0 : Int) else 40) == 0) && fitsB k.gross 1 144) && fitsB k.pay 0 999) && fitsB k.fine 0 99) && decide (((k.ws.length : Nat) : Int) ≤ 4)) = baseK k := by
  unfold baseK
  cases checkB k.sh <;> simp
theorem span_came (lo hi : Int) : (spanB lo hi 0 600 && decide (hi - lo ≤ 10)) = spanS lo hi := by
  unfold spanB spanS fitsB
  rw [Bool.eq_iff_iff]
theorem wkr_condR (b : Sheet) (x : Wkr) : (((fitsB x.sheets 0 600 && ((doesP b x.order).2 == 0)) && spanS x.bl x.bh) && spanS x.tl x.th) = wkrOK b x := by
  unfold wkrOK
  rw [show ((doesP b x.order).2 == 0) = decide ((doesP b x.order).2 = 0) by rw [Bool.eq_iff_iff]; simp, Bool.and_comm (fitsB x.sheets 0 600)]
def sumZ : List Int → Int
  | [] => 0
  | x :: l => x + sumZ l
theorem sumZ_snoc (l : List Int) (x : Int) : sumZ (l ++ [x]) = sumZ l + x := by
  induction l with
  | nil => simp [sumZ]
  | cons y l ih => simp only [List.cons_append, sumZ, ih]; omega
theorem sumZ_take {l : List Int} {i : Nat} (h : i < l.length) : sumZ (l.take (i + 1)) = sumZ (l.take i) + l.getD i default := by
  rw [List.take_add_one, List.getElem?_eq_getElem h, Option.toList_some, sumZ_snoc, List.getD_eq_getElem?_getD, List.getElem?_eq_getElem h]; rfl
theorem sumZ_bound {l : List Int} (h : ∀ x ∈ l, -1000000000 ≤ x ∧ x ≤ 1000000000) : -1000000000 * (l.length : Int) ≤ sumZ l ∧ sumZ l ≤ 1000000000 * (l.length : Int) := by
  induction l with
  | nil => simp [sumZ]
  | cons y l ih =>
    have h1 := h y (.head _)
    have h2 := ih fun x hx => h x (.tail _ hx)
    simp only [sumZ, List.length_cons]
    omega
end Go.Proofs.YtjjcopeedcdokaaDoor

set_option linter.unusedVariables false
set_option linter.unusedSimpArgs false
namespace Go.Proofs.YtjjcopeedcdokaaDoor
open Go.RowKit
section
variable {P : Program} {ds : List Deferred} {a : Act} {n : Nat} {L : Regs} {w : World} {t : TypeId} {x y : Operand} {i j : Int} {ty ty' : TypeId}
theorem g_mulI (hf : Fr ds a n L) (hx : ev L x = some (.int .i64 i)) (hy : ev L y = some (.int .i64 j)) (h : -9223372036854775808 ≤ i * j ∧ i * j ≤ 9223372036854775807) : Gets P (.binOp .mul ty x y ty') t a w (.int .i64 (i * j)) := by
  have := g_mul (P := P) (t := t) (w := w) (ty := ty) (ty' := ty') hf hx hy; rwa [wrap_in h] at this
theorem g_quoI (hf : Fr ds a n L) (hx : ev L x = some (.int .i64 i)) (hy : ev L y = some (.int .i64 j)) (h : j ≠ 0 ∧ -9223372036854775808 ≤ i.tdiv j ∧ i.tdiv j ≤ 9223372036854775807) : Gets P (.binOp .quo ty x y ty') t a w (.int .i64 (i.tdiv j)) := by
  have := g_quo (P := P) (t := t) (w := w) (ty := ty) (ty' := ty') hf hx hy h.1; rwa [wrap_in h.2] at this
theorem g_negI (hf : Fr ds a n L) (hx : ev L x = some (.int .i64 i)) (h : -9223372036854775808 ≤ -i ∧ -i ≤ 9223372036854775807) : Gets P (.unOp .neg ty x) t a w (.int .i64 (-i)) := by
  have := g_neg (P := P) (t := t) (w := w) (ty := ty) hf hx; rwa [Int.zero_sub, wrap_in h] at this
end
theorem tdiv_rng {p g : Int} (hg : 1 ≤ g) (h0 : 0 ≤ p) : 0 ≤ p.tdiv g ∧ p.tdiv g ≤ p :=
  ⟨tdiv_nonneg' hg h0, by rw [Int.tdiv_eq_ediv_of_nonneg h0]; exact Int.ediv_le_self _ h0⟩
theorem mul_rng {a b A B : Int} (ha : 0 ≤ a ∧ a ≤ A) (hb : 0 ≤ b ∧ b ≤ B) : 0 ≤ a * b ∧ a * b ≤ A * B :=
  ⟨Int.mul_nonneg ha.1 hb.1, Int.mul_le_mul ha.2 hb.2 hb.1 (by omega)⟩
/-- What a truth may be. -/
structure TrIn (x : Wkr) (n t : Int) : Prop where
  n0 : 0 ≤ n
  t0 : 0 ≤ t
  s : n + t ≤ x.sheets
  m : x.sheets ≤ 600
theorem trues_in {b : Sheet} {x : Wkr} (h : WkrV b x) {n t : Int} (hm : (n, t) ∈ trues x) : TrIn x n t := by
  have := mem_trues.1 hm; have := h.b0; have := h.t0
  exact ⟨by omega, by omega, by omega, h.s1⟩
theorem rtrues_in {b : Sheet} {x : Wkr} (h : WkrV b x) {d : Int} {e : Int × Int × Int} (hm : e ∈ rtrues d (trues x)) : TrIn x e.1 e.2.1 ∧ 0 ≤ e.2.2 ∧ e.2.2 ≤ e.1 := by
  obtain ⟨h1, h2⟩ := mem_rtrues.1 hm
  have h3 := trues_in h h1
  have := h3.n0
  exact ⟨h3, by rcases h2 with h2 | h2 <;> omega, by rcases h2 with h2 | h2 <;> omega⟩
theorem TrIn.hm {x : Wkr} {n t : Int} (h : TrIn x n t) : 0 ≤ hm x (n, t) ∧ hm x (n, t) ≤ 600 := by
  have := h.n0; have := h.t0; have := h.s; have := h.m
  simp only [Go.Proofs.YtjjcopeedcdokaaDoor.hm]; omega
theorem BkV.wk {k : Bk} (h : BkV k) {i : Nat} (hi : i < k.ws.length) : WkrV k.sh (k.ws.getD i default) := h.w _ (getD_mem hi)
def encQ (c : Int × Int × Int) : List Value := [.int .i64 c.1, .int .i64 c.2.1, .int .i64 c.2.2]
theorem hck_stop {k : Bk} {i : Nat} {ok : Bool} (hi : i ≤ k.ws.length) (hok : ok = (baseK k && okW k i)) (h : (ok && decide (((i : Nat) : Int) < ((k.ws.length : Nat) : Int))) = false) : hckB k = ok := by
  rw [hck_eq]
  cases hb : baseK k with
  | false => rw [hok, hb]; rfl
  | true =>
    rw [hb, Bool.true_and] at hok
    by_cases hl : i = k.ws.length
    · rw [hok, hl]; rfl
    · have hof : ok = false := by
        rw [Bool.and_eq_false_iff] at h
        rcases h with h | h
        · exact h
        · have := of_decide_eq_false h; omega
      rw [hof, Bool.true_and]
      rw [hof] at hok
      rw [Bool.eq_false_iff]; intro h2
      have : okW k i = true := by
        unfold okW at h2 ⊢
        rw [List.take_length] at h2
        rw [List.all_eq_true] at h2 ⊢
        exact fun x hx => h2 x (List.mem_of_mem_take hx)
      rw [← hok] at this; cases this
/-- What is told so far. -/
def rO (k : Bk) (x : Wkr) (what : Nat) (l : List (Int × Int × Int)) (i : Nat) : Int × Int := (rtold k x what (l.take i)).getD (0, 0)
theorem rtold_snoc (k : Bk) (x : Wkr) (what : Nat) (l : List (Int × Int × Int)) (c : Int × Int × Int) : rtold k x what (l ++ [c]) = mrg (rtold k x what l) (rval k x what c, rval k x what c) := by
  unfold rtold; rw [List.foldl_append]; rfl
theorem take_snoc {α : Type} [Inhabited α] {l : List α} {i : Nat} (h : i < l.length) : l.take (i + 1) = l.take i ++ [l.getD i default] := by
  rw [List.take_add_one, List.getElem?_eq_getElem h, List.getD_eq_getElem?_getD, List.getElem?_eq_getElem h]; rfl
theorem rO_first {k : Bk} {x : Wkr} {what : Nat} {l : List (Int × Int × Int)} (h : 0 < l.length) : rO k x what l (0 + 1) = (rval k x what (l.getD 0 default), rval k x what (l.getD 0 default)) := by
  unfold rO; rw [take_snoc h, rtold_snoc]; rfl
theorem rO_next {k : Bk} {x : Wkr} {what : Nat} {l : List (Int × Int × Int)} {i : Nat} (h : i < l.length) (h0 : i ≠ 0) : rO k x what l (i + 1) = (min (rO k x what l i).1 (rval k x what (l.getD i default)), max (rO k x what l i).2 (rval k x what (l.getD i default))) := by
  unfold rO; rw [take_snoc h, rtold_snoc]
  cases hr : rtold k x what (l.take i) with
  | none =>
    rcases mrg_snoc (fun c => (rval k x what c, rval k x what c)) (l.take i) with ⟨h1, _⟩ | ⟨s, h1, _⟩
    · have := congrArg List.length h1
      rw [List.length_take, List.length_nil] at this; omega
    · have h9 : rtold k x what (l.take i) = some s := h1
      rw [h9] at hr; cases hr
  | some s => rfl
theorem rO_all {k : Bk} (hv : BkV k) {x : Wkr} (hx : WkrV k.sh x) {what : Nat} (hw : what < 3) : rO k x what (rtrues (doesK k x) (trues x)) (rtrues (doesK k x) (trues x)).length = ofZ k what x := by
  unfold rO ofZ
  rw [List.take_length, rtold_eq hv hx hw]
theorem flatMap_len {α β : Type} (f : α → List β) (m : Nat) (h : ∀ x, (f x).length ≤ m) : ∀ l : List α, (l.flatMap f).length ≤ l.length * m
  | [] => by simp
  | x :: l => by
    rw [List.flatMap_cons, List.length_append, List.length_cons, Nat.succ_mul]
    have := h x; have := flatMap_len f m h l; omega
theorem trues_len {b : Sheet} {x : Wkr} (h : WkrV b x) : (trues x).length ≤ 121 := by
  have h1 := flatMap_len (rowT x) 11 (fun n => Nat.le_trans (rowT_len x n) (by have := h.t3; omega)) (zr x.bl x.bh)
  have h2 : (zr x.bl x.bh).length ≤ 11 := by rw [zr_len]; have := h.b3; omega
  have h3 : trues x = (zr x.bl x.bh).flatMap (rowT x) := rfl
  rw [h3]
  have := Nat.mul_le_mul_right 11 h2
  omega
/-- The specification's truths so far. -/
abbrev rtL (d : Int) (x : Wkr) (n t : Int) : List (Int × Int × Int) := rtrues d (truesTo x n ++ rowTo x n t)
theorem rt_next {d : Int} {x : Wkr} {n t : Int} (h : x.tl ≤ t) : rtL d x n t = rtL d x n (t - 1) ++ rrow d (n, t) := by
  unfold rtL; rw [rowTo_succ h, ← List.append_assoc, rtrues_snoc]
theorem rt_small {b : Sheet} {x : Wkr} (h : WkrV b x) {d n t : Int} (h0 : x.bl ≤ n) (h0' : n ≤ x.bh) (h1 : x.tl ≤ t) (h2 : t ≤ x.th) (h3 : n + t ≤ x.sheets) : (rtL d x n (t - 1)).length ≤ 242 := by
  have hp := (all_prefix h0 h0' h1 h2 h3).length_le
  have ht := trues_len h
  have hr := rtrues_len d (truesTo x n ++ rowTo x n (t - 1))
  rw [rowTo_succ h1] at hp
  simp only [List.length_append] at hp hr
  unfold rtL
  omega
theorem rt_start (d : Int) (x : Wkr) (n : Int) : rtL d x n (x.tl - 1) = rtrues d (truesTo x n) := by unfold rtL; rw [rowTo_start, List.append_nil]
theorem rt_row {d : Int} {x : Wkr} {n t : Int} (h0 : x.bl ≤ n) (h1 : x.tl ≤ t) (h2 : t - 1 ≤ x.th) (h3 : x.tl ≤ t - 1 → n + (t - 1) ≤ x.sheets) (h4 : (decide (t ≤ x.th) && decide (n + t ≤ x.sheets)) = false) : rtL d x n (t - 1) = rtrues d (truesTo x (n + 1)) := by
  unfold rtL
  rw [trues_succ h0, row_stop h1 h2 h3]
  rw [Bool.and_eq_false_iff] at h4
  rcases h4 with h4 | h4 <;> have := of_decide_eq_false h4 <;> omega
theorem nat_is {a : Nat} (c : Nat) (h : (((a : Nat) : Int) == ((c : Nat) : Int)) = true) : a = c := by
  have : ((a : Nat) : Int) = ((c : Nat) : Int) := by simpa using h
  omega
theorem nat_not {a : Nat} (c : Nat) (h : (((a : Nat) : Int) == ((c : Nat) : Int)) = false) : a ≠ c := fun e => by
  subst e; simp at h
end Go.Proofs.YtjjcopeedcdokaaDoor

set_option linter.unusedVariables false
set_option linter.unusedSimpArgs false
namespace Go.Proofs.YtjjcopeedcdokaaDoor
open Go.RowKit
def askQ (k : Bk) (w : Int) : Int := if hckB k = true then (if wkrB k w = true then (if rightB (wkA k w) = true then 0 else 92) else 91) else 90
theorem askQ_tell (k : Bk) (w : Int) (what : Nat) : tellP k w what = if askQ k w = 0 then (ofZ k what (wkA k w), 0) else ((0, 0), askQ k w) := by
  unfold tellP askQ askH
  generalize wkA k w = x
  cases hckB k with
  | false => simp
  | true =>
    cases wkrB k w with
    | false => simp
    | true =>
      cases hr : rightB x with
      | false => simp [right_none what hr]
      | true =>
        obtain ⟨s, hs, _⟩ := right_some (k := k) what hr
        simp [hs, ofZ]
theorem wkr_nat {k : Bk} {w : Int} (h : wkrB k w = true) : ∃ i : Nat, w = ((i : Nat) : Int) ∧ i < k.ws.length := by
  simp only [wkrB, fitsB, Bool.and_eq_true, decide_eq_true_eq] at h
  exact ⟨w.toNat, by omega, by omega⟩
theorem wkr_of {k : Bk} {i : Nat} (h : i < k.ws.length) : wkrB k ((i : Nat) : Int) = true := by
  simp only [wkrB, fitsB, Bool.and_eq_true, decide_eq_true_eq]; omega
theorem wkA_nat (k : Bk) (i : Nat) : wkA k ((i : Nat) : Int) = k.ws.getD i default := rfl
theorem rt_isE {d : Int} {x : Wkr} : ((((rtrues d (trues x)).length : Nat) : Int) == ((0 : Nat) : Int)) = !rightB x := by
  unfold rightB
  rw [Bool.not_not, Bool.eq_iff_iff]
  have h := rtrues_nil (d := d) (l := trues x)
  constructor
  · intro h1
    have h2 := nat_is 0 h1
    rw [List.isEmpty_iff]
    exact h.1 (List.eq_nil_of_length_eq_zero h2)
  · intro h1
    rw [List.isEmpty_iff] at h1
    rw [h.2 h1]; rfl
theorem hspan_rng {k : Bk} (hv : BkV k) {x : Wkr} (hx : WkrV k.sh x) {what : Nat} (hw : what < 3) {c : Int × Int} (hc : c ∈ trues x) :
    -60000 ≤ (hspan k x what c).1 ∧ (hspan k x what c).1 ≤ (hspan k x what c).2 ∧ (hspan k x what c).2 ≤ 600000 ∧ (what < 2 → 0 ≤ (hspan k x what c).1) := by
  have ht := trues_in hx (n := c.1) (t := c.2) hc
  have h1 := ht.n0; have h2 := ht.t0; have h3 := ht.s; have h4 := ht.m
  have hmr : 0 ≤ hm x c ∧ hm x c ≤ 600 := ht.hm
  have hpb : 0 ≤ (hp (doesK k x) c.1).1 ∧ (hp (doesK k x) c.1).1 ≤ (hp (doesK k x) c.1).2 ∧ (hp (doesK k x) c.1).2 ≤ 600 := by
    unfold hp
    split
    · simp only; omega
    · split <;> simp only <;> omega
  rcases (show what = 0 ∨ what = 1 ∨ what = 2 by omega) with rfl | rfl | rfl
  · rw [hspan0]; omega
  · rw [hspan1]; simp only; omega
  · rw [hspan2]
    have b1 := tdiv_rng hv.g1 hpb.1
    have b2 := tdiv_rng hv.g1 (Int.le_trans hpb.1 hpb.2.1)
    have b3 := mul_rng (a := (hp (doesK k x) c.1).1.tdiv k.gross) (A := 600) (b := k.pay) (B := 999) ⟨b1.1, by omega⟩ ⟨hv.p1, hv.p2⟩
    have b4 := mul_rng (a := (hp (doesK k x) c.1).2.tdiv k.gross) (A := 600) (b := k.pay) (B := 999) ⟨b2.1, by omega⟩ ⟨hv.p1, hv.p2⟩
    have b5 := mul_rng (a := hm x c) (A := 600) (b := k.fine) (B := 99) hmr ⟨hv.f1, hv.f2⟩
    have b6 := hgv_mono hv hpb.1 hpb.2.1 (m := hm x c)
    simp only
    refine ⟨?_, b6, ?_, fun h => absurd h (by omega)⟩
    · show -60000 ≤ hgv k _ (hm x c); unfold hgv; rw [Int.neg_mul]; omega
    · show hgv k _ (hm x c) ≤ 600000; unfold hgv; rw [Int.neg_mul]; omega
theorem ofZ_rng {k : Bk} (hv : BkV k) {x : Wkr} (hx : WkrV k.sh x) {what : Nat} (hw : what < 3) :
    -60000 ≤ (ofZ k what x).1 ∧ (ofZ k what x).1 ≤ (ofZ k what x).2 ∧ (ofZ k what x).2 ≤ 600000 ∧ (what < 2 → 0 ≤ (ofZ k what x).1) := by
  unfold ofZ
  rcases ofP_cases k x what with ⟨_, h⟩ | ⟨s, h, he⟩
  · rw [h]; simp
  · rw [h]
    obtain ⟨c, hc, e⟩ := he.lo1
    obtain ⟨d, hd, e'⟩ := he.hi1
    have h1 := hspan_rng hv hx hw hc
    have h2 := hspan_rng hv hx hw hd
    have h3 := he.hi c hc
    simp only [Option.getD_some]
    exact ⟨by omega, by omega, by omega, fun h9 => by have := h1.2.2.2 h9; omega⟩
theorem allP_rng {k : Bk} (hv : BkV k) {what : Nat} (hw : what < 3) : ∀ l : List Wkr, (∀ x ∈ l, WkrV k.sh x) → -600000 * (l.length : Int) ≤ (allP k what l).1 ∧ (allP k what l).1 ≤ (allP k what l).2 ∧ (allP k what l).2 ≤ 600000 * (l.length : Int) ∧ (what < 2 → 0 ≤ (allP k what l).1)
  | [], _ => by simp [allP]
  | x :: l, h => by
    have h1 := ofZ_rng hv (h x (.head _)) hw
    have h2 := allP_rng hv hw l fun y hy => h y (.tail _ hy)
    simp only [allP, List.length_cons]
    exact ⟨by omega, by omega, by omega, fun h9 => by have := h1.2.2.2 h9; have := h2.2.2.2 h9; omega⟩
theorem allP_upto {k : Bk} (hv : BkV k) {what : Nat} (hw : what < 3) (i : Nat) : -2400000 ≤ (allP k what (k.ws.take i)).1 ∧ (allP k what (k.ws.take i)).1 ≤ (allP k what (k.ws.take i)).2 ∧ (allP k what (k.ws.take i)).2 ≤ 2400000 ∧ (what < 2 → 0 ≤ (allP k what (k.ws.take i)).1) := by
  have h := allP_rng hv hw (k.ws.take i) fun x hx => hv.w x (List.mem_of_mem_take hx)
  have hl : (k.ws.take i).length ≤ 4 := by have := hv.n; rw [List.length_take]; omega
  exact ⟨by omega, h.2.1, by omega, h.2.2.2⟩
theorem wrong_succ (k : Bk) (i : Nat) : wrongTo k (i + 1) = wrongTo k i ++ if rightB (k.ws.getD i default) = true then [] else [((i : Nat) : Int)] := by
  unfold wrongTo
  have h1 : [i].filter (fun w => !rightB (k.ws.getD w default)) = if rightB (k.ws.getD i default) = true then [] else [i] := by
    cases hr : rightB (k.ws.getD i default) with
    | true => rw [List.filter_cons_of_neg (by rw [hr]; decide), if_pos rfl]; rfl
    | false => rw [List.filter_cons_of_pos (by rw [hr]; decide), if_neg (by decide)]; rfl
  rw [List.range_succ, List.filter_append, List.map_append, h1]
  split <;> rfl
theorem wrong_len (k : Bk) (i : Nat) : (wrongTo k i).length ≤ i := by
  unfold wrongTo
  rw [List.length_map]
  exact Nat.le_trans (List.length_filter_le _ _) (by simp)
theorem most_rng (f : Nat → Int) : ∀ n : Nat, 0 ≤ (mostTo f n).1 ∧ (mostTo f n).1 ≤ (n : Int) ∧ 0 ≤ (mostTo f n).2
  | 0 => by simp [mostTo]
  | n + 1 => by
    have h := most_rng f n
    unfold mostTo
    split
    · simp only; omega
    · omega
theorem most_yes {f : Nat → Int} {n : Nat} (h : (mostTo f n).2 < f n) : mostTo f (n + 1) = (((n : Nat) : Int), f n) := by
  rw [show mostTo f (n + 1) = if (mostTo f n).2 < f n then (((n : Nat) : Int), f n) else mostTo f n from rfl, if_pos h]
theorem most_no {f : Nat → Int} {n : Nat} (h : ¬ (mostTo f n).2 < f n) : mostTo f (n + 1) = mostTo f n := by
  rw [show mostTo f (n + 1) = if (mostTo f n).2 < f n then (((n : Nat) : Int), f n) else mostTo f n from rfl, if_neg h]
theorem reO_v {b : Sheet} {x : Wkr} (h : WkrV b x) {l : List Int} (ho : ordB b l = true) (A : Option Addr) (c : Nat) : WkrV b (reO x l A c) := ⟨ho, h.s0, h.s1, h.b0, h.b1, h.b2, h.b3, h.t0, h.t1, h.t2, h.t3⟩
theorem setW_len (k : Bk) (w : Nat) (l : List Int) (A : Option Addr) (c : Nat) : (setW k w l A c).ws.length = k.ws.length := by simp [setW]
theorem setW_v {k : Bk} (hv : BkV k) {w : Nat} (hw : w < k.ws.length) {l : List Int} (ho : ordB k.sh l = true) (A : Option Addr) (c : Nat) : BkV (setW k w l A c) :=
  ⟨hv.ck, hv.g1, hv.g2, hv.p1, hv.p2, hv.f1, hv.f2, by rw [setW_len]; exact hv.n, fun x hx => by
    rcases List.mem_or_eq_of_mem_set hx with h | h
    · exact hv.w x h
    · rw [h]; exact reO_v (hv.wk hw) ho A c⟩
theorem setW_get {k : Bk} {w : Nat} (hw : w < k.ws.length) (l : List Int) (A : Option Addr) (c : Nat) : (setW k w l A c).ws.getD w default = reO (k.ws.getD w default) l A c := by
  unfold setW
  rw [List.getD_eq_getElem?_getD, List.getElem?_set_self hw]; rfl
theorem ofZ_setW (k : Bk) (what : Nat) (x : Wkr) (w : Nat) (l : List Int) (A : Option Addr) (c : Nat) : ofZ (setW k w l A c) what x = ofZ k what x := rfl
theorem more_setW {k : Bk} {w : Nat} (hw : w < k.ws.length) (l : List Int) (A : Option Addr) (c : Nat) : (ofZ (setW k w l A c) 0 ((setW k w l A c).ws.getD w default)).1 - (ofZ k 0 (k.ws.getD w default)).1 = moreZ k l w := by
  rw [setW_get hw, ofZ_setW]; rfl
theorem order_ord {b : Sheet} (hck : checkB b = true) (h : (orderP b).2 = 0) : ordB b (orderP b).1 = true ∧ Ok b (orderP b).1 := by
  rcases told_cases hck with ⟨h1, _⟩ | ⟨l, rest, h1, _, _, _, h2, h3, _⟩
  · rw [h1] at h; cases h
  · rw [h1]; exact ⟨ok_ord h2 h3, h2⟩
/-- One cell of a row of workers turned. -/
theorem accW_set {l : List Wkr} {x' : Wkr} {i r q : Nat} {v : Value} {bc : Nat} {cs : Array Value} (hi : i < l.length) (hr : r < 6) (hq : q = i * 6 + r) (he : encW x' = (encW (l.getD i default)).set r v) (h : AccOK encW 6 l (some (bc, cs))) :
    q < cs.size ∧ AccOK encW 6 (l.set i x') (some (bc, cs.setIfInBounds q v)) := by
  subst hq
  obtain ⟨cap, h1, h2, h3, h4⟩ := h
  have hE : ∀ x : Wkr, (encW x).length = 6 := fun _ => rfl
  have hcell : ∀ j r, j < l.length → r < 6 → cs.toList[j * 6 + r]? = (l[j]?).bind fun x => (encW x)[r]? := fun j r hj hr => by
    have h5 := flat_get hE l j r hr
    rw [← h4, List.getElem?_take] at h5
    rw [if_pos (by omega)] at h5
    exact h5
  have hget : l[i]? = some (l.getD i default) := by rw [List.getD_eq_getElem?_getD, List.getElem?_eq_getElem hi]; rfl
  refine ⟨by omega, cap, by simpa using h1, by rw [List.length_set]; exact h2, h3, ?_⟩
  rw [List.length_set]
  apply List.ext_getElem?
  intro p
  by_cases hp : p < l.length * 6
  · have hpp : p = p / 6 * 6 + p % 6 := by omega
    have hr2 : p % 6 < 6 := Nat.mod_lt _ (by omega)
    have hj : p / 6 < l.length := by omega
    rw [List.getElem?_take, if_pos hp]
    have e2 : ((l.set i x').flatMap encW)[p]? = ((l.set i x')[p / 6]?).bind fun x => (encW x)[p % 6]? := by
      have := flat_get hE (l.set i x') (p / 6) (p % 6) hr2
      rwa [← hpp] at this
    rw [e2]
    have e3 := hcell (p / 6) (p % 6) hj hr2
    rw [← hpp] at e3
    rw [Array.toList_setIfInBounds, List.getElem?_set]
    simp only [List.getElem?_set]
    by_cases hij : i = p / 6
    · by_cases h2' : r = p % 6
      · rw [if_pos (show i * 6 + r = p by omega), if_pos (show i * 6 + r < cs.toList.length by rw [Array.length_toList]; omega), if_pos hij, if_pos hi]
        show some v = (encW x')[p % 6]?
        rw [he, ← h2', List.getElem?_set_self (by rw [hE]; exact hr)]
      · rw [if_neg (show ¬ i * 6 + r = p by omega), e3, if_pos hij, if_pos hi, ← hij, hget]
        show (encW (l.getD i default))[p % 6]? = (encW x')[p % 6]?
        rw [he, List.getElem?_set_ne h2']
    · rw [if_neg (show ¬ i * 6 + r = p by omega), e3, if_neg hij]
  · rw [List.getElem?_eq_none (by rw [List.length_take]; omega), List.getElem?_eq_none]
    have hfl : ∀ m : List Wkr, (m.flatMap encW).length = m.length * 6 := fun m => by
      induction m with
      | nil => rfl
      | cons x m ih => rw [List.flatMap_cons, List.length_append, ih, hE, List.length_cons]; omega
    rw [hfl, List.length_set]; omega
theorem OrdD.setW {k : Bk} {w : World} (h : OrdD k.ws w) {i : Nat} {l : List Int} {A : Option Addr} {c : Nat} (hlc : l.length ≤ c) (hl : Rd encI 1 A l.length l w) : OrdD (setW k i l A c).ws w := fun x hx => by
  rcases List.mem_or_eq_of_mem_set hx with h1 | h1
  · exact h x h1
  · rw [h1]; exact ⟨hlc, hl⟩
theorem tog_yes {k : Bk} (h : (((wrongP k).2 == 0) && decide (0 < (((wrongP k).1.length : Nat) : Int))) = true) : togE k = 92 := by
  rw [Bool.and_eq_true] at h
  unfold togE
  unfold wrongP at h
  cases hb : hckB k with
  | false => rw [hb] at h; simp at h
  | true =>
    rw [hb] at h
    rw [if_pos rfl, if_neg]
    intro h2
    have h3 := of_decide_eq_true h.2
    simp [h2] at h3
theorem tog_no {k : Bk} (h : (((wrongP k).2 == 0) && decide (0 < (((wrongP k).1.length : Nat) : Int))) = false) : togE k = (wrongP k).2 := by
  unfold togE
  unfold wrongP at h ⊢
  cases hb : hckB k with
  | false => rfl
  | true =>
    rw [hb] at h
    by_cases h2 : wrongL k = []
    · rw [if_pos rfl, if_pos h2, if_pos rfl]
    · have : 0 < (wrongL k).length := List.length_pos_iff.2 h2
      simp at h
      exact absurd h h2
theorem togE_zero {k : Bk} (h : togE k = 0) : hckB k = true ∧ wrongL k = [] := by
  unfold togE at h
  cases h1 : hckB k with
  | false => rw [h1] at h; cases h
  | true =>
    rw [h1, if_pos rfl] at h
    by_cases h2 : wrongL k = []
    · exact ⟨rfl, h2⟩
    · rw [if_neg h2] at h; cases h
theorem teach_fin {k : Bk} (htg : togE k = 0) {i : Nat} (hi : i ≤ k.ws.length) (h0 : (orderP k.sh).2 ≠ 0 → i = 0) (h : (((orderP k.sh).2 == 0) && decide (((i : Nat) : Int) < ((k.ws.length : Nat) : Int))) = false) :
    teachP k = if (mostTo (moreZ k (orderP k.sh).1) i).2 = 0 then (0, 4) else ((mostTo (moreZ k (orderP k.sh).1) i).1, 0) := by
  rw [teachP, if_pos htg]
  by_cases ho : (orderP k.sh).2 = 0
  · rw [if_pos ho]
    have : i = k.ws.length := by
      rw [ho, Bool.and_eq_false_iff] at h
      rcases h with h | h
      · cases h
      · have := of_decide_eq_false h; omega
    subst this; rfl
  · rw [if_neg ho, h0 ho]; rfl
end Go.Proofs.YtjjcopeedcdokaaDoor

set_option linter.unusedVariables false
set_option linter.unusedSimpArgs false
namespace Go.Proofs.YtjjcopeedcdokaaDoor
open Go.RowKit
section
variable {P : Program} {ds : List Deferred} {a : Act} {n : Nat} {L : Regs} {w : World} {t : TypeId} {w0 : Base} {Ds : List (World → Prop)} {H : Own}
/-- A field of one cell of a value. -/
def FvT (P : Program) (s : TypeId) (f off : Nat) : Prop := ∀ (cs : Array Value) (v : Value) (w : World), cs[off]? = some v → (Instr.field s (.agg cs) f).run P w = .ok v w
theorem FvT.mk {s : TypeId} {f off : Nat} {fs : Array Field} {x : Field} (h1 : P.underlying s = some (.struct fs)) (h2 : fs[f]? = some x) (h3 : ∀ w, (isAgg x.type).run P w = .ok false w) (h4 : x.offset = off) : FvT P s f off := by
  intro cs v w hv
  subst h4
  simp [Instr.field, run_underlying h1, h2, part, h3 w, asAgg, hv]
theorem g_fld (hf : Fr ds a n L) {s : TypeId} {f off : Nat} (hT : FvT P s f off) {x : Operand} {cs : Array Value} {v : Value} (hx : ev L x = some (.agg cs)) (hv : cs[off]? = some v) : Gets P (.field s x f) t a w v := by
  intro d p af g
  simp [execOp, hf.eval hx, hT cs v w hv]
/-- A struct type of three numbers that '==' compares field by field. -/
structure Eq3 (P : Program) (ty : TypeId) : Prop where
  eql : ∀ (i j k i' j' k' : Int) (w : World), (Op.equal ty (.agg #[.int .i64 i, .int .i64 j, .int .i64 k]) (.agg #[.int .i64 i', .int .i64 j', .int .i64 k'])).run P w = .ok (i == i' && j == j' && k == k') w
  guard : P.eqGuardType P.depth ty = false
theorem Eq3.mk' {ty : TypeId} {f0 f1 f2 : Field} (hu : P.underlying ty = some (.struct #[f0, f1, f2])) (hh : P.stoodInHeld ty = false) (hg : P.eqGuardType P.depth ty = false) (n0 : f0.name ≠ "_") (n1 : f1.name ≠ "_") (n2 : f2.name ≠ "_") (o0 : f0.offset = 0) (o1 : f1.offset = 1) (o2 : f2.offset = 2) (u0 : P.underlying f0.type = some (.int .i64)) (u1 : P.underlying f1.type = some (.int .i64)) (u2 : P.underlying f2.type = some (.int .i64)) : Eq3 P ty := by
  refine ⟨fun i j k i' j' k' w => ?_, hg⟩
  have a0 : ∀ w, (isAgg f0.type).run P w = .ok false w := fun w => by simp [isAgg, run_underlying u0]
  have a1 : ∀ w, (isAgg f1.type).run P w = .ok false w := fun w => by simp [isAgg, run_underlying u1]
  have a2 : ∀ w, (isAgg f2.type).run P w = .ok false w := fun w => by simp [isAgg, run_underlying u2]
  have q : ∀ (d : Nat) (x y : Int) (ty : TypeId), P.underlying ty = some (.int .i64) → ∀ w, (Op.equalIn (d + 1) ty (.int .i64 x) (.int .i64 y)).run P w = .ok (x == y) w := fun d x y ty hu w => by simp [Op.equalIn, run_underlying hu]
  have key : ∀ d, (Op.equalIn (d + 2) ty (.agg #[.int .i64 i, .int .i64 j, .int .i64 k]) (.agg #[.int .i64 i', .int .i64 j', .int .i64 k'])).run P w = .ok (i == i' && j == j' && k == k') w := by
    intro d
    have e2 : (program).run P w = .ok P w := rfl
    unfold Op.equalIn
    simp only [Sem.run_bind, run_underlying hu, Result.andThen_ok, e2, hh]
    by_cases h0 : i = i' <;> by_cases h1 : j = j' <;> by_cases h2 : k = k' <;> simp [n0, n1, n2, part, o0, o1, o2, a0, a1, a2, q d _ _ _ u0, q d _ _ _ u1, q d _ _ _ u2, h0, h1, h2]
  exact key 9998
theorem g_eq3 (hf : Fr ds a n L) {ty ty' : TypeId} (hT : Eq3 P ty) {x y : Operand} {i j k i' j' k' : Int} (hx : ev L x = some (.agg #[.int .i64 i, .int .i64 j, .int .i64 k])) (hy : ev L y = some (.agg #[.int .i64 i', .int .i64 j', .int .i64 k'])) : Gets P (.binOp .eql ty x y ty') t a w (.bool (i == i' && j == j' && k == k')) := by
  intro d p af g
  have e1 := hT.eql i j k i' j' k' w
  have e2 : (program).run P w = .ok P w := rfl
  simp only [execOp, Sem.run_bind, hf.eval hx, hf.eval hy, eqGuard, Bool.not_eq_true, Sem.run_ite]
  simp [binOp, e1, e2, hT.guard]
/-- An array of seven numbers. -/
def ints7 (l : List Int) : Array Value := (l.map fun x => Value.int .i64 x).toArray
structure EqA (P : Program) (ty : TypeId) : Prop where
  eql : ∀ (l m : List Int) (w : World), l.length = 7 → m.length = 7 → (Op.equal ty (.agg (ints7 l)) (.agg (ints7 m))).run P w = .ok (l == m) w
  guard : P.eqGuardType P.depth ty = false
theorem EqA.mk' {ty e : TypeId} (hu : P.underlying ty = some (.array 7 e)) (hg : P.eqGuardType P.depth ty = false) (ue : P.underlying e = some (.int .i64)) (hsz : ∀ w, (sizeOf e).run P w = .ok 1 w) : EqA P ty := by
  refine ⟨fun l m w hl hm => ?_, hg⟩
  have ae : ∀ w, (isAgg e).run P w = .ok false w := fun w => by simp [isAgg, run_underlying ue]
  have q : ∀ (d : Nat) (x y : Int) (w : World), (Op.equalIn (d + 1) e (.int .i64 x) (.int .i64 y)).run P w = .ok (x == y) w := fun d x y w => by simp [Op.equalIn, run_underlying ue]
  match l, hl, m, hm with
  | [a0, a1, a2, a3, a4, a5, a6], _, [b0, b1, b2, b3, b4, b5, b6], _ =>
    have key : ∀ d, (Op.equalIn (d + 2) ty (.agg (ints7 [a0, a1, a2, a3, a4, a5, a6])) (.agg (ints7 [b0, b1, b2, b3, b4, b5, b6]))).run P w = .ok ([a0, a1, a2, a3, a4, a5, a6] == [b0, b1, b2, b3, b4, b5, b6]) w := by
      intro d
      have e2 : (program).run P w = .ok P w := rfl
      unfold Op.equalIn
      simp only [Sem.run_bind, run_underlying hu, Result.andThen_ok, e2, hsz, ints7]
      by_cases h0 : a0 = b0
      · by_cases h1 : a1 = b1
        · by_cases h2 : a2 = b2
          · by_cases h3 : a3 = b3
            · by_cases h4 : a4 = b4
              · by_cases h5 : a5 = b5
                · by_cases h6 : a6 = b6 <;> simp [Std.Legacy.Range.forIn_eq_forIn_range', Std.Legacy.Range.size, List.range', part, ae, q, h0, h1, h2, h3, h4, h5, h6]
                · simp [Std.Legacy.Range.forIn_eq_forIn_range', Std.Legacy.Range.size, List.range', part, ae, q, h0, h1, h2, h3, h4, h5]
              · simp [Std.Legacy.Range.forIn_eq_forIn_range', Std.Legacy.Range.size, List.range', part, ae, q, h0, h1, h2, h3, h4]
            · simp [Std.Legacy.Range.forIn_eq_forIn_range', Std.Legacy.Range.size, List.range', part, ae, q, h0, h1, h2, h3]
          · simp [Std.Legacy.Range.forIn_eq_forIn_range', Std.Legacy.Range.size, List.range', part, ae, q, h0, h1, h2]
        · simp [Std.Legacy.Range.forIn_eq_forIn_range', Std.Legacy.Range.size, List.range', part, ae, q, h0, h1]
      · simp [Std.Legacy.Range.forIn_eq_forIn_range', Std.Legacy.Range.size, List.range', part, ae, q, h0]
    exact key 9998
theorem g_eqA (hf : Fr ds a n L) {ty ty' : TypeId} (hT : EqA P ty) {x y : Operand} {l m : List Int} (hl : l.length = 7) (hm : m.length = 7) (hx : ev L x = some (.agg (ints7 l))) (hy : ev L y = some (.agg (ints7 m))) : Gets P (.binOp .eql ty x y ty') t a w (.bool (l == m)) := by
  intro d p af g
  have e1 := hT.eql l m w hl hm
  have e2 : (program).run P w = .ok P w := rfl
  simp only [execOp, Sem.run_bind, hf.eval hx, hf.eval hy, eqGuard, Bool.not_eq_true, Sem.run_ite]
  simp [binOp, e1, e2, hT.guard]
theorem g_neA (hf : Fr ds a n L) {ty ty' : TypeId} (hT : EqA P ty) {x y : Operand} {l m : List Int} (hl : l.length = 7) (hm : m.length = 7) (hx : ev L x = some (.agg (ints7 l))) (hy : ev L y = some (.agg (ints7 m))) : Gets P (.binOp .neq ty x y ty') t a w (.bool (!(l == m))) := by
  intro d p af g
  have e1 := hT.eql l m w hl hm
  have e2 : (program).run P w = .ok P w := rfl
  simp only [execOp, Sem.run_bind, hf.eval hx, hf.eval hy, eqGuard, Bool.not_eq_true, Sem.run_ite]
  simp [binOp, e1, e2, hT.guard]
abbrev KM := List ((Int × Int × Int) × Int)
def kt3 (c : Int × Int × Int) : Value := .agg #[.int .i64 c.1, .int .i64 c.2.1, .int .i64 c.2.2]
def entsK : KM → Nat → List MapEntry
  | [], _ => []
  | (p, v) :: l, n => { key := kt3 p, val := .int .i64 v, born := n } :: entsK l (n + 1)
def mapK (m : KM) : Obj := .map (entsK m 0).toArray m.length
def kfind (c : Int × Int × Int) : KM → Nat → Option (Nat × Int)
  | [], _ => none
  | (p, v) :: l, n => if c = p then some (n, v) else kfind c l (n + 1)
theorem kfind_mem {c : Int × Int × Int} : ∀ {m : KM} {n q : Nat} {v : Int}, kfind c m n = some (q, v) → (c, v) ∈ m
  | [], n, q, v, h => by simp [kfind] at h
  | (p, u) :: l, n, q, v, h => by
    unfold kfind at h
    split at h
    · rename_i e; cases h; rw [e]; exact .head _
    · exact .tail _ (kfind_mem h)
theorem entsK_app : ∀ (m : KM) (n : Nat) (p : Int × Int × Int) (v : Int), entsK (m ++ [(p, v)]) n = entsK m n ++ [{ key := kt3 p, val := .int .i64 v, born := n + m.length }]
  | [], n, p, v => by simp [entsK]
  | x :: l, n, p, v => by simp [entsK, entsK_app l]; omega
structure MapT3 (P : Program) (mt kt et : TypeId) : Prop where
  under : ∀ w, (underlying mt).run P w = .ok (.map kt et) w
  kunder : ∃ fs, ∀ w, (underlying kt).run P w = .ok (.struct fs) w
  check : ∀ e c w, (Instr.checkKey e 10000 kt (kt3 c)).run P w = .ok () w
  eq : Eq3 P kt
  zero : ∀ w, (zeroValue et).run P w = .ok (.int .i64 0) w
variable {mt kt et : TypeId}
theorem run_findAsking3 (hT : MapT3 P mt kt et) (c : Int × Int × Int) : ∀ (m : KM) (b n : Nat), (Instr.findAsking kt (kt3 c) (entsK m b) n).run P w = .ok ((kfind c m n).map fun e => (e.1, .int .i64 e.2)) w
  | [], b, n => by simp [entsK, Instr.findAsking, kfind]
  | (p, v) :: l, b, n => by
    have h1 := hT.eq.eql c.1 c.2.1 c.2.2 p.1 p.2.1 p.2.2 w
    simp only [entsK, Instr.findAsking, Sem.run_bind]
    rw [show (Op.equal kt (kt3 c) (kt3 p)).run P w = _ from h1]
    simp only [Result.andThen_ok, Sem.run_ite, kfind]
    by_cases hc : c = p
    · subst hc; simp
    · have : (c.1 == p.1 && c.2.1 == p.2.1 && c.2.2 == p.2.2) = false := by
        rw [Bool.eq_false_iff]; intro h; simp at h; exact hc (Prod.ext h.1.1 (Prod.ext h.1.2 h.2))
      rw [this, if_neg hc]
      simp only [Bool.false_eq_true, if_false]
      exact run_findAsking3 hT c l (b + 1) (n + 1)
theorem run_findKey3 (hT : MapT3 P mt kt et) (c : Int × Int × Int) (m : KM) (b : Nat) : (Instr.findKey kt (kt3 c) (entsK m b)).run P w = .ok ((kfind c m 0).map fun e => (e.1, .int .i64 e.2)) w := by
  obtain ⟨fs, hk⟩ := hT.kunder
  have h1 := run_findAsking3 (w := w) hT c m b 0
  unfold Instr.findKey
  simp only [Sem.run_bind, hk w, Result.andThen_ok]
  cases m with
  | nil => simp [entsK, Instr.findNow, kfind]
  | cons x l => simp only [entsK, Instr.findNow, Instr.sameNow, kt3] at h1 ⊢; exact h1
def kget (m : KM) (c : Int × Int × Int) : Int := match kfind c m 0 with
  | some (_, v) => v
  | none => 0
def khas (m : KM) (c : Int × Int × Int) : Bool := (kfind c m 0).isSome
theorem khas_mem {m : KM} {c : Int × Int × Int} (h : khas m c = true) : (c, kget m c) ∈ m := by
  unfold khas at h; unfold kget
  cases hf : kfind c m 0 with
  | none => rw [hf] at h; cases h
  | some e => obtain ⟨q, v⟩ := e; exact kfind_mem hf
theorem g_look3 (hf : Fr ds a n L) (hs : St w0 Ds H w) {b k : Nat} {m : KM} (hk : H[k]? = some (b, mapK m)) (hT : MapT3 P mt kt et) {x y : Operand} {c0 c1 c2 : Int} (hx : ev L x = some (.map (some b))) (hy : ev L y = some (.agg #[.int .i64 c0, .int .i64 c1, .int .i64 c2])) :
    Gets P (.lookup mt x y true) t a w (.tuple #[.int .i64 (kget m (c0, c1, c2)), .bool (khas m (c0, c1, c2))]) := by
  intro d p af g
  have hb := (hs.own _ _ (List.mem_of_getElem? hk)).2
  have h1 : (getObj b).run P w = .ok (mapK m) w := by simp [getObj, Sem.run, hb]; rfl
  have h2 := hT.check (entsK m 0).toArray.isEmpty (c0, c1, c2) w
  have h3 := run_findKey3 (w := w) hT (c0, c1, c2) m 0
  simp only [kt3] at h2 h3
  simp only [execOp, hf.eval hx, hf.eval hy, Instr.lookup, Sem.run_bind, hT.under w, Result.andThen_ok, h1, mapK, Sem.run_pure, h2, h3]
  unfold kget khas
  cases kfind (c0, c1, c2) m 0 with
  | some e => obtain ⟨k, v⟩ := e; simp
  | none => simp [hT.zero w]
/-- A new key. -/
theorem u_upd3 (hf : Fr ds a n L) (hs : St w0 Ds H w) {b k : Nat} {m : KM} (hk : H[k]? = some (b, mapK m)) (hT : MapT3 P mt kt et) {x y z : Operand} {c0 c1 c2 v : Int} (hx : ev L x = some (.map (some b))) (hy : ev L y = some (.agg #[.int .i64 c0, .int .i64 c1, .int .i64 c2])) (hz : ev L z = some (.int .i64 v)) (hn : khas m (c0, c1, c2) = false) :
    GoesU P (.mapUpdate mt x y z) t a w fun w' => St w0 Ds (H.set k (b, mapK (m ++ [((c0, c1, c2), v)]))) w' := by
  intro d p af g
  have hb := (hs.own b _ (List.mem_of_getElem? hk)).2
  have h1 : (getObj b).run P w = .ok (mapK m) w := by simp [getObj, Sem.run, hb]; rfl
  have h2 := hT.check false (c0, c1, c2) w
  have h3 := run_findKey3 (w := w) hT (c0, c1, c2) m 0
  simp only [kt3] at h2 h3
  refine ⟨_, ?_, hs.putM hk⟩
  have hn' : kfind (c0, c1, c2) m 0 = none := by
    unfold khas at hn
    cases h : kfind (c0, c1, c2) m 0 with
    | none => rfl
    | some e => rw [h] at hn; cases hn
  rw [hn'] at h3
  simp only [execOp, hf.eval hx, hf.eval hy, hf.eval hz, Instr.mapUpdate, Sem.run_bind, hT.under w, Result.andThen_ok, h1, mapK, Sem.run_pure, h2, h3, Option.map_none]
  have : (entsK m 0).toArray.push { key := .agg #[.int .i64 c0, .int .i64 c1, .int .i64 c2], val := .int .i64 v, born := m.length } = (entsK (m ++ [((c0, c1, c2), v)]) 0).toArray := by
    rw [entsK_app]; simp [kt3]
  rw [run_setObjM _ hb]
  simp only [Result.andThen_ok]
  rw [this]; simp
end
end Go.Proofs.YtjjcopeedcdokaaDoor

set_option linter.unusedVariables false
set_option linter.unusedSimpArgs false
namespace Go.Proofs.YtjjcopeedcdokaaDoor
open Go.RowKit
theorem T26 : Ty Tryd.prog 26 false 1 (.slice none 0 0) := ⟨fun _ => by kernel_rfl, fun _ => by kernel_rfl, fun _ => by kernel_rfl⟩
theorem T28 : Ty Tryd.prog 28 true 8 (.agg #[.int .i64 0, .int .i64 0, .slice none 0 0, .slice none 0 0, .int .i64 0, .int .i64 0, .int .i64 0, .slice none 0 0]) := ⟨fun _ => by kernel_rfl, fun _ => by kernel_rfl, fun _ => by kernel_rfl⟩
theorem T47 : Ty Tryd.prog 47 true 6 (.agg #[.int .i64 0, .slice none 0 0, .int .i64 0, .int .i64 0, .int .i64 0, .int .i64 0]) := ⟨fun _ => by kernel_rfl, fun _ => by kernel_rfl, fun _ => by kernel_rfl⟩
theorem T74 : Ty Tryd.prog 74 false 1 (.nilFunc) := ⟨fun _ => by kernel_rfl, fun _ => by kernel_rfl, fun _ => by kernel_rfl⟩
theorem T87 : Ty Tryd.prog 87 false 1 (.map none) := ⟨fun _ => by kernel_rfl, fun _ => by kernel_rfl, fun _ => by kernel_rfl⟩
theorem T89 : Ty Tryd.prog 89 true 10 (.agg #[.int .i64 0, .int .i64 0, .slice none 0 0, .slice none 0 0, .int .i64 0, .int .i64 0, .int .i64 0, .slice none 0 0, .slice none 0 0, .map none]) := ⟨fun _ => by kernel_rfl, fun _ => by kernel_rfl, fun _ => by kernel_rfl⟩
theorem T96 : Ty Tryd.prog 96 false 1 (.nilFunc) := ⟨fun _ => by kernel_rfl, fun _ => by kernel_rfl, fun _ => by kernel_rfl⟩
theorem T129 : Ty Tryd.prog 129 true 7 (.agg #[.int .i64 0, .int .i64 0, .int .i64 0, .int .i64 0, .int .i64 0, .int .i64 0, .int .i64 0]) := ⟨fun _ => by kernel_rfl, fun _ => by kernel_rfl, fun _ => by kernel_rfl⟩
theorem T134 : Ty Tryd.prog 134 true 3 (.agg #[.int .i64 0, .int .i64 0, .int .i64 0]) := ⟨fun _ => by kernel_rfl, fun _ => by kernel_rfl, fun _ => by kernel_rfl⟩
theorem T135 : Ty Tryd.prog 135 false 1 (.nilFunc) := ⟨fun _ => by kernel_rfl, fun _ => by kernel_rfl, fun _ => by kernel_rfl⟩
theorem T142 : Ty Tryd.prog 142 true 3 (.agg #[.int .i64 0, .int .i64 0, .int .i64 0]) := ⟨fun _ => by kernel_rfl, fun _ => by kernel_rfl, fun _ => by kernel_rfl⟩
theorem F28_0 : FdT Tryd.prog 28 0 0 := fun _ _ => by kernel_rfl
theorem F28_1 : FdT Tryd.prog 28 1 4 := fun _ _ => by kernel_rfl
theorem F28_2 : FdT Tryd.prog 28 2 5 := fun _ _ => by kernel_rfl
theorem F28_3 : FdT Tryd.prog 28 3 6 := fun _ _ => by kernel_rfl
theorem F28_4 : FdT Tryd.prog 28 4 7 := fun _ _ => by kernel_rfl
theorem F47_0 : FdT Tryd.prog 47 0 0 := fun _ _ => by kernel_rfl
theorem F47_1 : FdT Tryd.prog 47 1 1 := fun _ _ => by kernel_rfl
theorem F47_2 : FdT Tryd.prog 47 2 2 := fun _ _ => by kernel_rfl
theorem F47_3 : FdT Tryd.prog 47 3 4 := fun _ _ => by kernel_rfl
theorem F89_0 : FdT Tryd.prog 89 0 0 := fun _ _ => by kernel_rfl
theorem F89_1 : FdT Tryd.prog 89 1 8 := fun _ _ => by kernel_rfl
theorem F89_2 : FdT Tryd.prog 89 2 9 := fun _ _ => by kernel_rfl
theorem F98_0 : FdT Tryd.prog 98 0 0 := fun _ _ => by kernel_rfl
theorem F134_0 : FdT Tryd.prog 134 0 0 := fun _ _ => by kernel_rfl
theorem F134_1 : FdT Tryd.prog 134 1 1 := fun _ _ => by kernel_rfl
theorem F134_2 : FdT Tryd.prog 134 2 2 := fun _ _ => by kernel_rfl
theorem F142_0 : FdT Tryd.prog 142 0 0 := fun _ _ => by kernel_rfl
theorem F142_1 : FdT Tryd.prog 142 1 1 := fun _ _ => by kernel_rfl
theorem F142_2 : FdT Tryd.prog 142 2 2 := fun _ _ => by kernel_rfl
theorem SL26 : SlT Tryd.prog 26 47 6 := ⟨fun _ => by kernel_rfl, fun _ => by kernel_rfl⟩
theorem SL108 : SlT Tryd.prog 108 142 3 := ⟨fun _ => by kernel_rfl, fun _ => by kernel_rfl⟩
theorem AR129 : ArT Tryd.prog 129 3 7 1 := ⟨fun _ => by kernel_rfl, fun _ => by kernel_rfl⟩
theorem AR136 : ArT Tryd.prog 136 135 3 1 := ⟨fun _ => by kernel_rfl, fun _ => by kernel_rfl⟩
theorem Q40 : Eq2 Tryd.prog 40 := Eq2.mk' (t0 := 0) (t1 := 0) Tryd.underlying40 (by kernel_rfl) (by kernel_rfl) (by decide) (by decide) rfl rfl (by kernel_rfl) (by kernel_rfl) rfl
theorem AP26 : ApT Tryd.prog 26 47 6 64 := ApT.mk' (z := (.agg #[.int .i64 0, .slice none 0 0, .int .i64 0, .int .i64 0, .int .i64 0, .int .i64 0])) (by kernel_rfl) (by kernel_rfl) (by kernel_rfl)
theorem AP108 : ApT Tryd.prog 108 142 3 24 := ApT.mk' (z := (.agg #[.int .i64 0, .int .i64 0, .int .i64 0])) (by kernel_rfl) (by kernel_rfl) (by kernel_rfl)
theorem FV40_0 : FvT Tryd.prog 40 0 0 := FvT.mk Tryd.underlying40 rfl (fun w => by kernel_rfl) rfl
theorem QT134 : Eq3 Tryd.prog 134 := Eq3.mk' Tryd.underlying134 (by kernel_rfl) (by kernel_rfl) (by decide) (by decide) (by decide) rfl rfl rfl (by kernel_rfl) (by kernel_rfl) (by kernel_rfl)
theorem QA129 : EqA Tryd.prog 129 := EqA.mk' (e := 3) (by kernel_rfl) (by kernel_rfl) (by kernel_rfl) (fun w => by kernel_rfl)
theorem MP87 : MapT3 Tryd.prog 87 134 3 := ⟨fun _ => by kernel_rfl, ⟨_, fun _ => run_underlying Tryd.underlying134 _⟩, fun _ _ _ => by kernel_rfl, QT134, fun _ => by kernel_rfl⟩
theorem E20 : Enters Tryd.prog 20 := fun _ _ => by kernel_rfl
theorem E21 : Enters Tryd.prog 21 := fun _ _ => by kernel_rfl
theorem E23 : Enters Tryd.prog 23 := fun _ _ => by kernel_rfl
theorem E25 : Enters Tryd.prog 25 := fun _ _ => by kernel_rfl
theorem E27 : Enters Tryd.prog 27 := fun _ _ => by kernel_rfl
theorem E31 : Enters Tryd.prog 31 := fun _ _ => by kernel_rfl
theorem E33 : Enters Tryd.prog 33 := fun _ _ => by kernel_rfl
theorem E34 : Enters Tryd.prog 34 := fun _ _ => by kernel_rfl
theorem E36 : Enters Tryd.prog 36 := fun _ _ => by kernel_rfl
theorem E38 : Enters Tryd.prog 38 := fun _ _ => by kernel_rfl
theorem E40 : Enters Tryd.prog 40 := fun _ _ => by kernel_rfl
theorem E43 : Enters Tryd.prog 43 := fun _ _ => by kernel_rfl
theorem E45 : Enters Tryd.prog 45 := fun _ _ => by kernel_rfl
theorem E46 : Enters Tryd.prog 46 := fun _ _ => by kernel_rfl
theorem E47 : Enters Tryd.prog 47 := fun _ _ => by kernel_rfl
theorem E56 : Enters Tryd.prog 56 := fun _ _ => by kernel_rfl
theorem E57 : Enters Tryd.prog 57 := fun _ _ => by kernel_rfl
theorem E58 : Enters Tryd.prog 58 := fun _ _ => by kernel_rfl
theorem E70 : Enters Tryd.prog 70 := fun _ _ => by kernel_rfl
theorem E71 : Enters Tryd.prog 71 := fun _ _ => by kernel_rfl
theorem E72 : Enters Tryd.prog 72 := fun _ _ => by kernel_rfl
theorem E73 : Enters Tryd.prog 73 := fun _ _ => by kernel_rfl
theorem E74 : Enters Tryd.prog 74 := fun _ _ => by kernel_rfl
theorem E75 : Enters Tryd.prog 75 := fun _ _ => by kernel_rfl
theorem E76 : Enters Tryd.prog 76 := fun _ _ => by kernel_rfl
theorem E77 : Enters Tryd.prog 77 := fun _ _ => by kernel_rfl
theorem E80 : Enters Tryd.prog 80 := fun _ _ => by kernel_rfl
theorem E81 : Enters Tryd.prog 81 := fun _ _ => by kernel_rfl
theorem E83 : Enters Tryd.prog 83 := fun _ _ => by kernel_rfl
theorem E84 : Enters Tryd.prog 84 := fun _ _ => by kernel_rfl
theorem E86 : Enters Tryd.prog 86 := fun _ _ => by kernel_rfl
theorem E87 : Enters Tryd.prog 87 := fun _ _ => by kernel_rfl
theorem E88 : Enters Tryd.prog 88 := fun _ _ => by kernel_rfl
theorem E89 : Enters Tryd.prog 89 := fun _ _ => by kernel_rfl
theorem E91 : Enters Tryd.prog 91 := fun _ _ => by kernel_rfl
theorem E93 : Enters Tryd.prog 93 := fun _ _ => by kernel_rfl
theorem E94 : Enters Tryd.prog 94 := fun _ _ => by kernel_rfl
theorem E98 : Enters Tryd.prog 98 := fun _ _ => by kernel_rfl
theorem E109 : Enters Tryd.prog 109 := fun _ _ => by kernel_rfl
theorem E110 : Enters Tryd.prog 110 := fun _ _ => by kernel_rfl
theorem E111 : Enters Tryd.prog 111 := fun _ _ => by kernel_rfl
theorem E112 : Enters Tryd.prog 112 := fun _ _ => by kernel_rfl
theorem E117 : Enters Tryd.prog 117 := fun _ _ => by kernel_rfl
theorem E119 : Enters Tryd.prog 119 := fun _ _ => by kernel_rfl
theorem E120 : Enters Tryd.prog 120 := fun _ _ => by kernel_rfl
theorem E128 : Enters Tryd.prog 128 := fun _ _ => by kernel_rfl
theorem E159 : Enters Tryd.prog 159 := fun _ _ => by kernel_rfl
theorem E160 : Enters Tryd.prog 160 := fun _ _ => by kernel_rfl
theorem E162 : Enters Tryd.prog 162 := fun _ _ => by kernel_rfl
end Go.Proofs.YtjjcopeedcdokaaDoor

set_option linter.unusedVariables false
set_option linter.unusedSimpArgs false
namespace Go.Proofs.YtjjcopeedcdokaaDoor
open Go.RowKit
theorem c_inH (n lo hi : Int) (w0 : World) :
    Calls Tryd.prog 83 #[.int .i64 n, .int .i64 lo, .int .i64 hi] w0 (Ret w0 (.bool (fitsB n lo hi))) := by
  refine c_enter (n := 15) Tryd.func83 rfl rfl (Nat.le_of_ble_eq_true rfl) ?_; intro a hf; simp only [zipR] at hf
  have hs := St.start w0 [] (by simp)
  refine c_reg ?_
  refine gL hf (g_as hf rfl) (by decide) ?_; clear hf a; intro a hf
  refine e_nil ?_
  refine c_reg ?_
  refine gL hf (g_mv hf rfl) (by decide) ?_; clear hf a; intro a hf
  refine gL hf (g_mv hf rfl) (by decide) ?_; clear hf a; intro a hf
  refine gL hf (g_leq hf rfl rfl) (by decide) ?_; clear hf a; intro a hf
  refine gL hf (g_mv hf rfl) (by decide) ?_; clear hf a; intro a hf
  refine ggL hf rfl rfl (gyes_t _) (fun hg => g_mv hf rfl) (by decide) ?_; clear hf a; intro a hf
  refine ggL hf rfl rfl (gyes_t _) (fun hg => g_mv hf rfl) (by decide) ?_; clear hf a; intro a hf
  refine ggL hf rfl rfl (gyes_t _) (fun hg => g_leq hf (ev_gv rfl hg) (ev_gv rfl hg)) (by decide) ?_; clear hf a; intro a hf
  refine gL hf (g_and hf rfl rfl) (by decide) ?_; clear hf a; intro a hf
  refine gL hf (g_as hf rfl) (by decide) ?_; clear hf a; intro a hf
  refine e_nil ?_
  refine c_ret ?_
  refine e_ret1 hf rfl rfl ?_
  exact ⟨rfl, hs.below⟩

theorem c_spans (lo hi : Int) (w0 : World) :
    Calls Tryd.prog 84 #[.agg #[.int .i64 lo, .int .i64 hi]] w0 (Ret w0 (.bool (spanS lo hi))) := by
  refine c_enter (n := 21) Tryd.func84 rfl rfl (Nat.le_of_ble_eq_true rfl) ?_; intro a hf; simp only [zipR] at hf
  have hs := St.start w0 [] (by simp)
  refine c_reg ?_
  refine vL hf (v_boxA hf hs rfl) (by decide) ?_; clear hs hf a; rintro _ w ⟨b1, rfl, hs⟩ a hf
  refine gL hf (g_as hf rfl) (by decide) ?_; clear hf a; intro a hf
  refine e_nil ?_
  refine c_reg ?_
  refine gL hf (g_fa (off' := 0) hf F40_0 rfl rfl) (by decide) ?_; clear hf a; intro a hf
  refine gL hf (g_ld hf hs T3 rfl (k := 0) rfl rfl) (by decide) ?_; clear hf a; intro a hf
  refine gL hf (g_fa (off' := 1) hf F40_1 rfl rfl) (by decide) ?_; clear hf a; intro a hf
  refine gL hf (g_ld hf hs T3 rfl (k := 0) rfl rfl) (by decide) ?_; clear hf a; intro a hf
  refine callL hf hs (c_inH _ _ _ _) rfl rfl rfl E83 (by decide) ?_; clear hs hf a; intro w a hs hf
  refine gL hf (g_mv hf rfl) (by decide) ?_; clear hf a; intro a hf
  refine ggL hf rfl rfl (gyes_t _) (fun hg => g_fa (off' := 1) hf F40_1 rfl rfl) (by decide) ?_; clear hf a; intro a hf
  refine ggL hf rfl rfl (gyes_t _) (fun hg => g_ld hf hs T3 (ev_gv rfl hg) (k := 0) rfl rfl) (by decide) ?_; clear hf a; intro a hf
  refine ggL hf rfl rfl (gyes_t _) (fun hg => g_leq hf (ev_gv rfl hg) rfl) (by decide) ?_; clear hf a; intro a hf
  refine gL hf (g_and hf rfl rfl) (by decide) ?_; clear hf a; intro a hf
  refine gL hf (g_mv hf rfl) (by decide) ?_; clear hf a; intro a hf
  refine ggL hf rfl rfl (gyes_t _) (fun hg => g_fa (off' := 1) hf F40_1 rfl rfl) (by decide) ?_; clear hf a; intro a hf
  refine ggL hf rfl rfl (gyes_t _) (fun hg => g_ld hf hs T3 (ev_gv rfl hg) (k := 0) rfl rfl) (by decide) ?_; clear hf a; intro a hf
  refine ggL hf rfl rfl (gyes_t _) (fun hg => g_fa (off' := 0) hf F40_0 rfl rfl) (by decide) ?_; clear hf a; intro a hf
  refine ggL hf rfl rfl (gyes_t _) (fun hg => g_ld hf hs T3 (ev_gv rfl hg) (k := 0) rfl rfl) (by decide) ?_; clear hf a; intro a hf
  refine ggL hf rfl rfl (gyes_t _) (fun hg => g_subI hf (ev_gv rfl hg) (ev_gv rfl hg) (by simp only [fitsB, Bool.and_eq_true, decide_eq_true_eq] at hg; omega)) (by decide) ?_; clear hf a; intro a hf
  refine ggL hf rfl rfl (gyes_t _) (fun hg => g_leq hf (ev_gv rfl hg) rfl) (by decide) ?_; clear hf a; intro a hf
  refine gL hf (g_and hf rfl rfl) (by decide) ?_; clear hf a; intro a hf
  refine gL hf (g_as hf rfl) (by decide) ?_; clear hf a; intro a hf
  refine e_nil ?_
  refine c_ret ?_
  refine e_ret1 hf rfl rfl ?_
  exact ⟨rfl, hs.below⟩

theorem c_noneH (w0 : World) :
    Calls Tryd.prog 109 #[] w0 (Ret w0 (.agg #[.int .i64 0, .int .i64 0, .int .i64 0, .int .i64 0, .int .i64 0, .int .i64 0, .int .i64 0])) := by
  refine c_enter (n := 3) Tryd.func109 rfl rfl (Nat.le_of_ble_eq_true rfl) ?_; intro a hf; simp only [zipR] at hf
  have hs := St.start w0 [] (by simp)
  refine c_reg ?_
  refine vL hf (v_alloc hs T129 rfl) (by decide) ?_; clear hs hf a; rintro _ w ⟨b1, rfl, hs⟩ a hf
  refine e_nil ?_
  refine c_reg ?_
  refine vL hf (v_alloc hs T129 rfl) (by decide) ?_; clear hs hf a; rintro _ w ⟨b2, rfl, hs⟩ a hf
  refine e_nil ?_
  refine c_reg ?_
  refine gL hf (g_ldW hf hs T129 rfl (k := 0) rfl rfl) (by decide) ?_; clear hf a; intro a hf
  refine uL (u_stW hf hs T129 rfl rfl rfl (k := 1) rfl rfl rfl) ?_; clear hs; intro w hs; dsimp only [List.set] at hs
  refine e_nil ?_
  refine c_ret ?_
  refine e_res hf hs rfl (.cellA T129 rfl (k := 1) rfl rfl .nil) rfl ?_
  exact ⟨rfl, hs.below⟩

theorem c_nothing (w0 : World) :
    Calls Tryd.prog 162 #[] w0 (Ret w0 (.agg #[.int .i64 0, .int .i64 0, .int .i64 0])) := by
  refine c_enter (n := 3) Tryd.func162 rfl rfl (Nat.le_of_ble_eq_true rfl) ?_; intro a hf; simp only [zipR] at hf
  have hs := St.start w0 [] (by simp)
  refine c_reg ?_
  refine vL hf (v_alloc hs T134 rfl) (by decide) ?_; clear hs hf a; rintro _ w ⟨b1, rfl, hs⟩ a hf
  refine e_nil ?_
  refine c_reg ?_
  refine vL hf (v_alloc hs T134 rfl) (by decide) ?_; clear hs hf a; rintro _ w ⟨b2, rfl, hs⟩ a hf
  refine e_nil ?_
  refine c_reg ?_
  refine gL hf (g_ldW hf hs T134 rfl (k := 0) rfl rfl) (by decide) ?_; clear hf a; intro a hf
  refine uL (u_stW hf hs T134 rfl rfl rfl (k := 1) rfl rfl rfl) ?_; clear hs; intro w hs; dsimp only [List.set] at hs
  refine e_nil ?_
  refine c_ret ?_
  refine e_res hf hs rfl (.cellA T134 rfl (k := 1) rfl rfl .nil) rfl ?_
  exact ⟨rfl, hs.below⟩

theorem c_sum (A : Option Addr) (c : Nat) (l : List Int) (hb : l.length ≤ 100 ∧ ∀ x ∈ l, -1000000000 ≤ x ∧ x ≤ 1000000000) (w0 : World) (h : Rd encI 1 A l.length l w0) :
    Calls Tryd.prog 112 #[.slice A l.length c] w0 (Ret w0 (.int .i64 (sumZ l))) := by
  refine c_enter (n := 17) Tryd.func112 rfl rfl (Nat.le_of_ble_eq_true rfl) ?_; intro a hf; simp only [zipR] at hf
  have hs := St.start w0 [Rd encI 1 A l.length l] h.st1
  have hlm := h.2.1
  refine c_reg ?_
  refine gL hf (g_as hf rfl) (by decide) ?_; clear hf a; intro a hf
  refine e_nil ?_
  refine c_reg ?_
  refine gL hf (g_as hf rfl) (by decide) ?_; clear hf a; intro a hf
  refine e_nil ?_
  refine wp_seq ?_
  refine c_reg ?_
  refine gL hf (g_mv hf rfl) (by decide) ?_; clear hf a; intro a hf
  refine gL hf (g_len hf SL31 rfl) (by decide) ?_; clear hf a; intro a hf
  refine gL hf (g_mv hf rfl) (by decide) ?_; clear hf a; intro a hf
  refine e_nil ?_
  refine c_block ?_
  refine c_loop hf hs [3, 5, 8, 9, 10, 11, 12, 13, 14, 15] (σ := Nat) (fun i => [(3, .int .i64 (sumZ (l.take i))), (8, .int .i64 (i : Nat))]) (fun i => _) (fun i => i ≤ l.length) (fun i => l.length - i) 0 (by omega) (.cons rfl (.cons rfl .nil)) rfl ?_
  intro i a w hJ hf hs
  refine c_reg ?_
  refine gL hf (g_lss hf rfl rfl) (by decide) ?_; clear hf a; intro a hf
  refine e_nil ?_
  refine c_condS hf rfl (fun hc1 => ?_) (fun hc1 => ?_)
  · try simp only [decide_eq_true_eq, decide_eq_false_iff_not] at hc1
    replace hc1 : i < l.length := by omega
    have hsb := sumZ_bound (l := l.take i) fun x hx => hb.2 x (List.mem_of_mem_take hx)
    have hsx := hb.2 _ (getD_mem hc1)
    have htl : (l.take i).length ≤ 100 := by rw [List.length_take]; omega
    refine c_skip (q_thenN ?_)
    refine c_blockS ?_
    refine c_reg ?_
    (first | (refine gL hf (g_ixE hf hs (.head _) SL31 rfl rfl (by omega)) (by decide) ?_) | (refine gL hf (g_ixD hf hs (.head _) SL31 rfl rfl (by omega)) (by decide) ?_)); clear hf a; intro a hf
    refine gL hf (g_ldE hf hs (.head _) T3 rfl rfl (by omega)) (by decide) ?_; clear hf a; intro a hf
    refine gL hf (g_as hf rfl) (by decide) ?_; clear hf a; intro a hf
    refine e_nil ?_
    refine c_reg1 ?_
    refine gL hf (g_mv hf rfl) (by decide) ?_; clear hf a; intro a hf
    refine gL hf (g_mv hf rfl) (by decide) ?_; clear hf a; intro a hf
    refine gL hf (g_addI hf rfl rfl (by omega)) (by decide) ?_; clear hf a; intro a hf
    refine gL hf (g_as hf rfl) (by decide) ?_; clear hf a; intro a hf
    refine e_nil1 (q_blkN (q_thenN ?_))
    refine c_reg1 ?_
    refine gL hf (g_addI hf rfl rfl (by omega)) (by decide) ?_; clear hf a; intro a hf
    refine gL hf (g_mv hf rfl) (by decide) ?_; clear hf a; intro a hf
    refine e_nil1 (q_thenN ?_)
    rw [← sumZ_take hc1] at hf
    exact ⟨i + 1, (by omega), (by omega), hf.back (by repeat (first | (with_reducible exact Ext.base) | ((with_reducible refine Ext.cons ?_ ?_); (· rfl)) | ((with_reducible refine Ext.over ?_ ?_ ?_); (· rfl); (· rfl)))) (allKeys rfl) (.cons rfl (.cons rfl .nil)), hs.dropN 0⟩
  · try simp only [decide_eq_true_eq, decide_eq_false_iff_not] at hc1
    have hix : i = l.length := by omega
    subst hix
    rw [List.take_length] at hf
    refine c_exit (q_thenX (q_thenX (q_blkX (q_thenN ?_))))
    refine c_reg ?_
    refine gL hf (g_mv hf rfl) (by decide) ?_; clear hf a; intro a hf
    refine gL hf (g_as hf rfl) (by decide) ?_; clear hf a; intro a hf
    refine e_nil ?_
    refine c_ret ?_
    refine e_ret1 hf rfl rfl ?_
    exact ⟨rfl, hs.below⟩

theorem c_came (lo hi : Int) (w0 : World) :
    Calls Tryd.prog 87 #[.agg #[.int .i64 lo, .int .i64 hi]] w0 (Ret w0 (.bool (spanS lo hi))) := by
  refine c_enter (n := 13) Tryd.func87 rfl rfl (Nat.le_of_ble_eq_true rfl) ?_; intro a hf; simp only [zipR] at hf
  have hs := St.start w0 [] (by simp)
  refine c_reg ?_
  refine vL hf (v_boxA hf hs rfl) (by decide) ?_; clear hs hf a; rintro _ w ⟨b1, rfl, hs⟩ a hf
  refine gL hf (g_as hf rfl) (by decide) ?_; clear hf a; intro a hf
  refine e_nil ?_
  refine c_reg ?_
  refine gL hf (g_ldW hf hs T40 rfl (k := 0) rfl rfl) (by decide) ?_; clear hf a; intro a hf
  refine callL hf hs (c_Right _ _ _ _ _) rfl rfl rfl E62 (by decide) ?_; clear hs hf a; intro w a hs hf
  refine gL hf (g_mv hf rfl) (by decide) ?_; clear hf a; intro a hf
  refine ggL hf rfl rfl (gyes_t _) (fun hg => g_fa (off' := 1) hf F40_1 rfl rfl) (by decide) ?_; clear hf a; intro a hf
  refine ggL hf rfl rfl (gyes_t _) (fun hg => g_ld hf hs T3 (ev_gv rfl hg) (k := 0) rfl rfl) (by decide) ?_; clear hf a; intro a hf
  refine ggL hf rfl rfl (gyes_t _) (fun hg => g_fa (off' := 0) hf F40_0 rfl rfl) (by decide) ?_; clear hf a; intro a hf
  refine ggL hf rfl rfl (gyes_t _) (fun hg => g_ld hf hs T3 (ev_gv rfl hg) (k := 0) rfl rfl) (by decide) ?_; clear hf a; intro a hf
  refine ggL hf rfl rfl (gyes_t _) (fun hg => g_subI hf (ev_gv rfl hg) (ev_gv rfl hg) (by simp only [spanB, Bool.and_eq_true, decide_eq_true_eq] at hg; omega)) (by decide) ?_; clear hf a; intro a hf
  refine ggL hf rfl rfl (gyes_t _) (fun hg => g_leq hf (ev_gv rfl hg) rfl) (by decide) ?_; clear hf a; intro a hf
  refine gL hf (g_and hf rfl rfl) (by decide) ?_; clear hf a; intro a hf
  refine gL hf (g_as hf rfl) (by decide) ?_; clear hf a; intro a hf
  refine e_nil ?_
  refine c_ret ?_
  refine e_ret1 hf rfl rfl ?_
  exact ⟨by rw [span_came], hs.below⟩

end Go.Proofs.YtjjcopeedcdokaaDoor

