/- Part 3 of the proof of FoldDrops: laws of the engine, plain facts and contracts of the functions that the law reaches. Conditions: none beyond those of each theorem. -/
import Derived.Test.YtpjhffockmnjbaaDoorFoldDropsB
set_option linter.unusedVariables false
set_option linter.unusedSimpArgs false
namespace Go.Proofs.YtpjhffockmnjbaaDoor
open Go.RowKit
theorem c_Check (b : Sheet) (fA : Option Addr) (fc : Nat) (rA : Option Addr) (rc : Nat)  (w0 : World) (h : ShIn b fA fc rA rc w0) :
    Calls Tryd.prog 17 #[.agg #[.int .i64 b.wide, .int .i64 b.high, .slice fA b.flaps.length fc, .slice rA b.rules.length rc]] w0 (Ret w0 (.int .i64 (if checkB b then 0 else 40))) := by
  refine c_enter (n := 112) Tryd.func17 rfl rfl (Nat.le_of_ble_eq_true rfl) ?_; intro a hf; simp only [zipR] at hf
  have hs := St.start w0 [Rd encF 5 fA b.flaps.length b.flaps, Rd encR 2 rA b.rules.length b.rules] h.stab
  have hfm := h.F.2.1; have hrm := h.R.2.1
  refine c_reg ?_
  refine vL hf (v_boxA hf hs rfl) (by decide) ?_; clear hs hf a; rintro _ w ⟨b1, rfl, hs⟩ a hf
  refine gL hf (g_as hf rfl) (by decide) ?_; clear hf a; intro a hf
  refine e_nil ?_
  refine c_reg ?_
  refine gL hf (g_fa (off' := 0) hf F25_0 rfl rfl) (by decide) ?_; clear hf a; intro a hf
  refine gL hf (g_ld hf hs T3 rfl (k := 0) rfl rfl) (by decide) ?_; clear hf a; intro a hf
  refine callL hf hs (c_within _ _ _ _) rfl rfl rfl E58 (by decide) ?_; clear hs hf a; intro w a hs hf
  refine gL hf (g_mv hf rfl) (by decide) ?_; clear hf a; intro a hf
  refine ggL hf rfl rfl (gyes_t _) (fun hg => g_fa (off' := 1) hf F25_1 rfl rfl) (by decide) ?_; clear hf a; intro a hf
  refine ggL hf rfl rfl (gyes_t _) (fun hg => g_ld hf hs T3 (ev_gv rfl hg) (k := 0) rfl rfl) (by decide) ?_; clear hf a; intro a hf
  refine callG hf hs rfl rfl (gyes_t _) (fun hg => ⟨_, _, _, _, c_within _ _ _ _, rfl, evs_cons (ev_gv rfl hg) (evs_cons rfl (evs_cons rfl evs_nil)), rfl⟩) E58 (by decide) ?_; clear hs hf a; intro w a hs hf
  refine gL hf (g_and hf rfl rfl) (by decide) ?_; clear hf a; intro a hf
  refine gL hf (g_mv hf rfl) (by decide) ?_; clear hf a; intro a hf
  refine ggL hf rfl rfl (gyes_t _) (fun hg => g_fa (off' := 2) hf F25_2 rfl rfl) (by decide) ?_; clear hf a; intro a hf
  refine ggL hf rfl rfl (gyes_t _) (fun hg => g_ld hf hs T22 (ev_gv rfl hg) (k := 0) rfl rfl) (by decide) ?_; clear hf a; intro a hf
  refine ggL hf rfl rfl (gyes_t _) (fun hg => g_len hf SL22 (ev_gv rfl hg)) (by decide) ?_; clear hf a; intro a hf
  refine callG hf hs rfl rfl (gyes_t _) (fun hg => ⟨_, _, _, _, c_within _ _ _ _, rfl, evs_cons (ev_gv rfl hg) (evs_cons rfl (evs_cons rfl evs_nil)), rfl⟩) E58 (by decide) ?_; clear hs hf a; intro w a hs hf
  refine gL hf (g_and hf rfl rfl) (by decide) ?_; clear hf a; intro a hf
  refine gL hf (g_mv hf rfl) (by decide) ?_; clear hf a; intro a hf
  refine ggL hf rfl rfl (gyes_t _) (fun hg => g_fa (off' := 3) hf F25_3 rfl rfl) (by decide) ?_; clear hf a; intro a hf
  refine ggL hf rfl rfl (gyes_t _) (fun hg => g_ld hf hs T23 (ev_gv rfl hg) (k := 0) rfl rfl) (by decide) ?_; clear hf a; intro a hf
  refine ggL hf rfl rfl (gyes_t _) (fun hg => g_len hf SL23 (ev_gv rfl hg)) (by decide) ?_; clear hf a; intro a hf
  refine ggL hf rfl rfl (gyes_t _) (fun hg => g_leq hf (ev_gv rfl hg) rfl) (by decide) ?_; clear hf a; intro a hf
  refine gL hf (g_and hf rfl rfl) (by decide) ?_; clear hf a; intro a hf
  refine gL hf (g_as hf rfl) (by decide) ?_; clear hf a; intro a hf
  refine e_nil ?_
  refine wp_seq ?_
  refine c_reg ?_
  refine gL hf (g_fa (off' := 2) hf F25_2 rfl rfl) (by decide) ?_; clear hf a; intro a hf
  refine gL hf (g_ld hf hs T22 rfl (k := 0) rfl rfl) (by decide) ?_; clear hf a; intro a hf
  refine gL hf (g_len hf SL22 rfl) (by decide) ?_; clear hf a; intro a hf
  refine gL hf (g_mv hf rfl) (by decide) ?_; clear hf a; intro a hf
  refine e_nil ?_
  refine c_block ?_
  have e0 : (fitsB b.wide 1 99 && fitsB b.high 1 99 && fitsB (b.flaps.length : Int) 1 7 && decide ((b.rules.length : Int) ≤ 10)) = okF b 0 := by simp [okF, baseOK]
  rw [e0] at hf
  refine c_loop hf hs (List.range' 3 1 ++ List.range' 5 3 ++ List.range' 33 33) (σ := Nat) (fun k => [(3, .bool (okF b k)), (33, .int .i64 (k : Nat))]) (fun k => _) (fun k => k ≤ b.flaps.length) (fun k => b.flaps.length - k) 0 (by omega) (.cons rfl (.cons rfl .nil)) rfl ?_
  intro k a w hJ hf hs
  refine c_reg ?_
  refine gL hf (g_lss hf rfl rfl) (by decide) ?_; clear hf a; intro a hf
  refine e_nil ?_
  refine c_condS hf rfl (fun hc1 => ?_) (fun hc1 => ?_)
  · try simp only [decide_eq_true_eq, decide_eq_false_iff_not] at hc1
    refine c_skip (q_thenN ?_)
    refine c_blockS ?_
    refine c_reg ?_
    (first | (refine gL hf (g_ixE hf hs (.head _) SL22 rfl rfl (by omega)) (by decide) ?_) | (refine gL hf (g_ixD hf hs (.head _) SL22 rfl rfl (by omega)) (by decide) ?_)); clear hf a; intro a hf
    refine gL hf (g_ldEW hf hs (.head _) T49 rfl rfl (by omega)) (by decide) ?_; clear hf a; intro a hf
    refine vL hf (v_alloc hs T49 rfl) (by decide) ?_; clear hs hf a; rintro _ w ⟨b2, rfl, hs⟩ a hf
    refine uL (u_stW hf hs T49 rfl rfl rfl (k := 0) rfl rfl rfl) ?_; clear hs; intro w hs; dsimp only [List.set] at hs
    refine e_nil ?_
    refine c_draw _ 6 Mx rfl hs (fun _ h => h) ?_; intro w hs hS
    refine gA hf hS (i := 0) rfl (by kernel_rfl) (fun w hs => g_fa (off' := 0) hf F25_0 rfl rfl) (by decide) ?_; clear hf a; intro a hf
    refine gA hf hS (i := 1) rfl (by kernel_rfl) (fun w hs => g_ld hf hs T3 rfl (k := 1) rfl rfl) (by decide) ?_; clear hf a; intro a hf
    refine gA hf hS (i := 2) rfl (by kernel_rfl) (fun w hs => g_fa (off' := 1) hf F25_1 rfl rfl) (by decide) ?_; clear hf a; intro a hf
    refine gA hf hS (i := 3) rfl (by kernel_rfl) (fun w hs => g_ld hf hs T3 rfl (k := 1) rfl rfl) (by decide) ?_; clear hf a; intro a hf
    refine gA hf hS (i := 4) rfl (by kernel_rfl) (fun w hs => g_as hf rfl) (by decide) ?_; clear hf a; intro a hf
    refine gA hf hS (i := 5) rfl (by kernel_rfl) (fun w hs => g_as hf rfl) (by decide) ?_; clear hf a; intro a hf
    refine e_done (by kernel_rfl) ?_
    refine wp_seq ?_
    refine c_reg ?_
    refine gL hf (g_fa (off' := 0) hf F49_0 rfl rfl) (by decide) ?_; clear hf a; intro a hf
    refine gL hf (g_ld hf hs T3 rfl (k := 0) rfl rfl) (by decide) ?_; clear hf a; intro a hf
    refine gL hf (g_geq hf rfl rfl) (by decide) ?_; clear hf a; intro a hf
    refine e_nil ?_
    refine c_cond hf rfl (fun hc2 => ?_) (fun hc2 => ?_)
    · try simp only [decide_eq_true_eq, decide_eq_false_iff_not] at hc2
      have e1 : okF b (k + 1) = (okF b k && fitsB (b.flaps.getD k default).side 0 3 && spanB (b.flaps.getD k default).rl (b.flaps.getD k default).rh 1 b.high && spanB (b.flaps.getD k default).al (b.flaps.getD k default).ah 0 (b.wide - 1)) := by rw [okF_succ (by omega), flapOK, if_neg (by omega)]; simp only [Bool.and_assoc]
      refine c_reg1 ?_
      refine gL hf (g_mv hf rfl) (by decide) ?_; clear hf a; intro a hf
      refine gL hf (g_mv hf rfl) (by decide) ?_; clear hf a; intro a hf
      refine gL hf (g_as hf rfl) (by decide) ?_; clear hf a; intro a hf
      refine gL hf (g_as hf rfl) (by decide) ?_; clear hf a; intro a hf
      refine e_nil1 (q_thenN ?_)
      refine c_reg1 ?_
      refine gL hf (g_mv hf rfl) (by decide) ?_; clear hf a; intro a hf
      refine gL hf (g_mv hf rfl) (by decide) ?_; clear hf a; intro a hf
      refine ggL hf rfl rfl (gyes_t _) (fun hg => g_fa (off' := 0) hf F49_0 rfl rfl) (by decide) ?_; clear hf a; intro a hf
      refine ggL hf rfl rfl (gyes_t _) (fun hg => g_ld hf hs T3 (ev_gv rfl hg) (k := 0) rfl rfl) (by decide) ?_; clear hf a; intro a hf
      refine callG hf hs rfl rfl (gyes_t _) (fun hg => ⟨_, _, _, _, c_within _ _ _ _, rfl, evs_cons (ev_gv rfl hg) (evs_cons rfl (evs_cons rfl evs_nil)), rfl⟩) E58 (by decide) ?_; clear hs hf a; intro w a hs hf
      refine gL hf (g_and hf rfl rfl) (by decide) ?_; clear hf a; intro a hf
      refine gL hf (g_mv hf rfl) (by decide) ?_; clear hf a; intro a hf
      refine ggL hf rfl rfl (gyes_t _) (fun hg => g_fa (off' := 1) hf F49_1 rfl rfl) (by decide) ?_; clear hf a; intro a hf
      refine ggL hf rfl rfl (gyes_t _) (fun hg => g_ldP hf hs T47 (ev_gv rfl hg) (k := 0) rfl rfl) (by decide) ?_; clear hf a; intro a hf
      refine ggL hf rfl rfl (gyes_t _) (fun hg => g_mv hf rfl) (by decide) ?_; clear hf a; intro a hf
      refine callG hf hs rfl rfl (gyes_t _) (fun hg => ⟨_, _, _, _, c_isSpan _ _ _ _ _, rfl, evs_cons (ev_gv rfl hg) (evs_cons rfl (evs_cons (ev_gv rfl hg) evs_nil)), rfl⟩) E59 (by decide) ?_; clear hs hf a; intro w a hs hf
      refine gL hf (g_and hf rfl rfl) (by decide) ?_; clear hf a; intro a hf
      refine gL hf (g_mv hf rfl) (by decide) ?_; clear hf a; intro a hf
      refine ggL hf rfl rfl (gyes_t _) (fun hg => g_fa (off' := 3) hf F49_2 rfl rfl) (by decide) ?_; clear hf a; intro a hf
      refine ggL hf rfl rfl (gyes_t _) (fun hg => g_ldP hf hs T47 (ev_gv rfl hg) (k := 0) rfl rfl) (by decide) ?_; clear hf a; intro a hf
      refine ggL hf rfl rfl (gyes_t _) (fun hg => g_mv hf rfl) (by decide) ?_; clear hf a; intro a hf
      refine ggL hf rfl rfl (gyes_t _) (fun hg => g_subI hf (ev_gv rfl hg) rfl (by have h9 := okF_base (and_l (and_l hg)); omega)) (by decide) ?_; clear hf a; intro a hf
      refine callG hf hs rfl rfl (gyes_t _) (fun hg => ⟨_, _, _, _, c_isSpan _ _ _ _ _, rfl, evs_cons (ev_gv rfl hg) (evs_cons rfl (evs_cons (ev_gv rfl hg) evs_nil)), rfl⟩) E59 (by decide) ?_; clear hs hf a; intro w a hs hf
      refine gL hf (g_and hf rfl rfl) (by decide) ?_; clear hf a; intro a hf
      refine gL hf (g_as hf rfl) (by decide) ?_; clear hf a; intro a hf
      refine e_nil1 (q_blkN (q_thenN ?_))
      refine c_reg1 ?_
      refine gL hf (g_addI hf rfl rfl (by omega)) (by decide) ?_; clear hf a; intro a hf
      refine gL hf (g_mv hf rfl) (by decide) ?_; clear hf a; intro a hf
      refine e_nil1 (q_thenN ?_)
      rw [← e1] at hf
      exact ⟨k + 1, (by omega), (by omega), hf.back (by repeat (first | (with_reducible exact Ext.base) | ((with_reducible refine Ext.cons ?_ ?_); (· rfl)) | ((with_reducible refine Ext.over ?_ ?_ ?_); (· rfl); (· rfl)))) (allKeys rfl) (.cons rfl (.cons rfl .nil)), hs.dropN 1⟩
    · try simp only [decide_eq_true_eq, decide_eq_false_iff_not] at hc2
      have e1 : okF b (k + 1) = (okF b k && fitsB (b.flaps.getD k default).side 0 3 && spanB (b.flaps.getD k default).rl (b.flaps.getD k default).rh 1 b.wide && spanB (b.flaps.getD k default).al (b.flaps.getD k default).ah 0 (b.high - 1)) := by rw [okF_succ (by omega), flapOK, if_pos (by omega)]; simp only [Bool.and_assoc]
      refine c_skip (q_thenN ?_)
      refine c_reg1 ?_
      refine gL hf (g_mv hf rfl) (by decide) ?_; clear hf a; intro a hf
      refine gL hf (g_mv hf rfl) (by decide) ?_; clear hf a; intro a hf
      refine ggL hf rfl rfl (gyes_t _) (fun hg => g_fa (off' := 0) hf F49_0 rfl rfl) (by decide) ?_; clear hf a; intro a hf
      refine ggL hf rfl rfl (gyes_t _) (fun hg => g_ld hf hs T3 (ev_gv rfl hg) (k := 0) rfl rfl) (by decide) ?_; clear hf a; intro a hf
      refine callG hf hs rfl rfl (gyes_t _) (fun hg => ⟨_, _, _, _, c_within _ _ _ _, rfl, evs_cons (ev_gv rfl hg) (evs_cons rfl (evs_cons rfl evs_nil)), rfl⟩) E58 (by decide) ?_; clear hs hf a; intro w a hs hf
      refine gL hf (g_and hf rfl rfl) (by decide) ?_; clear hf a; intro a hf
      refine gL hf (g_mv hf rfl) (by decide) ?_; clear hf a; intro a hf
      refine ggL hf rfl rfl (gyes_t _) (fun hg => g_fa (off' := 1) hf F49_1 rfl rfl) (by decide) ?_; clear hf a; intro a hf
      refine ggL hf rfl rfl (gyes_t _) (fun hg => g_ldP hf hs T47 (ev_gv rfl hg) (k := 0) rfl rfl) (by decide) ?_; clear hf a; intro a hf
      refine ggL hf rfl rfl (gyes_t _) (fun hg => g_mv hf rfl) (by decide) ?_; clear hf a; intro a hf
      refine callG hf hs rfl rfl (gyes_t _) (fun hg => ⟨_, _, _, _, c_isSpan _ _ _ _ _, rfl, evs_cons (ev_gv rfl hg) (evs_cons rfl (evs_cons (ev_gv rfl hg) evs_nil)), rfl⟩) E59 (by decide) ?_; clear hs hf a; intro w a hs hf
      refine gL hf (g_and hf rfl rfl) (by decide) ?_; clear hf a; intro a hf
      refine gL hf (g_mv hf rfl) (by decide) ?_; clear hf a; intro a hf
      refine ggL hf rfl rfl (gyes_t _) (fun hg => g_fa (off' := 3) hf F49_2 rfl rfl) (by decide) ?_; clear hf a; intro a hf
      refine ggL hf rfl rfl (gyes_t _) (fun hg => g_ldP hf hs T47 (ev_gv rfl hg) (k := 0) rfl rfl) (by decide) ?_; clear hf a; intro a hf
      refine ggL hf rfl rfl (gyes_t _) (fun hg => g_mv hf rfl) (by decide) ?_; clear hf a; intro a hf
      refine ggL hf rfl rfl (gyes_t _) (fun hg => g_subI hf (ev_gv rfl hg) rfl (by have h9 := okF_base (and_l (and_l hg)); omega)) (by decide) ?_; clear hf a; intro a hf
      refine callG hf hs rfl rfl (gyes_t _) (fun hg => ⟨_, _, _, _, c_isSpan _ _ _ _ _, rfl, evs_cons (ev_gv rfl hg) (evs_cons rfl (evs_cons (ev_gv rfl hg) evs_nil)), rfl⟩) E59 (by decide) ?_; clear hs hf a; intro w a hs hf
      refine gL hf (g_and hf rfl rfl) (by decide) ?_; clear hf a; intro a hf
      refine gL hf (g_as hf rfl) (by decide) ?_; clear hf a; intro a hf
      refine e_nil1 (q_blkN (q_thenN ?_))
      refine c_reg1 ?_
      refine gL hf (g_addI hf rfl rfl (by omega)) (by decide) ?_; clear hf a; intro a hf
      refine gL hf (g_mv hf rfl) (by decide) ?_; clear hf a; intro a hf
      refine e_nil1 (q_thenN ?_)
      rw [← e1] at hf
      exact ⟨k + 1, (by omega), (by omega), hf.back (by repeat (first | (with_reducible exact Ext.base) | ((with_reducible refine Ext.cons ?_ ?_); (· rfl)) | ((with_reducible refine Ext.over ?_ ?_ ?_); (· rfl); (· rfl)))) (allKeys rfl) (.cons rfl (.cons rfl .nil)), hs.dropN 1⟩
  · try simp only [decide_eq_true_eq, decide_eq_false_iff_not] at hc1
    refine c_exit (q_thenX (q_thenX (q_blkX (q_thenN ?_))))
    refine wp_seq ?_
    refine c_reg ?_
    refine gL hf (g_fa (off' := 3) hf F25_3 rfl rfl) (by decide) ?_; clear hf a; intro a hf
    refine gL hf (g_ld hf hs T23 rfl (k := 0) rfl rfl) (by decide) ?_; clear hf a; intro a hf
    refine gL hf (g_len hf SL23 rfl) (by decide) ?_; clear hf a; intro a hf
    refine gL hf (g_mv hf rfl) (by decide) ?_; clear hf a; intro a hf
    refine e_nil ?_
    refine c_block ?_
    have e2 : okF b k = okF b b.flaps.length := by rw [show k = b.flaps.length by omega]
    rw [e2, show okF b b.flaps.length = okR b 0 by simp [okR]] at hf
    refine c_loop hf hs (List.range' 3 1 ++ List.range' 8 2 ++ List.range' 69 41) (σ := Nat) (fun i => [(3, .bool (okR b i)), (69, .int .i64 (i : Nat))]) (fun i => _) (fun i => i ≤ b.rules.length) (fun i => b.rules.length - i) 0 (by omega) (.cons rfl (.cons rfl .nil)) rfl ?_
    intro i a w hJ hf hs
    refine c_reg ?_
    refine gL hf (g_lss hf rfl rfl) (by decide) ?_; clear hf a; intro a hf
    refine e_nil ?_
    refine c_condS hf rfl (fun hc3 => ?_) (fun hc3 => ?_)
    · try simp only [decide_eq_true_eq, decide_eq_false_iff_not] at hc3
      refine c_skip (q_thenN ?_)
      refine c_blockS ?_
      refine c_reg ?_
      refine gL hf (g_mv hf rfl) (by decide) ?_; clear hf a; intro a hf
      (first | (refine gL hf (g_ixE hf hs (.tail _ (.head _)) SL23 rfl rfl (by omega)) (by decide) ?_) | (refine gL hf (g_ixD hf hs (.tail _ (.head _)) SL23 rfl rfl (by omega)) (by decide) ?_)); clear hf a; intro a hf
      refine gL hf (g_ldEW hf hs (.tail _ (.head _)) T64 rfl rfl (by omega)) (by decide) ?_; clear hf a; intro a hf
      refine vL hf (v_alloc hs T64 rfl) (by decide) ?_; clear hs hf a; rintro _ w ⟨b2, rfl, hs⟩ a hf
      refine gL hf (g_as hf rfl) (by decide) ?_; clear hf a; intro a hf
      refine uL (u_stW hf hs T64 rfl rfl rfl (k := 0) rfl rfl rfl) ?_; clear hs; intro w hs; dsimp only [List.set] at hs
      refine e_nil ?_
      refine c_draw1 _ 36 Mx rfl hs (fun _ h => h) ?_; intro w hs hS
      refine gA hf hS (i := 0) rfl (by kernel_rfl) (fun w hs => g_mv hf rfl) (by decide) ?_; clear hf a; intro a hf
      refine gA hf hS (i := 1) rfl (by kernel_rfl) (fun w hs => g_mv hf rfl) (by decide) ?_; clear hf a; intro a hf
      refine ggA hf hS (i := 2) rfl (by kernel_rfl) rfl rfl (gyes_t _) (fun hg w hs => g_fa (off' := 0) hf F64_0 rfl rfl) (by decide) ?_; clear hf a; intro a hf
      refine ggA hf hS (i := 3) rfl (by kernel_rfl) rfl rfl (gyes_t _) (fun hg w hs => g_ld hf hs T3 (ev_gv rfl hg) (k := 0) rfl rfl) (by decide) ?_; clear hf a; intro a hf
      refine ggA hf hS (i := 4) rfl (by kernel_rfl) rfl rfl (gyes_t _) (fun hg w hs => g_fa (off' := 2) hf F25_2 rfl rfl) (by decide) ?_; clear hf a; intro a hf
      refine ggA hf hS (i := 5) rfl (by kernel_rfl) rfl rfl (gyes_t _) (fun hg w hs => g_ld hf hs T22 (ev_gv rfl hg) (k := 1) rfl rfl) (by decide) ?_; clear hf a; intro a hf
      refine ggA hf hS (i := 6) rfl (by kernel_rfl) rfl rfl (gyes_t _) (fun hg w hs => g_len hf SL22 (ev_gv rfl hg)) (by decide) ?_; clear hf a; intro a hf
      refine ggA hf hS (i := 7) rfl (by kernel_rfl) rfl rfl (gyes_t _) (fun hg w hs => g_subI hf (ev_gv rfl hg) rfl (by omega)) (by decide) ?_; clear hf a; intro a hf
      refine one (i := 8) (by kernel_rfl) ?_
      refine oCallG hf hs rfl rfl rfl (gyes_t _) (fun hg => ⟨_, _, _, _, c_within _ _ _ _, rfl, evs_cons (ev_gv rfl hg) (evs_cons rfl (evs_cons (ev_gv rfl hg) evs_nil)), rfl⟩) E58 (by decide) (fun _ h => h.sub (.refl _)) ?_; clear hs hf hS a; intro w a hs hS hf
      refine gA hf hS (i := 9) rfl (by kernel_rfl) (fun w hs => g_and hf rfl rfl) (by decide) ?_; clear hf a; intro a hf
      refine gA hf hS (i := 10) rfl (by kernel_rfl) (fun w hs => g_mv hf rfl) (by decide) ?_; clear hf a; intro a hf
      refine ggA hf hS (i := 11) rfl (by kernel_rfl) rfl rfl (gyes_t _) (fun hg w hs => g_fa (off' := 1) hf F64_1 rfl rfl) (by decide) ?_; clear hf a; intro a hf
      refine ggA hf hS (i := 12) rfl (by kernel_rfl) rfl rfl (gyes_t _) (fun hg w hs => g_ld hf hs T3 (ev_gv rfl hg) (k := 0) rfl rfl) (by decide) ?_; clear hf a; intro a hf
      refine ggA hf hS (i := 13) rfl (by kernel_rfl) rfl rfl (gyes_t _) (fun hg w hs => g_fa (off' := 2) hf F25_2 rfl rfl) (by decide) ?_; clear hf a; intro a hf
      refine ggA hf hS (i := 14) rfl (by kernel_rfl) rfl rfl (gyes_t _) (fun hg w hs => g_ld hf hs T22 (ev_gv rfl hg) (k := 1) rfl rfl) (by decide) ?_; clear hf a; intro a hf
      refine ggA hf hS (i := 15) rfl (by kernel_rfl) rfl rfl (gyes_t _) (fun hg w hs => g_len hf SL22 (ev_gv rfl hg)) (by decide) ?_; clear hf a; intro a hf
      refine ggA hf hS (i := 16) rfl (by kernel_rfl) rfl rfl (gyes_t _) (fun hg w hs => g_subI hf (ev_gv rfl hg) rfl (by omega)) (by decide) ?_; clear hf a; intro a hf
      refine one (i := 17) (by kernel_rfl) ?_
      refine oCallG hf hs rfl rfl rfl (gyes_t _) (fun hg => ⟨_, _, _, _, c_within _ _ _ _, rfl, evs_cons (ev_gv rfl hg) (evs_cons rfl (evs_cons (ev_gv rfl hg) evs_nil)), rfl⟩) E58 (by decide) (fun _ h => h.sub (.refl _)) ?_; clear hs hf hS a; intro w a hs hS hf
      refine gA hf hS (i := 18) rfl (by kernel_rfl) (fun w hs => g_and hf rfl rfl) (by decide) ?_; clear hf a; intro a hf
      refine gA hf hS (i := 19) rfl (by kernel_rfl) (fun w hs => g_mv hf rfl) (by decide) ?_; clear hf a; intro a hf
      refine ggA hf hS (i := 20) rfl (by kernel_rfl) rfl rfl (gyes_t _) (fun hg w hs => g_fa (off' := 0) hf F64_0 rfl rfl) (by decide) ?_; clear hf a; intro a hf
      refine ggA hf hS (i := 21) rfl (by kernel_rfl) rfl rfl (gyes_t _) (fun hg w hs => g_ld hf hs T3 (ev_gv rfl hg) (k := 0) rfl rfl) (by decide) ?_; clear hf a; intro a hf
      refine ggA hf hS (i := 22) rfl (by kernel_rfl) rfl rfl (gyes_t _) (fun hg w hs => g_fa (off' := 1) hf F64_1 rfl rfl) (by decide) ?_; clear hf a; intro a hf
      refine ggA hf hS (i := 23) rfl (by kernel_rfl) rfl rfl (gyes_t _) (fun hg w hs => g_ld hf hs T3 (ev_gv rfl hg) (k := 0) rfl rfl) (by decide) ?_; clear hf a; intro a hf
      refine ggA hf hS (i := 24) rfl (by kernel_rfl) rfl rfl (gyes_t _) (fun hg w hs => g_neq hf (ev_gv rfl hg) (ev_gv rfl hg)) (by decide) ?_; clear hf a; intro a hf
      refine gA hf hS (i := 25) rfl (by kernel_rfl) (fun w hs => g_and hf rfl rfl) (by decide) ?_; clear hf a; intro a hf
      refine gA hf hS (i := 26) rfl (by kernel_rfl) (fun w hs => g_mv hf rfl) (by decide) ?_; clear hf a; intro a hf
      refine ggA hf hS (i := 27) rfl (by kernel_rfl) rfl rfl (gyes_t _) (fun hg w hs => g_fa (off' := 3) hf F25_3 rfl rfl) (by decide) ?_; clear hf a; intro a hf
      refine ggA hf hS (i := 28) rfl (by kernel_rfl) rfl rfl (gyes_t _) (fun hg w hs => g_ld hf hs T23 (ev_gv rfl hg) (k := 1) rfl rfl) (by decide) ?_; clear hf a; intro a hf
      refine ggA hf hS (i := 29) rfl (by kernel_rfl) rfl rfl (gyes_t _) (fun hg w hs => g_mv hf rfl) (by decide) ?_; clear hf a; intro a hf
      refine ggA hf hS (i := 30) rfl (by kernel_rfl) rfl rfl (gyes_t _) (fun hg w hs => g_slH hf SL23 (ev_gv rfl hg) (ev_gv rfl hg) (by have := h.rc_; omega)) (by decide) ?_; clear hf a; intro a hf
      refine ggA hf hS (i := 31) rfl (by kernel_rfl) rfl rfl (gyes_t _) (fun hg w hs => g_ldW hf hs T64 rfl (k := 0) rfl rfl) (by decide) ?_; clear hf a; intro a hf
      refine one (i := 32) (by kernel_rfl) ?_
      refine oCallG hf hs rfl rfl rfl (gyes_t _) (fun hg => ⟨_, _, _, _, c_ContainsS _ ((i : Nat) : Int).toNat _ (b.rules.take i) (b.rules.getD i default) _ (by simpa using (hs.rd (.tail _ (.head _))).take i (by omega)), rfl, evs_cons (ev_gv rfl hg) (evs_cons (ev_gv rfl hg) evs_nil), rfl⟩) E60 (by decide) (fun _ h => h.sub (.refl _)) ?_; clear hs hf hS a; intro w a hs hS hf
      refine ggA hf hS (i := 33) rfl (by kernel_rfl) rfl rfl (gyes_t _) (fun hg w hs => g_not hf (ev_gv rfl hg)) (by decide) ?_; clear hf a; intro a hf
      refine gA hf hS (i := 34) rfl (by kernel_rfl) (fun w hs => g_and hf rfl rfl) (by decide) ?_; clear hf a; intro a hf
      refine gA hf hS (i := 35) rfl (by kernel_rfl) (fun w hs => g_as hf rfl) (by decide) ?_; clear hf a; intro a hf
      refine e_done1 (by kernel_rfl) ?_
      refine q_blkN (q_thenN ?_)
      refine c_reg1 ?_
      refine gL hf (g_addI hf rfl rfl (by omega)) (by decide) ?_; clear hf a; intro a hf
      refine gL hf (g_mv hf rfl) (by decide) ?_; clear hf a; intro a hf
      refine e_nil1 (q_thenN ?_)
      have e4 : okR b (i + 1) = (okR b i && fitsB (b.rules.getD i default).over 0 ((b.flaps.length : Int) - 1) && fitsB (b.rules.getD i default).under 0 ((b.flaps.length : Int) - 1) && (b.rules.getD i default).over != (b.rules.getD i default).under && !(b.rules.take i).any fun x => sameR (b.rules.getD i default) x) := by rw [okR_succ]; simp only [ruleOK, Bool.and_assoc]
      rw [← e4] at hf
      exact ⟨i + 1, (by omega), (by omega), hf.back (by repeat (first | (with_reducible exact Ext.base) | ((with_reducible refine Ext.cons ?_ ?_); (· rfl)) | ((with_reducible refine Ext.over ?_ ?_ ?_); (· rfl); (· rfl)))) (allKeys rfl) (.cons rfl (.cons rfl .nil)), hs.dropN 1⟩
    · try simp only [decide_eq_true_eq, decide_eq_false_iff_not] at hc3
      rw [show i = b.rules.length by omega, show okR b b.rules.length = checkB b by simp [checkB, okR, okF, List.take_length]] at hf
      refine c_exit (q_thenX (q_thenX (q_blkX (q_thenN ?_))))
      refine wp_seq ?_
      refine c_reg ?_
      refine gL hf (g_mv hf rfl) (by decide) ?_; clear hf a; intro a hf
      refine gL hf (g_not hf rfl) (by decide) ?_; clear hf a; intro a hf
      refine e_nil ?_
      refine c_cond hf rfl (fun hc4 => ?_) (fun hc4 => ?_)
      · try simp only [decide_eq_true_eq, decide_eq_false_iff_not] at hc4
        refine c_reg ?_
        refine gL hf (g_as hf rfl) (by decide) ?_; clear hf a; intro a hf
        refine e_nil ?_
        refine c_ret (q_thenR ?_)
        refine e_ret1 hf rfl rfl ?_
        exact ⟨by rw [show checkB b = false by simpa using hc4]; rfl, hs.below⟩
      · try simp only [decide_eq_true_eq, decide_eq_false_iff_not] at hc4
        refine c_skip (q_thenN ?_)
        refine c_reg ?_
        refine gL hf (g_as hf rfl) (by decide) ?_; clear hf a; intro a hf
        refine e_nil ?_
        refine c_ret ?_
        refine e_ret1 hf rfl rfl ?_
        exact ⟨by rw [show checkB b = true by simpa using hc4]; rfl, hs.below⟩

end Go.Proofs.YtpjhffockmnjbaaDoor
set_option linter.unusedVariables false
set_option linter.unusedSimpArgs false
namespace Go.Proofs.YtpjhffockmnjbaaDoor
open Go.RowKit
theorem c_isOrder (b : Sheet) (fA : Option Addr) (fc : Nat) (rA : Option Addr) (rc : Nat) (oA : Option Addr) (oc : Nat) (l : List Int) (hv : Valid b) (w0 : World) (h : ShIn b fA fc rA rc w0) (ho : Rd encI 1 oA l.length l w0) :
    Calls Tryd.prog 62 #[.agg #[.int .i64 b.wide, .int .i64 b.high, .slice fA b.flaps.length fc, .slice rA b.rules.length rc], .slice oA l.length oc] w0 (Ret w0 (.bool (ordB b l))) := by
  refine c_enter (n := 36) Tryd.func62 rfl rfl (Nat.le_of_ble_eq_true rfl) ?_; intro a hf; simp only [zipR] at hf
  have hs := St.start w0 [Rd encF 5 fA b.flaps.length b.flaps, Rd encR 2 rA b.rules.length b.rules, Rd encI 1 oA l.length l] (stab_app h.stab ho.st1)
  have hfm := h.F.2.1; have hrm := h.R.2.1; have hlm := ho.2.1
  have hmany := hv.many
  refine c_reg ?_
  refine vL hf (v_boxA hf hs rfl) (by decide) ?_; clear hs hf a; rintro _ w ⟨b1, rfl, hs⟩ a hf
  refine gL hf (g_as hf rfl) (by decide) ?_; clear hf a; intro a hf
  refine e_nil ?_
  refine wp_seq ?_
  refine c_reg ?_
  refine gL hf (g_mv hf rfl) (by decide) ?_; clear hf a; intro a hf
  refine gL hf (g_len hf SL27 rfl) (by decide) ?_; clear hf a; intro a hf
  refine gL hf (g_fa (off' := 2) hf F25_2 rfl rfl) (by decide) ?_; clear hf a; intro a hf
  refine gL hf (g_ld hf hs T22 rfl (k := 0) rfl rfl) (by decide) ?_; clear hf a; intro a hf
  refine gL hf (g_len hf SL22 rfl) (by decide) ?_; clear hf a; intro a hf
  refine gL hf (g_neq hf rfl rfl) (by decide) ?_; clear hf a; intro a hf
  refine e_nil ?_
  refine c_cond hf rfl (fun hc1 => ?_) (fun hc1 => ?_)
  · try simp only [decide_eq_true_eq, decide_eq_false_iff_not] at hc1
    refine c_reg ?_
    refine gL hf (g_as hf rfl) (by decide) ?_; clear hf a; intro a hf
    refine e_nil ?_
    refine c_ret (q_thenR ?_)
    refine e_ret1 hf rfl rfl ?_
    exact ⟨by rw [show ordB b l = false by unfold ordB; rw [show (l.length == b.flaps.length) = false by simp at hc1 ⊢; omega]; rfl], hs.below⟩
  · try simp only [decide_eq_true_eq, decide_eq_false_iff_not] at hc1
    refine c_skip (q_thenN ?_)
    refine c_reg ?_
    refine callL hf hs (c_none _) rfl rfl rfl E94 (by decide) ?_; clear hs hf a; intro w a hs hf
    refine vL hf (v_alloc hs T102 rfl) (by decide) ?_; clear hs hf a; rintro _ w ⟨b2, rfl, hs⟩ a hf
    refine uL (u_stW hf hs T102 rfl rfl rfl (k := 0) rfl rfl rfl) ?_; clear hs; intro w hs; dsimp only [List.set] at hs
    refine e_nil ?_
    refine wp_seq ?_
    refine c_reg ?_
    refine gL hf (g_mv hf rfl) (by decide) ?_; clear hf a; intro a hf
    refine gL hf (g_len hf SL27 rfl) (by decide) ?_; clear hf a; intro a hf
    refine gL hf (g_mv hf rfl) (by decide) ?_; clear hf a; intro a hf
    refine e_nil ?_
    refine c_block ?_
    have hlen : l.length = b.flaps.length := by simp at hc1; omega
    have e0 : (#[.bool false, .bool false, .bool false, .bool false, .bool false, .bool false, .bool false] : Array Value) = dnA (marks (l.take 0)) := rfl
    rw [e0] at hs
    refine c_loop hf hs [4, 7, 17, 18, 19, 20, 21, 22, 23, 24, 25, 26, 27, 28, 29, 30, 31, 32] (σ := Nat) (fun k => [(17, .int .i64 (k : Nat))]) (fun k => [(b2, .cells (dnA (marks (l.take k))) 102 (0, 0)), (b1, .cells #[.int .i64 b.wide, .int .i64 b.high, .slice fA b.flaps.length fc, .slice rA b.rules.length rc] 25 (0, 0))]) (fun k => k ≤ l.length ∧ ∀ j, j < k → (flapB b.flaps.length (l.getD j default) && !decide (l.getD j default ∈ l.take j)) = true) (fun k => l.length - k) 0 ⟨by omega, fun z hz => absurd hz (by omega)⟩ (.cons rfl .nil) rfl ?_
    intro k a w hJ hf hs
    obtain ⟨hk, hp⟩ := hJ
    have hrg : ∀ x ∈ l.take k, 0 ≤ x ∧ x < 7 := fun x hx => by
              obtain ⟨j, hj, rfl⟩ := List.mem_take_iff_getElem.1 hx
              have h1 := hp j (by omega)
              rw [List.getD_eq_getElem?_getD, List.getElem?_eq_getElem (by omega : j < l.length), Option.getD_some, Bool.and_eq_true, flapB, fitsB_iff] at h1
              omega
    refine c_reg ?_
    refine gL hf (g_lss hf rfl rfl) (by decide) ?_; clear hf a; intro a hf
    refine e_nil ?_
    refine c_condS hf rfl (fun hc2 => ?_) (fun hc2 => ?_)
    · try simp only [decide_eq_true_eq, decide_eq_false_iff_not] at hc2
      refine c_skip (q_thenN ?_)
      refine c_blockS ?_
      refine c_reg ?_
      (first | (refine gL hf (g_ixE hf hs (.tail _ (.tail _ (.head _))) SL27 rfl rfl (by omega)) (by decide) ?_) | (refine gL hf (g_ixD hf hs (.tail _ (.tail _ (.head _))) SL27 rfl rfl (by omega)) (by decide) ?_)); clear hf a; intro a hf
      refine gL hf (g_ldE hf hs (.tail _ (.tail _ (.head _))) T3 rfl rfl (by omega)) (by decide) ?_; clear hf a; intro a hf
      refine gL hf (g_as hf rfl) (by decide) ?_; clear hf a; intro a hf
      refine e_nil ?_
      refine wp_seq ?_
      refine c_reg ?_
      refine gL hf (g_ldW hf hs T25 rfl (k := 1) rfl rfl) (by decide) ?_; clear hf a; intro a hf
      refine gL hf (g_mv hf rfl) (by decide) ?_; clear hf a; intro a hf
      refine callL hf hs (c_isFlap _ _ _ _ _ _ _ _ _ (by omega) _) rfl rfl rfl E55 (by decide) ?_; clear hs hf a; intro w a hs hf
      refine gL hf (g_not hf rfl) (by decide) ?_; clear hf a; intro a hf
      refine gL hf (g_mv hf rfl) (by decide) ?_; clear hf a; intro a hf
      refine ggL hf rfl rfl (gyes_f _) (fun hg => g_mv hf rfl) (by decide) ?_; clear hf a; intro a hf
      refine ggL hf rfl rfl (gyes_f _) (fun hg => g_ixA hf AR102 rfl (ev_gv rfl hg) (by have h8 := flap_rng hg; omega)) (by decide) ?_; clear hf a; intro a hf
      refine ggL hf rfl rfl (gyes_f _) (fun hg => g_ld hf hs T4 (ev_gv rfl hg) (k := 0) rfl (dn_get (marks_len _) (by have h8 := flap_rng hg; omega))) (by decide) ?_; clear hf a; intro a hf
      refine gL hf (g_or hf rfl rfl) (by decide) ?_; clear hf a; intro a hf
      refine e_nil ?_
      refine c_cond hf rfl (fun hc3 => ?_) (fun hc3 => ?_)
      · skip
        have hno : (flapB b.flaps.length (l.getD k default) && !decide (l.getD k default ∈ l.take k)) = false := by
              cases hfl : flapB b.flaps.length (l.getD k default) with
              | false => rfl
              | true =>
                have h1 := fitsB_iff.1 hfl
                rw [hfl, marks_get (fun x hx => (hrg x hx).1) (by omega), Int.toNat_of_nonneg h1.1] at hc3
                simpa using hc3
        refine c_reg ?_
        refine gL hf (g_as hf rfl) (by decide) ?_; clear hf a; intro a hf
        refine e_nil ?_
        refine c_ret (q_thenR (q_blkR (q_thenR (q_thenR (q_blkR (q_thenR ?_))))))
        refine e_ret1 hf rfl rfl ?_
        exact ⟨by rw [ord_no (k := k) (by omega) hno], hs.below⟩
      · skip
        have hfl : flapB b.flaps.length (l.getD k default) = true := by cases h9 : flapB b.flaps.length (l.getD k default) <;> simp_all
        have h1 := fitsB_iff.1 hfl
        have hok : (flapB b.flaps.length (l.getD k default) && !decide (l.getD k default ∈ l.take k)) = true := by
              rw [hfl, marks_get (fun x hx => (hrg x hx).1) (by omega), Int.toNat_of_nonneg h1.1] at hc3
              rw [hfl]; simpa using hc3
        refine c_skip (q_thenN ?_)
        refine c_reg1 ?_
        refine gL hf (g_mv hf rfl) (by decide) ?_; clear hf a; intro a hf
        refine gL hf (g_ixA hf AR102 rfl rfl (by omega)) (by decide) ?_; clear hf a; intro a hf
        refine uL (u_st hf hs T4 rfl rfl rfl (k := 0) rfl (by rw [dn_size, marks_len]; omega)) ?_; clear hs; intro w hs; dsimp only [List.set] at hs
        rw [dn_set] at hs
        refine e_nil1 (q_blkN (q_thenN ?_))
        refine c_reg1 ?_
        refine gL hf (g_addI hf rfl rfl (by omega)) (by decide) ?_; clear hf a; intro a hf
        refine gL hf (g_mv hf rfl) (by decide) ?_; clear hf a; intro a hf
        refine e_nil1 (q_thenN ?_)
        rw [← marks_take (by omega)] at hs
        exact ⟨k + 1, ⟨by omega, lt_succ hp hok⟩, (by omega), hf.back (by repeat (first | (with_reducible exact Ext.base) | ((with_reducible refine Ext.cons ?_ ?_); (· rfl)) | ((with_reducible refine Ext.over ?_ ?_ ?_); (· rfl); (· rfl)))) (allKeys rfl) (.cons rfl .nil), hs.dropN 0⟩
    · try simp only [decide_eq_true_eq, decide_eq_false_iff_not] at hc2
      refine c_exit (q_thenX (q_thenX (q_blkX (q_thenN ?_))))
      refine c_draw _ 4 Mx rfl hs (fun _ h => h) ?_; intro w hs hS
      refine gA hf hS (i := 0) rfl (by kernel_rfl) (fun w hs => g_ldW hf hs T102 rfl (k := 0) rfl (by rw [dn_size, marks_len])) (by decide) ?_; clear hf a; intro a hf
      refine one (i := 1) (by kernel_rfl) ?_
      refine oCall hf hs rfl (c_none _) rfl rfl rfl E94 (by decide) (fun _ h => h.sub (.refl _)) ?_; clear hs hf hS a; intro w a hs hS hf
      refine gA hf hS (i := 2) rfl (by kernel_rfl) (fun w hs => g_neN hf NN102 (marks_len _) rfl rfl) (by decide) ?_; clear hf a; intro a hf
      refine gA hf hS (i := 3) rfl (by kernel_rfl) (fun w hs => g_as hf rfl) (by decide) ?_; clear hf a; intro a hf
      refine e_done (by kernel_rfl) ?_
      refine c_ret ?_
      refine e_ret1 hf rfl rfl ?_
      refine ⟨?_, hs.below⟩
      have hk9 : k = l.length := by omega
      subst hk9
      rw [marks_any (l := l.take l.length) (by rw [List.take_length]; intro e; rw [e] at hlen; simp at hlen; omega) hrg, ord_yes hlen hp]

end Go.Proofs.YtpjhffockmnjbaaDoor
set_option linter.unusedVariables false
namespace Go.Proofs.YtpjhffockmnjbaaDoor
open Go.RowKit
theorem E130 : Enters Tryd.prog 130 := fun _ _ => by kernel_rfl
theorem E131 : Enters Tryd.prog 131 := fun _ _ => by kernel_rfl
theorem E132 : Enters Tryd.prog 132 := fun _ _ => by kernel_rfl
theorem E133 : Enters Tryd.prog 133 := fun _ _ => by kernel_rfl
theorem E110' : Enters Tryd.prog 110 := fun _ _ => by kernel_rfl
theorem E111' : Enters Tryd.prog 111 := fun _ _ => by kernel_rfl
theorem c_side (b : Sheet) (fA : Option Addr) (fc : Nat) (rA : Option Addr) (rc : Nat) (mp : Option Nat) (x : Flap) (r : Int) (h1 : 0 ≤ b.wide ∧ b.wide ≤ 99) (h2 : 0 ≤ b.high ∧ b.high ≤ 99) (h3 : 0 ≤ r ∧ r ≤ 99) (hx : 0 ≤ x.side ∧ x.side < 4) (w : World) :
    Calls Tryd.prog (130 + x.side.toNat) #[.agg #[.int .i64 b.wide, .int .i64 b.high, .slice fA b.flaps.length fc, .slice rA b.rules.length rc, .map mp], .agg #[.int .i64 x.side, .int .i64 x.rl, .int .i64 x.rh, .int .i64 x.al, .int .i64 x.ah], .int .i64 r] w (Ret w (.agg (encA b x r).toArray)) := by
  have : x.side = 0 ∨ x.side = 1 ∨ x.side = 2 ∨ x.side = 3 := by omega
  rcases this with h | h | h | h
  · have := c_left b.wide b.high fA b.flaps.length fc rA b.rules.length rc mp x r h1 h2 h3 w
    rw [show 130 + x.side.toNat = 130 by omega]
    rwa [show (encA b x r).toArray = #[.int .i64 0, .int .i64 (r - 1), .int .i64 x.al, .int .i64 x.ah] by simp [encA, colLo, colHi, rowLo, rowHi, h]]
  · have := c_right b.wide b.high fA b.flaps.length fc rA b.rules.length rc mp x r h1 h2 h3 w
    rw [show 130 + x.side.toNat = 131 by omega]
    rwa [show (encA b x r).toArray = #[.int .i64 (b.wide - r), .int .i64 (b.wide - 1), .int .i64 x.al, .int .i64 x.ah] by simp [encA, colLo, colHi, rowLo, rowHi, h]]
  · have := c_top b.wide b.high fA b.flaps.length fc rA b.rules.length rc mp x r h1 h2 h3 w
    rw [show 130 + x.side.toNat = 132 by omega]
    rwa [show (encA b x r).toArray = #[.int .i64 x.al, .int .i64 x.ah, .int .i64 0, .int .i64 (r - 1)] by simp [encA, colLo, colHi, rowLo, rowHi, h]]
  · have := c_bottom b.wide b.high fA b.flaps.length fc rA b.rules.length rc mp x r h1 h2 h3 w
    rw [show 130 + x.side.toNat = 133 by omega]
    rwa [show (encA b x r).toArray = #[.int .i64 x.al, .int .i64 x.ah, .int .i64 (b.high - r), .int .i64 (b.high - 1)] by simp [encA, colLo, colHi, rowLo, rowHi, h]]
theorem e_side {x : Flap} (hx : 0 ≤ x.side ∧ x.side < 4) : Enters Tryd.prog (130 + x.side.toNat) := by
  have : x.side = 0 ∨ x.side = 1 ∨ x.side = 2 ∨ x.side = 3 := by omega
  rcases this with h | h | h | h
  · rw [show 130 + x.side.toNat = 130 by omega]; exact E130
  · rw [show 130 + x.side.toNat = 131 by omega]; exact E131
  · rw [show 130 + x.side.toNat = 132 by omega]; exact E132
  · rw [show 130 + x.side.toNat = 133 by omega]; exact E133
/-- The function that says how far a flap is taken to reach. -/
def byF (m : Bool) : Nat := if m then 111 else 110
theorem c_by (m : Bool) (x : Flap) (w : World) : Calls Tryd.prog (byF m) #[.agg #[.int .i64 x.rl, .int .i64 x.rh]] w (Ret w (.int .i64 (farF x m))) := by
  cases m
  · exact c_least1 _ _ _
  · exact c_most1 _ _ _
theorem e_by (m : Bool) : Enters Tryd.prog (byF m) := by
  cases m
  · exact E110'
  · exact E111'
theorem by_get {q : Nat} (h : q < 2) : ∀ j v, [Value.func (.func (byF (decide (q = 1)))) #[] #[]][j]? = some v → (#[Value.func (.func 110) #[] #[], .func (.func 111) #[] #[]])[0 + ((q : Nat) : Int).toNat * 1 + j]? = some v := by
  intro j v hj
  cases j with
  | succ j => simp at hj
  | zero =>
    match q, h with
    | 0, _ => simpa [byF] using hj
    | 1, _ => simpa [byF] using hj
theorem flapA_mem {b : Sheet} {i : Int} (h : inN b i) : flapA b i ∈ b.flaps := getD_mem (by have := h.1; have := h.2; omega)
theorem pI_in {b : Sheet} {i j : Int} (hi : inN b i) (hj : inN b j) (k : Nat) : inN b (pI i j k) := by unfold pI; split <;> assumption
end Go.Proofs.YtpjhffockmnjbaaDoor
set_option linter.unusedVariables false
set_option linter.unusedSimpArgs false
namespace Go.Proofs.YtpjhffockmnjbaaDoor
open Go.RowKit
theorem c_touch (b : Sheet) (fA : Option Addr) (fc : Nat) (rA : Option Addr) (rc : Nat) (mo : Option Nat) (ge : TypeId) (gz : Nat × Nat) (i j : Int) (m : Bool) (hv : Valid b) (hi : inN b i) (hj : inN b j) (w0 : World) (h : ShIn b fA fc rA rc w0) (hG : BlkIs 0 sidesA ge gz w0) :
    Calls Tryd.prog 105 #[.agg #[.int .i64 b.wide, .int .i64 b.high, .slice fA b.flaps.length fc, .slice rA b.rules.length rc, .map mo], .agg #[.int .i64 i, .int .i64 j], .agg #[.func (.func (byF m)) #[] #[]]] w0 (Ret w0 (.bool (touchB b i j m))) := by
  refine c_enter (n := 57) Tryd.func105 rfl rfl (Nat.le_of_ble_eq_true rfl) ?_; intro a hf; simp only [zipR] at hf
  have hs := St.start w0 [Rd encF 5 fA b.flaps.length b.flaps, Rd encR 2 rA b.rules.length b.rules, BlkIs 0 sidesA ge gz] (stab_app h.stab hG.st1)
  have hfm := h.F.2.1; have hrm := h.R.2.1
  have hw1 := hv.wide; have hw2 := hv.high
  refine c_reg ?_
  refine vL hf (v_boxA hf hs rfl) (by decide) ?_; clear hs hf a; rintro _ w ⟨b1, rfl, hs⟩ a hf
  refine vL hf (v_boxA hf hs rfl) (by decide) ?_; clear hs hf a; rintro _ w ⟨b2, rfl, hs⟩ a hf
  refine vL hf (v_boxA hf hs rfl) (by decide) ?_; clear hs hf a; rintro _ w ⟨b3, rfl, hs⟩ a hf
  refine gL hf (g_as hf rfl) (by decide) ?_; clear hf a; intro a hf
  refine e_nil ?_
  refine c_reg ?_
  refine vL hf (v_alloc hs T121 rfl) (by decide) ?_; clear hs hf a; rintro _ w ⟨b4, rfl, hs⟩ a hf
  refine e_nil ?_
  refine wp_seq ?_
  refine c_reg ?_
  refine gL hf (g_fa (off' := 0) hf F73_0 rfl rfl) (by decide) ?_; clear hf a; intro a hf
  refine gL hf (g_ld hf hs T3 rfl (k := 2) rfl rfl) (by decide) ?_; clear hf a; intro a hf
  refine gL hf (g_fa (off' := 1) hf F73_1 rfl rfl) (by decide) ?_; clear hf a; intro a hf
  refine gL hf (g_ld hf hs T3 rfl (k := 2) rfl rfl) (by decide) ?_; clear hf a; intro a hf
  refine gL hf (g_bld hf [[.int .i64 0], [.int .i64 0]] (.cons rfl (.cons rfl .nil)) (fun _ => by kernel_rfl)) (by decide) ?_; clear hf a; intro a hf
  refine gL hf (g_mv hf rfl) (by decide) ?_; clear hf a; intro a hf
  refine e_nil ?_
  refine c_block ?_
  have e0 : (#[.int .i64 0, .int .i64 0, .int .i64 0, .int .i64 0, .int .i64 0, .int .i64 0, .int .i64 0, .int .i64 0] : Array Value) = arC b i j m 0 := rfl
  rw [e0] at hs
  refine c_loop hf hs (List.range' 8 3 ++ List.range' 16 25) (σ := Nat) (fun k => [(16, .int .i64 (k : Nat))]) (fun k => [(b4, .cells (arC b i j m k) 121 (0, 0)), (b3, .cells #[.func (.func (byF m)) #[] #[]] 112 (0, 0)), (b2, .cells #[.int .i64 i, .int .i64 j] 73 (0, 0)), (b1, .cells #[.int .i64 b.wide, .int .i64 b.high, .slice fA b.flaps.length fc, .slice rA b.rules.length rc, .map mo] 69 (0, 0))]) (fun k => k ≤ 2) (fun k => 2 - k) 0 (by omega) (.cons rfl .nil) rfl ?_
  intro k a w hJ hf hs
  have hp := pI_in hi hj k; have hpm := flapA_mem hp; have hfl := hv.flap _ hpm; have hfar := hv.far hpm m; have hp1 := hp.1; have hp2 := hp.2
  simp only [flapA] at hfl hfar
  refine c_reg ?_
  refine gL hf (g_lss hf rfl rfl) (by decide) ?_; clear hf a; intro a hf
  refine e_nil ?_
  refine c_condS hf rfl (fun hc1 => ?_) (fun hc1 => ?_)
  · try simp only [decide_eq_true_eq, decide_eq_false_iff_not] at hc1
    refine c_skip (q_thenN ?_)
    refine c_blockS ?_
    refine c_reg ?_
    refine gL hf (g_mv hf rfl) (by decide) ?_; clear hf a; intro a hf
    refine gL hf (g_idx hf AR26 T3.agg rfl rfl (by omega) (idx2 (by omega))) (by decide) ?_; clear hf a; intro a hf
    refine gL hf (g_as hf rfl) (by decide) ?_; clear hf a; intro a hf
    refine gL hf (g_as hf rfl) (by decide) ?_; clear hf a; intro a hf
    refine e_nil ?_
    refine c_reg ?_
    refine gL hf (g_fa (off' := 0) hf F69_0 rfl rfl) (by decide) ?_; clear hf a; intro a hf
    refine gL hf (g_fa (off' := 2) hf F25_2 rfl rfl) (by decide) ?_; clear hf a; intro a hf
    refine gL hf (g_ld hf hs T22 rfl (k := 3) rfl rfl) (by decide) ?_; clear hf a; intro a hf
    refine gL hf (g_mv hf rfl) (by decide) ?_; clear hf a; intro a hf
    (first | (refine gL hf (g_ixE hf hs (.head _) SL22 rfl rfl (by omega)) (by decide) ?_) | (refine gL hf (g_ixD hf hs (.head _) SL22 rfl rfl (by omega)) (by decide) ?_)); clear hf a; intro a hf
    refine gL hf (g_ldEW hf hs (.head _) T49 rfl rfl (by omega)) (by decide) ?_; clear hf a; intro a hf
    refine vL hf (v_alloc hs T49 rfl) (by decide) ?_; clear hs hf a; rintro _ w ⟨b5, rfl, hs⟩ a hf
    refine uL (u_stW hf hs T49 rfl rfl rfl (k := 0) rfl rfl rfl) ?_; clear hs; intro w hs; dsimp only [List.set] at hs
    refine e_nil ?_
    refine c_draw1 _ 15 Mx rfl hs (fun _ h => h.sub (.cons_cons _ (.cons _ (.refl _)))) ?_; intro w hs hS
    refine gA hf hS (i := 0) rfl (by kernel_rfl) (fun w hs => g_mv hf rfl) (by decide) ?_; clear hf a; intro a hf
    refine gA hf hS (i := 1) rfl (by kernel_rfl) (fun w hs => g_fa (off' := 0) hf F49_0 rfl rfl) (by decide) ?_; clear hf a; intro a hf
    refine gA hf hS (i := 2) rfl (by kernel_rfl) (fun w hs => g_ld hf hs T3 rfl (k := 0) rfl rfl) (by decide) ?_; clear hf a; intro a hf
    refine gA hf hS (i := 3) rfl (by kernel_rfl) (fun w hs => g_ixA hf AR123 rfl rfl (by omega)) (by decide) ?_; clear hf a; intro a hf
    refine gA hf hS (i := 4) rfl (by kernel_rfl) (fun w hs => g_ldB hf hs (.tail _ (.tail _ (.head _))) T122 rfl (sides_get (by omega))) (by decide) ?_; clear hf a; intro a hf
    refine gA hf hS (i := 5) rfl (by kernel_rfl) (fun w hs => g_ldW hf hs T69 rfl (k := 3) rfl rfl) (by decide) ?_; clear hf a; intro a hf
    refine gA hf hS (i := 6) rfl (by kernel_rfl) (fun w hs => g_ldW hf hs T49 rfl (k := 0) rfl rfl) (by decide) ?_; clear hf a; intro a hf
    refine gA hf hS (i := 7) rfl (by kernel_rfl) (fun w hs => g_fa (off' := 0) hf F112_0 rfl rfl) (by decide) ?_; clear hf a; intro a hf
    refine gA hf hS (i := 8) rfl (by kernel_rfl) (fun w hs => g_ld hf hs T110 rfl (k := 1) rfl rfl) (by decide) ?_; clear hf a; intro a hf
    refine gA hf hS (i := 9) rfl (by kernel_rfl) (fun w hs => g_fa (off' := 1) hf F49_1 rfl rfl) (by decide) ?_; clear hf a; intro a hf
    refine gA hf hS (i := 10) rfl (by kernel_rfl) (fun w hs => g_ldP hf hs T47 rfl (k := 0) rfl rfl) (by decide) ?_; clear hf a; intro a hf
    refine one (i := 11) (by kernel_rfl) ?_
    refine oCall hf hs rfl (c_by m (b.flaps.getD (pI i j k).toNat default) _) rfl rfl rfl (e_by m) (by decide) (fun _ h => h.sub (.cons_cons _ (.cons _ (.refl _)))) ?_; clear hs hf hS a; intro w a hs hS hf
    refine one (i := 12) (by kernel_rfl) ?_
    refine oCall hf hs rfl (c_side b _ _ _ _ _ (b.flaps.getD (pI i j k).toNat default) _ (by omega) (by omega) (by omega) (by omega) _) rfl rfl rfl (e_side (by omega)) (by decide) (fun _ h => h.sub (.cons_cons _ (.cons _ (.refl _)))) ?_; clear hs hf hS a; intro w a hs hS hf
    refine gA hf hS (i := 13) rfl (by kernel_rfl) (fun w hs => g_ixA hf AR121 rfl rfl (by omega)) (by decide) ?_; clear hf a; intro a hf
    refine one (i := 14) (by kernel_rfl) ?_
    refine oU rfl (u_stA hf hs T120 rfl rfl rfl (k := 1) rfl rfl (by rw [arC_size]; show 0 + ((k : Nat) : Int).toNat * 4 + 4 ≤ 8; omega)) (fun _ h => h.sub (.cons_cons _ (.cons _ (.refl _)))) ?_; clear hs hS; intro w hs hS; dsimp only [List.set] at hs
    rw [arC_splat (by omega)] at hs
    refine e_done1 (by kernel_rfl) ?_
    refine q_blkN (q_thenN ?_)
    refine c_reg1 ?_
    refine gL hf (g_addI hf rfl rfl (by omega)) (by decide) ?_; clear hf a; intro a hf
    refine gL hf (g_mv hf rfl) (by decide) ?_; clear hf a; intro a hf
    refine e_nil1 (q_thenN ?_)
    exact ⟨k + 1, (by omega), (by omega), hf.back (by repeat (first | (with_reducible exact Ext.base) | ((with_reducible refine Ext.cons ?_ ?_); (· rfl)) | ((with_reducible refine Ext.over ?_ ?_ ?_); (· rfl); (· rfl)))) (allKeys rfl) (.cons rfl .nil), hs.dropN 1⟩
  · try simp only [decide_eq_true_eq, decide_eq_false_iff_not] at hc1
    obtain rfl : k = 2 := by omega
    refine c_exit (q_thenX (q_thenX (q_blkX (q_thenN ?_))))
    refine c_reg ?_
    refine gL hf (g_ixA hf AR121 rfl rfl (by omega)) (by decide) ?_; clear hf a; intro a hf
    refine gL hf (g_fa (off' := 0) hf F120_0 rfl rfl) (by decide) ?_; clear hf a; intro a hf
    refine gL hf (g_ldP hf hs T47 rfl (k := 0) rfl rfl) (by decide) ?_; clear hf a; intro a hf
    refine gL hf (g_ixA hf AR121 rfl rfl (by omega)) (by decide) ?_; clear hf a; intro a hf
    refine gL hf (g_fa (off' := 4) hf F120_0 rfl rfl) (by decide) ?_; clear hf a; intro a hf
    refine gL hf (g_ldP hf hs T47 rfl (k := 0) rfl rfl) (by decide) ?_; clear hf a; intro a hf
    refine callL hf hs (c_overlaps _ _ _ _ _) rfl rfl rfl E112 (by decide) ?_; clear hs hf a; intro w a hs hf
    refine gL hf (g_mv hf rfl) (by decide) ?_; clear hf a; intro a hf
    refine ggL hf rfl rfl (gyes_t _) (fun hg => g_ixA hf AR121 rfl rfl (by omega)) (by decide) ?_; clear hf a; intro a hf
    refine ggL hf rfl rfl (gyes_t _) (fun hg => g_fa (off' := 2) hf F120_1 (ev_gv rfl hg) rfl) (by decide) ?_; clear hf a; intro a hf
    refine ggL hf rfl rfl (gyes_t _) (fun hg => g_ldP hf hs T47 (ev_gv rfl hg) (k := 0) rfl rfl) (by decide) ?_; clear hf a; intro a hf
    refine ggL hf rfl rfl (gyes_t _) (fun hg => g_ixA hf AR121 rfl rfl (by omega)) (by decide) ?_; clear hf a; intro a hf
    refine ggL hf rfl rfl (gyes_t _) (fun hg => g_fa (off' := 6) hf F120_1 (ev_gv rfl hg) rfl) (by decide) ?_; clear hf a; intro a hf
    refine ggL hf rfl rfl (gyes_t _) (fun hg => g_ldP hf hs T47 (ev_gv rfl hg) (k := 0) rfl rfl) (by decide) ?_; clear hf a; intro a hf
    refine callG hf hs rfl rfl (gyes_t _) (fun hg => ⟨_, _, _, _, c_overlaps _ _ _ _ _, rfl, evs_cons (ev_gv rfl hg) (evs_cons (ev_gv rfl hg) evs_nil), rfl⟩) E112 (by decide) ?_; clear hs hf a; intro w a hs hf
    refine gL hf (g_and hf rfl rfl) (by decide) ?_; clear hf a; intro a hf
    refine gL hf (g_as hf rfl) (by decide) ?_; clear hf a; intro a hf
    refine e_nil ?_
    refine c_ret ?_
    refine e_ret1 hf rfl rfl ?_
    exact ⟨rfl, hs.below⟩

end Go.Proofs.YtpjhffockmnjbaaDoor
set_option linter.unusedVariables false
set_option linter.unusedSimpArgs false
namespace Go.Proofs.YtpjhffockmnjbaaDoor
open Go.RowKit
theorem c_opened (b : Sheet) (fA : Option Addr) (fc : Nat) (rA : Option Addr) (rc : Nat) (ge : TypeId) (gz : Nat × Nat) (hv : Valid b) (w0 : World) (h : ShIn b fA fc rA rc w0) (hG : BlkIs 0 sidesA ge gz w0) :
    Calls Tryd.prog 75 #[.agg #[.int .i64 b.wide, .int .i64 b.high, .slice fA b.flaps.length fc, .slice rA b.rules.length rc]] w0 (RetX w0 (fun v w0' => ∃ mb mp, v = .agg #[.int .i64 b.wide, .int .i64 b.high, .slice fA b.flaps.length fc, .slice rA b.rules.length rc, .map (some mb)] ∧ meetsOK b mp ∧ w0.heap.size ≤ mb ∧ MapIs mb mp w0')) := by
  refine c_enter (n := 55) Tryd.func75 rfl rfl (Nat.le_of_ble_eq_true rfl) ?_; intro a hf; simp only [zipR] at hf
  have hs := St.start w0 [Rd encF 5 fA b.flaps.length b.flaps, Rd encR 2 rA b.rules.length b.rules, BlkIs 0 sidesA ge gz] (stab_app h.stab hG.st1)
  have hfm := h.F.2.1; have hrm := h.R.2.1
  refine c_reg ?_
  refine vL hf (v_boxA hf hs rfl) (by decide) ?_; clear hs hf a; rintro _ w ⟨b1, rfl, hs⟩ a hf
  refine vL hf (v_alloc hs T69 rfl) (by decide) ?_; clear hs hf a; rintro _ w ⟨b2, rfl, hs⟩ a hf
  refine e_nil ?_
  refine c_reg ?_
  refine gL hf (g_ldW hf hs T25 rfl (k := 1) rfl rfl) (by decide) ?_; clear hf a; intro a hf
  refine vL hf (v_mapM hs) (by decide) ?_; clear hs hf a; rintro _ w ⟨b3, rfl, hs⟩ a hf
  refine gL hf (g_bld hf [[.int .i64 0, .int .i64 0, .slice none 0 0, .slice none 0 0], [.map none]] (.cons rfl (.cons rfl .nil)) (fun _ => by kernel_rfl)) (by decide) ?_; clear hf a; intro a hf
  refine vL hf (v_alloc hs T69 rfl) (by decide) ?_; clear hs hf a; rintro _ w ⟨b4, rfl, hs⟩ a hf
  refine uL (u_stW hf hs T69 rfl rfl rfl (k := 0) rfl rfl rfl) ?_; clear hs; intro w hs; dsimp only [List.set] at hs
  refine e_nil ?_
  refine wp_seq ?_
  refine c_reg ?_
  refine gL hf (g_fa (off' := 2) hf F25_2 rfl rfl) (by decide) ?_; clear hf a; intro a hf
  refine gL hf (g_ld hf hs T22 rfl (k := 3) rfl rfl) (by decide) ?_; clear hf a; intro a hf
  refine gL hf (g_len hf SL22 rfl) (by decide) ?_; clear hf a; intro a hf
  refine gL hf (g_mv hf rfl) (by decide) ?_; clear hf a; intro a hf
  refine e_nil ?_
  refine c_block ?_
  refine c_loop hf hs (List.range' 4 3 ++ List.range' 8 1 ++ List.range' 15 39) (σ := (Nat × MP)) (fun s => [(15, .int .i64 (s.1 : Nat))]) (fun s => [(b4, .cells #[.int .i64 b.wide, .int .i64 b.high, .slice fA b.flaps.length fc, .slice rA b.rules.length rc, .map (some b3)] 69 (0, 0)), (b3, mapO s.2), (b2, .cells #[.int .i64 0, .int .i64 0, .slice none 0 0, .slice none 0 0, .map none] 69 (0, 0)), (b1, .cells #[.int .i64 b.wide, .int .i64 b.high, .slice fA b.flaps.length fc, .slice rA b.rules.length rc] 25 (0, 0))]) (fun s => s.1 ≤ b.flaps.length ∧ cntI b s.1 0 0 s.2) (fun s => b.flaps.length - s.1) (0, []) ⟨Nat.zero_le _, cnt_start b⟩ (.cons rfl .nil) rfl ?_
  intro ⟨i, mp1⟩ a w hJ hf hs
  dsimp only at hJ hf hs
  obtain ⟨hi, hc1n⟩ := hJ
  refine c_reg ?_
  refine gL hf (g_lss hf rfl rfl) (by decide) ?_; clear hf a; intro a hf
  refine e_nil ?_
  refine c_condS hf rfl (fun hc1 => ?_) (fun hc1 => ?_)
  · try simp only [decide_eq_true_eq, decide_eq_false_iff_not] at hc1
    refine c_skip (q_thenN ?_)
    refine c_blockS ?_
    refine c_reg ?_
    refine gL hf (g_mv hf rfl) (by decide) ?_; clear hf a; intro a hf
    refine gL hf (g_as hf rfl) (by decide) ?_; clear hf a; intro a hf
    refine e_nil ?_
    refine c_reg ?_
    refine gL hf (g_fa (off' := 2) hf F25_2 rfl rfl) (by decide) ?_; clear hf a; intro a hf
    refine gL hf (g_ld hf hs T22 rfl (k := 3) rfl rfl) (by decide) ?_; clear hf a; intro a hf
    refine gL hf (g_len hf SL22 rfl) (by decide) ?_; clear hf a; intro a hf
    refine gL hf (g_mv hf rfl) (by decide) ?_; clear hf a; intro a hf
    refine e_nil ?_
    refine c_block ?_
    refine c_loop hf hs (List.range' 5 2 ++ List.range' 8 1 ++ List.range' 21 32) (σ := (Nat × MP)) (fun s => [(21, .int .i64 (s.1 : Nat))]) (fun s => [(b4, .cells #[.int .i64 b.wide, .int .i64 b.high, .slice fA b.flaps.length fc, .slice rA b.rules.length rc, .map (some b3)] 69 (0, 0)), (b3, mapO s.2), (b2, .cells #[.int .i64 0, .int .i64 0, .slice none 0 0, .slice none 0 0, .map none] 69 (0, 0)), (b1, .cells #[.int .i64 b.wide, .int .i64 b.high, .slice fA b.flaps.length fc, .slice rA b.rules.length rc] 25 (0, 0))]) (fun s => s.1 ≤ b.flaps.length ∧ cntI b i s.1 0 s.2) (fun s => b.flaps.length - s.1) (0, mp1) ⟨Nat.zero_le _, hc1n⟩ (.cons rfl .nil) rfl ?_
    intro ⟨j, mp2⟩ a w hJ hf hs
    dsimp only at hJ hf hs
    obtain ⟨hj, hc2n⟩ := hJ
    refine c_reg ?_
    refine gL hf (g_lss hf rfl rfl) (by decide) ?_; clear hf a; intro a hf
    refine e_nil ?_
    refine c_condS hf rfl (fun hc2 => ?_) (fun hc2 => ?_)
    · try simp only [decide_eq_true_eq, decide_eq_false_iff_not] at hc2
      have hin : inN b ((i : Nat) : Int) := ⟨by omega, by omega⟩; have hjn : inN b ((j : Nat) : Int) := ⟨by omega, by omega⟩
      refine c_skip (q_thenN ?_)
      refine c_blockS ?_
      refine c_reg ?_
      refine gL hf (g_mv hf rfl) (by decide) ?_; clear hf a; intro a hf
      refine gL hf (g_as hf rfl) (by decide) ?_; clear hf a; intro a hf
      refine e_nil ?_
      refine c_reg ?_
      refine gL hf (g_mv hf rfl) (by decide) ?_; clear hf a; intro a hf
      refine gL hf (g_mv hf rfl) (by decide) ?_; clear hf a; intro a hf
      refine gL hf (g_bld hf [[.int .i64 0], [.int .i64 0]] (.cons rfl (.cons rfl .nil)) (fun _ => by kernel_rfl)) (by decide) ?_; clear hf a; intro a hf
      refine vL hf (v_alloc hs T73 rfl) (by decide) ?_; clear hs hf a; rintro _ w ⟨b5, rfl, hs⟩ a hf
      refine uL (u_stW hf hs T73 rfl rfl rfl (k := 0) rfl rfl rfl) ?_; clear hs; intro w hs; dsimp only [List.set] at hs
      refine e_nil ?_
      refine c_reg ?_
      refine callL hf hs (c_least _) rfl rfl rfl E103 (by decide) ?_; clear hs hf a; intro w a hs hf
      refine callL hf hs (c_most _) rfl rfl rfl E104 (by decide) ?_; clear hs hf a; intro w a hs hf
      refine vL hf (v_lits (len := 2) hf hs SL114 T112 (.cons rfl (.cons rfl .nil)) rfl rfl rfl rfl (by decide) rfl) (by decide) ?_; clear hs hf a; rintro _ w ⟨b6, rfl, hs⟩ a hf
      refine gL hf (g_len hf SL114 rfl) (by decide) ?_; clear hf a; intro a hf
      refine gL hf (g_mv hf rfl) (by decide) ?_; clear hf a; intro a hf
      refine e_nil ?_
      refine c_block ?_
      refine c_loop hf hs [8, 31, 32, 33, 34, 35, 36, 37, 38, 39, 40, 41, 42, 43, 44, 45, 46, 47, 48, 49, 50, 51] (σ := (Nat × MP)) (fun s => [(31, .int .i64 (s.1 : Nat))]) (fun s => (b6, .cells #[.func (.func 110) #[] #[], .func (.func 111) #[] #[]] 112 (0, 0)) :: (b5, .cells #[.int .i64 (i : Nat), .int .i64 (j : Nat)] 73 (0, 0)) :: [(b4, .cells #[.int .i64 b.wide, .int .i64 b.high, .slice fA b.flaps.length fc, .slice rA b.rules.length rc, .map (some b3)] 69 (0, 0)), (b3, mapO s.2), (b2, .cells #[.int .i64 0, .int .i64 0, .slice none 0 0, .slice none 0 0, .map none] 69 (0, 0)), (b1, .cells #[.int .i64 b.wide, .int .i64 b.high, .slice fA b.flaps.length fc, .slice rA b.rules.length rc] 25 (0, 0))]) (fun s => s.1 ≤ 2 ∧ cntI b i j s.1 s.2) (fun s => 2 - s.1) (0, mp2) ⟨Nat.zero_le _, hc2n⟩ (.cons rfl .nil) rfl ?_
      intro ⟨q, mp3⟩ a w hJ hf hs
      dsimp only at hJ hf hs
      obtain ⟨hq, hc3n⟩ := hJ
      refine c_reg ?_
      refine gL hf (g_lss hf rfl rfl) (by decide) ?_; clear hf a; intro a hf
      refine e_nil ?_
      refine c_condS hf rfl (fun hc3 => ?_) (fun hc3 => ?_)
      · try simp only [decide_eq_true_eq, decide_eq_false_iff_not] at hc3
        refine c_skip (q_thenN ?_)
        refine c_blockS ?_
        refine c_reg ?_
        refine gL hf (g_ixO hf SL114 rfl rfl (by omega)) (by decide) ?_; clear hf a; intro a hf
        refine gL hf (g_ldA hf hs T112 rfl (k := 0) rfl (vs := [.func (.func (byF (decide (q = 1)))) #[] #[]]) rfl (by_get (by omega))) (by decide) ?_; clear hf a; intro a hf
        refine vL hf (v_alloc hs T112 rfl) (by decide) ?_; clear hs hf a; rintro _ w ⟨b7, rfl, hs⟩ a hf
        refine uL (u_stW hf hs T112 rfl rfl rfl (k := 0) rfl rfl rfl) ?_; clear hs; intro w hs; dsimp only [List.set] at hs
        refine e_nil ?_
        refine c_reg ?_
        refine gL hf (g_mv hf rfl) (by decide) ?_; clear hf a; intro a hf
        refine gL hf (g_mv hf rfl) (by decide) ?_; clear hf a; intro a hf
        refine gL hf (g_neq hf rfl rfl) (by decide) ?_; clear hf a; intro a hf
        refine gL hf (g_mv hf rfl) (by decide) ?_; clear hf a; intro a hf
        refine ggL hf rfl rfl (gyes_t _) (fun hg => g_ldW hf hs T69 rfl (k := 3) rfl rfl) (by decide) ?_; clear hf a; intro a hf
        refine ggL hf rfl rfl (gyes_t _) (fun hg => g_ldW hf hs T73 rfl (k := 2) rfl rfl) (by decide) ?_; clear hf a; intro a hf
        refine ggL hf rfl rfl (gyes_t _) (fun hg => g_ldW hf hs T112 rfl (k := 0) rfl rfl) (by decide) ?_; clear hf a; intro a hf
        refine callG hf hs rfl rfl (gyes_t _) (fun hg => ⟨_, _, _, _, c_touch b _ _ _ _ (some b3) _ _ i j (decide (q = 1)) hv hin hjn _ ⟨hs.rd (.head _), hs.rd (.tail _ (.head _)), h.fc_, h.rc_⟩ (hs.rd (.tail _ (.tail _ (.head _)))), rfl, evs_cons (ev_gv rfl hg) (evs_cons (ev_gv rfl hg) (evs_cons (ev_gv rfl hg) evs_nil)), rfl⟩) E105 (by decide) ?_; clear hs hf a; intro w a hs hf
        refine gL hf (g_and hf rfl rfl) (by decide) ?_; clear hf a; intro a hf
        refine e_nil ?_
        refine c_cond hf rfl (fun hc4 => ?_) (fun hc4 => ?_)
        · skip
          have ht : ((i : Nat) : Int) ≠ ((j : Nat) : Int) ∧ touchB b i j (decide (q = 1)) = true := by simpa only [Bool.and_eq_true, bne_iff_ne] using hc4
          refine c_draw1 _ 8 Mx rfl hs (fun _ h => h.sub (.cons_cons _ (.cons_cons _ (.cons_cons _ (.cons_cons _ (.cons _ (.refl _))))))) ?_; intro w hs hS
          refine gA hf hS (i := 0) rfl (by kernel_rfl) (fun w hs => g_fa (off' := 4) hf F69_1 rfl rfl) (by decide) ?_; clear hf a; intro a hf
          refine gA hf hS (i := 1) rfl (by kernel_rfl) (fun w hs => g_ld hf hs T67 rfl (k := 3) rfl rfl) (by decide) ?_; clear hf a; intro a hf
          refine gA hf hS (i := 2) rfl (by kernel_rfl) (fun w hs => g_ldW hf hs T73 rfl (k := 2) rfl rfl) (by decide) ?_; clear hf a; intro a hf
          refine two (i := 3) (j := 5) (by kernel_rfl) ?_ ?_
          · skip
            refine oV hf rfl (goesV_of_gets (g_lookO hf hs (k := 4) rfl MT67 rfl rfl)) (by decide) (fun _ _ h => by rw [h.2]; exact hS) ?_; rintro _ w ⟨rfl, rfl⟩ hS a hf
            refine gA hf hS (i := 4) rfl (by kernel_rfl) (fun w hs => g_addI hf rfl rfl (by have h8 := cnt_le hc3n i j; first | omega | (rw [mget_put]; omega))) (by decide) ?_; clear hf a; intro a hf
            refine one (i := 5) (by kernel_rfl) ?_
            refine oV hf rfl (v_entry hf hs (k := 4) rfl MT67 rfl rfl) (by decide) (fun _ _ ⟨_, h⟩ => h.sub (.cons_cons _ (.cons_cons _ (.cons_cons _ (.cons_cons _ (.cons _ (.refl _))))))) ?_; clear hs hf hS a; rintro _ w ⟨rfl, hs⟩ hS a hf; dsimp only [List.set] at hs
            refine gA hf hS (i := 6) rfl (by kernel_rfl) (fun w hs => g_ext hf rfl rfl) (by decide) ?_; clear hf a; intro a hf
            refine one (i := 7) (by kernel_rfl) ?_
            refine oU rfl (u_entry hf hs (k := 4) rfl (midx_lt _ _ _) rfl rfl rfl) (fun _ h => h.sub (.cons_cons _ (.cons_cons _ (.cons_cons _ (.cons_cons _ (.cons _ (.refl _))))))) ?_; clear hs hS; intro w hs hS; dsimp only [List.set] at hs
            refine e_done1 (by kernel_rfl) ?_
            refine q_blkN (q_thenN ?_)
            refine c_reg1 ?_
            refine gL hf (g_addI hf rfl rfl (by omega)) (by decide) ?_; clear hf a; intro a hf
            refine gL hf (g_mv hf rfl) (by decide) ?_; clear hf a; intro a hf
            refine e_nil1 (q_thenN ?_)
            first | exact ⟨(q + 1, mset (mput mp3 i j) (midx mp3 i j) (mget mp3 i j + 1)), ⟨by dsimp only; omega, cnt_hit hin hjn (by omega) hc3n ht rfl⟩, (by dsimp only; omega), hf.back (by repeat (first | (with_reducible exact Ext.base) | ((with_reducible refine Ext.cons ?_ ?_); (· rfl)) | ((with_reducible refine Ext.over ?_ ?_ ?_); (· rfl); (· rfl)))) (allKeys rfl) (.cons rfl .nil), hs.dropN 1⟩ | exact ⟨(q + 1, mset (mput mp3 i j) (midx mp3 i j) (mget (mput mp3 i j) i j + 1)), ⟨by dsimp only; omega, cnt_hit hin hjn (by omega) hc3n ht (by rw [mget_put])⟩, (by dsimp only; omega), hf.back (by repeat (first | (with_reducible exact Ext.base) | ((with_reducible refine Ext.cons ?_ ?_); (· rfl)) | ((with_reducible refine Ext.over ?_ ?_ ?_); (· rfl); (· rfl)))) (allKeys rfl) (.cons rfl .nil), hs.dropN 1⟩ | exact ⟨(q + 1, mp3), ⟨by dsimp only; omega, cnt_miss (by omega) hc3n ht⟩, (by dsimp only; omega), hf.back (by repeat (first | (with_reducible exact Ext.base) | ((with_reducible refine Ext.cons ?_ ?_); (· rfl)) | ((with_reducible refine Ext.over ?_ ?_ ?_); (· rfl); (· rfl)))) (allKeys rfl) (.cons rfl .nil), hs.dropN 1⟩
          · skip
            refine oV hf rfl (v_entry hf hs (k := 4) rfl MT67 rfl rfl) (by decide) (fun _ _ ⟨_, h⟩ => h.sub (.cons_cons _ (.cons_cons _ (.cons_cons _ (.cons_cons _ (.cons _ (.refl _))))))) ?_; clear hs hf hS a; rintro _ w ⟨rfl, hs⟩ hS a hf; dsimp only [List.set] at hs
            refine gA hf hS (i := 6) rfl (by kernel_rfl) (fun w hs => g_ext hf rfl rfl) (by decide) ?_; clear hf a; intro a hf
            refine one (i := 3) (by kernel_rfl) ?_
            refine oV hf rfl (goesV_of_gets (g_lookO hf hs (k := 4) rfl MT67 rfl rfl)) (by decide) (fun _ _ h => by rw [h.2]; exact hS) ?_; rintro _ w ⟨rfl, rfl⟩ hS a hf
            refine gA hf hS (i := 4) rfl (by kernel_rfl) (fun w hs => g_addI hf rfl rfl (by have h8 := cnt_le hc3n i j; first | omega | (rw [mget_put]; omega))) (by decide) ?_; clear hf a; intro a hf
            refine one (i := 7) (by kernel_rfl) ?_
            refine oU rfl (u_entry hf hs (k := 4) rfl (midx_lt _ _ _) rfl rfl rfl) (fun _ h => h.sub (.cons_cons _ (.cons_cons _ (.cons_cons _ (.cons_cons _ (.cons _ (.refl _))))))) ?_; clear hs hS; intro w hs hS; dsimp only [List.set] at hs
            refine e_done1 (by kernel_rfl) ?_
            refine q_blkN (q_thenN ?_)
            refine c_reg1 ?_
            refine gL hf (g_addI hf rfl rfl (by omega)) (by decide) ?_; clear hf a; intro a hf
            refine gL hf (g_mv hf rfl) (by decide) ?_; clear hf a; intro a hf
            refine e_nil1 (q_thenN ?_)
            first | exact ⟨(q + 1, mset (mput mp3 i j) (midx mp3 i j) (mget mp3 i j + 1)), ⟨by dsimp only; omega, cnt_hit hin hjn (by omega) hc3n ht rfl⟩, (by dsimp only; omega), hf.back (by repeat (first | (with_reducible exact Ext.base) | ((with_reducible refine Ext.cons ?_ ?_); (· rfl)) | ((with_reducible refine Ext.over ?_ ?_ ?_); (· rfl); (· rfl)))) (allKeys rfl) (.cons rfl .nil), hs.dropN 1⟩ | exact ⟨(q + 1, mset (mput mp3 i j) (midx mp3 i j) (mget (mput mp3 i j) i j + 1)), ⟨by dsimp only; omega, cnt_hit hin hjn (by omega) hc3n ht (by rw [mget_put])⟩, (by dsimp only; omega), hf.back (by repeat (first | (with_reducible exact Ext.base) | ((with_reducible refine Ext.cons ?_ ?_); (· rfl)) | ((with_reducible refine Ext.over ?_ ?_ ?_); (· rfl); (· rfl)))) (allKeys rfl) (.cons rfl .nil), hs.dropN 1⟩ | exact ⟨(q + 1, mp3), ⟨by dsimp only; omega, cnt_miss (by omega) hc3n ht⟩, (by dsimp only; omega), hf.back (by repeat (first | (with_reducible exact Ext.base) | ((with_reducible refine Ext.cons ?_ ?_); (· rfl)) | ((with_reducible refine Ext.over ?_ ?_ ?_); (· rfl); (· rfl)))) (allKeys rfl) (.cons rfl .nil), hs.dropN 1⟩
        · skip
          have ht : ¬ (((i : Nat) : Int) ≠ ((j : Nat) : Int) ∧ touchB b i j (decide (q = 1)) = true) := by rw [← bne_iff_ne, ← Bool.and_eq_true, hc4]; simp
          refine c_skip (q_blkN (q_thenN ?_))
          refine c_reg1 ?_
          refine gL hf (g_addI hf rfl rfl (by omega)) (by decide) ?_; clear hf a; intro a hf
          refine gL hf (g_mv hf rfl) (by decide) ?_; clear hf a; intro a hf
          refine e_nil1 (q_thenN ?_)
          first | exact ⟨(q + 1, mset (mput mp3 i j) (midx mp3 i j) (mget mp3 i j + 1)), ⟨by dsimp only; omega, cnt_hit hin hjn (by omega) hc3n ht rfl⟩, (by dsimp only; omega), hf.back (by repeat (first | (with_reducible exact Ext.base) | ((with_reducible refine Ext.cons ?_ ?_); (· rfl)) | ((with_reducible refine Ext.over ?_ ?_ ?_); (· rfl); (· rfl)))) (allKeys rfl) (.cons rfl .nil), hs.dropN 1⟩ | exact ⟨(q + 1, mset (mput mp3 i j) (midx mp3 i j) (mget (mput mp3 i j) i j + 1)), ⟨by dsimp only; omega, cnt_hit hin hjn (by omega) hc3n ht (by rw [mget_put])⟩, (by dsimp only; omega), hf.back (by repeat (first | (with_reducible exact Ext.base) | ((with_reducible refine Ext.cons ?_ ?_); (· rfl)) | ((with_reducible refine Ext.over ?_ ?_ ?_); (· rfl); (· rfl)))) (allKeys rfl) (.cons rfl .nil), hs.dropN 1⟩ | exact ⟨(q + 1, mp3), ⟨by dsimp only; omega, cnt_miss (by omega) hc3n ht⟩, (by dsimp only; omega), hf.back (by repeat (first | (with_reducible exact Ext.base) | ((with_reducible refine Ext.cons ?_ ?_); (· rfl)) | ((with_reducible refine Ext.over ?_ ?_ ?_); (· rfl); (· rfl)))) (allKeys rfl) (.cons rfl .nil), hs.dropN 1⟩
      · try simp only [decide_eq_true_eq, decide_eq_false_iff_not] at hc3
        obtain rfl : q = 2 := by omega
        refine c_exit (q_thenX (q_thenX (q_blkX (q_blkN (q_thenN ?_)))))
        refine c_reg1 ?_
        refine gL hf (g_addI hf rfl rfl (by omega)) (by decide) ?_; clear hf a; intro a hf
        refine gL hf (g_mv hf rfl) (by decide) ?_; clear hf a; intro a hf
        refine e_nil1 (q_thenN ?_)
        exact ⟨(j + 1, mp3), ⟨by dsimp only; omega, cnt_next hc3n⟩, (by dsimp only; omega), hf.back (by repeat (first | (with_reducible exact Ext.base) | ((with_reducible refine Ext.cons ?_ ?_); (· rfl)) | ((with_reducible refine Ext.over ?_ ?_ ?_); (· rfl); (· rfl)))) (allKeys rfl) (.cons rfl .nil), hs.dropN 2⟩
    · try simp only [decide_eq_true_eq, decide_eq_false_iff_not] at hc2
      obtain rfl : j = b.flaps.length := by omega
      refine c_exit (q_thenX (q_thenX (q_blkX (q_blkN (q_thenN ?_)))))
      refine c_reg1 ?_
      refine gL hf (g_addI hf rfl rfl (by omega)) (by decide) ?_; clear hf a; intro a hf
      refine gL hf (g_mv hf rfl) (by decide) ?_; clear hf a; intro a hf
      refine e_nil1 (q_thenN ?_)
      exact ⟨(i + 1, mp2), ⟨by dsimp only; omega, cnt_row hc2n⟩, (by dsimp only; omega), hf.back (by repeat (first | (with_reducible exact Ext.base) | ((with_reducible refine Ext.cons ?_ ?_); (· rfl)) | ((with_reducible refine Ext.over ?_ ?_ ?_); (· rfl); (· rfl)))) (allKeys rfl) (.cons rfl .nil), hs.dropN 0⟩
  · try simp only [decide_eq_true_eq, decide_eq_false_iff_not] at hc1
    obtain rfl : i = b.flaps.length := by omega
    refine c_exit (q_thenX (q_thenX (q_blkX (q_thenN ?_))))
    refine c_reg ?_
    refine gL hf (g_ldW hf hs T69 rfl (k := 0) rfl rfl) (by decide) ?_; clear hf a; intro a hf
    refine uL (u_stW hf hs T69 rfl rfl rfl (k := 2) rfl rfl rfl) ?_; clear hs; intro w hs; dsimp only [List.set] at hs
    refine e_nil ?_
    refine c_ret ?_
    refine e_res hf hs rfl (.cellA T69 rfl (k := 2) rfl rfl .nil) rfl ?_
    have ho := hs.own b3 (mapO mp1) (.tail _ (.head _))
    exact ⟨_, rfl, hs.below, b3, mp1, rfl, cnt_done hc1n, ho.1, ho.2⟩

end Go.Proofs.YtpjhffockmnjbaaDoor
set_option linter.unusedVariables false
set_option linter.unusedSimpArgs false
namespace Go.Proofs.YtpjhffockmnjbaaDoor
open Go.RowKit
theorem c_asked (b : Sheet) (fA : Option Addr) (fc : Nat) (rA : Option Addr) (rc : Nat) (ge : TypeId) (gz : Nat × Nat) (ok : Bool) (w0 : World) (h : ShIn b fA fc rA rc w0) (hG : BlkIs 0 sidesA ge gz w0) :
    Calls Tryd.prog 54 #[.agg #[.int .i64 b.wide, .int .i64 b.high, .slice fA b.flaps.length fc, .slice rA b.rules.length rc], .bool ok] w0 (RetX w0 (askR b fA fc rA rc ok w0)) := by
  refine c_enter (n := 18) Tryd.func54 rfl rfl (Nat.le_of_ble_eq_true rfl) ?_; intro a hf; simp only [zipR] at hf
  have hs := St.start w0 [Rd encF 5 fA b.flaps.length b.flaps, Rd encR 2 rA b.rules.length b.rules, BlkIs 0 sidesA ge gz] (stab_app h.stab hG.st1)
  have hfm := h.F.2.1; have hrm := h.R.2.1
  refine c_reg ?_
  refine vL hf (v_boxA hf hs rfl) (by decide) ?_; clear hs hf a; rintro _ w ⟨b1, rfl, hs⟩ a hf
  refine vL hf (v_alloc hs T69 rfl) (by decide) ?_; clear hs hf a; rintro _ w ⟨b2, rfl, hs⟩ a hf
  refine gL hf (g_as hf rfl) (by decide) ?_; clear hf a; intro a hf
  refine e_nil ?_
  refine wp_seq ?_
  refine c_reg ?_
  refine gL hf (g_ldW hf hs T25 rfl (k := 1) rfl rfl) (by decide) ?_; clear hf a; intro a hf
  refine callL hf hs (c_Check b _ _ _ _ _ ⟨hs.rd (.head _), hs.rd (.tail _ (.head _)), h.fc_, h.rc_⟩) rfl rfl rfl E17 (by decide) ?_; clear hs hf a; intro w a hs hf
  refine gL hf (g_as hf rfl) (by decide) ?_; clear hf a; intro a hf
  refine e_nil ?_
  refine c_reg ?_
  refine gL hf (g_mv hf rfl) (by decide) ?_; clear hf a; intro a hf
  refine gL hf (g_neq hf rfl rfl) (by decide) ?_; clear hf a; intro a hf
  refine e_nil ?_
  refine c_cond hf rfl (fun hc1 => ?_) (fun hc1 => ?_)
  · try simp only [decide_eq_true_eq, decide_eq_false_iff_not] at hc1
    have hck : checkB b = false := by cases h9 : checkB b <;> simp_all
    have he : askE b ok = 40 := by simp [askE, hck]
    refine c_reg ?_
    refine gL hf (g_bld hf [[.int .i64 0, .int .i64 0, .slice none 0 0, .slice none 0 0], [.map none]] .nil (fun _ => by kernel_rfl)) (by decide) ?_; clear hf a; intro a hf
    refine gL hf (g_mv hf rfl) (by decide) ?_; clear hf a; intro a hf
    refine uL (u_stW hf hs T69 rfl rfl rfl (k := 0) rfl rfl rfl) ?_; clear hs; intro w hs; dsimp only [List.set] at hs
    refine gL hf (g_as hf rfl) (by decide) ?_; clear hf a; intro a hf
    refine e_nil ?_
    refine c_ret (q_thenR ?_)
    refine e_res hf hs rfl (.cellA T69 rfl (k := 0) rfl rfl (.tmp rfl .nil)) rfl ?_
    exact ⟨_, rfl, hs.below, [.int .i64 0, .int .i64 0, .slice none 0 0, .slice none 0 0, .map none], 0, [], by rw [he, hck]; rfl, rfl, rfl, fun h0 => absurd h0 (by omega)⟩
  · try simp only [decide_eq_true_eq, decide_eq_false_iff_not] at hc1
    have hck : checkB b = true := by cases h9 : checkB b <;> simp_all
    refine c_skip (q_thenN ?_)
    refine wp_seq ?_
    refine c_reg ?_
    refine gL hf (g_mv hf rfl) (by decide) ?_; clear hf a; intro a hf
    refine gL hf (g_not hf rfl) (by decide) ?_; clear hf a; intro a hf
    refine e_nil ?_
    refine c_cond hf rfl (fun hc2 => ?_) (fun hc2 => ?_)
    · try simp only [decide_eq_true_eq, decide_eq_false_iff_not] at hc2
      have he : askE b ok = 41 := by simp at hc2; simp [askE, hck, hc2]
      refine c_reg ?_
      refine gL hf (g_bld hf [[.int .i64 0, .int .i64 0, .slice none 0 0, .slice none 0 0], [.map none]] .nil (fun _ => by kernel_rfl)) (by decide) ?_; clear hf a; intro a hf
      refine uL (u_stW hf hs T69 rfl rfl rfl (k := 0) rfl rfl rfl) ?_; clear hs; intro w hs; dsimp only [List.set] at hs
      refine gL hf (g_as hf rfl) (by decide) ?_; clear hf a; intro a hf
      refine e_nil ?_
      refine c_ret (q_thenR ?_)
      refine e_res hf hs rfl (.cellA T69 rfl (k := 0) rfl rfl (.tmp rfl .nil)) rfl ?_
      exact ⟨_, rfl, hs.below, [.int .i64 0, .int .i64 0, .slice none 0 0, .slice none 0 0, .map none], 0, [], by rw [he]; rfl, rfl, rfl, fun h0 => absurd h0 (by omega)⟩
    · try simp only [decide_eq_true_eq, decide_eq_false_iff_not] at hc2
      have he : askE b ok = 0 := by simp at hc2; simp [askE, hck, hc2]
      refine c_skip (q_thenN ?_)
      refine c_reg ?_
      refine gL hf (g_ldW hf hs T25 rfl (k := 1) rfl rfl) (by decide) ?_; clear hf a; intro a hf
      refine callX hf hs (c_opened b _ _ _ _ _ _ (valid_of hck) _ ⟨hs.rd (.head _), hs.rd (.tail _ (.head _)), h.fc_, h.rc_⟩ (hs.rd (.tail _ (.tail _ (.head _))))) rfl rfl rfl E75 (by decide) ?_; intro v w1 a hR hb hs1 hf; obtain ⟨mb, mp, rfl, hmo, hle, hmi⟩ := hR; have hle0 := Nat.le_trans hs.below.size hle; replace hs := hs.fresh hs1 (mapFresh hle hmi); clear hs1 hb
      refine uL (u_stW hf hs T69 rfl rfl rfl (k := 0) rfl rfl rfl) ?_; clear hs; intro w hs; dsimp only [List.set] at hs
      refine gL hf (g_as hf rfl) (by decide) ?_; clear hf a; intro a hf
      refine e_nil ?_
      refine c_ret ?_
      refine e_res hf hs rfl (.cellA T69 rfl (k := 0) rfl rfl (.tmp rfl .nil)) rfl ?_
      exact ⟨_, rfl, hs.below, sh5 b fA fc rA rc mb, mb, mp, by rw [he]; rfl, rfl, rfl, fun _ => ⟨rfl, hmo, hle0, hs.rd (.head _)⟩⟩

theorem c_Meet (b : Sheet) (fA : Option Addr) (fc : Nat) (rA : Option Addr) (rc : Nat) (ge : TypeId) (gz : Nat × Nat) (i j : Int) (w0 : World) (h : ShIn b fA fc rA rc w0) (hG : BlkIs 0 sidesA ge gz w0) :
    Calls Tryd.prog 15 #[.agg #[.int .i64 b.wide, .int .i64 b.high, .slice fA b.flaps.length fc, .slice rA b.rules.length rc], .int .i64 i, .int .i64 j] w0 (Ret w0 (.tuple #[.int .i64 (meetP b i j).1, .int .i64 (meetP b i j).2])) := by
  refine c_enter (n := 37) Tryd.func15 rfl rfl (Nat.le_of_ble_eq_true rfl) ?_; intro a hf; simp only [zipR] at hf
  have hs := St.start w0 [Rd encF 5 fA b.flaps.length b.flaps, Rd encR 2 rA b.rules.length b.rules, BlkIs 0 sidesA ge gz] (stab_app h.stab hG.st1)
  have hfm := h.F.2.1; have hrm := h.R.2.1
  refine c_reg ?_
  refine vL hf (v_boxA hf hs rfl) (by decide) ?_; clear hs hf a; rintro _ w ⟨b1, rfl, hs⟩ a hf
  refine gL hf (g_as hf rfl) (by decide) ?_; clear hf a; intro a hf
  refine gL hf (g_as hf rfl) (by decide) ?_; clear hf a; intro a hf
  refine e_nil ?_
  refine c_draw _ 21 Mx rfl hs (fun _ h => h) ?_; intro w hs hS
  refine gA hf hS (i := 0) rfl (by kernel_rfl) (fun w hs => g_ldW hf hs T25 rfl (k := 0) rfl rfl) (by decide) ?_; clear hf a; intro a hf
  refine gA hf hS (i := 1) rfl (by kernel_rfl) (fun w hs => g_ldW hf hs T25 rfl (k := 0) rfl rfl) (by decide) ?_; clear hf a; intro a hf
  refine gA hf hS (i := 2) rfl (by kernel_rfl) (fun w hs => g_mv hf rfl) (by decide) ?_; clear hf a; intro a hf
  refine two (i := 3) (j := 18) (by kernel_rfl) ?_ ?_
  · skip
    refine oCall hf hs rfl (c_isFlap _ _ _ _ _ _ _ _ _ (by omega) _) rfl rfl rfl E55 (by decide) (fun _ h => h.sub (.refl _)) ?_; clear hs hf hS a; intro w a hs hS hf
    refine gA hf hS (i := 4) rfl (by kernel_rfl) (fun w hs => g_mv hf rfl) (by decide) ?_; clear hf a; intro a hf
    refine ggA hf hS (i := 5) rfl (by kernel_rfl) rfl rfl (gyes_t _) (fun hg w hs => g_ldW hf hs T25 rfl (k := 0) rfl rfl) (by decide) ?_; clear hf a; intro a hf
    refine ggA hf hS (i := 6) rfl (by kernel_rfl) rfl rfl (gyes_t _) (fun hg w hs => g_mv hf rfl) (by decide) ?_; clear hf a; intro a hf
    refine two (i := 7) (j := 18) (by kernel_rfl) ?_ ?_
    · skip
      refine oCallG hf hs rfl rfl rfl (gyes_t _) (fun hg => ⟨_, _, _, _, c_isFlap _ _ _ _ _ _ _ _ _ (by omega) _, rfl, evs_cons (ev_gv rfl hg) (evs_cons (ev_gv rfl hg) evs_nil), rfl⟩) E55 (by decide) (fun _ h => h.sub (.refl _)) ?_; clear hs hf hS a; intro w a hs hS hf
      refine gA hf hS (i := 8) rfl (by kernel_rfl) (fun w hs => g_and hf rfl rfl) (by decide) ?_; clear hf a; intro a hf
      refine gA hf hS (i := 9) rfl (by kernel_rfl) (fun w hs => g_mv hf rfl) (by decide) ?_; clear hf a; intro a hf
      refine ggA hf hS (i := 10) rfl (by kernel_rfl) rfl rfl (gyes_t _) (fun hg w hs => g_mv hf rfl) (by decide) ?_; clear hf a; intro a hf
      refine ggA hf hS (i := 11) rfl (by kernel_rfl) rfl rfl (gyes_t _) (fun hg w hs => g_mv hf rfl) (by decide) ?_; clear hf a; intro a hf
      refine ggA hf hS (i := 12) rfl (by kernel_rfl) rfl rfl (gyes_t _) (fun hg w hs => g_neq hf (ev_gv rfl hg) (ev_gv rfl hg)) (by decide) ?_; clear hf a; intro a hf
      refine gA hf hS (i := 13) rfl (by kernel_rfl) (fun w hs => g_and hf rfl rfl) (by decide) ?_; clear hf a; intro a hf
      refine two (i := 14) (j := 18) (by kernel_rfl) ?_ ?_
      · skip
        refine oCallX hf hs rfl (c_asked b _ _ _ _ _ _ (meetOk b i j) _ ⟨hs.rd (.head _), hs.rd (.tail _ (.head _)), h.fc_, h.rc_⟩ (hs.rd (.tail _ (.tail _ (.head _))))) rfl rfl rfl E54 (by decide) (fun _ h => h.sub (.refl _)) ?_; intro v w1 a hR hb hs1 hS hf; obtain ⟨cs, mb, mp, rfl, hcl, hcp, hcm⟩ := hR; replace hs := hs.fresh hs1 (condFresh fun he => (hcm he).2.2); clear hs1 hb
        refine gA hf hS (i := 15) rfl (by kernel_rfl) (fun w hs => g_mv hf rfl) (by decide) ?_; clear hf a; intro a hf
        refine gA hf hS (i := 16) rfl (by kernel_rfl) (fun w hs => g_ext hf rfl rfl) (by decide) ?_; clear hf a; intro a hf
        refine gA hf hS (i := 17) rfl (by kernel_rfl) (fun w hs => g_ext hf rfl rfl) (by decide) ?_; clear hf a; intro a hf
        refine one (i := 18) (by kernel_rfl) ?_
        refine oV hf rfl (v_alloc hs T69 rfl) (by decide) (fun _ _ ⟨_, _, h⟩ => (h.sub (.cons _ (.refl _))).subD (fun _ h => (.tail _ h))) ?_; clear hs hf hS a; rintro _ w ⟨b2, rfl, hs⟩ hS a hf
        refine one (i := 19) (by kernel_rfl) ?_
        refine oU rfl (u_stW hf hs T69 rfl rfl hcp (k := 0) rfl hcl hcl) (fun _ h => (h.sub (.cons _ (.refl _))).subD (fun _ h => (.tail _ h))) ?_; clear hs hS; intro w hs hS; dsimp only [List.set] at hs
        refine gA hf hS (i := 20) rfl (by kernel_rfl) (fun w hs => g_as hf rfl) (by decide) ?_; clear hf a; intro a hf
        refine e_done (by kernel_rfl) ?_
        refine wp_seq ?_
        refine c_reg ?_
        refine gL hf (g_mv hf rfl) (by decide) ?_; clear hf a; intro a hf
        refine gL hf (g_neq hf rfl rfl) (by decide) ?_; clear hf a; intro a hf
        refine e_nil ?_
        refine c_cond hf rfl (fun hc1 => ?_) (fun hc1 => ?_)
        · try simp only [decide_eq_true_eq, decide_eq_false_iff_not] at hc1
          have he : ¬ askE b (meetOk b i j) = 0 := by simpa using hc1
          refine c_reg ?_
          refine gL hf (g_mv hf rfl) (by decide) ?_; clear hf a; intro a hf
          refine gL hf (g_as hf rfl) (by decide) ?_; clear hf a; intro a hf
          refine gL hf (g_as hf rfl) (by decide) ?_; clear hf a; intro a hf
          refine e_nil ?_
          refine c_ret (q_thenR ?_)
          refine e_ret2 hf rfl rfl rfl ?_
          exact ⟨by simp only [meetP, if_neg he]; rfl, hs.below⟩
        · try simp only [decide_eq_true_eq, decide_eq_false_iff_not] at hc1
          have he : askE b (meetOk b i j) = 0 := by simpa using hc1
          obtain ⟨rfl, hmo, _, _⟩ := hcm he
          replace hs := hs.un (fun w h => h he)
          have hok := askE_zero he
          have hv := valid_of hok.1
          refine c_skip (q_thenN ?_)
          refine c_reg ?_
          refine gL hf (g_fa (off' := 4) hf F69_1 rfl rfl) (by decide) ?_; clear hf a; intro a hf
          refine gL hf (g_ld hf hs T67 rfl (k := 0) rfl rfl) (by decide) ?_; clear hf a; intro a hf
          refine gL hf (g_mv hf rfl) (by decide) ?_; clear hf a; intro a hf
          refine gL hf (g_mv hf rfl) (by decide) ?_; clear hf a; intro a hf
          refine gL hf (g_bld hf [[.int .i64 0], [.int .i64 0]] (.cons rfl (.cons rfl .nil)) (fun _ => by kernel_rfl)) (by decide) ?_; clear hf a; intro a hf
          refine gL hf (g_lookD hf hs (.head _) MT67 rfl rfl) (by decide) ?_; clear hf a; intro a hf
          refine gL hf (g_as hf rfl) (by decide) ?_; clear hf a; intro a hf
          refine gL hf (g_as hf rfl) (by decide) ?_; clear hf a; intro a hf
          refine e_nil ?_
          refine c_ret ?_
          refine e_ret2 hf rfl rfl rfl ?_
          have hin := meetOk_in hok.2
          exact ⟨by simp only [meetP, he, hmo i j, if_pos (And.intro hin.1 hin.2.1), if_true], hs.below⟩
      · skip
        refine oV hf rfl (v_alloc hs T69 rfl) (by decide) (fun _ _ ⟨_, _, h⟩ => h.sub (.cons _ (.refl _))) ?_; clear hs hf hS a; rintro _ w ⟨b2, rfl, hs⟩ hS a hf
        refine one (i := 14) (by kernel_rfl) ?_
        refine oCallX hf hs rfl (c_asked b _ _ _ _ _ _ (meetOk b i j) _ ⟨hs.rd (.head _), hs.rd (.tail _ (.head _)), h.fc_, h.rc_⟩ (hs.rd (.tail _ (.tail _ (.head _))))) rfl rfl rfl E54 (by decide) (fun _ h => h.sub (.cons _ (.refl _))) ?_; intro v w1 a hR hb hs1 hS hf; obtain ⟨cs, mb, mp, rfl, hcl, hcp, hcm⟩ := hR; replace hs := hs.fresh hs1 (condFresh fun he => (hcm he).2.2); clear hs1 hb
        refine gA hf hS (i := 15) rfl (by kernel_rfl) (fun w hs => g_mv hf rfl) (by decide) ?_; clear hf a; intro a hf
        refine gA hf hS (i := 16) rfl (by kernel_rfl) (fun w hs => g_ext hf rfl rfl) (by decide) ?_; clear hf a; intro a hf
        refine gA hf hS (i := 17) rfl (by kernel_rfl) (fun w hs => g_ext hf rfl rfl) (by decide) ?_; clear hf a; intro a hf
        refine one (i := 19) (by kernel_rfl) ?_
        refine oU rfl (u_stW hf hs T69 rfl rfl hcp (k := 0) rfl hcl hcl) (fun _ h => (h.sub (.cons _ (.refl _))).subD (fun _ h => (.tail _ h))) ?_; clear hs hS; intro w hs hS; dsimp only [List.set] at hs
        refine gA hf hS (i := 20) rfl (by kernel_rfl) (fun w hs => g_as hf rfl) (by decide) ?_; clear hf a; intro a hf
        refine e_done (by kernel_rfl) ?_
        refine wp_seq ?_
        refine c_reg ?_
        refine gL hf (g_mv hf rfl) (by decide) ?_; clear hf a; intro a hf
        refine gL hf (g_neq hf rfl rfl) (by decide) ?_; clear hf a; intro a hf
        refine e_nil ?_
        refine c_cond hf rfl (fun hc1 => ?_) (fun hc1 => ?_)
        · try simp only [decide_eq_true_eq, decide_eq_false_iff_not] at hc1
          have he : ¬ askE b (meetOk b i j) = 0 := by simpa using hc1
          refine c_reg ?_
          refine gL hf (g_mv hf rfl) (by decide) ?_; clear hf a; intro a hf
          refine gL hf (g_as hf rfl) (by decide) ?_; clear hf a; intro a hf
          refine gL hf (g_as hf rfl) (by decide) ?_; clear hf a; intro a hf
          refine e_nil ?_
          refine c_ret (q_thenR ?_)
          refine e_ret2 hf rfl rfl rfl ?_
          exact ⟨by simp only [meetP, if_neg he]; rfl, hs.below⟩
        · try simp only [decide_eq_true_eq, decide_eq_false_iff_not] at hc1
          have he : askE b (meetOk b i j) = 0 := by simpa using hc1
          obtain ⟨rfl, hmo, _, _⟩ := hcm he
          replace hs := hs.un (fun w h => h he)
          have hok := askE_zero he
          have hv := valid_of hok.1
          refine c_skip (q_thenN ?_)
          refine c_reg ?_
          refine gL hf (g_fa (off' := 4) hf F69_1 rfl rfl) (by decide) ?_; clear hf a; intro a hf
          refine gL hf (g_ld hf hs T67 rfl (k := 0) rfl rfl) (by decide) ?_; clear hf a; intro a hf
          refine gL hf (g_mv hf rfl) (by decide) ?_; clear hf a; intro a hf
          refine gL hf (g_mv hf rfl) (by decide) ?_; clear hf a; intro a hf
          refine gL hf (g_bld hf [[.int .i64 0], [.int .i64 0]] (.cons rfl (.cons rfl .nil)) (fun _ => by kernel_rfl)) (by decide) ?_; clear hf a; intro a hf
          refine gL hf (g_lookD hf hs (.head _) MT67 rfl rfl) (by decide) ?_; clear hf a; intro a hf
          refine gL hf (g_as hf rfl) (by decide) ?_; clear hf a; intro a hf
          refine gL hf (g_as hf rfl) (by decide) ?_; clear hf a; intro a hf
          refine e_nil ?_
          refine c_ret ?_
          refine e_ret2 hf rfl rfl rfl ?_
          have hin := meetOk_in hok.2
          exact ⟨by simp only [meetP, he, hmo i j, if_pos (And.intro hin.1 hin.2.1), if_true], hs.below⟩
    · skip
      refine oV hf rfl (v_alloc hs T69 rfl) (by decide) (fun _ _ ⟨_, _, h⟩ => h.sub (.cons _ (.refl _))) ?_; clear hs hf hS a; rintro _ w ⟨b2, rfl, hs⟩ hS a hf
      refine one (i := 7) (by kernel_rfl) ?_
      refine oCallG hf hs rfl rfl rfl (gyes_t _) (fun hg => ⟨_, _, _, _, c_isFlap _ _ _ _ _ _ _ _ _ (by omega) _, rfl, evs_cons (ev_gv rfl hg) (evs_cons (ev_gv rfl hg) evs_nil), rfl⟩) E55 (by decide) (fun _ h => h.sub (.cons _ (.refl _))) ?_; clear hs hf hS a; intro w a hs hS hf
      refine gA hf hS (i := 8) rfl (by kernel_rfl) (fun w hs => g_and hf rfl rfl) (by decide) ?_; clear hf a; intro a hf
      refine gA hf hS (i := 9) rfl (by kernel_rfl) (fun w hs => g_mv hf rfl) (by decide) ?_; clear hf a; intro a hf
      refine ggA hf hS (i := 10) rfl (by kernel_rfl) rfl rfl (gyes_t _) (fun hg w hs => g_mv hf rfl) (by decide) ?_; clear hf a; intro a hf
      refine ggA hf hS (i := 11) rfl (by kernel_rfl) rfl rfl (gyes_t _) (fun hg w hs => g_mv hf rfl) (by decide) ?_; clear hf a; intro a hf
      refine ggA hf hS (i := 12) rfl (by kernel_rfl) rfl rfl (gyes_t _) (fun hg w hs => g_neq hf (ev_gv rfl hg) (ev_gv rfl hg)) (by decide) ?_; clear hf a; intro a hf
      refine gA hf hS (i := 13) rfl (by kernel_rfl) (fun w hs => g_and hf rfl rfl) (by decide) ?_; clear hf a; intro a hf
      refine one (i := 14) (by kernel_rfl) ?_
      refine oCallX hf hs rfl (c_asked b _ _ _ _ _ _ (meetOk b i j) _ ⟨hs.rd (.head _), hs.rd (.tail _ (.head _)), h.fc_, h.rc_⟩ (hs.rd (.tail _ (.tail _ (.head _))))) rfl rfl rfl E54 (by decide) (fun _ h => h.sub (.cons _ (.refl _))) ?_; intro v w1 a hR hb hs1 hS hf; obtain ⟨cs, mb, mp, rfl, hcl, hcp, hcm⟩ := hR; replace hs := hs.fresh hs1 (condFresh fun he => (hcm he).2.2); clear hs1 hb
      refine gA hf hS (i := 15) rfl (by kernel_rfl) (fun w hs => g_mv hf rfl) (by decide) ?_; clear hf a; intro a hf
      refine gA hf hS (i := 16) rfl (by kernel_rfl) (fun w hs => g_ext hf rfl rfl) (by decide) ?_; clear hf a; intro a hf
      refine gA hf hS (i := 17) rfl (by kernel_rfl) (fun w hs => g_ext hf rfl rfl) (by decide) ?_; clear hf a; intro a hf
      refine one (i := 19) (by kernel_rfl) ?_
      refine oU rfl (u_stW hf hs T69 rfl rfl hcp (k := 0) rfl hcl hcl) (fun _ h => (h.sub (.cons _ (.refl _))).subD (fun _ h => (.tail _ h))) ?_; clear hs hS; intro w hs hS; dsimp only [List.set] at hs
      refine gA hf hS (i := 20) rfl (by kernel_rfl) (fun w hs => g_as hf rfl) (by decide) ?_; clear hf a; intro a hf
      refine e_done (by kernel_rfl) ?_
      refine wp_seq ?_
      refine c_reg ?_
      refine gL hf (g_mv hf rfl) (by decide) ?_; clear hf a; intro a hf
      refine gL hf (g_neq hf rfl rfl) (by decide) ?_; clear hf a; intro a hf
      refine e_nil ?_
      refine c_cond hf rfl (fun hc1 => ?_) (fun hc1 => ?_)
      · try simp only [decide_eq_true_eq, decide_eq_false_iff_not] at hc1
        have he : ¬ askE b (meetOk b i j) = 0 := by simpa using hc1
        refine c_reg ?_
        refine gL hf (g_mv hf rfl) (by decide) ?_; clear hf a; intro a hf
        refine gL hf (g_as hf rfl) (by decide) ?_; clear hf a; intro a hf
        refine gL hf (g_as hf rfl) (by decide) ?_; clear hf a; intro a hf
        refine e_nil ?_
        refine c_ret (q_thenR ?_)
        refine e_ret2 hf rfl rfl rfl ?_
        exact ⟨by simp only [meetP, if_neg he]; rfl, hs.below⟩
      · try simp only [decide_eq_true_eq, decide_eq_false_iff_not] at hc1
        have he : askE b (meetOk b i j) = 0 := by simpa using hc1
        obtain ⟨rfl, hmo, _, _⟩ := hcm he
        replace hs := hs.un (fun w h => h he)
        have hok := askE_zero he
        have hv := valid_of hok.1
        refine c_skip (q_thenN ?_)
        refine c_reg ?_
        refine gL hf (g_fa (off' := 4) hf F69_1 rfl rfl) (by decide) ?_; clear hf a; intro a hf
        refine gL hf (g_ld hf hs T67 rfl (k := 0) rfl rfl) (by decide) ?_; clear hf a; intro a hf
        refine gL hf (g_mv hf rfl) (by decide) ?_; clear hf a; intro a hf
        refine gL hf (g_mv hf rfl) (by decide) ?_; clear hf a; intro a hf
        refine gL hf (g_bld hf [[.int .i64 0], [.int .i64 0]] (.cons rfl (.cons rfl .nil)) (fun _ => by kernel_rfl)) (by decide) ?_; clear hf a; intro a hf
        refine gL hf (g_lookD hf hs (.head _) MT67 rfl rfl) (by decide) ?_; clear hf a; intro a hf
        refine gL hf (g_as hf rfl) (by decide) ?_; clear hf a; intro a hf
        refine gL hf (g_as hf rfl) (by decide) ?_; clear hf a; intro a hf
        refine e_nil ?_
        refine c_ret ?_
        refine e_ret2 hf rfl rfl rfl ?_
        have hin := meetOk_in hok.2
        exact ⟨by simp only [meetP, he, hmo i j, if_pos (And.intro hin.1 hin.2.1), if_true], hs.below⟩
  · skip
    refine oV hf rfl (v_alloc hs T69 rfl) (by decide) (fun _ _ ⟨_, _, h⟩ => h.sub (.cons _ (.refl _))) ?_; clear hs hf hS a; rintro _ w ⟨b2, rfl, hs⟩ hS a hf
    refine one (i := 3) (by kernel_rfl) ?_
    refine oCall hf hs rfl (c_isFlap _ _ _ _ _ _ _ _ _ (by omega) _) rfl rfl rfl E55 (by decide) (fun _ h => h.sub (.cons _ (.refl _))) ?_; clear hs hf hS a; intro w a hs hS hf
    refine gA hf hS (i := 4) rfl (by kernel_rfl) (fun w hs => g_mv hf rfl) (by decide) ?_; clear hf a; intro a hf
    refine ggA hf hS (i := 5) rfl (by kernel_rfl) rfl rfl (gyes_t _) (fun hg w hs => g_ldW hf hs T25 rfl (k := 0) rfl rfl) (by decide) ?_; clear hf a; intro a hf
    refine ggA hf hS (i := 6) rfl (by kernel_rfl) rfl rfl (gyes_t _) (fun hg w hs => g_mv hf rfl) (by decide) ?_; clear hf a; intro a hf
    refine one (i := 7) (by kernel_rfl) ?_
    refine oCallG hf hs rfl rfl rfl (gyes_t _) (fun hg => ⟨_, _, _, _, c_isFlap _ _ _ _ _ _ _ _ _ (by omega) _, rfl, evs_cons (ev_gv rfl hg) (evs_cons (ev_gv rfl hg) evs_nil), rfl⟩) E55 (by decide) (fun _ h => h.sub (.cons _ (.refl _))) ?_; clear hs hf hS a; intro w a hs hS hf
    refine gA hf hS (i := 8) rfl (by kernel_rfl) (fun w hs => g_and hf rfl rfl) (by decide) ?_; clear hf a; intro a hf
    refine gA hf hS (i := 9) rfl (by kernel_rfl) (fun w hs => g_mv hf rfl) (by decide) ?_; clear hf a; intro a hf
    refine ggA hf hS (i := 10) rfl (by kernel_rfl) rfl rfl (gyes_t _) (fun hg w hs => g_mv hf rfl) (by decide) ?_; clear hf a; intro a hf
    refine ggA hf hS (i := 11) rfl (by kernel_rfl) rfl rfl (gyes_t _) (fun hg w hs => g_mv hf rfl) (by decide) ?_; clear hf a; intro a hf
    refine ggA hf hS (i := 12) rfl (by kernel_rfl) rfl rfl (gyes_t _) (fun hg w hs => g_neq hf (ev_gv rfl hg) (ev_gv rfl hg)) (by decide) ?_; clear hf a; intro a hf
    refine gA hf hS (i := 13) rfl (by kernel_rfl) (fun w hs => g_and hf rfl rfl) (by decide) ?_; clear hf a; intro a hf
    refine one (i := 14) (by kernel_rfl) ?_
    refine oCallX hf hs rfl (c_asked b _ _ _ _ _ _ (meetOk b i j) _ ⟨hs.rd (.head _), hs.rd (.tail _ (.head _)), h.fc_, h.rc_⟩ (hs.rd (.tail _ (.tail _ (.head _))))) rfl rfl rfl E54 (by decide) (fun _ h => h.sub (.cons _ (.refl _))) ?_; intro v w1 a hR hb hs1 hS hf; obtain ⟨cs, mb, mp, rfl, hcl, hcp, hcm⟩ := hR; replace hs := hs.fresh hs1 (condFresh fun he => (hcm he).2.2); clear hs1 hb
    refine gA hf hS (i := 15) rfl (by kernel_rfl) (fun w hs => g_mv hf rfl) (by decide) ?_; clear hf a; intro a hf
    refine gA hf hS (i := 16) rfl (by kernel_rfl) (fun w hs => g_ext hf rfl rfl) (by decide) ?_; clear hf a; intro a hf
    refine gA hf hS (i := 17) rfl (by kernel_rfl) (fun w hs => g_ext hf rfl rfl) (by decide) ?_; clear hf a; intro a hf
    refine one (i := 19) (by kernel_rfl) ?_
    refine oU rfl (u_stW hf hs T69 rfl rfl hcp (k := 0) rfl hcl hcl) (fun _ h => (h.sub (.cons _ (.refl _))).subD (fun _ h => (.tail _ h))) ?_; clear hs hS; intro w hs hS; dsimp only [List.set] at hs
    refine gA hf hS (i := 20) rfl (by kernel_rfl) (fun w hs => g_as hf rfl) (by decide) ?_; clear hf a; intro a hf
    refine e_done (by kernel_rfl) ?_
    refine wp_seq ?_
    refine c_reg ?_
    refine gL hf (g_mv hf rfl) (by decide) ?_; clear hf a; intro a hf
    refine gL hf (g_neq hf rfl rfl) (by decide) ?_; clear hf a; intro a hf
    refine e_nil ?_
    refine c_cond hf rfl (fun hc1 => ?_) (fun hc1 => ?_)
    · try simp only [decide_eq_true_eq, decide_eq_false_iff_not] at hc1
      have he : ¬ askE b (meetOk b i j) = 0 := by simpa using hc1
      refine c_reg ?_
      refine gL hf (g_mv hf rfl) (by decide) ?_; clear hf a; intro a hf
      refine gL hf (g_as hf rfl) (by decide) ?_; clear hf a; intro a hf
      refine gL hf (g_as hf rfl) (by decide) ?_; clear hf a; intro a hf
      refine e_nil ?_
      refine c_ret (q_thenR ?_)
      refine e_ret2 hf rfl rfl rfl ?_
      exact ⟨by simp only [meetP, if_neg he]; rfl, hs.below⟩
    · try simp only [decide_eq_true_eq, decide_eq_false_iff_not] at hc1
      have he : askE b (meetOk b i j) = 0 := by simpa using hc1
      obtain ⟨rfl, hmo, _, _⟩ := hcm he
      replace hs := hs.un (fun w h => h he)
      have hok := askE_zero he
      have hv := valid_of hok.1
      refine c_skip (q_thenN ?_)
      refine c_reg ?_
      refine gL hf (g_fa (off' := 4) hf F69_1 rfl rfl) (by decide) ?_; clear hf a; intro a hf
      refine gL hf (g_ld hf hs T67 rfl (k := 0) rfl rfl) (by decide) ?_; clear hf a; intro a hf
      refine gL hf (g_mv hf rfl) (by decide) ?_; clear hf a; intro a hf
      refine gL hf (g_mv hf rfl) (by decide) ?_; clear hf a; intro a hf
      refine gL hf (g_bld hf [[.int .i64 0], [.int .i64 0]] (.cons rfl (.cons rfl .nil)) (fun _ => by kernel_rfl)) (by decide) ?_; clear hf a; intro a hf
      refine gL hf (g_lookD hf hs (.head _) MT67 rfl rfl) (by decide) ?_; clear hf a; intro a hf
      refine gL hf (g_as hf rfl) (by decide) ?_; clear hf a; intro a hf
      refine gL hf (g_as hf rfl) (by decide) ?_; clear hf a; intro a hf
      refine e_nil ?_
      refine c_ret ?_
      refine e_ret2 hf rfl rfl rfl ?_
      have hin := meetOk_in hok.2
      exact ⟨by simp only [meetP, he, hmo i j, if_pos (And.intro hin.1 hin.2.1), if_true], hs.below⟩

theorem c_Does (b : Sheet) (fA : Option Addr) (fc : Nat) (rA : Option Addr) (rc : Nat) (oA : Option Addr) (oc : Nat) (l : List Int) (ge : TypeId) (gz : Nat × Nat) (hck : checkB b = true) (w0 : World) (h : ShIn b fA fc rA rc w0) (ho : Rd encI 1 oA l.length l w0) (hG : BlkIs 0 sidesA ge gz w0) :
    Calls Tryd.prog 19 #[.agg #[.int .i64 b.wide, .int .i64 b.high, .slice fA b.flaps.length fc, .slice rA b.rules.length rc], .slice oA l.length oc] w0 (Ret w0 (.tuple #[.int .i64 (doesP b l).1, .int .i64 (doesP b l).2])) := by
  refine c_enter (n := 53) Tryd.func19 rfl rfl (Nat.le_of_ble_eq_true rfl) ?_; intro a hf; simp only [zipR] at hf
  have hs := St.start w0 [Rd encF 5 fA b.flaps.length b.flaps, Rd encR 2 rA b.rules.length b.rules, Rd encI 1 oA l.length l, BlkIs 0 sidesA ge gz] (stab_app h.stab (stab_app ho.st1 hG.st1))
  have hfm := h.F.2.1; have hrm := h.R.2.1; have hlm := ho.2.1
  have hv := valid_of hck
  refine c_reg ?_
  refine vL hf (v_boxA hf hs rfl) (by decide) ?_; clear hs hf a; rintro _ w ⟨b1, rfl, hs⟩ a hf
  refine gL hf (g_as hf rfl) (by decide) ?_; clear hf a; intro a hf
  refine gL hf (g_as hf rfl) (by decide) ?_; clear hf a; intro a hf
  refine e_nil ?_
  refine c_draw _ 11 Mx rfl hs (fun _ h => h) ?_; intro w hs hS
  refine gA hf hS (i := 0) rfl (by kernel_rfl) (fun w hs => g_ldW hf hs T25 rfl (k := 0) rfl rfl) (by decide) ?_; clear hf a; intro a hf
  refine gA hf hS (i := 1) rfl (by kernel_rfl) (fun w hs => g_ldW hf hs T25 rfl (k := 0) rfl rfl) (by decide) ?_; clear hf a; intro a hf
  refine gA hf hS (i := 2) rfl (by kernel_rfl) (fun w hs => g_mv hf rfl) (by decide) ?_; clear hf a; intro a hf
  refine two (i := 3) (j := 8) (by kernel_rfl) ?_ ?_
  · skip
    refine oCall hf hs rfl (c_isOrder b _ _ _ _ _ _ l hv _ ⟨hs.rd (.head _), hs.rd (.tail _ (.head _)), h.fc_, h.rc_⟩ (hs.rd (.tail _ (.tail _ (.head _))))) rfl rfl rfl E62 (by decide) (fun _ h => h.sub (.refl _)) ?_; clear hs hf hS a; intro w a hs hS hf
    refine two (i := 4) (j := 8) (by kernel_rfl) ?_ ?_
    · skip
      refine oCallX hf hs rfl (c_asked b _ _ _ _ _ _ (ordB b l) _ ⟨hs.rd (.head _), hs.rd (.tail _ (.head _)), h.fc_, h.rc_⟩ (hs.rd (.tail _ (.tail _ (.tail _ (.head _)))))) rfl rfl rfl E54 (by decide) (fun _ h => h.sub (.refl _)) ?_; intro v w1 a hR hb hs1 hS hf; obtain ⟨cs, mb, mp, rfl, hcl, hcp, hcm⟩ := hR; replace hs := hs.fresh hs1 (condFresh fun he => (hcm he).2.2); clear hs1 hb
      refine gA hf hS (i := 5) rfl (by kernel_rfl) (fun w hs => g_mv hf rfl) (by decide) ?_; clear hf a; intro a hf
      refine gA hf hS (i := 6) rfl (by kernel_rfl) (fun w hs => g_ext hf rfl rfl) (by decide) ?_; clear hf a; intro a hf
      refine gA hf hS (i := 7) rfl (by kernel_rfl) (fun w hs => g_ext hf rfl rfl) (by decide) ?_; clear hf a; intro a hf
      refine one (i := 8) (by kernel_rfl) ?_
      refine oV hf rfl (v_alloc hs T69 rfl) (by decide) (fun _ _ ⟨_, _, h⟩ => (h.sub (.cons _ (.refl _))).subD (fun _ h => (.tail _ h))) ?_; clear hs hf hS a; rintro _ w ⟨b2, rfl, hs⟩ hS a hf
      refine one (i := 9) (by kernel_rfl) ?_
      refine oU rfl (u_stW hf hs T69 rfl rfl hcp (k := 0) rfl hcl hcl) (fun _ h => (h.sub (.cons _ (.refl _))).subD (fun _ h => (.tail _ h))) ?_; clear hs hS; intro w hs hS; dsimp only [List.set] at hs
      refine gA hf hS (i := 10) rfl (by kernel_rfl) (fun w hs => g_as hf rfl) (by decide) ?_; clear hf a; intro a hf
      refine e_done (by kernel_rfl) ?_
      refine wp_seq ?_
      refine c_reg ?_
      refine gL hf (g_mv hf rfl) (by decide) ?_; clear hf a; intro a hf
      refine gL hf (g_neq hf rfl rfl) (by decide) ?_; clear hf a; intro a hf
      refine e_nil ?_
      refine c_cond hf rfl (fun hc1 => ?_) (fun hc1 => ?_)
      · try simp only [decide_eq_true_eq, decide_eq_false_iff_not] at hc1
        have he : ¬ askE b (ordB b l) = 0 := by simpa using hc1
        refine c_reg ?_
        refine gL hf (g_mv hf rfl) (by decide) ?_; clear hf a; intro a hf
        refine gL hf (g_as hf rfl) (by decide) ?_; clear hf a; intro a hf
        refine gL hf (g_as hf rfl) (by decide) ?_; clear hf a; intro a hf
        refine e_nil ?_
        refine c_ret (q_thenR ?_)
        refine e_ret2 hf rfl rfl rfl ?_
        exact ⟨by simp only [doesP, if_neg he]; rfl, hs.below⟩
      · try simp only [decide_eq_true_eq, decide_eq_false_iff_not] at hc1
        have he : askE b (ordB b l) = 0 := by simpa using hc1
        obtain ⟨rfl, hmo, _, _⟩ := hcm he
        replace hs := hs.un (fun w h => h he)
        refine c_skip (q_thenN ?_)
        refine c_reg ?_
        refine gL hf (g_as hf rfl) (by decide) ?_; clear hf a; intro a hf
        refine e_nil ?_
        refine wp_seq ?_
        refine c_reg ?_
        refine gL hf (g_fa (off' := 0) hf F69_0 rfl rfl) (by decide) ?_; clear hf a; intro a hf
        refine gL hf (g_fa (off' := 3) hf F25_3 rfl rfl) (by decide) ?_; clear hf a; intro a hf
        refine gL hf (g_ld hf hs T23 rfl (k := 0) rfl rfl) (by decide) ?_; clear hf a; intro a hf
        refine gL hf (g_len hf SL23 rfl) (by decide) ?_; clear hf a; intro a hf
        refine gL hf (g_mv hf rfl) (by decide) ?_; clear hf a; intro a hf
        refine e_nil ?_
        refine c_block ?_
        refine c_loop hf hs (List.range' 8 1 ++ List.range' 10 1 ++ List.range' 26 25) (σ := Nat) (fun k => [(8, .int .i64 (worst b l k)), (26, .int .i64 (k : Nat))]) (fun k => _) (fun k => k ≤ b.rules.length) (fun k => b.rules.length - k) 0 (by omega) (.cons rfl (.cons rfl .nil)) rfl ?_
        intro k a w hJ hf hs
        refine c_reg ?_
        refine gL hf (g_lss hf rfl rfl) (by decide) ?_; clear hf a; intro a hf
        refine e_nil ?_
        refine c_condS hf rfl (fun hc2 => ?_) (fun hc2 => ?_)
        · try simp only [decide_eq_true_eq, decide_eq_false_iff_not] at hc2
          have hrm9 := getD_mem (l := b.rules) (i := k) (by omega)
          refine c_skip (q_thenN ?_)
          refine c_blockS ?_
          refine c_reg ?_
          (first | (refine gL hf (g_ixE hf hs (.tail _ (.tail _ (.head _))) SL23 rfl rfl (by omega)) (by decide) ?_) | (refine gL hf (g_ixD hf hs (.tail _ (.tail _ (.head _))) SL23 rfl rfl (by omega)) (by decide) ?_)); clear hf a; intro a hf
          refine gL hf (g_ldEW hf hs (.tail _ (.tail _ (.head _))) T64 rfl rfl (by omega)) (by decide) ?_; clear hf a; intro a hf
          refine vL hf (v_alloc hs T64 rfl) (by decide) ?_; clear hs hf a; rintro _ w ⟨b3, rfl, hs⟩ a hf
          refine uL (u_stW hf hs T64 rfl rfl rfl (k := 0) rfl rfl rfl) ?_; clear hs; intro w hs; dsimp only [List.set] at hs
          refine e_nil ?_
          refine c_draw _ 9 Mx rfl hs (fun _ h => h) ?_; intro w hs hS
          refine gA hf hS (i := 0) rfl (by kernel_rfl) (fun w hs => g_mv hf rfl) (by decide) ?_; clear hf a; intro a hf
          refine gA hf hS (i := 1) rfl (by kernel_rfl) (fun w hs => g_fa (off' := 1) hf F64_1 rfl rfl) (by decide) ?_; clear hf a; intro a hf
          refine gA hf hS (i := 2) rfl (by kernel_rfl) (fun w hs => g_ld hf hs T3 rfl (k := 0) rfl rfl) (by decide) ?_; clear hf a; intro a hf
          refine gA hf hS (i := 4) rfl (by kernel_rfl) (fun w hs => g_mv hf rfl) (by decide) ?_; clear hf a; intro a hf
          refine gA hf hS (i := 5) rfl (by kernel_rfl) (fun w hs => g_fa (off' := 0) hf F64_0 rfl rfl) (by decide) ?_; clear hf a; intro a hf
          refine gA hf hS (i := 6) rfl (by kernel_rfl) (fun w hs => g_ld hf hs T3 rfl (k := 0) rfl rfl) (by decide) ?_; clear hf a; intro a hf
          refine one (i := 3) (by kernel_rfl) ?_
          refine oCall hf hs rfl (c_Index _ _ _ l _ _ (hs.rd (.tail _ (.tail _ (.tail _ (.head _)))))) rfl rfl rfl E63 (by decide) (fun _ h => h.sub (.refl _)) ?_; clear hs hf hS a; intro w a hs hS hf
          refine one (i := 7) (by kernel_rfl) ?_
          refine oCall hf hs rfl (c_Index _ _ _ l _ _ (hs.rd (.tail _ (.tail _ (.tail _ (.head _)))))) rfl rfl rfl E63 (by decide) (fun _ h => h.sub (.refl _)) ?_; clear hs hf hS a; intro w a hs hS hf
          refine gA hf hS (i := 8) rfl (by kernel_rfl) (fun w hs => g_gtr hf rfl rfl) (by decide) ?_; clear hf a; intro a hf
          refine e_done (by kernel_rfl) ?_
          refine c_cond hf rfl (fun hc3 => ?_) (fun hc3 => ?_)
          · try simp only [decide_eq_true_eq, decide_eq_false_iff_not] at hc3
            have e9 : worst b l (k + 1) = max (worst b l k) (mget mp (b.rules.getD k default).over (b.rules.getD k default).under) := by rw [worst_succ (by omega), stepW, if_pos hc3, meets_rule hv hmo hrm9]
            refine c_reg1 ?_
            refine gL hf (g_mv hf rfl) (by decide) ?_; clear hf a; intro a hf
            refine gL hf (g_fa (off' := 4) hf F69_1 rfl rfl) (by decide) ?_; clear hf a; intro a hf
            refine gL hf (g_ld hf hs T67 rfl (k := 1) rfl rfl) (by decide) ?_; clear hf a; intro a hf
            refine gL hf (g_fa (off' := 0) hf F64_0 rfl rfl) (by decide) ?_; clear hf a; intro a hf
            refine gL hf (g_ld hf hs T3 rfl (k := 0) rfl rfl) (by decide) ?_; clear hf a; intro a hf
            refine gL hf (g_fa (off' := 1) hf F64_1 rfl rfl) (by decide) ?_; clear hf a; intro a hf
            refine gL hf (g_ld hf hs T3 rfl (k := 0) rfl rfl) (by decide) ?_; clear hf a; intro a hf
            refine gL hf (g_bld hf [[.int .i64 0], [.int .i64 0]] (.cons rfl (.cons rfl .nil)) (fun _ => by kernel_rfl)) (by decide) ?_; clear hf a; intro a hf
            refine gL hf (g_lookD hf hs (.head _) MT67 rfl rfl) (by decide) ?_; clear hf a; intro a hf
            refine vL hf (v_lits (len := 1) hf hs SL27 T3 (.cons rfl .nil) rfl rfl rfl rfl (by decide) rfl) (by decide) ?_; clear hs hf a; rintro _ w ⟨b4, rfl, hs⟩ a hf
            refine callL hf hs (c_greatest _ _ [_] (worst b l k) _ (rd_one rfl (hs.own _ _ (.head _)).2)) rfl rfl rfl E64 (by decide) ?_; clear hs hf a; intro w a hs hf
            refine gL hf (g_as hf rfl) (by decide) ?_; clear hf a; intro a hf
            refine e_nil1 (q_blkN (q_thenN ?_))
            refine c_reg1 ?_
            refine gL hf (g_addI hf rfl rfl (by omega)) (by decide) ?_; clear hf a; intro a hf
            refine gL hf (g_mv hf rfl) (by decide) ?_; clear hf a; intro a hf
            refine e_nil1 (q_thenN ?_)
            first | rw [show maxL (worst b l k) [mget mp (b.rules.getD k default).over (b.rules.getD k default).under] = worst b l (k + 1) from e9.symm] at hf | rw [← e9] at hf
            exact ⟨k + 1, (by omega), (by omega), hf.back (by repeat (first | (with_reducible exact Ext.base) | ((with_reducible refine Ext.cons ?_ ?_); (· rfl)) | ((with_reducible refine Ext.over ?_ ?_ ?_); (· rfl); (· rfl)))) (allKeys rfl) (.cons rfl (.cons rfl .nil)), hs.dropN 2⟩
          · try simp only [decide_eq_true_eq, decide_eq_false_iff_not] at hc3
            have e9 : worst b l (k + 1) = worst b l k := by rw [worst_succ (by omega), stepW, if_neg hc3]
            refine c_skip (q_blkN (q_thenN ?_))
            refine c_reg1 ?_
            refine gL hf (g_addI hf rfl rfl (by omega)) (by decide) ?_; clear hf a; intro a hf
            refine gL hf (g_mv hf rfl) (by decide) ?_; clear hf a; intro a hf
            refine e_nil1 (q_thenN ?_)
            first | rw [show maxL (worst b l k) [mget mp (b.rules.getD k default).over (b.rules.getD k default).under] = worst b l (k + 1) from e9.symm] at hf | rw [← e9] at hf
            exact ⟨k + 1, (by omega), (by omega), hf.back (by repeat (first | (with_reducible exact Ext.base) | ((with_reducible refine Ext.cons ?_ ?_); (· rfl)) | ((with_reducible refine Ext.over ?_ ?_ ?_); (· rfl); (· rfl)))) (allKeys rfl) (.cons rfl (.cons rfl .nil)), hs.dropN 1⟩
        · try simp only [decide_eq_true_eq, decide_eq_false_iff_not] at hc2
          refine c_exit (q_thenX (q_thenX (q_blkX (q_thenN ?_))))
          refine c_reg ?_
          refine gL hf (g_mv hf rfl) (by decide) ?_; clear hf a; intro a hf
          refine gL hf (g_subI hf rfl rfl (by have := worst_le b l k; omega)) (by decide) ?_; clear hf a; intro a hf
          refine gL hf (g_as hf rfl) (by decide) ?_; clear hf a; intro a hf
          refine gL hf (g_as hf rfl) (by decide) ?_; clear hf a; intro a hf
          refine e_nil ?_
          refine c_ret ?_
          refine e_ret2 hf rfl rfl rfl ?_
          have hk9 : k = b.rules.length := by omega
          subst hk9
          exact ⟨by simp only [doesP, he, if_true], hs.below⟩
    · skip
      refine oV hf rfl (v_alloc hs T69 rfl) (by decide) (fun _ _ ⟨_, _, h⟩ => h.sub (.cons _ (.refl _))) ?_; clear hs hf hS a; rintro _ w ⟨b2, rfl, hs⟩ hS a hf
      refine one (i := 4) (by kernel_rfl) ?_
      refine oCallX hf hs rfl (c_asked b _ _ _ _ _ _ (ordB b l) _ ⟨hs.rd (.head _), hs.rd (.tail _ (.head _)), h.fc_, h.rc_⟩ (hs.rd (.tail _ (.tail _ (.tail _ (.head _)))))) rfl rfl rfl E54 (by decide) (fun _ h => h.sub (.cons _ (.refl _))) ?_; intro v w1 a hR hb hs1 hS hf; obtain ⟨cs, mb, mp, rfl, hcl, hcp, hcm⟩ := hR; replace hs := hs.fresh hs1 (condFresh fun he => (hcm he).2.2); clear hs1 hb
      refine gA hf hS (i := 5) rfl (by kernel_rfl) (fun w hs => g_mv hf rfl) (by decide) ?_; clear hf a; intro a hf
      refine gA hf hS (i := 6) rfl (by kernel_rfl) (fun w hs => g_ext hf rfl rfl) (by decide) ?_; clear hf a; intro a hf
      refine gA hf hS (i := 7) rfl (by kernel_rfl) (fun w hs => g_ext hf rfl rfl) (by decide) ?_; clear hf a; intro a hf
      refine one (i := 9) (by kernel_rfl) ?_
      refine oU rfl (u_stW hf hs T69 rfl rfl hcp (k := 0) rfl hcl hcl) (fun _ h => (h.sub (.cons _ (.refl _))).subD (fun _ h => (.tail _ h))) ?_; clear hs hS; intro w hs hS; dsimp only [List.set] at hs
      refine gA hf hS (i := 10) rfl (by kernel_rfl) (fun w hs => g_as hf rfl) (by decide) ?_; clear hf a; intro a hf
      refine e_done (by kernel_rfl) ?_
      refine wp_seq ?_
      refine c_reg ?_
      refine gL hf (g_mv hf rfl) (by decide) ?_; clear hf a; intro a hf
      refine gL hf (g_neq hf rfl rfl) (by decide) ?_; clear hf a; intro a hf
      refine e_nil ?_
      refine c_cond hf rfl (fun hc1 => ?_) (fun hc1 => ?_)
      · try simp only [decide_eq_true_eq, decide_eq_false_iff_not] at hc1
        have he : ¬ askE b (ordB b l) = 0 := by simpa using hc1
        refine c_reg ?_
        refine gL hf (g_mv hf rfl) (by decide) ?_; clear hf a; intro a hf
        refine gL hf (g_as hf rfl) (by decide) ?_; clear hf a; intro a hf
        refine gL hf (g_as hf rfl) (by decide) ?_; clear hf a; intro a hf
        refine e_nil ?_
        refine c_ret (q_thenR ?_)
        refine e_ret2 hf rfl rfl rfl ?_
        exact ⟨by simp only [doesP, if_neg he]; rfl, hs.below⟩
      · try simp only [decide_eq_true_eq, decide_eq_false_iff_not] at hc1
        have he : askE b (ordB b l) = 0 := by simpa using hc1
        obtain ⟨rfl, hmo, _, _⟩ := hcm he
        replace hs := hs.un (fun w h => h he)
        refine c_skip (q_thenN ?_)
        refine c_reg ?_
        refine gL hf (g_as hf rfl) (by decide) ?_; clear hf a; intro a hf
        refine e_nil ?_
        refine wp_seq ?_
        refine c_reg ?_
        refine gL hf (g_fa (off' := 0) hf F69_0 rfl rfl) (by decide) ?_; clear hf a; intro a hf
        refine gL hf (g_fa (off' := 3) hf F25_3 rfl rfl) (by decide) ?_; clear hf a; intro a hf
        refine gL hf (g_ld hf hs T23 rfl (k := 0) rfl rfl) (by decide) ?_; clear hf a; intro a hf
        refine gL hf (g_len hf SL23 rfl) (by decide) ?_; clear hf a; intro a hf
        refine gL hf (g_mv hf rfl) (by decide) ?_; clear hf a; intro a hf
        refine e_nil ?_
        refine c_block ?_
        refine c_loop hf hs (List.range' 8 1 ++ List.range' 10 1 ++ List.range' 26 25) (σ := Nat) (fun k => [(8, .int .i64 (worst b l k)), (26, .int .i64 (k : Nat))]) (fun k => _) (fun k => k ≤ b.rules.length) (fun k => b.rules.length - k) 0 (by omega) (.cons rfl (.cons rfl .nil)) rfl ?_
        intro k a w hJ hf hs
        refine c_reg ?_
        refine gL hf (g_lss hf rfl rfl) (by decide) ?_; clear hf a; intro a hf
        refine e_nil ?_
        refine c_condS hf rfl (fun hc2 => ?_) (fun hc2 => ?_)
        · try simp only [decide_eq_true_eq, decide_eq_false_iff_not] at hc2
          have hrm9 := getD_mem (l := b.rules) (i := k) (by omega)
          refine c_skip (q_thenN ?_)
          refine c_blockS ?_
          refine c_reg ?_
          (first | (refine gL hf (g_ixE hf hs (.tail _ (.tail _ (.head _))) SL23 rfl rfl (by omega)) (by decide) ?_) | (refine gL hf (g_ixD hf hs (.tail _ (.tail _ (.head _))) SL23 rfl rfl (by omega)) (by decide) ?_)); clear hf a; intro a hf
          refine gL hf (g_ldEW hf hs (.tail _ (.tail _ (.head _))) T64 rfl rfl (by omega)) (by decide) ?_; clear hf a; intro a hf
          refine vL hf (v_alloc hs T64 rfl) (by decide) ?_; clear hs hf a; rintro _ w ⟨b3, rfl, hs⟩ a hf
          refine uL (u_stW hf hs T64 rfl rfl rfl (k := 0) rfl rfl rfl) ?_; clear hs; intro w hs; dsimp only [List.set] at hs
          refine e_nil ?_
          refine c_draw _ 9 Mx rfl hs (fun _ h => h) ?_; intro w hs hS
          refine gA hf hS (i := 0) rfl (by kernel_rfl) (fun w hs => g_mv hf rfl) (by decide) ?_; clear hf a; intro a hf
          refine gA hf hS (i := 1) rfl (by kernel_rfl) (fun w hs => g_fa (off' := 1) hf F64_1 rfl rfl) (by decide) ?_; clear hf a; intro a hf
          refine gA hf hS (i := 2) rfl (by kernel_rfl) (fun w hs => g_ld hf hs T3 rfl (k := 0) rfl rfl) (by decide) ?_; clear hf a; intro a hf
          refine gA hf hS (i := 4) rfl (by kernel_rfl) (fun w hs => g_mv hf rfl) (by decide) ?_; clear hf a; intro a hf
          refine gA hf hS (i := 5) rfl (by kernel_rfl) (fun w hs => g_fa (off' := 0) hf F64_0 rfl rfl) (by decide) ?_; clear hf a; intro a hf
          refine gA hf hS (i := 6) rfl (by kernel_rfl) (fun w hs => g_ld hf hs T3 rfl (k := 0) rfl rfl) (by decide) ?_; clear hf a; intro a hf
          refine one (i := 3) (by kernel_rfl) ?_
          refine oCall hf hs rfl (c_Index _ _ _ l _ _ (hs.rd (.tail _ (.tail _ (.tail _ (.head _)))))) rfl rfl rfl E63 (by decide) (fun _ h => h.sub (.refl _)) ?_; clear hs hf hS a; intro w a hs hS hf
          refine one (i := 7) (by kernel_rfl) ?_
          refine oCall hf hs rfl (c_Index _ _ _ l _ _ (hs.rd (.tail _ (.tail _ (.tail _ (.head _)))))) rfl rfl rfl E63 (by decide) (fun _ h => h.sub (.refl _)) ?_; clear hs hf hS a; intro w a hs hS hf
          refine gA hf hS (i := 8) rfl (by kernel_rfl) (fun w hs => g_gtr hf rfl rfl) (by decide) ?_; clear hf a; intro a hf
          refine e_done (by kernel_rfl) ?_
          refine c_cond hf rfl (fun hc3 => ?_) (fun hc3 => ?_)
          · try simp only [decide_eq_true_eq, decide_eq_false_iff_not] at hc3
            have e9 : worst b l (k + 1) = max (worst b l k) (mget mp (b.rules.getD k default).over (b.rules.getD k default).under) := by rw [worst_succ (by omega), stepW, if_pos hc3, meets_rule hv hmo hrm9]
            refine c_reg1 ?_
            refine gL hf (g_mv hf rfl) (by decide) ?_; clear hf a; intro a hf
            refine gL hf (g_fa (off' := 4) hf F69_1 rfl rfl) (by decide) ?_; clear hf a; intro a hf
            refine gL hf (g_ld hf hs T67 rfl (k := 1) rfl rfl) (by decide) ?_; clear hf a; intro a hf
            refine gL hf (g_fa (off' := 0) hf F64_0 rfl rfl) (by decide) ?_; clear hf a; intro a hf
            refine gL hf (g_ld hf hs T3 rfl (k := 0) rfl rfl) (by decide) ?_; clear hf a; intro a hf
            refine gL hf (g_fa (off' := 1) hf F64_1 rfl rfl) (by decide) ?_; clear hf a; intro a hf
            refine gL hf (g_ld hf hs T3 rfl (k := 0) rfl rfl) (by decide) ?_; clear hf a; intro a hf
            refine gL hf (g_bld hf [[.int .i64 0], [.int .i64 0]] (.cons rfl (.cons rfl .nil)) (fun _ => by kernel_rfl)) (by decide) ?_; clear hf a; intro a hf
            refine gL hf (g_lookD hf hs (.head _) MT67 rfl rfl) (by decide) ?_; clear hf a; intro a hf
            refine vL hf (v_lits (len := 1) hf hs SL27 T3 (.cons rfl .nil) rfl rfl rfl rfl (by decide) rfl) (by decide) ?_; clear hs hf a; rintro _ w ⟨b4, rfl, hs⟩ a hf
            refine callL hf hs (c_greatest _ _ [_] (worst b l k) _ (rd_one rfl (hs.own _ _ (.head _)).2)) rfl rfl rfl E64 (by decide) ?_; clear hs hf a; intro w a hs hf
            refine gL hf (g_as hf rfl) (by decide) ?_; clear hf a; intro a hf
            refine e_nil1 (q_blkN (q_thenN ?_))
            refine c_reg1 ?_
            refine gL hf (g_addI hf rfl rfl (by omega)) (by decide) ?_; clear hf a; intro a hf
            refine gL hf (g_mv hf rfl) (by decide) ?_; clear hf a; intro a hf
            refine e_nil1 (q_thenN ?_)
            first | rw [show maxL (worst b l k) [mget mp (b.rules.getD k default).over (b.rules.getD k default).under] = worst b l (k + 1) from e9.symm] at hf | rw [← e9] at hf
            exact ⟨k + 1, (by omega), (by omega), hf.back (by repeat (first | (with_reducible exact Ext.base) | ((with_reducible refine Ext.cons ?_ ?_); (· rfl)) | ((with_reducible refine Ext.over ?_ ?_ ?_); (· rfl); (· rfl)))) (allKeys rfl) (.cons rfl (.cons rfl .nil)), hs.dropN 2⟩
          · try simp only [decide_eq_true_eq, decide_eq_false_iff_not] at hc3
            have e9 : worst b l (k + 1) = worst b l k := by rw [worst_succ (by omega), stepW, if_neg hc3]
            refine c_skip (q_blkN (q_thenN ?_))
            refine c_reg1 ?_
            refine gL hf (g_addI hf rfl rfl (by omega)) (by decide) ?_; clear hf a; intro a hf
            refine gL hf (g_mv hf rfl) (by decide) ?_; clear hf a; intro a hf
            refine e_nil1 (q_thenN ?_)
            first | rw [show maxL (worst b l k) [mget mp (b.rules.getD k default).over (b.rules.getD k default).under] = worst b l (k + 1) from e9.symm] at hf | rw [← e9] at hf
            exact ⟨k + 1, (by omega), (by omega), hf.back (by repeat (first | (with_reducible exact Ext.base) | ((with_reducible refine Ext.cons ?_ ?_); (· rfl)) | ((with_reducible refine Ext.over ?_ ?_ ?_); (· rfl); (· rfl)))) (allKeys rfl) (.cons rfl (.cons rfl .nil)), hs.dropN 1⟩
        · try simp only [decide_eq_true_eq, decide_eq_false_iff_not] at hc2
          refine c_exit (q_thenX (q_thenX (q_blkX (q_thenN ?_))))
          refine c_reg ?_
          refine gL hf (g_mv hf rfl) (by decide) ?_; clear hf a; intro a hf
          refine gL hf (g_subI hf rfl rfl (by have := worst_le b l k; omega)) (by decide) ?_; clear hf a; intro a hf
          refine gL hf (g_as hf rfl) (by decide) ?_; clear hf a; intro a hf
          refine gL hf (g_as hf rfl) (by decide) ?_; clear hf a; intro a hf
          refine e_nil ?_
          refine c_ret ?_
          refine e_ret2 hf rfl rfl rfl ?_
          have hk9 : k = b.rules.length := by omega
          subst hk9
          exact ⟨by simp only [doesP, he, if_true], hs.below⟩
  · skip
    refine oV hf rfl (v_alloc hs T69 rfl) (by decide) (fun _ _ ⟨_, _, h⟩ => h.sub (.cons _ (.refl _))) ?_; clear hs hf hS a; rintro _ w ⟨b2, rfl, hs⟩ hS a hf
    refine one (i := 3) (by kernel_rfl) ?_
    refine oCall hf hs rfl (c_isOrder b _ _ _ _ _ _ l hv _ ⟨hs.rd (.head _), hs.rd (.tail _ (.head _)), h.fc_, h.rc_⟩ (hs.rd (.tail _ (.tail _ (.head _))))) rfl rfl rfl E62 (by decide) (fun _ h => h.sub (.cons _ (.refl _))) ?_; clear hs hf hS a; intro w a hs hS hf
    refine one (i := 4) (by kernel_rfl) ?_
    refine oCallX hf hs rfl (c_asked b _ _ _ _ _ _ (ordB b l) _ ⟨hs.rd (.head _), hs.rd (.tail _ (.head _)), h.fc_, h.rc_⟩ (hs.rd (.tail _ (.tail _ (.tail _ (.head _)))))) rfl rfl rfl E54 (by decide) (fun _ h => h.sub (.cons _ (.refl _))) ?_; intro v w1 a hR hb hs1 hS hf; obtain ⟨cs, mb, mp, rfl, hcl, hcp, hcm⟩ := hR; replace hs := hs.fresh hs1 (condFresh fun he => (hcm he).2.2); clear hs1 hb
    refine gA hf hS (i := 5) rfl (by kernel_rfl) (fun w hs => g_mv hf rfl) (by decide) ?_; clear hf a; intro a hf
    refine gA hf hS (i := 6) rfl (by kernel_rfl) (fun w hs => g_ext hf rfl rfl) (by decide) ?_; clear hf a; intro a hf
    refine gA hf hS (i := 7) rfl (by kernel_rfl) (fun w hs => g_ext hf rfl rfl) (by decide) ?_; clear hf a; intro a hf
    refine one (i := 9) (by kernel_rfl) ?_
    refine oU rfl (u_stW hf hs T69 rfl rfl hcp (k := 0) rfl hcl hcl) (fun _ h => (h.sub (.cons _ (.refl _))).subD (fun _ h => (.tail _ h))) ?_; clear hs hS; intro w hs hS; dsimp only [List.set] at hs
    refine gA hf hS (i := 10) rfl (by kernel_rfl) (fun w hs => g_as hf rfl) (by decide) ?_; clear hf a; intro a hf
    refine e_done (by kernel_rfl) ?_
    refine wp_seq ?_
    refine c_reg ?_
    refine gL hf (g_mv hf rfl) (by decide) ?_; clear hf a; intro a hf
    refine gL hf (g_neq hf rfl rfl) (by decide) ?_; clear hf a; intro a hf
    refine e_nil ?_
    refine c_cond hf rfl (fun hc1 => ?_) (fun hc1 => ?_)
    · try simp only [decide_eq_true_eq, decide_eq_false_iff_not] at hc1
      have he : ¬ askE b (ordB b l) = 0 := by simpa using hc1
      refine c_reg ?_
      refine gL hf (g_mv hf rfl) (by decide) ?_; clear hf a; intro a hf
      refine gL hf (g_as hf rfl) (by decide) ?_; clear hf a; intro a hf
      refine gL hf (g_as hf rfl) (by decide) ?_; clear hf a; intro a hf
      refine e_nil ?_
      refine c_ret (q_thenR ?_)
      refine e_ret2 hf rfl rfl rfl ?_
      exact ⟨by simp only [doesP, if_neg he]; rfl, hs.below⟩
    · try simp only [decide_eq_true_eq, decide_eq_false_iff_not] at hc1
      have he : askE b (ordB b l) = 0 := by simpa using hc1
      obtain ⟨rfl, hmo, _, _⟩ := hcm he
      replace hs := hs.un (fun w h => h he)
      refine c_skip (q_thenN ?_)
      refine c_reg ?_
      refine gL hf (g_as hf rfl) (by decide) ?_; clear hf a; intro a hf
      refine e_nil ?_
      refine wp_seq ?_
      refine c_reg ?_
      refine gL hf (g_fa (off' := 0) hf F69_0 rfl rfl) (by decide) ?_; clear hf a; intro a hf
      refine gL hf (g_fa (off' := 3) hf F25_3 rfl rfl) (by decide) ?_; clear hf a; intro a hf
      refine gL hf (g_ld hf hs T23 rfl (k := 0) rfl rfl) (by decide) ?_; clear hf a; intro a hf
      refine gL hf (g_len hf SL23 rfl) (by decide) ?_; clear hf a; intro a hf
      refine gL hf (g_mv hf rfl) (by decide) ?_; clear hf a; intro a hf
      refine e_nil ?_
      refine c_block ?_
      refine c_loop hf hs (List.range' 8 1 ++ List.range' 10 1 ++ List.range' 26 25) (σ := Nat) (fun k => [(8, .int .i64 (worst b l k)), (26, .int .i64 (k : Nat))]) (fun k => _) (fun k => k ≤ b.rules.length) (fun k => b.rules.length - k) 0 (by omega) (.cons rfl (.cons rfl .nil)) rfl ?_
      intro k a w hJ hf hs
      refine c_reg ?_
      refine gL hf (g_lss hf rfl rfl) (by decide) ?_; clear hf a; intro a hf
      refine e_nil ?_
      refine c_condS hf rfl (fun hc2 => ?_) (fun hc2 => ?_)
      · try simp only [decide_eq_true_eq, decide_eq_false_iff_not] at hc2
        have hrm9 := getD_mem (l := b.rules) (i := k) (by omega)
        refine c_skip (q_thenN ?_)
        refine c_blockS ?_
        refine c_reg ?_
        (first | (refine gL hf (g_ixE hf hs (.tail _ (.tail _ (.head _))) SL23 rfl rfl (by omega)) (by decide) ?_) | (refine gL hf (g_ixD hf hs (.tail _ (.tail _ (.head _))) SL23 rfl rfl (by omega)) (by decide) ?_)); clear hf a; intro a hf
        refine gL hf (g_ldEW hf hs (.tail _ (.tail _ (.head _))) T64 rfl rfl (by omega)) (by decide) ?_; clear hf a; intro a hf
        refine vL hf (v_alloc hs T64 rfl) (by decide) ?_; clear hs hf a; rintro _ w ⟨b3, rfl, hs⟩ a hf
        refine uL (u_stW hf hs T64 rfl rfl rfl (k := 0) rfl rfl rfl) ?_; clear hs; intro w hs; dsimp only [List.set] at hs
        refine e_nil ?_
        refine c_draw _ 9 Mx rfl hs (fun _ h => h) ?_; intro w hs hS
        refine gA hf hS (i := 0) rfl (by kernel_rfl) (fun w hs => g_mv hf rfl) (by decide) ?_; clear hf a; intro a hf
        refine gA hf hS (i := 1) rfl (by kernel_rfl) (fun w hs => g_fa (off' := 1) hf F64_1 rfl rfl) (by decide) ?_; clear hf a; intro a hf
        refine gA hf hS (i := 2) rfl (by kernel_rfl) (fun w hs => g_ld hf hs T3 rfl (k := 0) rfl rfl) (by decide) ?_; clear hf a; intro a hf
        refine gA hf hS (i := 4) rfl (by kernel_rfl) (fun w hs => g_mv hf rfl) (by decide) ?_; clear hf a; intro a hf
        refine gA hf hS (i := 5) rfl (by kernel_rfl) (fun w hs => g_fa (off' := 0) hf F64_0 rfl rfl) (by decide) ?_; clear hf a; intro a hf
        refine gA hf hS (i := 6) rfl (by kernel_rfl) (fun w hs => g_ld hf hs T3 rfl (k := 0) rfl rfl) (by decide) ?_; clear hf a; intro a hf
        refine one (i := 3) (by kernel_rfl) ?_
        refine oCall hf hs rfl (c_Index _ _ _ l _ _ (hs.rd (.tail _ (.tail _ (.tail _ (.head _)))))) rfl rfl rfl E63 (by decide) (fun _ h => h.sub (.refl _)) ?_; clear hs hf hS a; intro w a hs hS hf
        refine one (i := 7) (by kernel_rfl) ?_
        refine oCall hf hs rfl (c_Index _ _ _ l _ _ (hs.rd (.tail _ (.tail _ (.tail _ (.head _)))))) rfl rfl rfl E63 (by decide) (fun _ h => h.sub (.refl _)) ?_; clear hs hf hS a; intro w a hs hS hf
        refine gA hf hS (i := 8) rfl (by kernel_rfl) (fun w hs => g_gtr hf rfl rfl) (by decide) ?_; clear hf a; intro a hf
        refine e_done (by kernel_rfl) ?_
        refine c_cond hf rfl (fun hc3 => ?_) (fun hc3 => ?_)
        · try simp only [decide_eq_true_eq, decide_eq_false_iff_not] at hc3
          have e9 : worst b l (k + 1) = max (worst b l k) (mget mp (b.rules.getD k default).over (b.rules.getD k default).under) := by rw [worst_succ (by omega), stepW, if_pos hc3, meets_rule hv hmo hrm9]
          refine c_reg1 ?_
          refine gL hf (g_mv hf rfl) (by decide) ?_; clear hf a; intro a hf
          refine gL hf (g_fa (off' := 4) hf F69_1 rfl rfl) (by decide) ?_; clear hf a; intro a hf
          refine gL hf (g_ld hf hs T67 rfl (k := 1) rfl rfl) (by decide) ?_; clear hf a; intro a hf
          refine gL hf (g_fa (off' := 0) hf F64_0 rfl rfl) (by decide) ?_; clear hf a; intro a hf
          refine gL hf (g_ld hf hs T3 rfl (k := 0) rfl rfl) (by decide) ?_; clear hf a; intro a hf
          refine gL hf (g_fa (off' := 1) hf F64_1 rfl rfl) (by decide) ?_; clear hf a; intro a hf
          refine gL hf (g_ld hf hs T3 rfl (k := 0) rfl rfl) (by decide) ?_; clear hf a; intro a hf
          refine gL hf (g_bld hf [[.int .i64 0], [.int .i64 0]] (.cons rfl (.cons rfl .nil)) (fun _ => by kernel_rfl)) (by decide) ?_; clear hf a; intro a hf
          refine gL hf (g_lookD hf hs (.head _) MT67 rfl rfl) (by decide) ?_; clear hf a; intro a hf
          refine vL hf (v_lits (len := 1) hf hs SL27 T3 (.cons rfl .nil) rfl rfl rfl rfl (by decide) rfl) (by decide) ?_; clear hs hf a; rintro _ w ⟨b4, rfl, hs⟩ a hf
          refine callL hf hs (c_greatest _ _ [_] (worst b l k) _ (rd_one rfl (hs.own _ _ (.head _)).2)) rfl rfl rfl E64 (by decide) ?_; clear hs hf a; intro w a hs hf
          refine gL hf (g_as hf rfl) (by decide) ?_; clear hf a; intro a hf
          refine e_nil1 (q_blkN (q_thenN ?_))
          refine c_reg1 ?_
          refine gL hf (g_addI hf rfl rfl (by omega)) (by decide) ?_; clear hf a; intro a hf
          refine gL hf (g_mv hf rfl) (by decide) ?_; clear hf a; intro a hf
          refine e_nil1 (q_thenN ?_)
          first | rw [show maxL (worst b l k) [mget mp (b.rules.getD k default).over (b.rules.getD k default).under] = worst b l (k + 1) from e9.symm] at hf | rw [← e9] at hf
          exact ⟨k + 1, (by omega), (by omega), hf.back (by repeat (first | (with_reducible exact Ext.base) | ((with_reducible refine Ext.cons ?_ ?_); (· rfl)) | ((with_reducible refine Ext.over ?_ ?_ ?_); (· rfl); (· rfl)))) (allKeys rfl) (.cons rfl (.cons rfl .nil)), hs.dropN 2⟩
        · try simp only [decide_eq_true_eq, decide_eq_false_iff_not] at hc3
          have e9 : worst b l (k + 1) = worst b l k := by rw [worst_succ (by omega), stepW, if_neg hc3]
          refine c_skip (q_blkN (q_thenN ?_))
          refine c_reg1 ?_
          refine gL hf (g_addI hf rfl rfl (by omega)) (by decide) ?_; clear hf a; intro a hf
          refine gL hf (g_mv hf rfl) (by decide) ?_; clear hf a; intro a hf
          refine e_nil1 (q_thenN ?_)
          first | rw [show maxL (worst b l k) [mget mp (b.rules.getD k default).over (b.rules.getD k default).under] = worst b l (k + 1) from e9.symm] at hf | rw [← e9] at hf
          exact ⟨k + 1, (by omega), (by omega), hf.back (by repeat (first | (with_reducible exact Ext.base) | ((with_reducible refine Ext.cons ?_ ?_); (· rfl)) | ((with_reducible refine Ext.over ?_ ?_ ?_); (· rfl); (· rfl)))) (allKeys rfl) (.cons rfl (.cons rfl .nil)), hs.dropN 1⟩
      · try simp only [decide_eq_true_eq, decide_eq_false_iff_not] at hc2
        refine c_exit (q_thenX (q_thenX (q_blkX (q_thenN ?_))))
        refine c_reg ?_
        refine gL hf (g_mv hf rfl) (by decide) ?_; clear hf a; intro a hf
        refine gL hf (g_subI hf rfl rfl (by have := worst_le b l k; omega)) (by decide) ?_; clear hf a; intro a hf
        refine gL hf (g_as hf rfl) (by decide) ?_; clear hf a; intro a hf
        refine gL hf (g_as hf rfl) (by decide) ?_; clear hf a; intro a hf
        refine e_nil ?_
        refine c_ret ?_
        refine e_ret2 hf rfl rfl rfl ?_
        have hk9 : k = b.rules.length := by omega
        subst hk9
        exact ⟨by simp only [doesP, he, if_true], hs.below⟩

end Go.Proofs.YtpjhffockmnjbaaDoor
set_option linter.unusedVariables false
set_option linter.unusedSimpArgs false
namespace Go.Proofs.YtpjhffockmnjbaaDoor
open Go.RowKit
theorem c_on_step (c : OnCtx) (k : Nat) (ih : ∀ k1, k1 < k → OnSpec c k1) (w0 : World) (pre : List (List Int)) (p : List Int) (d : List Bool) (A : Option Addr) (cp : Nat) (hl3 : Later c.X c.w3 w0) (hJ0 : (c.J pre).1 w0) (hpre : pre ++ ordsF c.b c.mp k p d <+: allOrds c.b c.mp) (hpk : p.length + k = c.b.flaps.length) (hd : d.length = 7) (hp : Rd encI 1 A p.length p w0) (hA : ∀ b o, A = some ⟨b, o, none⟩ → c.M0 ≤ b) (hcp : p.length ≤ cp) :
    Calls Tryd.prog 98 #[.slice A p.length cp, .agg (dnA d), .pointer (some ⟨c.bs, 0, none⟩), .pointer (some ⟨c.yb, 0, none⟩), .pointer (some ⟨c.tb, 0, none⟩), .pointer (some ⟨c.nb, 0, none⟩)] w0 (RetR (OnR c k pre p d w0)) := by
  have hM : c.M0 ≤ w0.heap.size := by have := c.hW.1; have := hl3.1; have := c.hM; omega
  have hA0 : A = none → p.length = 0 := fun e => by
    rcases Nat.eq_zero_or_pos p.length with h | h
    · exact h
    · have := hp.isSome h; rw [e] at this; cases this
  refine c_enter (n := 54) Tryd.func98 rfl rfl (Nat.le_of_ble_eq_true rfl) ?_; intro a hf; simp only [zipR] at hf
  have hs := c.start hM hl3 (c.J pre) hJ0 hp hA
  have hmany := c.hv.many; have hlm := hp.2.1
  refine c_reg ?_
  refine vL hf (v_boxA hf hs rfl) (by decide) ?_; clear hs hf a; rintro _ w ⟨b1, rfl, hs⟩ a hf
  refine gL hf (g_as hf rfl) (by decide) ?_; clear hf a; intro a hf
  refine e_nil ?_
  refine wp_scope_straight ?_
  refine c_reg ?_
  refine gL hf (g_mv hf rfl) (by decide) ?_; clear hf a; intro a hf
  refine gL hf (g_len hf SL27 rfl) (by decide) ?_; clear hf a; intro a hf
  refine gL hf (g_as hf rfl) (by decide) ?_; clear hf a; intro a hf
  refine e_nil ?_
  refine wp_seq ?_
  refine c_reg ?_
  refine gL hf (g_mv hf rfl) (by decide) ?_; clear hf a; intro a hf
  refine gL hf (g_fa (off' := 0) hf F69_0 rfl rfl) (by decide) ?_; clear hf a; intro a hf
  refine gL hf (g_fa (off' := 2) hf F25_2 rfl rfl) (by decide) ?_; clear hf a; intro a hf
  refine gL hf (g_ldB hf hs (.tail _ (.tail _ (.tail _ (.tail _ (.head _))))) T22 rfl rfl) (by decide) ?_; clear hf a; intro a hf
  refine gL hf (g_len hf SL22 rfl) (by decide) ?_; clear hf a; intro a hf
  refine gL hf (g_eql hf rfl rfl) (by decide) ?_; clear hf a; intro a hf
  refine e_nil ?_
  refine c_cond hf rfl (fun hc1 => ?_) (fun hc1 => ?_)
  · skip
    have hk0 : k = 0 := by simp at hc1; omega
    subst hk0
    refine (wpIn_wide (n := 0)).1 (i_reg (r := none) (m := 0) ?_)
    refine gI hf (g_ldB hf hs (.tail _ (.tail _ (.tail _ (.tail _ (.tail _ (.head _)))))) T104 rfl rfl) (by intro c; simp) (by decide) ?_; clear hf a; intro a hf
    refine gI hf (g_mv hf rfl) (by intro c; simp) (by decide) ?_; clear hf a; intro a hf
    refine yieldI (m := 0) hf (c.hY pre p A cp w hs.kept (c.hW.trans (hl3.trans hs.later)) hpre (hs.rd (.head _)) hcp hA) rfl rfl (by decide) (fun e w' h => by rcases h.2 with h | h <;> exact ⟨_, h.1⟩) ?_
    clear hf a; intro u w1 a hR1 hf
    obtain ⟨r, rfl, hl1, ht1, hf1⟩ : ∃ r, u = .bool r ∧ Later c.X w w1 ∧ (r = true → (c.J (pre ++ [p])).1 w1) ∧ (r = false → c.Jx (pre ++ [p]) w1) := by
      rcases hR1.2 with ⟨e1, hj⟩ | ⟨e1, hj⟩
      · cases e1; exact ⟨true, rfl, hR1.1, fun _ => hj, fun h => (by cases h)⟩
      · cases e1; exact ⟨false, rfl, hR1.1, fun h => (by cases h), fun _ => hj⟩
    refine gI hf (g_as hf rfl) (by intro c; simp) (by decide) ?_; clear hf a; intro a hf
    refine i_nil ((wpIn_wide (n := 0)).2 ?_)
    refine c_ret (q_thenR (q_scopeR ?_))
    refine e_ret1 hf rfl rfl ?_
    exact ⟨_, rfl, r, rfl, hs.later.trans hl1, ht1, fun h => ⟨[p], by simp, List.prefix_refl _, hf1 h⟩⟩
  · skip
    obtain ⟨k1, rfl⟩ : ∃ k1, k = k1 + 1 := ⟨k - 1, by simp at hc1; omega⟩
    refine c_skip (q_thenN ?_)
    refine wp_seq ?_
    refine c_label (q_thenN ?_)
    refine wp_seq ?_
    refine c_reg ?_
    refine gL hf (g_fa (off' := 0) hf F69_0 rfl rfl) (by decide) ?_; clear hf a; intro a hf
    refine gL hf (g_fa (off' := 2) hf F25_2 rfl rfl) (by decide) ?_; clear hf a; intro a hf
    refine gL hf (g_ldB hf hs (.tail _ (.tail _ (.tail _ (.tail _ (.head _))))) T22 rfl rfl) (by decide) ?_; clear hf a; intro a hf
    refine gL hf (g_len hf SL22 rfl) (by decide) ?_; clear hf a; intro a hf
    refine gL hf (g_mv hf rfl) (by decide) ?_; clear hf a; intro a hf
    refine e_nil ?_
    refine c_block ?_
    have e0 : pre = pre ++ (List.range 0).flatMap (ordStep c.b c.mp p d (ordsF c.b c.mp k1)) := by simp
    rw [e0] at hs
    refine c_loopB (fun i => Base.it w0 c.X c.M0 c.hX hM (c.J (pre ++ (List.range i).flatMap (ordStep c.b c.mp p d (ordsF c.b c.mp k1))))) hf (List.range' 8 1 ++ List.range' 10 2 ++ List.range' 27 27) (σ := Nat) (fun i => [(27, .int .i64 (i : Nat))]) (fun i => [(b1, .cells (dnA d) 102 (0, 0))]) (fun i => i ≤ c.b.flaps.length) (fun i => c.b.flaps.length - i) 0 hs (by omega) (.cons rfl .nil) ?_
    intro i a w hJ hf hs
    refine c_reg ?_
    refine gL hf (g_lss hf rfl rfl) (by decide) ?_; clear hf a; intro a hf
    refine e_nil ?_
    refine c_condS hf rfl (fun hc2 => ?_) (fun hc2 => ?_)
    · try simp only [decide_eq_true_eq, decide_eq_false_iff_not] at hc2
      refine c_skip (q_thenN ?_)
      refine c_blockS ?_
      refine c_reg ?_
      refine gL hf (g_mv hf rfl) (by decide) ?_; clear hf a; intro a hf
      refine gL hf (g_as hf rfl) (by decide) ?_; clear hf a; intro a hf
      refine e_nil ?_
      refine wp_seq ?_
      refine c_reg ?_
      refine gL hf (g_mv hf rfl) (by decide) ?_; clear hf a; intro a hf
      refine gL hf (g_ixA hf AR102 rfl rfl (by omega)) (by decide) ?_; clear hf a; intro a hf
      refine gL hf (g_ld hf hs T4 rfl (k := 0) rfl (dn_get hd (by omega))) (by decide) ?_; clear hf a; intro a hf
      refine gL hf (g_mv hf rfl) (by decide) ?_; clear hf a; intro a hf
      refine ggL hf rfl rfl (gyes_f _) (fun hg => g_ldB hf hs (.tail _ (.tail _ (.tail _ (.tail _ (.tail _ (.tail _ (.head _))))))) T105 rfl rfl) (by decide) ?_; clear hf a; intro a hf
      refine ggL hf rfl rfl (gyes_f _) (fun hg => g_ldW hf hs T102 rfl (k := 0) rfl (by rw [dn_size]; exact hd)) (by decide) ?_; clear hf a; intro a hf
      refine ggL hf rfl rfl (gyes_f _) (fun hg => g_mv hf rfl) (by decide) ?_; clear hf a; intro a hf
      refine callG hf hs rfl rfl (gyes_f _) (fun hg => ⟨_, _, _, _, c_stopped c.b _ _ _ _ _ _ d _ c.hv hd _ ⟨hs.rd (.tail _ (.head _)), hs.rd (.tail _ (.tail _ (.head _))), c.hfc, c.hrc⟩ (hs.rd (.tail _ (.tail _ (.tail _ (.head _))))), (ev_gv rfl hg), evs_cons (ev_gv rfl hg) (evs_cons (ev_gv rfl hg) evs_nil), rfl⟩) E97 (by decide) ?_; clear hs hf a; intro w a hs hf
      refine gL hf (g_or hf rfl rfl) (by decide) ?_; clear hf a; intro a hf
      refine e_nil ?_
      refine c_cond hf rfl (fun hc3 => ?_) (fun hc3 => ?_)
      · skip
        have hgi : (ordStep c.b c.mp p d (ordsF c.b c.mp k1)) i = [] := by unfold ordStep; rw [if_pos (by simpa using hc3)]
        have hsn : St (Base.it w0 c.X c.M0 c.hX hM (c.J (pre ++ (List.range (i + 1)).flatMap (ordStep c.b c.mp p d (ordsF c.b c.mp k1))))) (Rd encI 1 A p.length p :: c.Ds) [(b1, .cells (dnA d) 102 (0, 0))] w := by rw [fm_succ, hgi, List.append_nil]; exact hs
        refine c_exit (q_thenX (q_blkX (q_thenN ?_)))
        refine c_reg1 ?_
        refine gL hf (g_addI hf rfl rfl (by omega)) (by decide) ?_; clear hf a; intro a hf
        refine gL hf (g_mv hf rfl) (by decide) ?_; clear hf a; intro a hf
        refine e_nil1 (q_thenN ?_)
        exact ⟨i + 1, (by omega), (by omega), hf.back (by repeat (first | (with_reducible exact Ext.base) | ((with_reducible refine Ext.cons ?_ ?_); (· rfl)) | ((with_reducible refine Ext.over ?_ ?_ ?_); (· rfl); (· rfl)))) (allKeys rfl) (.cons rfl .nil), hsn⟩
      · skip
        have hgi : (ordStep c.b c.mp p d (ordsF c.b c.mp k1)) i = ordsF c.b c.mp k1 (p ++ [((i : Nat) : Int)]) (d.set i true) := by unfold ordStep; rw [if_neg (by rw [Bool.not_eq_true]; simpa using hc3)]
        have hpre2 : (pre ++ (List.range i).flatMap (ordStep c.b c.mp p d (ordsF c.b c.mp k1))) ++ ordsF c.b c.mp k1 (p ++ [((i : Nat) : Int)]) (d.set i true) <+: allOrds c.b c.mp := by rw [List.append_assoc, ← hgi, ← fm_succ]; exact ((List.prefix_append_right_inj _).2 (fm_prefix _ (by omega))).trans hpre
        refine c_skip (q_thenN ?_)
        refine c_reg ?_
        refine gL hf (g_ldW hf hs T102 rfl (k := 0) rfl (by rw [dn_size]; exact hd)) (by decide) ?_; clear hf a; intro a hf
        refine vL hf (v_alloc hs T102 rfl) (by decide) ?_; clear hs hf a; rintro _ w ⟨b2, rfl, hs⟩ a hf
        refine uL (u_stW hf hs T102 rfl rfl (dn_plain d) (k := 0) rfl (by simpa using hd) (by rw [List.length_map, hd]; rfl)) ?_; clear hs; intro w hs; dsimp only [List.set] at hs
        replace hs : St _ _ [(b2, .cells (dnA d) 102 (0, 0)), (b1, .cells (dnA d) 102 (0, 0))] w := hs
        refine e_nil ?_
        refine c_reg ?_
        refine gL hf (g_mv hf rfl) (by decide) ?_; clear hf a; intro a hf
        refine gL hf (g_ixA hf AR102 rfl rfl (by omega)) (by decide) ?_; clear hf a; intro a hf
        refine uL (u_st hf hs T4 rfl rfl rfl (k := 0) rfl (by rw [dn_size, hd]; omega)) ?_; clear hs; intro w hs; dsimp only [List.set] at hs
        rw [dn_set, Int.toNat_natCast] at hs
        refine e_nil ?_
        refine c_draw (fun w => ∃ B, St B _ _ w) 11 Mx rfl hs (fun _ h => ⟨_, h⟩) ?_; intro w hs hS
        refine gA hf hS (i := 0) rfl (by kernel_rfl) (fun w ⟨_, hs⟩ => g_ldB hf hs (.tail _ (.tail _ (.tail _ (.tail _ (.tail _ (.tail _ (.tail _ (.head _)))))))) T106 rfl rfl) (by decide) ?_; clear hf a; intro a hf
        refine gA hf hS (i := 1) rfl (by kernel_rfl) (fun w ⟨_, hs⟩ => g_mv hf rfl) (by decide) ?_; clear hf a; intro a hf
        refine gA hf hS (i := 2) rfl (by kernel_rfl) (fun w ⟨_, hs⟩ => g_mv hf rfl) (by decide) ?_; clear hf a; intro a hf
        refine gA hf hS (i := 3) rfl (by kernel_rfl) (fun w ⟨_, hs⟩ => g_mv hf rfl) (by decide) ?_; clear hf a; intro a hf
        refine gA hf hS (i := 4) rfl (by kernel_rfl) (fun w ⟨_, hs⟩ => g_slHM hf SL27 rfl rfl rfl (by omega) (by omega)) (by decide) ?_; clear hf a; intro a hf
        refine gA hf hS (i := 5) rfl (by kernel_rfl) (fun w ⟨_, hs⟩ => g_mv hf rfl) (by decide) ?_; clear hf a; intro a hf
        refine gA hf hS (i := 8) rfl (by kernel_rfl) (fun w ⟨_, hs⟩ => g_ldW hf hs T102 rfl (k := 0) rfl (by rw [dn_size]; exact (by simp [hd]))) (by decide) ?_; clear hf a; intro a hf
        refine one (i := 6) (by kernel_rfl) ?_
        refine oV hf rfl (v_lits (len := 1) hf hs SL27 T3 (.cons rfl .nil) rfl rfl rfl rfl (by decide) rfl) (by decide) (fun _ _ ⟨_, _, h⟩ => ⟨_, h.sub (.cons _ (.refl _))⟩) ?_; clear hs hf hS a; rintro _ w ⟨b3, rfl, hs⟩ hS a hf
        refine one (i := 7) (by kernel_rfl) ?_
        refine oV hf rfl (v_app hf hs AP27 (fun _ => rfl) (by decide) rfl rfl (l := p) (by simpa using hs.rd (.head _)) (rd_one (enc := encI) (x := ((i : Nat) : Int)) rfl (hs.own _ _ (.head _)).2) (by omega) (Nat.le_refl _) (fun e => by have h9 := hA0 e; omega) (by omega) (by decide)) (by decide) (fun _ _ ⟨_, _, _, _, h⟩ => ⟨_, h.sub (.cons _ (.cons _ (.refl _)))⟩) ?_; clear hs hf hS a; rintro _ w ⟨b4, cs4, rfl, hok, hs⟩ hS a hf
        rw [show ((p.length : Nat) : Int).toNat + 1 = (p ++ [((i : Nat) : Int)]).length by simp] at hf
        refine one (i := 9) (by kernel_rfl) ?_
        refine oCallB hf rfl (ih k1 (by omega) w (pre ++ (List.range i).flatMap (ordStep c.b c.mp p d (ordsF c.b c.mp k1))) (p ++ [((i : Nat) : Int)]) (d.set i true) (some ⟨b4, 0, none⟩) _ (hl3.trans hs.later) hs.kept hpre2 (by simp; omega) (by simp [hd]) (hok.rdb (sz := 1) (fun _ => rfl) (by decide) (hs.own _ _ (.head _)).2) (fun b o e => by cases e; exact Nat.le_trans hM (hs.own _ _ (.head _)).1) (hok.cap (sz := 1) (by decide))) rfl rfl rfl E98 (by decide)
          (fun v w2 hR2 => by obtain ⟨r, rfl, hl2, ht2, hf2⟩ := hR2; exact ⟨_, (hs.sub (.cons _ (.cons _ (.refl _)))).yielded (K' := ⟨fun _ => True, fun _ _ _ _ => trivial⟩) hl2 trivial⟩) ?_; clear hf hS a; intro v w2 a hR2 hS hf; obtain ⟨r, rfl, hl2, ht2, hf2⟩ := hR2
        refine gA hf hS (i := 10) rfl (by kernel_rfl) (fun w ⟨_, hs⟩ => g_not hf rfl) (by decide) ?_; clear hf a; intro a hf
        refine e_done (by kernel_rfl) ?_
        refine c_cond hf rfl (fun hc4 => ?_) (fun hc4 => ?_)
        · skip
          have hr : r = false := by simpa using hc4
          obtain ⟨q, hq, hqp, hqj⟩ := hf2 hr
          have hq2 : (List.range i).flatMap (ordStep c.b c.mp p d (ordsF c.b c.mp k1)) ++ q <+: ordsF c.b c.mp (k1 + 1) p d := ((List.prefix_append_right_inj _).2 hqp).trans (by rw [← hgi, ← fm_succ]; exact fm_prefix _ (by omega))
          refine c_reg ?_
          refine gL hf (g_as hf rfl) (by decide) ?_; clear hf a; intro a hf
          refine e_nil ?_
          refine c_ret (q_blkR (q_thenR (q_thenR (q_blkR (q_thenR (q_scopeR ?_))))))
          refine e_ret1 hf rfl rfl ?_
          exact ⟨_, rfl, false, rfl, hs.later.trans hl2, fun h => (by cases h), fun _ => ⟨_, by simp [hq], hq2, by rw [← List.append_assoc]; exact hqj⟩⟩
        · skip
          have hr : r = true := by simpa using hc4
          have hsn : St (Base.it w0 c.X c.M0 c.hX hM (c.J (pre ++ (List.range (i + 1)).flatMap (ordStep c.b c.mp p d (ordsF c.b c.mp k1))))) (Rd encI 1 A p.length p :: c.Ds) [(b1, .cells (dnA d) 102 (0, 0))] w2 := by rw [fm_succ, hgi, ← List.append_assoc]; exact (hs.dropN 3).yielded hl2 (ht2 hr)
          refine c_skip (q_blkN (q_thenN ?_))
          refine c_reg1 ?_
          refine gL hf (g_addI hf rfl rfl (by omega)) (by decide) ?_; clear hf a; intro a hf
          refine gL hf (g_mv hf rfl) (by decide) ?_; clear hf a; intro a hf
          refine e_nil1 (q_thenN ?_)
          exact ⟨i + 1, (by omega), (by omega), hf.back (by repeat (first | (with_reducible exact Ext.base) | ((with_reducible refine Ext.cons ?_ ?_); (· rfl)) | ((with_reducible refine Ext.over ?_ ?_ ?_); (· rfl); (· rfl)))) (allKeys rfl) (.cons rfl .nil), hsn⟩
    · try simp only [decide_eq_true_eq, decide_eq_false_iff_not] at hc2
      obtain rfl : i = c.b.flaps.length := by omega
      refine c_exit (q_thenX (q_thenX (q_blkX (q_thenN ?_))))
      refine c_reg ?_
      refine gL hf (g_as hf rfl) (by decide) ?_; clear hf a; intro a hf
      refine e_nil ?_
      refine c_ret (q_scopeR ?_)
      refine e_ret1 hf rfl rfl ?_
      exact ⟨_, rfl, true, rfl, hs.later, fun _ => hs.kept, fun h => (by cases h)⟩

end Go.Proofs.YtpjhffockmnjbaaDoor
set_option linter.unusedVariables false
namespace Go.Proofs.YtpjhffockmnjbaaDoor
open Go.RowKit
theorem c_on (c : OnCtx) : ∀ k, OnSpec c k := by
  intro k
  induction k using Nat.strongRecOn with
  | _ k ih => exact fun w pre p d A cp h1 h2 h3 h4 h5 h6 h7 h8 => c_on_step c k ih w pre p d A cp h1 h2 h3 h4 h5 h6 h7 h8
end Go.Proofs.YtpjhffockmnjbaaDoor
set_option linter.unusedVariables false
set_option linter.unusedSimpArgs false
namespace Go.Proofs.YtpjhffockmnjbaaDoor
open Go.RowKit
theorem c_seq (b : Sheet) (fA : Option Addr) (fc : Nat) (rA : Option Addr) (rc : Nat) (mb : Nat) (mp : MP) (hv : Valid b) (bs l : Nat) (X : List Nat) (J Jx : List (List Int) → World → Prop) (w0 : World) (hXl : ∀ i ∈ X, i < w0.heap.size) (hJ : ∀ pre A B, J pre A → Below w0.heap.size A B → J pre B) (hY : ∀ pre x A c W1, J pre W1 → Later X w0 W1 → pre ++ [x] <+: allOrds b mp → Rd encI 1 A x.length x W1 → x.length ≤ c → (∀ b o, A = some ⟨b, o, none⟩ → w0.heap.size ≤ b) → YieldAt Fence.wide 0 Tryd.prog l #[.slice A x.length c] W1 fun e W' => Later X W1 W' ∧ ((e = .returned (.bool true) ∧ J (pre ++ [x]) W') ∨ (e = .returned (.bool false) ∧ Jx (pre ++ [x]) W'))) (h0 : J [] w0) (hF : Stable X w0 (Rd encF 5 fA b.flaps.length b.flaps)) (hR : Stable X w0 (Rd encR 2 rA b.rules.length b.rules)) (hM : Stable X w0 (MapIs mb mp)) (hfc : b.flaps.length ≤ fc) (hrc : b.rules.length ≤ rc) (hS : Stable X w0 (BlkIs bs (sh5 b fA fc rA rc mb).toArray 69 (0, 0))) :
    Calls Tryd.prog 96 #[.func (.yield l) #[] #[], .pointer (some ⟨bs, 0, none⟩)] w0 (RetR (fun _ w0' => Later X w0 w0' ∧ (J (allOrds b mp) w0' ∨ ∃ pre, pre ≠ [] ∧ pre <+: allOrds b mp ∧ Jx pre w0'))) := by
  refine c_enter (n := 11) Tryd.func96 rfl rfl (Nat.le_of_ble_eq_true rfl) ?_; intro a hf; simp only [zipR] at hf
  have hs := St.startI (M0 := w0.heap.size) (Ds := [Rd encF 5 fA b.flaps.length b.flaps, Rd encR 2 rA b.rules.length b.rules, MapIs mb mp, BlkIs bs (sh5 b fA fc rA rc mb).toArray 69 (0, 0)]) hXl (Nat.le_refl _) ⟨J [], hJ []⟩ h0 (by intro D hD; simp only [List.mem_cons, List.not_mem_nil, or_false] at hD; rcases hD with rfl | rfl | rfl | rfl <;> assumption)
  refine c_reg ?_
  refine vL hf (v_box hf hs rfl rfl) (by decide) ?_; clear hs hf a; rintro _ w ⟨b1, rfl, hs⟩ a hf
  refine e_nil ?_
  refine c_reg ?_
  refine gL hf (g_ldBW hf hs (.tail _ (.tail _ (.tail _ (.head _)))) T69 rfl rfl) (by decide) ?_; clear hf a; intro a hf
  refine gL hf (g_fn hf rfl rfl) (by decide) ?_; clear hf a; intro a hf
  refine vL hf (v_alloc hs T105 rfl) (by decide) ?_; clear hs hf a; rintro _ w ⟨b2, rfl, hs⟩ a hf
  refine uL (u_st hf hs T105 rfl rfl rfl (k := 0) rfl (Nat.le_of_ble_eq_true rfl)) ?_; clear hs; intro w hs; dsimp only [List.set] at hs
  refine e_nil ?_
  refine c_reg ?_
  refine vL hf (v_alloc hs T106 rfl) (by decide) ?_; clear hs hf a; rintro _ w ⟨b3, rfl, hs⟩ a hf
  refine e_nil ?_
  refine c_reg ?_
  refine gL hf (g_fn hf rfl rfl) (by decide) ?_; clear hf a; intro a hf
  refine uL (u_st hf hs T106 rfl rfl rfl (k := 0) rfl (Nat.le_of_ble_eq_true rfl)) ?_; clear hs; intro w hs; dsimp only [List.set] at hs
  refine e_nil ?_
  refine c_draw1 (fun w => ∃ B, St B _ _ w) 3 Mx rfl hs (fun _ h => ⟨_, h⟩) ?_; intro w hs hS
  refine gA hf hS (i := 0) rfl (by kernel_rfl) (fun w ⟨_, hs⟩ => g_ld hf hs T106 rfl (k := 0) rfl rfl) (by decide) ?_; clear hf a; intro a hf
  refine one (i := 1) (by kernel_rfl) ?_
  refine oCall hf hs rfl (c_none _) rfl rfl rfl E94 (by decide) (fun _ h => ⟨_, h.sub (.refl _)⟩) ?_; clear hs hf hS a; intro w a hs hS hf
  refine one (i := 2) (by kernel_rfl) ?_
  refine oCallB hf rfl (c_on (OnCtx.mk b fA fc rA rc mb mp l X w0.heap.size hXl (fun pre => ⟨J pre, hJ pre⟩) Jx w0 w bs b1 b2 b3 hv rfl hs.later ((hs.data _ (.head _)).sub (fun i hi => List.mem_append_left _ hi)) ((hs.data _ (.tail _ (.head _))).sub (fun i hi => List.mem_append_left _ hi)) ((hs.data _ (.tail _ (.tail _ (.head _)))).sub (fun i hi => List.mem_append_left _ hi)) hfc hrc ((hs.data _ (.tail _ (.tail _ (.tail _ (.head _))))).sub (fun i hi => List.mem_append_left _ hi)) (BlkIs.stable (hs.own _ _ (.tail _ (.tail _ (.head _)))).2 (fun hx => by have h8 := hXl _ hx; have h9 : w0.heap.size ≤ _ := (hs.own _ _ (.tail _ (.tail _ (.head _)))).1; omega)) (BlkIs.stable (hs.own _ _ (.tail _ (.head _))).2 (fun hx => by have h8 := hXl _ hx; have h9 : w0.heap.size ≤ _ := (hs.own _ _ (.tail _ (.head _))).1; omega)) (BlkIs.stable (hs.own _ _ (.head _)).2 (fun hx => by have h8 := hXl _ hx; have h9 : w0.heap.size ≤ _ := (hs.own _ _ (.head _)).1; omega)) hY) b.flaps.length w [] [] (List.replicate 7 false) none 0 (Later.refl _ _) hs.kept (List.prefix_refl _) (by simp) (by simp) rd_nil (fun b o e => by cases e) (Nat.le_refl _)) rfl rfl rfl E98 (by decide)
    (fun v w2 hR2 => by obtain ⟨r, rfl, hl2, ht2, hf2⟩ := hR2; exact ⟨_, (hs.sub (.refl _)).yielded (K' := ⟨fun _ => True, fun _ _ _ _ => trivial⟩) hl2 trivial⟩) ?_; clear hf hS a; intro v w2 a hR2 hS hf; obtain ⟨r, rfl, hl2, ht2, hf2⟩ := hR2
  refine e_done1 (by kernel_rfl) ?_
  refine e_end0 hf rfl ?_
  exact ⟨_, rfl, hs.later.trans hl2, by cases r; exact (by obtain ⟨q, h1, h2, h3⟩ := hf2 rfl; exact .inr ⟨q, h1, h2, h3⟩); exact .inl (ht2 rfl)⟩

theorem c_orders (b : Sheet) (fA : Option Addr) (fc : Nat) (rA : Option Addr) (rc : Nat) (mb : Nat) (w0 : World) :
    Calls Tryd.prog 67 #[.agg (sh5 b fA fc rA rc mb).toArray] w0 (RetX w0 (fun v w0' => ∃ bs, v = .func (.func 96) #[] #[.pointer (some ⟨bs, 0, none⟩)] ∧ w0.heap.size ≤ bs ∧ BlkIs bs (sh5 b fA fc rA rc mb).toArray 69 (0, 0) w0')) := by
  refine c_enter (n := 4) Tryd.func67 rfl rfl (Nat.le_of_ble_eq_true rfl) ?_; intro a hf; simp only [zipR] at hf
  have hs := St.start w0 [] (by simp)
  refine c_reg ?_
  refine vL hf (v_boxA hf hs rfl) (by decide) ?_; clear hs hf a; rintro _ w ⟨b1, rfl, hs⟩ a hf
  refine gL hf (g_as hf rfl) (by decide) ?_; clear hf a; intro a hf
  refine e_nil ?_
  refine c_reg ?_
  refine gL hf (g_fn hf rfl rfl) (by decide) ?_; clear hf a; intro a hf
  refine gL hf (g_as hf rfl) (by decide) ?_; clear hf a; intro a hf
  refine e_nil ?_
  refine c_ret ?_
  refine e_ret1 hf rfl rfl ?_
  exact ⟨_, rfl, hs.below, b1, rfl, (hs.own _ _ (.head _)).1, (hs.own _ _ (.head _)).2⟩

end Go.Proofs.YtpjhffockmnjbaaDoor
set_option linter.unusedVariables false
namespace Go.Proofs.YtpjhffockmnjbaaDoor
open Go.RowKit
theorem blkFresh {w w' : World} {b : Nat} {cs : Array Value} {e : TypeId} {fz : Nat × Nat} (h1 : w.heap.size ≤ b) (h2 : BlkIs b cs e fz w') : Fresh w w' (BlkIs b cs e fz) := fun w'' _ h => (h b h1 (Array.getElem?_eq_some_iff.1 h2).1).trans h2
theorem stab_seq {Xs X : List Nat} {w W : World} {D : World → Prop} (h : Stable Xs w D) (hl : Later Xs w W) (hX : ∀ i ∈ X, i < w.heap.size → i ∈ Xs) : Stable X W D := fun w' hw => h w' ⟨Nat.le_trans hl.1 hw.1, fun i hi hn => (hw.2 i (Nat.lt_of_lt_of_le hi hl.1) (fun hx => hn (hX i hx hi))).trans (hl.2 i hi hn)⟩
theorem seqL_of {b : Sheet} {fA : Option Addr} {fc : Nat} {rA : Option Addr} {rc mb bs : Nat} {mp : MP} {w0 : Base} {Ds : List (World → Prop)} {H : Own} {w : World} (hv : Valid b) (hs : St w0 Ds H w) (hF : Rd encF 5 fA b.flaps.length b.flaps ∈ Ds) (hR : Rd encR 2 rA b.rules.length b.rules ∈ Ds) (hM : MapIs mb mp ∈ Ds)
    (hS : BlkIs bs (sh5 b fA fc rA rc mb).toArray 69 (0, 0) ∈ Ds) (hfc : b.flaps.length ≤ fc) (hrc : b.rules.length ≤ rc) : SeqL Tryd.prog 96 [.pointer (some ⟨bs, 0, none⟩)] (allOrds b mp) (w0.ex ++ ids H) w := by
  intro l X J Jx W hlat hX1 hXl hJ hY h0
  have st := fun D hD => stab_seq (hs.data D hD) hlat hX1
  refine Calls.mono (c_seq b fA fc rA rc mb mp hv bs l X J Jx W hXl hJ hY h0 (st _ hF) (st _ hR) (st _ hM) hfc hrc (st _ hS)) ?_
  rintro e w' ⟨v, rfl, h1, h2⟩
  exact ⟨⟨v, rfl⟩, h1, h2⟩
end Go.Proofs.YtpjhffockmnjbaaDoor
set_option linter.unusedVariables false
set_option linter.unusedSimpArgs false
namespace Go.Proofs.YtpjhffockmnjbaaDoor
open Go.RowKit
theorem c_folds (b : Sheet) (fA : Option Addr) (fc : Nat) (rA : Option Addr) (rc : Nat) (mb : Nat) (mp : MP) (w0 : World) (hv : Valid b) (h : ShIn b fA fc rA rc w0) (hM : MapIs mb mp w0) :
    Calls Tryd.prog 76 #[.agg #[.int .i64 b.wide, .int .i64 b.high, .slice fA b.flaps.length fc, .slice rA b.rules.length rc, .map (some mb)]] w0 (Ret w0 (.bool (decide (allOrds b mp ≠ [])))) := by
  refine c_enterM (n := 6) Tryd.func76 rfl rfl (Nat.le_of_ble_eq_true rfl) ?_; intro a hf; simp only [zipR] at hf
  have hs := St.start w0 [Rd encF 5 fA b.flaps.length b.flaps, Rd encR 2 rA b.rules.length b.rules, MapIs mb mp] (stab_app h.stab hM.st1)
  have hfm := h.F.2.1; have hrm := h.R.2.1
  refine c_reg ?_
  refine vL hf (v_boxA hf hs rfl) (by decide) ?_; clear hs hf a; rintro _ w ⟨b1, rfl, hs⟩ a hf
  refine vL hf (v_alloc hs T4 rfl) (by decide) ?_; clear hs hf a; rintro _ w ⟨b2, rfl, hs⟩ a hf
  refine e_nil ?_
  refine wp_seq ?_
  refine c_reg ?_
  refine gL hf (g_ldW hf hs T69 rfl (k := 1) rfl rfl) (by decide) ?_; clear hf a; intro a hf
  refine callX hf hs (c_orders b fA fc rA rc mb _) rfl rfl rfl E67 (by decide) ?_; intro v w1 a hR hb hs1 hf; obtain ⟨bs, rfl, hbs, hbi⟩ := hR; replace hs := hs.fresh hs1 (blkFresh hbs hbi); clear hs1 hb
  refine e_nil ?_
  refine c_block ?_
  refine c_rangeS (τ := Unit) hf hs rfl E96 (by decide) (seqL_of (b := b) (mp := mp) hv hs (.tail _ (.head _)) (.tail _ (.tail _ (.head _))) (.tail _ (.tail _ (.tail _ (.head _)))) (.head _) h.fc_ h.rc_) rfl (fun pre => pre = []) (fun pre => [(b2, .cells #[.bool false] 4 (0, 0)), (b1, .cells #[.int .i64 b.wide, .int .i64 b.high, .slice fA b.flaps.length fc, .slice rA b.rules.length rc, .map (some mb)] 69 (0, 0))]) (fun t pre => True) (fun t pre => []) (fun t pre => [(b2, .cells #[.bool true] 4 (0, 0)), (b1, .cells #[.int .i64 b.wide, .int .i64 b.high, .slice fA b.flaps.length fc, .slice rA b.rules.length rc, .map (some mb)] 69 (0, 0))]) rfl rfl (fun _ => rfl) (fun _ _ => rfl) ?body ?done ?stop
  case body =>
    clear hf hs; intro l pre x A c W a E hE hpre hIp hxc hA hf hs
    refine r_block ?_
    refine r_reg rfl ?_
    refine uL (u_st hf hs T4 rfl rfl rfl (k := 0) rfl (Nat.le_of_ble_eq_true rfl)) ?_; clear hs; intro w hs; dsimp only [List.set] at hs
    refine e_nilJ ?_
    refine r_ret (q_blkR ?_)
    exact ⟨(), (hs.dropN 0).subD (fun _ h => by cases h), trivial⟩
  case done =>
    clear hf hs; intro D a w hf hIp hs; dsimp only [List.cons_append, List.nil_append] at hs
    refine q_blkN (q_thenN ?_)
    refine c_reg ?_
    refine uL (u_st hf hs T4 rfl rfl rfl (k := 0) rfl (Nat.le_of_ble_eq_true rfl)) ?_; clear hs; intro w hs; dsimp only [List.set] at hs
    refine e_nil ?_
    refine c_ret ?_
    refine outMR 2 hf hs rfl rfl (.cell1 T4 rfl (k := 0) rfl rfl .nil) rfl ?_; clear hs; intro w hs
    exact ⟨by rw [hIp]; rfl, hs.below⟩
  case stop =>
    clear hf hs; intro D t pre a w hne hpre hIx hf hs; dsimp only [List.cons_append, List.nil_append] at hs
    refine q_blkR (q_thenR ?_)
    refine outMR 2 hf hs rfl rfl (.cell1 T4 rfl (k := 0) rfl rfl .nil) rfl ?_; clear hs; intro w hs
    have hne2 : allOrds b mp ≠ [] := fun e => hne (by rw [e] at hpre; exact List.prefix_nil.1 hpre)
    exact ⟨by rw [decide_eq_true hne2]; rfl, hs.below⟩

end Go.Proofs.YtpjhffockmnjbaaDoor
set_option linter.unusedVariables false
set_option linter.unusedSimpArgs false
namespace Go.Proofs.YtpjhffockmnjbaaDoor
open Go.RowKit
theorem c_Orders (b : Sheet) (fA : Option Addr) (fc : Nat) (rA : Option Addr) (rc : Nat) (ge : TypeId) (gz : Nat × Nat)  (w0 : World) (h : ShIn b fA fc rA rc w0) (hG : BlkIs 0 sidesA ge gz w0) :
    Calls Tryd.prog 25 #[.agg #[.int .i64 b.wide, .int .i64 b.high, .slice fA b.flaps.length fc, .slice rA b.rules.length rc]] w0 (Ret w0 (.tuple #[.int .i64 (countP b).1, .int .i64 (countP b).2])) := by
  refine c_enterM (n := 21) Tryd.func25 rfl rfl (Nat.le_of_ble_eq_true rfl) ?_; intro a hf; simp only [zipR] at hf
  have hs := St.start w0 [Rd encF 5 fA b.flaps.length b.flaps, Rd encR 2 rA b.rules.length b.rules, BlkIs 0 sidesA ge gz] (stab_app h.stab hG.st1)
  have hfm := h.F.2.1; have hrm := h.R.2.1
  refine c_reg ?_
  refine vL hf (v_boxA hf hs rfl) (by decide) ?_; clear hs hf a; rintro _ w ⟨b1, rfl, hs⟩ a hf
  refine gL hf (g_as hf rfl) (by decide) ?_; clear hf a; intro a hf
  refine gL hf (g_as hf rfl) (by decide) ?_; clear hf a; intro a hf
  refine e_nil ?_
  refine c_reg ?_
  refine gL hf (g_ldW hf hs T25 rfl (k := 0) rfl rfl) (by decide) ?_; clear hf a; intro a hf
  refine callX hf hs (c_asked b _ _ _ _ _ _ true _ ⟨hs.rd (.head _), hs.rd (.tail _ (.head _)), h.fc_, h.rc_⟩ (hs.rd (.tail _ (.tail _ (.head _))))) rfl rfl rfl E54 (by decide) ?_; intro v w1 a hR hb hs1 hf; obtain ⟨cs, mb, mp, rfl, hcl, hcp, hcm⟩ := hR; replace hs := hs.fresh hs1 (condFresh fun he => (hcm he).2.2); clear hs1 hb
  refine gL hf (g_mv hf rfl) (by decide) ?_; clear hf a; intro a hf
  refine gL hf (g_ext hf rfl rfl) (by decide) ?_; clear hf a; intro a hf
  refine gL hf (g_ext hf rfl rfl) (by decide) ?_; clear hf a; intro a hf
  refine vL hf (v_alloc hs T69 rfl) (by decide) ?_; clear hs hf a; rintro _ w ⟨b2, rfl, hs⟩ a hf
  refine uL (u_stW hf hs T69 rfl rfl hcp (k := 0) rfl hcl hcl) ?_; clear hs; intro w hs; dsimp only [List.set] at hs
  refine gL hf (g_as hf rfl) (by decide) ?_; clear hf a; intro a hf
  refine e_nil ?_
  refine wp_seq ?_
  refine c_reg ?_
  refine gL hf (g_mv hf rfl) (by decide) ?_; clear hf a; intro a hf
  refine gL hf (g_neq hf rfl rfl) (by decide) ?_; clear hf a; intro a hf
  refine e_nil ?_
  refine c_cond hf rfl (fun hc1 => ?_) (fun hc1 => ?_)
  · try simp only [decide_eq_true_eq, decide_eq_false_iff_not] at hc1
    have he : ¬ askE b true = 0 := by simpa using hc1
    refine c_reg ?_
    refine gL hf (g_mv hf rfl) (by decide) ?_; clear hf a; intro a hf
    refine gL hf (g_as hf rfl) (by decide) ?_; clear hf a; intro a hf
    refine gL hf (g_as hf rfl) (by decide) ?_; clear hf a; intro a hf
    refine e_nil ?_
    refine c_ret (q_thenR ?_)
    refine outM0 hf hs rfl (.tmp rfl (.tmp rfl .nil)) rfl ?_
    exact ⟨by simp only [countP, if_neg he]; rfl, hs.below⟩
  · try simp only [decide_eq_true_eq, decide_eq_false_iff_not] at hc1
    have he : askE b true = 0 := by simpa using hc1
    obtain ⟨rfl, hmo, _, _⟩ := hcm he
    replace hs := hs.un (fun w h => h he)
    have hok := askE_zero he
    have hv := valid_of hok.1
    have hall := allOrds_eq hv hmo
    have hmany := hv.many
    refine c_skip (q_thenN ?_)
    refine c_reg ?_
    refine vL hf (v_alloc hs T3 rfl) (by decide) ?_; clear hs hf a; rintro _ w ⟨b3, rfl, hs⟩ a hf
    refine uL (u_st hf hs T3 rfl rfl rfl (k := 0) rfl (Nat.le_of_ble_eq_true rfl)) ?_; clear hs; intro w hs; dsimp only [List.set] at hs
    refine e_nil ?_
    refine wp_seq ?_
    refine c_reg ?_
    refine gL hf (g_ldW hf hs T69 rfl (k := 1) rfl rfl) (by decide) ?_; clear hf a; intro a hf
    refine callX hf hs (c_orders b fA fc rA rc mb _) rfl rfl rfl E67 (by decide) ?_; intro v w1 a hR hb hs1 hf; obtain ⟨bs, rfl, hbs, hbi⟩ := hR; replace hs := hs.fresh hs1 (blkFresh hbs hbi); clear hs1 hb
    refine e_nil ?_
    refine c_block ?_
    refine c_rangeS (τ := Unit) hf hs rfl E96 (by decide) (seqL_of (b := b) (mp := mp) hv hs (.tail _ (.tail _ (.head _))) (.tail _ (.tail _ (.tail _ (.head _)))) (.tail _ (.head _)) (.head _) h.fc_ h.rc_) rfl (fun pre => True) (fun pre => [(b3, .cells #[.int .i64 (pre.length : Nat)] 3 (0, 0)), (b2, .cells (sh5 b fA fc rA rc mb).toArray 69 (0, 0)), (b1, .cells #[.int .i64 b.wide, .int .i64 b.high, .slice fA b.flaps.length fc, .slice rA b.rules.length rc] 25 (0, 0))]) (fun t pre => False) (fun t pre => []) (fun t pre => [(b3, .cells #[.int .i64 (pre.length : Nat)] 3 (0, 0)), (b2, .cells (sh5 b fA fc rA rc mb).toArray 69 (0, 0)), (b1, .cells #[.int .i64 b.wide, .int .i64 b.high, .slice fA b.flaps.length fc, .slice rA b.rules.length rc] 25 (0, 0))]) trivial rfl (fun _ => rfl) (fun _ _ => rfl) ?body ?done ?stop
    case body =>
      clear hf hs; intro l pre x A c W a E hE hpre hIp hxc hA hf hs
      have hlen2 : (pre ++ [x]).length ≤ (allO b).length := by rw [← hall]; exact hpre.length_le
      have hmax := allO_le hv
      rw [List.length_append] at hlen2
      refine r_block ?_
      refine r_reg1 rfl ?_
      refine gL hf (g_ld hf hs T3 rfl (k := 0) rfl rfl) (by decide) ?_; clear hf a; intro a hf
      refine gL hf (g_addI hf rfl rfl (by omega)) (by decide) ?_; clear hf a; intro a hf
      refine uL (u_st hf hs T3 rfl rfl rfl (k := 0) rfl (Nat.le_of_ble_eq_true rfl)) ?_; clear hs; intro w hs; dsimp only [List.set] at hs
      refine e_nilJ (q_blkN ?_)
      rw [show ((pre.length : Nat) : Int) + 1 = ((pre ++ [x]).length : Nat) by simp] at hs
      exact ⟨_, hs.dropN 0, trivial⟩
    case done =>
      clear hf hs; intro D a w hf hIp hs; dsimp only [List.cons_append, List.nil_append] at hs
      refine q_blkN (q_thenN ?_)
      refine c_reg ?_
      refine gL hf (g_ld hf hs T3 rfl (k := 0) rfl rfl) (by decide) ?_; clear hf a; intro a hf
      refine gL hf (g_as hf rfl) (by decide) ?_; clear hf a; intro a hf
      refine gL hf (g_as hf rfl) (by decide) ?_; clear hf a; intro a hf
      refine e_nil ?_
      refine c_ret ?_
      refine outMR 3 hf hs rfl rfl (.tmp rfl (.tmp rfl .nil)) rfl ?_; clear hs; intro w hs
      exact ⟨by simp only [countP, he, if_true, hall]; rfl, hs.below⟩
    case stop =>
      clear hf hs; intro D t pre a w hne hpre hIx hf hs; dsimp only [List.cons_append, List.nil_append] at hs
      exact hIx.elim

end Go.Proofs.YtpjhffockmnjbaaDoor
set_option linter.unusedVariables false
set_option linter.unusedSimpArgs false
namespace Go.Proofs.YtpjhffockmnjbaaDoor
open Go.RowKit
theorem c_Order (b : Sheet) (fA : Option Addr) (fc : Nat) (rA : Option Addr) (rc : Nat) (ge : TypeId) (gz : Nat × Nat)  (w0 : World) (h : ShIn b fA fc rA rc w0) (hG : BlkIs 0 sidesA ge gz w0) :
    Calls Tryd.prog 22 #[.agg #[.int .i64 b.wide, .int .i64 b.high, .slice fA b.flaps.length fc, .slice rA b.rules.length rc]] w0 (RetX w0 (fun v w0' => ∃ A c, v = .tuple #[.slice A (orderP b).1.length c, .int .i64 (orderP b).2] ∧ Out (orderP b).1 A c w0 w0')) := by
  refine c_enterM (n := 24) Tryd.func22 rfl rfl (Nat.le_of_ble_eq_true rfl) ?_; intro a hf; simp only [zipR] at hf
  have hs := St.start w0 [Rd encF 5 fA b.flaps.length b.flaps, Rd encR 2 rA b.rules.length b.rules, BlkIs 0 sidesA ge gz] (stab_app h.stab hG.st1)
  have hfm := h.F.2.1; have hrm := h.R.2.1
  refine c_reg ?_
  refine vL hf (v_boxA hf hs rfl) (by decide) ?_; clear hs hf a; rintro _ w ⟨b1, rfl, hs⟩ a hf
  refine vL hf (v_alloc hs T27 rfl) (by decide) ?_; clear hs hf a; rintro _ w ⟨b2, rfl, hs⟩ a hf
  refine vL hf (v_alloc hs T28 rfl) (by decide) ?_; clear hs hf a; rintro _ w ⟨b3, rfl, hs⟩ a hf
  refine e_nil ?_
  refine c_reg ?_
  refine gL hf (g_ldW hf hs T25 rfl (k := 2) rfl rfl) (by decide) ?_; clear hf a; intro a hf
  refine callX hf hs (c_asked b _ _ _ _ _ _ true _ ⟨hs.rd (.head _), hs.rd (.tail _ (.head _)), h.fc_, h.rc_⟩ (hs.rd (.tail _ (.tail _ (.head _))))) rfl rfl rfl E54 (by decide) ?_; intro v w1 a hR hb hs1 hf; obtain ⟨cs, mb, mp, rfl, hcl, hcp, hcm⟩ := hR; replace hs := hs.fresh hs1 (condFresh fun he => (hcm he).2.2); clear hs1 hb
  refine gL hf (g_mv hf rfl) (by decide) ?_; clear hf a; intro a hf
  refine gL hf (g_ext hf rfl rfl) (by decide) ?_; clear hf a; intro a hf
  refine gL hf (g_ext hf rfl rfl) (by decide) ?_; clear hf a; intro a hf
  refine vL hf (v_alloc hs T69 rfl) (by decide) ?_; clear hs hf a; rintro _ w ⟨b4, rfl, hs⟩ a hf
  refine uL (u_stW hf hs T69 rfl rfl hcp (k := 0) rfl hcl hcl) ?_; clear hs; intro w hs; dsimp only [List.set] at hs
  refine gL hf (g_as hf rfl) (by decide) ?_; clear hf a; intro a hf
  refine e_nil ?_
  refine wp_seq ?_
  refine c_reg ?_
  refine gL hf (g_mv hf rfl) (by decide) ?_; clear hf a; intro a hf
  refine gL hf (g_neq hf rfl rfl) (by decide) ?_; clear hf a; intro a hf
  refine e_nil ?_
  refine c_cond hf rfl (fun hc1 => ?_) (fun hc1 => ?_)
  · try simp only [decide_eq_true_eq, decide_eq_false_iff_not] at hc1
    have he : ¬ askE b true = 0 := by simpa using hc1
    refine c_reg ?_
    refine gL hf (g_mv hf rfl) (by decide) ?_; clear hf a; intro a hf
    refine uL (u_st hf hs T27 rfl rfl rfl (k := 2) rfl (Nat.le_of_ble_eq_true rfl)) ?_; clear hs; intro w hs; dsimp only [List.set] at hs
    refine uL (u_st hf hs T28 rfl rfl rfl (k := 1) rfl (Nat.le_of_ble_eq_true rfl)) ?_; clear hs; intro w hs; dsimp only [List.set] at hs
    refine e_nil ?_
    refine c_ret (q_thenR ?_)
    refine outM0 hf hs rfl (.cell1 T27 rfl (k := 2) rfl rfl (.cell1 T28 rfl (k := 1) rfl rfl .nil)) rfl ?_
    have hor : orderP b = ([], askE b true) := by simp only [orderP, if_neg he]
    exact ⟨_, rfl, hs.below, none, 0, by rw [hor]; rfl, by rw [hor]; exact ⟨Nat.le_refl _, rd_nil, fun b o e => by cases e⟩⟩
  · try simp only [decide_eq_true_eq, decide_eq_false_iff_not] at hc1
    have he : askE b true = 0 := by simpa using hc1
    obtain ⟨rfl, hmo, _, _⟩ := hcm he
    replace hs := hs.un (fun w h => h he)
    have hok := askE_zero he
    have hv := valid_of hok.1
    have hall := allOrds_eq hv hmo
    have hmany := hv.many
    refine c_skip (q_thenN ?_)
    refine wp_seq ?_
    refine c_reg ?_
    refine gL hf (g_ldW hf hs T69 rfl (k := 0) rfl rfl) (by decide) ?_; clear hf a; intro a hf
    refine callX hf hs (c_orders b fA fc rA rc mb _) rfl rfl rfl E67 (by decide) ?_; intro v w1 a hR hb hs1 hf; obtain ⟨bs, rfl, hbs, hbi⟩ := hR; replace hs := hs.fresh hs1 (blkFresh hbs hbi); clear hs1 hb
    refine e_nil ?_
    refine c_block ?_
    have hsz0 := hs.below.size
    refine c_rangeA (τ := (Option Addr × List Int)) (by decide) hf hs rfl E96 (by decide) (seqL_of (b := b) (mp := mp) hv hs (.tail _ (.tail _ (.head _))) (.tail _ (.tail _ (.tail _ (.head _)))) (.tail _ (.head _)) (.head _) h.fc_ h.rc_) rfl (fun pre => pre = []) (fun pre => [(b4, .cells (sh5 b fA fc rA rc mb).toArray 69 (0, 0)), (b3, .cells #[.int .i64 0] 28 (0, 0)), (b2, .cells #[.slice none 0 0] 27 (0, 0)), (b1, .cells #[.int .i64 b.wide, .int .i64 b.high, .slice fA b.flaps.length fc, .slice rA b.rules.length rc] 25 (0, 0))]) (fun t pre => pre = [t.2] ∧ ∀ b o, t.1 = some ⟨b, o, none⟩ → w0.heap.size ≤ b) (fun t pre => [Rd encI 1 t.1 t.2.length t.2]) (fun t pre => [(b4, .cells (sh5 b fA fc rA rc mb).toArray 69 (0, 0)), (b3, .cells #[.int .i64 0] 28 (0, 0)), (b2, .cells #[.slice t.1 t.2.length t.2.length] 27 (0, 0)), (b1, .cells #[.int .i64 b.wide, .int .i64 b.high, .slice fA b.flaps.length fc, .slice rA b.rules.length rc] 25 (0, 0))]) rfl rfl (fun _ => rfl) (fun _ _ => rfl) ?body ?done ?stop
    case body =>
      clear hf hs; intro l pre x A c W a E hE hpre hIp hxc hA hf hs
      refine r_block ?_
      refine r_reg rfl ?_
      refine gL hf (g_mv hf rfl) (by decide) ?_; clear hf a; intro a hf
      refine gL hf (g_mv hf rfl) (by decide) ?_; clear hf a; intro a hf
      refine gL hf (g_len hf SL27 rfl) (by decide) ?_; clear hf a; intro a hf
      refine gL hf (g_mv hf rfl) (by decide) ?_; clear hf a; intro a hf
      refine gL hf (g_len hf SL27 rfl) (by decide) ?_; clear hf a; intro a hf
      refine gL hf (g_slHM hf SL27 rfl rfl rfl (by omega) (by omega)) (by decide) ?_; clear hf a; intro a hf
      refine uL (u_st hf hs T27 rfl rfl rfl (k := 2) rfl (Nat.le_of_ble_eq_true rfl)) ?_; clear hs; intro w hs; dsimp only [List.set] at hs
      refine uL (u_st hf hs T28 rfl rfl rfl (k := 1) rfl (Nat.le_of_ble_eq_true rfl)) ?_; clear hs; intro w hs; dsimp only [List.set] at hs
      refine e_nilJ ?_
      refine r_ret (q_blkR ?_)
      simp only [Int.toNat_natCast] at hs
      exact ⟨(A, x), (hs.dropN 0).subD (fun _ h => by rcases List.mem_singleton.1 h with rfl; exact .head _), ⟨by rw [hIp]; rfl, fun b o e => Nat.le_trans hsz0 (hA b o e)⟩⟩
    case done =>
      clear hf hs; intro D a w hf hIp hs; dsimp only [List.cons_append, List.nil_append] at hs
      refine q_blkN (q_thenN ?_)
      refine c_reg ?_
      refine uL (u_st hf hs T27 rfl rfl rfl (k := 2) rfl (Nat.le_of_ble_eq_true rfl)) ?_; clear hs; intro w hs; dsimp only [List.set] at hs
      refine uL (u_st hf hs T28 rfl rfl rfl (k := 1) rfl (Nat.le_of_ble_eq_true rfl)) ?_; clear hs; intro w hs; dsimp only [List.set] at hs
      refine e_nil ?_
      refine c_ret ?_
      refine outMR 4 hf hs rfl rfl (.cell1 T27 rfl (k := 2) rfl rfl (.cell1 T28 rfl (k := 1) rfl rfl .nil)) rfl ?_; clear hs; intro w hs
      have hor : orderP b = ([], 4) := by simp only [orderP, he, if_true, ← hall, hIp]
      exact ⟨_, rfl, hs.below, none, 0, by rw [hor]; rfl, by rw [hor]; exact ⟨Nat.le_refl _, rd_nil, fun b o e => by cases e⟩⟩
    case stop =>
      clear hf hs; intro D t pre a w hne hpre hIx hf hs; dsimp only [List.cons_append, List.nil_append] at hs
      obtain ⟨A, x⟩ := t
      dsimp only at hIx hs
      obtain ⟨rfl, hAx⟩ := hIx
      obtain ⟨rest, hrest⟩ := hpre
      refine q_blkR (q_thenR ?_)
      refine outMR 4 hf hs rfl rfl (.cell1 T27 rfl (k := 2) rfl rfl (.cell1 T28 rfl (k := 1) rfl rfl .nil)) rfl ?_; clear hs; intro w hs
      have hor : orderP b = (x, 0) := by simp only [orderP, he, if_true, ← hall, ← hrest]; rfl
      exact ⟨_, rfl, hs.below, A, x.length, by rw [hor]; rfl, by rw [hor]; exact ⟨Nat.le_refl _, hs.rd (.head _), hAx⟩⟩

end Go.Proofs.YtpjhffockmnjbaaDoor
set_option linter.unusedVariables false
set_option linter.unusedSimpArgs false
namespace Go.Proofs.YtpjhffockmnjbaaDoor
open Go.RowKit
theorem c_Rounds (b : Sheet) (fA : Option Addr) (fc : Nat) (rA : Option Addr) (rc : Nat) (ge : TypeId) (gz : Nat × Nat)  (w0 : World) (h : ShIn b fA fc rA rc w0) (hG : BlkIs 0 sidesA ge gz w0) :
    Calls Tryd.prog 29 #[.agg #[.int .i64 b.wide, .int .i64 b.high, .slice fA b.flaps.length fc, .slice rA b.rules.length rc]] w0 (Ret w0 (.tuple #[.int .i64 (roundP b).1, .int .i64 (roundP b).2])) := by
  refine c_enterM (n := 70) Tryd.func29 rfl rfl (Nat.le_of_ble_eq_true rfl) ?_; intro a hf; simp only [zipR] at hf
  have hs := St.start w0 [Rd encF 5 fA b.flaps.length b.flaps, Rd encR 2 rA b.rules.length b.rules, BlkIs 0 sidesA ge gz] (stab_app h.stab hG.st1)
  have hfm := h.F.2.1; have hrm := h.R.2.1
  refine c_reg ?_
  refine vL hf (v_boxA hf hs rfl) (by decide) ?_; clear hs hf a; rintro _ w ⟨b1, rfl, hs⟩ a hf
  refine vL hf (v_alloc hs T3 rfl) (by decide) ?_; clear hs hf a; rintro _ w ⟨b2, rfl, hs⟩ a hf
  refine vL hf (v_alloc hs T28 rfl) (by decide) ?_; clear hs hf a; rintro _ w ⟨b3, rfl, hs⟩ a hf
  refine e_nil ?_
  refine c_reg ?_
  refine gL hf (g_ldW hf hs T25 rfl (k := 2) rfl rfl) (by decide) ?_; clear hf a; intro a hf
  refine callX hf hs (c_asked b _ _ _ _ _ _ true _ ⟨hs.rd (.head _), hs.rd (.tail _ (.head _)), h.fc_, h.rc_⟩ (hs.rd (.tail _ (.tail _ (.head _))))) rfl rfl rfl E54 (by decide) ?_; intro v w1 a hR hb hs1 hf; obtain ⟨cs, mb, mp, rfl, hcl, hcp, hcm⟩ := hR; replace hs := hs.fresh hs1 (condFresh fun he => (hcm he).2.2); clear hs1 hb
  refine gL hf (g_mv hf rfl) (by decide) ?_; clear hf a; intro a hf
  refine gL hf (g_ext hf rfl rfl) (by decide) ?_; clear hf a; intro a hf
  refine gL hf (g_ext hf rfl rfl) (by decide) ?_; clear hf a; intro a hf
  refine vL hf (v_alloc hs T69 rfl) (by decide) ?_; clear hs hf a; rintro _ w ⟨b4, rfl, hs⟩ a hf
  refine uL (u_stW hf hs T69 rfl rfl hcp (k := 0) rfl hcl hcl) ?_; clear hs; intro w hs; dsimp only [List.set] at hs
  refine gL hf (g_as hf rfl) (by decide) ?_; clear hf a; intro a hf
  refine e_nil ?_
  refine wp_seq ?_
  refine c_reg ?_
  refine gL hf (g_mv hf rfl) (by decide) ?_; clear hf a; intro a hf
  refine gL hf (g_neq hf rfl rfl) (by decide) ?_; clear hf a; intro a hf
  refine e_nil ?_
  refine c_cond hf rfl (fun hc1 => ?_) (fun hc1 => ?_)
  · try simp only [decide_eq_true_eq, decide_eq_false_iff_not] at hc1
    have he : ¬ askE b true = 0 := by simpa using hc1
    refine c_reg ?_
    refine gL hf (g_mv hf rfl) (by decide) ?_; clear hf a; intro a hf
    refine uL (u_st hf hs T3 rfl rfl rfl (k := 2) rfl (Nat.le_of_ble_eq_true rfl)) ?_; clear hs; intro w hs; dsimp only [List.set] at hs
    refine uL (u_st hf hs T28 rfl rfl rfl (k := 1) rfl (Nat.le_of_ble_eq_true rfl)) ?_; clear hs; intro w hs; dsimp only [List.set] at hs
    refine e_nil ?_
    refine c_ret (q_thenR ?_)
    refine outM0 hf hs rfl (.cell1 T3 rfl (k := 2) rfl rfl (.cell1 T28 rfl (k := 1) rfl rfl .nil)) rfl ?_
    exact ⟨by simp only [roundP, if_neg he]; rfl, hs.below⟩
  · try simp only [decide_eq_true_eq, decide_eq_false_iff_not] at hc1
    have he : askE b true = 0 := by simpa using hc1
    obtain ⟨rfl, hmo, _, _⟩ := hcm he
    replace hs := hs.un (fun w h => h he)
    have hok := askE_zero he
    have hv := valid_of hok.1
    have hall := allOrds_eq hv hmo
    have hmany := hv.many
    refine c_skip (q_thenN ?_)
    refine wp_seq ?_
    refine c_reg ?_
    refine gL hf (g_ldW hf hs T69 rfl (k := 0) rfl rfl) (by decide) ?_; clear hf a; intro a hf
    refine callX hf hs (c_orders b fA fc rA rc mb _) rfl rfl rfl E67 (by decide) ?_; intro v w1 a hR hb hs1 hf; obtain ⟨bs, rfl, hbs, hbi⟩ := hR; replace hs := hs.fresh hs1 (blkFresh hbs hbi); clear hs1 hb
    refine e_nil ?_
    refine c_block ?_
    refine c_rangeA (τ := Unit) (by decide) hf hs rfl E96 (by decide) (seqL_of (b := b) (mp := mp) hv hs (.tail _ (.tail _ (.head _))) (.tail _ (.tail _ (.tail _ (.head _)))) (.tail _ (.head _)) (.head _) h.fc_ h.rc_) rfl (fun pre => pre = []) (fun pre => [(b4, .cells (sh5 b fA fc rA rc mb).toArray 69 (0, 0)), (b3, .cells #[.int .i64 0] 28 (0, 0)), (b2, .cells #[.int .i64 0] 3 (0, 0)), (b1, .cells #[.int .i64 b.wide, .int .i64 b.high, .slice fA b.flaps.length fc, .slice rA b.rules.length rc] 25 (0, 0))]) (fun t pre => ∃ x, pre = [x]) (fun t pre => []) (fun t pre => [(b4, .cells (sh5 b fA fc rA rc mb).toArray 69 (0, 0)), (b3, .cells #[.int .i64 0] 28 (0, 0)), (b2, .cells #[.int .i64 (roundN b (pre.headD []))] 3 (0, 0)), (b1, .cells #[.int .i64 b.wide, .int .i64 b.high, .slice fA b.flaps.length fc, .slice rA b.rules.length rc] 25 (0, 0))]) rfl rfl (fun _ => rfl) (fun _ _ => rfl) ?body ?done ?stop
    case body =>
      clear hf hs; intro l pre x A c W a E hE hpre hIp hxc hA hf hs
      subst hIp
      have hxin := allO_in (x := x) (by rw [← hall]; exact hpre.subset (List.mem_singleton.2 rfl))
      have hxl := hxin.1
      have hx7 : x.length ≤ 7 := by omega
      refine r_block ?_
      refine r_reg rfl ?_
      refine gL hf (g_mv hf rfl) (by decide) ?_; clear hf a; intro a hf
      refine gL hf (g_len hf SL27 rfl) (by decide) ?_; clear hf a; intro a hf
      refine vL hf (v_mk hf hs MK27 rfl (by omega)) (by decide) ?_; clear hs hf a; rintro _ w ⟨b5, rfl, hs⟩ a hf
      rw [show (List.replicate x.length (Value.int .i64 0)).toArray = rnA (outAt b x 0).1 from rn_zero _] at hs
      refine gL hf (g_as hf rfl) (by decide) ?_; clear hf a; intro a hf
      refine e_nilJ ?_
      refine r_reg rfl ?_
      refine gL hf (g_as hf rfl) (by decide) ?_; clear hf a; intro a hf
      refine e_nilJ ?_
      refine r_seq ?_
      refine r_reg rfl ?_
      refine gL hf (g_mv hf rfl) (by decide) ?_; clear hf a; intro a hf
      refine gL hf (g_len hf SL27 rfl) (by decide) ?_; clear hf a; intro a hf
      refine gL hf (g_mv hf rfl) (by decide) ?_; clear hf a; intro a hf
      refine e_nilJ ?_
      refine r_block ?_
      refine r_loop (fun _ => _) hf (List.range' 8 1 ++ List.range' 10 1 ++ List.range' 12 1 ++ List.range' 29 40) (σ := Nat) (fun k => [(8, .int .i64 (outAt b x k).2), (29, .int .i64 (k : Nat))]) (fun k => (b5, .cells (rnA (outAt b x k).1) 3 (0, 0)) :: [(b4, .cells (sh5 b fA fc rA rc mb).toArray 69 (0, 0)), (b3, .cells #[.int .i64 0] 28 (0, 0)), (b2, .cells #[.int .i64 0] 3 (0, 0)), (b1, .cells #[.int .i64 b.wide, .int .i64 b.high, .slice fA b.flaps.length fc, .slice rA b.rules.length rc] 25 (0, 0))]) (fun k => k ≤ x.length) (fun k => x.length - k) 0 hs (by omega) (.cons rfl (.cons rfl .nil)) ?_
      intro k a w hJ hf hs
      have hok1 := outAt_len b x k hJ
      refine r_reg rfl ?_
      refine gL hf (g_lss hf rfl rfl) (by decide) ?_; clear hf a; intro a hf
      refine e_nilJ ?_
      refine r_condS hf rfl (fun hc2 => ?_) (fun hc2 => ?_)
      · try simp only [decide_eq_true_eq, decide_eq_false_iff_not] at hc2
        have hfk := hxin.2 _ (getD_mem (l := x) (i := k) (by omega)); have hfk1 := hfk.1; have hfk2 := hfk.2
        refine r_skip (q_thenN ?_)
        refine r_blockS ?_
        refine r_reg rfl ?_
        (first | (refine gL hf (g_ixE hf hs (.head _) SL27 rfl rfl (by omega)) (by decide) ?_) | (refine gL hf (g_ixD hf hs (.head _) SL27 rfl rfl (by omega)) (by decide) ?_)); clear hf a; intro a hf
        refine gL hf (g_ldE hf hs (.head _) T3 rfl rfl (by omega)) (by decide) ?_; clear hf a; intro a hf
        refine gL hf (g_as hf rfl) (by decide) ?_; clear hf a; intro a hf
        refine e_nilJ ?_
        refine r_reg rfl ?_
        refine gL hf (g_mv hf rfl) (by decide) ?_; clear hf a; intro a hf
        refine gL hf (g_mv hf rfl) (by decide) ?_; clear hf a; intro a hf
        refine gL hf (g_ixO hf SL27 rfl rfl (by omega)) (by decide) ?_; clear hf a; intro a hf
        refine uL (u_st hf hs T3 rfl rfl rfl (k := 0) rfl (by rw [rn_size]; omega)) ?_; clear hs; intro w hs; dsimp only [List.set] at hs
        rw [rn_set] at hs
        refine e_nilJ ?_
        refine r_seq ?_
        refine r_reg rfl ?_
        refine gL hf (g_mv hf rfl) (by decide) ?_; clear hf a; intro a hf
        refine gL hf (g_len hf SL27 rfl) (by decide) ?_; clear hf a; intro a hf
        refine gL hf (g_mv hf rfl) (by decide) ?_; clear hf a; intro a hf
        refine e_nilJ ?_
        refine r_block ?_
        refine r_loop (fun _ => _) hf [12, 38, 39, 40, 41, 42, 43, 44, 45, 46, 47, 48, 49, 50, 51, 52, 53, 54, 55, 56, 57, 58, 59, 60] (σ := Nat) (fun m => [(38, .int .i64 (m : Nat))]) (fun m => (b5, .cells (rnA (inAt b x (x.getD k default) (outAt b x k).1 m)) 3 (0, 0)) :: [(b4, .cells (sh5 b fA fc rA rc mb).toArray 69 (0, 0)), (b3, .cells #[.int .i64 0] 28 (0, 0)), (b2, .cells #[.int .i64 0] 3 (0, 0)), (b1, .cells #[.int .i64 b.wide, .int .i64 b.high, .slice fA b.flaps.length fc, .slice rA b.rules.length rc] 25 (0, 0))]) (fun m => m ≤ x.length) (fun m => x.length - m) 0 hs (by omega) (.cons rfl .nil) ?_
        intro m a w hJ hf hs
        have hok2 := inAt_len b x (x.getD k default) (outAt b x k).1 m
        refine r_reg rfl ?_
        refine gL hf (g_lss hf rfl rfl) (by decide) ?_; clear hf a; intro a hf
        refine e_nilJ ?_
        refine r_condS hf rfl (fun hc3 => ?_) (fun hc3 => ?_)
        · try simp only [decide_eq_true_eq, decide_eq_false_iff_not] at hc3
          have hfm2 := hxin.2 _ (getD_mem (l := x) (i := m) (by omega)); have hfm3 := hfm2.1; have hfm4 := hfm2.2
          refine r_skip (q_thenN ?_)
          refine r_blockS ?_
          refine r_reg rfl ?_
          (first | (refine gL hf (g_ixE hf hs (.head _) SL27 rfl rfl (by omega)) (by decide) ?_) | (refine gL hf (g_ixD hf hs (.head _) SL27 rfl rfl (by omega)) (by decide) ?_)); clear hf a; intro a hf
          refine gL hf (g_ldE hf hs (.head _) T3 rfl rfl (by omega)) (by decide) ?_; clear hf a; intro a hf
          refine gL hf (g_as hf rfl) (by decide) ?_; clear hf a; intro a hf
          refine e_nilJ ?_
          refine r_reg rfl ?_
          refine gL hf (g_ldW hf hs T69 rfl (k := 1) rfl rfl) (by decide) ?_; clear hf a; intro a hf
          refine gL hf (g_mv hf rfl) (by decide) ?_; clear hf a; intro a hf
          refine gL hf (g_mv hf rfl) (by decide) ?_; clear hf a; intro a hf
          refine callL hf hs (c_overT b _ _ _ _ _ mp (x.getD k default) (x.getD m default) _ ⟨hs.rd (.tail _ (.tail _ (.tail _ (.head _)))), hs.rd (.tail _ (.tail _ (.tail _ (.tail _ (.head _))))), h.fc_, h.rc_⟩ (hs.rd (.tail _ (.tail _ (.head _))))) rfl rfl rfl E70 (by decide) ?_; clear hs hf a; intro w a hs hf
          rw [overT_eq hmo hfk hfm2] at hf
          refine e_nilJ ?_
          refine r_cond hf rfl (fun hc4 => ?_) (fun hc4 => ?_)
          · skip
            have hst : inAt b x (x.getD k default) (outAt b x k).1 (m + 1) = (inAt b x (x.getD k default) (outAt b x k).1 m).set (x.getD k default).toNat (max ((inAt b x (x.getD k default) (outAt b x k).1 m).getD (x.getD k default).toNat 0) ((inAt b x (x.getD k default) (outAt b x k).1 m).getD (x.getD m default).toNat 0 + 1)) := by rw [inAt_succ (by omega), inStep, if_pos hc4]
            refine r_draw1 _ 15 rfl Mx rfl hs (fun _ h => h.sub (.cons _ (.refl _))) ?_; intro w hs hS
            refine gA hf hS (i := 0) rfl (by kernel_rfl) (fun w hs => g_mv hf rfl) (by decide) ?_; clear hf a; intro a hf
            refine gA hf hS (i := 1) rfl (by kernel_rfl) (fun w hs => g_mv hf rfl) (by decide) ?_; clear hf a; intro a hf
            refine gA hf hS (i := 2) rfl (by kernel_rfl) (fun w hs => g_mv hf rfl) (by decide) ?_; clear hf a; intro a hf
            refine gA hf hS (i := 3) rfl (by kernel_rfl) (fun w hs => g_mv hf rfl) (by decide) ?_; clear hf a; intro a hf
            refine gA hf hS (i := 4) rfl (by kernel_rfl) (fun w hs => g_ixO hf SL27 rfl rfl (by omega)) (by decide) ?_; clear hf a; intro a hf
            refine gA hf hS (i := 6) rfl (by kernel_rfl) (fun w hs => g_mv hf rfl) (by decide) ?_; clear hf a; intro a hf
            refine gA hf hS (i := 7) rfl (by kernel_rfl) (fun w hs => g_mv hf rfl) (by decide) ?_; clear hf a; intro a hf
            refine gA hf hS (i := 8) rfl (by kernel_rfl) (fun w hs => g_ixO hf SL27 rfl rfl (by omega)) (by decide) ?_; clear hf a; intro a hf
            refine two (i := 5) (j := 9) (by kernel_rfl) ?_ ?_
            · skip
              refine oV hf rfl (goesV_of_gets (g_ld hf hs T3 rfl (k := 0) rfl (rn_get (by omega)))) (by decide) (fun _ _ h => by rw [h.2]; exact hS) ?_; rintro _ w ⟨rfl, rfl⟩ hS a hf
              refine one (i := 9) (by kernel_rfl) ?_
              refine oV hf rfl (goesV_of_gets (g_ld hf hs T3 rfl (k := 0) rfl (rn_get (by omega)))) (by decide) (fun _ _ h => by rw [h.2]; exact hS) ?_; rintro _ w ⟨rfl, rfl⟩ hS a hf
              refine gA hf hS (i := 10) rfl (by kernel_rfl) (fun w hs => g_addI hf rfl rfl (by have h8 := rbd_mid (b := b) hx7 (k := k) (m := m) (by omega) (by omega) (x.getD k default) (x.getD m default).toNat; omega)) (by decide) ?_; clear hf a; intro a hf
              refine one (i := 11) (by kernel_rfl) ?_
              refine oV hf rfl (v_lits (len := 1) hf hs SL27 T3 (.cons rfl .nil) rfl rfl rfl rfl (by decide) rfl) (by decide) (fun _ _ ⟨_, _, h⟩ => h.sub (.cons _ (.cons _ (.refl _)))) ?_; clear hs hf hS a; rintro _ w ⟨b6, rfl, hs⟩ hS a hf
              refine one (i := 12) (by kernel_rfl) ?_
              refine oCall hf hs rfl (c_greatest _ _ [_] _ _ (rd_one rfl (hs.own _ _ (.head _)).2)) rfl rfl rfl E64 (by decide) (fun _ h => h.sub (.cons _ (.cons _ (.refl _)))) ?_; clear hs hf hS a; intro w a hs hS hf
              refine gA hf hS (i := 13) rfl (by kernel_rfl) (fun w hs => g_ixO hf SL27 rfl rfl (by omega)) (by decide) ?_; clear hf a; intro a hf
              refine one (i := 14) (by kernel_rfl) ?_
              refine oU rfl (u_st hf hs T3 rfl rfl rfl (k := 1) rfl (by rw [rn_size]; omega)) (fun _ h => h.sub (.cons _ (.cons _ (.refl _)))) ?_; clear hs hS; intro w hs hS; dsimp only [List.set] at hs
              rw [rn_set] at hs
              refine e_doneJ (by kernel_rfl) ?_
              refine q_blkN (q_thenN ?_)
              refine r_reg1 rfl ?_
              refine gL hf (g_addI hf rfl rfl (by omega)) (by decide) ?_; clear hf a; intro a hf
              refine gL hf (g_mv hf rfl) (by decide) ?_; clear hf a; intro a hf
              refine e_nilJ (q_thenN ?_)
              exact ⟨m + 1, (by omega), (by omega), hf.back (by repeat (first | (with_reducible exact Ext.base) | ((with_reducible refine Ext.cons ?_ ?_); (· rfl)) | ((with_reducible refine Ext.over ?_ ?_ ?_); (· rfl); (· rfl)))) (allKeys rfl) (.cons rfl .nil), (by rw [hst]; first | exact hs.dropN 0 | exact hs.dropN 1)⟩
            · skip
              refine oV hf rfl (goesV_of_gets (g_ld hf hs T3 rfl (k := 0) rfl (rn_get (by omega)))) (by decide) (fun _ _ h => by rw [h.2]; exact hS) ?_; rintro _ w ⟨rfl, rfl⟩ hS a hf
              refine gA hf hS (i := 10) rfl (by kernel_rfl) (fun w hs => g_addI hf rfl rfl (by have h8 := rbd_mid (b := b) hx7 (k := k) (m := m) (by omega) (by omega) (x.getD k default) (x.getD m default).toNat; omega)) (by decide) ?_; clear hf a; intro a hf
              refine two (i := 5) (j := 11) (by kernel_rfl) ?_ ?_
              · skip
                refine oV hf rfl (goesV_of_gets (g_ld hf hs T3 rfl (k := 0) rfl (rn_get (by omega)))) (by decide) (fun _ _ h => by rw [h.2]; exact hS) ?_; rintro _ w ⟨rfl, rfl⟩ hS a hf
                refine one (i := 11) (by kernel_rfl) ?_
                refine oV hf rfl (v_lits (len := 1) hf hs SL27 T3 (.cons rfl .nil) rfl rfl rfl rfl (by decide) rfl) (by decide) (fun _ _ ⟨_, _, h⟩ => h.sub (.cons _ (.cons _ (.refl _)))) ?_; clear hs hf hS a; rintro _ w ⟨b6, rfl, hs⟩ hS a hf
                refine one (i := 12) (by kernel_rfl) ?_
                refine oCall hf hs rfl (c_greatest _ _ [_] _ _ (rd_one rfl (hs.own _ _ (.head _)).2)) rfl rfl rfl E64 (by decide) (fun _ h => h.sub (.cons _ (.cons _ (.refl _)))) ?_; clear hs hf hS a; intro w a hs hS hf
                refine gA hf hS (i := 13) rfl (by kernel_rfl) (fun w hs => g_ixO hf SL27 rfl rfl (by omega)) (by decide) ?_; clear hf a; intro a hf
                refine one (i := 14) (by kernel_rfl) ?_
                refine oU rfl (u_st hf hs T3 rfl rfl rfl (k := 1) rfl (by rw [rn_size]; omega)) (fun _ h => h.sub (.cons _ (.cons _ (.refl _)))) ?_; clear hs hS; intro w hs hS; dsimp only [List.set] at hs
                rw [rn_set] at hs
                refine e_doneJ (by kernel_rfl) ?_
                refine q_blkN (q_thenN ?_)
                refine r_reg1 rfl ?_
                refine gL hf (g_addI hf rfl rfl (by omega)) (by decide) ?_; clear hf a; intro a hf
                refine gL hf (g_mv hf rfl) (by decide) ?_; clear hf a; intro a hf
                refine e_nilJ (q_thenN ?_)
                exact ⟨m + 1, (by omega), (by omega), hf.back (by repeat (first | (with_reducible exact Ext.base) | ((with_reducible refine Ext.cons ?_ ?_); (· rfl)) | ((with_reducible refine Ext.over ?_ ?_ ?_); (· rfl); (· rfl)))) (allKeys rfl) (.cons rfl .nil), (by rw [hst]; first | exact hs.dropN 0 | exact hs.dropN 1)⟩
              · skip
                refine oV hf rfl (v_lits (len := 1) hf hs SL27 T3 (.cons rfl .nil) rfl rfl rfl rfl (by decide) rfl) (by decide) (fun _ _ ⟨_, _, h⟩ => h.sub (.cons _ (.cons _ (.refl _)))) ?_; clear hs hf hS a; rintro _ w ⟨b6, rfl, hs⟩ hS a hf
                refine one (i := 5) (by kernel_rfl) ?_
                refine oV hf rfl (goesV_of_gets (g_ld hf hs T3 rfl (k := 1) rfl (rn_get (by omega)))) (by decide) (fun _ _ h => by rw [h.2]; exact hS) ?_; rintro _ w ⟨rfl, rfl⟩ hS a hf
                refine one (i := 12) (by kernel_rfl) ?_
                refine oCall hf hs rfl (c_greatest _ _ [_] _ _ (rd_one rfl (hs.own _ _ (.head _)).2)) rfl rfl rfl E64 (by decide) (fun _ h => h.sub (.cons _ (.cons _ (.refl _)))) ?_; clear hs hf hS a; intro w a hs hS hf
                refine gA hf hS (i := 13) rfl (by kernel_rfl) (fun w hs => g_ixO hf SL27 rfl rfl (by omega)) (by decide) ?_; clear hf a; intro a hf
                refine one (i := 14) (by kernel_rfl) ?_
                refine oU rfl (u_st hf hs T3 rfl rfl rfl (k := 1) rfl (by rw [rn_size]; omega)) (fun _ h => h.sub (.cons _ (.cons _ (.refl _)))) ?_; clear hs hS; intro w hs hS; dsimp only [List.set] at hs
                rw [rn_set] at hs
                refine e_doneJ (by kernel_rfl) ?_
                refine q_blkN (q_thenN ?_)
                refine r_reg1 rfl ?_
                refine gL hf (g_addI hf rfl rfl (by omega)) (by decide) ?_; clear hf a; intro a hf
                refine gL hf (g_mv hf rfl) (by decide) ?_; clear hf a; intro a hf
                refine e_nilJ (q_thenN ?_)
                exact ⟨m + 1, (by omega), (by omega), hf.back (by repeat (first | (with_reducible exact Ext.base) | ((with_reducible refine Ext.cons ?_ ?_); (· rfl)) | ((with_reducible refine Ext.over ?_ ?_ ?_); (· rfl); (· rfl)))) (allKeys rfl) (.cons rfl .nil), (by rw [hst]; first | exact hs.dropN 0 | exact hs.dropN 1)⟩
          · skip
            have hst : inAt b x (x.getD k default) (outAt b x k).1 (m + 1) = (inAt b x (x.getD k default) (outAt b x k).1 m) := by rw [inAt_succ (by omega), inStep, if_neg (by rw [hc4]; decide)]
            refine r_skip (q_blkN (q_thenN ?_))
            refine r_reg1 rfl ?_
            refine gL hf (g_addI hf rfl rfl (by omega)) (by decide) ?_; clear hf a; intro a hf
            refine gL hf (g_mv hf rfl) (by decide) ?_; clear hf a; intro a hf
            refine e_nilJ (q_thenN ?_)
            exact ⟨m + 1, (by omega), (by omega), hf.back (by repeat (first | (with_reducible exact Ext.base) | ((with_reducible refine Ext.cons ?_ ?_); (· rfl)) | ((with_reducible refine Ext.over ?_ ?_ ?_); (· rfl); (· rfl)))) (allKeys rfl) (.cons rfl .nil), (by rw [hst]; first | exact hs.dropN 0 | exact hs.dropN 1)⟩
        · try simp only [decide_eq_true_eq, decide_eq_false_iff_not] at hc3
          obtain rfl : m = x.length := by omega
          refine r_exit (q_thenX (q_thenX (q_blkX (q_thenN ?_))))
          refine r_reg1 rfl ?_
          refine gL hf (g_mv hf rfl) (by decide) ?_; clear hf a; intro a hf
          refine gL hf (g_mv hf rfl) (by decide) ?_; clear hf a; intro a hf
          refine gL hf (g_mv hf rfl) (by decide) ?_; clear hf a; intro a hf
          refine gL hf (g_ixO hf SL27 rfl rfl (by omega)) (by decide) ?_; clear hf a; intro a hf
          refine gL hf (g_ld hf hs T3 rfl (k := 0) rfl (rn_get (by rw [inAt_len]; omega))) (by decide) ?_; clear hf a; intro a hf
          refine vL hf (v_lits (len := 1) hf hs SL27 T3 (.cons rfl .nil) rfl rfl rfl rfl (by decide) rfl) (by decide) ?_; clear hs hf a; rintro _ w ⟨b6, rfl, hs⟩ a hf
          refine callL hf hs (c_greatest _ _ [_] _ _ (rd_one rfl (hs.own _ _ (.head _)).2)) rfl rfl rfl E64 (by decide) ?_; clear hs hf a; intro w a hs hf
          refine gL hf (g_as hf rfl) (by decide) ?_; clear hf a; intro a hf
          refine e_nilJ (q_blkN (q_thenN ?_))
          refine r_reg1 rfl ?_
          refine gL hf (g_addI hf rfl rfl (by omega)) (by decide) ?_; clear hf a; intro a hf
          refine gL hf (g_mv hf rfl) (by decide) ?_; clear hf a; intro a hf
          refine e_nilJ (q_thenN ?_)
          have e7 : outAt b x (k + 1) = (inAt b x (x.getD k default) (outAt b x k).1 x.length, max (outAt b x k).2 ((inAt b x (x.getD k default) (outAt b x k).1 x.length).getD (x.getD k default).toNat 0)) := by rw [outAt_succ (by omega)]; rfl
          rw [show maxL (outAt b x k).2 [(inAt b x (x.getD k default) (outAt b x k).1 x.length).getD (x.getD k default).toNat 0] = (outAt b x (k + 1)).2 by rw [e7]; rfl] at hf
          rw [show inAt b x (x.getD k default) (outAt b x k).1 x.length = (outAt b x (k + 1)).1 by rw [e7]] at hs
          exact ⟨k + 1, (by omega), (by omega), hf.back (by repeat (first | (with_reducible exact Ext.base) | ((with_reducible refine Ext.cons ?_ ?_); (· rfl)) | ((with_reducible refine Ext.over ?_ ?_ ?_); (· rfl); (· rfl)))) (allKeys rfl) (.cons rfl (.cons rfl .nil)), hs.dropN 1⟩
      · try simp only [decide_eq_true_eq, decide_eq_false_iff_not] at hc2
        obtain rfl : k = x.length := by omega
        refine r_exit (q_thenX (q_thenX (q_blkX (q_thenN ?_))))
        refine r_reg rfl ?_
        refine gL hf (g_mv hf rfl) (by decide) ?_; clear hf a; intro a hf
        refine uL (u_st hf hs T3 rfl rfl rfl (k := 3) rfl (Nat.le_of_ble_eq_true rfl)) ?_; clear hs; intro w hs; dsimp only [List.set] at hs
        refine uL (u_st hf hs T28 rfl rfl rfl (k := 2) rfl (Nat.le_of_ble_eq_true rfl)) ?_; clear hs; intro w hs; dsimp only [List.set] at hs
        refine e_nilJ ?_
        refine r_ret (q_blkR ?_)
        exact ⟨(), (hs.dropN 1).subD (fun _ h => by cases h), ⟨x, rfl⟩⟩
    case done =>
      clear hf hs; intro D a w hf hIp hs; dsimp only [List.cons_append, List.nil_append] at hs
      refine q_blkN (q_thenN ?_)
      refine c_reg ?_
      refine uL (u_st hf hs T3 rfl rfl rfl (k := 2) rfl (Nat.le_of_ble_eq_true rfl)) ?_; clear hs; intro w hs; dsimp only [List.set] at hs
      refine uL (u_st hf hs T28 rfl rfl rfl (k := 1) rfl (Nat.le_of_ble_eq_true rfl)) ?_; clear hs; intro w hs; dsimp only [List.set] at hs
      refine e_nil ?_
      refine c_ret ?_
      refine outMR 4 hf hs rfl rfl (.cell1 T3 rfl (k := 2) rfl rfl (.cell1 T28 rfl (k := 1) rfl rfl .nil)) rfl ?_; clear hs; intro w hs
      exact ⟨by simp only [roundP, he, if_true, ← hall, hIp]; rfl, hs.below⟩
    case stop =>
      clear hf hs; intro D t pre a w hne hpre hIx hf hs; dsimp only [List.cons_append, List.nil_append] at hs
      obtain ⟨x, rfl⟩ := hIx
      obtain ⟨rest, hrest⟩ := hpre
      refine q_blkR (q_thenR ?_)
      refine outMR 4 hf hs rfl rfl (.cell1 T3 rfl (k := 2) rfl rfl (.cell1 T28 rfl (k := 1) rfl rfl .nil)) rfl ?_; clear hs; intro w hs
      exact ⟨by simp only [roundP, he, if_true, ← hall, ← hrest]; rfl, hs.below⟩

end Go.Proofs.YtpjhffockmnjbaaDoor
set_option linter.unusedVariables false
set_option linter.unusedSimpArgs false
namespace Go.Proofs.YtpjhffockmnjbaaDoor
open Go.RowKit
theorem c_Compare (Ax : Option Addr) (cx : Nat) (x : List Int) (Ay : Option Addr) (cy : Nat) (y : List Int)  (w0 : World) (hx : Rd encI 1 Ax x.length x w0) (hy : Rd encI 1 Ay y.length y w0) :
    Calls Tryd.prog 78 #[.slice Ax x.length cx, .slice Ay y.length cy] w0 (Ret w0 (.int .i64 (cmpZ x y))) := by
  refine c_enter (n := 36) Tryd.func78 rfl rfl (Nat.le_of_ble_eq_true rfl) ?_; intro a hf; simp only [zipR] at hf
  have hs := St.start w0 [Rd encI 1 Ax x.length x, Rd encI 1 Ay y.length y] (stab_app hx.st1 hy.st1)
  have hmx := hx.2.1
  have hmy := hy.2.1
  refine c_reg ?_
  refine gL hf (g_as hf rfl) (by decide) ?_; clear hf a; intro a hf
  refine e_nil ?_
  refine wp_seq ?_
  refine c_reg ?_
  refine gL hf (g_mv hf rfl) (by decide) ?_; clear hf a; intro a hf
  refine gL hf (g_len hf SL27 rfl) (by decide) ?_; clear hf a; intro a hf
  refine gL hf (g_mv hf rfl) (by decide) ?_; clear hf a; intro a hf
  refine e_nil ?_
  refine c_block ?_
  refine c_loop hf hs (List.range' 4 5 ++ List.range' 11 20) (σ := Nat) (fun k => [(11, .int .i64 (k : Nat))]) (fun k => _) (fun k => k ≤ x.length ∧ k ≤ y.length ∧ ∀ j, j < k → x.getD j default = y.getD j default) (fun k => x.length - k) 0 ⟨by omega, by omega, fun z hz => absurd hz (by omega)⟩ (.cons rfl .nil) rfl ?_
  intro k a w hJ hf hs
  obtain ⟨hk, hk2, hp⟩ := hJ
  refine c_reg ?_
  refine gL hf (g_lss hf rfl rfl) (by decide) ?_; clear hf a; intro a hf
  refine e_nil ?_
  refine c_condS hf rfl (fun hc1 => ?_) (fun hc1 => ?_)
  · try simp only [decide_eq_true_eq, decide_eq_false_iff_not] at hc1
    refine c_skip (q_thenN ?_)
    refine c_blockS ?_
    refine c_reg ?_
    refine gL hf (g_mv hf rfl) (by decide) ?_; clear hf a; intro a hf
    (first | (refine gL hf (g_ixE hf hs (.head _) SL27 rfl rfl (by omega)) (by decide) ?_) | (refine gL hf (g_ixD hf hs (.head _) SL27 rfl rfl (by omega)) (by decide) ?_)); clear hf a; intro a hf
    refine gL hf (g_ldE hf hs (.head _) T3 rfl rfl (by omega)) (by decide) ?_; clear hf a; intro a hf
    refine gL hf (g_as hf rfl) (by decide) ?_; clear hf a; intro a hf
    refine gL hf (g_as hf rfl) (by decide) ?_; clear hf a; intro a hf
    refine e_nil ?_
    refine wp_seq ?_
    refine c_reg ?_
    refine gL hf (g_mv hf rfl) (by decide) ?_; clear hf a; intro a hf
    refine gL hf (g_mv hf rfl) (by decide) ?_; clear hf a; intro a hf
    refine gL hf (g_len hf SL27 rfl) (by decide) ?_; clear hf a; intro a hf
    refine gL hf (g_geq hf rfl rfl) (by decide) ?_; clear hf a; intro a hf
    refine e_nil ?_
    refine c_cond hf rfl (fun hc2 => ?_) (fun hc2 => ?_)
    · try simp only [decide_eq_true_eq, decide_eq_false_iff_not] at hc2
      refine c_reg ?_
      refine gL hf (g_as hf rfl) (by decide) ?_; clear hf a; intro a hf
      refine e_nil ?_
      refine c_ret (q_thenR (q_blkR (q_thenR (q_thenR (q_blkR (q_thenR ?_))))))
      refine e_ret1 hf rfl rfl ?_
      exact ⟨by rw [cmp_long (k := k) (by omega) (by omega) hp], hs.below⟩
    · try simp only [decide_eq_true_eq, decide_eq_false_iff_not] at hc2
      refine c_skip (q_thenN ?_)
      refine c_reg ?_
      refine gL hf (g_mv hf rfl) (by decide) ?_; clear hf a; intro a hf
      refine gL hf (g_mv hf rfl) (by decide) ?_; clear hf a; intro a hf
      (first | (refine gL hf (g_ixE hf hs (.tail _ (.head _)) SL27 rfl rfl (by omega)) (by decide) ?_) | (refine gL hf (g_ixD hf hs (.tail _ (.head _)) SL27 rfl rfl (by omega)) (by decide) ?_)); clear hf a; intro a hf
      refine gL hf (g_ldE hf hs (.tail _ (.head _)) T3 rfl rfl (by omega)) (by decide) ?_; clear hf a; intro a hf
      refine gL hf (g_as hf rfl) (by decide) ?_; clear hf a; intro a hf
      refine e_nil ?_
      refine c_reg ?_
      refine gL hf (g_mv hf rfl) (by decide) ?_; clear hf a; intro a hf
      refine gL hf (g_mv hf rfl) (by decide) ?_; clear hf a; intro a hf
      refine callL hf hs (c_cmp _ _ _) rfl rfl rfl E106 (by decide) ?_; clear hs hf a; intro w a hs hf
      refine gL hf (g_as hf rfl) (by decide) ?_; clear hf a; intro a hf
      refine e_nil ?_
      refine c_reg ?_
      refine gL hf (g_mv hf rfl) (by decide) ?_; clear hf a; intro a hf
      refine gL hf (g_neq hf rfl rfl) (by decide) ?_; clear hf a; intro a hf
      refine e_nil ?_
      refine c_cond hf rfl (fun hc3 => ?_) (fun hc3 => ?_)
      · skip
        have hne : x.getD k default ≠ y.getD k default := fun e => by rw [e] at hc3; simp at hc3
        refine c_reg ?_
        refine gL hf (g_mv hf rfl) (by decide) ?_; clear hf a; intro a hf
        refine gL hf (g_as hf rfl) (by decide) ?_; clear hf a; intro a hf
        refine e_nil ?_
        refine c_ret (q_blkR (q_thenR (q_thenR (q_blkR (q_thenR ?_)))))
        refine e_ret1 hf rfl rfl ?_
        exact ⟨by rw [cmp_at (by omega) (by omega) hp hne], hs.below⟩
      · skip
        have heq : x.getD k default = y.getD k default := by
              rcases Int.lt_trichotomy (x.getD k default) (y.getD k default) with h | h | h
              · rw [if_pos h] at hc3; simp at hc3
              · exact h
              · rw [if_neg (by omega), if_pos h] at hc3; simp at hc3
        refine c_skip (q_blkN (q_thenN ?_))
        refine c_reg1 ?_
        refine gL hf (g_addI hf rfl rfl (by omega)) (by decide) ?_; clear hf a; intro a hf
        refine gL hf (g_mv hf rfl) (by decide) ?_; clear hf a; intro a hf
        refine e_nil1 (q_thenN ?_)
        exact ⟨k + 1, ⟨by omega, by omega, lt_succ hp heq⟩, (by omega), hf.back (by repeat (first | (with_reducible exact Ext.base) | ((with_reducible refine Ext.cons ?_ ?_); (· rfl)) | ((with_reducible refine Ext.over ?_ ?_ ?_); (· rfl); (· rfl)))) (allKeys rfl) (.cons rfl .nil), hs.dropN 0⟩
  · try simp only [decide_eq_true_eq, decide_eq_false_iff_not] at hc1
    obtain rfl : k = x.length := by omega
    refine c_exit (q_thenX (q_thenX (q_blkX (q_thenN ?_))))
    refine wp_seq ?_
    refine c_reg ?_
    refine gL hf (g_mv hf rfl) (by decide) ?_; clear hf a; intro a hf
    refine gL hf (g_len hf SL27 rfl) (by decide) ?_; clear hf a; intro a hf
    refine gL hf (g_mv hf rfl) (by decide) ?_; clear hf a; intro a hf
    refine gL hf (g_len hf SL27 rfl) (by decide) ?_; clear hf a; intro a hf
    refine gL hf (g_lss hf rfl rfl) (by decide) ?_; clear hf a; intro a hf
    refine e_nil ?_
    refine c_cond hf rfl (fun hc4 => ?_) (fun hc4 => ?_)
    · try simp only [decide_eq_true_eq, decide_eq_false_iff_not] at hc4
      refine c_reg ?_
      refine gL hf (g_as hf rfl) (by decide) ?_; clear hf a; intro a hf
      refine e_nil ?_
      refine c_ret (q_thenR ?_)
      refine e_ret1 hf rfl rfl ?_
      exact ⟨by rw [cmp_end hk2 hp, if_pos (by omega)], hs.below⟩
    · try simp only [decide_eq_true_eq, decide_eq_false_iff_not] at hc4
      refine c_skip (q_thenN ?_)
      refine c_reg ?_
      refine gL hf (g_as hf rfl) (by decide) ?_; clear hf a; intro a hf
      refine e_nil ?_
      refine c_ret ?_
      refine e_ret1 hf rfl rfl ?_
      exact ⟨by rw [cmp_end hk2 hp, if_neg (by omega)], hs.below⟩

end Go.Proofs.YtpjhffockmnjbaaDoor
set_option linter.unusedVariables false
set_option linter.unusedSimpArgs false
namespace Go.Proofs.YtpjhffockmnjbaaDoor
open Go.RowKit
theorem c_Clone (A : Option Addr) (n c : Nat) (l : List Flap) (hn : 0 < n ∧ n ≤ 7) (w0 : World) (h : Rd encF 5 A n l w0) :
    Calls Tryd.prog 74 #[.slice A n c] w0 (RetX w0 (fun v w0' => ∃ bc cs, v = .slice (some ⟨bc, 0, none⟩) n (cs.size / 5) ∧ AccOK encF 5 l (some (bc, cs)) ∧ w0.heap.size ≤ bc ∧ w0'.heap[bc]? = some (.cells cs 49 (0, 0)))) := by
  refine c_enter (n := 8) Tryd.func74 rfl rfl (Nat.le_of_ble_eq_true rfl) ?_; intro a hf; simp only [zipR] at hf
  have hs := St.start w0 [Rd encF 5 A n l] h.st1
  have hsm := h.isSome hn.1
  have hl := h.1
  refine c_reg ?_
  refine gL hf (g_as hf rfl) (by decide) ?_; clear hf a; intro a hf
  refine e_nil ?_
  refine wp_seq ?_
  refine c_reg ?_
  refine gL hf (g_mv hf rfl) (by decide) ?_; clear hf a; intro a hf
  refine gL hf (g_eqNil hf SE22 rfl rfl) (by decide) ?_; clear hf a; intro a hf
  refine e_nil ?_
  refine c_cond hf rfl (fun hc1 => ?_) (fun hc1 => ?_)
  · try simp only [decide_eq_true_eq, decide_eq_false_iff_not] at hc1
    rw [Option.isNone_iff_eq_none] at hc1; rw [hc1] at hsm; cases hsm
  · try simp only [decide_eq_true_eq, decide_eq_false_iff_not] at hc1
    refine c_skip (q_thenN ?_)
    refine c_reg ?_
    refine vL hf (v_lits (len := 0) hf hs SL22 T49 .nil rfl rfl rfl rfl (by decide) rfl) (by decide) ?_; clear hs hf a; rintro _ w ⟨b1, rfl, hs⟩ a hf
    refine gL hf (g_mv hf rfl) (by decide) ?_; clear hf a; intro a hf
    refine vL hf (v_acc (H' := []) (o := some (b1, #[])) hf hs ⟨0, rfl, Nat.le_refl _, by omega, rfl⟩ AP22 (enc := encF) (l := []) (len := 0) (fun _ => rfl) (by decide) (by intro x v hv; simp only [encF, List.mem_cons, List.not_mem_nil, or_false] at hv; rcases hv with rfl | rfl | rfl | rfl | rfl <;> rfl) rfl rfl rfl (hs.rd (.head _)) (by omega) (by decide)) (by decide) ?_; clear hs hf a; rintro _ w ⟨o2, rfl, hok, hs⟩ a hf
    refine gL hf (g_as hf rfl) (by decide) ?_; clear hf a; intro a hf
    refine e_nil ?_
    refine c_ret ?_
    refine e_ret1 hf rfl rfl ?_
    rw [List.nil_append] at hok
    cases o2 with
    | none => have h9 : l = [] := hok; rw [h9] at hl; simp at hl; omega
    | some q =>
      obtain ⟨bc, cs⟩ := q
      exact ⟨_, rfl, hs.below, bc, cs, by simp [accV], hok, (hs.own _ _ (.head _)).1, (hs.own _ _ (.head _)).2⟩

end Go.Proofs.YtpjhffockmnjbaaDoor
set_option linter.unusedVariables false
set_option linter.unusedSimpArgs false
namespace Go.Proofs.YtpjhffockmnjbaaDoor
open Go.RowKit
theorem c_Shorter (b : Sheet) (fA : Option Addr) (fc : Nat) (rA : Option Addr) (rc : Nat) (ge : TypeId) (gz : Nat × Nat) (i : Int) (w0 : World) (h : ShIn b fA fc rA rc w0) (hG : BlkIs 0 sidesA ge gz w0) :
    Calls Tryd.prog 31 #[.agg #[.int .i64 b.wide, .int .i64 b.high, .slice fA b.flaps.length fc, .slice rA b.rules.length rc], .int .i64 i] w0 (Ret w0 (.tuple #[.int .i64 (shorterP b i).1, .int .i64 (shorterP b i).2])) := by
  refine c_enter (n := 59) Tryd.func31 rfl rfl (Nat.le_of_ble_eq_true rfl) ?_; intro a hf; simp only [zipR] at hf
  have hs := St.start w0 [Rd encF 5 fA b.flaps.length b.flaps, Rd encR 2 rA b.rules.length b.rules, BlkIs 0 sidesA ge gz] (stab_app h.stab hG.st1)
  have hfm := h.F.2.1; have hrm := h.R.2.1
  refine c_reg ?_
  refine vL hf (v_boxA hf hs rfl) (by decide) ?_; clear hs hf a; rintro _ w ⟨b1, rfl, hs⟩ a hf
  refine gL hf (g_as hf rfl) (by decide) ?_; clear hf a; intro a hf
  refine gL hf (g_as hf rfl) (by decide) ?_; clear hf a; intro a hf
  refine e_nil ?_
  refine wp_seq ?_
  refine c_draw _ 11 Mx rfl hs (fun _ h => h) ?_; intro w hs hS
  refine gA hf hS (i := 0) rfl (by kernel_rfl) (fun w hs => g_ldW hf hs T25 rfl (k := 0) rfl rfl) (by decide) ?_; clear hf a; intro a hf
  refine gA hf hS (i := 1) rfl (by kernel_rfl) (fun w hs => g_ldW hf hs T25 rfl (k := 0) rfl rfl) (by decide) ?_; clear hf a; intro a hf
  refine gA hf hS (i := 2) rfl (by kernel_rfl) (fun w hs => g_mv hf rfl) (by decide) ?_; clear hf a; intro a hf
  refine two (i := 3) (j := 8) (by kernel_rfl) ?_ ?_
  · skip
    refine oCall hf hs rfl (c_isFlap _ _ _ _ _ _ _ _ _ (by omega) _) rfl rfl rfl E55 (by decide) (fun _ h => h.sub (.refl _)) ?_; clear hs hf hS a; intro w a hs hS hf
    refine two (i := 4) (j := 8) (by kernel_rfl) ?_ ?_
    · skip
      refine oCallX hf hs rfl (c_asked b _ _ _ _ _ _ (flapB b.flaps.length i) _ ⟨hs.rd (.head _), hs.rd (.tail _ (.head _)), h.fc_, h.rc_⟩ (hs.rd (.tail _ (.tail _ (.head _))))) rfl rfl rfl E54 (by decide) (fun _ h => h.sub (.refl _)) ?_; intro v w1 a hR hb hs1 hS hf; obtain ⟨cs, mb, mp, rfl, hcl, hcp, hcm⟩ := hR; replace hs := hs.fresh hs1 (condFresh fun he => (hcm he).2.2); clear hs1 hb
      refine gA hf hS (i := 5) rfl (by kernel_rfl) (fun w hs => g_mv hf rfl) (by decide) ?_; clear hf a; intro a hf
      refine gA hf hS (i := 6) rfl (by kernel_rfl) (fun w hs => g_ext hf rfl rfl) (by decide) ?_; clear hf a; intro a hf
      refine gA hf hS (i := 7) rfl (by kernel_rfl) (fun w hs => g_ext hf rfl rfl) (by decide) ?_; clear hf a; intro a hf
      refine one (i := 8) (by kernel_rfl) ?_
      refine oV hf rfl (v_alloc hs T69 rfl) (by decide) (fun _ _ ⟨_, _, h⟩ => (h.sub (.cons _ (.refl _))).subD (fun _ h => (.tail _ h))) ?_; clear hs hf hS a; rintro _ w ⟨b2, rfl, hs⟩ hS a hf
      refine one (i := 9) (by kernel_rfl) ?_
      refine oU rfl (u_stW hf hs T69 rfl rfl hcp (k := 0) rfl hcl hcl) (fun _ h => (h.sub (.cons _ (.refl _))).subD (fun _ h => (.tail _ h))) ?_; clear hs hS; intro w hs hS; dsimp only [List.set] at hs
      refine gA hf hS (i := 10) rfl (by kernel_rfl) (fun w hs => g_as hf rfl) (by decide) ?_; clear hf a; intro a hf
      refine e_done (by kernel_rfl) ?_
      refine c_reg ?_
      refine gL hf (g_mv hf rfl) (by decide) ?_; clear hf a; intro a hf
      refine gL hf (g_neq hf rfl rfl) (by decide) ?_; clear hf a; intro a hf
      refine e_nil ?_
      refine c_cond hf rfl (fun hc1 => ?_) (fun hc1 => ?_)
      · try simp only [decide_eq_true_eq, decide_eq_false_iff_not] at hc1
        have he : ¬ askE b (flapB b.flaps.length i) = 0 := by simpa using hc1
        refine c_reg ?_
        refine gL hf (g_mv hf rfl) (by decide) ?_; clear hf a; intro a hf
        refine gL hf (g_as hf rfl) (by decide) ?_; clear hf a; intro a hf
        refine gL hf (g_as hf rfl) (by decide) ?_; clear hf a; intro a hf
        refine e_nil ?_
        refine c_ret (q_thenR ?_)
        refine e_ret2 hf rfl rfl rfl ?_
        exact ⟨by simp only [shorterP, if_neg he]; rfl, hs.below⟩
      · try simp only [decide_eq_true_eq, decide_eq_false_iff_not] at hc1
        have he : askE b (flapB b.flaps.length i) = 0 := by simpa using hc1
        obtain ⟨rfl, hmo, _, _⟩ := hcm he
        replace hs := hs.un (fun w h => h he)
        have hok := askE_zero he
        have hv := valid_of hok.1
        have hin := flapB_in hok.2; have hmany := hv.many; have hin1 := hin.1; have hin2 := hin.2; have hfl := hv.flap _ (getD_mem (l := b.flaps) (i := i.toNat) (by omega)); have hw1 := hv.wide; have hw2 := hv.high
        refine c_skip (q_thenN ?_)
        refine c_reg ?_
        refine gL hf (g_fa (off' := 2) hf F25_2 rfl rfl) (by decide) ?_; clear hf a; intro a hf
        refine gL hf (g_ld hf hs T22 rfl (k := 1) rfl rfl) (by decide) ?_; clear hf a; intro a hf
        refine gL hf (g_mv hf rfl) (by decide) ?_; clear hf a; intro a hf
        (first | (refine gL hf (g_ixE hf hs (.tail _ (.head _)) SL22 rfl rfl (by omega)) (by decide) ?_) | (refine gL hf (g_ixD hf hs (.tail _ (.head _)) SL22 rfl rfl (by omega)) (by decide) ?_)); clear hf a; intro a hf
        refine gL hf (g_faD (j' := 1) hf hs (.tail _ (.head _)) F49_1 rfl (by omega) rfl) (by decide) ?_; clear hf a; intro a hf
        refine gL hf (g_ldEP hf hs (.tail _ (.head _)) T47 rfl rfl (by omega)) (by decide) ?_; clear hf a; intro a hf
        refine vL hf (v_alloc hs T47 rfl) (by decide) ?_; clear hs hf a; rintro _ w ⟨b3, rfl, hs⟩ a hf
        refine uL (u_stW hf hs T47 rfl rfl rfl (k := 0) rfl rfl rfl) ?_; clear hs; intro w hs; dsimp only [List.set] at hs
        refine e_nil ?_
        refine wp_seq ?_
        refine c_reg ?_
        refine gL hf (g_fa (off' := 1) hf F47_1 rfl rfl) (by decide) ?_; clear hf a; intro a hf
        refine gL hf (g_ld hf hs T3 rfl (k := 0) rfl rfl) (by decide) ?_; clear hf a; intro a hf
        refine gL hf (g_fa (off' := 0) hf F47_0 rfl rfl) (by decide) ?_; clear hf a; intro a hf
        refine gL hf (g_ld hf hs T3 rfl (k := 0) rfl rfl) (by decide) ?_; clear hf a; intro a hf
        refine gL hf (g_subI hf rfl rfl (by omega)) (by decide) ?_; clear hf a; intro a hf
        refine gL hf (g_addI hf rfl rfl (by omega)) (by decide) ?_; clear hf a; intro a hf
        refine gL hf (g_mv hf rfl) (by decide) ?_; clear hf a; intro a hf
        refine e_nil ?_
        refine c_block ?_
        refine c_loop hf hs (List.range' 4 2 ++ List.range' 9 2 ++ List.range' 34 25) (σ := Nat) (fun k => [(34, .int .i64 (k : Nat))]) (fun k => _) (fun k => k ≤ shortN b i ∧ ∀ j, j < k → foldsP (shortB b i ((j : Nat) : Int)) = false) (fun k => shortN b i - k) 0 ⟨Nat.zero_le _, fun z hz => absurd hz (by omega)⟩ (.cons rfl .nil) rfl ?_
        intro k a w hJ hf hs
        obtain ⟨hk, hp⟩ := hJ
        simp only [shortN, flapA] at hk
        refine c_reg ?_
        refine gL hf (g_lss hf rfl rfl) (by decide) ?_; clear hf a; intro a hf
        refine e_nil ?_
        refine c_condS hf rfl (fun hc2 => ?_) (fun hc2 => ?_)
        · try simp only [decide_eq_true_eq, decide_eq_false_iff_not] at hc2
          have hkf : ((k : Nat) : Int) ≤ (flapA b i).rh - (flapA b i).rl := by show _ ≤ (b.flaps.getD i.toNat default).rh - (b.flaps.getD i.toNat default).rl; omega
          have hff := flap_far hv hin
          refine c_skip (q_thenN ?_)
          refine c_blockS ?_
          refine c_reg ?_
          refine gL hf (g_mv hf rfl) (by decide) ?_; clear hf a; intro a hf
          refine gL hf (g_as hf rfl) (by decide) ?_; clear hf a; intro a hf
          refine e_nil ?_
          refine c_reg ?_
          refine gL hf (g_ldW hf hs T25 rfl (k := 2) rfl rfl) (by decide) ?_; clear hf a; intro a hf
          refine vL hf (v_alloc hs T25 rfl) (by decide) ?_; clear hs hf a; rintro _ w ⟨b4, rfl, hs⟩ a hf
          refine uL (u_stW hf hs T25 rfl rfl rfl (k := 0) rfl rfl rfl) ?_; clear hs; intro w hs; dsimp only [List.set] at hs
          refine e_nil ?_
          refine c_reg ?_
          refine gL hf (g_fa (off' := 2) hf F25_2 rfl rfl) (by decide) ?_; clear hf a; intro a hf
          refine gL hf (g_ld hf hs T22 rfl (k := 3) rfl rfl) (by decide) ?_; clear hf a; intro a hf
          refine callX hf hs (c_Clone _ _ _ b.flaps (by omega) _ (hs.rd (.tail _ (.head _)))) rfl rfl rfl E74 (by decide) ?_; intro v w1 a hR hb hs1 hf; obtain ⟨b5, cs, rfl, hok, hle5, hb5⟩ := hR; replace hs := hs.adopt hb hle5 hb5; clear hs1 hb
          refine gL hf (g_fa (off' := 2) hf F25_2 rfl rfl) (by decide) ?_; clear hf a; intro a hf
          refine uL (u_st hf hs T22 rfl rfl rfl (k := 1) rfl (Nat.le_of_ble_eq_true rfl)) ?_; clear hs; intro w hs; dsimp only [List.set] at hs
          refine e_nil ?_
          refine c_reg ?_
          refine gL hf (g_fa (off' := 2) hf F25_2 rfl rfl) (by decide) ?_; clear hf a; intro a hf
          refine gL hf (g_ld hf hs T22 rfl (k := 1) rfl rfl) (by decide) ?_; clear hf a; intro a hf
          refine gL hf (g_mv hf rfl) (by decide) ?_; clear hf a; intro a hf
          refine gL hf (g_ixO hf SL22 rfl rfl (by omega)) (by decide) ?_; clear hf a; intro a hf
          refine gL hf (g_fa hf F49_1 rfl rfl) (by decide) ?_; clear hf a; intro a hf
          refine gL hf (g_fa hf F47_1 rfl rfl) (by decide) ?_; clear hf a; intro a hf
          refine gL hf (g_ld hf hs T3 rfl (k := 0) rfl (acc_short (k := 0) hin hok).1) (by decide) ?_; clear hf a; intro a hf
          refine gL hf (g_mv hf rfl) (by decide) ?_; clear hf a; intro a hf
          refine gL hf (g_subI hf rfl rfl (by omega)) (by decide) ?_; clear hf a; intro a hf
          refine gL hf (g_ixO hf SL22 rfl rfl (by omega)) (by decide) ?_; clear hf a; intro a hf
          refine gL hf (g_fa hf F49_1 rfl rfl) (by decide) ?_; clear hf a; intro a hf
          refine gL hf (g_fa hf F47_1 rfl rfl) (by decide) ?_; clear hf a; intro a hf
          refine uL (u_st hf hs T3 rfl rfl rfl (k := 0) rfl (acc_short (k := 0) hin hok).2.1) ?_; clear hs; intro w hs; dsimp only [List.set] at hs
          have hok2 := (acc_short (k := ((k : Nat) : Int)) hin hok).2.2
          refine e_nil ?_
          refine c_reg ?_
          refine gL hf (g_ldW hf hs T25 rfl (k := 1) rfl rfl) (by decide) ?_; clear hf a; intro a hf
          have hrd5 : Rd encF 5 (some ⟨b5, 0, none⟩) (shortB b i ((k : Nat) : Int)).flaps.length (shortB b i ((k : Nat) : Int)).flaps w := hok2.rdb (sz := 5) (fun _ => rfl) (by decide) (hs.own _ _ (.head _)).2
          have hsh : ShIn (shortB b i ((k : Nat) : Int)) (some ⟨b5, 0, none⟩) (cs.size / 5) rA rc w := ⟨hrd5, hs.rd (.tail _ (.tail _ (.head _))), by rw [short_len]; exact hok.cap (sz := 5) (by decide), h.rc_⟩
          have hv2 := valid_short hv hin (k := ((k : Nat) : Int)) ⟨by omega, hkf⟩
          have h9 := c_opened (shortB b i ((k : Nat) : Int)) _ _ _ _ ge gz hv2 w hsh (hs.rd (.tail _ (.tail _ (.tail _ (.head _)))))
          simp only [short_len] at h9
          refine callX hf hs (h9) rfl rfl rfl E75 (by decide) ?_; intro v w1 a hR hb hs1 hf; obtain ⟨mb2, mp2, rfl, hmo2, hle, hmi⟩ := hR; replace hs := hs.fresh hs1 (mapFresh hle hmi); clear hs1 hb
          have hrd5 : Rd encF 5 (some ⟨b5, 0, none⟩) (shortB b i ((k : Nat) : Int)).flaps.length (shortB b i ((k : Nat) : Int)).flaps w1 := hok2.rdb (sz := 5) (fun _ => rfl) (by decide) (hs.own _ _ (.head _)).2
          have hsh : ShIn (shortB b i ((k : Nat) : Int)) (some ⟨b5, 0, none⟩) (cs.size / 5) rA rc w1 := ⟨hrd5, hs.rd (.tail _ (.tail _ (.tail _ (.head _)))), by rw [short_len]; exact hok.cap (sz := 5) (by decide), h.rc_⟩
          have h9 := c_folds (shortB b i ((k : Nat) : Int)) _ _ _ _ mb2 mp2 w1 hv2 hsh (hs.rd (.head _))
          simp only [short_len] at h9
          refine callL hf hs (h9) rfl rfl rfl E76 (by decide) ?_; clear hs hf a; intro w a hs hf
          rw [allOrds_eq hv2 hmo2] at hf
          refine e_nil ?_
          refine c_cond hf rfl (fun hc3 => ?_) (fun hc3 => ?_)
          · skip
            refine c_reg ?_
            refine gL hf (g_mv hf rfl) (by decide) ?_; clear hf a; intro a hf
            refine gL hf (g_as hf rfl) (by decide) ?_; clear hf a; intro a hf
            refine gL hf (g_as hf rfl) (by decide) ?_; clear hf a; intro a hf
            refine e_nil ?_
            refine c_ret (q_blkR (q_thenR (q_thenR (q_blkR (q_thenR ?_)))))
            refine e_ret2 hf rfl rfl rfl ?_
            exact ⟨by rw [shorter_hit he (by simp only [shortN, flapA]; omega) hp hc3], hs.below⟩
          · skip
            refine c_skip (q_blkN (q_thenN ?_))
            refine c_reg1 ?_
            refine gL hf (g_addI hf rfl rfl (by omega)) (by decide) ?_; clear hf a; intro a hf
            refine gL hf (g_mv hf rfl) (by decide) ?_; clear hf a; intro a hf
            refine e_nil1 (q_thenN ?_)
            exact ⟨k + 1, ⟨by simp only [shortN, flapA]; omega, lt_succ hp hc3⟩, (by simp only [shortN, flapA]; omega), hf.back (by repeat (first | (with_reducible exact Ext.base) | ((with_reducible refine Ext.cons ?_ ?_); (· rfl)) | ((with_reducible refine Ext.over ?_ ?_ ?_); (· rfl); (· rfl)))) (allKeys rfl) (.cons rfl .nil), (hs.dropN 2).subD (fun _ h => (.tail _ h))⟩
        · try simp only [decide_eq_true_eq, decide_eq_false_iff_not] at hc2
          refine c_exit (q_thenX (q_thenX (q_blkX (q_thenN ?_))))
          refine c_reg ?_
          refine gL hf (g_as hf rfl) (by decide) ?_; clear hf a; intro a hf
          refine gL hf (g_as hf rfl) (by decide) ?_; clear hf a; intro a hf
          refine e_nil ?_
          refine c_ret ?_
          refine e_ret2 hf rfl rfl rfl ?_
          exact ⟨by rw [shorter_none he (fun j hj => hp j (by simp only [shortN, flapA] at hj; omega))], hs.below⟩
    · skip
      refine oV hf rfl (v_alloc hs T69 rfl) (by decide) (fun _ _ ⟨_, _, h⟩ => h.sub (.cons _ (.refl _))) ?_; clear hs hf hS a; rintro _ w ⟨b2, rfl, hs⟩ hS a hf
      refine one (i := 4) (by kernel_rfl) ?_
      refine oCallX hf hs rfl (c_asked b _ _ _ _ _ _ (flapB b.flaps.length i) _ ⟨hs.rd (.head _), hs.rd (.tail _ (.head _)), h.fc_, h.rc_⟩ (hs.rd (.tail _ (.tail _ (.head _))))) rfl rfl rfl E54 (by decide) (fun _ h => h.sub (.cons _ (.refl _))) ?_; intro v w1 a hR hb hs1 hS hf; obtain ⟨cs, mb, mp, rfl, hcl, hcp, hcm⟩ := hR; replace hs := hs.fresh hs1 (condFresh fun he => (hcm he).2.2); clear hs1 hb
      refine gA hf hS (i := 5) rfl (by kernel_rfl) (fun w hs => g_mv hf rfl) (by decide) ?_; clear hf a; intro a hf
      refine gA hf hS (i := 6) rfl (by kernel_rfl) (fun w hs => g_ext hf rfl rfl) (by decide) ?_; clear hf a; intro a hf
      refine gA hf hS (i := 7) rfl (by kernel_rfl) (fun w hs => g_ext hf rfl rfl) (by decide) ?_; clear hf a; intro a hf
      refine one (i := 9) (by kernel_rfl) ?_
      refine oU rfl (u_stW hf hs T69 rfl rfl hcp (k := 0) rfl hcl hcl) (fun _ h => (h.sub (.cons _ (.refl _))).subD (fun _ h => (.tail _ h))) ?_; clear hs hS; intro w hs hS; dsimp only [List.set] at hs
      refine gA hf hS (i := 10) rfl (by kernel_rfl) (fun w hs => g_as hf rfl) (by decide) ?_; clear hf a; intro a hf
      refine e_done (by kernel_rfl) ?_
      refine c_reg ?_
      refine gL hf (g_mv hf rfl) (by decide) ?_; clear hf a; intro a hf
      refine gL hf (g_neq hf rfl rfl) (by decide) ?_; clear hf a; intro a hf
      refine e_nil ?_
      refine c_cond hf rfl (fun hc1 => ?_) (fun hc1 => ?_)
      · try simp only [decide_eq_true_eq, decide_eq_false_iff_not] at hc1
        have he : ¬ askE b (flapB b.flaps.length i) = 0 := by simpa using hc1
        refine c_reg ?_
        refine gL hf (g_mv hf rfl) (by decide) ?_; clear hf a; intro a hf
        refine gL hf (g_as hf rfl) (by decide) ?_; clear hf a; intro a hf
        refine gL hf (g_as hf rfl) (by decide) ?_; clear hf a; intro a hf
        refine e_nil ?_
        refine c_ret (q_thenR ?_)
        refine e_ret2 hf rfl rfl rfl ?_
        exact ⟨by simp only [shorterP, if_neg he]; rfl, hs.below⟩
      · try simp only [decide_eq_true_eq, decide_eq_false_iff_not] at hc1
        have he : askE b (flapB b.flaps.length i) = 0 := by simpa using hc1
        obtain ⟨rfl, hmo, _, _⟩ := hcm he
        replace hs := hs.un (fun w h => h he)
        have hok := askE_zero he
        have hv := valid_of hok.1
        have hin := flapB_in hok.2; have hmany := hv.many; have hin1 := hin.1; have hin2 := hin.2; have hfl := hv.flap _ (getD_mem (l := b.flaps) (i := i.toNat) (by omega)); have hw1 := hv.wide; have hw2 := hv.high
        refine c_skip (q_thenN ?_)
        refine c_reg ?_
        refine gL hf (g_fa (off' := 2) hf F25_2 rfl rfl) (by decide) ?_; clear hf a; intro a hf
        refine gL hf (g_ld hf hs T22 rfl (k := 1) rfl rfl) (by decide) ?_; clear hf a; intro a hf
        refine gL hf (g_mv hf rfl) (by decide) ?_; clear hf a; intro a hf
        (first | (refine gL hf (g_ixE hf hs (.tail _ (.head _)) SL22 rfl rfl (by omega)) (by decide) ?_) | (refine gL hf (g_ixD hf hs (.tail _ (.head _)) SL22 rfl rfl (by omega)) (by decide) ?_)); clear hf a; intro a hf
        refine gL hf (g_faD (j' := 1) hf hs (.tail _ (.head _)) F49_1 rfl (by omega) rfl) (by decide) ?_; clear hf a; intro a hf
        refine gL hf (g_ldEP hf hs (.tail _ (.head _)) T47 rfl rfl (by omega)) (by decide) ?_; clear hf a; intro a hf
        refine vL hf (v_alloc hs T47 rfl) (by decide) ?_; clear hs hf a; rintro _ w ⟨b3, rfl, hs⟩ a hf
        refine uL (u_stW hf hs T47 rfl rfl rfl (k := 0) rfl rfl rfl) ?_; clear hs; intro w hs; dsimp only [List.set] at hs
        refine e_nil ?_
        refine wp_seq ?_
        refine c_reg ?_
        refine gL hf (g_fa (off' := 1) hf F47_1 rfl rfl) (by decide) ?_; clear hf a; intro a hf
        refine gL hf (g_ld hf hs T3 rfl (k := 0) rfl rfl) (by decide) ?_; clear hf a; intro a hf
        refine gL hf (g_fa (off' := 0) hf F47_0 rfl rfl) (by decide) ?_; clear hf a; intro a hf
        refine gL hf (g_ld hf hs T3 rfl (k := 0) rfl rfl) (by decide) ?_; clear hf a; intro a hf
        refine gL hf (g_subI hf rfl rfl (by omega)) (by decide) ?_; clear hf a; intro a hf
        refine gL hf (g_addI hf rfl rfl (by omega)) (by decide) ?_; clear hf a; intro a hf
        refine gL hf (g_mv hf rfl) (by decide) ?_; clear hf a; intro a hf
        refine e_nil ?_
        refine c_block ?_
        refine c_loop hf hs (List.range' 4 2 ++ List.range' 9 2 ++ List.range' 34 25) (σ := Nat) (fun k => [(34, .int .i64 (k : Nat))]) (fun k => _) (fun k => k ≤ shortN b i ∧ ∀ j, j < k → foldsP (shortB b i ((j : Nat) : Int)) = false) (fun k => shortN b i - k) 0 ⟨Nat.zero_le _, fun z hz => absurd hz (by omega)⟩ (.cons rfl .nil) rfl ?_
        intro k a w hJ hf hs
        obtain ⟨hk, hp⟩ := hJ
        simp only [shortN, flapA] at hk
        refine c_reg ?_
        refine gL hf (g_lss hf rfl rfl) (by decide) ?_; clear hf a; intro a hf
        refine e_nil ?_
        refine c_condS hf rfl (fun hc2 => ?_) (fun hc2 => ?_)
        · try simp only [decide_eq_true_eq, decide_eq_false_iff_not] at hc2
          have hkf : ((k : Nat) : Int) ≤ (flapA b i).rh - (flapA b i).rl := by show _ ≤ (b.flaps.getD i.toNat default).rh - (b.flaps.getD i.toNat default).rl; omega
          have hff := flap_far hv hin
          refine c_skip (q_thenN ?_)
          refine c_blockS ?_
          refine c_reg ?_
          refine gL hf (g_mv hf rfl) (by decide) ?_; clear hf a; intro a hf
          refine gL hf (g_as hf rfl) (by decide) ?_; clear hf a; intro a hf
          refine e_nil ?_
          refine c_reg ?_
          refine gL hf (g_ldW hf hs T25 rfl (k := 2) rfl rfl) (by decide) ?_; clear hf a; intro a hf
          refine vL hf (v_alloc hs T25 rfl) (by decide) ?_; clear hs hf a; rintro _ w ⟨b4, rfl, hs⟩ a hf
          refine uL (u_stW hf hs T25 rfl rfl rfl (k := 0) rfl rfl rfl) ?_; clear hs; intro w hs; dsimp only [List.set] at hs
          refine e_nil ?_
          refine c_reg ?_
          refine gL hf (g_fa (off' := 2) hf F25_2 rfl rfl) (by decide) ?_; clear hf a; intro a hf
          refine gL hf (g_ld hf hs T22 rfl (k := 3) rfl rfl) (by decide) ?_; clear hf a; intro a hf
          refine callX hf hs (c_Clone _ _ _ b.flaps (by omega) _ (hs.rd (.tail _ (.head _)))) rfl rfl rfl E74 (by decide) ?_; intro v w1 a hR hb hs1 hf; obtain ⟨b5, cs, rfl, hok, hle5, hb5⟩ := hR; replace hs := hs.adopt hb hle5 hb5; clear hs1 hb
          refine gL hf (g_fa (off' := 2) hf F25_2 rfl rfl) (by decide) ?_; clear hf a; intro a hf
          refine uL (u_st hf hs T22 rfl rfl rfl (k := 1) rfl (Nat.le_of_ble_eq_true rfl)) ?_; clear hs; intro w hs; dsimp only [List.set] at hs
          refine e_nil ?_
          refine c_reg ?_
          refine gL hf (g_fa (off' := 2) hf F25_2 rfl rfl) (by decide) ?_; clear hf a; intro a hf
          refine gL hf (g_ld hf hs T22 rfl (k := 1) rfl rfl) (by decide) ?_; clear hf a; intro a hf
          refine gL hf (g_mv hf rfl) (by decide) ?_; clear hf a; intro a hf
          refine gL hf (g_ixO hf SL22 rfl rfl (by omega)) (by decide) ?_; clear hf a; intro a hf
          refine gL hf (g_fa hf F49_1 rfl rfl) (by decide) ?_; clear hf a; intro a hf
          refine gL hf (g_fa hf F47_1 rfl rfl) (by decide) ?_; clear hf a; intro a hf
          refine gL hf (g_ld hf hs T3 rfl (k := 0) rfl (acc_short (k := 0) hin hok).1) (by decide) ?_; clear hf a; intro a hf
          refine gL hf (g_mv hf rfl) (by decide) ?_; clear hf a; intro a hf
          refine gL hf (g_subI hf rfl rfl (by omega)) (by decide) ?_; clear hf a; intro a hf
          refine gL hf (g_ixO hf SL22 rfl rfl (by omega)) (by decide) ?_; clear hf a; intro a hf
          refine gL hf (g_fa hf F49_1 rfl rfl) (by decide) ?_; clear hf a; intro a hf
          refine gL hf (g_fa hf F47_1 rfl rfl) (by decide) ?_; clear hf a; intro a hf
          refine uL (u_st hf hs T3 rfl rfl rfl (k := 0) rfl (acc_short (k := 0) hin hok).2.1) ?_; clear hs; intro w hs; dsimp only [List.set] at hs
          have hok2 := (acc_short (k := ((k : Nat) : Int)) hin hok).2.2
          refine e_nil ?_
          refine c_reg ?_
          refine gL hf (g_ldW hf hs T25 rfl (k := 1) rfl rfl) (by decide) ?_; clear hf a; intro a hf
          have hrd5 : Rd encF 5 (some ⟨b5, 0, none⟩) (shortB b i ((k : Nat) : Int)).flaps.length (shortB b i ((k : Nat) : Int)).flaps w := hok2.rdb (sz := 5) (fun _ => rfl) (by decide) (hs.own _ _ (.head _)).2
          have hsh : ShIn (shortB b i ((k : Nat) : Int)) (some ⟨b5, 0, none⟩) (cs.size / 5) rA rc w := ⟨hrd5, hs.rd (.tail _ (.tail _ (.head _))), by rw [short_len]; exact hok.cap (sz := 5) (by decide), h.rc_⟩
          have hv2 := valid_short hv hin (k := ((k : Nat) : Int)) ⟨by omega, hkf⟩
          have h9 := c_opened (shortB b i ((k : Nat) : Int)) _ _ _ _ ge gz hv2 w hsh (hs.rd (.tail _ (.tail _ (.tail _ (.head _)))))
          simp only [short_len] at h9
          refine callX hf hs (h9) rfl rfl rfl E75 (by decide) ?_; intro v w1 a hR hb hs1 hf; obtain ⟨mb2, mp2, rfl, hmo2, hle, hmi⟩ := hR; replace hs := hs.fresh hs1 (mapFresh hle hmi); clear hs1 hb
          have hrd5 : Rd encF 5 (some ⟨b5, 0, none⟩) (shortB b i ((k : Nat) : Int)).flaps.length (shortB b i ((k : Nat) : Int)).flaps w1 := hok2.rdb (sz := 5) (fun _ => rfl) (by decide) (hs.own _ _ (.head _)).2
          have hsh : ShIn (shortB b i ((k : Nat) : Int)) (some ⟨b5, 0, none⟩) (cs.size / 5) rA rc w1 := ⟨hrd5, hs.rd (.tail _ (.tail _ (.tail _ (.head _)))), by rw [short_len]; exact hok.cap (sz := 5) (by decide), h.rc_⟩
          have h9 := c_folds (shortB b i ((k : Nat) : Int)) _ _ _ _ mb2 mp2 w1 hv2 hsh (hs.rd (.head _))
          simp only [short_len] at h9
          refine callL hf hs (h9) rfl rfl rfl E76 (by decide) ?_; clear hs hf a; intro w a hs hf
          rw [allOrds_eq hv2 hmo2] at hf
          refine e_nil ?_
          refine c_cond hf rfl (fun hc3 => ?_) (fun hc3 => ?_)
          · skip
            refine c_reg ?_
            refine gL hf (g_mv hf rfl) (by decide) ?_; clear hf a; intro a hf
            refine gL hf (g_as hf rfl) (by decide) ?_; clear hf a; intro a hf
            refine gL hf (g_as hf rfl) (by decide) ?_; clear hf a; intro a hf
            refine e_nil ?_
            refine c_ret (q_blkR (q_thenR (q_thenR (q_blkR (q_thenR ?_)))))
            refine e_ret2 hf rfl rfl rfl ?_
            exact ⟨by rw [shorter_hit he (by simp only [shortN, flapA]; omega) hp hc3], hs.below⟩
          · skip
            refine c_skip (q_blkN (q_thenN ?_))
            refine c_reg1 ?_
            refine gL hf (g_addI hf rfl rfl (by omega)) (by decide) ?_; clear hf a; intro a hf
            refine gL hf (g_mv hf rfl) (by decide) ?_; clear hf a; intro a hf
            refine e_nil1 (q_thenN ?_)
            exact ⟨k + 1, ⟨by simp only [shortN, flapA]; omega, lt_succ hp hc3⟩, (by simp only [shortN, flapA]; omega), hf.back (by repeat (first | (with_reducible exact Ext.base) | ((with_reducible refine Ext.cons ?_ ?_); (· rfl)) | ((with_reducible refine Ext.over ?_ ?_ ?_); (· rfl); (· rfl)))) (allKeys rfl) (.cons rfl .nil), (hs.dropN 2).subD (fun _ h => (.tail _ h))⟩
        · try simp only [decide_eq_true_eq, decide_eq_false_iff_not] at hc2
          refine c_exit (q_thenX (q_thenX (q_blkX (q_thenN ?_))))
          refine c_reg ?_
          refine gL hf (g_as hf rfl) (by decide) ?_; clear hf a; intro a hf
          refine gL hf (g_as hf rfl) (by decide) ?_; clear hf a; intro a hf
          refine e_nil ?_
          refine c_ret ?_
          refine e_ret2 hf rfl rfl rfl ?_
          exact ⟨by rw [shorter_none he (fun j hj => hp j (by simp only [shortN, flapA] at hj; omega))], hs.below⟩
  · skip
    refine oV hf rfl (v_alloc hs T69 rfl) (by decide) (fun _ _ ⟨_, _, h⟩ => h.sub (.cons _ (.refl _))) ?_; clear hs hf hS a; rintro _ w ⟨b2, rfl, hs⟩ hS a hf
    refine one (i := 3) (by kernel_rfl) ?_
    refine oCall hf hs rfl (c_isFlap _ _ _ _ _ _ _ _ _ (by omega) _) rfl rfl rfl E55 (by decide) (fun _ h => h.sub (.cons _ (.refl _))) ?_; clear hs hf hS a; intro w a hs hS hf
    refine one (i := 4) (by kernel_rfl) ?_
    refine oCallX hf hs rfl (c_asked b _ _ _ _ _ _ (flapB b.flaps.length i) _ ⟨hs.rd (.head _), hs.rd (.tail _ (.head _)), h.fc_, h.rc_⟩ (hs.rd (.tail _ (.tail _ (.head _))))) rfl rfl rfl E54 (by decide) (fun _ h => h.sub (.cons _ (.refl _))) ?_; intro v w1 a hR hb hs1 hS hf; obtain ⟨cs, mb, mp, rfl, hcl, hcp, hcm⟩ := hR; replace hs := hs.fresh hs1 (condFresh fun he => (hcm he).2.2); clear hs1 hb
    refine gA hf hS (i := 5) rfl (by kernel_rfl) (fun w hs => g_mv hf rfl) (by decide) ?_; clear hf a; intro a hf
    refine gA hf hS (i := 6) rfl (by kernel_rfl) (fun w hs => g_ext hf rfl rfl) (by decide) ?_; clear hf a; intro a hf
    refine gA hf hS (i := 7) rfl (by kernel_rfl) (fun w hs => g_ext hf rfl rfl) (by decide) ?_; clear hf a; intro a hf
    refine one (i := 9) (by kernel_rfl) ?_
    refine oU rfl (u_stW hf hs T69 rfl rfl hcp (k := 0) rfl hcl hcl) (fun _ h => (h.sub (.cons _ (.refl _))).subD (fun _ h => (.tail _ h))) ?_; clear hs hS; intro w hs hS; dsimp only [List.set] at hs
    refine gA hf hS (i := 10) rfl (by kernel_rfl) (fun w hs => g_as hf rfl) (by decide) ?_; clear hf a; intro a hf
    refine e_done (by kernel_rfl) ?_
    refine c_reg ?_
    refine gL hf (g_mv hf rfl) (by decide) ?_; clear hf a; intro a hf
    refine gL hf (g_neq hf rfl rfl) (by decide) ?_; clear hf a; intro a hf
    refine e_nil ?_
    refine c_cond hf rfl (fun hc1 => ?_) (fun hc1 => ?_)
    · try simp only [decide_eq_true_eq, decide_eq_false_iff_not] at hc1
      have he : ¬ askE b (flapB b.flaps.length i) = 0 := by simpa using hc1
      refine c_reg ?_
      refine gL hf (g_mv hf rfl) (by decide) ?_; clear hf a; intro a hf
      refine gL hf (g_as hf rfl) (by decide) ?_; clear hf a; intro a hf
      refine gL hf (g_as hf rfl) (by decide) ?_; clear hf a; intro a hf
      refine e_nil ?_
      refine c_ret (q_thenR ?_)
      refine e_ret2 hf rfl rfl rfl ?_
      exact ⟨by simp only [shorterP, if_neg he]; rfl, hs.below⟩
    · try simp only [decide_eq_true_eq, decide_eq_false_iff_not] at hc1
      have he : askE b (flapB b.flaps.length i) = 0 := by simpa using hc1
      obtain ⟨rfl, hmo, _, _⟩ := hcm he
      replace hs := hs.un (fun w h => h he)
      have hok := askE_zero he
      have hv := valid_of hok.1
      have hin := flapB_in hok.2; have hmany := hv.many; have hin1 := hin.1; have hin2 := hin.2; have hfl := hv.flap _ (getD_mem (l := b.flaps) (i := i.toNat) (by omega)); have hw1 := hv.wide; have hw2 := hv.high
      refine c_skip (q_thenN ?_)
      refine c_reg ?_
      refine gL hf (g_fa (off' := 2) hf F25_2 rfl rfl) (by decide) ?_; clear hf a; intro a hf
      refine gL hf (g_ld hf hs T22 rfl (k := 1) rfl rfl) (by decide) ?_; clear hf a; intro a hf
      refine gL hf (g_mv hf rfl) (by decide) ?_; clear hf a; intro a hf
      (first | (refine gL hf (g_ixE hf hs (.tail _ (.head _)) SL22 rfl rfl (by omega)) (by decide) ?_) | (refine gL hf (g_ixD hf hs (.tail _ (.head _)) SL22 rfl rfl (by omega)) (by decide) ?_)); clear hf a; intro a hf
      refine gL hf (g_faD (j' := 1) hf hs (.tail _ (.head _)) F49_1 rfl (by omega) rfl) (by decide) ?_; clear hf a; intro a hf
      refine gL hf (g_ldEP hf hs (.tail _ (.head _)) T47 rfl rfl (by omega)) (by decide) ?_; clear hf a; intro a hf
      refine vL hf (v_alloc hs T47 rfl) (by decide) ?_; clear hs hf a; rintro _ w ⟨b3, rfl, hs⟩ a hf
      refine uL (u_stW hf hs T47 rfl rfl rfl (k := 0) rfl rfl rfl) ?_; clear hs; intro w hs; dsimp only [List.set] at hs
      refine e_nil ?_
      refine wp_seq ?_
      refine c_reg ?_
      refine gL hf (g_fa (off' := 1) hf F47_1 rfl rfl) (by decide) ?_; clear hf a; intro a hf
      refine gL hf (g_ld hf hs T3 rfl (k := 0) rfl rfl) (by decide) ?_; clear hf a; intro a hf
      refine gL hf (g_fa (off' := 0) hf F47_0 rfl rfl) (by decide) ?_; clear hf a; intro a hf
      refine gL hf (g_ld hf hs T3 rfl (k := 0) rfl rfl) (by decide) ?_; clear hf a; intro a hf
      refine gL hf (g_subI hf rfl rfl (by omega)) (by decide) ?_; clear hf a; intro a hf
      refine gL hf (g_addI hf rfl rfl (by omega)) (by decide) ?_; clear hf a; intro a hf
      refine gL hf (g_mv hf rfl) (by decide) ?_; clear hf a; intro a hf
      refine e_nil ?_
      refine c_block ?_
      refine c_loop hf hs (List.range' 4 2 ++ List.range' 9 2 ++ List.range' 34 25) (σ := Nat) (fun k => [(34, .int .i64 (k : Nat))]) (fun k => _) (fun k => k ≤ shortN b i ∧ ∀ j, j < k → foldsP (shortB b i ((j : Nat) : Int)) = false) (fun k => shortN b i - k) 0 ⟨Nat.zero_le _, fun z hz => absurd hz (by omega)⟩ (.cons rfl .nil) rfl ?_
      intro k a w hJ hf hs
      obtain ⟨hk, hp⟩ := hJ
      simp only [shortN, flapA] at hk
      refine c_reg ?_
      refine gL hf (g_lss hf rfl rfl) (by decide) ?_; clear hf a; intro a hf
      refine e_nil ?_
      refine c_condS hf rfl (fun hc2 => ?_) (fun hc2 => ?_)
      · try simp only [decide_eq_true_eq, decide_eq_false_iff_not] at hc2
        have hkf : ((k : Nat) : Int) ≤ (flapA b i).rh - (flapA b i).rl := by show _ ≤ (b.flaps.getD i.toNat default).rh - (b.flaps.getD i.toNat default).rl; omega
        have hff := flap_far hv hin
        refine c_skip (q_thenN ?_)
        refine c_blockS ?_
        refine c_reg ?_
        refine gL hf (g_mv hf rfl) (by decide) ?_; clear hf a; intro a hf
        refine gL hf (g_as hf rfl) (by decide) ?_; clear hf a; intro a hf
        refine e_nil ?_
        refine c_reg ?_
        refine gL hf (g_ldW hf hs T25 rfl (k := 2) rfl rfl) (by decide) ?_; clear hf a; intro a hf
        refine vL hf (v_alloc hs T25 rfl) (by decide) ?_; clear hs hf a; rintro _ w ⟨b4, rfl, hs⟩ a hf
        refine uL (u_stW hf hs T25 rfl rfl rfl (k := 0) rfl rfl rfl) ?_; clear hs; intro w hs; dsimp only [List.set] at hs
        refine e_nil ?_
        refine c_reg ?_
        refine gL hf (g_fa (off' := 2) hf F25_2 rfl rfl) (by decide) ?_; clear hf a; intro a hf
        refine gL hf (g_ld hf hs T22 rfl (k := 3) rfl rfl) (by decide) ?_; clear hf a; intro a hf
        refine callX hf hs (c_Clone _ _ _ b.flaps (by omega) _ (hs.rd (.tail _ (.head _)))) rfl rfl rfl E74 (by decide) ?_; intro v w1 a hR hb hs1 hf; obtain ⟨b5, cs, rfl, hok, hle5, hb5⟩ := hR; replace hs := hs.adopt hb hle5 hb5; clear hs1 hb
        refine gL hf (g_fa (off' := 2) hf F25_2 rfl rfl) (by decide) ?_; clear hf a; intro a hf
        refine uL (u_st hf hs T22 rfl rfl rfl (k := 1) rfl (Nat.le_of_ble_eq_true rfl)) ?_; clear hs; intro w hs; dsimp only [List.set] at hs
        refine e_nil ?_
        refine c_reg ?_
        refine gL hf (g_fa (off' := 2) hf F25_2 rfl rfl) (by decide) ?_; clear hf a; intro a hf
        refine gL hf (g_ld hf hs T22 rfl (k := 1) rfl rfl) (by decide) ?_; clear hf a; intro a hf
        refine gL hf (g_mv hf rfl) (by decide) ?_; clear hf a; intro a hf
        refine gL hf (g_ixO hf SL22 rfl rfl (by omega)) (by decide) ?_; clear hf a; intro a hf
        refine gL hf (g_fa hf F49_1 rfl rfl) (by decide) ?_; clear hf a; intro a hf
        refine gL hf (g_fa hf F47_1 rfl rfl) (by decide) ?_; clear hf a; intro a hf
        refine gL hf (g_ld hf hs T3 rfl (k := 0) rfl (acc_short (k := 0) hin hok).1) (by decide) ?_; clear hf a; intro a hf
        refine gL hf (g_mv hf rfl) (by decide) ?_; clear hf a; intro a hf
        refine gL hf (g_subI hf rfl rfl (by omega)) (by decide) ?_; clear hf a; intro a hf
        refine gL hf (g_ixO hf SL22 rfl rfl (by omega)) (by decide) ?_; clear hf a; intro a hf
        refine gL hf (g_fa hf F49_1 rfl rfl) (by decide) ?_; clear hf a; intro a hf
        refine gL hf (g_fa hf F47_1 rfl rfl) (by decide) ?_; clear hf a; intro a hf
        refine uL (u_st hf hs T3 rfl rfl rfl (k := 0) rfl (acc_short (k := 0) hin hok).2.1) ?_; clear hs; intro w hs; dsimp only [List.set] at hs
        have hok2 := (acc_short (k := ((k : Nat) : Int)) hin hok).2.2
        refine e_nil ?_
        refine c_reg ?_
        refine gL hf (g_ldW hf hs T25 rfl (k := 1) rfl rfl) (by decide) ?_; clear hf a; intro a hf
        have hrd5 : Rd encF 5 (some ⟨b5, 0, none⟩) (shortB b i ((k : Nat) : Int)).flaps.length (shortB b i ((k : Nat) : Int)).flaps w := hok2.rdb (sz := 5) (fun _ => rfl) (by decide) (hs.own _ _ (.head _)).2
        have hsh : ShIn (shortB b i ((k : Nat) : Int)) (some ⟨b5, 0, none⟩) (cs.size / 5) rA rc w := ⟨hrd5, hs.rd (.tail _ (.tail _ (.head _))), by rw [short_len]; exact hok.cap (sz := 5) (by decide), h.rc_⟩
        have hv2 := valid_short hv hin (k := ((k : Nat) : Int)) ⟨by omega, hkf⟩
        have h9 := c_opened (shortB b i ((k : Nat) : Int)) _ _ _ _ ge gz hv2 w hsh (hs.rd (.tail _ (.tail _ (.tail _ (.head _)))))
        simp only [short_len] at h9
        refine callX hf hs (h9) rfl rfl rfl E75 (by decide) ?_; intro v w1 a hR hb hs1 hf; obtain ⟨mb2, mp2, rfl, hmo2, hle, hmi⟩ := hR; replace hs := hs.fresh hs1 (mapFresh hle hmi); clear hs1 hb
        have hrd5 : Rd encF 5 (some ⟨b5, 0, none⟩) (shortB b i ((k : Nat) : Int)).flaps.length (shortB b i ((k : Nat) : Int)).flaps w1 := hok2.rdb (sz := 5) (fun _ => rfl) (by decide) (hs.own _ _ (.head _)).2
        have hsh : ShIn (shortB b i ((k : Nat) : Int)) (some ⟨b5, 0, none⟩) (cs.size / 5) rA rc w1 := ⟨hrd5, hs.rd (.tail _ (.tail _ (.tail _ (.head _)))), by rw [short_len]; exact hok.cap (sz := 5) (by decide), h.rc_⟩
        have h9 := c_folds (shortB b i ((k : Nat) : Int)) _ _ _ _ mb2 mp2 w1 hv2 hsh (hs.rd (.head _))
        simp only [short_len] at h9
        refine callL hf hs (h9) rfl rfl rfl E76 (by decide) ?_; clear hs hf a; intro w a hs hf
        rw [allOrds_eq hv2 hmo2] at hf
        refine e_nil ?_
        refine c_cond hf rfl (fun hc3 => ?_) (fun hc3 => ?_)
        · skip
          refine c_reg ?_
          refine gL hf (g_mv hf rfl) (by decide) ?_; clear hf a; intro a hf
          refine gL hf (g_as hf rfl) (by decide) ?_; clear hf a; intro a hf
          refine gL hf (g_as hf rfl) (by decide) ?_; clear hf a; intro a hf
          refine e_nil ?_
          refine c_ret (q_blkR (q_thenR (q_thenR (q_blkR (q_thenR ?_)))))
          refine e_ret2 hf rfl rfl rfl ?_
          exact ⟨by rw [shorter_hit he (by simp only [shortN, flapA]; omega) hp hc3], hs.below⟩
        · skip
          refine c_skip (q_blkN (q_thenN ?_))
          refine c_reg1 ?_
          refine gL hf (g_addI hf rfl rfl (by omega)) (by decide) ?_; clear hf a; intro a hf
          refine gL hf (g_mv hf rfl) (by decide) ?_; clear hf a; intro a hf
          refine e_nil1 (q_thenN ?_)
          exact ⟨k + 1, ⟨by simp only [shortN, flapA]; omega, lt_succ hp hc3⟩, (by simp only [shortN, flapA]; omega), hf.back (by repeat (first | (with_reducible exact Ext.base) | ((with_reducible refine Ext.cons ?_ ?_); (· rfl)) | ((with_reducible refine Ext.over ?_ ?_ ?_); (· rfl); (· rfl)))) (allKeys rfl) (.cons rfl .nil), (hs.dropN 2).subD (fun _ h => (.tail _ h))⟩
      · try simp only [decide_eq_true_eq, decide_eq_false_iff_not] at hc2
        refine c_exit (q_thenX (q_thenX (q_blkX (q_thenN ?_))))
        refine c_reg ?_
        refine gL hf (g_as hf rfl) (by decide) ?_; clear hf a; intro a hf
        refine gL hf (g_as hf rfl) (by decide) ?_; clear hf a; intro a hf
        refine e_nil ?_
        refine c_ret ?_
        refine e_ret2 hf rfl rfl rfl ?_
        exact ⟨by rw [shorter_none he (fun j hj => hp j (by simp only [shortN, flapA] at hj; omega))], hs.below⟩

end Go.Proofs.YtpjhffockmnjbaaDoor
