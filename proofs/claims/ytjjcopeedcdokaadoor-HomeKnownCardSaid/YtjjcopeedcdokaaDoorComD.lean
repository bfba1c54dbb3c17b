/- Part ComD of the proofs of the laws of home workers: laws of the engine, plain facts and contracts of the functions that they reach. Conditions: none beyond those of each theorem. -/
import Derived.Test.YtjjcopeedcdokaaDoorComC
set_option linter.unusedVariables false
set_option linter.unusedSimpArgs false
namespace Go.Proofs.YtjjcopeedcdokaaDoor
open Go.RowKit
theorem c_passes (k : Bk) (fA : Option Addr) (fc : Nat) (rA : Option Addr) (rc : Nat) (wA : Option Addr) (wc : Nat) (dA : Option Addr) (dc mb : Nat) (i : Nat) (hi : i < k.ws.length) (c : Int × Int) (w0 : World) (h : Rd encI 1 dA k.ws.length (doesL k) w0) :
    Calls Tryd.prog 159 #[.agg #[.int .i64 k.sh.wide, .int .i64 k.sh.high, .slice fA k.sh.flaps.length fc, .slice rA k.sh.rules.length rc, .int .i64 k.gross, .int .i64 k.pay, .int .i64 k.fine, .slice wA k.ws.length wc, .slice dA k.ws.length dc, .map (some mb)], .agg #[.int .i64 ((i : Nat) : Int), .int .i64 c.1, .int .i64 c.2]] w0 (Ret w0 (.agg #[.int .i64 (hspan k (k.ws.getD i default) 0 c).1, .int .i64 (hspan k (k.ws.getD i default) 0 c).2])) := by
  refine c_enter (n := 24) Tryd.func159 rfl rfl (Nat.le_of_ble_eq_true rfl) ?_; intro a hf; simp only [zipR] at hf
  have hs := St.start w0 [Rd encI 1 dA k.ws.length (doesL k)] h.st1
  have hdl := doesL_get hi
  refine c_reg ?_
  refine vL hf (v_boxA hf hs rfl) (by decide) ?_; clear hs hf a; rintro _ w ⟨b1, rfl, hs⟩ a hf
  refine vL hf (v_boxA hf hs rfl) (by decide) ?_; clear hs hf a; rintro _ w ⟨b2, rfl, hs⟩ a hf
  refine vL hf (v_alloc hs T40 rfl) (by decide) ?_; clear hs hf a; rintro _ w ⟨b3, rfl, hs⟩ a hf
  refine e_nil ?_
  refine wp_seq ?_
  refine c_reg ?_
  refine gL hf (g_fa (off' := 8) hf F89_1 rfl rfl) (by decide) ?_; clear hf a; intro a hf
  refine gL hf (g_ld hf hs T31 rfl (k := 2) rfl rfl) (by decide) ?_; clear hf a; intro a hf
  refine gL hf (g_fa (off' := 0) hf F134_0 rfl rfl) (by decide) ?_; clear hf a; intro a hf
  refine gL hf (g_ld hf hs T3 rfl (k := 1) rfl rfl) (by decide) ?_; clear hf a; intro a hf
  (first | (refine gL hf (g_ixE hf hs (.head _) SL31 rfl rfl (by omega)) (by decide) ?_) | (refine gL hf (g_ixD hf hs (.head _) SL31 rfl rfl (by omega)) (by decide) ?_)); clear hf a; intro a hf
  refine gL hf (g_ldE hf hs (.head _) T3 rfl rfl (by omega)) (by decide) ?_; clear hf a; intro a hf
  refine e_nil ?_
  refine c_block ?_
  refine c_reg ?_
  refine gL hf (g_eql hf rfl rfl) (by decide) ?_; clear hf a; intro a hf
  refine gL hf (g_as hf rfl) (by decide) ?_; clear hf a; intro a hf
  refine e_nil ?_
  refine c_cond hf rfl (fun hc1 => ?_) (fun hc1 => ?_)
  · skip
    have hd2 : doesK k (k.ws.getD i default) = 2 := by rw [hdl] at hc1; simpa using hc1
    refine c_reg ?_
    refine gL hf (g_fa (off' := 1) hf F134_1 rfl rfl) (by decide) ?_; clear hf a; intro a hf
    refine gL hf (g_ld hf hs T3 rfl (k := 1) rfl rfl) (by decide) ?_; clear hf a; intro a hf
    refine gL hf (g_fa (off' := 1) hf F134_1 rfl rfl) (by decide) ?_; clear hf a; intro a hf
    refine gL hf (g_ld hf hs T3 rfl (k := 1) rfl rfl) (by decide) ?_; clear hf a; intro a hf
    refine gL hf (g_bld hf [[.int .i64 0], [.int .i64 0]] (.cons rfl (.cons rfl .nil)) (fun _ => by kernel_rfl)) (by decide) ?_; clear hf a; intro a hf
    refine uL (u_stW hf hs T40 rfl rfl rfl (k := 0) rfl rfl rfl) ?_; clear hs; intro w hs; dsimp only [List.set] at hs
    refine e_nil ?_
    refine c_ret (q_blkR (q_thenR ?_))
    refine e_res hf hs rfl (.cellA T40 rfl (k := 0) rfl rfl .nil) rfl ?_
    exact ⟨by rw [hspan0, hp, if_pos hd2]; rfl, hs.below⟩
  · skip
    have hd2 : ¬ doesK k (k.ws.getD i default) = 2 := by rw [hdl] at hc1; simpa using hc1
    refine c_reg ?_
    refine gL hf (g_eql hf rfl rfl) (by decide) ?_; clear hf a; intro a hf
    refine gL hf (g_as hf rfl) (by decide) ?_; clear hf a; intro a hf
    refine e_nil ?_
    refine c_cond hf rfl (fun hc2 => ?_) (fun hc2 => ?_)
    · skip
      have hd1 : doesK k (k.ws.getD i default) = 1 := by rw [hdl] at hc2; simpa using hc2
      refine c_reg ?_
      refine gL hf (g_fa (off' := 1) hf F134_1 rfl rfl) (by decide) ?_; clear hf a; intro a hf
      refine gL hf (g_ld hf hs T3 rfl (k := 1) rfl rfl) (by decide) ?_; clear hf a; intro a hf
      refine gL hf (g_bld hf [[.int .i64 0], [.int .i64 0]] (.cons rfl (.cons rfl .nil)) (fun _ => by kernel_rfl)) (by decide) ?_; clear hf a; intro a hf
      refine uL (u_stW hf hs T40 rfl rfl rfl (k := 0) rfl rfl rfl) ?_; clear hs; intro w hs; dsimp only [List.set] at hs
      refine e_nil ?_
      refine c_ret (q_blkR (q_thenR ?_))
      refine e_res hf hs rfl (.cellA T40 rfl (k := 0) rfl rfl .nil) rfl ?_
      exact ⟨by rw [hspan0, hp, if_neg hd2, if_pos hd1]; rfl, hs.below⟩
    · skip
      have hd1 : ¬ doesK k (k.ws.getD i default) = 1 := by rw [hdl] at hc2; simpa using hc2
      refine c_skip (q_blkN (q_thenN ?_))
      refine c_reg ?_
      refine gL hf (g_bld hf [[.int .i64 0], [.int .i64 0]] .nil (fun _ => by kernel_rfl)) (by decide) ?_; clear hf a; intro a hf
      refine uL (u_stW hf hs T40 rfl rfl rfl (k := 0) rfl rfl rfl) ?_; clear hs; intro w hs; dsimp only [List.set] at hs
      refine e_nil ?_
      refine c_ret ?_
      refine e_res hf hs rfl (.cellA T40 rfl (k := 0) rfl rfl .nil) rfl ?_
      exact ⟨by rw [hspan0, hp, if_neg hd2, if_neg hd1]; rfl, hs.below⟩

theorem c_missing (k : Bk) (fA : Option Addr) (fc : Nat) (rA : Option Addr) (rc : Nat) (wA : Option Addr) (wc : Nat) (dA : Option Addr) (dc mb : Nat) (i : Nat) (hi : i < k.ws.length) (c : Int × Int) (hc : TrIn (k.ws.getD i default) c.1 c.2) (w0 : World) (h : BkO k fA fc rA rc wA wc dA mb w0) :
    Calls Tryd.prog 160 #[.agg #[.int .i64 k.sh.wide, .int .i64 k.sh.high, .slice fA k.sh.flaps.length fc, .slice rA k.sh.rules.length rc, .int .i64 k.gross, .int .i64 k.pay, .int .i64 k.fine, .slice wA k.ws.length wc, .slice dA k.ws.length dc, .map (some mb)], .agg #[.int .i64 ((i : Nat) : Int), .int .i64 c.1, .int .i64 c.2]] w0 (MRet k mb w0 (.agg #[.int .i64 (hspan k (k.ws.getD i default) 1 c).1, .int .i64 (hspan k (k.ws.getD i default) 1 c).2])) := by
  obtain ⟨m, hkm, hmb⟩ := h.map
  refine c_enter (n := 50) Tryd.func160 rfl rfl (Nat.le_of_ble_eq_true rfl) ?_; intro a hf; simp only [zipR] at hf
  have hs := h.at_ hmb [] (by simp)
  dsimp only [List.nil_append, List.cons_append] at hs
  have hwm := h.W.now.2.1
  have hn0 := hc.n0; have ht0 := hc.t0; have hns := hc.s; have hsm := hc.m
  have hmr : 0 ≤ hm (k.ws.getD i default) c ∧ hm (k.ws.getD i default) c ≤ 600 := hc.hm
  have hws := h.W.now.1
  refine c_reg ?_
  refine vL hf (v_boxA hf hs rfl) (by decide) ?_; clear hs hf a; rintro _ w ⟨b1, rfl, hs⟩ a hf
  refine vL hf (v_boxA hf hs rfl) (by decide) ?_; clear hs hf a; rintro _ w ⟨b2, rfl, hs⟩ a hf
  refine vL hf (v_alloc hs T40 rfl) (by decide) ?_; clear hs hf a; rintro _ w ⟨b3, rfl, hs⟩ a hf
  refine e_nil ?_
  refine wp_seq ?_
  refine c_draw _ 3 Mx rfl hs (fun _ h => h) ?_; intro w hs hS
  refine gA hf hS (i := 0) rfl (by kernel_rfl) (fun w hs => g_ldW hf hs T134 rfl (k := 1) rfl rfl) (by decide) ?_; clear hf a; intro a hf
  refine one (i := 1) (by kernel_rfl) ?_
  refine oCall hf hs rfl (c_nothing _) rfl rfl rfl E162 (by decide) (fun _ h => h.sub (.refl _)) ?_; clear hs hf hS a; intro w a hs hS hf
  refine gA hf hS (i := 2) rfl (by kernel_rfl) (fun w hs => g_eq3 hf QT134 rfl rfl) (by decide) ?_; clear hf a; intro a hf
  refine e_done (by kernel_rfl) ?_
  refine c_cond hf rfl (fun hc1 => ?_) (fun hc1 => ?_)
  · skip
    have hz := hc1
    simp only [Bool.and_eq_true, beq_iff_eq] at hz
    obtain ⟨⟨hz0, hz1⟩, hz2⟩ := hz
    have hi0 : i = 0 := by omega
    have hval : (k.ws.getD 0 default).sheets = hm (k.ws.getD i default) c := by rw [hi0]; show _ = (k.ws.getD 0 default).sheets - c.1 - c.2; omega
    refine c_reg ?_
    refine gL hf (g_fa (off' := 0) hf F89_0 rfl rfl) (by decide) ?_; clear hf a; intro a hf
    refine gL hf (g_fa (off' := 7) hf F28_4 rfl rfl) (by decide) ?_; clear hf a; intro a hf
    refine gL hf (g_ld hf hs T26 rfl (k := 2) rfl rfl) (by decide) ?_; clear hf a; intro a hf
    (first | (refine gL hf (g_ixE hf hs (.tail _ (.tail _ (.head _))) SL26 rfl rfl (by omega)) (by decide) ?_) | (refine gL hf (g_ixD hf hs (.tail _ (.tail _ (.head _))) SL26 rfl rfl (by omega)) (by decide) ?_)); clear hf a; intro a hf
    refine gL hf (g_faD (j' := 0) hf hs (.tail _ (.tail _ (.head _))) F47_0 rfl (by omega) rfl) (by decide) ?_; clear hf a; intro a hf
    refine gL hf (g_ldE hf hs (.tail _ (.tail _ (.head _))) T3 rfl rfl (by omega)) (by decide) ?_; clear hf a; intro a hf
    refine gL hf (g_as hf rfl) (by decide) ?_; clear hf a; intro a hf
    refine e_nil ?_
    refine c_reg ?_
    refine gL hf (g_mv hf rfl) (by decide) ?_; clear hf a; intro a hf
    refine gL hf (g_mv hf rfl) (by decide) ?_; clear hf a; intro a hf
    refine gL hf (g_bld hf [[.int .i64 0], [.int .i64 0]] (.cons rfl (.cons rfl .nil)) (fun _ => by kernel_rfl)) (by decide) ?_; clear hf a; intro a hf
    refine uL (u_stW hf hs T40 rfl rfl rfl (k := 0) rfl rfl rfl) ?_; clear hs; intro w hs; dsimp only [List.set] at hs
    refine e_nil ?_
    refine c_ret (q_thenR ?_)
    refine e_res hf hs rfl (.cellA T40 rfl (k := 0) rfl rfl .nil) rfl ?_
    exact ⟨_, rfl, by rw [hspan1, ← hval]; rfl, hs.below.1, hs.below.2.1, hs.below.2.2.1, hs.below.2.2.2, _, hkm, (hs.own _ _ (.tail _ (.tail _ (.tail _ (.head _))))).2⟩
  · skip
    refine c_skip (q_thenN ?_)
    refine c_reg ?_
    refine gL hf (g_fa (off' := 9) hf F89_2 rfl rfl) (by decide) ?_; clear hf a; intro a hf
    refine gL hf (g_ld hf hs T87 rfl (k := 2) rfl rfl) (by decide) ?_; clear hf a; intro a hf
    refine gL hf (g_ldW hf hs T134 rfl (k := 1) rfl rfl) (by decide) ?_; clear hf a; intro a hf
    refine gL hf (g_look3 hf hs (k := 3) rfl MP87 rfl rfl) (by decide) ?_; clear hf a; intro a hf
    refine gL hf (g_mv hf rfl) (by decide) ?_; clear hf a; intro a hf
    refine gL hf (g_ext hf rfl rfl) (by decide) ?_; clear hf a; intro a hf
    refine gL hf (g_ext hf rfl rfl) (by decide) ?_; clear hf a; intro a hf
    refine gL hf (g_as hf rfl) (by decide) ?_; clear hf a; intro a hf
    refine gL hf (g_as hf rfl) (by decide) ?_; clear hf a; intro a hf
    refine e_nil ?_
    refine wp_seq ?_
    refine c_reg ?_
    refine gL hf (g_mv hf rfl) (by decide) ?_; clear hf a; intro a hf
    refine gL hf (g_not hf rfl) (by decide) ?_; clear hf a; intro a hf
    refine e_nil ?_
    refine c_cond hf rfl (fun hc2 => ?_) (fun hc2 => ?_)
    · skip
      have hnk : khas m (((i : Nat) : Int), c.1, c.2) = false := by simpa using hc2
      refine c_draw _ 15 Mx rfl hs (fun _ h => h) ?_; intro w hs hS
      refine gA hf hS (i := 0) rfl (by kernel_rfl) (fun w hs => g_fa (off' := 0) hf F89_0 rfl rfl) (by decide) ?_; clear hf a; intro a hf
      refine gA hf hS (i := 1) rfl (by kernel_rfl) (fun w hs => g_fa (off' := 7) hf F28_4 rfl rfl) (by decide) ?_; clear hf a; intro a hf
      refine gA hf hS (i := 2) rfl (by kernel_rfl) (fun w hs => g_ld hf hs T26 rfl (k := 2) rfl rfl) (by decide) ?_; clear hf a; intro a hf
      refine gA hf hS (i := 3) rfl (by kernel_rfl) (fun w hs => g_fa (off' := 0) hf F134_0 rfl rfl) (by decide) ?_; clear hf a; intro a hf
      refine gA hf hS (i := 4) rfl (by kernel_rfl) (fun w hs => g_ld hf hs T3 rfl (k := 1) rfl rfl) (by decide) ?_; clear hf a; intro a hf
      (first | (refine gA hf hS (i := 5) rfl (by kernel_rfl) (fun w hs => g_ixE hf hs (.tail _ (.tail _ (.head _))) SL26 rfl rfl (by omega)) (by decide) ?_) | (refine gA hf hS (i := 5) rfl (by kernel_rfl) (fun w hs => g_ixD hf hs (.tail _ (.tail _ (.head _))) SL26 rfl rfl (by omega)) (by decide) ?_)); clear hf a; intro a hf
      refine gA hf hS (i := 6) rfl (by kernel_rfl) (fun w hs => g_faD (j' := 0) hf hs (.tail _ (.tail _ (.head _))) F47_0 rfl (by omega) rfl) (by decide) ?_; clear hf a; intro a hf
      refine gA hf hS (i := 7) rfl (by kernel_rfl) (fun w hs => g_ldE hf hs (.tail _ (.tail _ (.head _))) T3 rfl rfl (by omega)) (by decide) ?_; clear hf a; intro a hf
      refine gA hf hS (i := 8) rfl (by kernel_rfl) (fun w hs => g_fa (off' := 1) hf F134_1 rfl rfl) (by decide) ?_; clear hf a; intro a hf
      refine gA hf hS (i := 9) rfl (by kernel_rfl) (fun w hs => g_ld hf hs T3 rfl (k := 1) rfl rfl) (by decide) ?_; clear hf a; intro a hf
      refine gA hf hS (i := 10) rfl (by kernel_rfl) (fun w hs => g_subI hf rfl rfl (by omega)) (by decide) ?_; clear hf a; intro a hf
      refine gA hf hS (i := 11) rfl (by kernel_rfl) (fun w hs => g_fa (off' := 2) hf F134_2 rfl rfl) (by decide) ?_; clear hf a; intro a hf
      refine gA hf hS (i := 12) rfl (by kernel_rfl) (fun w hs => g_ld hf hs T3 rfl (k := 1) rfl rfl) (by decide) ?_; clear hf a; intro a hf
      refine gA hf hS (i := 13) rfl (by kernel_rfl) (fun w hs => g_subI hf rfl rfl (by omega)) (by decide) ?_; clear hf a; intro a hf
      refine gA hf hS (i := 14) rfl (by kernel_rfl) (fun w hs => g_as hf rfl) (by decide) ?_; clear hf a; intro a hf
      refine e_done (by kernel_rfl) ?_
      refine c_reg1 ?_
      refine gL hf (g_fa (off' := 9) hf F89_2 rfl rfl) (by decide) ?_; clear hf a; intro a hf
      refine gL hf (g_ld hf hs T87 rfl (k := 2) rfl rfl) (by decide) ?_; clear hf a; intro a hf
      refine gL hf (g_ldW hf hs T134 rfl (k := 1) rfl rfl) (by decide) ?_; clear hf a; intro a hf
      refine gL hf (g_mv hf rfl) (by decide) ?_; clear hf a; intro a hf
      refine uL (u_upd3 hf hs (k := 3) rfl MP87 rfl rfl rfl hnk) ?_; clear hs; intro w hs; dsimp only [List.set] at hs
      refine e_nil1 (q_thenN ?_)
      refine c_reg ?_
      refine gL hf (g_mv hf rfl) (by decide) ?_; clear hf a; intro a hf
      refine gL hf (g_mv hf rfl) (by decide) ?_; clear hf a; intro a hf
      refine gL hf (g_bld hf [[.int .i64 0], [.int .i64 0]] (.cons rfl (.cons rfl .nil)) (fun _ => by kernel_rfl)) (by decide) ?_; clear hf a; intro a hf
      refine uL (u_stW hf hs T40 rfl rfl rfl (k := 0) rfl rfl rfl) ?_; clear hs; intro w hs; dsimp only [List.set] at hs
      refine e_nil ?_
      refine c_ret ?_
      refine e_res hf hs rfl (.cellA T40 rfl (k := 0) rfl rfl .nil) rfl ?_
      exact ⟨_, rfl, by rw [hspan1]; rfl, hs.below.1, hs.below.2.1, hs.below.2.2.1, hs.below.2.2.2, _, kOK_add hkm hi (by rfl), (hs.own _ _ (.tail _ (.tail _ (.tail _ (.head _))))).2⟩
    · skip
      have hkk := kOK_get hkm (i := i) (n := c.1) (t := c.2) (by simpa using hc2)
      refine c_skip (q_thenN ?_)
      refine c_reg ?_
      refine gL hf (g_mv hf rfl) (by decide) ?_; clear hf a; intro a hf
      refine gL hf (g_mv hf rfl) (by decide) ?_; clear hf a; intro a hf
      refine gL hf (g_bld hf [[.int .i64 0], [.int .i64 0]] (.cons rfl (.cons rfl .nil)) (fun _ => by kernel_rfl)) (by decide) ?_; clear hf a; intro a hf
      refine uL (u_stW hf hs T40 rfl rfl rfl (k := 0) rfl rfl rfl) ?_; clear hs; intro w hs; dsimp only [List.set] at hs
      refine e_nil ?_
      refine c_ret ?_
      refine e_res hf hs rfl (.cellA T40 rfl (k := 0) rfl rfl .nil) rfl ?_
      exact ⟨_, rfl, by rw [hspan1, hkk]; rfl, hs.below.1, hs.below.2.1, hs.below.2.2.1, hs.below.2.2.2, _, hkm, (hs.own _ _ (.tail _ (.tail _ (.tail _ (.head _))))).2⟩

theorem c_gets (k : Bk) (fA : Option Addr) (fc : Nat) (rA : Option Addr) (rc : Nat) (wA : Option Addr) (wc : Nat) (dA : Option Addr) (dc mb : Nat) (i : Nat) (hi : i < k.ws.length) (c : Int × Int) (hc : TrIn (k.ws.getD i default) c.1 c.2) (hv : BkV k) (w0 : World) (h : BkO k fA fc rA rc wA wc dA mb w0) :
    Calls Tryd.prog 161 #[.agg #[.int .i64 k.sh.wide, .int .i64 k.sh.high, .slice fA k.sh.flaps.length fc, .slice rA k.sh.rules.length rc, .int .i64 k.gross, .int .i64 k.pay, .int .i64 k.fine, .slice wA k.ws.length wc, .slice dA k.ws.length dc, .map (some mb)], .agg #[.int .i64 ((i : Nat) : Int), .int .i64 c.1, .int .i64 c.2]] w0 (MRet k mb w0 (.agg #[.int .i64 (hspan k (k.ws.getD i default) 2 c).1, .int .i64 (hspan k (k.ws.getD i default) 2 c).2])) := by
  obtain ⟨m, hkm, hmb⟩ := h.map
  refine c_enter (n := 52) Tryd.func161 rfl rfl (Nat.le_of_ble_eq_true rfl) ?_; intro a hf; simp only [zipR] at hf
  have hs := h.at_ hmb [] (by simp)
  dsimp only [List.nil_append, List.cons_append] at hs
  have hwm := h.W.now.2.1
  have hn0 := hc.n0; have ht0 := hc.t0; have hns := hc.s; have hsm := hc.m
  have hmr : 0 ≤ hm (k.ws.getD i default) c ∧ hm (k.ws.getD i default) c ≤ 600 := hc.hm
  have hpr := hp_rng (d := doesK k (k.ws.getD i default)) (n := c.1) ⟨hn0, by omega⟩
  have hg9 := hv.g1; have hg8 := hv.g2; have hp9 := hv.p1; have hp8 := hv.p2; have hf9 := hv.f1; have hf8 := hv.f2
  have hr1 := pay_rng hv hpr.1 hmr; have hr2 := pay_rng hv hpr.2 hmr
  refine c_reg ?_
  refine vL hf (v_boxA hf hs rfl) (by decide) ?_; clear hs hf a; rintro _ w ⟨b1, rfl, hs⟩ a hf
  refine vL hf (v_boxA hf hs rfl) (by decide) ?_; clear hs hf a; rintro _ w ⟨b2, rfl, hs⟩ a hf
  refine vL hf (v_alloc hs T40 rfl) (by decide) ?_; clear hs hf a; rintro _ w ⟨b3, rfl, hs⟩ a hf
  refine e_nil ?_
  refine c_drawJ (fun w => ∃ B m9, St B [Rd encF 5 fA k.sh.flaps.length k.sh.flaps, Rd encR 2 rA k.sh.rules.length k.sh.rules, Rd encW 6 wA k.ws.length k.ws, OrdD k.ws, Rd encI 1 dA k.ws.length (doesL k)] [(b3, .cells #[.int .i64 0, .int .i64 0] 40 (0, 0)), (b2, .cells #[.int .i64 ((i : Nat) : Int), .int .i64 c.1, .int .i64 c.2] 134 (0, 0)), (b1, .cells #[.int .i64 k.sh.wide, .int .i64 k.sh.high, .slice fA k.sh.flaps.length fc, .slice rA k.sh.rules.length rc, .int .i64 k.gross, .int .i64 k.pay, .int .i64 k.fine, .slice wA k.ws.length wc, .slice dA k.ws.length dc, .map (some mb)] 89 (0, 0)), (mb, mapK m9)] w) 10 (fun a w => ∃ b5 b6 m, kOK k m ∧ Fr [] a 52 [(5, .pointer (some ⟨b5, 0, none⟩)), (6, .pointer (some ⟨b6, 0, none⟩)), (2, .pointer (some ⟨b1, 0, none⟩)), (3, .pointer (some ⟨b2, 0, none⟩)), (4, .pointer (some ⟨b3, 0, none⟩))] ∧ St (Base.rnd w0 [mb] [] noE) [Rd encF 5 fA k.sh.flaps.length k.sh.flaps, Rd encR 2 rA k.sh.rules.length k.sh.rules, Rd encW 6 wA k.ws.length k.ws, OrdD k.ws, Rd encI 1 dA k.ws.length (doesL k)] [(b5, .cells #[.int .i64 (hp (doesK k (k.ws.getD i default)) c.1).1, .int .i64 (hp (doesK k (k.ws.getD i default)) c.1).2] 40 (0, 0)), (b6, .cells #[.int .i64 (hm (k.ws.getD i default) c), .int .i64 (hm (k.ws.getD i default) c)] 40 (0, 0)), (b3, .cells #[.int .i64 0, .int .i64 0] 40 (0, 0)), (b2, .cells #[.int .i64 ((i : Nat) : Int), .int .i64 c.1, .int .i64 c.2] 134 (0, 0)), (b1, .cells #[.int .i64 k.sh.wide, .int .i64 k.sh.high, .slice fA k.sh.flaps.length fc, .slice rA k.sh.rules.length rc, .int .i64 k.gross, .int .i64 k.pay, .int .i64 k.fine, .slice wA k.ws.length wc, .slice dA k.ws.length dc, .map (some mb)] 89 (0, 0)), (mb, mapK m)] w) Mx rfl hs (fun _ h => ⟨_, _, h⟩) ?_ ?_
  · intro w hs hS
    refine gA hf hS (i := 0) rfl (by kernel_rfl) (fun w ⟨_, _, hs⟩ => g_ldW hf hs T89 rfl (k := 2) rfl rfl) (by decide) ?_; clear hf a; intro a hf
    refine gA hf hS (i := 1) rfl (by kernel_rfl) (fun w ⟨_, _, hs⟩ => g_ldW hf hs T134 rfl (k := 1) rfl rfl) (by decide) ?_; clear hf a; intro a hf
    refine gA hf hS (i := 3) rfl (by kernel_rfl) (fun w ⟨_, _, hs⟩ => g_ldW hf hs T89 rfl (k := 2) rfl rfl) (by decide) ?_; clear hf a; intro a hf
    refine gA hf hS (i := 4) rfl (by kernel_rfl) (fun w ⟨_, _, hs⟩ => g_ldW hf hs T134 rfl (k := 1) rfl rfl) (by decide) ?_; clear hf a; intro a hf
    refine three (i := 2) (j := 6) (l := 7) (by kernel_rfl) ?_ ?_ ?_
    · skip
      refine oCall hf hs rfl (c_passes k _ _ _ _ _ _ _ _ _ i hi c _ (hs.rd (.tail _ (.tail _ (.tail _ (.tail _ (.head _))))))) rfl rfl rfl E159 (by decide) (fun _ h => ⟨_, _, h.sub (.refl _)⟩) ?_; clear hs hf hS a; intro w a hs hS hf
      rw [hspan0] at hf
      refine three (i := 5) (j := 6) (l := 7) (by kernel_rfl) ?_ ?_ ?_
      · skip
        refine oCallM hf hs (j := 3) rfl rfl (c_missing k _ fc _ rc _ wc _ _ _ i hi c hc _ (bkO_of fc rc wc hs 3 rfl hkm (.head _) (.tail _ (.head _)) (.tail _ (.tail _ (.head _))) (.tail _ (.tail _ (.tail _ (.head _)))) (.tail _ (.tail _ (.tail _ (.tail _ (.head _))))))) rfl rfl rfl E160 (by decide) (fun _ _ h => ⟨_, _, h.sub (.refl _)⟩) ?_; clear hs hf hS a; intro m w a hkm hs hS hf; dsimp only [List.set] at hs
        rw [hspan1] at hf
        refine two (i := 6) (j := 7) (by kernel_rfl) ?_ ?_
        · skip
          refine oV hf rfl (v_alloc hs T40 rfl) (by decide) (fun _ _ ⟨_, _, h⟩ => ⟨_, _, h.sub (.cons _ (.refl _))⟩) ?_; clear hs hf hS a; rintro _ w ⟨b4, rfl, hs⟩ hS a hf
          refine one (i := 7) (by kernel_rfl) ?_
          refine oV hf rfl (v_alloc hs T40 rfl) (by decide) (fun _ _ ⟨_, _, h⟩ => ⟨_, _, h.sub (.cons _ (.cons _ (.refl _)))⟩) ?_; clear hs hf hS a; rintro _ w ⟨b5, rfl, hs⟩ hS a hf
          refine one (i := 8) (by kernel_rfl) ?_
          refine oU rfl (u_stW hf hs T40 rfl rfl rfl (k := 1) rfl rfl rfl) (fun _ h => ⟨_, _, h.sub (.cons _ (.cons _ (.refl _)))⟩) ?_; clear hs hS; intro w hs hS; dsimp only [List.set] at hs
          refine one (i := 9) (by kernel_rfl) ?_
          refine oU rfl (u_stW hf hs T40 rfl rfl rfl (k := 0) rfl rfl rfl) (fun _ h => ⟨_, _, h.sub (.cons _ (.cons _ (.refl _)))⟩) ?_; clear hs hS; intro w hs hS; dsimp only [List.set] at hs
          refine e_doneJ (by kernel_rfl) ?_
          first | exact ⟨_, _, _, hkm, hf.only (.cons rfl (.cons rfl (.cons rfl (.cons rfl (.cons rfl .nil))))), hs⟩ | exact ⟨_, _, _, hkm, hf.only (.cons rfl (.cons rfl (.cons rfl (.cons rfl (.cons rfl .nil))))), hs.perm (.swap _ _ _)⟩
        · skip
          refine oV hf rfl (v_alloc hs T40 rfl) (by decide) (fun _ _ ⟨_, _, h⟩ => ⟨_, _, h.sub (.cons _ (.refl _))⟩) ?_; clear hs hf hS a; rintro _ w ⟨b4, rfl, hs⟩ hS a hf
          refine one (i := 6) (by kernel_rfl) ?_
          refine oV hf rfl (v_alloc hs T40 rfl) (by decide) (fun _ _ ⟨_, _, h⟩ => ⟨_, _, h.sub (.cons _ (.cons _ (.refl _)))⟩) ?_; clear hs hf hS a; rintro _ w ⟨b5, rfl, hs⟩ hS a hf
          refine one (i := 8) (by kernel_rfl) ?_
          refine oU rfl (u_stW hf hs T40 rfl rfl rfl (k := 0) rfl rfl rfl) (fun _ h => ⟨_, _, h.sub (.cons _ (.cons _ (.refl _)))⟩) ?_; clear hs hS; intro w hs hS; dsimp only [List.set] at hs
          refine one (i := 9) (by kernel_rfl) ?_
          refine oU rfl (u_stW hf hs T40 rfl rfl rfl (k := 1) rfl rfl rfl) (fun _ h => ⟨_, _, h.sub (.cons _ (.cons _ (.refl _)))⟩) ?_; clear hs hS; intro w hs hS; dsimp only [List.set] at hs
          refine e_doneJ (by kernel_rfl) ?_
          first | exact ⟨_, _, _, hkm, hf.only (.cons rfl (.cons rfl (.cons rfl (.cons rfl (.cons rfl .nil))))), hs⟩ | exact ⟨_, _, _, hkm, hf.only (.cons rfl (.cons rfl (.cons rfl (.cons rfl (.cons rfl .nil))))), hs.perm (.swap _ _ _)⟩
      · skip
        refine oV hf rfl (v_alloc hs T40 rfl) (by decide) (fun _ _ ⟨_, _, h⟩ => ⟨_, _, h.sub (.cons _ (.refl _))⟩) ?_; clear hs hf hS a; rintro _ w ⟨b4, rfl, hs⟩ hS a hf
        refine two (i := 5) (j := 7) (by kernel_rfl) ?_ ?_
        · skip
          refine oCallM hf hs (j := 4) rfl rfl (c_missing k _ fc _ rc _ wc _ _ _ i hi c hc _ (bkO_of fc rc wc hs 4 rfl hkm (.head _) (.tail _ (.head _)) (.tail _ (.tail _ (.head _))) (.tail _ (.tail _ (.tail _ (.head _)))) (.tail _ (.tail _ (.tail _ (.tail _ (.head _))))))) rfl rfl rfl E160 (by decide) (fun _ _ h => ⟨_, _, h.sub (.cons _ (.refl _))⟩) ?_; clear hs hf hS a; intro m w a hkm hs hS hf; dsimp only [List.set] at hs
          rw [hspan1] at hf
          refine one (i := 7) (by kernel_rfl) ?_
          refine oV hf rfl (v_alloc hs T40 rfl) (by decide) (fun _ _ ⟨_, _, h⟩ => ⟨_, _, h.sub (.cons _ (.cons _ (.refl _)))⟩) ?_; clear hs hf hS a; rintro _ w ⟨b5, rfl, hs⟩ hS a hf
          refine one (i := 8) (by kernel_rfl) ?_
          refine oU rfl (u_stW hf hs T40 rfl rfl rfl (k := 1) rfl rfl rfl) (fun _ h => ⟨_, _, h.sub (.cons _ (.cons _ (.refl _)))⟩) ?_; clear hs hS; intro w hs hS; dsimp only [List.set] at hs
          refine one (i := 9) (by kernel_rfl) ?_
          refine oU rfl (u_stW hf hs T40 rfl rfl rfl (k := 0) rfl rfl rfl) (fun _ h => ⟨_, _, h.sub (.cons _ (.cons _ (.refl _)))⟩) ?_; clear hs hS; intro w hs hS; dsimp only [List.set] at hs
          refine e_doneJ (by kernel_rfl) ?_
          first | exact ⟨_, _, _, hkm, hf.only (.cons rfl (.cons rfl (.cons rfl (.cons rfl (.cons rfl .nil))))), hs⟩ | exact ⟨_, _, _, hkm, hf.only (.cons rfl (.cons rfl (.cons rfl (.cons rfl (.cons rfl .nil))))), hs.perm (.swap _ _ _)⟩
        · skip
          refine oV hf rfl (v_alloc hs T40 rfl) (by decide) (fun _ _ ⟨_, _, h⟩ => ⟨_, _, h.sub (.cons _ (.cons _ (.refl _)))⟩) ?_; clear hs hf hS a; rintro _ w ⟨b5, rfl, hs⟩ hS a hf
          refine one (i := 5) (by kernel_rfl) ?_
          refine oCallM hf hs (j := 5) rfl rfl (c_missing k _ fc _ rc _ wc _ _ _ i hi c hc _ (bkO_of fc rc wc hs 5 rfl hkm (.head _) (.tail _ (.head _)) (.tail _ (.tail _ (.head _))) (.tail _ (.tail _ (.tail _ (.head _)))) (.tail _ (.tail _ (.tail _ (.tail _ (.head _))))))) rfl rfl rfl E160 (by decide) (fun _ _ h => ⟨_, _, h.sub (.cons _ (.cons _ (.refl _)))⟩) ?_; clear hs hf hS a; intro m w a hkm hs hS hf; dsimp only [List.set] at hs
          rw [hspan1] at hf
          refine one (i := 8) (by kernel_rfl) ?_
          refine oU rfl (u_stW hf hs T40 rfl rfl rfl (k := 1) rfl rfl rfl) (fun _ h => ⟨_, _, h.sub (.cons _ (.cons _ (.refl _)))⟩) ?_; clear hs hS; intro w hs hS; dsimp only [List.set] at hs
          refine one (i := 9) (by kernel_rfl) ?_
          refine oU rfl (u_stW hf hs T40 rfl rfl rfl (k := 0) rfl rfl rfl) (fun _ h => ⟨_, _, h.sub (.cons _ (.cons _ (.refl _)))⟩) ?_; clear hs hS; intro w hs hS; dsimp only [List.set] at hs
          refine e_doneJ (by kernel_rfl) ?_
          first | exact ⟨_, _, _, hkm, hf.only (.cons rfl (.cons rfl (.cons rfl (.cons rfl (.cons rfl .nil))))), hs⟩ | exact ⟨_, _, _, hkm, hf.only (.cons rfl (.cons rfl (.cons rfl (.cons rfl (.cons rfl .nil))))), hs.perm (.swap _ _ _)⟩
      · skip
        refine oV hf rfl (v_alloc hs T40 rfl) (by decide) (fun _ _ ⟨_, _, h⟩ => ⟨_, _, h.sub (.cons _ (.refl _))⟩) ?_; clear hs hf hS a; rintro _ w ⟨b4, rfl, hs⟩ hS a hf
        refine two (i := 5) (j := 6) (by kernel_rfl) ?_ ?_
        · skip
          refine oCallM hf hs (j := 4) rfl rfl (c_missing k _ fc _ rc _ wc _ _ _ i hi c hc _ (bkO_of fc rc wc hs 4 rfl hkm (.head _) (.tail _ (.head _)) (.tail _ (.tail _ (.head _))) (.tail _ (.tail _ (.tail _ (.head _)))) (.tail _ (.tail _ (.tail _ (.tail _ (.head _))))))) rfl rfl rfl E160 (by decide) (fun _ _ h => ⟨_, _, h.sub (.cons _ (.refl _))⟩) ?_; clear hs hf hS a; intro m w a hkm hs hS hf; dsimp only [List.set] at hs
          rw [hspan1] at hf
          refine one (i := 6) (by kernel_rfl) ?_
          refine oV hf rfl (v_alloc hs T40 rfl) (by decide) (fun _ _ ⟨_, _, h⟩ => ⟨_, _, h.sub (.cons _ (.cons _ (.refl _)))⟩) ?_; clear hs hf hS a; rintro _ w ⟨b5, rfl, hs⟩ hS a hf
          refine one (i := 8) (by kernel_rfl) ?_
          refine oU rfl (u_stW hf hs T40 rfl rfl rfl (k := 0) rfl rfl rfl) (fun _ h => ⟨_, _, h.sub (.cons _ (.cons _ (.refl _)))⟩) ?_; clear hs hS; intro w hs hS; dsimp only [List.set] at hs
          refine one (i := 9) (by kernel_rfl) ?_
          refine oU rfl (u_stW hf hs T40 rfl rfl rfl (k := 1) rfl rfl rfl) (fun _ h => ⟨_, _, h.sub (.cons _ (.cons _ (.refl _)))⟩) ?_; clear hs hS; intro w hs hS; dsimp only [List.set] at hs
          refine e_doneJ (by kernel_rfl) ?_
          first | exact ⟨_, _, _, hkm, hf.only (.cons rfl (.cons rfl (.cons rfl (.cons rfl (.cons rfl .nil))))), hs⟩ | exact ⟨_, _, _, hkm, hf.only (.cons rfl (.cons rfl (.cons rfl (.cons rfl (.cons rfl .nil))))), hs.perm (.swap _ _ _)⟩
        · skip
          refine oV hf rfl (v_alloc hs T40 rfl) (by decide) (fun _ _ ⟨_, _, h⟩ => ⟨_, _, h.sub (.cons _ (.cons _ (.refl _)))⟩) ?_; clear hs hf hS a; rintro _ w ⟨b5, rfl, hs⟩ hS a hf
          refine one (i := 5) (by kernel_rfl) ?_
          refine oCallM hf hs (j := 5) rfl rfl (c_missing k _ fc _ rc _ wc _ _ _ i hi c hc _ (bkO_of fc rc wc hs 5 rfl hkm (.head _) (.tail _ (.head _)) (.tail _ (.tail _ (.head _))) (.tail _ (.tail _ (.tail _ (.head _)))) (.tail _ (.tail _ (.tail _ (.tail _ (.head _))))))) rfl rfl rfl E160 (by decide) (fun _ _ h => ⟨_, _, h.sub (.cons _ (.cons _ (.refl _)))⟩) ?_; clear hs hf hS a; intro m w a hkm hs hS hf; dsimp only [List.set] at hs
          rw [hspan1] at hf
          refine one (i := 8) (by kernel_rfl) ?_
          refine oU rfl (u_stW hf hs T40 rfl rfl rfl (k := 0) rfl rfl rfl) (fun _ h => ⟨_, _, h.sub (.cons _ (.cons _ (.refl _)))⟩) ?_; clear hs hS; intro w hs hS; dsimp only [List.set] at hs
          refine one (i := 9) (by kernel_rfl) ?_
          refine oU rfl (u_stW hf hs T40 rfl rfl rfl (k := 1) rfl rfl rfl) (fun _ h => ⟨_, _, h.sub (.cons _ (.cons _ (.refl _)))⟩) ?_; clear hs hS; intro w hs hS; dsimp only [List.set] at hs
          refine e_doneJ (by kernel_rfl) ?_
          first | exact ⟨_, _, _, hkm, hf.only (.cons rfl (.cons rfl (.cons rfl (.cons rfl (.cons rfl .nil))))), hs⟩ | exact ⟨_, _, _, hkm, hf.only (.cons rfl (.cons rfl (.cons rfl (.cons rfl (.cons rfl .nil))))), hs.perm (.swap _ _ _)⟩
    · skip
      refine oV hf rfl (v_alloc hs T40 rfl) (by decide) (fun _ _ ⟨_, _, h⟩ => ⟨_, _, h.sub (.cons _ (.refl _))⟩) ?_; clear hs hf hS a; rintro _ w ⟨b4, rfl, hs⟩ hS a hf
      refine two (i := 2) (j := 7) (by kernel_rfl) ?_ ?_
      · skip
        refine oCall hf hs rfl (c_passes k _ _ _ _ _ _ _ _ _ i hi c _ (hs.rd (.tail _ (.tail _ (.tail _ (.tail _ (.head _))))))) rfl rfl rfl E159 (by decide) (fun _ h => ⟨_, _, h.sub (.cons _ (.refl _))⟩) ?_; clear hs hf hS a; intro w a hs hS hf
        rw [hspan0] at hf
        refine two (i := 5) (j := 7) (by kernel_rfl) ?_ ?_
        · skip
          refine oCallM hf hs (j := 4) rfl rfl (c_missing k _ fc _ rc _ wc _ _ _ i hi c hc _ (bkO_of fc rc wc hs 4 rfl hkm (.head _) (.tail _ (.head _)) (.tail _ (.tail _ (.head _))) (.tail _ (.tail _ (.tail _ (.head _)))) (.tail _ (.tail _ (.tail _ (.tail _ (.head _))))))) rfl rfl rfl E160 (by decide) (fun _ _ h => ⟨_, _, h.sub (.cons _ (.refl _))⟩) ?_; clear hs hf hS a; intro m w a hkm hs hS hf; dsimp only [List.set] at hs
          rw [hspan1] at hf
          refine one (i := 7) (by kernel_rfl) ?_
          refine oV hf rfl (v_alloc hs T40 rfl) (by decide) (fun _ _ ⟨_, _, h⟩ => ⟨_, _, h.sub (.cons _ (.cons _ (.refl _)))⟩) ?_; clear hs hf hS a; rintro _ w ⟨b5, rfl, hs⟩ hS a hf
          refine one (i := 8) (by kernel_rfl) ?_
          refine oU rfl (u_stW hf hs T40 rfl rfl rfl (k := 1) rfl rfl rfl) (fun _ h => ⟨_, _, h.sub (.cons _ (.cons _ (.refl _)))⟩) ?_; clear hs hS; intro w hs hS; dsimp only [List.set] at hs
          refine one (i := 9) (by kernel_rfl) ?_
          refine oU rfl (u_stW hf hs T40 rfl rfl rfl (k := 0) rfl rfl rfl) (fun _ h => ⟨_, _, h.sub (.cons _ (.cons _ (.refl _)))⟩) ?_; clear hs hS; intro w hs hS; dsimp only [List.set] at hs
          refine e_doneJ (by kernel_rfl) ?_
          first | exact ⟨_, _, _, hkm, hf.only (.cons rfl (.cons rfl (.cons rfl (.cons rfl (.cons rfl .nil))))), hs⟩ | exact ⟨_, _, _, hkm, hf.only (.cons rfl (.cons rfl (.cons rfl (.cons rfl (.cons rfl .nil))))), hs.perm (.swap _ _ _)⟩
        · skip
          refine oV hf rfl (v_alloc hs T40 rfl) (by decide) (fun _ _ ⟨_, _, h⟩ => ⟨_, _, h.sub (.cons _ (.cons _ (.refl _)))⟩) ?_; clear hs hf hS a; rintro _ w ⟨b5, rfl, hs⟩ hS a hf
          refine one (i := 5) (by kernel_rfl) ?_
          refine oCallM hf hs (j := 5) rfl rfl (c_missing k _ fc _ rc _ wc _ _ _ i hi c hc _ (bkO_of fc rc wc hs 5 rfl hkm (.head _) (.tail _ (.head _)) (.tail _ (.tail _ (.head _))) (.tail _ (.tail _ (.tail _ (.head _)))) (.tail _ (.tail _ (.tail _ (.tail _ (.head _))))))) rfl rfl rfl E160 (by decide) (fun _ _ h => ⟨_, _, h.sub (.cons _ (.cons _ (.refl _)))⟩) ?_; clear hs hf hS a; intro m w a hkm hs hS hf; dsimp only [List.set] at hs
          rw [hspan1] at hf
          refine one (i := 8) (by kernel_rfl) ?_
          refine oU rfl (u_stW hf hs T40 rfl rfl rfl (k := 1) rfl rfl rfl) (fun _ h => ⟨_, _, h.sub (.cons _ (.cons _ (.refl _)))⟩) ?_; clear hs hS; intro w hs hS; dsimp only [List.set] at hs
          refine one (i := 9) (by kernel_rfl) ?_
          refine oU rfl (u_stW hf hs T40 rfl rfl rfl (k := 0) rfl rfl rfl) (fun _ h => ⟨_, _, h.sub (.cons _ (.cons _ (.refl _)))⟩) ?_; clear hs hS; intro w hs hS; dsimp only [List.set] at hs
          refine e_doneJ (by kernel_rfl) ?_
          first | exact ⟨_, _, _, hkm, hf.only (.cons rfl (.cons rfl (.cons rfl (.cons rfl (.cons rfl .nil))))), hs⟩ | exact ⟨_, _, _, hkm, hf.only (.cons rfl (.cons rfl (.cons rfl (.cons rfl (.cons rfl .nil))))), hs.perm (.swap _ _ _)⟩
      · skip
        refine oV hf rfl (v_alloc hs T40 rfl) (by decide) (fun _ _ ⟨_, _, h⟩ => ⟨_, _, h.sub (.cons _ (.cons _ (.refl _)))⟩) ?_; clear hs hf hS a; rintro _ w ⟨b5, rfl, hs⟩ hS a hf
        refine one (i := 2) (by kernel_rfl) ?_
        refine oCall hf hs rfl (c_passes k _ _ _ _ _ _ _ _ _ i hi c _ (hs.rd (.tail _ (.tail _ (.tail _ (.tail _ (.head _))))))) rfl rfl rfl E159 (by decide) (fun _ h => ⟨_, _, h.sub (.cons _ (.cons _ (.refl _)))⟩) ?_; clear hs hf hS a; intro w a hs hS hf
        rw [hspan0] at hf
        refine one (i := 5) (by kernel_rfl) ?_
        refine oCallM hf hs (j := 5) rfl rfl (c_missing k _ fc _ rc _ wc _ _ _ i hi c hc _ (bkO_of fc rc wc hs 5 rfl hkm (.head _) (.tail _ (.head _)) (.tail _ (.tail _ (.head _))) (.tail _ (.tail _ (.tail _ (.head _)))) (.tail _ (.tail _ (.tail _ (.tail _ (.head _))))))) rfl rfl rfl E160 (by decide) (fun _ _ h => ⟨_, _, h.sub (.cons _ (.cons _ (.refl _)))⟩) ?_; clear hs hf hS a; intro m w a hkm hs hS hf; dsimp only [List.set] at hs
        rw [hspan1] at hf
        refine one (i := 8) (by kernel_rfl) ?_
        refine oU rfl (u_stW hf hs T40 rfl rfl rfl (k := 1) rfl rfl rfl) (fun _ h => ⟨_, _, h.sub (.cons _ (.cons _ (.refl _)))⟩) ?_; clear hs hS; intro w hs hS; dsimp only [List.set] at hs
        refine one (i := 9) (by kernel_rfl) ?_
        refine oU rfl (u_stW hf hs T40 rfl rfl rfl (k := 0) rfl rfl rfl) (fun _ h => ⟨_, _, h.sub (.cons _ (.cons _ (.refl _)))⟩) ?_; clear hs hS; intro w hs hS; dsimp only [List.set] at hs
        refine e_doneJ (by kernel_rfl) ?_
        first | exact ⟨_, _, _, hkm, hf.only (.cons rfl (.cons rfl (.cons rfl (.cons rfl (.cons rfl .nil))))), hs⟩ | exact ⟨_, _, _, hkm, hf.only (.cons rfl (.cons rfl (.cons rfl (.cons rfl (.cons rfl .nil))))), hs.perm (.swap _ _ _)⟩
    · skip
      refine oV hf rfl (v_alloc hs T40 rfl) (by decide) (fun _ _ ⟨_, _, h⟩ => ⟨_, _, h.sub (.cons _ (.refl _))⟩) ?_; clear hs hf hS a; rintro _ w ⟨b4, rfl, hs⟩ hS a hf
      refine two (i := 2) (j := 6) (by kernel_rfl) ?_ ?_
      · skip
        refine oCall hf hs rfl (c_passes k _ _ _ _ _ _ _ _ _ i hi c _ (hs.rd (.tail _ (.tail _ (.tail _ (.tail _ (.head _))))))) rfl rfl rfl E159 (by decide) (fun _ h => ⟨_, _, h.sub (.cons _ (.refl _))⟩) ?_; clear hs hf hS a; intro w a hs hS hf
        rw [hspan0] at hf
        refine two (i := 5) (j := 6) (by kernel_rfl) ?_ ?_
        · skip
          refine oCallM hf hs (j := 4) rfl rfl (c_missing k _ fc _ rc _ wc _ _ _ i hi c hc _ (bkO_of fc rc wc hs 4 rfl hkm (.head _) (.tail _ (.head _)) (.tail _ (.tail _ (.head _))) (.tail _ (.tail _ (.tail _ (.head _)))) (.tail _ (.tail _ (.tail _ (.tail _ (.head _))))))) rfl rfl rfl E160 (by decide) (fun _ _ h => ⟨_, _, h.sub (.cons _ (.refl _))⟩) ?_; clear hs hf hS a; intro m w a hkm hs hS hf; dsimp only [List.set] at hs
          rw [hspan1] at hf
          refine one (i := 6) (by kernel_rfl) ?_
          refine oV hf rfl (v_alloc hs T40 rfl) (by decide) (fun _ _ ⟨_, _, h⟩ => ⟨_, _, h.sub (.cons _ (.cons _ (.refl _)))⟩) ?_; clear hs hf hS a; rintro _ w ⟨b5, rfl, hs⟩ hS a hf
          refine one (i := 8) (by kernel_rfl) ?_
          refine oU rfl (u_stW hf hs T40 rfl rfl rfl (k := 0) rfl rfl rfl) (fun _ h => ⟨_, _, h.sub (.cons _ (.cons _ (.refl _)))⟩) ?_; clear hs hS; intro w hs hS; dsimp only [List.set] at hs
          refine one (i := 9) (by kernel_rfl) ?_
          refine oU rfl (u_stW hf hs T40 rfl rfl rfl (k := 1) rfl rfl rfl) (fun _ h => ⟨_, _, h.sub (.cons _ (.cons _ (.refl _)))⟩) ?_; clear hs hS; intro w hs hS; dsimp only [List.set] at hs
          refine e_doneJ (by kernel_rfl) ?_
          first | exact ⟨_, _, _, hkm, hf.only (.cons rfl (.cons rfl (.cons rfl (.cons rfl (.cons rfl .nil))))), hs⟩ | exact ⟨_, _, _, hkm, hf.only (.cons rfl (.cons rfl (.cons rfl (.cons rfl (.cons rfl .nil))))), hs.perm (.swap _ _ _)⟩
        · skip
          refine oV hf rfl (v_alloc hs T40 rfl) (by decide) (fun _ _ ⟨_, _, h⟩ => ⟨_, _, h.sub (.cons _ (.cons _ (.refl _)))⟩) ?_; clear hs hf hS a; rintro _ w ⟨b5, rfl, hs⟩ hS a hf
          refine one (i := 5) (by kernel_rfl) ?_
          refine oCallM hf hs (j := 5) rfl rfl (c_missing k _ fc _ rc _ wc _ _ _ i hi c hc _ (bkO_of fc rc wc hs 5 rfl hkm (.head _) (.tail _ (.head _)) (.tail _ (.tail _ (.head _))) (.tail _ (.tail _ (.tail _ (.head _)))) (.tail _ (.tail _ (.tail _ (.tail _ (.head _))))))) rfl rfl rfl E160 (by decide) (fun _ _ h => ⟨_, _, h.sub (.cons _ (.cons _ (.refl _)))⟩) ?_; clear hs hf hS a; intro m w a hkm hs hS hf; dsimp only [List.set] at hs
          rw [hspan1] at hf
          refine one (i := 8) (by kernel_rfl) ?_
          refine oU rfl (u_stW hf hs T40 rfl rfl rfl (k := 0) rfl rfl rfl) (fun _ h => ⟨_, _, h.sub (.cons _ (.cons _ (.refl _)))⟩) ?_; clear hs hS; intro w hs hS; dsimp only [List.set] at hs
          refine one (i := 9) (by kernel_rfl) ?_
          refine oU rfl (u_stW hf hs T40 rfl rfl rfl (k := 1) rfl rfl rfl) (fun _ h => ⟨_, _, h.sub (.cons _ (.cons _ (.refl _)))⟩) ?_; clear hs hS; intro w hs hS; dsimp only [List.set] at hs
          refine e_doneJ (by kernel_rfl) ?_
          first | exact ⟨_, _, _, hkm, hf.only (.cons rfl (.cons rfl (.cons rfl (.cons rfl (.cons rfl .nil))))), hs⟩ | exact ⟨_, _, _, hkm, hf.only (.cons rfl (.cons rfl (.cons rfl (.cons rfl (.cons rfl .nil))))), hs.perm (.swap _ _ _)⟩
      · skip
        refine oV hf rfl (v_alloc hs T40 rfl) (by decide) (fun _ _ ⟨_, _, h⟩ => ⟨_, _, h.sub (.cons _ (.cons _ (.refl _)))⟩) ?_; clear hs hf hS a; rintro _ w ⟨b5, rfl, hs⟩ hS a hf
        refine one (i := 2) (by kernel_rfl) ?_
        refine oCall hf hs rfl (c_passes k _ _ _ _ _ _ _ _ _ i hi c _ (hs.rd (.tail _ (.tail _ (.tail _ (.tail _ (.head _))))))) rfl rfl rfl E159 (by decide) (fun _ h => ⟨_, _, h.sub (.cons _ (.cons _ (.refl _)))⟩) ?_; clear hs hf hS a; intro w a hs hS hf
        rw [hspan0] at hf
        refine one (i := 5) (by kernel_rfl) ?_
        refine oCallM hf hs (j := 5) rfl rfl (c_missing k _ fc _ rc _ wc _ _ _ i hi c hc _ (bkO_of fc rc wc hs 5 rfl hkm (.head _) (.tail _ (.head _)) (.tail _ (.tail _ (.head _))) (.tail _ (.tail _ (.tail _ (.head _)))) (.tail _ (.tail _ (.tail _ (.tail _ (.head _))))))) rfl rfl rfl E160 (by decide) (fun _ _ h => ⟨_, _, h.sub (.cons _ (.cons _ (.refl _)))⟩) ?_; clear hs hf hS a; intro m w a hkm hs hS hf; dsimp only [List.set] at hs
        rw [hspan1] at hf
        refine one (i := 8) (by kernel_rfl) ?_
        refine oU rfl (u_stW hf hs T40 rfl rfl rfl (k := 0) rfl rfl rfl) (fun _ h => ⟨_, _, h.sub (.cons _ (.cons _ (.refl _)))⟩) ?_; clear hs hS; intro w hs hS; dsimp only [List.set] at hs
        refine one (i := 9) (by kernel_rfl) ?_
        refine oU rfl (u_stW hf hs T40 rfl rfl rfl (k := 1) rfl rfl rfl) (fun _ h => ⟨_, _, h.sub (.cons _ (.cons _ (.refl _)))⟩) ?_; clear hs hS; intro w hs hS; dsimp only [List.set] at hs
        refine e_doneJ (by kernel_rfl) ?_
        first | exact ⟨_, _, _, hkm, hf.only (.cons rfl (.cons rfl (.cons rfl (.cons rfl (.cons rfl .nil))))), hs⟩ | exact ⟨_, _, _, hkm, hf.only (.cons rfl (.cons rfl (.cons rfl (.cons rfl (.cons rfl .nil))))), hs.perm (.swap _ _ _)⟩
  · clear hkm hs hf a; rintro a w ⟨b5, b6, m, hkm, hf, hs⟩
    refine c_draw _ 40 Mx rfl hs (fun _ h => h.sub (.cons_cons _ (.cons_cons _ (.cons _ (.refl _))))) ?_; intro w hs hS
    refine gA hf hS (i := 0) rfl (by kernel_rfl) (fun w hs => g_fa (off' := 0) hf F40_0 rfl rfl) (by decide) ?_; clear hf a; intro a hf
    refine gA hf hS (i := 1) rfl (by kernel_rfl) (fun w hs => g_ld hf hs T3 rfl (k := 0) rfl rfl) (by decide) ?_; clear hf a; intro a hf
    refine gA hf hS (i := 2) rfl (by kernel_rfl) (fun w hs => g_fa (off' := 0) hf F89_0 rfl rfl) (by decide) ?_; clear hf a; intro a hf
    refine gA hf hS (i := 3) rfl (by kernel_rfl) (fun w hs => g_fa (off' := 4) hf F28_1 rfl rfl) (by decide) ?_; clear hf a; intro a hf
    refine gA hf hS (i := 4) rfl (by kernel_rfl) (fun w hs => g_ld hf hs T3 rfl (k := 3) rfl rfl) (by decide) ?_; clear hf a; intro a hf
    refine gA hf hS (i := 5) rfl (by kernel_rfl) (fun w hs => g_quoI hf rfl rfl (by omega)) (by decide) ?_; clear hf a; intro a hf
    refine gA hf hS (i := 6) rfl (by kernel_rfl) (fun w hs => g_fa (off' := 0) hf F89_0 rfl rfl) (by decide) ?_; clear hf a; intro a hf
    refine gA hf hS (i := 7) rfl (by kernel_rfl) (fun w hs => g_fa (off' := 5) hf F28_2 rfl rfl) (by decide) ?_; clear hf a; intro a hf
    refine gA hf hS (i := 8) rfl (by kernel_rfl) (fun w hs => g_ld hf hs T3 rfl (k := 3) rfl rfl) (by decide) ?_; clear hf a; intro a hf
    refine gA hf hS (i := 9) rfl (by kernel_rfl) (fun w hs => g_mulI hf rfl rfl (by omega)) (by decide) ?_; clear hf a; intro a hf
    refine gA hf hS (i := 10) rfl (by kernel_rfl) (fun w hs => g_fa (off' := 0) hf F40_0 rfl rfl) (by decide) ?_; clear hf a; intro a hf
    refine gA hf hS (i := 11) rfl (by kernel_rfl) (fun w hs => g_ld hf hs T3 rfl (k := 1) rfl rfl) (by decide) ?_; clear hf a; intro a hf
    refine gA hf hS (i := 12) rfl (by kernel_rfl) (fun w hs => g_negI hf rfl (by omega)) (by decide) ?_; clear hf a; intro a hf
    refine gA hf hS (i := 13) rfl (by kernel_rfl) (fun w hs => g_fa (off' := 0) hf F89_0 rfl rfl) (by decide) ?_; clear hf a; intro a hf
    refine gA hf hS (i := 14) rfl (by kernel_rfl) (fun w hs => g_fa (off' := 6) hf F28_3 rfl rfl) (by decide) ?_; clear hf a; intro a hf
    refine gA hf hS (i := 15) rfl (by kernel_rfl) (fun w hs => g_ld hf hs T3 rfl (k := 3) rfl rfl) (by decide) ?_; clear hf a; intro a hf
    refine gA hf hS (i := 16) rfl (by kernel_rfl) (fun w hs => g_mulI hf rfl rfl (by omega)) (by decide) ?_; clear hf a; intro a hf
    refine gA hf hS (i := 19) rfl (by kernel_rfl) (fun w hs => g_fa (off' := 1) hf F40_1 rfl rfl) (by decide) ?_; clear hf a; intro a hf
    refine gA hf hS (i := 20) rfl (by kernel_rfl) (fun w hs => g_ld hf hs T3 rfl (k := 0) rfl rfl) (by decide) ?_; clear hf a; intro a hf
    refine gA hf hS (i := 21) rfl (by kernel_rfl) (fun w hs => g_fa (off' := 0) hf F89_0 rfl rfl) (by decide) ?_; clear hf a; intro a hf
    refine gA hf hS (i := 22) rfl (by kernel_rfl) (fun w hs => g_fa (off' := 4) hf F28_1 rfl rfl) (by decide) ?_; clear hf a; intro a hf
    refine gA hf hS (i := 23) rfl (by kernel_rfl) (fun w hs => g_ld hf hs T3 rfl (k := 3) rfl rfl) (by decide) ?_; clear hf a; intro a hf
    refine gA hf hS (i := 24) rfl (by kernel_rfl) (fun w hs => g_quoI hf rfl rfl (by omega)) (by decide) ?_; clear hf a; intro a hf
    refine gA hf hS (i := 25) rfl (by kernel_rfl) (fun w hs => g_fa (off' := 0) hf F89_0 rfl rfl) (by decide) ?_; clear hf a; intro a hf
    refine gA hf hS (i := 26) rfl (by kernel_rfl) (fun w hs => g_fa (off' := 5) hf F28_2 rfl rfl) (by decide) ?_; clear hf a; intro a hf
    refine gA hf hS (i := 27) rfl (by kernel_rfl) (fun w hs => g_ld hf hs T3 rfl (k := 3) rfl rfl) (by decide) ?_; clear hf a; intro a hf
    refine gA hf hS (i := 28) rfl (by kernel_rfl) (fun w hs => g_mulI hf rfl rfl (by omega)) (by decide) ?_; clear hf a; intro a hf
    refine gA hf hS (i := 29) rfl (by kernel_rfl) (fun w hs => g_fa (off' := 0) hf F40_0 rfl rfl) (by decide) ?_; clear hf a; intro a hf
    refine gA hf hS (i := 30) rfl (by kernel_rfl) (fun w hs => g_ld hf hs T3 rfl (k := 1) rfl rfl) (by decide) ?_; clear hf a; intro a hf
    refine gA hf hS (i := 31) rfl (by kernel_rfl) (fun w hs => g_negI hf rfl (by omega)) (by decide) ?_; clear hf a; intro a hf
    refine gA hf hS (i := 32) rfl (by kernel_rfl) (fun w hs => g_fa (off' := 0) hf F89_0 rfl rfl) (by decide) ?_; clear hf a; intro a hf
    refine gA hf hS (i := 33) rfl (by kernel_rfl) (fun w hs => g_fa (off' := 6) hf F28_3 rfl rfl) (by decide) ?_; clear hf a; intro a hf
    refine gA hf hS (i := 34) rfl (by kernel_rfl) (fun w hs => g_ld hf hs T3 rfl (k := 3) rfl rfl) (by decide) ?_; clear hf a; intro a hf
    refine gA hf hS (i := 35) rfl (by kernel_rfl) (fun w hs => g_mulI hf rfl rfl (by omega)) (by decide) ?_; clear hf a; intro a hf
    refine two (i := 17) (j := 36) (by kernel_rfl) ?_ ?_
    · skip
      refine oV hf rfl (v_lits (len := 2) hf hs SL31 T3 (.cons rfl (.cons rfl .nil)) rfl rfl rfl rfl (by decide) rfl) (by decide) (fun _ _ ⟨_, _, h⟩ => h.sub (.cons _ (.cons_cons _ (.cons_cons _ (.cons _ (.refl _)))))) ?_; clear hs hf hS a; rintro _ w ⟨b7, rfl, hs⟩ hS a hf
      refine two (i := 18) (j := 36) (by kernel_rfl) ?_ ?_
      · skip
        refine oCall hf hs rfl (c_sum _ _ [_, _] ⟨Nat.le_of_ble_eq_true rfl, fun x hx => by simp only [List.mem_cons, List.not_mem_nil, or_false] at hx; rcases hx with rfl | rfl <;> omega⟩ _ (rd_two (hs.own _ _ (.head _)).2)) rfl rfl rfl E112 (by decide) (fun _ h => h.sub (.cons _ (.cons_cons _ (.cons_cons _ (.cons _ (.refl _)))))) ?_; clear hs hf hS a; intro w a hs hS hf
        rw [sum2] at hf
        refine one (i := 36) (by kernel_rfl) ?_
        refine oV hf rfl (v_lits (len := 2) hf hs SL31 T3 (.cons rfl (.cons rfl .nil)) rfl rfl rfl rfl (by decide) rfl) (by decide) (fun _ _ ⟨_, _, h⟩ => h.sub (.cons _ (.cons _ (.cons_cons _ (.cons_cons _ (.cons _ (.refl _))))))) ?_; clear hs hf hS a; rintro _ w ⟨b8, rfl, hs⟩ hS a hf
        refine one (i := 37) (by kernel_rfl) ?_
        refine oCall hf hs rfl (c_sum _ _ [_, _] ⟨Nat.le_of_ble_eq_true rfl, fun x hx => by simp only [List.mem_cons, List.not_mem_nil, or_false] at hx; rcases hx with rfl | rfl <;> omega⟩ _ (rd_two (hs.own _ _ (.head _)).2)) rfl rfl rfl E112 (by decide) (fun _ h => h.sub (.cons _ (.cons _ (.cons_cons _ (.cons_cons _ (.cons _ (.refl _))))))) ?_; clear hs hf hS a; intro w a hs hS hf
        rw [sum2] at hf
        refine gA hf hS (i := 38) rfl (by kernel_rfl) (fun w hs => g_bld hf [[.int .i64 0], [.int .i64 0]] (.cons rfl (.cons rfl .nil)) (fun _ => by kernel_rfl)) (by decide) ?_; clear hf a; intro a hf
        refine one (i := 39) (by kernel_rfl) ?_
        refine oU rfl (u_stW hf hs T40 rfl rfl rfl (k := 4) rfl rfl rfl) (fun _ h => h.sub (.cons _ (.cons _ (.cons_cons _ (.cons_cons _ (.cons _ (.refl _))))))) ?_; clear hs hS; intro w hs hS; dsimp only [List.set] at hs
        refine e_done (by kernel_rfl) ?_
        refine c_ret ?_
        refine e_res hf hs rfl (.cellA T40 rfl (k := 4) rfl rfl .nil) rfl ?_
        exact ⟨_, rfl, by rw [hspan2]; rfl, hs.below.1, hs.below.2.1, hs.below.2.2.1, hs.below.2.2.2, _, hkm, (hs.own _ _ (.tail _ (.tail _ (.tail _ (.tail _ (.tail _ (.tail _ (.tail _ (.head _))))))))).2⟩
      · skip
        refine oV hf rfl (v_lits (len := 2) hf hs SL31 T3 (.cons rfl (.cons rfl .nil)) rfl rfl rfl rfl (by decide) rfl) (by decide) (fun _ _ ⟨_, _, h⟩ => h.sub (.cons _ (.cons _ (.cons_cons _ (.cons_cons _ (.cons _ (.refl _))))))) ?_; clear hs hf hS a; rintro _ w ⟨b8, rfl, hs⟩ hS a hf
        refine one (i := 18) (by kernel_rfl) ?_
        refine oCall hf hs rfl (c_sum _ _ [_, _] ⟨Nat.le_of_ble_eq_true rfl, fun x hx => by simp only [List.mem_cons, List.not_mem_nil, or_false] at hx; rcases hx with rfl | rfl <;> omega⟩ _ (rd_two (hs.own _ _ (.tail _ (.head _))).2)) rfl rfl rfl E112 (by decide) (fun _ h => h.sub (.cons _ (.cons _ (.cons_cons _ (.cons_cons _ (.cons _ (.refl _))))))) ?_; clear hs hf hS a; intro w a hs hS hf
        rw [sum2] at hf
        refine one (i := 37) (by kernel_rfl) ?_
        refine oCall hf hs rfl (c_sum _ _ [_, _] ⟨Nat.le_of_ble_eq_true rfl, fun x hx => by simp only [List.mem_cons, List.not_mem_nil, or_false] at hx; rcases hx with rfl | rfl <;> omega⟩ _ (rd_two (hs.own _ _ (.head _)).2)) rfl rfl rfl E112 (by decide) (fun _ h => h.sub (.cons _ (.cons _ (.cons_cons _ (.cons_cons _ (.cons _ (.refl _))))))) ?_; clear hs hf hS a; intro w a hs hS hf
        rw [sum2] at hf
        refine gA hf hS (i := 38) rfl (by kernel_rfl) (fun w hs => g_bld hf [[.int .i64 0], [.int .i64 0]] (.cons rfl (.cons rfl .nil)) (fun _ => by kernel_rfl)) (by decide) ?_; clear hf a; intro a hf
        refine one (i := 39) (by kernel_rfl) ?_
        refine oU rfl (u_stW hf hs T40 rfl rfl rfl (k := 4) rfl rfl rfl) (fun _ h => h.sub (.cons _ (.cons _ (.cons_cons _ (.cons_cons _ (.cons _ (.refl _))))))) ?_; clear hs hS; intro w hs hS; dsimp only [List.set] at hs
        refine e_done (by kernel_rfl) ?_
        refine c_ret ?_
        refine e_res hf hs rfl (.cellA T40 rfl (k := 4) rfl rfl .nil) rfl ?_
        exact ⟨_, rfl, by rw [hspan2]; rfl, hs.below.1, hs.below.2.1, hs.below.2.2.1, hs.below.2.2.2, _, hkm, (hs.own _ _ (.tail _ (.tail _ (.tail _ (.tail _ (.tail _ (.tail _ (.tail _ (.head _))))))))).2⟩
    · skip
      refine oV hf rfl (v_lits (len := 2) hf hs SL31 T3 (.cons rfl (.cons rfl .nil)) rfl rfl rfl rfl (by decide) rfl) (by decide) (fun _ _ ⟨_, _, h⟩ => h.sub (.cons _ (.cons_cons _ (.cons_cons _ (.cons _ (.refl _)))))) ?_; clear hs hf hS a; rintro _ w ⟨b7, rfl, hs⟩ hS a hf
      refine one (i := 17) (by kernel_rfl) ?_
      refine oV hf rfl (v_lits (len := 2) hf hs SL31 T3 (.cons rfl (.cons rfl .nil)) rfl rfl rfl rfl (by decide) rfl) (by decide) (fun _ _ ⟨_, _, h⟩ => h.sub (.cons _ (.cons _ (.cons_cons _ (.cons_cons _ (.cons _ (.refl _))))))) ?_; clear hs hf hS a; rintro _ w ⟨b8, rfl, hs⟩ hS a hf
      refine one (i := 18) (by kernel_rfl) ?_
      refine oCall hf hs rfl (c_sum _ _ [_, _] ⟨Nat.le_of_ble_eq_true rfl, fun x hx => by simp only [List.mem_cons, List.not_mem_nil, or_false] at hx; rcases hx with rfl | rfl <;> omega⟩ _ (rd_two (hs.own _ _ (.head _)).2)) rfl rfl rfl E112 (by decide) (fun _ h => h.sub (.cons _ (.cons _ (.cons_cons _ (.cons_cons _ (.cons _ (.refl _))))))) ?_; clear hs hf hS a; intro w a hs hS hf
      rw [sum2] at hf
      refine one (i := 37) (by kernel_rfl) ?_
      refine oCall hf hs rfl (c_sum _ _ [_, _] ⟨Nat.le_of_ble_eq_true rfl, fun x hx => by simp only [List.mem_cons, List.not_mem_nil, or_false] at hx; rcases hx with rfl | rfl <;> omega⟩ _ (rd_two (hs.own _ _ (.tail _ (.head _))).2)) rfl rfl rfl E112 (by decide) (fun _ h => h.sub (.cons _ (.cons _ (.cons_cons _ (.cons_cons _ (.cons _ (.refl _))))))) ?_; clear hs hf hS a; intro w a hs hS hf
      rw [sum2] at hf
      refine gA hf hS (i := 38) rfl (by kernel_rfl) (fun w hs => g_bld hf [[.int .i64 0], [.int .i64 0]] (.cons rfl (.cons rfl .nil)) (fun _ => by kernel_rfl)) (by decide) ?_; clear hf a; intro a hf
      refine one (i := 39) (by kernel_rfl) ?_
      refine oU rfl (u_stW hf hs T40 rfl rfl rfl (k := 4) rfl rfl rfl) (fun _ h => h.sub (.cons _ (.cons _ (.cons_cons _ (.cons_cons _ (.cons _ (.refl _))))))) ?_; clear hs hS; intro w hs hS; dsimp only [List.set] at hs
      refine e_done (by kernel_rfl) ?_
      refine c_ret ?_
      refine e_res hf hs rfl (.cellA T40 rfl (k := 4) rfl rfl .nil) rfl ?_
      exact ⟨_, rfl, by rw [hspan2]; rfl, hs.below.1, hs.below.2.1, hs.below.2.2.1, hs.below.2.2.2, _, hkm, (hs.own _ _ (.tail _ (.tail _ (.tail _ (.tail _ (.tail _ (.tail _ (.tail _ (.head _))))))))).2⟩

end Go.Proofs.YtjjcopeedcdokaaDoor

set_option linter.unusedVariables false
set_option linter.unusedSimpArgs false
namespace Go.Proofs.YtjjcopeedcdokaaDoor
open Go.RowKit
theorem told_e0 : Enters Tryd.prog 159 := fun _ _ => by kernel_rfl
theorem told_e1 : Enters Tryd.prog 160 := fun _ _ => by kernel_rfl
theorem told_e2 : Enters Tryd.prog 161 := fun _ _ => by kernel_rfl
theorem told_enters {what : Nat} (h : what < 3) : Enters Tryd.prog (toldF what) := by
  rcases (show what = 0 ∨ what = 1 ∨ what = 2 by omega) with rfl | rfl | rfl
  · exact told_e0
  · exact told_e1
  · exact told_e2
theorem c_told (k : Bk) (fA : Option Addr) (fc : Nat) (rA : Option Addr) (rc : Nat) (wA : Option Addr) (wc : Nat) (dA : Option Addr) (dc mb : Nat) (what : Nat) (hw : what < 3) (i : Nat) (hi : i < k.ws.length) (c : Int × Int) (hc : TrIn (k.ws.getD i default) c.1 c.2) (hv : BkV k) (w : World) (h : BkO k fA fc rA rc wA wc dA mb w) :
    Calls Tryd.prog (toldF what) #[.agg #[.int .i64 k.sh.wide, .int .i64 k.sh.high, .slice fA k.sh.flaps.length fc, .slice rA k.sh.rules.length rc, .int .i64 k.gross, .int .i64 k.pay, .int .i64 k.fine, .slice wA k.ws.length wc, .slice dA k.ws.length dc, .map (some mb)], .agg #[.int .i64 ((i : Nat) : Int), .int .i64 c.1, .int .i64 c.2]] w
      (MRet k mb w (.agg #[.int .i64 (hspan k (k.ws.getD i default) what c).1, .int .i64 (hspan k (k.ws.getD i default) what c).2])) := by
  rcases (show what = 0 ∨ what = 1 ∨ what = 2 by omega) with rfl | rfl | rfl
  · exact mret_of (c_passes k fA fc rA rc wA wc dA dc mb i hi c w h.D.now) h.map
  · exact c_missing k fA fc rA rc wA wc dA dc mb i hi c hc w h
  · exact c_gets k fA fc rA rc wA wc dA dc mb i hi c hc hv w h
theorem St.freshG {w w' : World} {w0 : Base} {Ds Ds' : List (World → Prop)} {H : Own} (hs : St w0 Ds H w) (hs' : St w0 Ds' H w') {D : World → Prop} (h : Fresh w w' D) : St w0 (D :: Ds') H w' :=
  hs'.addD fun w'' hl => h w'' hl.1 fun i h1 h2 => hl.2 i h2 fun hm => by
    rcases List.mem_append.1 hm with hm | hm
    · have := w0.exno _ hs.below i hm; omega
    · exact absurd (hs.lt' hm) (by omega)
theorem stab1 {X : List Nat} {w : World} {A : World → Prop} (h1 : Stable X w A) : ∀ D ∈ [A], Stable X w D := fun D hD => by
  rw [List.mem_singleton.1 hD]; exact h1
theorem pre_in {b : Sheet} {x : Wkr} (h : WkrV b x) {pre : List (Int × Int)} {c : Int × Int} (hp : pre ++ [c] <+: trues x) : TrIn x c.1 c.2 :=
  trues_in h (hp.subset (by simp))
theorem right_nil {x : Wkr} (h : trues x = []) : rightB x = false := by unfold rightB; rw [h]; rfl
theorem right_ne {x : Wkr} {pre : List (Int × Int)} (h : pre ≠ []) (hp : pre <+: trues x) : rightB x = true := by
  unfold rightB
  cases ht : trues x with
  | nil => rw [ht] at hp; exact absurd (List.prefix_nil.1 hp) h
  | cons a l => rfl
end Go.Proofs.YtjjcopeedcdokaaDoor

set_option linter.unusedVariables false
set_option linter.unusedSimpArgs false
namespace Go.Proofs.YtjjcopeedcdokaaDoor
open Go.RowKit
theorem c_rightH (k : Bk) (fA : Option Addr) (fc : Nat) (rA : Option Addr) (rc : Nat) (wA : Option Addr) (wc : Nat) (dA : Option Addr) (dc mb : Nat) (i : Nat) (hi : i < k.ws.length) (hx : WkrV k.sh (k.ws.getD i default)) (w0 : World) (h : Rd encW 6 wA k.ws.length k.ws w0) :
    Calls Tryd.prog 81 #[.agg #[.int .i64 k.sh.wide, .int .i64 k.sh.high, .slice fA k.sh.flaps.length fc, .slice rA k.sh.rules.length rc, .int .i64 k.gross, .int .i64 k.pay, .int .i64 k.fine, .slice wA k.ws.length wc, .slice dA k.ws.length dc, .map (some mb)], .int .i64 ((i : Nat) : Int)] w0 (Ret w0 (.bool (rightB (k.ws.getD i default)))) := by
  refine c_enterM (n := 9) Tryd.func81 rfl rfl (Nat.le_of_ble_eq_true rfl) ?_; intro a hf; simp only [zipR] at hf
  have hs := St.start w0 [Rd encW 6 wA k.ws.length k.ws] h.st1
  refine c_reg ?_
  refine vL hf (v_boxA hf hs rfl) (by decide) ?_; clear hs hf a; rintro _ w ⟨b1, rfl, hs⟩ a hf
  refine vL hf (v_alloc hs T4 rfl) (by decide) ?_; clear hs hf a; rintro _ w ⟨b2, rfl, hs⟩ a hf
  refine e_nil ?_
  refine wp_seq ?_
  refine c_reg ?_
  refine gL hf (g_ldW hf hs T89 rfl (k := 1) rfl rfl) (by decide) ?_; clear hf a; intro a hf
  refine gL hf (g_mv hf rfl) (by decide) ?_; clear hf a; intro a hf
  refine callX hf hs (c_truths k fA fc rA rc wA wc dA dc mb i _) rfl rfl rfl E110 (by decide) ?_; intro v w1 a hR hb hs1 hf; obtain ⟨bb, bw, rfl, hfB, hfW⟩ := hR; replace hs := hs.freshG (hs.freshG hs1 hfW) hfB; clear hs1 hb
  refine e_nil ?_
  refine c_block ?_
  refine c_rangeVS (τ := Unit) (σ := Unit) hf hs rfl E128 (by decide) (seq_truths k fA fc rA rc wA wc dA dc mb i hi hx bb bw (hs.data _ (.head _)) (hs.data _ (.tail _ (.head _))) (hs.data _ (.tail _ (.tail _ (.head _))))) rfl (fun u pre => pre = []) (fun u pre => [(b2, .cells #[.bool false] 4 (0, 0)), (b1, .cells #[.int .i64 k.sh.wide, .int .i64 k.sh.high, .slice fA k.sh.flaps.length fc, .slice rA k.sh.rules.length rc, .int .i64 k.gross, .int .i64 k.pay, .int .i64 k.fine, .slice wA k.ws.length wc, .slice dA k.ws.length dc, .map (some mb)] 89 (0, 0))]) (fun t pre => True) (fun t pre => []) (fun t pre => [(b2, .cells #[.bool true] 4 (0, 0)), (b1, .cells #[.int .i64 k.sh.wide, .int .i64 k.sh.high, .slice fA k.sh.flaps.length fc, .slice rA k.sh.rules.length rc, .int .i64 k.gross, .int .i64 k.pay, .int .i64 k.fine, .slice wA k.ws.length wc, .slice dA k.ws.length dc, .map (some mb)] 89 (0, 0))]) () rfl rfl (fun _ _ => rfl) (fun _ _ => rfl) ?body ?done ?stop
  case body =>
    clear hf hs; intro l u pre x W a E hE hpre hIp hf hs
    refine r_block ?_
    refine r_reg rfl ?_
    refine uL (u_st hf hs T4 rfl rfl rfl (k := 0) rfl (Nat.le_of_ble_eq_true rfl)) ?_; clear hs; intro w hs; dsimp only [List.set] at hs
    refine e_nilJ ?_
    refine r_ret (q_blkR ?_)
    exact ⟨(), (hs.dropN 0).subD (fun _ h => by cases h), trivial⟩
  case done =>
    clear hf hs; intro D u a w hf hIp hs; dsimp only [List.cons_append, List.nil_append] at hs
    have hrt := right_nil hIp
    refine q_blkN (q_thenN ?_)
    refine c_reg ?_
    refine uL (u_st hf hs T4 rfl rfl rfl (k := 0) rfl (Nat.le_of_ble_eq_true rfl)) ?_; clear hs; intro w hs; dsimp only [List.set] at hs
    refine e_nil ?_
    refine c_ret ?_
    refine outMR 2 hf hs rfl rfl (.cell1 T4 rfl (k := 0) rfl rfl .nil) rfl ?_; clear hs; intro w hs
    exact ⟨by rw [hrt]; rfl, hs.below⟩
  case stop =>
    clear hf hs; intro D t pre a w hne hpre hIx hf hs; dsimp only [List.cons_append, List.nil_append] at hs
    have hrt := right_ne hne hpre
    refine q_blkR (q_thenR ?_)
    refine outMR 2 hf hs rfl rfl (.cell1 T4 rfl (k := 0) rfl rfl .nil) rfl ?_; clear hs; intro w hs
    exact ⟨by rw [hrt]; rfl, hs.below⟩

theorem c_of (k : Bk) (fA : Option Addr) (fc : Nat) (rA : Option Addr) (rc : Nat) (wA : Option Addr) (wc : Nat) (dA : Option Addr) (dc mb : Nat) (i : Nat) (hi : i < k.ws.length) (what : Nat) (hwh : what < 3) (hv : BkV k) (te : TypeId) (tz : Nat × Nat) (w0 : World) (h : BkO k fA fc rA rc wA wc dA mb w0) (hT : Stable [mb] w0 (BlkIs 0 toldA te tz)) :
    Calls Tryd.prog 74 #[.agg #[.int .i64 k.sh.wide, .int .i64 k.sh.high, .slice fA k.sh.flaps.length fc, .slice rA k.sh.rules.length rc, .int .i64 k.gross, .int .i64 k.pay, .int .i64 k.fine, .slice wA k.ws.length wc, .slice dA k.ws.length dc, .map (some mb)], .int .i64 ((i : Nat) : Int), .int .i64 ((what : Nat) : Int)] w0 (MRet k mb w0 (.tuple #[.agg #[.int .i64 (ofZ k what (k.ws.getD i default)).1, .int .i64 (ofZ k what (k.ws.getD i default)).2], .bool (rightB (k.ws.getD i default))])) := by
  obtain ⟨m, hkm, hmb⟩ := h.map
  refine c_enterM (n := 37) Tryd.func74 rfl rfl (Nat.le_of_ble_eq_true rfl) ?_; intro a hf; simp only [zipR] at hf
  have hs := h.at_ hmb [BlkIs 0 toldA te tz] (stab1 hT)
  dsimp only [List.nil_append, List.cons_append] at hs
  have hwm := h.W.now.2.1
  have hx := hv.wk hi
  refine c_reg ?_
  refine vL hf (v_boxA hf hs rfl) (by decide) ?_; clear hs hf a; rintro _ w ⟨b1, rfl, hs⟩ a hf
  refine vL hf (v_box hf hs rfl rfl) (by decide) ?_; clear hs hf a; rintro _ w ⟨b2, rfl, hs⟩ a hf
  refine vL hf (v_alloc hs T40 rfl) (by decide) ?_; clear hs hf a; rintro _ w ⟨b3, rfl, hs⟩ a hf
  refine gL hf (g_as hf rfl) (by decide) ?_; clear hf a; intro a hf
  refine e_nil ?_
  refine c_reg ?_
  refine vL hf (v_alloc hs T40 rfl) (by decide) ?_; clear hs hf a; rintro _ w ⟨b4, rfl, hs⟩ a hf
  refine e_nil ?_
  refine c_reg ?_
  refine vL hf (v_alloc hs T4 rfl) (by decide) ?_; clear hs hf a; rintro _ w ⟨b5, rfl, hs⟩ a hf
  refine uL (u_st hf hs T4 rfl rfl rfl (k := 0) rfl (Nat.le_of_ble_eq_true rfl)) ?_; clear hs; intro w hs; dsimp only [List.set] at hs
  refine e_nil ?_
  refine wp_seq ?_
  refine c_reg ?_
  refine gL hf (g_ldW hf hs T89 rfl (k := 4) rfl rfl) (by decide) ?_; clear hf a; intro a hf
  refine gL hf (g_mv hf rfl) (by decide) ?_; clear hf a; intro a hf
  refine callX hf hs (c_truths k fA fc rA rc wA wc dA dc mb i _) rfl rfl rfl E110 (by decide) ?_; intro v w1 a hR hb hs1 hf; obtain ⟨bb, bw, rfl, hfB, hfW⟩ := hR; replace hs := hs.freshG (hs.freshG hs1 hfW) hfB; clear hs1 hb
  refine e_nil ?_
  refine c_block ?_
  refine c_rangeVWA (τ := Unit) (σ := KM) (V := cameV i) T134 (fun _ => rfl) rfl (fun _ => rfl) (by decide) (by decide) hf hs rfl E128 (by decide) (seq_truths k fA fc rA rc wA wc dA dc mb i hi hx bb bw (hs.data _ (.head _)) (hs.data _ (.tail _ (.head _))) (hs.data _ (.tail _ (.tail _ (.tail _ (.tail _ (.tail _ (.head _)))))))) rfl (fun m pre => kOK k m) (fun m pre => [(b5, .cells #[.bool (fo k (k.ws.getD i default) what pre).isSome] 4 (0, 0)), (b4, .cells #[.int .i64 (outZ k (k.ws.getD i default) what pre).1, .int .i64 (outZ k (k.ws.getD i default) what pre).2] 40 (0, 0)), (b3, .cells #[.int .i64 0, .int .i64 0] 40 (0, 0)), (b2, .cells #[.int .i64 ((what : Nat) : Int)] 3 (0, 0)), (b1, .cells #[.int .i64 k.sh.wide, .int .i64 k.sh.high, .slice fA k.sh.flaps.length fc, .slice rA k.sh.rules.length rc, .int .i64 k.gross, .int .i64 k.pay, .int .i64 k.fine, .slice wA k.ws.length wc, .slice dA k.ws.length dc, .map (some mb)] 89 (0, 0)), (mb, mapK m)]) (fun t pre => False) (fun t pre => []) (fun t pre => [(b5, .cells #[.bool (fo k (k.ws.getD i default) what []).isSome] 4 (0, 0)), (b4, .cells #[.int .i64 (outZ k (k.ws.getD i default) what []).1, .int .i64 (outZ k (k.ws.getD i default) what []).2] 40 (0, 0)), (b3, .cells #[.int .i64 0, .int .i64 0] 40 (0, 0)), (b2, .cells #[.int .i64 ((what : Nat) : Int)] 3 (0, 0)), (b1, .cells #[.int .i64 k.sh.wide, .int .i64 k.sh.high, .slice fA k.sh.flaps.length fc, .slice rA k.sh.rules.length rc, .int .i64 k.gross, .int .i64 k.pay, .int .i64 k.fine, .slice wA k.ws.length wc, .slice dA k.ws.length dc, .map (some mb)] 89 (0, 0)), (mb, mapK m)]) m hkm rfl (fun _ _ => rfl) (fun _ _ => rfl) ?body ?done ?stop
  case body =>
    clear hf hs; intro l m pre x W w bx a E hE hpre hIp hf hs
    have hkm := hIp; obtain ⟨m0, hm0⟩ : ∃ m0, m0 = m := ⟨_, rfl⟩
    refine r_block ?_
    refine r_draw (fun w => ∃ B m9, St B [BlkIs bb #[.int .i64 k.sh.wide, .int .i64 k.sh.high, .slice fA k.sh.flaps.length fc, .slice rA k.sh.rules.length rc, .int .i64 k.gross, .int .i64 k.pay, .int .i64 k.fine, .slice wA k.ws.length wc, .slice dA k.ws.length dc, .map (some mb)] 89 (0, 0), BlkIs bw #[.int .i64 ((i : Nat) : Int)] 3 (0, 0), BlkIs 0 toldA te tz, Rd encF 5 fA k.sh.flaps.length k.sh.flaps, Rd encR 2 rA k.sh.rules.length k.sh.rules, Rd encW 6 wA k.ws.length k.ws, OrdD k.ws, Rd encI 1 dA k.ws.length (doesL k)] [(bx, .cells #[.int .i64 ((i : Nat) : Int), .int .i64 x.1, .int .i64 x.2] 134 (0, 0)), (b2, .cells #[.int .i64 ((what : Nat) : Int)] 3 (0, 0)), (b1, .cells #[.int .i64 k.sh.wide, .int .i64 k.sh.high, .slice fA k.sh.flaps.length fc, .slice rA k.sh.rules.length rc, .int .i64 k.gross, .int .i64 k.pay, .int .i64 k.fine, .slice wA k.ws.length wc, .slice dA k.ws.length dc, .map (some mb)] 89 (0, 0)), (mb, mapK m9)] w) 8 rfl Mx rfl hs (fun _ h => ⟨_, _, h.sub (.cons_cons _ (.cons _ (.cons _ (.cons _ (.refl _)))))⟩) ?_; intro w hs hS
    refine gA hf hS (i := 0) rfl (by kernel_rfl) (fun w ⟨_, _, hs⟩ => g_ld hf hs T3 rfl (k := 1) rfl rfl) (by decide) ?_; clear hf a; intro a hf
    refine gA hf hS (i := 1) rfl (by kernel_rfl) (fun w ⟨_, _, hs⟩ => g_ixA hf AR136 rfl rfl (by omega)) (by decide) ?_; clear hf a; intro a hf
    refine gA hf hS (i := 2) rfl (by kernel_rfl) (fun w ⟨_, _, hs⟩ => g_ldB hf hs (.tail _ (.tail _ (.head _))) T135 rfl (by simpa using told_get hwh)) (by decide) ?_; clear hf a; intro a hf
    refine gA hf hS (i := 3) rfl (by kernel_rfl) (fun w ⟨_, _, hs⟩ => g_ldW hf hs T89 rfl (k := 2) rfl rfl) (by decide) ?_; clear hf a; intro a hf
    refine gA hf hS (i := 4) rfl (by kernel_rfl) (fun w ⟨_, _, hs⟩ => g_ldW hf hs T134 rfl (k := 0) rfl rfl) (by decide) ?_; clear hf a; intro a hf
    refine two (i := 5) (j := 6) (by kernel_rfl) ?_ ?_
    · skip
      refine oCallM hf hs (j := 6) rfl rfl (c_told k _ fc _ rc _ wc _ _ _ what hwh i hi x (pre_in hx hpre) hv _ (bkO_of fc rc wc hs 6 rfl hkm (.tail _ (.tail _ (.tail _ (.head _)))) (.tail _ (.tail _ (.tail _ (.tail _ (.head _))))) (.tail _ (.tail _ (.tail _ (.tail _ (.tail _ (.head _)))))) (.tail _ (.tail _ (.tail _ (.tail _ (.tail _ (.tail _ (.head _))))))) (.tail _ (.tail _ (.tail _ (.tail _ (.tail _ (.tail _ (.tail _ (.head _)))))))))) rfl rfl rfl (told_enters hwh) (by decide) (fun _ _ h => ⟨_, _, h.sub (.cons_cons _ (.cons _ (.cons _ (.cons _ (.refl _)))))⟩) ?_; clear hs hf hS a; intro m w a hkm hs hS hf; dsimp only [List.set] at hs
      refine one (i := 6) (by kernel_rfl) ?_
      refine oV hf rfl (v_alloc hs T40 rfl) (by decide) (fun _ _ ⟨_, _, h⟩ => ⟨_, _, h.sub (.cons _ (.cons_cons _ (.cons _ (.cons _ (.cons _ (.refl _))))))⟩) ?_; clear hs hf hS a; rintro _ w ⟨b6, rfl, hs⟩ hS a hf
      refine one (i := 7) (by kernel_rfl) ?_
      refine oU rfl (u_stW hf hs T40 rfl rfl rfl (k := 0) rfl rfl rfl) (fun _ h => ⟨_, _, h.sub (.cons _ (.cons_cons _ (.cons _ (.cons _ (.cons _ (.refl _))))))⟩) ?_; clear hs hS; intro w hs hS; dsimp only [List.set] at hs
      refine e_doneJ (by kernel_rfl) ?_
      refine r_seq ?_
      refine r_reg rfl ?_
      refine gL hf (g_ld hf hs T4 rfl (k := 2) rfl rfl) (by decide) ?_; clear hf a; intro a hf
      refine e_nilJ ?_
      refine r_cond hf rfl (fun hc1 => ?_) (fun hc1 => ?_)
      · skip
        have hO9 := outZ_snoc_yes x hc1
        refine r_reg1 rfl ?_
        refine gL hf (g_fa (off' := 0) hf F40_0 rfl rfl) (by decide) ?_; clear hf a; intro a hf
        refine gL hf (g_ld hf hs T3 rfl (k := 3) rfl rfl) (by decide) ?_; clear hf a; intro a hf
        refine gL hf (g_fa (off' := 0) hf F40_0 rfl rfl) (by decide) ?_; clear hf a; intro a hf
        refine gL hf (g_ld hf hs T3 rfl (k := 0) rfl rfl) (by decide) ?_; clear hf a; intro a hf
        refine gL hf (g_min hf rfl rfl) (by decide) ?_; clear hf a; intro a hf
        refine gL hf (g_fa (off' := 1) hf F40_1 rfl rfl) (by decide) ?_; clear hf a; intro a hf
        refine gL hf (g_ld hf hs T3 rfl (k := 3) rfl rfl) (by decide) ?_; clear hf a; intro a hf
        refine gL hf (g_fa (off' := 1) hf F40_1 rfl rfl) (by decide) ?_; clear hf a; intro a hf
        refine gL hf (g_ld hf hs T3 rfl (k := 0) rfl rfl) (by decide) ?_; clear hf a; intro a hf
        refine gL hf (g_max hf rfl rfl) (by decide) ?_; clear hf a; intro a hf
        refine gL hf (g_bld hf [[.int .i64 0], [.int .i64 0]] (.cons rfl (.cons rfl .nil)) (fun _ => by kernel_rfl)) (by decide) ?_; clear hf a; intro a hf
        refine uL (u_stW hf hs T40 rfl rfl rfl (k := 0) rfl rfl rfl) ?_; clear hs; intro w hs; dsimp only [List.set] at hs
        refine e_nilJ (q_thenN ?_)
        refine r_reg1 rfl ?_
        refine gL hf (g_ldW hf hs T40 rfl (k := 0) rfl rfl) (by decide) ?_; clear hf a; intro a hf
        refine uL (u_stW hf hs T40 rfl rfl rfl (k := 3) rfl rfl rfl) ?_; clear hs; intro w hs; dsimp only [List.set] at hs
        refine uL (u_st hf hs T4 rfl rfl rfl (k := 2) rfl (Nat.le_of_ble_eq_true rfl)) ?_; clear hs; intro w hs; dsimp only [List.set] at hs
        refine e_nilJ (q_blkN ?_)
        refine ⟨m, [BlkIs bb #[.int .i64 k.sh.wide, .int .i64 k.sh.high, .slice fA k.sh.flaps.length fc, .slice rA k.sh.rules.length rc, .int .i64 k.gross, .int .i64 k.pay, .int .i64 k.fine, .slice wA k.ws.length wc, .slice dA k.ws.length dc, .map (some mb)] 89 (0, 0), BlkIs bw #[.int .i64 ((i : Nat) : Int)] 3 (0, 0), BlkIs 0 toldA te tz, Rd encF 5 fA k.sh.flaps.length k.sh.flaps, Rd encR 2 rA k.sh.rules.length k.sh.rules, Rd encW 6 wA k.ws.length k.ws, OrdD k.ws, Rd encI 1 dA k.ws.length (doesL k)], ?_, hkm⟩; simp only [fo_snoc_some, hO9]; exact hs.dropN 2
      · skip
        have hO9 := outZ_snoc_no x hc1
        refine r_skip (q_thenN ?_)
        refine r_reg1 rfl ?_
        refine gL hf (g_ldW hf hs T40 rfl (k := 0) rfl rfl) (by decide) ?_; clear hf a; intro a hf
        refine uL (u_stW hf hs T40 rfl rfl rfl (k := 3) rfl rfl rfl) ?_; clear hs; intro w hs; dsimp only [List.set] at hs
        refine uL (u_st hf hs T4 rfl rfl rfl (k := 2) rfl (Nat.le_of_ble_eq_true rfl)) ?_; clear hs; intro w hs; dsimp only [List.set] at hs
        refine e_nilJ (q_blkN ?_)
        refine ⟨m, [BlkIs bb #[.int .i64 k.sh.wide, .int .i64 k.sh.high, .slice fA k.sh.flaps.length fc, .slice rA k.sh.rules.length rc, .int .i64 k.gross, .int .i64 k.pay, .int .i64 k.fine, .slice wA k.ws.length wc, .slice dA k.ws.length dc, .map (some mb)] 89 (0, 0), BlkIs bw #[.int .i64 ((i : Nat) : Int)] 3 (0, 0), BlkIs 0 toldA te tz, Rd encF 5 fA k.sh.flaps.length k.sh.flaps, Rd encR 2 rA k.sh.rules.length k.sh.rules, Rd encW 6 wA k.ws.length k.ws, OrdD k.ws, Rd encI 1 dA k.ws.length (doesL k)], ?_, hkm⟩; simp only [fo_snoc_some, hO9]; exact hs.dropN 2
    · skip
      refine oV hf rfl (v_alloc hs T40 rfl) (by decide) (fun _ _ ⟨_, _, h⟩ => ⟨_, _, h.sub (.cons _ (.cons_cons _ (.cons _ (.cons _ (.cons _ (.refl _))))))⟩) ?_; clear hs hf hS a; rintro _ w ⟨b6, rfl, hs⟩ hS a hf
      refine one (i := 5) (by kernel_rfl) ?_
      refine oCallM hf hs (j := 7) rfl rfl (c_told k _ fc _ rc _ wc _ _ _ what hwh i hi x (pre_in hx hpre) hv _ (bkO_of fc rc wc hs 7 rfl hkm (.tail _ (.tail _ (.tail _ (.head _)))) (.tail _ (.tail _ (.tail _ (.tail _ (.head _))))) (.tail _ (.tail _ (.tail _ (.tail _ (.tail _ (.head _)))))) (.tail _ (.tail _ (.tail _ (.tail _ (.tail _ (.tail _ (.head _))))))) (.tail _ (.tail _ (.tail _ (.tail _ (.tail _ (.tail _ (.tail _ (.head _)))))))))) rfl rfl rfl (told_enters hwh) (by decide) (fun _ _ h => ⟨_, _, h.sub (.cons _ (.cons_cons _ (.cons _ (.cons _ (.cons _ (.refl _))))))⟩) ?_; clear hs hf hS a; intro m w a hkm hs hS hf; dsimp only [List.set] at hs
      refine one (i := 7) (by kernel_rfl) ?_
      refine oU rfl (u_stW hf hs T40 rfl rfl rfl (k := 0) rfl rfl rfl) (fun _ h => ⟨_, _, h.sub (.cons _ (.cons_cons _ (.cons _ (.cons _ (.cons _ (.refl _))))))⟩) ?_; clear hs hS; intro w hs hS; dsimp only [List.set] at hs
      refine e_doneJ (by kernel_rfl) ?_
      refine r_seq ?_
      refine r_reg rfl ?_
      refine gL hf (g_ld hf hs T4 rfl (k := 2) rfl rfl) (by decide) ?_; clear hf a; intro a hf
      refine e_nilJ ?_
      refine r_cond hf rfl (fun hc1 => ?_) (fun hc1 => ?_)
      · skip
        have hO9 := outZ_snoc_yes x hc1
        refine r_reg1 rfl ?_
        refine gL hf (g_fa (off' := 0) hf F40_0 rfl rfl) (by decide) ?_; clear hf a; intro a hf
        refine gL hf (g_ld hf hs T3 rfl (k := 3) rfl rfl) (by decide) ?_; clear hf a; intro a hf
        refine gL hf (g_fa (off' := 0) hf F40_0 rfl rfl) (by decide) ?_; clear hf a; intro a hf
        refine gL hf (g_ld hf hs T3 rfl (k := 0) rfl rfl) (by decide) ?_; clear hf a; intro a hf
        refine gL hf (g_min hf rfl rfl) (by decide) ?_; clear hf a; intro a hf
        refine gL hf (g_fa (off' := 1) hf F40_1 rfl rfl) (by decide) ?_; clear hf a; intro a hf
        refine gL hf (g_ld hf hs T3 rfl (k := 3) rfl rfl) (by decide) ?_; clear hf a; intro a hf
        refine gL hf (g_fa (off' := 1) hf F40_1 rfl rfl) (by decide) ?_; clear hf a; intro a hf
        refine gL hf (g_ld hf hs T3 rfl (k := 0) rfl rfl) (by decide) ?_; clear hf a; intro a hf
        refine gL hf (g_max hf rfl rfl) (by decide) ?_; clear hf a; intro a hf
        refine gL hf (g_bld hf [[.int .i64 0], [.int .i64 0]] (.cons rfl (.cons rfl .nil)) (fun _ => by kernel_rfl)) (by decide) ?_; clear hf a; intro a hf
        refine uL (u_stW hf hs T40 rfl rfl rfl (k := 0) rfl rfl rfl) ?_; clear hs; intro w hs; dsimp only [List.set] at hs
        refine e_nilJ (q_thenN ?_)
        refine r_reg1 rfl ?_
        refine gL hf (g_ldW hf hs T40 rfl (k := 0) rfl rfl) (by decide) ?_; clear hf a; intro a hf
        refine uL (u_stW hf hs T40 rfl rfl rfl (k := 3) rfl rfl rfl) ?_; clear hs; intro w hs; dsimp only [List.set] at hs
        refine uL (u_st hf hs T4 rfl rfl rfl (k := 2) rfl (Nat.le_of_ble_eq_true rfl)) ?_; clear hs; intro w hs; dsimp only [List.set] at hs
        refine e_nilJ (q_blkN ?_)
        refine ⟨m, [BlkIs bb #[.int .i64 k.sh.wide, .int .i64 k.sh.high, .slice fA k.sh.flaps.length fc, .slice rA k.sh.rules.length rc, .int .i64 k.gross, .int .i64 k.pay, .int .i64 k.fine, .slice wA k.ws.length wc, .slice dA k.ws.length dc, .map (some mb)] 89 (0, 0), BlkIs bw #[.int .i64 ((i : Nat) : Int)] 3 (0, 0), BlkIs 0 toldA te tz, Rd encF 5 fA k.sh.flaps.length k.sh.flaps, Rd encR 2 rA k.sh.rules.length k.sh.rules, Rd encW 6 wA k.ws.length k.ws, OrdD k.ws, Rd encI 1 dA k.ws.length (doesL k)], ?_, hkm⟩; simp only [fo_snoc_some, hO9]; exact hs.dropN 2
      · skip
        have hO9 := outZ_snoc_no x hc1
        refine r_skip (q_thenN ?_)
        refine r_reg1 rfl ?_
        refine gL hf (g_ldW hf hs T40 rfl (k := 0) rfl rfl) (by decide) ?_; clear hf a; intro a hf
        refine uL (u_stW hf hs T40 rfl rfl rfl (k := 3) rfl rfl rfl) ?_; clear hs; intro w hs; dsimp only [List.set] at hs
        refine uL (u_st hf hs T4 rfl rfl rfl (k := 2) rfl (Nat.le_of_ble_eq_true rfl)) ?_; clear hs; intro w hs; dsimp only [List.set] at hs
        refine e_nilJ (q_blkN ?_)
        refine ⟨m, [BlkIs bb #[.int .i64 k.sh.wide, .int .i64 k.sh.high, .slice fA k.sh.flaps.length fc, .slice rA k.sh.rules.length rc, .int .i64 k.gross, .int .i64 k.pay, .int .i64 k.fine, .slice wA k.ws.length wc, .slice dA k.ws.length dc, .map (some mb)] 89 (0, 0), BlkIs bw #[.int .i64 ((i : Nat) : Int)] 3 (0, 0), BlkIs 0 toldA te tz, Rd encF 5 fA k.sh.flaps.length k.sh.flaps, Rd encR 2 rA k.sh.rules.length k.sh.rules, Rd encW 6 wA k.ws.length k.ws, OrdD k.ws, Rd encI 1 dA k.ws.length (doesL k)], ?_, hkm⟩; simp only [fo_snoc_some, hO9]; exact hs.dropN 2
  case done =>
    clear hf hs; intro D m a w hf hIp hs; dsimp only [List.cons_append, List.nil_append] at hs
    rw [fo_all, outZ_all] at hs
    refine q_blkN (q_thenN ?_)
    refine c_draw _ 4 Mx rfl hs (fun _ h => h.sub (.cons_cons _ (.cons_cons _ (.cons _ (.refl _))))) ?_; intro w hs hS
    refine gA hf hS (i := 0) rfl (by kernel_rfl) (fun w hs => g_ldW hf hs T40 rfl (k := 1) rfl rfl) (by decide) ?_; clear hf a; intro a hf
    refine gA hf hS (i := 1) rfl (by kernel_rfl) (fun w hs => g_ld hf hs T4 rfl (k := 0) rfl rfl) (by decide) ?_; clear hf a; intro a hf
    refine one (i := 2) (by kernel_rfl) ?_
    refine oU rfl (u_stW hf hs T40 rfl rfl rfl (k := 2) rfl rfl rfl) (fun _ h => h.sub (.cons_cons _ (.cons_cons _ (.cons _ (.refl _))))) ?_; clear hs hS; intro w hs hS; dsimp only [List.set] at hs
    refine gA hf hS (i := 3) rfl (by kernel_rfl) (fun w hs => g_as hf rfl) (by decide) ?_; clear hf a; intro a hf
    refine e_done (by kernel_rfl) ?_
    refine c_ret ?_
    refine outMR 6 hf hs rfl rfl (.cellA T40 rfl (k := 2) rfl rfl (.tmp rfl .nil)) rfl ?_; clear hs; intro w hs
    exact ⟨_, rfl, rfl, hs.below.1, hs.below.2.1, hs.below.2.2.1, hs.below.2.2.2, _, hIp, (hs.own _ _ (.tail _ (.tail _ (.tail _ (.tail _ (.tail _ (.head _))))))).2⟩
  case stop =>
    clear hf hs; intro D t pre a w hne hpre hIx hf hs; dsimp only [List.cons_append, List.nil_append] at hs
    exact hIx.elim

end Go.Proofs.YtjjcopeedcdokaaDoor

set_option linter.unusedVariables false
set_option linter.unusedSimpArgs false
namespace Go.Proofs.YtjjcopeedcdokaaDoor
open Go.RowKit
/-- What an opened book leaves: new memory. -/
def OpR (k : Bk) (dA : Option Addr) (mb : Nat) (w w' : World) : Prop :=
  w.heap.size ≤ mb ∧ w'.heap[mb]? = some (mapK []) ∧ Rd encI 1 dA k.ws.length (doesL k) w' ∧ ∀ b o, dA = some ⟨b, o, none⟩ → w.heap.size ≤ b ∧ b ≠ mb
/-- The caller takes it over. -/
theorem St.opened {k : Bk} {dA : Option Addr} {mb : Nat} {w0 : Base} {Ds : List (World → Prop)} {H : Own} {w w' : World} (hs : St w0 Ds H w) (hb : Below w.heap.size w w') (h : OpR k dA mb w w') : St w0 (Rd encI 1 dA k.ws.length (doesL k) :: Ds) ((mb, mapK []) :: H) w' :=
  (hs.adopt hb h.1 h.2.1).addD (h.2.2.1.stable fun b o e hm => by
    have h1 := h.2.2.2 b o e
    simp only [ids, List.map_cons, List.mem_append, List.mem_cons] at hm
    rcases hm with hm | hm | hm
    · have := w0.exno _ hs.below b hm; omega
    · exact h1.2 hm
    · have := hs.lt' hm; omega)
theorem acc_ne {sz n : Nat} {o : Acc} {A : Option Addr} {c m : Nat} (h : ∀ q, o = some q → q.1 ≠ m) (e : accV sz n o = .slice A n c) : ∀ bk off, A = some ⟨bk, off, none⟩ → bk ≠ m := by
  intro bk off hA
  cases o with
  | none => simp [accV] at e; rw [hA] at e; cases e.1
  | some q =>
    obtain ⟨q1, q2⟩ := q
    simp only [accV, Value.slice.injEq] at e
    have := h _ rfl
    rw [hA] at e
    have h2 := e.1
    injection h2 with h2
    injection h2 with h2
    simp only at this
    exact h2 ▸ this
/-- How often the orders of the first workers do. -/
def doesTo (k : Bk) (i : Nat) : List Int := (k.ws.take i).map (doesK k)
theorem doesTo_succ {k : Bk} {i : Nat} (h : i < k.ws.length) : doesTo k (i + 1) = doesTo k i ++ [doesK k (k.ws.getD i default)] := by
  unfold doesTo; rw [take_snoc h, List.map_append]; rfl
theorem doesTo_all (k : Bk) : doesTo k k.ws.length = doesL k := by unfold doesTo doesL; rw [List.take_length]
theorem doesTo_len {k : Bk} {i : Nat} (h : i ≤ k.ws.length) : (doesTo k i).length = i := by unfold doesTo; rw [List.length_map, List.length_take]; omega
theorem ints7_size (l : List Int) : (ints7 l).size = l.length := by simp [ints7]
theorem ints_plain (l : List Int) : (l.map fun x => Value.int .i64 x).all plain = true := by simp [List.all_eq_true, plain]
abbrev zero7 : List Int := List.replicate 7 0
/-- The last order that was asked, and how often it does. -/
def lastOK (b : Sheet) (la : List Int) (kd : Int) : Prop := la.length = 7 ∧ (la = zero7 ∨ ∃ l, ordB b l = true ∧ la = pad7 l ∧ kd = (doesP b l).1)
theorem last_zero (b : Sheet) (kd : Int) : lastOK b zero7 kd := ⟨rfl, .inl rfl⟩
theorem last_new {b : Sheet} {l : List Int} (h : ordB b l = true) : lastOK b (pad7 l) (doesP b l).1 := ⟨pad7_len l, .inr ⟨l, h, rfl, rfl⟩⟩
theorem last_same {b : Sheet} (hck : checkB b = true) {la o : List Int} {kd : Int} (h : lastOK b la kd) (ho : ordB b o = true) (hc : ((pad7 o == zero7) || !(pad7 o == la)) = false) : kd = (doesP b o).1 := by
  rw [Bool.or_eq_false_iff] at hc
  have h1 : pad7 o ≠ zero7 := by simpa using hc.1
  have h2 : pad7 o = la := by simpa using hc.2
  rcases h.2 with h3 | ⟨l, h3, h4, h5⟩
  · exact absurd (h2.trans h3) h1
  · have hm := (valid_of hck).many
    have l1 := (ordB_iff.1 ho).1; have l2 := (ordB_iff.1 h3).1
    have : o = l := pad7_inj (by omega) (by omega) (h2.trans h4)
    rw [this]; exact h5
end Go.Proofs.YtjjcopeedcdokaaDoor

set_option linter.unusedVariables false
set_option linter.unusedSimpArgs false
namespace Go.Proofs.YtjjcopeedcdokaaDoor
open Go.RowKit
theorem c_wrongH (k : Bk) (fA : Option Addr) (fc : Nat) (rA : Option Addr) (rc : Nat) (wA : Option Addr) (wc : Nat) (dA : Option Addr) (dc mb : Nat) (hv : BkV k) (w0 : World) (h : Rd encW 6 wA k.ws.length k.ws w0) :
    Calls Tryd.prog 71 #[.agg #[.int .i64 k.sh.wide, .int .i64 k.sh.high, .slice fA k.sh.flaps.length fc, .slice rA k.sh.rules.length rc, .int .i64 k.gross, .int .i64 k.pay, .int .i64 k.fine, .slice wA k.ws.length wc, .slice dA k.ws.length dc, .map (some mb)]] w0 (RetX w0 (fun v w0' => ∃ A c, v = .slice A (wrongL k).length c ∧ Out (wrongL k) A c w0 w0')) := by
  refine c_enter (n := 30) Tryd.func71 rfl rfl (Nat.le_of_ble_eq_true rfl) ?_; intro a hf; simp only [zipR] at hf
  have hs := St.start w0 [Rd encW 6 wA k.ws.length k.ws] h.st1
  have hwm := h.2.1
  have hwn := hv.n
  refine c_reg ?_
  refine vL hf (v_boxA hf hs rfl) (by decide) ?_; clear hs hf a; rintro _ w ⟨b1, rfl, hs⟩ a hf
  refine gL hf (g_as hf rfl) (by decide) ?_; clear hf a; intro a hf
  refine e_nil ?_
  refine c_reg ?_
  refine gL hf (g_as hf rfl) (by decide) ?_; clear hf a; intro a hf
  refine e_nil ?_
  refine c_reg ?_
  refine gL hf (g_ldW hf hs T89 rfl (k := 0) rfl rfl) (by decide) ?_; clear hf a; intro a hf
  refine gL hf (g_fn hf rfl rfl) (by decide) ?_; clear hf a; intro a hf
  refine gL hf (g_as hf rfl) (by decide) ?_; clear hf a; intro a hf
  refine e_nil ?_
  refine wp_seq ?_
  refine c_reg ?_
  refine gL hf (g_fa (off' := 0) hf F89_0 rfl rfl) (by decide) ?_; clear hf a; intro a hf
  refine gL hf (g_fa (off' := 7) hf F28_4 rfl rfl) (by decide) ?_; clear hf a; intro a hf
  refine gL hf (g_ld hf hs T26 rfl (k := 0) rfl rfl) (by decide) ?_; clear hf a; intro a hf
  refine gL hf (g_len hf SL26 rfl) (by decide) ?_; clear hf a; intro a hf
  refine gL hf (g_mv hf rfl) (by decide) ?_; clear hf a; intro a hf
  refine e_nil ?_
  refine c_block ?_
  refine c_loop hf hs [3, 5, 12, 13, 14, 15, 16, 17, 18, 19, 20, 21, 22, 23] (σ := (Nat × Acc)) (fun s => [(3, accV 1 (wrongTo k s.1).length s.2), (12, .int .i64 (s.1 : Nat))]) (fun s => (b1, .cells #[.int .i64 k.sh.wide, .int .i64 k.sh.high, .slice fA k.sh.flaps.length fc, .slice rA k.sh.rules.length rc, .int .i64 k.gross, .int .i64 k.pay, .int .i64 k.fine, .slice wA k.ws.length wc, .slice dA k.ws.length dc, .map (some mb)] 89 (0, 0)) :: accH 3 s.2) (fun s => s.1 ≤ k.ws.length ∧ AccOK encI 1 (wrongTo k s.1) s.2) (fun s => k.ws.length - s.1) (0, none) ⟨Nat.zero_le _, rfl⟩ (.cons rfl (.cons rfl .nil)) rfl ?_
  intro ⟨i, oa⟩ a w hJ hf hs
  dsimp only at hJ hf hs
  obtain ⟨hile, hoa⟩ := hJ
  refine c_reg ?_
  refine gL hf (g_lss hf rfl rfl) (by decide) ?_; clear hf a; intro a hf
  refine e_nil ?_
  refine c_condS hf rfl (fun hc1 => ?_) (fun hc1 => ?_)
  · try simp only [decide_eq_true_eq, decide_eq_false_iff_not] at hc1
    have hi : i < k.ws.length := by omega
    refine c_skip (q_thenN ?_)
    refine c_blockS ?_
    refine c_reg ?_
    refine gL hf (g_mv hf rfl) (by decide) ?_; clear hf a; intro a hf
    refine gL hf (g_as hf rfl) (by decide) ?_; clear hf a; intro a hf
    refine e_nil ?_
    refine c_reg ?_
    refine gL hf (g_mv hf rfl) (by decide) ?_; clear hf a; intro a hf
    refine gL hf (g_mv hf rfl) (by decide) ?_; clear hf a; intro a hf
    refine callL hf hs (c_rightH k fA fc rA rc wA wc dA dc mb i hi (hv.wk hi) _ (hs.rd (.head _))) rfl rfl rfl E81 (by decide) ?_; clear hs hf a; intro w a hs hf
    refine gL hf (g_not hf rfl) (by decide) ?_; clear hf a; intro a hf
    refine e_nil ?_
    refine c_cond hf rfl (fun hc2 => ?_) (fun hc2 => ?_)
    · skip
      have hrt : rightB (k.ws.getD i default) = false := by simpa using hc2
      have hws : wrongTo k (i + 1) = wrongTo k i ++ [((i : Nat) : Int)] := by rw [wrong_succ, hrt]; rfl
      have hlw := wrong_len k i
      refine c_reg1 ?_
      refine gL hf (g_mv hf rfl) (by decide) ?_; clear hf a; intro a hf
      refine gL hf (g_mv hf rfl) (by decide) ?_; clear hf a; intro a hf
      refine vL hf (v_lits (len := 1) hf hs SL31 T3 (.cons rfl .nil) rfl rfl rfl rfl (by decide) rfl) (by decide) ?_; clear hs hf a; rintro _ w ⟨b2, rfl, hs⟩ a hf
      refine vL hf (v_accN (e := 3) (R := []) (o := oa) hf 2 hs (by simp) hoa AP31 (enc := encI) (l := (wrongTo k i)) (l' := [((i : Nat) : Int)]) (fun _ => rfl) (by decide) (by intro x v hv9; rw [List.mem_singleton.1 hv9]; rfl) rfl rfl rfl (rd_one rfl (hs.own _ _ (.head _)).2) (by omega) (by decide)) (by decide) ?_; clear hs hf a; rintro _ w ⟨oa2, rfl, hoa2, hs⟩ a hf; dsimp only [List.take, List.cons_append, List.nil_append] at hs; rw [List.append_nil] at hs
      rw [show (wrongTo k i).length + 1 = ((wrongTo k i) ++ [((i : Nat) : Int)]).length by rw [List.length_append]; rfl] at hf
      refine gL hf (g_as hf rfl) (by decide) ?_; clear hf a; intro a hf
      refine e_nil1 (q_blkN (q_thenN ?_))
      refine c_reg1 ?_
      refine gL hf (g_addI hf rfl rfl (by omega)) (by decide) ?_; clear hf a; intro a hf
      refine gL hf (g_mv hf rfl) (by decide) ?_; clear hf a; intro a hf
      refine e_nil1 (q_thenN ?_)
      rw [← hws] at hf
      first | exact ⟨(i + 1, oa2), ⟨by dsimp only; omega, by dsimp only; rw [hws]; exact hoa2⟩, (by dsimp only; omega), hf.back (by repeat (first | (with_reducible exact Ext.base) | ((with_reducible refine Ext.cons ?_ ?_); (· rfl)) | ((with_reducible refine Ext.over ?_ ?_ ?_); (· rfl); (· rfl)))) (allKeys rfl) (.cons rfl (.cons rfl .nil)), (by first | exact (hs.dropN 1).subD (fun _ h => .tail _ h) | exact (hs.dropN 0).subD (fun _ h => .tail _ h) | exact hs.dropN 1 | exact hs.dropN 0)⟩ | exact ⟨(i + 1, oa), ⟨by dsimp only; omega, by dsimp only; rw [hws]; exact hoa⟩, (by dsimp only; omega), hf.back (by repeat (first | (with_reducible exact Ext.base) | ((with_reducible refine Ext.cons ?_ ?_); (· rfl)) | ((with_reducible refine Ext.over ?_ ?_ ?_); (· rfl); (· rfl)))) (allKeys rfl) (.cons rfl (.cons rfl .nil)), (by first | exact (hs.dropN 1).subD (fun _ h => .tail _ h) | exact (hs.dropN 0).subD (fun _ h => .tail _ h) | exact hs.dropN 1 | exact hs.dropN 0)⟩
    · skip
      have hrt : rightB (k.ws.getD i default) = true := by simpa using hc2
      have hws : wrongTo k (i + 1) = wrongTo k i := by rw [wrong_succ, hrt]; exact List.append_nil _
      refine c_skip (q_blkN (q_thenN ?_))
      refine c_reg1 ?_
      refine gL hf (g_addI hf rfl rfl (by omega)) (by decide) ?_; clear hf a; intro a hf
      refine gL hf (g_mv hf rfl) (by decide) ?_; clear hf a; intro a hf
      refine e_nil1 (q_thenN ?_)
      rw [← hws] at hf
      first | exact ⟨(i + 1, oa2), ⟨by dsimp only; omega, by dsimp only; rw [hws]; exact hoa2⟩, (by dsimp only; omega), hf.back (by repeat (first | (with_reducible exact Ext.base) | ((with_reducible refine Ext.cons ?_ ?_); (· rfl)) | ((with_reducible refine Ext.over ?_ ?_ ?_); (· rfl); (· rfl)))) (allKeys rfl) (.cons rfl (.cons rfl .nil)), (by first | exact (hs.dropN 1).subD (fun _ h => .tail _ h) | exact (hs.dropN 0).subD (fun _ h => .tail _ h) | exact hs.dropN 1 | exact hs.dropN 0)⟩ | exact ⟨(i + 1, oa), ⟨by dsimp only; omega, by dsimp only; rw [hws]; exact hoa⟩, (by dsimp only; omega), hf.back (by repeat (first | (with_reducible exact Ext.base) | ((with_reducible refine Ext.cons ?_ ?_); (· rfl)) | ((with_reducible refine Ext.over ?_ ?_ ?_); (· rfl); (· rfl)))) (allKeys rfl) (.cons rfl (.cons rfl .nil)), (by first | exact (hs.dropN 1).subD (fun _ h => .tail _ h) | exact (hs.dropN 0).subD (fun _ h => .tail _ h) | exact hs.dropN 1 | exact hs.dropN 0)⟩
  · try simp only [decide_eq_true_eq, decide_eq_false_iff_not] at hc1
    have hie : i = k.ws.length := by omega
    subst hie
    have hn1 : ∀ q, oa = some q → w0.heap.size ≤ q.1 := fun q e => by subst e; exact (hs.own _ _ (.tail _ (.head _))).1
    obtain ⟨A3, c3, e3, hl3, hs⟩ := hs.freeze (R := []) (e := 3) (o := oa) (enc := encI) (sz := 1) 1 (by simp) hoa (fun _ => rfl) (by decide)
    have hA3 := acc_new hn1 e3
    rw [e3] at hf
    have hlw := wrong_len k k.ws.length
    refine c_exit (q_thenX (q_thenX (q_blkX (q_thenN ?_))))
    refine c_reg ?_
    refine gL hf (g_mv hf rfl) (by decide) ?_; clear hf a; intro a hf
    refine gL hf (g_mv hf rfl) (by decide) ?_; clear hf a; intro a hf
    refine gL hf (g_len hf SL31 rfl) (by decide) ?_; clear hf a; intro a hf
    refine gL hf (g_mv hf rfl) (by decide) ?_; clear hf a; intro a hf
    refine gL hf (g_len hf SL31 rfl) (by decide) ?_; clear hf a; intro a hf
    refine gL hf (g_slHM hf SL31 rfl rfl rfl (by omega) (by omega)) (by decide) ?_; clear hf a; intro a hf
    refine gL hf (g_as hf rfl) (by decide) ?_; clear hf a; intro a hf
    refine e_nil ?_
    refine c_ret ?_
    refine e_ret1 hf rfl rfl ?_
    exact ⟨_, rfl, hs.below, A3, _, rfl, by exact ⟨Nat.le_refl _, hs.rd (.head _), hA3⟩⟩

theorem c_openedH (k : Bk) (fA : Option Addr) (fc : Nat) (rA : Option Addr) (rc : Nat) (wA : Option Addr) (wc : Nat) (ge : TypeId) (gz : Nat × Nat) (hv : BkV k) (w0 : World) (h : BkIn k fA fc rA rc wA wc w0) (hG : BlkIs 1 sidesA ge gz w0) :
    Calls Tryd.prog 70 #[.agg #[.int .i64 k.sh.wide, .int .i64 k.sh.high, .slice fA k.sh.flaps.length fc, .slice rA k.sh.rules.length rc, .int .i64 k.gross, .int .i64 k.pay, .int .i64 k.fine, .slice wA k.ws.length wc]] w0 (RetX w0 (fun v w0' => ∃ dA dc mb, v = .agg #[.int .i64 k.sh.wide, .int .i64 k.sh.high, .slice fA k.sh.flaps.length fc, .slice rA k.sh.rules.length rc, .int .i64 k.gross, .int .i64 k.pay, .int .i64 k.fine, .slice wA k.ws.length wc, .slice dA k.ws.length dc, .map (some mb)] ∧ OpR k dA mb w0 w0')) := by
  refine c_enter (n := 50) Tryd.func70 rfl rfl (Nat.le_of_ble_eq_true rfl) ?_; intro a hf; simp only [zipR] at hf
  have hs := St.start w0 [Rd encF 5 fA k.sh.flaps.length k.sh.flaps, Rd encR 2 rA k.sh.rules.length k.sh.rules, Rd encW 6 wA k.ws.length k.ws, OrdD k.ws, BlkIs 1 sidesA ge gz] (stab_app h.stab hG.st1)
  have hwm := h.W.2.1
  have hck := hv.ck; have hwn := hv.n
  refine c_reg ?_
  refine vL hf (v_boxA hf hs rfl) (by decide) ?_; clear hs hf a; rintro _ w ⟨b1, rfl, hs⟩ a hf
  refine vL hf (v_alloc hs T89 rfl) (by decide) ?_; clear hs hf a; rintro _ w ⟨b2, rfl, hs⟩ a hf
  refine e_nil ?_
  refine c_reg ?_
  refine gL hf (g_ldW hf hs T28 rfl (k := 1) rfl rfl) (by decide) ?_; clear hf a; intro a hf
  refine vL hf (v_mapK hs) (by decide) ?_; clear hs hf a; rintro _ w ⟨b3, rfl, hs⟩ a hf
  refine gL hf (g_bld hf [[.int .i64 0, .int .i64 0, .slice none 0 0, .slice none 0 0, .int .i64 0, .int .i64 0, .int .i64 0, .slice none 0 0], [.slice none 0 0], [.map none]] (.cons rfl (.cons rfl (.cons rfl .nil))) (fun _ => by kernel_rfl)) (by decide) ?_; clear hf a; intro a hf
  refine vL hf (v_alloc hs T89 rfl) (by decide) ?_; clear hs hf a; rintro _ w ⟨b4, rfl, hs⟩ a hf
  refine uL (u_stW hf hs T89 rfl rfl rfl (k := 0) rfl rfl rfl) ?_; clear hs; intro w hs; dsimp only [List.set] at hs
  refine e_nil ?_
  refine c_reg ?_
  refine callL hf hs (c_noneH _) rfl rfl rfl E109 (by decide) ?_; clear hs hf a; intro w a hs hf
  refine vL hf (v_alloc hs T129 rfl) (by decide) ?_; clear hs hf a; rintro _ w ⟨b5, rfl, hs⟩ a hf
  refine uL (u_stW hf hs T129 rfl rfl (by first | rfl | exact ints_plain _) (k := 0) rfl (by first | rfl | (rw [List.length_map]; exact pad7_len _)) (by first | rfl | (rw [List.length_map, ints7_size, hok.1]; exact pad7_len _))) ?_; clear hs; intro w hs; dsimp only [List.set] at hs
  refine gL hf (g_as hf rfl) (by decide) ?_; clear hf a; intro a hf
  refine e_nil ?_
  refine wp_seq ?_
  refine c_reg ?_
  refine gL hf (g_fa (off' := 7) hf F28_4 rfl rfl) (by decide) ?_; clear hf a; intro a hf
  refine gL hf (g_ld hf hs T26 rfl (k := 4) rfl rfl) (by decide) ?_; clear hf a; intro a hf
  refine gL hf (g_len hf SL26 rfl) (by decide) ?_; clear hf a; intro a hf
  refine gL hf (g_mv hf rfl) (by decide) ?_; clear hf a; intro a hf
  refine e_nil ?_
  refine c_block ?_
  refine c_loop hf hs (List.range' 5 1 ++ List.range' 7 2 ++ List.range' 16 33) (σ := (Nat × (List Int × Int) × Acc)) (fun s => [(5, .int .i64 s.2.1.2), (16, .int .i64 (s.1 : Nat))]) (fun s => (b5, .cells (ints7 s.2.1.1) 129 (0, 0)) :: (b4, .cells #[.int .i64 k.sh.wide, .int .i64 k.sh.high, .slice fA k.sh.flaps.length fc, .slice rA k.sh.rules.length rc, .int .i64 k.gross, .int .i64 k.pay, .int .i64 k.fine, .slice wA k.ws.length wc, accV 1 (doesTo k s.1).length s.2.2, .map (some b3)] 89 (0, 0)) :: (b3, mapK []) :: (b2, .cells #[.int .i64 0, .int .i64 0, .slice none 0 0, .slice none 0 0, .int .i64 0, .int .i64 0, .int .i64 0, .slice none 0 0, .slice none 0 0, .map none] 89 (0, 0)) :: (b1, .cells #[.int .i64 k.sh.wide, .int .i64 k.sh.high, .slice fA k.sh.flaps.length fc, .slice rA k.sh.rules.length rc, .int .i64 k.gross, .int .i64 k.pay, .int .i64 k.fine, .slice wA k.ws.length wc] 28 (0, 0)) :: accH 3 s.2.2) (fun s => s.1 ≤ k.ws.length ∧ lastOK k.sh s.2.1.1 s.2.1.2 ∧ AccOK encI 1 (doesTo k s.1) s.2.2) (fun s => k.ws.length - s.1) (0, (zero7, 0), none) ⟨Nat.zero_le _, last_zero _ _, rfl⟩ (.cons rfl (.cons rfl .nil)) rfl ?_
  intro ⟨i, ⟨la, kd⟩, oa⟩ a w hJ hf hs
  dsimp only at hJ hf hs
  obtain ⟨hile, hok, hoa⟩ := hJ
  refine c_reg ?_
  refine gL hf (g_lss hf rfl rfl) (by decide) ?_; clear hf a; intro a hf
  refine e_nil ?_
  refine c_condS hf rfl (fun hc1 => ?_) (fun hc1 => ?_)
  · try simp only [decide_eq_true_eq, decide_eq_false_iff_not] at hc1
    have hi : i < k.ws.length := by omega
    have hord := (hv.wk hi).ord
    have hdl := doesTo_len hile
    have hds := doesTo_succ hi
    refine c_skip (q_thenN ?_)
    refine c_blockS ?_
    refine c_reg ?_
    (first | (refine gL hf (g_ixE hf hs (.tail _ (.tail _ (.head _))) SL26 rfl rfl (by omega)) (by decide) ?_) | (refine gL hf (g_ixD hf hs (.tail _ (.tail _ (.head _))) SL26 rfl rfl (by omega)) (by decide) ?_)); clear hf a; intro a hf
    refine gL hf (g_ldEW hf hs (.tail _ (.tail _ (.head _))) T47 rfl rfl (by omega)) (by decide) ?_; clear hf a; intro a hf
    refine vL hf (v_alloc hs T47 rfl) (by decide) ?_; clear hs hf a; rintro _ w ⟨b6, rfl, hs⟩ a hf
    refine uL (u_stW hf hs T47 rfl rfl rfl (k := 0) rfl rfl rfl) ?_; clear hs; intro w hs; dsimp only [List.set] at hs
    refine e_nil ?_
    refine c_reg ?_
    refine callL hf hs (c_noneH _) rfl rfl rfl E109 (by decide) ?_; clear hs hf a; intro w a hs hf
    refine vL hf (v_alloc hs T129 rfl) (by decide) ?_; clear hs hf a; rintro _ w ⟨b7, rfl, hs⟩ a hf
    refine uL (u_stW hf hs T129 rfl rfl rfl (k := 0) rfl rfl rfl) ?_; clear hs; intro w hs; dsimp only [List.set] at hs
    refine e_nil ?_
    refine c_draw _ 4 Mx rfl hs (fun _ h => h.sub (.cons _ (.refl _))) ?_; intro w hs hS
    refine gA hf hS (i := 0) rfl (by kernel_rfl) (fun w hs => g_slArr hf AR129 rfl) (by decide) ?_; clear hf a; intro a hf
    refine gA hf hS (i := 1) rfl (by kernel_rfl) (fun w hs => g_fa (off' := 1) hf F47_1 rfl rfl) (by decide) ?_; clear hf a; intro a hf
    refine gA hf hS (i := 2) rfl (by kernel_rfl) (fun w hs => g_ld hf hs T31 rfl (k := 0) rfl rfl) (by decide) ?_; clear hf a; intro a hf
    refine one (i := 3) (by kernel_rfl) ?_
    refine oV hf rfl (v_copy7 hf hs SL31 rfl rfl (k := 0) rfl ((hs.rd (.tail _ (.tail _ (.tail _ (.head _))))) _ (getD_mem hi)).2) (by decide) (fun _ _ ⟨_, h⟩ => h.sub (.cons _ (.refl _))) ?_; clear hs hf hS a; rintro _ w ⟨rfl, hs⟩ hS a hf; dsimp only [List.set] at hs
    refine e_done (by kernel_rfl) ?_
    refine wp_seq ?_
    refine c_draw _ 8 Mx rfl hs (fun _ h => h) ?_; intro w hs hS
    refine gA hf hS (i := 0) rfl (by kernel_rfl) (fun w hs => g_ldW hf hs T129 rfl (k := 0) rfl (by rw [ints7_size]; exact pad7_len _)) (by decide) ?_; clear hf a; intro a hf
    refine one (i := 1) (by kernel_rfl) ?_
    refine oCall hf hs rfl (c_noneH _) rfl rfl rfl E109 (by decide) (fun _ h => h.sub (.refl _)) ?_; clear hs hf hS a; intro w a hs hS hf
    refine gA hf hS (i := 2) rfl (by kernel_rfl) (fun w hs => g_eqA hf QA129 (pad7_len _) (rfl : (List.replicate 7 (0 : Int)).length = 7) rfl rfl) (by decide) ?_; clear hf a; intro a hf
    refine gA hf hS (i := 3) rfl (by kernel_rfl) (fun w hs => g_mv hf rfl) (by decide) ?_; clear hf a; intro a hf
    refine ggA hf hS (i := 4) rfl (by kernel_rfl) rfl rfl (gyes_f _) (fun hg w hs => g_ldW hf hs T129 rfl (k := 0) rfl (by rw [ints7_size]; exact pad7_len _)) (by decide) ?_; clear hf a; intro a hf
    refine ggA hf hS (i := 5) rfl (by kernel_rfl) rfl rfl (gyes_f _) (fun hg w hs => g_ldW hf hs T129 rfl (k := 2) rfl (by rw [ints7_size]; exact hok.1)) (by decide) ?_; clear hf a; intro a hf
    refine ggA hf hS (i := 6) rfl (by kernel_rfl) rfl rfl (gyes_f _) (fun hg w hs => g_neA hf QA129 (pad7_len _) hok.1 (ev_gv rfl hg) (ev_gv rfl hg)) (by decide) ?_; clear hf a; intro a hf
    refine gA hf hS (i := 7) rfl (by kernel_rfl) (fun w hs => g_or hf rfl rfl) (by decide) ?_; clear hf a; intro a hf
    refine e_done (by kernel_rfl) ?_
    refine c_cond hf rfl (fun hc2 => ?_) (fun hc2 => ?_)
    · skip
      have hok2 := last_new hord
      refine c_reg ?_
      refine gL hf (g_fa (off' := 0) hf F28_0 rfl rfl) (by decide) ?_; clear hf a; intro a hf
      refine gL hf (g_ldP hf hs T25 rfl (k := 6) rfl rfl) (by decide) ?_; clear hf a; intro a hf
      refine gL hf (g_fa (off' := 1) hf F47_1 rfl rfl) (by decide) ?_; clear hf a; intro a hf
      refine gL hf (g_ld hf hs T31 rfl (k := 1) rfl rfl) (by decide) ?_; clear hf a; intro a hf
      refine callL hf hs (c_Does k.sh _ _ _ _ _ _ (k.ws.getD i default).order ge gz hck _ ⟨hs.rd (.head _), hs.rd (.tail _ (.head _)), h.sh.fc_, h.sh.rc_⟩ ((hs.rd (.tail _ (.tail _ (.tail _ (.head _))))) _ (getD_mem hi)).2 (hs.rd (.tail _ (.tail _ (.tail _ (.tail _ (.head _))))))) rfl rfl rfl E51 (by decide) ?_; clear hs hf a; intro w a hs hf
      refine gL hf (g_mv hf rfl) (by decide) ?_; clear hf a; intro a hf
      refine gL hf (g_ext hf rfl rfl) (by decide) ?_; clear hf a; intro a hf
      refine gL hf (g_ext hf rfl rfl) (by decide) ?_; clear hf a; intro a hf
      refine gL hf (g_as hf rfl) (by decide) ?_; clear hf a; intro a hf
      refine e_nil ?_
      refine c_reg1 ?_
      refine gL hf (g_ldW hf hs T129 rfl (k := 0) rfl (by rw [ints7_size]; exact pad7_len _)) (by decide) ?_; clear hf a; intro a hf
      refine uL (u_stW hf hs T129 rfl rfl (by first | rfl | exact ints_plain _) (k := 2) rfl (by first | rfl | (rw [List.length_map]; exact pad7_len _)) (by first | rfl | (rw [List.length_map, ints7_size, hok.1]; exact pad7_len _))) ?_; clear hs; intro w hs; dsimp only [List.set] at hs
      refine e_nil1 (q_thenN ?_)
      refine c_reg1 ?_
      refine gL hf (g_fa (off' := 8) hf F89_1 rfl rfl) (by decide) ?_; clear hf a; intro a hf
      refine gL hf (g_ld hf hs T31 rfl (k := 3) rfl rfl) (by decide) ?_; clear hf a; intro a hf
      refine gL hf (g_mv hf rfl) (by decide) ?_; clear hf a; intro a hf
      refine vL hf (v_lits (len := 1) hf hs SL31 T3 (.cons rfl .nil) rfl rfl rfl rfl (by decide) rfl) (by decide) ?_; clear hs hf a; rintro _ w ⟨b8, rfl, hs⟩ a hf
      refine vL hf (v_accN (e := 3) (R := []) (o := oa) hf 8 hs (by simp) hoa AP31 (enc := encI) (l := (doesTo k i)) (l' := [doesK k (k.ws.getD i default)]) (fun _ => rfl) (by decide) (by intro x v hv9; rw [List.mem_singleton.1 hv9]; rfl) rfl rfl rfl (rd_one rfl (hs.own _ _ (.head _)).2) (by omega) (by decide)) (by decide) ?_; clear hs hf a; rintro _ w ⟨oa2, rfl, hoa2, hs⟩ a hf; dsimp only [List.take, List.cons_append, List.nil_append] at hs; rw [List.append_nil] at hs
      rw [show (doesTo k i).length + 1 = (doesTo k i ++ [doesK k (k.ws.getD i default)]).length by rw [List.length_append]; rfl] at hf
      refine gL hf (g_fa (off' := 8) hf F89_1 rfl rfl) (by decide) ?_; clear hf a; intro a hf
      refine uL (u_st hf hs T31 rfl rfl (plain_acc _ _ _) (k := 4) rfl (Nat.le_of_ble_eq_true rfl)) ?_; clear hs; intro w hs; dsimp only [List.set] at hs
      refine e_nil1 (q_blkN (q_thenN ?_))
      refine c_reg1 ?_
      refine gL hf (g_addI hf rfl rfl (by omega)) (by decide) ?_; clear hf a; intro a hf
      refine gL hf (g_mv hf rfl) (by decide) ?_; clear hf a; intro a hf
      refine e_nil1 (q_thenN ?_)
      first | exact ⟨(i + 1, ((pad7 (k.ws.getD i default).order), (doesP k.sh (k.ws.getD i default).order).1), oa2), ⟨by dsimp only; omega, hok2, by dsimp only; rw [hds]; exact hoa2⟩, (by dsimp only; omega), hf.back (by repeat (first | (with_reducible exact Ext.base) | ((with_reducible refine Ext.cons ?_ ?_); (· rfl)) | ((with_reducible refine Ext.over ?_ ?_ ?_); (· rfl); (· rfl)))) (allKeys rfl) (.cons rfl (.cons rfl .nil)), (by rw [hds]; exact (hs.dropN 3))⟩ | exact ⟨(i + 1, (la, (doesP k.sh (k.ws.getD i default).order).1), oa2), ⟨by dsimp only; omega, hok2, by dsimp only; rw [hds]; exact hoa2⟩, (by dsimp only; omega), hf.back (by repeat (first | (with_reducible exact Ext.base) | ((with_reducible refine Ext.cons ?_ ?_); (· rfl)) | ((with_reducible refine Ext.over ?_ ?_ ?_); (· rfl); (· rfl)))) (allKeys rfl) (.cons rfl (.cons rfl .nil)), (by rw [hds]; exact (hs.dropN 3))⟩
    · skip
      have hok2 := hok
      have hkd := last_same hck hok hord hc2
      subst hkd
      refine c_skip (q_thenN ?_)
      refine c_reg1 ?_
      refine gL hf (g_fa (off' := 8) hf F89_1 rfl rfl) (by decide) ?_; clear hf a; intro a hf
      refine gL hf (g_ld hf hs T31 rfl (k := 3) rfl rfl) (by decide) ?_; clear hf a; intro a hf
      refine gL hf (g_mv hf rfl) (by decide) ?_; clear hf a; intro a hf
      refine vL hf (v_lits (len := 1) hf hs SL31 T3 (.cons rfl .nil) rfl rfl rfl rfl (by decide) rfl) (by decide) ?_; clear hs hf a; rintro _ w ⟨b8, rfl, hs⟩ a hf
      refine vL hf (v_accN (e := 3) (R := []) (o := oa) hf 8 hs (by simp) hoa AP31 (enc := encI) (l := (doesTo k i)) (l' := [doesK k (k.ws.getD i default)]) (fun _ => rfl) (by decide) (by intro x v hv9; rw [List.mem_singleton.1 hv9]; rfl) rfl rfl rfl (rd_one rfl (hs.own _ _ (.head _)).2) (by omega) (by decide)) (by decide) ?_; clear hs hf a; rintro _ w ⟨oa2, rfl, hoa2, hs⟩ a hf; dsimp only [List.take, List.cons_append, List.nil_append] at hs; rw [List.append_nil] at hs
      rw [show (doesTo k i).length + 1 = (doesTo k i ++ [doesK k (k.ws.getD i default)]).length by rw [List.length_append]; rfl] at hf
      refine gL hf (g_fa (off' := 8) hf F89_1 rfl rfl) (by decide) ?_; clear hf a; intro a hf
      refine uL (u_st hf hs T31 rfl rfl (plain_acc _ _ _) (k := 4) rfl (Nat.le_of_ble_eq_true rfl)) ?_; clear hs; intro w hs; dsimp only [List.set] at hs
      refine e_nil1 (q_blkN (q_thenN ?_))
      refine c_reg1 ?_
      refine gL hf (g_addI hf rfl rfl (by omega)) (by decide) ?_; clear hf a; intro a hf
      refine gL hf (g_mv hf rfl) (by decide) ?_; clear hf a; intro a hf
      refine e_nil1 (q_thenN ?_)
      first | exact ⟨(i + 1, ((pad7 (k.ws.getD i default).order), (doesP k.sh (k.ws.getD i default).order).1), oa2), ⟨by dsimp only; omega, hok2, by dsimp only; rw [hds]; exact hoa2⟩, (by dsimp only; omega), hf.back (by repeat (first | (with_reducible exact Ext.base) | ((with_reducible refine Ext.cons ?_ ?_); (· rfl)) | ((with_reducible refine Ext.over ?_ ?_ ?_); (· rfl); (· rfl)))) (allKeys rfl) (.cons rfl (.cons rfl .nil)), (by rw [hds]; exact (hs.dropN 3))⟩ | exact ⟨(i + 1, (la, (doesP k.sh (k.ws.getD i default).order).1), oa2), ⟨by dsimp only; omega, hok2, by dsimp only; rw [hds]; exact hoa2⟩, (by dsimp only; omega), hf.back (by repeat (first | (with_reducible exact Ext.base) | ((with_reducible refine Ext.cons ?_ ?_); (· rfl)) | ((with_reducible refine Ext.over ?_ ?_ ?_); (· rfl); (· rfl)))) (allKeys rfl) (.cons rfl (.cons rfl .nil)), (by rw [hds]; exact (hs.dropN 3))⟩
  · try simp only [decide_eq_true_eq, decide_eq_false_iff_not] at hc1
    have hie : i = k.ws.length := by omega
    subst hie
    have hn1 : ∀ q, oa = some q → w0.heap.size ≤ q.1 := fun q e => by subst e; exact (hs.own _ _ (.tail _ (.tail _ (.tail _ (.tail _ (.tail _ (.head _))))))).1
    have hn2 : ∀ q, oa = some q → q.1 ≠ b3 := fun q e h9 => by subst e; have h8 := hs.nodup; simp [ids, accH, h9] at h8
    have hdl := doesTo_len (k := k) hile
    obtain ⟨A3, c3, e3, hl3, hs⟩ := hs.freeze (R := []) (e := 3) (o := oa) (enc := encI) (sz := 1) 5 (by simp) hoa (fun _ => rfl) (by decide)
    have hA3 := acc_new hn1 e3; have hA4 := acc_ne hn2 e3
    rw [e3] at hs
    dsimp only [List.take, List.cons_append, List.nil_append] at hs
    refine c_exit (q_thenX (q_thenX (q_blkX (q_thenN ?_))))
    refine c_reg ?_
    refine gL hf (g_ldW hf hs T89 rfl (k := 1) rfl rfl) (by decide) ?_; clear hf a; intro a hf
    refine uL (u_stW hf hs T89 rfl rfl rfl (k := 3) rfl rfl rfl) ?_; clear hs; intro w hs; dsimp only [List.set] at hs
    refine e_nil ?_
    refine c_ret ?_
    refine e_res hf hs rfl (.cellA T89 rfl (k := 3) rfl rfl .nil) rfl ?_
    exact ⟨_, rfl, hs.below, A3, c3, b3, by rw [hdl]; rfl, (hs.own _ _ (.tail _ (.tail _ (.head _)))).1, (hs.own _ _ (.tail _ (.tail _ (.head _)))).2, by (have h9 := hs.rd (.head _); rw [hdl, doesTo_all] at h9; exact h9), fun b o e => ⟨hA3 b o e, hA4 b o e⟩⟩

end Go.Proofs.YtjjcopeedcdokaaDoor

set_option linter.unusedVariables false
set_option linter.unusedSimpArgs false
namespace Go.Proofs.YtjjcopeedcdokaaDoor
open Go.RowKit
section
variable {w0 : Base} {Ds : List (World → Prop)} {H : Own} {w w3 : World}
theorem St.told {mb j : Nat} {o : Obj} {D : World → Prop} (hs : St w0 Ds H w) (hj : H[j]? = some (mb, o)) (hD : D ∈ Ds) : Stable [mb] w D :=
  (hs.data D hD).sub fun i hi => by rw [List.mem_singleton.1 hi]; exact List.mem_append_right _ (ids_mem (List.mem_of_getElem? hj))
/-- Another own block is not turned. -/
theorem St.fixM {mb i j b : Nat} {o : Obj} {cs : Array Value} {e : TypeId} (hs : St w0 Ds H w) (hj : H[j]? = some (mb, o)) (hi : H[i]? = some (b, .cells cs e (0, 0))) (hne : i ≠ j) : Stable [mb] w (BlkIs b cs e (0, 0)) :=
  BlkIs.stable (hs.own _ _ (List.mem_of_getElem? hi)).2 fun hm => by
    have h1 : (ids H)[i]? = some b := by simp [ids, hi]
    have h2 : (ids H)[j]? = some b := by simp [ids, hj]; exact (List.mem_singleton.1 hm).symm
    have hil : i < (ids H).length := (List.getElem?_eq_some_iff.1 h1).1
    exact hne ((List.getElem?_inj hil hs.nodup).1 (h1.trans h2.symm))
theorem at3 {L : List (World → Prop)} {mb : Nat} {m : KM} (h : ∀ D ∈ L, Stable [mb] w3 D) (hl : Later [mb] w3 w) (hm : w.heap[mb]? = some (mapK m)) : St (Base.rnd w [mb] [] noE) L [(mb, mapK m)] w :=
  ⟨⟨rfl, rfl, rfl, Later.refl _ _⟩, fun b o hb => by
    rcases List.mem_singleton.1 hb with e
    cases e
    exact ⟨.inl (by simp), hm⟩, by simp, fun D hD => (h D hD).later hl⟩
end
theorem all_nil {α : Type} {Q : α → Prop} : ∀ D ∈ ([] : List α), Q D := fun D hD => by cases hD
theorem all_cons {α : Type} {Q : α → Prop} {a : α} {l : List α} (h : Q a) (hl : ∀ D ∈ l, Q D) : ∀ D ∈ a :: l, Q D := fun D hD => by
  rcases List.mem_cons.1 hD with rfl | hD
  · exact h
  · exact hl D hD
theorem drop_cons' {k : Bk} {i : Nat} (h : i < k.ws.length) : k.ws.drop i = k.ws.getD i default :: k.ws.drop (i + 1) := by
  rw [List.drop_eq_getElem_cons h, List.getD_eq_getElem?_getD, List.getElem?_eq_getElem h]; rfl
theorem allP_drop {k : Bk} {what i : Nat} (h : i < k.ws.length) : allP k what (k.ws.drop i) = ((ofZ k what (k.ws.getD i default)).1 + (allP k what (k.ws.drop (i + 1))).1, (ofZ k what (k.ws.getD i default)).2 + (allP k what (k.ws.drop (i + 1))).2) := by
  rw [drop_cons' h]; rfl
theorem allP_end {k : Bk} {what i : Nat} (h : i = k.ws.length) : allP k what (k.ws.drop i) = (0, 0) := by
  rw [h, List.drop_length]; rfl
theorem allP_dropr {k : Bk} (hv : BkV k) {what : Nat} (hw : what < 3) (i : Nat) : -2400000 ≤ (allP k what (k.ws.drop i)).1 ∧ (allP k what (k.ws.drop i)).1 ≤ (allP k what (k.ws.drop i)).2 ∧ (allP k what (k.ws.drop i)).2 ≤ 2400000 ∧ (what < 2 → 0 ≤ (allP k what (k.ws.drop i)).1) := by
  have h := allP_rng hv hw (k.ws.drop i) fun x hx => hv.w x (List.mem_of_mem_drop hx)
  have hl : (k.ws.drop i).length ≤ 4 := by have := hv.n; rw [List.length_drop]; omega
  exact ⟨by omega, h.2.1, by omega, h.2.2.2⟩
/-- What the closure promises, so many workers being left. -/
def AllSpec (k : Bk) (mb what bb bw bn : Nat) (w3 : World) (r : Nat) : Prop := ∀ (w : World) (i : Nat), i + r = k.ws.length → Later [mb] w3 w → MapAt k mb w →
  Calls Tryd.prog 111 #[.int .i64 ((i : Nat) : Int), .pointer (some ⟨bb, 0, none⟩), .pointer (some ⟨bw, 0, none⟩), .pointer (some ⟨bn, 0, none⟩)] w (MRet k mb w (.agg #[.int .i64 (allP k what (k.ws.drop i)).1, .int .i64 (allP k what (k.ws.drop i)).2]))
/-- Errors, by cases. -/
theorem askH_zero {k : Bk} {wi : Int} (h : askH k wi = 0) : hckB k = true ∧ wkrB k wi = true := by
  unfold askH at h
  cases h1 : hckB k with
  | false => rw [h1] at h; cases h
  | true =>
    rw [h1] at h
    cases h2 : wkrB k wi with
    | false => rw [h2] at h; cases h
    | true => exact ⟨rfl, rfl⟩
theorem askH_ok {k : Bk} {i : Nat} (h1 : hckB k = true) (h2 : i < k.ws.length) : askH k ((i : Nat) : Int) = 0 := by
  unfold askH; rw [h1, wkr_of h2]; rfl
end Go.Proofs.YtjjcopeedcdokaaDoor

set_option linter.unusedVariables false
set_option linter.unusedSimpArgs false
namespace Go.Proofs.YtjjcopeedcdokaaDoor
open Go.RowKit
theorem c_all_step (k : Bk) (fA : Option Addr) (fc : Nat) (rA : Option Addr) (rc : Nat) (wA : Option Addr) (wc : Nat) (dA : Option Addr) (dc mb : Nat) (what : Nat) (hwh : what < 3) (hv : BkV k) (te : TypeId) (tz : Nat × Nat) (bb bw bn : Nat) (w3 : World) (hs3 : ∀ D ∈ [BlkIs bb #[.int .i64 k.sh.wide, .int .i64 k.sh.high, .slice fA k.sh.flaps.length fc, .slice rA k.sh.rules.length rc, .int .i64 k.gross, .int .i64 k.pay, .int .i64 k.fine, .slice wA k.ws.length wc, .slice dA k.ws.length dc, .map (some mb)] 89 (0, 0), BlkIs bw #[.int .i64 ((what : Nat) : Int)] 3 (0, 0), BlkIs bn #[.func (.func 111) #[] #[.pointer (some ⟨bb, 0, none⟩), .pointer (some ⟨bw, 0, none⟩), .pointer (some ⟨bn, 0, none⟩)]] 74 (0, 0), BlkIs 0 toldA te tz, Rd encF 5 fA k.sh.flaps.length k.sh.flaps, Rd encR 2 rA k.sh.rules.length k.sh.rules, Rd encW 6 wA k.ws.length k.ws, OrdD k.ws, Rd encI 1 dA k.ws.length (doesL k)], Stable [mb] w3 D) (r : Nat) (ih : ∀ r1, r1 < r → AllSpec k mb what bb bw bn w3 r1) (i : Nat) (hir : i + r = k.ws.length) (w0 : World) (hl3 : Later [mb] w3 w0) (hmap : MapAt k mb w0) :
    Calls Tryd.prog 111 #[.int .i64 ((i : Nat) : Int), .pointer (some ⟨bb, 0, none⟩), .pointer (some ⟨bw, 0, none⟩), .pointer (some ⟨bn, 0, none⟩)] w0 (MRet k mb w0 (.agg #[.int .i64 (allP k what (k.ws.drop (i))).1, .int .i64 (allP k what (k.ws.drop (i))).2])) := by
  obtain ⟨m, hkm, hmb⟩ := hmap
  have hwn := hv.n
  refine c_enter (n := 40) Tryd.func111 rfl rfl (Nat.le_of_ble_eq_true rfl) ?_; intro a hf; simp only [zipR] at hf
  have hs := at3 hs3 hl3 hmb
  refine c_reg ?_
  refine vL hf (v_alloc hs T40 rfl) (by decide) ?_; clear hs hf a; rintro _ w ⟨b1, rfl, hs⟩ a hf
  refine e_nil ?_
  refine wp_seq ?_
  refine c_reg ?_
  refine gL hf (g_mv hf rfl) (by decide) ?_; clear hf a; intro a hf
  refine gL hf (g_fa (off' := 0) hf F89_0 rfl rfl) (by decide) ?_; clear hf a; intro a hf
  refine gL hf (g_fa (off' := 7) hf F28_4 rfl rfl) (by decide) ?_; clear hf a; intro a hf
  refine gL hf (g_ldB hf hs (.head _) T26 rfl rfl) (by decide) ?_; clear hf a; intro a hf
  refine gL hf (g_len hf SL26 rfl) (by decide) ?_; clear hf a; intro a hf
  refine gL hf (g_eql hf rfl rfl) (by decide) ?_; clear hf a; intro a hf
  refine e_nil ?_
  refine c_cond hf rfl (fun hc1 => ?_) (fun hc1 => ?_)
  · skip
    have hie : i = k.ws.length := nat_is _ hc1
    refine c_reg ?_
    refine gL hf (g_bld hf [[.int .i64 0], [.int .i64 0]] .nil (fun _ => by kernel_rfl)) (by decide) ?_; clear hf a; intro a hf
    refine uL (u_stW hf hs T40 rfl rfl rfl (k := 0) rfl rfl rfl) ?_; clear hs; intro w hs; dsimp only [List.set] at hs
    refine e_nil ?_
    refine c_ret (q_thenR ?_)
    refine e_res hf hs rfl (.cellA T40 rfl (k := 0) rfl rfl .nil) rfl ?_
    exact ⟨_, rfl, by rw [allP_end hie]; rfl, hs.below.1, hs.below.2.1, hs.below.2.2.1, hs.below.2.2.2, _, hkm, (hs.own _ _ (.tail _ (.head _))).2⟩
  · skip
    have hine : i ≠ k.ws.length := nat_not _ hc1
    have hi : i < k.ws.length := by omega
    have hrx := ofZ_rng hv (hv.wk hi) hwh
    have hrd := allP_dropr hv hwh (i + 1)
    refine c_skip (q_thenN ?_)
    refine c_reg ?_
    refine gL hf (g_ldBW hf hs (.head _) T89 rfl rfl) (by decide) ?_; clear hf a; intro a hf
    refine gL hf (g_mv hf rfl) (by decide) ?_; clear hf a; intro a hf
    refine gL hf (g_ldB hf hs (.tail _ (.head _)) T3 rfl rfl) (by decide) ?_; clear hf a; intro a hf
    refine callM hf hs (j := 1) rfl (c_of k _ fc _ rc _ wc _ _ _ i hi what hwh hv te tz _ (bkO_of fc rc wc hs 1 rfl hkm (.tail _ (.tail _ (.tail _ (.tail _ (.head _))))) (.tail _ (.tail _ (.tail _ (.tail _ (.tail _ (.head _)))))) (.tail _ (.tail _ (.tail _ (.tail _ (.tail _ (.tail _ (.head _))))))) (.tail _ (.tail _ (.tail _ (.tail _ (.tail _ (.tail _ (.tail _ (.head _)))))))) (.tail _ (.tail _ (.tail _ (.tail _ (.tail _ (.tail _ (.tail _ (.tail _ (.head _)))))))))) (hs.told (j := 1) rfl (.tail _ (.tail _ (.tail _ (.head _)))))) rfl rfl rfl E74 (by decide) ?_; clear hs hf a; intro m w a hkm hs hf; dsimp only [List.set] at hs
    refine gL hf (g_mv hf rfl) (by decide) ?_; clear hf a; intro a hf
    refine gL hf (g_ext hf rfl rfl) (by decide) ?_; clear hf a; intro a hf
    refine gL hf (g_ext hf rfl rfl) (by decide) ?_; clear hf a; intro a hf
    refine vL hf (v_alloc hs T40 rfl) (by decide) ?_; clear hs hf a; rintro _ w ⟨b2, rfl, hs⟩ a hf
    refine uL (u_stW hf hs T40 rfl rfl rfl (k := 0) rfl rfl rfl) ?_; clear hs; intro w hs; dsimp only [List.set] at hs
    refine gL hf (g_as hf rfl) (by decide) ?_; clear hf a; intro a hf
    refine e_nil ?_
    refine c_reg ?_
    refine gL hf (g_ldB hf hs (.tail _ (.tail _ (.head _))) T74 rfl rfl) (by decide) ?_; clear hf a; intro a hf
    refine gL hf (g_mv hf rfl) (by decide) ?_; clear hf a; intro a hf
    refine gL hf (g_addI hf rfl rfl (by omega)) (by decide) ?_; clear hf a; intro a hf
    rw [show ((i : Nat) : Int) + 1 = ((i + 1 : Nat) : Int) by omega] at hf
    refine callM hf hs (j := 2) rfl (ih (r - 1) (by omega) _ (i + 1) (by omega) (hl3.trans hs.below.2.2.2) ⟨_, hkm, (hs.own _ _ (.tail _ (.tail _ (.head _)))).2⟩) rfl rfl rfl E111 (by decide) ?_; clear hs hf a; intro m w a hkm hs hf; dsimp only [List.set] at hs
    refine vL hf (v_alloc hs T40 rfl) (by decide) ?_; clear hs hf a; rintro _ w ⟨b3, rfl, hs⟩ a hf
    refine uL (u_stW hf hs T40 rfl rfl rfl (k := 0) rfl rfl rfl) ?_; clear hs; intro w hs; dsimp only [List.set] at hs
    refine e_nil ?_
    refine c_draw _ 14 Mx rfl hs (fun _ h => h.sub (.cons_cons _ (.cons_cons _ (.cons _ (.refl _))))) ?_; intro w hs hS
    refine gA hf hS (i := 0) rfl (by kernel_rfl) (fun w hs => g_fa (off' := 0) hf F40_0 rfl rfl) (by decide) ?_; clear hf a; intro a hf
    refine gA hf hS (i := 1) rfl (by kernel_rfl) (fun w hs => g_ld hf hs T3 rfl (k := 1) rfl rfl) (by decide) ?_; clear hf a; intro a hf
    refine gA hf hS (i := 2) rfl (by kernel_rfl) (fun w hs => g_fa (off' := 0) hf F40_0 rfl rfl) (by decide) ?_; clear hf a; intro a hf
    refine gA hf hS (i := 3) rfl (by kernel_rfl) (fun w hs => g_ld hf hs T3 rfl (k := 0) rfl rfl) (by decide) ?_; clear hf a; intro a hf
    refine gA hf hS (i := 6) rfl (by kernel_rfl) (fun w hs => g_fa (off' := 1) hf F40_1 rfl rfl) (by decide) ?_; clear hf a; intro a hf
    refine gA hf hS (i := 7) rfl (by kernel_rfl) (fun w hs => g_ld hf hs T3 rfl (k := 1) rfl rfl) (by decide) ?_; clear hf a; intro a hf
    refine gA hf hS (i := 8) rfl (by kernel_rfl) (fun w hs => g_fa (off' := 1) hf F40_1 rfl rfl) (by decide) ?_; clear hf a; intro a hf
    refine gA hf hS (i := 9) rfl (by kernel_rfl) (fun w hs => g_ld hf hs T3 rfl (k := 0) rfl rfl) (by decide) ?_; clear hf a; intro a hf
    refine two (i := 4) (j := 10) (by kernel_rfl) ?_ ?_
    · skip
      refine oV hf rfl (v_lits (len := 2) hf hs SL31 T3 (.cons rfl (.cons rfl .nil)) rfl rfl rfl rfl (by decide) rfl) (by decide) (fun _ _ ⟨_, _, h⟩ => h.sub (.cons _ (.cons_cons _ (.cons_cons _ (.cons _ (.refl _)))))) ?_; clear hs hf hS a; rintro _ w ⟨b4, rfl, hs⟩ hS a hf
      refine two (i := 5) (j := 10) (by kernel_rfl) ?_ ?_
      · skip
        refine oCall hf hs rfl (c_sum _ _ [_, _] ⟨Nat.le_of_ble_eq_true rfl, fun x hx => by simp only [List.mem_cons, List.not_mem_nil, or_false] at hx; rcases hx with rfl | rfl <;> omega⟩ _ (rd_two (hs.own _ _ (.head _)).2)) rfl rfl rfl E112 (by decide) (fun _ h => h.sub (.cons _ (.cons_cons _ (.cons_cons _ (.cons _ (.refl _)))))) ?_; clear hs hf hS a; intro w a hs hS hf
        rw [sum2] at hf
        refine one (i := 10) (by kernel_rfl) ?_
        refine oV hf rfl (v_lits (len := 2) hf hs SL31 T3 (.cons rfl (.cons rfl .nil)) rfl rfl rfl rfl (by decide) rfl) (by decide) (fun _ _ ⟨_, _, h⟩ => h.sub (.cons _ (.cons _ (.cons_cons _ (.cons_cons _ (.cons _ (.refl _))))))) ?_; clear hs hf hS a; rintro _ w ⟨b5, rfl, hs⟩ hS a hf
        refine one (i := 11) (by kernel_rfl) ?_
        refine oCall hf hs rfl (c_sum _ _ [_, _] ⟨Nat.le_of_ble_eq_true rfl, fun x hx => by simp only [List.mem_cons, List.not_mem_nil, or_false] at hx; rcases hx with rfl | rfl <;> omega⟩ _ (rd_two (hs.own _ _ (.head _)).2)) rfl rfl rfl E112 (by decide) (fun _ h => h.sub (.cons _ (.cons _ (.cons_cons _ (.cons_cons _ (.cons _ (.refl _))))))) ?_; clear hs hf hS a; intro w a hs hS hf
        rw [sum2] at hf
        refine gA hf hS (i := 12) rfl (by kernel_rfl) (fun w hs => g_bld hf [[.int .i64 0], [.int .i64 0]] (.cons rfl (.cons rfl .nil)) (fun _ => by kernel_rfl)) (by decide) ?_; clear hf a; intro a hf
        refine one (i := 13) (by kernel_rfl) ?_
        refine oU rfl (u_stW hf hs T40 rfl rfl rfl (k := 4) rfl rfl rfl) (fun _ h => h.sub (.cons _ (.cons _ (.cons_cons _ (.cons_cons _ (.cons _ (.refl _))))))) ?_; clear hs hS; intro w hs hS; dsimp only [List.set] at hs
        refine e_done (by kernel_rfl) ?_
        refine c_ret ?_
        refine e_res hf hs rfl (.cellA T40 rfl (k := 4) rfl rfl .nil) rfl ?_
        exact ⟨_, rfl, by rw [allP_drop hi]; rfl, hs.below.1, hs.below.2.1, hs.below.2.2.1, hs.below.2.2.2, _, hkm, (hs.own _ _ (.tail _ (.tail _ (.tail _ (.tail _ (.tail _ (.head _))))))).2⟩
      · skip
        refine oV hf rfl (v_lits (len := 2) hf hs SL31 T3 (.cons rfl (.cons rfl .nil)) rfl rfl rfl rfl (by decide) rfl) (by decide) (fun _ _ ⟨_, _, h⟩ => h.sub (.cons _ (.cons _ (.cons_cons _ (.cons_cons _ (.cons _ (.refl _))))))) ?_; clear hs hf hS a; rintro _ w ⟨b5, rfl, hs⟩ hS a hf
        refine one (i := 5) (by kernel_rfl) ?_
        refine oCall hf hs rfl (c_sum _ _ [_, _] ⟨Nat.le_of_ble_eq_true rfl, fun x hx => by simp only [List.mem_cons, List.not_mem_nil, or_false] at hx; rcases hx with rfl | rfl <;> omega⟩ _ (rd_two (hs.own _ _ (.tail _ (.head _))).2)) rfl rfl rfl E112 (by decide) (fun _ h => h.sub (.cons _ (.cons _ (.cons_cons _ (.cons_cons _ (.cons _ (.refl _))))))) ?_; clear hs hf hS a; intro w a hs hS hf
        rw [sum2] at hf
        refine one (i := 11) (by kernel_rfl) ?_
        refine oCall hf hs rfl (c_sum _ _ [_, _] ⟨Nat.le_of_ble_eq_true rfl, fun x hx => by simp only [List.mem_cons, List.not_mem_nil, or_false] at hx; rcases hx with rfl | rfl <;> omega⟩ _ (rd_two (hs.own _ _ (.head _)).2)) rfl rfl rfl E112 (by decide) (fun _ h => h.sub (.cons _ (.cons _ (.cons_cons _ (.cons_cons _ (.cons _ (.refl _))))))) ?_; clear hs hf hS a; intro w a hs hS hf
        rw [sum2] at hf
        refine gA hf hS (i := 12) rfl (by kernel_rfl) (fun w hs => g_bld hf [[.int .i64 0], [.int .i64 0]] (.cons rfl (.cons rfl .nil)) (fun _ => by kernel_rfl)) (by decide) ?_; clear hf a; intro a hf
        refine one (i := 13) (by kernel_rfl) ?_
        refine oU rfl (u_stW hf hs T40 rfl rfl rfl (k := 4) rfl rfl rfl) (fun _ h => h.sub (.cons _ (.cons _ (.cons_cons _ (.cons_cons _ (.cons _ (.refl _))))))) ?_; clear hs hS; intro w hs hS; dsimp only [List.set] at hs
        refine e_done (by kernel_rfl) ?_
        refine c_ret ?_
        refine e_res hf hs rfl (.cellA T40 rfl (k := 4) rfl rfl .nil) rfl ?_
        exact ⟨_, rfl, by rw [allP_drop hi]; rfl, hs.below.1, hs.below.2.1, hs.below.2.2.1, hs.below.2.2.2, _, hkm, (hs.own _ _ (.tail _ (.tail _ (.tail _ (.tail _ (.tail _ (.head _))))))).2⟩
    · skip
      refine oV hf rfl (v_lits (len := 2) hf hs SL31 T3 (.cons rfl (.cons rfl .nil)) rfl rfl rfl rfl (by decide) rfl) (by decide) (fun _ _ ⟨_, _, h⟩ => h.sub (.cons _ (.cons_cons _ (.cons_cons _ (.cons _ (.refl _)))))) ?_; clear hs hf hS a; rintro _ w ⟨b4, rfl, hs⟩ hS a hf
      refine one (i := 4) (by kernel_rfl) ?_
      refine oV hf rfl (v_lits (len := 2) hf hs SL31 T3 (.cons rfl (.cons rfl .nil)) rfl rfl rfl rfl (by decide) rfl) (by decide) (fun _ _ ⟨_, _, h⟩ => h.sub (.cons _ (.cons _ (.cons_cons _ (.cons_cons _ (.cons _ (.refl _))))))) ?_; clear hs hf hS a; rintro _ w ⟨b5, rfl, hs⟩ hS a hf
      refine one (i := 5) (by kernel_rfl) ?_
      refine oCall hf hs rfl (c_sum _ _ [_, _] ⟨Nat.le_of_ble_eq_true rfl, fun x hx => by simp only [List.mem_cons, List.not_mem_nil, or_false] at hx; rcases hx with rfl | rfl <;> omega⟩ _ (rd_two (hs.own _ _ (.head _)).2)) rfl rfl rfl E112 (by decide) (fun _ h => h.sub (.cons _ (.cons _ (.cons_cons _ (.cons_cons _ (.cons _ (.refl _))))))) ?_; clear hs hf hS a; intro w a hs hS hf
      rw [sum2] at hf
      refine one (i := 11) (by kernel_rfl) ?_
      refine oCall hf hs rfl (c_sum _ _ [_, _] ⟨Nat.le_of_ble_eq_true rfl, fun x hx => by simp only [List.mem_cons, List.not_mem_nil, or_false] at hx; rcases hx with rfl | rfl <;> omega⟩ _ (rd_two (hs.own _ _ (.tail _ (.head _))).2)) rfl rfl rfl E112 (by decide) (fun _ h => h.sub (.cons _ (.cons _ (.cons_cons _ (.cons_cons _ (.cons _ (.refl _))))))) ?_; clear hs hf hS a; intro w a hs hS hf
      rw [sum2] at hf
      refine gA hf hS (i := 12) rfl (by kernel_rfl) (fun w hs => g_bld hf [[.int .i64 0], [.int .i64 0]] (.cons rfl (.cons rfl .nil)) (fun _ => by kernel_rfl)) (by decide) ?_; clear hf a; intro a hf
      refine one (i := 13) (by kernel_rfl) ?_
      refine oU rfl (u_stW hf hs T40 rfl rfl rfl (k := 4) rfl rfl rfl) (fun _ h => h.sub (.cons _ (.cons _ (.cons_cons _ (.cons_cons _ (.cons _ (.refl _))))))) ?_; clear hs hS; intro w hs hS; dsimp only [List.set] at hs
      refine e_done (by kernel_rfl) ?_
      refine c_ret ?_
      refine e_res hf hs rfl (.cellA T40 rfl (k := 4) rfl rfl .nil) rfl ?_
      exact ⟨_, rfl, by rw [allP_drop hi]; rfl, hs.below.1, hs.below.2.1, hs.below.2.2.1, hs.below.2.2.2, _, hkm, (hs.own _ _ (.tail _ (.tail _ (.tail _ (.tail _ (.tail _ (.head _))))))).2⟩

end Go.Proofs.YtjjcopeedcdokaaDoor

set_option linter.unusedVariables false
set_option linter.unusedSimpArgs false
namespace Go.Proofs.YtjjcopeedcdokaaDoor
open Go.RowKit
theorem c_all_go (k : Bk) (fA : Option Addr) (fc : Nat) (rA : Option Addr) (rc : Nat) (wA : Option Addr) (wc : Nat) (dA : Option Addr) (dc mb : Nat) (what : Nat) (hwh : what < 3) (hv : BkV k) (te : TypeId) (tz : Nat × Nat) (bb bw bn : Nat) (w3 : World)
    (hs3 : ∀ D ∈ [BlkIs bb #[.int .i64 k.sh.wide, .int .i64 k.sh.high, .slice fA k.sh.flaps.length fc, .slice rA k.sh.rules.length rc, .int .i64 k.gross, .int .i64 k.pay, .int .i64 k.fine, .slice wA k.ws.length wc, .slice dA k.ws.length dc, .map (some mb)] 89 (0, 0), BlkIs bw #[.int .i64 ((what : Nat) : Int)] 3 (0, 0), BlkIs bn #[.func (.func 111) #[] #[.pointer (some ⟨bb, 0, none⟩), .pointer (some ⟨bw, 0, none⟩), .pointer (some ⟨bn, 0, none⟩)]] 74 (0, 0), BlkIs 0 toldA te tz, Rd encF 5 fA k.sh.flaps.length k.sh.flaps, Rd encR 2 rA k.sh.rules.length k.sh.rules, Rd encW 6 wA k.ws.length k.ws, OrdD k.ws, Rd encI 1 dA k.ws.length (doesL k)], Stable [mb] w3 D) :
    ∀ r, AllSpec k mb what bb bw bn w3 r := by
  intro r
  induction r using Nat.strongRecOn with
  | ind r ih => exact fun w i hir hl hm => c_all_step k fA fc rA rc wA wc dA dc mb what hwh hv te tz bb bw bn w3 hs3 r ih i hir w hl hm
theorem togH_err {k : Bk} (h : togE k ≠ 0) (hb : hckB k = true) : togE k = 92 ∧ wrongL k ≠ [] := by
  unfold togE at h ⊢
  rw [hb] at h ⊢
  by_cases h2 : wrongL k = []
  · rw [if_pos rfl, if_pos h2] at h; exact absurd rfl h
  · exact ⟨by rw [if_pos rfl, if_neg h2], h2⟩
theorem tell_ok {k : Bk} {i : Nat} (hb : hckB k = true) (hi : i < k.ws.length) (what : Nat) : tellP k ((i : Nat) : Int) what = if rightB (k.ws.getD i default) = true then (ofZ k what (k.ws.getD i default), 0) else ((0, 0), 92) := by
  rw [askQ_tell]
  unfold askQ
  rw [hb, wkr_of hi, wkA_nat]
  cases rightB (k.ws.getD i default) <;> simp
end Go.Proofs.YtjjcopeedcdokaaDoor

set_option linter.unusedVariables false
set_option linter.unusedSimpArgs false
namespace Go.Proofs.YtjjcopeedcdokaaDoor
open Go.RowKit
theorem c_allH (k : Bk) (fA : Option Addr) (fc : Nat) (rA : Option Addr) (rc : Nat) (wA : Option Addr) (wc : Nat) (dA : Option Addr) (dc mb : Nat) (what : Nat) (hwh : what < 3) (hv : BkV k) (te : TypeId) (tz : Nat × Nat) (w0 : World) (h : BkO k fA fc rA rc wA wc dA mb w0) (hT : Stable [mb] w0 (BlkIs 0 toldA te tz)) :
    Calls Tryd.prog 77 #[.agg #[.int .i64 k.sh.wide, .int .i64 k.sh.high, .slice fA k.sh.flaps.length fc, .slice rA k.sh.rules.length rc, .int .i64 k.gross, .int .i64 k.pay, .int .i64 k.fine, .slice wA k.ws.length wc, .slice dA k.ws.length dc, .map (some mb)], .int .i64 ((what : Nat) : Int)] w0 (MRet k mb w0 (.agg #[.int .i64 (allP k what k.ws).1, .int .i64 (allP k what k.ws).2])) := by
  obtain ⟨m, hkm, hmb⟩ := h.map
  refine c_enter (n := 9) Tryd.func77 rfl rfl (Nat.le_of_ble_eq_true rfl) ?_; intro a hf; simp only [zipR] at hf
  have hs := h.at_ hmb [BlkIs 0 toldA te tz] (stab1 hT)
  dsimp only [List.nil_append, List.cons_append] at hs
  have hwm := h.W.now.2.1
  refine c_reg ?_
  refine vL hf (v_boxA hf hs rfl) (by decide) ?_; clear hs hf a; rintro _ w ⟨b1, rfl, hs⟩ a hf
  refine vL hf (v_box hf hs rfl rfl) (by decide) ?_; clear hs hf a; rintro _ w ⟨b2, rfl, hs⟩ a hf
  refine vL hf (v_alloc hs T40 rfl) (by decide) ?_; clear hs hf a; rintro _ w ⟨b3, rfl, hs⟩ a hf
  refine e_nil ?_
  refine c_reg ?_
  refine vL hf (v_alloc hs T74 rfl) (by decide) ?_; clear hs hf a; rintro _ w ⟨b4, rfl, hs⟩ a hf
  refine e_nil ?_
  refine c_reg ?_
  refine gL hf (g_fn hf rfl rfl) (by decide) ?_; clear hf a; intro a hf
  refine uL (u_st hf hs T74 rfl rfl rfl (k := 0) rfl (Nat.le_of_ble_eq_true rfl)) ?_; clear hs; intro w hs; dsimp only [List.set] at hs
  refine e_nil ?_
  refine c_reg ?_
  refine gL hf (g_ld hf hs T74 rfl (k := 0) rfl rfl) (by decide) ?_; clear hf a; intro a hf
  refine callM hf hs (j := 4) rfl (c_all_go k fA fc rA rc wA wc dA dc mb what hwh hv te tz b1 b2 b4 _ (all_cons (hs.fixM (i := 3) (j := 4) rfl rfl (by decide)) (all_cons (hs.fixM (i := 2) (j := 4) rfl rfl (by decide)) (all_cons (hs.fixM (i := 0) (j := 4) rfl rfl (by decide)) (all_cons (hs.told (j := 4) rfl (.head _)) (all_cons (hs.told (j := 4) rfl (.tail _ (.head _))) (all_cons (hs.told (j := 4) rfl (.tail _ (.tail _ (.head _)))) (all_cons (hs.told (j := 4) rfl (.tail _ (.tail _ (.tail _ (.head _))))) (all_cons (hs.told (j := 4) rfl (.tail _ (.tail _ (.tail _ (.tail _ (.head _)))))) (all_cons (hs.told (j := 4) rfl (.tail _ (.tail _ (.tail _ (.tail _ (.tail _ (.head _))))))) all_nil))))))))) k.ws.length _ 0 (by omega) (Later.refl _ _) ⟨_, hkm, (hs.own _ _ (.tail _ (.tail _ (.tail _ (.tail _ (.head _)))))).2⟩) rfl rfl rfl E111 (by decide) ?_; clear hs hf a; intro m w a hkm hs hf; dsimp only [List.set] at hs
  refine uL (u_stW hf hs T40 rfl rfl rfl (k := 1) rfl rfl rfl) ?_; clear hs; intro w hs; dsimp only [List.set] at hs
  refine e_nil ?_
  refine c_ret ?_
  refine e_res hf hs rfl (.cellA T40 rfl (k := 1) rfl rfl .nil) rfl ?_
  exact ⟨_, rfl, by rw [List.drop_zero]; rfl, hs.below.1, hs.below.2.1, hs.below.2.2.1, hs.below.2.2.2, _, hkm, (hs.own _ _ (.tail _ (.tail _ (.tail _ (.tail _ (.head _)))))).2⟩

theorem c_askedH_err (k : Bk) (fA : Option Addr) (fc : Nat) (rA : Option Addr) (rc : Nat) (wA : Option Addr) (wc : Nat) (ge : TypeId) (gz : Nat × Nat) (wi : Int) (he : askH k wi ≠ 0) (w0 : World) (h : BkIn k fA fc rA rc wA wc w0) (hG : BlkIs 1 sidesA ge gz w0) :
    Calls Tryd.prog 80 #[.agg #[.int .i64 k.sh.wide, .int .i64 k.sh.high, .slice fA k.sh.flaps.length fc, .slice rA k.sh.rules.length rc, .int .i64 k.gross, .int .i64 k.pay, .int .i64 k.fine, .slice wA k.ws.length wc], .int .i64 wi] w0 (Ret w0 (.tuple #[.agg #[.int .i64 0, .int .i64 0, .slice none 0 0, .slice none 0 0, .int .i64 0, .int .i64 0, .int .i64 0, .slice none 0 0, .slice none 0 0, .map none], .int .i64 (askH k wi)])) := by
  refine c_enter (n := 23) Tryd.func80 rfl rfl (Nat.le_of_ble_eq_true rfl) ?_; intro a hf; simp only [zipR] at hf
  have hs := St.start w0 [Rd encF 5 fA k.sh.flaps.length k.sh.flaps, Rd encR 2 rA k.sh.rules.length k.sh.rules, Rd encW 6 wA k.ws.length k.ws, OrdD k.ws, BlkIs 1 sidesA ge gz] (stab_app h.stab hG.st1)
  have hwm := h.W.2.1
  refine c_reg ?_
  refine vL hf (v_boxA hf hs rfl) (by decide) ?_; clear hs hf a; rintro _ w ⟨b1, rfl, hs⟩ a hf
  refine vL hf (v_alloc hs T89 rfl) (by decide) ?_; clear hs hf a; rintro _ w ⟨b2, rfl, hs⟩ a hf
  refine gL hf (g_as hf rfl) (by decide) ?_; clear hf a; intro a hf
  refine e_nil ?_
  refine wp_seq ?_
  refine c_reg ?_
  refine gL hf (g_ldW hf hs T28 rfl (k := 1) rfl rfl) (by decide) ?_; clear hf a; intro a hf
  refine callL hf hs (c_CheckH k _ _ _ _ _ _ ge gz _ ⟨⟨hs.rd (.head _), hs.rd (.tail _ (.head _)), h.sh.fc_, h.sh.rc_⟩, hs.rd (.tail _ (.tail _ (.head _))), h.wc_, hs.rd (.tail _ (.tail _ (.tail _ (.head _))))⟩ (hs.rd (.tail _ (.tail _ (.tail _ (.tail _ (.head _))))))) rfl rfl rfl E33 (by decide) ?_; clear hs hf a; intro w a hs hf
  refine gL hf (g_as hf rfl) (by decide) ?_; clear hf a; intro a hf
  refine e_nil ?_
  refine c_reg ?_
  refine gL hf (g_mv hf rfl) (by decide) ?_; clear hf a; intro a hf
  refine gL hf (g_neq hf rfl rfl) (by decide) ?_; clear hf a; intro a hf
  refine e_nil ?_
  refine c_cond hf rfl (fun hc1 => ?_) (fun hc1 => ?_)
  · skip
    have hbk : hckB k = false := by cases h9 : hckB k with | false => rfl | true => rw [bookE, h9] at hc1; cases hc1
    refine c_reg ?_
    refine gL hf (g_bld hf [[.int .i64 0, .int .i64 0, .slice none 0 0, .slice none 0 0, .int .i64 0, .int .i64 0, .int .i64 0, .slice none 0 0], [.slice none 0 0], [.map none]] .nil (fun _ => by kernel_rfl)) (by decide) ?_; clear hf a; intro a hf
    refine gL hf (g_mv hf rfl) (by decide) ?_; clear hf a; intro a hf
    refine uL (u_stW hf hs T89 rfl rfl rfl (k := 0) rfl rfl rfl) ?_; clear hs; intro w hs; dsimp only [List.set] at hs
    refine gL hf (g_as hf rfl) (by decide) ?_; clear hf a; intro a hf
    refine e_nil ?_
    refine c_ret (q_thenR ?_)
    refine e_res hf hs rfl (.cellA T89 rfl (k := 0) rfl rfl (.tmp rfl .nil)) rfl ?_
    exact ⟨by rw [askH, bookE, hbk]; rfl, hs.below⟩
  · skip
    have hbk : hckB k = true := by cases h9 : hckB k with | false => (rw [bookE, h9] at hc1; cases hc1) | true => rfl
    refine c_skip (q_thenN ?_)
    refine wp_seq ?_
    refine c_reg ?_
    refine gL hf (g_mv hf rfl) (by decide) ?_; clear hf a; intro a hf
    refine gL hf (g_fa (off' := 7) hf F28_4 rfl rfl) (by decide) ?_; clear hf a; intro a hf
    refine gL hf (g_ld hf hs T26 rfl (k := 1) rfl rfl) (by decide) ?_; clear hf a; intro a hf
    refine gL hf (g_len hf SL26 rfl) (by decide) ?_; clear hf a; intro a hf
    refine gL hf (g_subI hf rfl rfl (by omega)) (by decide) ?_; clear hf a; intro a hf
    refine callL hf hs (c_inH _ _ _ _) rfl rfl rfl E83 (by decide) ?_; clear hs hf a; intro w a hs hf
    refine gL hf (g_not hf rfl) (by decide) ?_; clear hf a; intro a hf
    refine e_nil ?_
    refine c_cond hf rfl (fun hc2 => ?_) (fun hc2 => ?_)
    · skip
      have hwk : wkrB k wi = false := by simpa [wkrB] using hc2
      refine c_reg ?_
      refine gL hf (g_bld hf [[.int .i64 0, .int .i64 0, .slice none 0 0, .slice none 0 0, .int .i64 0, .int .i64 0, .int .i64 0, .slice none 0 0], [.slice none 0 0], [.map none]] .nil (fun _ => by kernel_rfl)) (by decide) ?_; clear hf a; intro a hf
      refine uL (u_stW hf hs T89 rfl rfl rfl (k := 0) rfl rfl rfl) ?_; clear hs; intro w hs; dsimp only [List.set] at hs
      refine gL hf (g_as hf rfl) (by decide) ?_; clear hf a; intro a hf
      refine e_nil ?_
      refine c_ret (q_thenR ?_)
      refine e_res hf hs rfl (.cellA T89 rfl (k := 0) rfl rfl (.tmp rfl .nil)) rfl ?_
      exact ⟨by rw [askH, hbk, hwk]; rfl, hs.below⟩
    · skip
      exact absurd (by rw [askH, if_pos hbk, if_pos (by simpa [wkrB] using hc2)]) he

theorem c_askedH_ok (k : Bk) (fA : Option Addr) (fc : Nat) (rA : Option Addr) (rc : Nat) (wA : Option Addr) (wc : Nat) (ge : TypeId) (gz : Nat × Nat) (wi : Int) (he : askH k wi = 0) (w0 : World) (h : BkIn k fA fc rA rc wA wc w0) (hG : BlkIs 1 sidesA ge gz w0) :
    Calls Tryd.prog 80 #[.agg #[.int .i64 k.sh.wide, .int .i64 k.sh.high, .slice fA k.sh.flaps.length fc, .slice rA k.sh.rules.length rc, .int .i64 k.gross, .int .i64 k.pay, .int .i64 k.fine, .slice wA k.ws.length wc], .int .i64 wi] w0 (RetX w0 (fun v w0' => ∃ dA dc mb, v = .tuple #[.agg #[.int .i64 k.sh.wide, .int .i64 k.sh.high, .slice fA k.sh.flaps.length fc, .slice rA k.sh.rules.length rc, .int .i64 k.gross, .int .i64 k.pay, .int .i64 k.fine, .slice wA k.ws.length wc, .slice dA k.ws.length dc, .map (some mb)], .int .i64 0] ∧ OpR k dA mb w0 w0')) := by
  obtain ⟨hbk0, hwk0⟩ := askH_zero he
  have hv := hck_iff.1 hbk0
  refine c_enter (n := 23) Tryd.func80 rfl rfl (Nat.le_of_ble_eq_true rfl) ?_; intro a hf; simp only [zipR] at hf
  have hs := St.start w0 [Rd encF 5 fA k.sh.flaps.length k.sh.flaps, Rd encR 2 rA k.sh.rules.length k.sh.rules, Rd encW 6 wA k.ws.length k.ws, OrdD k.ws, BlkIs 1 sidesA ge gz] (stab_app h.stab hG.st1)
  have hwm := h.W.2.1
  refine c_reg ?_
  refine vL hf (v_boxA hf hs rfl) (by decide) ?_; clear hs hf a; rintro _ w ⟨b1, rfl, hs⟩ a hf
  refine vL hf (v_alloc hs T89 rfl) (by decide) ?_; clear hs hf a; rintro _ w ⟨b2, rfl, hs⟩ a hf
  refine gL hf (g_as hf rfl) (by decide) ?_; clear hf a; intro a hf
  refine e_nil ?_
  refine wp_seq ?_
  refine c_reg ?_
  refine gL hf (g_ldW hf hs T28 rfl (k := 1) rfl rfl) (by decide) ?_; clear hf a; intro a hf
  refine callL hf hs (c_CheckH k _ _ _ _ _ _ ge gz _ ⟨⟨hs.rd (.head _), hs.rd (.tail _ (.head _)), h.sh.fc_, h.sh.rc_⟩, hs.rd (.tail _ (.tail _ (.head _))), h.wc_, hs.rd (.tail _ (.tail _ (.tail _ (.head _))))⟩ (hs.rd (.tail _ (.tail _ (.tail _ (.tail _ (.head _))))))) rfl rfl rfl E33 (by decide) ?_; clear hs hf a; intro w a hs hf
  refine gL hf (g_as hf rfl) (by decide) ?_; clear hf a; intro a hf
  refine e_nil ?_
  refine c_reg ?_
  refine gL hf (g_mv hf rfl) (by decide) ?_; clear hf a; intro a hf
  refine gL hf (g_neq hf rfl rfl) (by decide) ?_; clear hf a; intro a hf
  refine e_nil ?_
  refine c_cond hf rfl (fun hc1 => ?_) (fun hc1 => ?_)
  · skip
    rw [bookE, hbk0] at hc1; cases hc1
  · skip
    refine c_skip (q_thenN ?_)
    refine wp_seq ?_
    refine c_reg ?_
    refine gL hf (g_mv hf rfl) (by decide) ?_; clear hf a; intro a hf
    refine gL hf (g_fa (off' := 7) hf F28_4 rfl rfl) (by decide) ?_; clear hf a; intro a hf
    refine gL hf (g_ld hf hs T26 rfl (k := 1) rfl rfl) (by decide) ?_; clear hf a; intro a hf
    refine gL hf (g_len hf SL26 rfl) (by decide) ?_; clear hf a; intro a hf
    refine gL hf (g_subI hf rfl rfl (by omega)) (by decide) ?_; clear hf a; intro a hf
    refine callL hf hs (c_inH _ _ _ _) rfl rfl rfl E83 (by decide) ?_; clear hs hf a; intro w a hs hf
    refine gL hf (g_not hf rfl) (by decide) ?_; clear hf a; intro a hf
    refine e_nil ?_
    refine c_cond hf rfl (fun hc2 => ?_) (fun hc2 => ?_)
    · skip
      rw [show wkrB k wi = false by simpa [wkrB] using hc2] at hwk0; cases hwk0
    · skip
      refine c_skip (q_thenN ?_)
      refine c_reg ?_
      refine gL hf (g_ldW hf hs T28 rfl (k := 1) rfl rfl) (by decide) ?_; clear hf a; intro a hf
      refine callX hf hs (c_openedH k _ _ _ _ _ _ ge gz hv _ ⟨⟨hs.rd (.head _), hs.rd (.tail _ (.head _)), h.sh.fc_, h.sh.rc_⟩, hs.rd (.tail _ (.tail _ (.head _))), h.wc_, hs.rd (.tail _ (.tail _ (.tail _ (.head _))))⟩ (hs.rd (.tail _ (.tail _ (.tail _ (.tail _ (.head _))))))) rfl rfl rfl E70 (by decide) ?_; have hle0 := hs.below.size; intro v w1 a hR hb hs1 hf; obtain ⟨dA, dc, mb, rfl, hop⟩ := hR; replace hs := hs.opened hb hop; clear hs1; have hkm := kOK_nil k
      refine uL (u_stW hf hs T89 rfl rfl rfl (k := 1) rfl rfl rfl) ?_; clear hs; intro w hs; dsimp only [List.set] at hs
      refine gL hf (g_as hf rfl) (by decide) ?_; clear hf a; intro a hf
      refine e_nil ?_
      refine c_ret ?_
      refine e_res hf hs rfl (.cellA T89 rfl (k := 1) rfl rfl (.tmp rfl .nil)) rfl ?_
      exact ⟨_, rfl, hs.below, dA, dc, mb, rfl, ⟨Nat.le_trans hle0 hop.1, (hs.own _ _ (.head _)).2, hs.rd (.head _), fun b o e => ⟨Nat.le_trans hle0 (hop.2.2.2 b o e).1, (hop.2.2.2 b o e).2⟩⟩⟩

theorem c_togH_err (k : Bk) (fA : Option Addr) (fc : Nat) (rA : Option Addr) (rc : Nat) (wA : Option Addr) (wc : Nat) (ge : TypeId) (gz : Nat × Nat) (he : togE k ≠ 0) (w0 : World) (h : BkIn k fA fc rA rc wA wc w0) (hG : BlkIs 1 sidesA ge gz w0) :
    Calls Tryd.prog 72 #[.agg #[.int .i64 k.sh.wide, .int .i64 k.sh.high, .slice fA k.sh.flaps.length fc, .slice rA k.sh.rules.length rc, .int .i64 k.gross, .int .i64 k.pay, .int .i64 k.fine, .slice wA k.ws.length wc]] w0 (RetX w0 (fun v w0' => ∃ l : List Value, l.length = 10 ∧ l.all plain = true ∧ v = .tuple #[.agg l.toArray, .int .i64 (togE k)])) := by
  refine c_enter (n := 20) Tryd.func72 rfl rfl (Nat.le_of_ble_eq_true rfl) ?_; intro a hf; simp only [zipR] at hf
  have hs := St.start w0 [Rd encF 5 fA k.sh.flaps.length k.sh.flaps, Rd encR 2 rA k.sh.rules.length k.sh.rules, Rd encW 6 wA k.ws.length k.ws, OrdD k.ws, BlkIs 1 sidesA ge gz] (stab_app h.stab hG.st1)
  have hwm := h.W.2.1
  refine c_reg ?_
  refine vL hf (v_boxA hf hs rfl) (by decide) ?_; clear hs hf a; rintro _ w ⟨b1, rfl, hs⟩ a hf
  refine vL hf (v_alloc hs T89 rfl) (by decide) ?_; clear hs hf a; rintro _ w ⟨b2, rfl, hs⟩ a hf
  refine gL hf (g_as hf rfl) (by decide) ?_; clear hf a; intro a hf
  refine e_nil ?_
  refine wp_seq ?_
  refine c_reg ?_
  refine gL hf (g_ldW hf hs T28 rfl (k := 1) rfl rfl) (by decide) ?_; clear hf a; intro a hf
  refine callL hf hs (c_CheckH k _ _ _ _ _ _ ge gz _ ⟨⟨hs.rd (.head _), hs.rd (.tail _ (.head _)), h.sh.fc_, h.sh.rc_⟩, hs.rd (.tail _ (.tail _ (.head _))), h.wc_, hs.rd (.tail _ (.tail _ (.tail _ (.head _))))⟩ (hs.rd (.tail _ (.tail _ (.tail _ (.tail _ (.head _))))))) rfl rfl rfl E33 (by decide) ?_; clear hs hf a; intro w a hs hf
  refine gL hf (g_as hf rfl) (by decide) ?_; clear hf a; intro a hf
  refine e_nil ?_
  refine c_reg ?_
  refine gL hf (g_mv hf rfl) (by decide) ?_; clear hf a; intro a hf
  refine gL hf (g_neq hf rfl rfl) (by decide) ?_; clear hf a; intro a hf
  refine e_nil ?_
  refine c_cond hf rfl (fun hc1 => ?_) (fun hc1 => ?_)
  · skip
    have hbk : hckB k = false := by cases h9 : hckB k with | false => rfl | true => rw [bookE, h9] at hc1; cases hc1
    refine c_reg ?_
    refine gL hf (g_bld hf [[.int .i64 0, .int .i64 0, .slice none 0 0, .slice none 0 0, .int .i64 0, .int .i64 0, .int .i64 0, .slice none 0 0], [.slice none 0 0], [.map none]] .nil (fun _ => by kernel_rfl)) (by decide) ?_; clear hf a; intro a hf
    refine gL hf (g_mv hf rfl) (by decide) ?_; clear hf a; intro a hf
    refine uL (u_stW hf hs T89 rfl rfl rfl (k := 0) rfl rfl rfl) ?_; clear hs; intro w hs; dsimp only [List.set] at hs
    refine gL hf (g_as hf rfl) (by decide) ?_; clear hf a; intro a hf
    refine e_nil ?_
    refine c_ret (q_thenR ?_)
    refine e_res hf hs rfl (.cellA T89 rfl (k := 0) rfl rfl (.tmp rfl .nil)) rfl ?_
    exact ⟨_, rfl, hs.below, [.int .i64 0, .int .i64 0, .slice none 0 0, .slice none 0 0, .int .i64 0, .int .i64 0, .int .i64 0, .slice none 0 0, .slice none 0 0, .map none], rfl, rfl, by rw [bookE, togE, hbk]; rfl⟩
  · skip
    have hbk : hckB k = true := by cases h9 : hckB k with | false => (rw [bookE, h9] at hc1; cases hc1) | true => rfl
    have hv := hck_iff.1 hbk
    obtain ⟨he2, hwn⟩ := togH_err he hbk
    refine c_skip (q_thenN ?_)
    refine c_reg ?_
    refine gL hf (g_ldW hf hs T28 rfl (k := 1) rfl rfl) (by decide) ?_; clear hf a; intro a hf
    refine callX hf hs (c_openedH k _ _ _ _ _ _ ge gz hv _ ⟨⟨hs.rd (.head _), hs.rd (.tail _ (.head _)), h.sh.fc_, h.sh.rc_⟩, hs.rd (.tail _ (.tail _ (.head _))), h.wc_, hs.rd (.tail _ (.tail _ (.tail _ (.head _))))⟩ (hs.rd (.tail _ (.tail _ (.tail _ (.tail _ (.head _))))))) rfl rfl rfl E70 (by decide) ?_; have hle0 := hs.below.size; intro v w1 a hR hb hs1 hf; obtain ⟨dA, dc, mb, rfl, hop⟩ := hR; replace hs := hs.opened hb hop; clear hs1; have hkm := kOK_nil k
    refine vL hf (v_alloc hs T89 rfl) (by decide) ?_; clear hs hf a; rintro _ w ⟨b3, rfl, hs⟩ a hf
    refine uL (u_stW hf hs T89 rfl rfl rfl (k := 0) rfl rfl rfl) ?_; clear hs; intro w hs; dsimp only [List.set] at hs
    refine e_nil ?_
    refine wp_seq ?_
    refine c_reg ?_
    refine gL hf (g_ldW hf hs T89 rfl (k := 0) rfl rfl) (by decide) ?_; clear hf a; intro a hf
    refine callX hf hs (c_wrongH k fA fc rA rc wA wc dA _ mb hv _ (hs.rd (.tail _ (.tail _ (.tail _ (.head _)))))) rfl rfl rfl E71 (by decide) ?_; intro v w1 a hR hb hs1 hf; obtain ⟨Aw, cw, rfl, how⟩ := hR; replace hs := hs.fresh hs1 (outFresh how); clear hs1 hb
    refine gL hf (g_len hf SL31 rfl) (by decide) ?_; clear hf a; intro a hf
    refine gL hf (g_gtr hf rfl rfl) (by decide) ?_; clear hf a; intro a hf
    refine e_nil ?_
    refine c_cond hf rfl (fun hc2 => ?_) (fun hc2 => ?_)
    · try simp only [decide_eq_true_eq, decide_eq_false_iff_not] at hc2
      refine c_reg ?_
      refine gL hf (g_ldW hf hs T89 rfl (k := 0) rfl rfl) (by decide) ?_; clear hf a; intro a hf
      refine uL (u_stW hf hs T89 rfl rfl rfl (k := 2) rfl rfl rfl) ?_; clear hs; intro w hs; dsimp only [List.set] at hs
      refine gL hf (g_as hf rfl) (by decide) ?_; clear hf a; intro a hf
      refine e_nil ?_
      refine c_ret (q_thenR ?_)
      refine e_res hf hs rfl (.cellA T89 rfl (k := 2) rfl rfl (.tmp rfl .nil)) rfl ?_
      exact ⟨_, rfl, hs.below, [.int .i64 k.sh.wide, .int .i64 k.sh.high, .slice fA k.sh.flaps.length fc, .slice rA k.sh.rules.length rc, .int .i64 k.gross, .int .i64 k.pay, .int .i64 k.fine, .slice wA k.ws.length wc, .slice dA k.ws.length dc, .map (some mb)], rfl, rfl, by rw [he2]; rfl⟩
    · try simp only [decide_eq_true_eq, decide_eq_false_iff_not] at hc2
      exact absurd (List.length_pos_iff.2 hwn) (by omega)

theorem c_togH_ok (k : Bk) (fA : Option Addr) (fc : Nat) (rA : Option Addr) (rc : Nat) (wA : Option Addr) (wc : Nat) (ge : TypeId) (gz : Nat × Nat) (he : togE k = 0) (w0 : World) (h : BkIn k fA fc rA rc wA wc w0) (hG : BlkIs 1 sidesA ge gz w0) :
    Calls Tryd.prog 72 #[.agg #[.int .i64 k.sh.wide, .int .i64 k.sh.high, .slice fA k.sh.flaps.length fc, .slice rA k.sh.rules.length rc, .int .i64 k.gross, .int .i64 k.pay, .int .i64 k.fine, .slice wA k.ws.length wc]] w0 (RetX w0 (fun v w0' => ∃ dA dc mb, v = .tuple #[.agg #[.int .i64 k.sh.wide, .int .i64 k.sh.high, .slice fA k.sh.flaps.length fc, .slice rA k.sh.rules.length rc, .int .i64 k.gross, .int .i64 k.pay, .int .i64 k.fine, .slice wA k.ws.length wc, .slice dA k.ws.length dc, .map (some mb)], .int .i64 0] ∧ OpR k dA mb w0 w0')) := by
  obtain ⟨hbk0, hnw⟩ := togE_zero he
  have hv := hck_iff.1 hbk0
  refine c_enter (n := 20) Tryd.func72 rfl rfl (Nat.le_of_ble_eq_true rfl) ?_; intro a hf; simp only [zipR] at hf
  have hs := St.start w0 [Rd encF 5 fA k.sh.flaps.length k.sh.flaps, Rd encR 2 rA k.sh.rules.length k.sh.rules, Rd encW 6 wA k.ws.length k.ws, OrdD k.ws, BlkIs 1 sidesA ge gz] (stab_app h.stab hG.st1)
  have hwm := h.W.2.1
  refine c_reg ?_
  refine vL hf (v_boxA hf hs rfl) (by decide) ?_; clear hs hf a; rintro _ w ⟨b1, rfl, hs⟩ a hf
  refine vL hf (v_alloc hs T89 rfl) (by decide) ?_; clear hs hf a; rintro _ w ⟨b2, rfl, hs⟩ a hf
  refine gL hf (g_as hf rfl) (by decide) ?_; clear hf a; intro a hf
  refine e_nil ?_
  refine wp_seq ?_
  refine c_reg ?_
  refine gL hf (g_ldW hf hs T28 rfl (k := 1) rfl rfl) (by decide) ?_; clear hf a; intro a hf
  refine callL hf hs (c_CheckH k _ _ _ _ _ _ ge gz _ ⟨⟨hs.rd (.head _), hs.rd (.tail _ (.head _)), h.sh.fc_, h.sh.rc_⟩, hs.rd (.tail _ (.tail _ (.head _))), h.wc_, hs.rd (.tail _ (.tail _ (.tail _ (.head _))))⟩ (hs.rd (.tail _ (.tail _ (.tail _ (.tail _ (.head _))))))) rfl rfl rfl E33 (by decide) ?_; clear hs hf a; intro w a hs hf
  refine gL hf (g_as hf rfl) (by decide) ?_; clear hf a; intro a hf
  refine e_nil ?_
  refine c_reg ?_
  refine gL hf (g_mv hf rfl) (by decide) ?_; clear hf a; intro a hf
  refine gL hf (g_neq hf rfl rfl) (by decide) ?_; clear hf a; intro a hf
  refine e_nil ?_
  refine c_cond hf rfl (fun hc1 => ?_) (fun hc1 => ?_)
  · skip
    rw [bookE, hbk0] at hc1; cases hc1
  · skip
    refine c_skip (q_thenN ?_)
    refine c_reg ?_
    refine gL hf (g_ldW hf hs T28 rfl (k := 1) rfl rfl) (by decide) ?_; clear hf a; intro a hf
    refine callX hf hs (c_openedH k _ _ _ _ _ _ ge gz hv _ ⟨⟨hs.rd (.head _), hs.rd (.tail _ (.head _)), h.sh.fc_, h.sh.rc_⟩, hs.rd (.tail _ (.tail _ (.head _))), h.wc_, hs.rd (.tail _ (.tail _ (.tail _ (.head _))))⟩ (hs.rd (.tail _ (.tail _ (.tail _ (.tail _ (.head _))))))) rfl rfl rfl E70 (by decide) ?_; have hle0 := hs.below.size; intro v w1 a hR hb hs1 hf; obtain ⟨dA, dc, mb, rfl, hop⟩ := hR; replace hs := hs.opened hb hop; clear hs1; have hkm := kOK_nil k
    refine vL hf (v_alloc hs T89 rfl) (by decide) ?_; clear hs hf a; rintro _ w ⟨b3, rfl, hs⟩ a hf
    refine uL (u_stW hf hs T89 rfl rfl rfl (k := 0) rfl rfl rfl) ?_; clear hs; intro w hs; dsimp only [List.set] at hs
    refine e_nil ?_
    refine wp_seq ?_
    refine c_reg ?_
    refine gL hf (g_ldW hf hs T89 rfl (k := 0) rfl rfl) (by decide) ?_; clear hf a; intro a hf
    refine callX hf hs (c_wrongH k fA fc rA rc wA wc dA _ mb hv _ (hs.rd (.tail _ (.tail _ (.tail _ (.head _)))))) rfl rfl rfl E71 (by decide) ?_; intro v w1 a hR hb hs1 hf; obtain ⟨Aw, cw, rfl, how⟩ := hR; replace hs := hs.fresh hs1 (outFresh how); clear hs1 hb
    refine gL hf (g_len hf SL31 rfl) (by decide) ?_; clear hf a; intro a hf
    refine gL hf (g_gtr hf rfl rfl) (by decide) ?_; clear hf a; intro a hf
    refine e_nil ?_
    refine c_cond hf rfl (fun hc2 => ?_) (fun hc2 => ?_)
    · skip
      rw [hnw] at hc2; cases hc2
    · skip
      refine c_skip (q_thenN ?_)
      refine c_reg ?_
      refine gL hf (g_ldW hf hs T89 rfl (k := 0) rfl rfl) (by decide) ?_; clear hf a; intro a hf
      refine uL (u_stW hf hs T89 rfl rfl rfl (k := 2) rfl rfl rfl) ?_; clear hs; intro w hs; dsimp only [List.set] at hs
      refine gL hf (g_as hf rfl) (by decide) ?_; clear hf a; intro a hf
      refine e_nil ?_
      refine c_ret ?_
      refine e_res hf hs rfl (.cellA T89 rfl (k := 2) rfl rfl (.tmp rfl .nil)) rfl ?_
      exact ⟨_, rfl, hs.below, dA, dc, mb, rfl, ⟨Nat.le_trans hle0 hop.1, (hs.own _ _ (.tail _ (.head _))).2, hs.rd (.tail _ (.head _)), fun b o e => ⟨Nat.le_trans hle0 (hop.2.2.2 b o e).1, (hop.2.2.2 b o e).2⟩⟩⟩

end Go.Proofs.YtjjcopeedcdokaaDoor

set_option linter.unusedVariables false
set_option linter.unusedSimpArgs false
namespace Go.Proofs.YtjjcopeedcdokaaDoor
open Go.RowKit
theorem c_RightH_err (k : Bk) (fA : Option Addr) (fc : Nat) (rA : Option Addr) (rc : Nat) (wA : Option Addr) (wc : Nat) (ge : TypeId) (gz : Nat × Nat) (wi : Int) (he : askH k wi ≠ 0) (w0 : World) (h : BkIn k fA fc rA rc wA wc w0) (hG : BlkIs 1 sidesA ge gz w0) :
    Calls Tryd.prog 31 #[.agg #[.int .i64 k.sh.wide, .int .i64 k.sh.high, .slice fA k.sh.flaps.length fc, .slice rA k.sh.rules.length rc, .int .i64 k.gross, .int .i64 k.pay, .int .i64 k.fine, .slice wA k.ws.length wc], .int .i64 wi] w0 (Ret w0 (.tuple #[.bool (rightP k wi).1, .int .i64 (rightP k wi).2])) := by
  refine c_enter (n := 20) Tryd.func31 rfl rfl (Nat.le_of_ble_eq_true rfl) ?_; intro a hf; simp only [zipR] at hf
  have hs := St.start w0 [Rd encF 5 fA k.sh.flaps.length k.sh.flaps, Rd encR 2 rA k.sh.rules.length k.sh.rules, Rd encW 6 wA k.ws.length k.ws, OrdD k.ws, BlkIs 1 sidesA ge gz] (stab_app h.stab hG.st1)
  have hwm := h.W.2.1
  refine c_reg ?_
  refine vL hf (v_boxA hf hs rfl) (by decide) ?_; clear hs hf a; rintro _ w ⟨b1, rfl, hs⟩ a hf
  refine gL hf (g_as hf rfl) (by decide) ?_; clear hf a; intro a hf
  refine gL hf (g_as hf rfl) (by decide) ?_; clear hf a; intro a hf
  refine e_nil ?_
  refine c_reg ?_
  refine gL hf (g_ldW hf hs T28 rfl (k := 0) rfl rfl) (by decide) ?_; clear hf a; intro a hf
  refine gL hf (g_mv hf rfl) (by decide) ?_; clear hf a; intro a hf
  refine callL hf hs (c_askedH_err k _ _ _ _ _ _ ge gz wi he _ ⟨⟨hs.rd (.head _), hs.rd (.tail _ (.head _)), h.sh.fc_, h.sh.rc_⟩, hs.rd (.tail _ (.tail _ (.head _))), h.wc_, hs.rd (.tail _ (.tail _ (.tail _ (.head _))))⟩ (hs.rd (.tail _ (.tail _ (.tail _ (.tail _ (.head _))))))) rfl rfl rfl E80 (by decide) ?_; clear hs hf a; intro w a hs hf
  refine gL hf (g_mv hf rfl) (by decide) ?_; clear hf a; intro a hf
  refine gL hf (g_ext hf rfl rfl) (by decide) ?_; clear hf a; intro a hf
  refine gL hf (g_ext hf rfl rfl) (by decide) ?_; clear hf a; intro a hf
  refine vL hf (v_alloc hs T89 rfl) (by decide) ?_; clear hs hf a; rintro _ w ⟨b2, rfl, hs⟩ a hf
  refine uL (u_stW hf hs T89 rfl rfl rfl (k := 0) rfl rfl rfl) ?_; clear hs; intro w hs; dsimp only [List.set] at hs
  refine gL hf (g_as hf rfl) (by decide) ?_; clear hf a; intro a hf
  refine e_nil ?_
  refine wp_seq ?_
  refine c_reg ?_
  refine gL hf (g_mv hf rfl) (by decide) ?_; clear hf a; intro a hf
  refine gL hf (g_neq hf rfl rfl) (by decide) ?_; clear hf a; intro a hf
  refine e_nil ?_
  refine c_cond hf rfl (fun hc1 => ?_) (fun hc1 => ?_)
  · skip
    refine c_reg ?_
    refine gL hf (g_mv hf rfl) (by decide) ?_; clear hf a; intro a hf
    refine gL hf (g_as hf rfl) (by decide) ?_; clear hf a; intro a hf
    refine gL hf (g_as hf rfl) (by decide) ?_; clear hf a; intro a hf
    refine e_nil ?_
    refine c_ret (q_thenR ?_)
    refine e_ret2 hf rfl rfl rfl ?_
    exact ⟨by rw [rightP, decide_eq_false he]; rfl, hs.below⟩
  · skip
    exact absurd (by simpa using hc1) he

theorem c_RightH_ok (k : Bk) (fA : Option Addr) (fc : Nat) (rA : Option Addr) (rc : Nat) (wA : Option Addr) (wc : Nat) (ge : TypeId) (gz : Nat × Nat) (i : Nat) (hi : i < k.ws.length) (hbk : hckB k = true) (w0 : World) (h : BkIn k fA fc rA rc wA wc w0) (hG : BlkIs 1 sidesA ge gz w0) :
    Calls Tryd.prog 31 #[.agg #[.int .i64 k.sh.wide, .int .i64 k.sh.high, .slice fA k.sh.flaps.length fc, .slice rA k.sh.rules.length rc, .int .i64 k.gross, .int .i64 k.pay, .int .i64 k.fine, .slice wA k.ws.length wc], .int .i64 ((i : Nat) : Int)] w0 (Ret w0 (.tuple #[.bool (rightP k ((i : Nat) : Int)).1, .int .i64 (rightP k ((i : Nat) : Int)).2])) := by
  have he := askH_ok hbk hi
  have hv := hck_iff.1 hbk
  have hx := hv.wk hi
  refine c_enter (n := 20) Tryd.func31 rfl rfl (Nat.le_of_ble_eq_true rfl) ?_; intro a hf; simp only [zipR] at hf
  have hs := St.start w0 [Rd encF 5 fA k.sh.flaps.length k.sh.flaps, Rd encR 2 rA k.sh.rules.length k.sh.rules, Rd encW 6 wA k.ws.length k.ws, OrdD k.ws, BlkIs 1 sidesA ge gz] (stab_app h.stab hG.st1)
  have hwm := h.W.2.1
  refine c_reg ?_
  refine vL hf (v_boxA hf hs rfl) (by decide) ?_; clear hs hf a; rintro _ w ⟨b1, rfl, hs⟩ a hf
  refine gL hf (g_as hf rfl) (by decide) ?_; clear hf a; intro a hf
  refine gL hf (g_as hf rfl) (by decide) ?_; clear hf a; intro a hf
  refine e_nil ?_
  refine c_reg ?_
  refine gL hf (g_ldW hf hs T28 rfl (k := 0) rfl rfl) (by decide) ?_; clear hf a; intro a hf
  refine gL hf (g_mv hf rfl) (by decide) ?_; clear hf a; intro a hf
  refine callX hf hs (c_askedH_ok k _ _ _ _ _ _ ge gz _ he _ ⟨⟨hs.rd (.head _), hs.rd (.tail _ (.head _)), h.sh.fc_, h.sh.rc_⟩, hs.rd (.tail _ (.tail _ (.head _))), h.wc_, hs.rd (.tail _ (.tail _ (.tail _ (.head _))))⟩ (hs.rd (.tail _ (.tail _ (.tail _ (.tail _ (.head _))))))) rfl rfl rfl E80 (by decide) ?_; have hle0 := hs.below.size; intro v w1 a hR hb hs1 hf; obtain ⟨dA, dc, mb, rfl, hop⟩ := hR; replace hs := hs.opened hb hop; clear hs1; have hkm := kOK_nil k
  refine gL hf (g_mv hf rfl) (by decide) ?_; clear hf a; intro a hf
  refine gL hf (g_ext hf rfl rfl) (by decide) ?_; clear hf a; intro a hf
  refine gL hf (g_ext hf rfl rfl) (by decide) ?_; clear hf a; intro a hf
  refine vL hf (v_alloc hs T89 rfl) (by decide) ?_; clear hs hf a; rintro _ w ⟨b2, rfl, hs⟩ a hf
  refine uL (u_stW hf hs T89 rfl rfl rfl (k := 0) rfl rfl rfl) ?_; clear hs; intro w hs; dsimp only [List.set] at hs
  refine gL hf (g_as hf rfl) (by decide) ?_; clear hf a; intro a hf
  refine e_nil ?_
  refine wp_seq ?_
  refine c_reg ?_
  refine gL hf (g_mv hf rfl) (by decide) ?_; clear hf a; intro a hf
  refine gL hf (g_neq hf rfl rfl) (by decide) ?_; clear hf a; intro a hf
  refine e_nil ?_
  refine c_cond hf rfl (fun hc1 => ?_) (fun hc1 => ?_)
  · skip
    simp at hc1
  · skip
    refine c_skip (q_thenN ?_)
    refine c_reg ?_
    refine gL hf (g_ldW hf hs T89 rfl (k := 0) rfl rfl) (by decide) ?_; clear hf a; intro a hf
    refine gL hf (g_mv hf rfl) (by decide) ?_; clear hf a; intro a hf
    refine callL hf hs (c_rightH k fA fc rA rc wA wc dA dc mb i hi hx _ (hs.rd (.tail _ (.tail _ (.tail _ (.head _)))))) rfl rfl rfl E81 (by decide) ?_; clear hs hf a; intro w a hs hf
    refine gL hf (g_as hf rfl) (by decide) ?_; clear hf a; intro a hf
    refine gL hf (g_as hf rfl) (by decide) ?_; clear hf a; intro a hf
    refine e_nil ?_
    refine c_ret ?_
    refine e_ret2 hf rfl rfl rfl ?_
    exact ⟨by rw [rightP, he, wkA_nat]; rfl, hs.below⟩

theorem c_tellH_err (k : Bk) (fA : Option Addr) (fc : Nat) (rA : Option Addr) (rc : Nat) (wA : Option Addr) (wc : Nat) (ge : TypeId) (gz : Nat × Nat) (wi : Int) (what : Nat) (he : askH k wi ≠ 0) (w0 : World) (h : BkIn k fA fc rA rc wA wc w0) (hG : BlkIs 1 sidesA ge gz w0) :
    Calls Tryd.prog 76 #[.agg #[.int .i64 k.sh.wide, .int .i64 k.sh.high, .slice fA k.sh.flaps.length fc, .slice rA k.sh.rules.length rc, .int .i64 k.gross, .int .i64 k.pay, .int .i64 k.fine, .slice wA k.ws.length wc], .int .i64 wi, .int .i64 ((what : Nat) : Int)] w0 (Ret w0 (.tuple #[.agg #[.int .i64 (tellP k wi what).1.1, .int .i64 (tellP k wi what).1.2], .int .i64 (tellP k wi what).2])) := by
  refine c_enter (n := 33) Tryd.func76 rfl rfl (Nat.le_of_ble_eq_true rfl) ?_; intro a hf; simp only [zipR] at hf
  have hs := St.start w0 [Rd encF 5 fA k.sh.flaps.length k.sh.flaps, Rd encR 2 rA k.sh.rules.length k.sh.rules, Rd encW 6 wA k.ws.length k.ws, OrdD k.ws, BlkIs 1 sidesA ge gz] (stab_app h.stab hG.st1)
  have hwm := h.W.2.1
  refine c_reg ?_
  refine vL hf (v_boxA hf hs rfl) (by decide) ?_; clear hs hf a; rintro _ w ⟨b1, rfl, hs⟩ a hf
  refine vL hf (v_alloc hs T40 rfl) (by decide) ?_; clear hs hf a; rintro _ w ⟨b2, rfl, hs⟩ a hf
  refine gL hf (g_as hf rfl) (by decide) ?_; clear hf a; intro a hf
  refine e_nil ?_
  refine c_reg ?_
  refine gL hf (g_ldW hf hs T28 rfl (k := 1) rfl rfl) (by decide) ?_; clear hf a; intro a hf
  refine gL hf (g_mv hf rfl) (by decide) ?_; clear hf a; intro a hf
  refine callL hf hs (c_askedH_err k _ _ _ _ _ _ ge gz wi he _ ⟨⟨hs.rd (.head _), hs.rd (.tail _ (.head _)), h.sh.fc_, h.sh.rc_⟩, hs.rd (.tail _ (.tail _ (.head _))), h.wc_, hs.rd (.tail _ (.tail _ (.tail _ (.head _))))⟩ (hs.rd (.tail _ (.tail _ (.tail _ (.tail _ (.head _))))))) rfl rfl rfl E80 (by decide) ?_; clear hs hf a; intro w a hs hf
  refine gL hf (g_mv hf rfl) (by decide) ?_; clear hf a; intro a hf
  refine gL hf (g_ext hf rfl rfl) (by decide) ?_; clear hf a; intro a hf
  refine gL hf (g_ext hf rfl rfl) (by decide) ?_; clear hf a; intro a hf
  refine vL hf (v_alloc hs T89 rfl) (by decide) ?_; clear hs hf a; rintro _ w ⟨b3, rfl, hs⟩ a hf
  refine uL (u_stW hf hs T89 rfl rfl rfl (k := 0) rfl rfl rfl) ?_; clear hs; intro w hs; dsimp only [List.set] at hs
  refine gL hf (g_as hf rfl) (by decide) ?_; clear hf a; intro a hf
  refine e_nil ?_
  refine wp_seq ?_
  refine c_reg ?_
  refine gL hf (g_mv hf rfl) (by decide) ?_; clear hf a; intro a hf
  refine gL hf (g_neq hf rfl rfl) (by decide) ?_; clear hf a; intro a hf
  refine e_nil ?_
  refine c_cond hf rfl (fun hc1 => ?_) (fun hc1 => ?_)
  · skip
    refine c_reg ?_
    refine gL hf (g_bld hf [[.int .i64 0], [.int .i64 0]] .nil (fun _ => by kernel_rfl)) (by decide) ?_; clear hf a; intro a hf
    refine gL hf (g_mv hf rfl) (by decide) ?_; clear hf a; intro a hf
    refine uL (u_stW hf hs T40 rfl rfl rfl (k := 1) rfl rfl rfl) ?_; clear hs; intro w hs; dsimp only [List.set] at hs
    refine gL hf (g_as hf rfl) (by decide) ?_; clear hf a; intro a hf
    refine e_nil ?_
    refine c_ret (q_thenR ?_)
    refine e_res hf hs rfl (.cellA T40 rfl (k := 1) rfl rfl (.tmp rfl .nil)) rfl ?_
    exact ⟨by rw [tellP, if_neg he]; rfl, hs.below⟩
  · skip
    exact absurd (by simpa using hc1) he

theorem c_tellH_ok (k : Bk) (fA : Option Addr) (fc : Nat) (rA : Option Addr) (rc : Nat) (wA : Option Addr) (wc : Nat) (ge : TypeId) (gz : Nat × Nat) (i : Nat) (hi : i < k.ws.length) (what : Nat) (hwh : what < 3) (hbk : hckB k = true) (w0 : World) (h : BkIn k fA fc rA rc wA wc w0) (hG : BlkIs 1 sidesA ge gz w0) (te : TypeId) (tz : Nat × Nat) (hT : BlkIs 0 toldA te tz w0) :
    Calls Tryd.prog 76 #[.agg #[.int .i64 k.sh.wide, .int .i64 k.sh.high, .slice fA k.sh.flaps.length fc, .slice rA k.sh.rules.length rc, .int .i64 k.gross, .int .i64 k.pay, .int .i64 k.fine, .slice wA k.ws.length wc], .int .i64 ((i : Nat) : Int), .int .i64 ((what : Nat) : Int)] w0 (Ret w0 (.tuple #[.agg #[.int .i64 (tellP k ((i : Nat) : Int) what).1.1, .int .i64 (tellP k ((i : Nat) : Int) what).1.2], .int .i64 (tellP k ((i : Nat) : Int) what).2])) := by
  have he := askH_ok hbk hi
  have hv := hck_iff.1 hbk
  have hx := hv.wk hi
  refine c_enter (n := 33) Tryd.func76 rfl rfl (Nat.le_of_ble_eq_true rfl) ?_; intro a hf; simp only [zipR] at hf
  have hs := St.start w0 [Rd encF 5 fA k.sh.flaps.length k.sh.flaps, Rd encR 2 rA k.sh.rules.length k.sh.rules, Rd encW 6 wA k.ws.length k.ws, OrdD k.ws, BlkIs 1 sidesA ge gz, BlkIs 0 toldA te tz] (stab_app (stab_app h.stab hG.st1) hT.st1)
  have hwm := h.W.2.1
  refine c_reg ?_
  refine vL hf (v_boxA hf hs rfl) (by decide) ?_; clear hs hf a; rintro _ w ⟨b1, rfl, hs⟩ a hf
  refine vL hf (v_alloc hs T40 rfl) (by decide) ?_; clear hs hf a; rintro _ w ⟨b2, rfl, hs⟩ a hf
  refine gL hf (g_as hf rfl) (by decide) ?_; clear hf a; intro a hf
  refine e_nil ?_
  refine c_reg ?_
  refine gL hf (g_ldW hf hs T28 rfl (k := 1) rfl rfl) (by decide) ?_; clear hf a; intro a hf
  refine gL hf (g_mv hf rfl) (by decide) ?_; clear hf a; intro a hf
  refine callX hf hs (c_askedH_ok k _ _ _ _ _ _ ge gz _ he _ ⟨⟨hs.rd (.head _), hs.rd (.tail _ (.head _)), h.sh.fc_, h.sh.rc_⟩, hs.rd (.tail _ (.tail _ (.head _))), h.wc_, hs.rd (.tail _ (.tail _ (.tail _ (.head _))))⟩ (hs.rd (.tail _ (.tail _ (.tail _ (.tail _ (.head _))))))) rfl rfl rfl E80 (by decide) ?_; have hle0 := hs.below.size; intro v w1 a hR hb hs1 hf; obtain ⟨dA, dc, mb, rfl, hop⟩ := hR; replace hs := hs.opened hb hop; clear hs1; have hkm := kOK_nil k
  refine gL hf (g_mv hf rfl) (by decide) ?_; clear hf a; intro a hf
  refine gL hf (g_ext hf rfl rfl) (by decide) ?_; clear hf a; intro a hf
  refine gL hf (g_ext hf rfl rfl) (by decide) ?_; clear hf a; intro a hf
  refine vL hf (v_alloc hs T89 rfl) (by decide) ?_; clear hs hf a; rintro _ w ⟨b3, rfl, hs⟩ a hf
  refine uL (u_stW hf hs T89 rfl rfl rfl (k := 0) rfl rfl rfl) ?_; clear hs; intro w hs; dsimp only [List.set] at hs
  refine gL hf (g_as hf rfl) (by decide) ?_; clear hf a; intro a hf
  refine e_nil ?_
  refine wp_seq ?_
  refine c_reg ?_
  refine gL hf (g_mv hf rfl) (by decide) ?_; clear hf a; intro a hf
  refine gL hf (g_neq hf rfl rfl) (by decide) ?_; clear hf a; intro a hf
  refine e_nil ?_
  refine c_cond hf rfl (fun hc1 => ?_) (fun hc1 => ?_)
  · skip
    simp at hc1
  · skip
    refine c_skip (q_thenN ?_)
    refine c_reg ?_
    refine gL hf (g_ldW hf hs T89 rfl (k := 0) rfl rfl) (by decide) ?_; clear hf a; intro a hf
    refine gL hf (g_mv hf rfl) (by decide) ?_; clear hf a; intro a hf
    refine gL hf (g_mv hf rfl) (by decide) ?_; clear hf a; intro a hf
    refine callM hf hs (j := 1) rfl (c_of k _ fc _ rc _ wc _ _ _ i hi what hwh hv te tz _ (bkO_of fc rc wc hs 1 rfl hkm (.tail _ (.head _)) (.tail _ (.tail _ (.head _))) (.tail _ (.tail _ (.tail _ (.head _)))) (.tail _ (.tail _ (.tail _ (.tail _ (.head _))))) (.head _)) (hs.told (j := 1) rfl (.tail _ (.tail _ (.tail _ (.tail _ (.tail _ (.tail _ (.head _))))))))) rfl rfl rfl E74 (by decide) ?_; clear hs hf a; intro m w a hkm hs hf; dsimp only [List.set] at hs
    refine gL hf (g_mv hf rfl) (by decide) ?_; clear hf a; intro a hf
    refine gL hf (g_ext hf rfl rfl) (by decide) ?_; clear hf a; intro a hf
    refine gL hf (g_ext hf rfl rfl) (by decide) ?_; clear hf a; intro a hf
    refine vL hf (v_alloc hs T40 rfl) (by decide) ?_; clear hs hf a; rintro _ w ⟨b4, rfl, hs⟩ a hf
    refine uL (u_stW hf hs T40 rfl rfl rfl (k := 0) rfl rfl rfl) ?_; clear hs; intro w hs; dsimp only [List.set] at hs
    refine gL hf (g_as hf rfl) (by decide) ?_; clear hf a; intro a hf
    refine e_nil ?_
    refine wp_seq ?_
    refine c_reg ?_
    refine gL hf (g_mv hf rfl) (by decide) ?_; clear hf a; intro a hf
    refine gL hf (g_not hf rfl) (by decide) ?_; clear hf a; intro a hf
    refine e_nil ?_
    refine c_cond hf rfl (fun hc2 => ?_) (fun hc2 => ?_)
    · skip
      have hrt : rightB (k.ws.getD i default) = false := by simpa using hc2
      refine c_reg ?_
      refine gL hf (g_bld hf [[.int .i64 0], [.int .i64 0]] .nil (fun _ => by kernel_rfl)) (by decide) ?_; clear hf a; intro a hf
      refine uL (u_stW hf hs T40 rfl rfl rfl (k := 3) rfl rfl rfl) ?_; clear hs; intro w hs; dsimp only [List.set] at hs
      refine gL hf (g_as hf rfl) (by decide) ?_; clear hf a; intro a hf
      refine e_nil ?_
      refine c_ret (q_thenR ?_)
      refine e_res hf hs rfl (.cellA T40 rfl (k := 3) rfl rfl (.tmp rfl .nil)) rfl ?_
      exact ⟨by rw [tell_ok hbk hi, hrt]; rfl, hs.below⟩
    · skip
      have hrt : rightB (k.ws.getD i default) = true := by simpa using hc2
      refine c_skip (q_thenN ?_)
      refine c_reg ?_
      refine gL hf (g_ldW hf hs T40 rfl (k := 0) rfl rfl) (by decide) ?_; clear hf a; intro a hf
      refine uL (u_stW hf hs T40 rfl rfl rfl (k := 3) rfl rfl rfl) ?_; clear hs; intro w hs; dsimp only [List.set] at hs
      refine gL hf (g_as hf rfl) (by decide) ?_; clear hf a; intro a hf
      refine e_nil ?_
      refine c_ret ?_
      refine e_res hf hs rfl (.cellA T40 rfl (k := 3) rfl rfl (.tmp rfl .nil)) rfl ?_
      exact ⟨by rw [tell_ok hbk hi, hrt]; rfl, hs.below⟩

theorem c_TotalH_err (k : Bk) (fA : Option Addr) (fc : Nat) (rA : Option Addr) (rc : Nat) (wA : Option Addr) (wc : Nat) (ge : TypeId) (gz : Nat × Nat) (he : togE k ≠ 0) (w0 : World) (h : BkIn k fA fc rA rc wA wc w0) (hG : BlkIs 1 sidesA ge gz w0) :
    Calls Tryd.prog 27 #[.agg #[.int .i64 k.sh.wide, .int .i64 k.sh.high, .slice fA k.sh.flaps.length fc, .slice rA k.sh.rules.length rc, .int .i64 k.gross, .int .i64 k.pay, .int .i64 k.fine, .slice wA k.ws.length wc]] w0 (Ret w0 (.tuple #[.agg #[.int .i64 (totalP k).1.1, .int .i64 (totalP k).1.2], .int .i64 (totalP k).2])) := by
  refine c_enter (n := 17) Tryd.func27 rfl rfl (Nat.le_of_ble_eq_true rfl) ?_; intro a hf; simp only [zipR] at hf
  have hs := St.start w0 [Rd encF 5 fA k.sh.flaps.length k.sh.flaps, Rd encR 2 rA k.sh.rules.length k.sh.rules, Rd encW 6 wA k.ws.length k.ws, OrdD k.ws, BlkIs 1 sidesA ge gz] (stab_app h.stab hG.st1)
  have hwm := h.W.2.1
  refine c_reg ?_
  refine vL hf (v_boxA hf hs rfl) (by decide) ?_; clear hs hf a; rintro _ w ⟨b1, rfl, hs⟩ a hf
  refine vL hf (v_alloc hs T40 rfl) (by decide) ?_; clear hs hf a; rintro _ w ⟨b2, rfl, hs⟩ a hf
  refine gL hf (g_as hf rfl) (by decide) ?_; clear hf a; intro a hf
  refine e_nil ?_
  refine c_reg ?_
  refine gL hf (g_ldW hf hs T28 rfl (k := 1) rfl rfl) (by decide) ?_; clear hf a; intro a hf
  refine callX hf hs (c_togH_err k _ _ _ _ _ _ ge gz he _ ⟨⟨hs.rd (.head _), hs.rd (.tail _ (.head _)), h.sh.fc_, h.sh.rc_⟩, hs.rd (.tail _ (.tail _ (.head _))), h.wc_, hs.rd (.tail _ (.tail _ (.tail _ (.head _))))⟩ (hs.rd (.tail _ (.tail _ (.tail _ (.tail _ (.head _))))))) rfl rfl rfl E72 (by decide) ?_; intro v w1 a hR hb hs1 hf; obtain ⟨lz, hlz, hpz, rfl⟩ := hR; replace hs := hs1; clear hs1 hb
  refine gL hf (g_mv hf rfl) (by decide) ?_; clear hf a; intro a hf
  refine gL hf (g_ext hf rfl rfl) (by decide) ?_; clear hf a; intro a hf
  refine gL hf (g_ext hf rfl rfl) (by decide) ?_; clear hf a; intro a hf
  refine vL hf (v_alloc hs T89 rfl) (by decide) ?_; clear hs hf a; rintro _ w ⟨b3, rfl, hs⟩ a hf
  refine uL (u_stW hf hs T89 rfl rfl hpz (k := 0) rfl hlz hlz) ?_; clear hs; intro w hs; dsimp only [List.set] at hs
  refine gL hf (g_as hf rfl) (by decide) ?_; clear hf a; intro a hf
  refine e_nil ?_
  refine wp_seq ?_
  refine c_reg ?_
  refine gL hf (g_mv hf rfl) (by decide) ?_; clear hf a; intro a hf
  refine gL hf (g_neq hf rfl rfl) (by decide) ?_; clear hf a; intro a hf
  refine e_nil ?_
  refine c_cond hf rfl (fun hc1 => ?_) (fun hc1 => ?_)
  · skip
    refine c_reg ?_
    refine gL hf (g_bld hf [[.int .i64 0], [.int .i64 0]] .nil (fun _ => by kernel_rfl)) (by decide) ?_; clear hf a; intro a hf
    refine gL hf (g_mv hf rfl) (by decide) ?_; clear hf a; intro a hf
    refine uL (u_stW hf hs T40 rfl rfl rfl (k := 1) rfl rfl rfl) ?_; clear hs; intro w hs; dsimp only [List.set] at hs
    refine gL hf (g_as hf rfl) (by decide) ?_; clear hf a; intro a hf
    refine e_nil ?_
    refine c_ret (q_thenR ?_)
    refine e_res hf hs rfl (.cellA T40 rfl (k := 1) rfl rfl (.tmp rfl .nil)) rfl ?_
    exact ⟨by rw [totalP, if_neg he]; rfl, hs.below⟩
  · skip
    exact absurd (by simpa using hc1) he

theorem c_TotalH_ok (k : Bk) (fA : Option Addr) (fc : Nat) (rA : Option Addr) (rc : Nat) (wA : Option Addr) (wc : Nat) (ge : TypeId) (gz : Nat × Nat) (he : togE k = 0) (w0 : World) (h : BkIn k fA fc rA rc wA wc w0) (hG : BlkIs 1 sidesA ge gz w0) (te : TypeId) (tz : Nat × Nat) (hT : BlkIs 0 toldA te tz w0) :
    Calls Tryd.prog 27 #[.agg #[.int .i64 k.sh.wide, .int .i64 k.sh.high, .slice fA k.sh.flaps.length fc, .slice rA k.sh.rules.length rc, .int .i64 k.gross, .int .i64 k.pay, .int .i64 k.fine, .slice wA k.ws.length wc]] w0 (Ret w0 (.tuple #[.agg #[.int .i64 (totalP k).1.1, .int .i64 (totalP k).1.2], .int .i64 (totalP k).2])) := by
  obtain ⟨hbk, hnw⟩ := togE_zero he
  have hv := hck_iff.1 hbk
  refine c_enter (n := 17) Tryd.func27 rfl rfl (Nat.le_of_ble_eq_true rfl) ?_; intro a hf; simp only [zipR] at hf
  have hs := St.start w0 [Rd encF 5 fA k.sh.flaps.length k.sh.flaps, Rd encR 2 rA k.sh.rules.length k.sh.rules, Rd encW 6 wA k.ws.length k.ws, OrdD k.ws, BlkIs 1 sidesA ge gz, BlkIs 0 toldA te tz] (stab_app (stab_app h.stab hG.st1) hT.st1)
  have hwm := h.W.2.1
  refine c_reg ?_
  refine vL hf (v_boxA hf hs rfl) (by decide) ?_; clear hs hf a; rintro _ w ⟨b1, rfl, hs⟩ a hf
  refine vL hf (v_alloc hs T40 rfl) (by decide) ?_; clear hs hf a; rintro _ w ⟨b2, rfl, hs⟩ a hf
  refine gL hf (g_as hf rfl) (by decide) ?_; clear hf a; intro a hf
  refine e_nil ?_
  refine c_reg ?_
  refine gL hf (g_ldW hf hs T28 rfl (k := 1) rfl rfl) (by decide) ?_; clear hf a; intro a hf
  refine callX hf hs (c_togH_ok k _ _ _ _ _ _ ge gz he _ ⟨⟨hs.rd (.head _), hs.rd (.tail _ (.head _)), h.sh.fc_, h.sh.rc_⟩, hs.rd (.tail _ (.tail _ (.head _))), h.wc_, hs.rd (.tail _ (.tail _ (.tail _ (.head _))))⟩ (hs.rd (.tail _ (.tail _ (.tail _ (.tail _ (.head _))))))) rfl rfl rfl E72 (by decide) ?_; have hle0 := hs.below.size; intro v w1 a hR hb hs1 hf; obtain ⟨dA, dc, mb, rfl, hop⟩ := hR; replace hs := hs.opened hb hop; clear hs1; have hkm := kOK_nil k
  refine gL hf (g_mv hf rfl) (by decide) ?_; clear hf a; intro a hf
  refine gL hf (g_ext hf rfl rfl) (by decide) ?_; clear hf a; intro a hf
  refine gL hf (g_ext hf rfl rfl) (by decide) ?_; clear hf a; intro a hf
  refine vL hf (v_alloc hs T89 rfl) (by decide) ?_; clear hs hf a; rintro _ w ⟨b3, rfl, hs⟩ a hf
  refine uL (u_stW hf hs T89 rfl rfl rfl (k := 0) rfl rfl rfl) ?_; clear hs; intro w hs; dsimp only [List.set] at hs
  refine gL hf (g_as hf rfl) (by decide) ?_; clear hf a; intro a hf
  refine e_nil ?_
  refine wp_seq ?_
  refine c_reg ?_
  refine gL hf (g_mv hf rfl) (by decide) ?_; clear hf a; intro a hf
  refine gL hf (g_neq hf rfl rfl) (by decide) ?_; clear hf a; intro a hf
  refine e_nil ?_
  refine c_cond hf rfl (fun hc1 => ?_) (fun hc1 => ?_)
  · skip
    simp at hc1
  · skip
    refine c_skip (q_thenN ?_)
    refine c_reg ?_
    refine gL hf (g_ldW hf hs T89 rfl (k := 0) rfl rfl) (by decide) ?_; clear hf a; intro a hf
    refine callM hf hs (j := 1) rfl (c_allH k _ fc _ rc _ wc _ _ _ 2 (by decide) hv te tz _ (bkO_of fc rc wc hs 1 rfl hkm (.tail _ (.head _)) (.tail _ (.tail _ (.head _))) (.tail _ (.tail _ (.tail _ (.head _)))) (.tail _ (.tail _ (.tail _ (.tail _ (.head _))))) (.head _)) (hs.told (j := 1) rfl (.tail _ (.tail _ (.tail _ (.tail _ (.tail _ (.tail _ (.head _))))))))) rfl rfl rfl E77 (by decide) ?_; clear hs hf a; intro m w a hkm hs hf; dsimp only [List.set] at hs
    refine uL (u_stW hf hs T40 rfl rfl rfl (k := 2) rfl rfl rfl) ?_; clear hs; intro w hs; dsimp only [List.set] at hs
    refine gL hf (g_as hf rfl) (by decide) ?_; clear hf a; intro a hf
    refine e_nil ?_
    refine c_ret ?_
    refine e_res hf hs rfl (.cellA T40 rfl (k := 2) rfl rfl (.tmp rfl .nil)) rfl ?_
    exact ⟨by rw [totalP, if_pos he]; rfl, hs.below⟩

theorem c_GrossesH_err (k : Bk) (fA : Option Addr) (fc : Nat) (rA : Option Addr) (rc : Nat) (wA : Option Addr) (wc : Nat) (ge : TypeId) (gz : Nat × Nat) (he : togE k ≠ 0) (w0 : World) (h : BkIn k fA fc rA rc wA wc w0) (hG : BlkIs 1 sidesA ge gz w0) :
    Calls Tryd.prog 25 #[.agg #[.int .i64 k.sh.wide, .int .i64 k.sh.high, .slice fA k.sh.flaps.length fc, .slice rA k.sh.rules.length rc, .int .i64 k.gross, .int .i64 k.pay, .int .i64 k.fine, .slice wA k.ws.length wc]] w0 (Ret w0 (.tuple #[.agg #[.int .i64 (grossP k).1.1, .int .i64 (grossP k).1.2], .int .i64 (grossP k).2])) := by
  refine c_enter (n := 29) Tryd.func25 rfl rfl (Nat.le_of_ble_eq_true rfl) ?_; intro a hf; simp only [zipR] at hf
  have hs := St.start w0 [Rd encF 5 fA k.sh.flaps.length k.sh.flaps, Rd encR 2 rA k.sh.rules.length k.sh.rules, Rd encW 6 wA k.ws.length k.ws, OrdD k.ws, BlkIs 1 sidesA ge gz] (stab_app h.stab hG.st1)
  have hwm := h.W.2.1
  refine c_reg ?_
  refine vL hf (v_boxA hf hs rfl) (by decide) ?_; clear hs hf a; rintro _ w ⟨b1, rfl, hs⟩ a hf
  refine vL hf (v_alloc hs T40 rfl) (by decide) ?_; clear hs hf a; rintro _ w ⟨b2, rfl, hs⟩ a hf
  refine gL hf (g_as hf rfl) (by decide) ?_; clear hf a; intro a hf
  refine e_nil ?_
  refine c_reg ?_
  refine gL hf (g_ldW hf hs T28 rfl (k := 1) rfl rfl) (by decide) ?_; clear hf a; intro a hf
  refine callX hf hs (c_togH_err k _ _ _ _ _ _ ge gz he _ ⟨⟨hs.rd (.head _), hs.rd (.tail _ (.head _)), h.sh.fc_, h.sh.rc_⟩, hs.rd (.tail _ (.tail _ (.head _))), h.wc_, hs.rd (.tail _ (.tail _ (.tail _ (.head _))))⟩ (hs.rd (.tail _ (.tail _ (.tail _ (.tail _ (.head _))))))) rfl rfl rfl E72 (by decide) ?_; intro v w1 a hR hb hs1 hf; obtain ⟨lz, hlz, hpz, rfl⟩ := hR; replace hs := hs1; clear hs1 hb
  refine gL hf (g_mv hf rfl) (by decide) ?_; clear hf a; intro a hf
  refine gL hf (g_ext hf rfl rfl) (by decide) ?_; clear hf a; intro a hf
  refine gL hf (g_ext hf rfl rfl) (by decide) ?_; clear hf a; intro a hf
  refine vL hf (v_alloc hs T89 rfl) (by decide) ?_; clear hs hf a; rintro _ w ⟨b3, rfl, hs⟩ a hf
  refine uL (u_stW hf hs T89 rfl rfl hpz (k := 0) rfl hlz hlz) ?_; clear hs; intro w hs; dsimp only [List.set] at hs
  refine gL hf (g_as hf rfl) (by decide) ?_; clear hf a; intro a hf
  refine e_nil ?_
  refine wp_seq ?_
  refine c_reg ?_
  refine gL hf (g_mv hf rfl) (by decide) ?_; clear hf a; intro a hf
  refine gL hf (g_neq hf rfl rfl) (by decide) ?_; clear hf a; intro a hf
  refine e_nil ?_
  refine c_cond hf rfl (fun hc1 => ?_) (fun hc1 => ?_)
  · skip
    refine c_reg ?_
    refine gL hf (g_bld hf [[.int .i64 0], [.int .i64 0]] .nil (fun _ => by kernel_rfl)) (by decide) ?_; clear hf a; intro a hf
    refine gL hf (g_mv hf rfl) (by decide) ?_; clear hf a; intro a hf
    refine uL (u_stW hf hs T40 rfl rfl rfl (k := 1) rfl rfl rfl) ?_; clear hs; intro w hs; dsimp only [List.set] at hs
    refine gL hf (g_as hf rfl) (by decide) ?_; clear hf a; intro a hf
    refine e_nil ?_
    refine c_ret (q_thenR ?_)
    refine e_res hf hs rfl (.cellA T40 rfl (k := 1) rfl rfl (.tmp rfl .nil)) rfl ?_
    exact ⟨by rw [grossP, if_neg he]; rfl, hs.below⟩
  · skip
    exact absurd (by simpa using hc1) he

theorem c_GrossesH_ok (k : Bk) (fA : Option Addr) (fc : Nat) (rA : Option Addr) (rc : Nat) (wA : Option Addr) (wc : Nat) (ge : TypeId) (gz : Nat × Nat) (he : togE k = 0) (w0 : World) (h : BkIn k fA fc rA rc wA wc w0) (hG : BlkIs 1 sidesA ge gz w0) (te : TypeId) (tz : Nat × Nat) (hT : BlkIs 0 toldA te tz w0) :
    Calls Tryd.prog 25 #[.agg #[.int .i64 k.sh.wide, .int .i64 k.sh.high, .slice fA k.sh.flaps.length fc, .slice rA k.sh.rules.length rc, .int .i64 k.gross, .int .i64 k.pay, .int .i64 k.fine, .slice wA k.ws.length wc]] w0 (Ret w0 (.tuple #[.agg #[.int .i64 (grossP k).1.1, .int .i64 (grossP k).1.2], .int .i64 (grossP k).2])) := by
  obtain ⟨hbk, hnw⟩ := togE_zero he
  have hv := hck_iff.1 hbk
  refine c_enter (n := 29) Tryd.func25 rfl rfl (Nat.le_of_ble_eq_true rfl) ?_; intro a hf; simp only [zipR] at hf
  have hs := St.start w0 [Rd encF 5 fA k.sh.flaps.length k.sh.flaps, Rd encR 2 rA k.sh.rules.length k.sh.rules, Rd encW 6 wA k.ws.length k.ws, OrdD k.ws, BlkIs 1 sidesA ge gz, BlkIs 0 toldA te tz] (stab_app (stab_app h.stab hG.st1) hT.st1)
  have hwm := h.W.2.1
  have hg1 := hv.g1
  have hrg := allP_upto hv (what := 0) (by decide) k.ws.length
  rw [List.take_length] at hrg
  have hr0 := hrg.2.2.2 (by decide)
  have hd1 := tdiv_rng hv.g1 hr0
  have hd2 := tdiv_rng hv.g1 (Int.le_trans hr0 hrg.2.1)
  refine c_reg ?_
  refine vL hf (v_boxA hf hs rfl) (by decide) ?_; clear hs hf a; rintro _ w ⟨b1, rfl, hs⟩ a hf
  refine vL hf (v_alloc hs T40 rfl) (by decide) ?_; clear hs hf a; rintro _ w ⟨b2, rfl, hs⟩ a hf
  refine gL hf (g_as hf rfl) (by decide) ?_; clear hf a; intro a hf
  refine e_nil ?_
  refine c_reg ?_
  refine gL hf (g_ldW hf hs T28 rfl (k := 1) rfl rfl) (by decide) ?_; clear hf a; intro a hf
  refine callX hf hs (c_togH_ok k _ _ _ _ _ _ ge gz he _ ⟨⟨hs.rd (.head _), hs.rd (.tail _ (.head _)), h.sh.fc_, h.sh.rc_⟩, hs.rd (.tail _ (.tail _ (.head _))), h.wc_, hs.rd (.tail _ (.tail _ (.tail _ (.head _))))⟩ (hs.rd (.tail _ (.tail _ (.tail _ (.tail _ (.head _))))))) rfl rfl rfl E72 (by decide) ?_; have hle0 := hs.below.size; intro v w1 a hR hb hs1 hf; obtain ⟨dA, dc, mb, rfl, hop⟩ := hR; replace hs := hs.opened hb hop; clear hs1; have hkm := kOK_nil k
  refine gL hf (g_mv hf rfl) (by decide) ?_; clear hf a; intro a hf
  refine gL hf (g_ext hf rfl rfl) (by decide) ?_; clear hf a; intro a hf
  refine gL hf (g_ext hf rfl rfl) (by decide) ?_; clear hf a; intro a hf
  refine vL hf (v_alloc hs T89 rfl) (by decide) ?_; clear hs hf a; rintro _ w ⟨b3, rfl, hs⟩ a hf
  refine uL (u_stW hf hs T89 rfl rfl rfl (k := 0) rfl rfl rfl) ?_; clear hs; intro w hs; dsimp only [List.set] at hs
  refine gL hf (g_as hf rfl) (by decide) ?_; clear hf a; intro a hf
  refine e_nil ?_
  refine wp_seq ?_
  refine c_reg ?_
  refine gL hf (g_mv hf rfl) (by decide) ?_; clear hf a; intro a hf
  refine gL hf (g_neq hf rfl rfl) (by decide) ?_; clear hf a; intro a hf
  refine e_nil ?_
  refine c_cond hf rfl (fun hc1 => ?_) (fun hc1 => ?_)
  · skip
    simp at hc1
  · skip
    refine c_skip (q_thenN ?_)
    refine c_reg ?_
    refine gL hf (g_ldW hf hs T89 rfl (k := 0) rfl rfl) (by decide) ?_; clear hf a; intro a hf
    refine callM hf hs (j := 1) rfl (c_allH k _ fc _ rc _ wc _ _ _ 0 (by decide) hv te tz _ (bkO_of fc rc wc hs 1 rfl hkm (.tail _ (.head _)) (.tail _ (.tail _ (.head _))) (.tail _ (.tail _ (.tail _ (.head _)))) (.tail _ (.tail _ (.tail _ (.tail _ (.head _))))) (.head _)) (hs.told (j := 1) rfl (.tail _ (.tail _ (.tail _ (.tail _ (.tail _ (.tail _ (.head _))))))))) rfl rfl rfl E77 (by decide) ?_; clear hs hf a; intro m w a hkm hs hf; dsimp only [List.set] at hs
    refine vL hf (v_alloc hs T40 rfl) (by decide) ?_; clear hs hf a; rintro _ w ⟨b4, rfl, hs⟩ a hf
    refine uL (u_stW hf hs T40 rfl rfl rfl (k := 0) rfl rfl rfl) ?_; clear hs; intro w hs; dsimp only [List.set] at hs
    refine e_nil ?_
    refine c_draw _ 13 Mx rfl hs (fun _ h => h.sub (.cons_cons _ (.cons_cons _ (.cons_cons _ (.cons _ (.refl _)))))) ?_; intro w hs hS
    refine gA hf hS (i := 0) rfl (by kernel_rfl) (fun w hs => g_fa (off' := 0) hf F40_0 rfl rfl) (by decide) ?_; clear hf a; intro a hf
    refine gA hf hS (i := 1) rfl (by kernel_rfl) (fun w hs => g_ld hf hs T3 rfl (k := 0) rfl rfl) (by decide) ?_; clear hf a; intro a hf
    refine gA hf hS (i := 2) rfl (by kernel_rfl) (fun w hs => g_fa (off' := 4) hf F28_1 rfl rfl) (by decide) ?_; clear hf a; intro a hf
    refine gA hf hS (i := 3) rfl (by kernel_rfl) (fun w hs => g_ld hf hs T3 rfl (k := 3) rfl rfl) (by decide) ?_; clear hf a; intro a hf
    refine gA hf hS (i := 4) rfl (by kernel_rfl) (fun w hs => g_quoI hf rfl rfl ⟨by omega, by omega⟩) (by decide) ?_; clear hf a; intro a hf
    refine gA hf hS (i := 5) rfl (by kernel_rfl) (fun w hs => g_fa (off' := 1) hf F40_1 rfl rfl) (by decide) ?_; clear hf a; intro a hf
    refine gA hf hS (i := 6) rfl (by kernel_rfl) (fun w hs => g_ld hf hs T3 rfl (k := 0) rfl rfl) (by decide) ?_; clear hf a; intro a hf
    refine gA hf hS (i := 7) rfl (by kernel_rfl) (fun w hs => g_fa (off' := 4) hf F28_1 rfl rfl) (by decide) ?_; clear hf a; intro a hf
    refine gA hf hS (i := 8) rfl (by kernel_rfl) (fun w hs => g_ld hf hs T3 rfl (k := 3) rfl rfl) (by decide) ?_; clear hf a; intro a hf
    refine gA hf hS (i := 9) rfl (by kernel_rfl) (fun w hs => g_quoI hf rfl rfl ⟨by omega, by omega⟩) (by decide) ?_; clear hf a; intro a hf
    refine gA hf hS (i := 10) rfl (by kernel_rfl) (fun w hs => g_bld hf [[.int .i64 0], [.int .i64 0]] (.cons rfl (.cons rfl .nil)) (fun _ => by kernel_rfl)) (by decide) ?_; clear hf a; intro a hf
    refine one (i := 11) (by kernel_rfl) ?_
    refine oU rfl (u_stW hf hs T40 rfl rfl rfl (k := 3) rfl rfl rfl) (fun _ h => h.sub (.cons_cons _ (.cons_cons _ (.cons_cons _ (.cons _ (.refl _)))))) ?_; clear hs hS; intro w hs hS; dsimp only [List.set] at hs
    refine gA hf hS (i := 12) rfl (by kernel_rfl) (fun w hs => g_as hf rfl) (by decide) ?_; clear hf a; intro a hf
    refine e_done (by kernel_rfl) ?_
    refine c_ret ?_
    refine e_res hf hs rfl (.cellA T40 rfl (k := 3) rfl rfl (.tmp rfl .nil)) rfl ?_
    exact ⟨by rw [grossP, if_pos he]; rfl, hs.below⟩

theorem c_WrongH (k : Bk) (fA : Option Addr) (fc : Nat) (rA : Option Addr) (rc : Nat) (wA : Option Addr) (wc : Nat) (ge : TypeId) (gz : Nat × Nat)  (w0 : World) (h : BkIn k fA fc rA rc wA wc w0) (hG : BlkIs 1 sidesA ge gz w0) :
    Calls Tryd.prog 20 #[.agg #[.int .i64 k.sh.wide, .int .i64 k.sh.high, .slice fA k.sh.flaps.length fc, .slice rA k.sh.rules.length rc, .int .i64 k.gross, .int .i64 k.pay, .int .i64 k.fine, .slice wA k.ws.length wc]] w0 (RetX w0 (fun v w0' => ∃ A c, v = .tuple #[.slice A (wrongP k).1.length c, .int .i64 (wrongP k).2] ∧ Out (wrongP k).1 A c w0 w0')) := by
  refine c_enter (n := 13) Tryd.func20 rfl rfl (Nat.le_of_ble_eq_true rfl) ?_; intro a hf; simp only [zipR] at hf
  have hs := St.start w0 [Rd encF 5 fA k.sh.flaps.length k.sh.flaps, Rd encR 2 rA k.sh.rules.length k.sh.rules, Rd encW 6 wA k.ws.length k.ws, OrdD k.ws, BlkIs 1 sidesA ge gz] (stab_app h.stab hG.st1)
  have hwm := h.W.2.1
  refine c_reg ?_
  refine vL hf (v_boxA hf hs rfl) (by decide) ?_; clear hs hf a; rintro _ w ⟨b1, rfl, hs⟩ a hf
  refine gL hf (g_as hf rfl) (by decide) ?_; clear hf a; intro a hf
  refine gL hf (g_as hf rfl) (by decide) ?_; clear hf a; intro a hf
  refine e_nil ?_
  refine wp_seq ?_
  refine c_reg ?_
  refine gL hf (g_ldW hf hs T28 rfl (k := 0) rfl rfl) (by decide) ?_; clear hf a; intro a hf
  refine callL hf hs (c_CheckH k _ _ _ _ _ _ ge gz _ ⟨⟨hs.rd (.head _), hs.rd (.tail _ (.head _)), h.sh.fc_, h.sh.rc_⟩, hs.rd (.tail _ (.tail _ (.head _))), h.wc_, hs.rd (.tail _ (.tail _ (.tail _ (.head _))))⟩ (hs.rd (.tail _ (.tail _ (.tail _ (.tail _ (.head _))))))) rfl rfl rfl E33 (by decide) ?_; clear hs hf a; intro w a hs hf
  refine gL hf (g_as hf rfl) (by decide) ?_; clear hf a; intro a hf
  refine e_nil ?_
  refine c_reg ?_
  refine gL hf (g_mv hf rfl) (by decide) ?_; clear hf a; intro a hf
  refine gL hf (g_neq hf rfl rfl) (by decide) ?_; clear hf a; intro a hf
  refine e_nil ?_
  refine c_cond hf rfl (fun hc1 => ?_) (fun hc1 => ?_)
  · skip
    have hbk : hckB k = false := by cases h9 : hckB k with | false => rfl | true => rw [bookE, h9] at hc1; cases hc1
    refine c_reg ?_
    refine gL hf (g_mv hf rfl) (by decide) ?_; clear hf a; intro a hf
    refine gL hf (g_as hf rfl) (by decide) ?_; clear hf a; intro a hf
    refine gL hf (g_as hf rfl) (by decide) ?_; clear hf a; intro a hf
    refine e_nil ?_
    refine c_ret (q_thenR ?_)
    refine e_ret2 hf rfl rfl rfl ?_
    have hor : wrongP k = ([], 90) := by rw [wrongP, hbk]; rfl
    exact ⟨_, rfl, hs.below, none, 0, by rw [hor, bookE, hbk]; rfl, by rw [hor]; exact ⟨Nat.le_refl _, rd_nil, fun b o e => by cases e⟩⟩
  · skip
    have hbk : hckB k = true := by cases h9 : hckB k with | false => (rw [bookE, h9] at hc1; cases hc1) | true => rfl
    have hv := hck_iff.1 hbk
    refine c_skip (q_thenN ?_)
    refine c_reg ?_
    refine gL hf (g_ldW hf hs T28 rfl (k := 0) rfl rfl) (by decide) ?_; clear hf a; intro a hf
    refine callX hf hs (c_openedH k _ _ _ _ _ _ ge gz hv _ ⟨⟨hs.rd (.head _), hs.rd (.tail _ (.head _)), h.sh.fc_, h.sh.rc_⟩, hs.rd (.tail _ (.tail _ (.head _))), h.wc_, hs.rd (.tail _ (.tail _ (.tail _ (.head _))))⟩ (hs.rd (.tail _ (.tail _ (.tail _ (.tail _ (.head _))))))) rfl rfl rfl E70 (by decide) ?_; have hle0 := hs.below.size; intro v w1 a hR hb hs1 hf; obtain ⟨dA, dc, mb, rfl, hop⟩ := hR; replace hs := hs.opened hb hop; clear hs1; have hkm := kOK_nil k
    refine callX hf hs (c_wrongH k fA fc rA rc wA wc dA _ mb hv _ (hs.rd (.tail _ (.tail _ (.tail _ (.head _)))))) rfl rfl rfl E71 (by decide) ?_; intro v w1 a hR hb hs1 hf; obtain ⟨Aw, cw, rfl, how⟩ := hR; replace hs := hs.fresh hs1 (outFresh how); clear hs1 hb
    refine gL hf (g_as hf rfl) (by decide) ?_; clear hf a; intro a hf
    refine gL hf (g_as hf rfl) (by decide) ?_; clear hf a; intro a hf
    refine e_nil ?_
    refine c_ret ?_
    refine e_ret2 hf rfl rfl rfl ?_
    have hor : wrongP k = (wrongL k, 0) := by rw [wrongP, hbk]; rfl
    exact ⟨_, rfl, hs.below, Aw, cw, by rw [hor], by rw [hor]; exact ⟨how.1, hs.rd (.head _), fun b o e => Nat.le_trans hle0 (Nat.le_trans hb.size (how.2.2 b o e))⟩⟩

end Go.Proofs.YtjjcopeedcdokaaDoor

set_option linter.unusedVariables false
set_option linter.unusedSimpArgs false
namespace Go.Proofs.YtjjcopeedcdokaaDoor
open Go.RowKit
section
variable (k : Bk) (fA : Option Addr) (fc : Nat) (rA : Option Addr) (rc : Nat) (wA : Option Addr) (wc : Nat) (ge : TypeId) (gz : Nat × Nat)
abbrev bkV (k : Bk) (fA : Option Addr) (fc : Nat) (rA : Option Addr) (rc : Nat) (wA : Option Addr) (wc : Nat) : Value := .agg #[.int .i64 k.sh.wide, .int .i64 k.sh.high, .slice fA k.sh.flaps.length fc, .slice rA k.sh.rules.length rc, .int .i64 k.gross, .int .i64 k.pay, .int .i64 k.fine, .slice wA k.ws.length wc]
theorem c_RightH (wi : Int) (w : World) (h : BkIn k fA fc rA rc wA wc w) (hG : BlkIs 1 sidesA ge gz w) : Calls Tryd.prog 31 #[bkV k fA fc rA rc wA wc, .int .i64 wi] w (Ret w (.tuple #[.bool (rightP k wi).1, .int .i64 (rightP k wi).2])) := by
  by_cases he : askH k wi = 0
  · obtain ⟨hbk, hwk⟩ := askH_zero he
    obtain ⟨i, rfl, hi⟩ := wkr_nat hwk
    exact c_RightH_ok k fA fc rA rc wA wc ge gz i hi hbk w h hG
  · exact c_RightH_err k fA fc rA rc wA wc ge gz wi he w h hG
theorem c_tellH (wi : Int) (what : Nat) (hwh : what < 3) (w : World) (h : BkIn k fA fc rA rc wA wc w) (hG : BlkIs 1 sidesA ge gz w) (te : TypeId) (tz : Nat × Nat) (hT : BlkIs 0 toldA te tz w) : Calls Tryd.prog 76 #[bkV k fA fc rA rc wA wc, .int .i64 wi, .int .i64 ((what : Nat) : Int)] w (Ret w (.tuple #[.agg #[.int .i64 (tellP k wi what).1.1, .int .i64 (tellP k wi what).1.2], .int .i64 (tellP k wi what).2])) := by
  by_cases he : askH k wi = 0
  · obtain ⟨hbk, hwk⟩ := askH_zero he
    obtain ⟨i, rfl, hi⟩ := wkr_nat hwk
    exact c_tellH_ok k fA fc rA rc wA wc ge gz i hi what hwh hbk w h hG te tz hT
  · exact c_tellH_err k fA fc rA rc wA wc ge gz wi what he w h hG
theorem c_TotalH (w : World) (h : BkIn k fA fc rA rc wA wc w) (hG : BlkIs 1 sidesA ge gz w) (te : TypeId) (tz : Nat × Nat) (hT : BlkIs 0 toldA te tz w) : Calls Tryd.prog 27 #[bkV k fA fc rA rc wA wc] w (Ret w (.tuple #[.agg #[.int .i64 (totalP k).1.1, .int .i64 (totalP k).1.2], .int .i64 (totalP k).2])) := by
  by_cases he : togE k = 0
  · exact c_TotalH_ok k fA fc rA rc wA wc ge gz he w h hG te tz hT
  · exact c_TotalH_err k fA fc rA rc wA wc ge gz he w h hG
theorem c_GrossesH (w : World) (h : BkIn k fA fc rA rc wA wc w) (hG : BlkIs 1 sidesA ge gz w) (te : TypeId) (tz : Nat × Nat) (hT : BlkIs 0 toldA te tz w) : Calls Tryd.prog 25 #[bkV k fA fc rA rc wA wc] w (Ret w (.tuple #[.agg #[.int .i64 (grossP k).1.1, .int .i64 (grossP k).1.2], .int .i64 (grossP k).2])) := by
  by_cases he : togE k = 0
  · exact c_GrossesH_ok k fA fc rA rc wA wc ge gz he w h hG te tz hT
  · exact c_GrossesH_err k fA fc rA rc wA wc ge gz he w h hG
end
/-- A function value that says a number of each worker. -/
def ClosOf (k : Bk) (mb fid : Nat) (caps : List Value) (f : Nat → Int) (many : Nat) (w : World) : Prop := ∀ (i : Nat) (w1 : World), i < many → Later [mb] w w1 → MapAt k mb w1 → Calls Tryd.prog fid (.int .i64 ((i : Nat) : Int) :: caps).toArray w1 (MRet k mb w1 (.int .i64 (f i)))
theorem mapAt_st {k : Bk} {mb : Nat} {m : KM} {w : World} (hm : w.heap[mb]? = some (mapK m)) : St (Base.rnd w [mb] [] noE) [] [(mb, mapK m)] w :=
  at3 (w3 := w) all_nil (Later.refl _ _) hm
theorem ordD_set {k : Bk} {X : List Nat} {w : World} {i : Nat} {l : List Int} {A : Option Addr} {c : Nat} (h1 : Stable X w (OrdD k.ws)) (hlc : l.length ≤ c) (h2 : Stable X w (Rd encI 1 A l.length l)) : Stable X w (OrdD (setW k i l A c).ws) := fun w' hl => OrdD.setW (h1 w' hl) hlc (h2 w' hl)
end Go.Proofs.YtjjcopeedcdokaaDoor

set_option linter.unusedVariables false
set_option linter.unusedSimpArgs false
namespace Go.Proofs.YtjjcopeedcdokaaDoor
open Go.RowKit
theorem c_mostW (k : Bk) (mb fid : Nat) (caps : List Value) (f : Nat → Int) (many : Nat) (hE : Enters Tryd.prog fid) (w0 : World) (hmap : MapAt k mb w0) (hclo : ClosOf k mb fid caps f many w0) (hmn : many ≤ 1000) :
    Calls Tryd.prog 75 #[.agg #[.func (.func fid) #[] caps.toArray], .int .i64 ((many : Nat) : Int)] w0 (MRet k mb w0 (.tuple #[.int .i64 (mostP f many).1, .int .i64 (mostP f many).2])) := by
  obtain ⟨m, hkm, hmb⟩ := hmap
  refine c_enter (n := 27) Tryd.func75 rfl rfl (Nat.le_of_ble_eq_true rfl) ?_; intro a hf; simp only [zipR] at hf
  have hs := mapAt_st (k := k) hmb
  refine c_reg ?_
  refine vL hf (v_boxA hf hs rfl) (by decide) ?_; clear hs hf a; rintro _ w ⟨b1, rfl, hs⟩ a hf
  refine gL hf (g_as hf rfl) (by decide) ?_; clear hf a; intro a hf
  refine gL hf (g_as hf rfl) (by decide) ?_; clear hf a; intro a hf
  refine e_nil ?_
  refine c_reg ?_
  refine gL hf (g_as hf rfl) (by decide) ?_; clear hf a; intro a hf
  refine gL hf (g_as hf rfl) (by decide) ?_; clear hf a; intro a hf
  refine e_nil ?_
  refine wp_seq ?_
  refine c_reg ?_
  refine gL hf (g_mv hf rfl) (by decide) ?_; clear hf a; intro a hf
  refine gL hf (g_mv hf rfl) (by decide) ?_; clear hf a; intro a hf
  refine e_nil ?_
  refine c_block ?_
  refine c_loop hf hs [6, 7, 8, 9, 11, 12, 13, 14, 15, 16, 17, 18, 19, 20, 21, 22, 23] (σ := (Nat × KM)) (fun s => [(6, .int .i64 (mostTo f s.1).1), (7, .int .i64 (mostTo f s.1).2), (11, .int .i64 (s.1 : Nat))]) (fun s => [(b1, .cells #[.func (.func fid) #[] caps.toArray] 98 (0, 0)), (mb, mapK s.2)]) (fun s => s.1 ≤ many ∧ kOK k s.2) (fun s => many - s.1) (0, m) ⟨Nat.zero_le _, hkm⟩ (.cons rfl (.cons rfl (.cons rfl .nil))) rfl ?_
  intro ⟨i, m⟩ a w hJ hf hs
  dsimp only at hJ hf hs
  obtain ⟨hile, hkm⟩ := hJ
  refine c_reg ?_
  refine gL hf (g_lss hf rfl rfl) (by decide) ?_; clear hf a; intro a hf
  refine e_nil ?_
  refine c_condS hf rfl (fun hc1 => ?_) (fun hc1 => ?_)
  · try simp only [decide_eq_true_eq, decide_eq_false_iff_not] at hc1
    have hi : i < many := by omega
    refine c_skip (q_thenN ?_)
    refine c_blockS ?_
    refine c_reg ?_
    refine gL hf (g_mv hf rfl) (by decide) ?_; clear hf a; intro a hf
    refine gL hf (g_as hf rfl) (by decide) ?_; clear hf a; intro a hf
    refine e_nil ?_
    refine c_reg ?_
    refine gL hf (g_fa (off' := 0) hf F98_0 rfl rfl) (by decide) ?_; clear hf a; intro a hf
    refine gL hf (g_ld hf hs T96 rfl (k := 0) rfl rfl) (by decide) ?_; clear hf a; intro a hf
    refine gL hf (g_mv hf rfl) (by decide) ?_; clear hf a; intro a hf
    refine callM hf hs (j := 1) rfl (hclo i _ (by omega) hs.below.2.2.2 ⟨_, hkm, (hs.own _ _ (.tail _ (.head _))).2⟩) rfl rfl rfl hE (by decide) ?_; clear hs hf a; intro m w a hkm hs hf; dsimp only [List.set] at hs
    refine gL hf (g_as hf rfl) (by decide) ?_; clear hf a; intro a hf
    refine e_nil ?_
    refine c_reg ?_
    refine gL hf (g_mv hf rfl) (by decide) ?_; clear hf a; intro a hf
    refine gL hf (g_mv hf rfl) (by decide) ?_; clear hf a; intro a hf
    refine gL hf (g_gtr hf rfl rfl) (by decide) ?_; clear hf a; intro a hf
    refine e_nil ?_
    refine c_cond hf rfl (fun hc2 => ?_) (fun hc2 => ?_)
    · try simp only [decide_eq_true_eq, decide_eq_false_iff_not] at hc2
      have hms := most_yes (f := f) (n := i) (by omega)
      refine c_reg1 ?_
      refine gL hf (g_mv hf rfl) (by decide) ?_; clear hf a; intro a hf
      refine gL hf (g_mv hf rfl) (by decide) ?_; clear hf a; intro a hf
      refine gL hf (g_as hf rfl) (by decide) ?_; clear hf a; intro a hf
      refine gL hf (g_as hf rfl) (by decide) ?_; clear hf a; intro a hf
      refine e_nil1 (q_blkN (q_thenN ?_))
      refine c_reg1 ?_
      refine gL hf (g_addI hf rfl rfl (by omega)) (by decide) ?_; clear hf a; intro a hf
      refine gL hf (g_mv hf rfl) (by decide) ?_; clear hf a; intro a hf
      refine e_nil1 (q_thenN ?_)
      exact ⟨(i + 1, m), ⟨by dsimp only; omega, hkm⟩, (by dsimp only; omega), hf.back (by repeat (first | (with_reducible exact Ext.base) | ((with_reducible refine Ext.cons ?_ ?_); (· rfl)) | ((with_reducible refine Ext.over ?_ ?_ ?_); (· rfl); (· rfl)))) (allKeys rfl) (.cons (by rw [hms]; rfl) (.cons (by rw [hms]; rfl) (.cons rfl .nil))), hs.dropN 0⟩
    · try simp only [decide_eq_true_eq, decide_eq_false_iff_not] at hc2
      have hms := most_no (f := f) (n := i) (by omega)
      refine c_skip (q_blkN (q_thenN ?_))
      refine c_reg1 ?_
      refine gL hf (g_addI hf rfl rfl (by omega)) (by decide) ?_; clear hf a; intro a hf
      refine gL hf (g_mv hf rfl) (by decide) ?_; clear hf a; intro a hf
      refine e_nil1 (q_thenN ?_)
      exact ⟨(i + 1, m), ⟨by dsimp only; omega, hkm⟩, (by dsimp only; omega), hf.back (by repeat (first | (with_reducible exact Ext.base) | ((with_reducible refine Ext.cons ?_ ?_); (· rfl)) | ((with_reducible refine Ext.over ?_ ?_ ?_); (· rfl); (· rfl)))) (allKeys rfl) (.cons (by rw [hms]; rfl) (.cons (by rw [hms]; rfl) (.cons rfl .nil))), hs.dropN 0⟩
  · try simp only [decide_eq_true_eq, decide_eq_false_iff_not] at hc1
    have hie : i = many := by omega
    subst hie
    refine c_exit (q_thenX (q_thenX (q_blkX (q_thenN ?_))))
    refine wp_seq ?_
    refine c_reg ?_
    refine gL hf (g_mv hf rfl) (by decide) ?_; clear hf a; intro a hf
    refine gL hf (g_eql hf rfl rfl) (by decide) ?_; clear hf a; intro a hf
    refine e_nil ?_
    refine c_cond hf rfl (fun hc3 => ?_) (fun hc3 => ?_)
    · skip
      have hz : (mostTo f i).2 = 0 := by simpa using hc3
      refine c_reg ?_
      refine gL hf (g_as hf rfl) (by decide) ?_; clear hf a; intro a hf
      refine gL hf (g_as hf rfl) (by decide) ?_; clear hf a; intro a hf
      refine e_nil ?_
      refine c_ret (q_thenR ?_)
      refine e_ret2 hf rfl rfl rfl ?_
      exact ⟨_, rfl, by rw [mostP, if_pos hz], hs.below.1, hs.below.2.1, hs.below.2.2.1, hs.below.2.2.2, _, hkm, (hs.own _ _ (.tail _ (.head _))).2⟩
    · skip
      have hz : (mostTo f i).2 ≠ 0 := by simpa using hc3
      refine c_skip (q_thenN ?_)
      refine c_reg ?_
      refine gL hf (g_mv hf rfl) (by decide) ?_; clear hf a; intro a hf
      refine gL hf (g_as hf rfl) (by decide) ?_; clear hf a; intro a hf
      refine gL hf (g_as hf rfl) (by decide) ?_; clear hf a; intro a hf
      refine e_nil ?_
      refine c_ret ?_
      refine e_ret2 hf rfl rfl rfl ?_
      exact ⟨_, rfl, by rw [mostP, if_neg hz], hs.below.1, hs.below.2.1, hs.below.2.2.1, hs.below.2.2.2, _, hkm, (hs.own _ _ (.tail _ (.head _))).2⟩

theorem c_Ask1 (k : Bk) (fA : Option Addr) (fc : Nat) (rA : Option Addr) (rc : Nat) (wA : Option Addr) (wc : Nat) (dA : Option Addr) (dc mb : Nat) (hv : BkV k) (te : TypeId) (tz : Nat × Nat) (kb : Nat) (w3 : World) (hs3 : ∀ D ∈ [BlkIs kb #[.int .i64 k.sh.wide, .int .i64 k.sh.high, .slice fA k.sh.flaps.length fc, .slice rA k.sh.rules.length rc, .int .i64 k.gross, .int .i64 k.pay, .int .i64 k.fine, .slice wA k.ws.length wc, .slice dA k.ws.length dc, .map (some mb)] 89 (0, 0), BlkIs 0 toldA te tz, Rd encF 5 fA k.sh.flaps.length k.sh.flaps, Rd encR 2 rA k.sh.rules.length k.sh.rules, Rd encW 6 wA k.ws.length k.ws, OrdD k.ws, Rd encI 1 dA k.ws.length (doesL k)], Stable [mb] w3 D) (i : Nat) (hi : i < k.ws.length) (w0 : World) (hl3 : Later [mb] w3 w0) (hmap : MapAt k mb w0) :
    Calls Tryd.prog 94 #[.int .i64 ((i : Nat) : Int), .pointer (some ⟨kb, 0, none⟩)] w0 (MRet k mb w0 (.int .i64 ((ofZ k 2 (k.ws.getD i default)).2 - (ofZ k 2 (k.ws.getD i default)).1))) := by
  obtain ⟨m, hkm, hmb⟩ := hmap
  refine c_enter (n := 17) Tryd.func94 rfl rfl (Nat.le_of_ble_eq_true rfl) ?_; intro a hf; simp only [zipR] at hf
  have hs := at3 hs3 hl3 hmb
  have hrx := ofZ_rng hv (hv.wk hi) (what := 2) (by decide)
  refine c_reg ?_
  refine gL hf (g_as hf rfl) (by decide) ?_; clear hf a; intro a hf
  refine e_nil ?_
  refine c_reg ?_
  refine gL hf (g_ldBW hf hs (.head _) T89 rfl rfl) (by decide) ?_; clear hf a; intro a hf
  refine gL hf (g_mv hf rfl) (by decide) ?_; clear hf a; intro a hf
  refine callM hf hs (j := 0) rfl (c_of k _ fc _ rc _ wc _ _ _ i hi 2 (by decide) hv te tz _ (bkO_of fc rc wc hs 0 rfl hkm (.tail _ (.tail _ (.head _))) (.tail _ (.tail _ (.tail _ (.head _)))) (.tail _ (.tail _ (.tail _ (.tail _ (.head _))))) (.tail _ (.tail _ (.tail _ (.tail _ (.tail _ (.head _)))))) (.tail _ (.tail _ (.tail _ (.tail _ (.tail _ (.tail _ (.head _)))))))) (hs.told (j := 0) rfl (.tail _ (.head _)))) rfl rfl rfl E74 (by decide) ?_; clear hs hf a; intro m w a hkm hs hf; dsimp only [List.set] at hs
  refine gL hf (g_mv hf rfl) (by decide) ?_; clear hf a; intro a hf
  refine gL hf (g_ext hf rfl rfl) (by decide) ?_; clear hf a; intro a hf
  refine gL hf (g_ext hf rfl rfl) (by decide) ?_; clear hf a; intro a hf
  refine vL hf (v_alloc hs T40 rfl) (by decide) ?_; clear hs hf a; rintro _ w ⟨b1, rfl, hs⟩ a hf
  refine uL (u_stW hf hs T40 rfl rfl rfl (k := 0) rfl rfl rfl) ?_; clear hs; intro w hs; dsimp only [List.set] at hs
  refine gL hf (g_as hf rfl) (by decide) ?_; clear hf a; intro a hf
  refine e_nil ?_
  refine c_reg ?_
  refine gL hf (g_fa (off' := 1) hf F40_1 rfl rfl) (by decide) ?_; clear hf a; intro a hf
  refine gL hf (g_ld hf hs T3 rfl (k := 0) rfl rfl) (by decide) ?_; clear hf a; intro a hf
  refine gL hf (g_fa (off' := 0) hf F40_0 rfl rfl) (by decide) ?_; clear hf a; intro a hf
  refine gL hf (g_ld hf hs T3 rfl (k := 0) rfl rfl) (by decide) ?_; clear hf a; intro a hf
  refine gL hf (g_subI hf rfl rfl (by omega)) (by decide) ?_; clear hf a; intro a hf
  refine gL hf (g_as hf rfl) (by decide) ?_; clear hf a; intro a hf
  refine e_nil ?_
  refine c_ret ?_
  refine e_ret1 hf rfl rfl ?_
  exact ⟨_, rfl, rfl, hs.below.1, hs.below.2.1, hs.below.2.2.1, hs.below.2.2.2, _, hkm, (hs.own _ _ (.tail _ (.head _))).2⟩

theorem c_Teach1 (k : Bk) (fA : Option Addr) (fc : Nat) (rA : Option Addr) (rc : Nat) (wA : Option Addr) (wc : Nat) (dA : Option Addr) (dc mb : Nat) (hv : BkV k) (hfc : k.sh.flaps.length ≤ fc) (hrc : k.sh.rules.length ≤ rc) (ge : TypeId) (gz : Nat × Nat) (te : TypeId) (tz : Nat × Nat) (l : List Int) (lA : Option Addr) (lc : Nat) (hl : ordB k.sh l = true) (hlc : l.length ≤ lc) (xb lb kb : Nat) (w3 : World) (hs3 : ∀ D ∈ [BlkIs xb #[.int .i64 k.sh.wide, .int .i64 k.sh.high, .slice fA k.sh.flaps.length fc, .slice rA k.sh.rules.length rc, .int .i64 k.gross, .int .i64 k.pay, .int .i64 k.fine, .slice wA k.ws.length wc] 28 (0, 0), BlkIs lb #[.slice lA l.length lc] 31 (0, 0), BlkIs kb #[.int .i64 k.sh.wide, .int .i64 k.sh.high, .slice fA k.sh.flaps.length fc, .slice rA k.sh.rules.length rc, .int .i64 k.gross, .int .i64 k.pay, .int .i64 k.fine, .slice wA k.ws.length wc, .slice dA k.ws.length dc, .map (some mb)] 89 (0, 0), BlkIs 0 toldA te tz, BlkIs 1 sidesA ge gz, Rd encI 1 lA l.length l, Rd encF 5 fA k.sh.flaps.length k.sh.flaps, Rd encR 2 rA k.sh.rules.length k.sh.rules, Rd encW 6 wA k.ws.length k.ws, OrdD k.ws, Rd encI 1 dA k.ws.length (doesL k)], Stable [mb] w3 D) (i : Nat) (hi : i < k.ws.length) (w0 : World) (hl3 : Later [mb] w3 w0) (hmap : MapAt k mb w0) :
    Calls Tryd.prog 73 #[.int .i64 ((i : Nat) : Int), .pointer (some ⟨xb, 0, none⟩), .pointer (some ⟨lb, 0, none⟩), .pointer (some ⟨kb, 0, none⟩)] w0 (MRet k mb w0 (.int .i64 (moreZ k l i))) := by
  obtain ⟨m, hkm, hmb⟩ := hmap
  have hwn := hv.n
  refine c_enter (n := 45) Tryd.func73 rfl rfl (Nat.le_of_ble_eq_true rfl) ?_; intro a hf; simp only [zipR] at hf
  have hs := at3 hs3 hl3 hmb
  refine c_reg ?_
  refine gL hf (g_as hf rfl) (by decide) ?_; clear hf a; intro a hf
  refine e_nil ?_
  refine c_reg ?_
  refine gL hf (g_ldBW hf hs (.head _) T28 rfl rfl) (by decide) ?_; clear hf a; intro a hf
  refine vL hf (v_alloc hs T28 rfl) (by decide) ?_; clear hs hf a; rintro _ w ⟨b1, rfl, hs⟩ a hf
  refine uL (u_stW hf hs T28 rfl rfl rfl (k := 0) rfl rfl rfl) ?_; clear hs; intro w hs; dsimp only [List.set] at hs
  refine e_nil ?_
  refine c_reg ?_
  refine gL hf (g_fa (off' := 7) hf F28_4 rfl rfl) (by decide) ?_; clear hf a; intro a hf
  refine gL hf (g_ldB hf hs (.head _) T26 rfl rfl) (by decide) ?_; clear hf a; intro a hf
  refine vL hf (v_accN (e := 47) (o := none) (l := []) (l' := k.ws) (len := 0) hf 0 hs rfl rfl AP26 (enc := encW) (fun _ => rfl) (by decide) (by intro x v hv9; simp only [encW, List.mem_cons, List.not_mem_nil, or_false] at hv9; rcases hv9 with rfl | rfl | rfl | rfl | rfl | rfl <;> rfl) rfl rfl rfl (hs.rd (.tail _ (.tail _ (.tail _ (.tail _ (.tail _ (.tail _ (.tail _ (.tail _ (.head _)))))))))) (by omega) (by decide)) (by decide) ?_; clear hs hf a; rintro _ w ⟨ox, rfl, hox, hs⟩ a hf; dsimp only [List.take, List.nil_append] at hs
  rw [List.nil_append] at hox
  obtain ⟨bcx, csx, rfl⟩ : ∃ bc cs, ox = some (bc, cs) := acc_some hox (by omega)
  simp only [Nat.zero_add] at hf; dsimp only [accV] at hf; dsimp only [accH, List.cons_append, List.nil_append] at hs
  have hcap := hox.cap (sz := 6) (by decide)
  refine gL hf (g_fa (off' := 7) hf F28_4 rfl rfl) (by decide) ?_; clear hf a; intro a hf
  refine uL (u_st hf hs T26 rfl rfl rfl (k := 1) rfl (Nat.le_of_ble_eq_true rfl)) ?_; clear hs; intro w hs; dsimp only [List.set] at hs
  refine e_nil ?_
  refine c_draw _ 12 Mx rfl hs (fun _ h => h.sub (.cons _ (.refl _))) ?_; intro w hs hS
  refine gA hf hS (i := 0) rfl (by kernel_rfl) (fun w hs => g_fa (off' := 7) hf F28_4 rfl rfl) (by decide) ?_; clear hf a; intro a hf
  refine gA hf hS (i := 1) rfl (by kernel_rfl) (fun w hs => g_ld hf hs T26 rfl (k := 0) rfl rfl) (by decide) ?_; clear hf a; intro a hf
  refine gA hf hS (i := 2) rfl (by kernel_rfl) (fun w hs => g_mv hf rfl) (by decide) ?_; clear hf a; intro a hf
  refine gA hf hS (i := 3) rfl (by kernel_rfl) (fun w hs => g_ldB hf hs (.tail _ (.head _)) T31 rfl rfl) (by decide) ?_; clear hf a; intro a hf
  refine gA hf hS (i := 4) rfl (by kernel_rfl) (fun w hs => g_ldB hf hs (.tail _ (.head _)) T31 rfl rfl) (by decide) ?_; clear hf a; intro a hf
  refine gA hf hS (i := 5) rfl (by kernel_rfl) (fun w hs => g_len hf SL31 rfl) (by decide) ?_; clear hf a; intro a hf
  refine gA hf hS (i := 6) rfl (by kernel_rfl) (fun w hs => g_ldB hf hs (.tail _ (.head _)) T31 rfl rfl) (by decide) ?_; clear hf a; intro a hf
  refine gA hf hS (i := 7) rfl (by kernel_rfl) (fun w hs => g_len hf SL31 rfl) (by decide) ?_; clear hf a; intro a hf
  refine gA hf hS (i := 8) rfl (by kernel_rfl) (fun w hs => g_slHM hf SL31 rfl rfl rfl (by omega) (by omega)) (by decide) ?_; clear hf a; intro a hf
  refine gA hf hS (i := 9) rfl (by kernel_rfl) (fun w hs => g_ixO hf SL26 rfl rfl (by omega)) (by decide) ?_; clear hf a; intro a hf
  refine gA hf hS (i := 10) rfl (by kernel_rfl) (fun w hs => g_fa hf F47_1 rfl rfl) (by decide) ?_; clear hf a; intro a hf
  refine one (i := 11) (by kernel_rfl) ?_
  refine oU rfl (u_st hf hs T31 rfl rfl rfl (k := 0) rfl (accW_set (x' := reO (k.ws.getD i default) l lA l.length) (i := i) (r := 1) hi (by decide) (by omega) rfl hox).1) (fun _ h => h.sub (.cons _ (.refl _))) ?_; clear hs hS; intro w hs hS; dsimp only [List.set] at hs
  have hox2 := (accW_set (x' := reO (k.ws.getD i default) l lA l.length) (i := i) (r := 1) (q := 0 + i * 6 + 1) hi (by decide) (by omega) rfl hox).2
  refine e_done (by kernel_rfl) ?_
  obtain ⟨Ax, cx, ex, hlx, hs⟩ := hs.freeze (e := 47) (o := some (bcx, _)) (l := (setW k i l lA l.length).ws) (enc := encW) (sz := 6) 0 rfl hox2 (fun _ => rfl) (by decide)
  dsimp only [List.take, List.nil_append] at hs
  dsimp only [accV] at ex
  injection ex with ex1 ex2 ex3; subst ex1
  replace hs := hs.addD (ordD_set (i := i) (l := l) (A := lA) (c := l.length) (hs.data _ (.tail _ (.tail _ (.tail _ (.tail _ (.tail _ (.tail _ (.tail _ (.tail _ (.tail _ (.tail _ (.head _)))))))))))) (Nat.le_refl _) (hs.data _ (.tail _ (.tail _ (.tail _ (.tail _ (.tail _ (.tail _ (.head _)))))))))
  refine c_reg ?_
  refine gL hf (g_ldBW hf hs (.tail _ (.tail _ (.tail _ (.tail _ (.head _))))) T89 rfl rfl) (by decide) ?_; clear hf a; intro a hf
  refine gL hf (g_mv hf rfl) (by decide) ?_; clear hf a; intro a hf
  refine callM hf hs (j := 1) rfl (c_of k _ fc _ rc _ wc _ _ _ i hi 0 (by decide) hv te tz _ (bkO_of fc rc wc hs 1 rfl hkm (.tail _ (.tail _ (.tail _ (.tail _ (.tail _ (.tail _ (.tail _ (.tail _ (.head _))))))))) (.tail _ (.tail _ (.tail _ (.tail _ (.tail _ (.tail _ (.tail _ (.tail _ (.tail _ (.head _)))))))))) (.tail _ (.tail _ (.tail _ (.tail _ (.tail _ (.tail _ (.tail _ (.tail _ (.tail _ (.tail _ (.head _))))))))))) (.tail _ (.tail _ (.tail _ (.tail _ (.tail _ (.tail _ (.tail _ (.tail _ (.tail _ (.tail _ (.tail _ (.head _)))))))))))) (.tail _ (.tail _ (.tail _ (.tail _ (.tail _ (.tail _ (.tail _ (.tail _ (.tail _ (.tail _ (.tail _ (.tail _ (.head _)))))))))))))) (hs.told (j := 1) rfl (.tail _ (.tail _ (.tail _ (.tail _ (.tail _ (.head _)))))))) rfl rfl rfl E74 (by decide) ?_; clear hs hf a; intro m w a hkm hs hf; dsimp only [List.set] at hs
  refine gL hf (g_mv hf rfl) (by decide) ?_; clear hf a; intro a hf
  refine gL hf (g_ext hf rfl rfl) (by decide) ?_; clear hf a; intro a hf
  refine gL hf (g_ext hf rfl rfl) (by decide) ?_; clear hf a; intro a hf
  refine vL hf (v_alloc hs T40 rfl) (by decide) ?_; clear hs hf a; rintro _ w ⟨b2, rfl, hs⟩ a hf
  refine uL (u_stW hf hs T40 rfl rfl rfl (k := 0) rfl rfl rfl) ?_; clear hs; intro w hs; dsimp only [List.set] at hs
  refine gL hf (g_as hf rfl) (by decide) ?_; clear hf a; intro a hf
  refine e_nil ?_
  refine c_reg ?_
  refine gL hf (g_ldW hf hs T28 rfl (k := 1) rfl rfl) (by decide) ?_; clear hf a; intro a hf
  have hvx := setW_v hv hi hl lA l.length
  have hk2 : BkIn (setW k i l lA l.length) fA fc rA rc (some ⟨bcx, 0, none⟩) (csx.size / 6) _ := ⟨⟨hs.rd (.tail _ (.tail _ (.tail _ (.tail _ (.tail _ (.tail _ (.tail _ (.tail _ (.head _))))))))), hs.rd (.tail _ (.tail _ (.tail _ (.tail _ (.tail _ (.tail _ (.tail _ (.tail _ (.tail _ (.head _)))))))))), hfc, hrc⟩, hs.rd (.tail _ (.head _)), by rw [setW_len]; exact hcap, hs.rd (.head _)⟩
  have h9 := c_openedH (setW k i l lA l.length) fA fc rA rc (some ⟨bcx, 0, none⟩) (csx.size / 6) ge gz hvx _ hk2 (hs.rd (.tail _ (.tail _ (.tail _ (.tail _ (.tail _ (.tail _ (.head _))))))))
  simp only [setW_len] at h9
  refine callX hf hs (h9) rfl rfl rfl E70 (by decide) ?_; intro v w1 a hR hb hs1 hf; obtain ⟨dX, dcX, mbx, rfl, hop⟩ := hR; replace hs := hs.opened hb hop; clear hs1; have hkmx := kOK_nil (setW k i l lA l.length)
  refine gL hf (g_mv hf rfl) (by decide) ?_; clear hf a; intro a hf
  have hix : i < (setW k i l lA l.length).ws.length := by rw [setW_len]; exact hi
  have h10 := c_of (setW k i l lA l.length) fA fc rA rc (some ⟨bcx, 0, none⟩) (csx.size / 6) dX dcX mbx i hix 0 (by decide) hvx te tz _ (bkO_of fc rc (csx.size / 6) hs 0 rfl hkmx (.tail _ (.tail _ (.tail _ (.tail _ (.tail _ (.tail _ (.tail _ (.tail _ (.tail _ (.head _)))))))))) (.tail _ (.tail _ (.tail _ (.tail _ (.tail _ (.tail _ (.tail _ (.tail _ (.tail _ (.tail _ (.head _))))))))))) (.tail _ (.tail _ (.head _))) (.tail _ (.head _)) (.head _)) (hs.told (j := 0) rfl (.tail _ (.tail _ (.tail _ (.tail _ (.tail _ (.tail _ (.head _))))))))
  simp only [setW_len] at h10
  refine callM hf hs (j := 0) rfl (h10) rfl rfl rfl E74 (by decide) ?_; clear hs hf a; intro mx w a hkmx hs hf; dsimp only [List.set] at hs
  refine gL hf (g_mv hf rfl) (by decide) ?_; clear hf a; intro a hf
  refine gL hf (g_ext hf rfl rfl) (by decide) ?_; clear hf a; intro a hf
  refine gL hf (g_ext hf rfl rfl) (by decide) ?_; clear hf a; intro a hf
  refine vL hf (v_alloc hs T40 rfl) (by decide) ?_; clear hs hf a; rintro _ w ⟨b3, rfl, hs⟩ a hf
  refine uL (u_stW hf hs T40 rfl rfl rfl (k := 0) rfl rfl rfl) ?_; clear hs; intro w hs; dsimp only [List.set] at hs
  refine gL hf (g_as hf rfl) (by decide) ?_; clear hf a; intro a hf
  refine e_nil ?_
  refine c_reg ?_
  refine gL hf (g_fa (off' := 0) hf F40_0 rfl rfl) (by decide) ?_; clear hf a; intro a hf
  refine gL hf (g_ld hf hs T3 rfl (k := 0) rfl rfl) (by decide) ?_; clear hf a; intro a hf
  refine gL hf (g_fa (off' := 0) hf F40_0 rfl rfl) (by decide) ?_; clear hf a; intro a hf
  refine gL hf (g_ld hf hs T3 rfl (k := 2) rfl rfl) (by decide) ?_; clear hf a; intro a hf
  refine gL hf (g_subI hf rfl rfl (by have h1 := ofZ_rng (what := 0) hvx (hvx.wk hix) (by decide); have h2 := ofZ_rng (what := 0) hv (hv.wk hi) (by decide); omega)) (by decide) ?_; clear hf a; intro a hf
  refine gL hf (g_as hf rfl) (by decide) ?_; clear hf a; intro a hf
  refine e_nil ?_
  refine c_ret ?_
  refine e_ret1 hf rfl rfl ?_
  exact ⟨_, rfl, congrArg (Value.int .i64) (more_setW hi l lA l.length), hs.below.1, hs.below.2.1, hs.below.2.2.1, hs.below.2.2.2, _, hkm, (hs.own _ _ (.tail _ (.tail _ (.tail _ (.tail _ (.head _)))))).2⟩

end Go.Proofs.YtjjcopeedcdokaaDoor

set_option linter.unusedVariables false
set_option linter.unusedSimpArgs false
namespace Go.Proofs.YtjjcopeedcdokaaDoor
open Go.RowKit
theorem c_PassesH (k : Bk) (fA : Option Addr) (fc : Nat) (rA : Option Addr) (rc : Nat) (wA : Option Addr) (wc : Nat) (ge : TypeId) (gz : Nat × Nat) (wi : Int) (w0 : World) (h : BkIn k fA fc rA rc wA wc w0) (hG : BlkIs 1 sidesA ge gz w0) (te : TypeId) (tz : Nat × Nat) (hT : BlkIs 0 toldA te tz w0) :
    Calls Tryd.prog 23 #[.agg #[.int .i64 k.sh.wide, .int .i64 k.sh.high, .slice fA k.sh.flaps.length fc, .slice rA k.sh.rules.length rc, .int .i64 k.gross, .int .i64 k.pay, .int .i64 k.fine, .slice wA k.ws.length wc], .int .i64 wi] w0 (Ret w0 (.tuple #[.agg #[.int .i64 (tellP k wi 0).1.1, .int .i64 (tellP k wi 0).1.2], .int .i64 (tellP k wi 0).2])) := by
  refine c_enter (n := 11) Tryd.func23 rfl rfl (Nat.le_of_ble_eq_true rfl) ?_; intro a hf; simp only [zipR] at hf
  have hs := St.start w0 [Rd encF 5 fA k.sh.flaps.length k.sh.flaps, Rd encR 2 rA k.sh.rules.length k.sh.rules, Rd encW 6 wA k.ws.length k.ws, OrdD k.ws, BlkIs 1 sidesA ge gz, BlkIs 0 toldA te tz] (stab_app (stab_app h.stab hG.st1) hT.st1)
  have hwm := h.W.2.1
  refine c_reg ?_
  refine vL hf (v_boxA hf hs rfl) (by decide) ?_; clear hs hf a; rintro _ w ⟨b1, rfl, hs⟩ a hf
  refine vL hf (v_alloc hs T40 rfl) (by decide) ?_; clear hs hf a; rintro _ w ⟨b2, rfl, hs⟩ a hf
  refine gL hf (g_as hf rfl) (by decide) ?_; clear hf a; intro a hf
  refine e_nil ?_
  refine c_reg ?_
  refine gL hf (g_ldW hf hs T28 rfl (k := 1) rfl rfl) (by decide) ?_; clear hf a; intro a hf
  refine gL hf (g_mv hf rfl) (by decide) ?_; clear hf a; intro a hf
  refine callL hf hs (c_tellH k _ _ _ _ _ _ ge gz wi 0 (by decide) _ ⟨⟨hs.rd (.head _), hs.rd (.tail _ (.head _)), h.sh.fc_, h.sh.rc_⟩, hs.rd (.tail _ (.tail _ (.head _))), h.wc_, hs.rd (.tail _ (.tail _ (.tail _ (.head _))))⟩ (hs.rd (.tail _ (.tail _ (.tail _ (.tail _ (.head _)))))) te tz (hs.rd (.tail _ (.tail _ (.tail _ (.tail _ (.tail _ (.head _)))))))) rfl rfl rfl E76 (by decide) ?_; clear hs hf a; intro w a hs hf
  refine gL hf (g_ext hf rfl rfl) (by decide) ?_; clear hf a; intro a hf
  refine gL hf (g_ext hf rfl rfl) (by decide) ?_; clear hf a; intro a hf
  refine uL (u_stW hf hs T40 rfl rfl rfl (k := 0) rfl rfl rfl) ?_; clear hs; intro w hs; dsimp only [List.set] at hs
  refine gL hf (g_as hf rfl) (by decide) ?_; clear hf a; intro a hf
  refine e_nil ?_
  refine c_ret ?_
  refine e_res hf hs rfl (.cellA T40 rfl (k := 0) rfl rfl (.tmp rfl .nil)) rfl ?_
  exact ⟨rfl, hs.below⟩

theorem c_MissingH (k : Bk) (fA : Option Addr) (fc : Nat) (rA : Option Addr) (rc : Nat) (wA : Option Addr) (wc : Nat) (ge : TypeId) (gz : Nat × Nat) (wi : Int) (w0 : World) (h : BkIn k fA fc rA rc wA wc w0) (hG : BlkIs 1 sidesA ge gz w0) (te : TypeId) (tz : Nat × Nat) (hT : BlkIs 0 toldA te tz w0) :
    Calls Tryd.prog 36 #[.agg #[.int .i64 k.sh.wide, .int .i64 k.sh.high, .slice fA k.sh.flaps.length fc, .slice rA k.sh.rules.length rc, .int .i64 k.gross, .int .i64 k.pay, .int .i64 k.fine, .slice wA k.ws.length wc], .int .i64 wi] w0 (Ret w0 (.tuple #[.agg #[.int .i64 (tellP k wi 1).1.1, .int .i64 (tellP k wi 1).1.2], .int .i64 (tellP k wi 1).2])) := by
  refine c_enter (n := 11) Tryd.func36 rfl rfl (Nat.le_of_ble_eq_true rfl) ?_; intro a hf; simp only [zipR] at hf
  have hs := St.start w0 [Rd encF 5 fA k.sh.flaps.length k.sh.flaps, Rd encR 2 rA k.sh.rules.length k.sh.rules, Rd encW 6 wA k.ws.length k.ws, OrdD k.ws, BlkIs 1 sidesA ge gz, BlkIs 0 toldA te tz] (stab_app (stab_app h.stab hG.st1) hT.st1)
  have hwm := h.W.2.1
  refine c_reg ?_
  refine vL hf (v_boxA hf hs rfl) (by decide) ?_; clear hs hf a; rintro _ w ⟨b1, rfl, hs⟩ a hf
  refine vL hf (v_alloc hs T40 rfl) (by decide) ?_; clear hs hf a; rintro _ w ⟨b2, rfl, hs⟩ a hf
  refine gL hf (g_as hf rfl) (by decide) ?_; clear hf a; intro a hf
  refine e_nil ?_
  refine c_reg ?_
  refine gL hf (g_ldW hf hs T28 rfl (k := 1) rfl rfl) (by decide) ?_; clear hf a; intro a hf
  refine gL hf (g_mv hf rfl) (by decide) ?_; clear hf a; intro a hf
  refine callL hf hs (c_tellH k _ _ _ _ _ _ ge gz wi 1 (by decide) _ ⟨⟨hs.rd (.head _), hs.rd (.tail _ (.head _)), h.sh.fc_, h.sh.rc_⟩, hs.rd (.tail _ (.tail _ (.head _))), h.wc_, hs.rd (.tail _ (.tail _ (.tail _ (.head _))))⟩ (hs.rd (.tail _ (.tail _ (.tail _ (.tail _ (.head _)))))) te tz (hs.rd (.tail _ (.tail _ (.tail _ (.tail _ (.tail _ (.head _)))))))) rfl rfl rfl E76 (by decide) ?_; clear hs hf a; intro w a hs hf
  refine gL hf (g_ext hf rfl rfl) (by decide) ?_; clear hf a; intro a hf
  refine gL hf (g_ext hf rfl rfl) (by decide) ?_; clear hf a; intro a hf
  refine uL (u_stW hf hs T40 rfl rfl rfl (k := 0) rfl rfl rfl) ?_; clear hs; intro w hs; dsimp only [List.set] at hs
  refine gL hf (g_as hf rfl) (by decide) ?_; clear hf a; intro a hf
  refine e_nil ?_
  refine c_ret ?_
  refine e_res hf hs rfl (.cellA T40 rfl (k := 0) rfl rfl (.tmp rfl .nil)) rfl ?_
  exact ⟨rfl, hs.below⟩

theorem c_GetsH (k : Bk) (fA : Option Addr) (fc : Nat) (rA : Option Addr) (rc : Nat) (wA : Option Addr) (wc : Nat) (ge : TypeId) (gz : Nat × Nat) (wi : Int) (w0 : World) (h : BkIn k fA fc rA rc wA wc w0) (hG : BlkIs 1 sidesA ge gz w0) (te : TypeId) (tz : Nat × Nat) (hT : BlkIs 0 toldA te tz w0) :
    Calls Tryd.prog 38 #[.agg #[.int .i64 k.sh.wide, .int .i64 k.sh.high, .slice fA k.sh.flaps.length fc, .slice rA k.sh.rules.length rc, .int .i64 k.gross, .int .i64 k.pay, .int .i64 k.fine, .slice wA k.ws.length wc], .int .i64 wi] w0 (Ret w0 (.tuple #[.agg #[.int .i64 (tellP k wi 2).1.1, .int .i64 (tellP k wi 2).1.2], .int .i64 (tellP k wi 2).2])) := by
  refine c_enter (n := 11) Tryd.func38 rfl rfl (Nat.le_of_ble_eq_true rfl) ?_; intro a hf; simp only [zipR] at hf
  have hs := St.start w0 [Rd encF 5 fA k.sh.flaps.length k.sh.flaps, Rd encR 2 rA k.sh.rules.length k.sh.rules, Rd encW 6 wA k.ws.length k.ws, OrdD k.ws, BlkIs 1 sidesA ge gz, BlkIs 0 toldA te tz] (stab_app (stab_app h.stab hG.st1) hT.st1)
  have hwm := h.W.2.1
  refine c_reg ?_
  refine vL hf (v_boxA hf hs rfl) (by decide) ?_; clear hs hf a; rintro _ w ⟨b1, rfl, hs⟩ a hf
  refine vL hf (v_alloc hs T40 rfl) (by decide) ?_; clear hs hf a; rintro _ w ⟨b2, rfl, hs⟩ a hf
  refine gL hf (g_as hf rfl) (by decide) ?_; clear hf a; intro a hf
  refine e_nil ?_
  refine c_reg ?_
  refine gL hf (g_ldW hf hs T28 rfl (k := 1) rfl rfl) (by decide) ?_; clear hf a; intro a hf
  refine gL hf (g_mv hf rfl) (by decide) ?_; clear hf a; intro a hf
  refine callL hf hs (c_tellH k _ _ _ _ _ _ ge gz wi 2 (by decide) _ ⟨⟨hs.rd (.head _), hs.rd (.tail _ (.head _)), h.sh.fc_, h.sh.rc_⟩, hs.rd (.tail _ (.tail _ (.head _))), h.wc_, hs.rd (.tail _ (.tail _ (.tail _ (.head _))))⟩ (hs.rd (.tail _ (.tail _ (.tail _ (.tail _ (.head _)))))) te tz (hs.rd (.tail _ (.tail _ (.tail _ (.tail _ (.tail _ (.head _)))))))) rfl rfl rfl E76 (by decide) ?_; clear hs hf a; intro w a hs hf
  refine gL hf (g_ext hf rfl rfl) (by decide) ?_; clear hf a; intro a hf
  refine gL hf (g_ext hf rfl rfl) (by decide) ?_; clear hf a; intro a hf
  refine uL (u_stW hf hs T40 rfl rfl rfl (k := 0) rfl rfl rfl) ?_; clear hs; intro w hs; dsimp only [List.set] at hs
  refine gL hf (g_as hf rfl) (by decide) ?_; clear hf a; intro a hf
  refine e_nil ?_
  refine c_ret ?_
  refine e_res hf hs rfl (.cellA T40 rfl (k := 0) rfl rfl (.tmp rfl .nil)) rfl ?_
  exact ⟨rfl, hs.below⟩

theorem c_AskH_err (k : Bk) (fA : Option Addr) (fc : Nat) (rA : Option Addr) (rc : Nat) (wA : Option Addr) (wc : Nat) (ge : TypeId) (gz : Nat × Nat) (he : togE k ≠ 0) (w0 : World) (h : BkIn k fA fc rA rc wA wc w0) (hG : BlkIs 1 sidesA ge gz w0) :
    Calls Tryd.prog 46 #[.agg #[.int .i64 k.sh.wide, .int .i64 k.sh.high, .slice fA k.sh.flaps.length fc, .slice rA k.sh.rules.length rc, .int .i64 k.gross, .int .i64 k.pay, .int .i64 k.fine, .slice wA k.ws.length wc]] w0 (Ret w0 (.tuple #[.int .i64 (askP k).1, .int .i64 (askP k).2])) := by
  refine c_enter (n := 22) Tryd.func46 rfl rfl (Nat.le_of_ble_eq_true rfl) ?_; intro a hf; simp only [zipR] at hf
  have hs := St.start w0 [Rd encF 5 fA k.sh.flaps.length k.sh.flaps, Rd encR 2 rA k.sh.rules.length k.sh.rules, Rd encW 6 wA k.ws.length k.ws, OrdD k.ws, BlkIs 1 sidesA ge gz] (stab_app h.stab hG.st1)
  have hwm := h.W.2.1
  refine c_reg ?_
  refine vL hf (v_boxA hf hs rfl) (by decide) ?_; clear hs hf a; rintro _ w ⟨b1, rfl, hs⟩ a hf
  refine gL hf (g_as hf rfl) (by decide) ?_; clear hf a; intro a hf
  refine gL hf (g_as hf rfl) (by decide) ?_; clear hf a; intro a hf
  refine e_nil ?_
  refine c_reg ?_
  refine gL hf (g_ldW hf hs T28 rfl (k := 0) rfl rfl) (by decide) ?_; clear hf a; intro a hf
  refine callX hf hs (c_togH_err k _ _ _ _ _ _ ge gz he _ ⟨⟨hs.rd (.head _), hs.rd (.tail _ (.head _)), h.sh.fc_, h.sh.rc_⟩, hs.rd (.tail _ (.tail _ (.head _))), h.wc_, hs.rd (.tail _ (.tail _ (.tail _ (.head _))))⟩ (hs.rd (.tail _ (.tail _ (.tail _ (.tail _ (.head _))))))) rfl rfl rfl E72 (by decide) ?_; intro v w1 a hR hb hs1 hf; obtain ⟨lz, hlz, hpz, rfl⟩ := hR; replace hs := hs1; clear hs1 hb
  refine gL hf (g_mv hf rfl) (by decide) ?_; clear hf a; intro a hf
  refine gL hf (g_ext hf rfl rfl) (by decide) ?_; clear hf a; intro a hf
  refine gL hf (g_ext hf rfl rfl) (by decide) ?_; clear hf a; intro a hf
  refine vL hf (v_alloc hs T89 rfl) (by decide) ?_; clear hs hf a; rintro _ w ⟨b2, rfl, hs⟩ a hf
  refine uL (u_stW hf hs T89 rfl rfl hpz (k := 0) rfl hlz hlz) ?_; clear hs; intro w hs; dsimp only [List.set] at hs
  refine gL hf (g_as hf rfl) (by decide) ?_; clear hf a; intro a hf
  refine e_nil ?_
  refine wp_seq ?_
  refine c_reg ?_
  refine gL hf (g_mv hf rfl) (by decide) ?_; clear hf a; intro a hf
  refine gL hf (g_neq hf rfl rfl) (by decide) ?_; clear hf a; intro a hf
  refine e_nil ?_
  refine c_cond hf rfl (fun hc1 => ?_) (fun hc1 => ?_)
  · skip
    refine c_reg ?_
    refine gL hf (g_mv hf rfl) (by decide) ?_; clear hf a; intro a hf
    refine gL hf (g_as hf rfl) (by decide) ?_; clear hf a; intro a hf
    refine gL hf (g_as hf rfl) (by decide) ?_; clear hf a; intro a hf
    refine e_nil ?_
    refine c_ret (q_thenR ?_)
    refine e_ret2 hf rfl rfl rfl ?_
    exact ⟨by rw [askP, if_neg he]; rfl, hs.below⟩
  · skip
    exact absurd (by simpa using hc1) he

theorem c_AskH_ok (k : Bk) (fA : Option Addr) (fc : Nat) (rA : Option Addr) (rc : Nat) (wA : Option Addr) (wc : Nat) (ge : TypeId) (gz : Nat × Nat) (he : togE k = 0) (w0 : World) (h : BkIn k fA fc rA rc wA wc w0) (hG : BlkIs 1 sidesA ge gz w0) (te : TypeId) (tz : Nat × Nat) (hT : BlkIs 0 toldA te tz w0) :
    Calls Tryd.prog 46 #[.agg #[.int .i64 k.sh.wide, .int .i64 k.sh.high, .slice fA k.sh.flaps.length fc, .slice rA k.sh.rules.length rc, .int .i64 k.gross, .int .i64 k.pay, .int .i64 k.fine, .slice wA k.ws.length wc]] w0 (Ret w0 (.tuple #[.int .i64 (askP k).1, .int .i64 (askP k).2])) := by
  obtain ⟨hbk, hnw⟩ := togE_zero he
  have hv := hck_iff.1 hbk
  have hwn := hv.n
  refine c_enter (n := 22) Tryd.func46 rfl rfl (Nat.le_of_ble_eq_true rfl) ?_; intro a hf; simp only [zipR] at hf
  have hs := St.start w0 [Rd encF 5 fA k.sh.flaps.length k.sh.flaps, Rd encR 2 rA k.sh.rules.length k.sh.rules, Rd encW 6 wA k.ws.length k.ws, OrdD k.ws, BlkIs 1 sidesA ge gz, BlkIs 0 toldA te tz] (stab_app (stab_app h.stab hG.st1) hT.st1)
  have hwm := h.W.2.1
  refine c_reg ?_
  refine vL hf (v_boxA hf hs rfl) (by decide) ?_; clear hs hf a; rintro _ w ⟨b1, rfl, hs⟩ a hf
  refine gL hf (g_as hf rfl) (by decide) ?_; clear hf a; intro a hf
  refine gL hf (g_as hf rfl) (by decide) ?_; clear hf a; intro a hf
  refine e_nil ?_
  refine c_reg ?_
  refine gL hf (g_ldW hf hs T28 rfl (k := 0) rfl rfl) (by decide) ?_; clear hf a; intro a hf
  refine callX hf hs (c_togH_ok k _ _ _ _ _ _ ge gz he _ ⟨⟨hs.rd (.head _), hs.rd (.tail _ (.head _)), h.sh.fc_, h.sh.rc_⟩, hs.rd (.tail _ (.tail _ (.head _))), h.wc_, hs.rd (.tail _ (.tail _ (.tail _ (.head _))))⟩ (hs.rd (.tail _ (.tail _ (.tail _ (.tail _ (.head _))))))) rfl rfl rfl E72 (by decide) ?_; have hle0 := hs.below.size; intro v w1 a hR hb hs1 hf; obtain ⟨dA, dc, mb, rfl, hop⟩ := hR; replace hs := hs.opened hb hop; clear hs1; have hkm := kOK_nil k
  refine gL hf (g_mv hf rfl) (by decide) ?_; clear hf a; intro a hf
  refine gL hf (g_ext hf rfl rfl) (by decide) ?_; clear hf a; intro a hf
  refine gL hf (g_ext hf rfl rfl) (by decide) ?_; clear hf a; intro a hf
  refine vL hf (v_alloc hs T89 rfl) (by decide) ?_; clear hs hf a; rintro _ w ⟨b2, rfl, hs⟩ a hf
  refine uL (u_stW hf hs T89 rfl rfl rfl (k := 0) rfl rfl rfl) ?_; clear hs; intro w hs; dsimp only [List.set] at hs
  refine gL hf (g_as hf rfl) (by decide) ?_; clear hf a; intro a hf
  refine e_nil ?_
  refine wp_seq ?_
  refine c_reg ?_
  refine gL hf (g_mv hf rfl) (by decide) ?_; clear hf a; intro a hf
  refine gL hf (g_neq hf rfl rfl) (by decide) ?_; clear hf a; intro a hf
  refine e_nil ?_
  refine c_cond hf rfl (fun hc1 => ?_) (fun hc1 => ?_)
  · skip
    simp at hc1
  · skip
    refine c_skip (q_thenN ?_)
    refine c_reg ?_
    refine gL hf (g_fn hf rfl rfl) (by decide) ?_; clear hf a; intro a hf
    refine gL hf (g_bld hf [[.nilFunc]] (.cons rfl .nil) (fun _ => by kernel_rfl)) (by decide) ?_; clear hf a; intro a hf
    refine gL hf (g_fa (off' := 7) hf F28_4 rfl rfl) (by decide) ?_; clear hf a; intro a hf
    refine gL hf (g_ld hf hs T26 rfl (k := 2) rfl rfl) (by decide) ?_; clear hf a; intro a hf
    refine gL hf (g_len hf SL26 rfl) (by decide) ?_; clear hf a; intro a hf
    refine callM hf hs (j := 1) rfl (c_mostW k mb 94 [.pointer (some ⟨b2, 0, none⟩)] (fun w : Nat => (ofZ k 2 (k.ws.getD w default)).2 - (ofZ k 2 (k.ws.getD w default)).1) k.ws.length E94 _ ⟨_, hkm, (hs.own _ _ (.tail _ (.head _))).2⟩ (fun i w1 hi hl hm => c_Ask1 k fA fc rA rc wA wc dA dc mb hv te tz b2 _ (all_cons (hs.fixM (i := 0) (j := 1) rfl rfl (by decide)) (all_cons (hs.told (j := 1) rfl (.tail _ (.tail _ (.tail _ (.tail _ (.tail _ (.tail _ (.head _)))))))) (all_cons (hs.told (j := 1) rfl (.tail _ (.head _))) (all_cons (hs.told (j := 1) rfl (.tail _ (.tail _ (.head _)))) (all_cons (hs.told (j := 1) rfl (.tail _ (.tail _ (.tail _ (.head _))))) (all_cons (hs.told (j := 1) rfl (.tail _ (.tail _ (.tail _ (.tail _ (.head _)))))) (all_cons (hs.told (j := 1) rfl (.head _)) all_nil))))))) i hi w1 hl hm) (by omega)) rfl rfl rfl E75 (by decide) ?_; clear hs hf a; intro m w a hkm hs hf; dsimp only [List.set] at hs
    refine gL hf (g_ext hf rfl rfl) (by decide) ?_; clear hf a; intro a hf
    refine gL hf (g_ext hf rfl rfl) (by decide) ?_; clear hf a; intro a hf
    refine gL hf (g_as hf rfl) (by decide) ?_; clear hf a; intro a hf
    refine gL hf (g_as hf rfl) (by decide) ?_; clear hf a; intro a hf
    refine e_nil ?_
    refine c_ret ?_
    refine e_ret2 hf rfl rfl rfl ?_
    exact ⟨by rw [askP, if_pos he]; rfl, hs.below⟩

theorem c_TeachH_err (k : Bk) (fA : Option Addr) (fc : Nat) (rA : Option Addr) (rc : Nat) (wA : Option Addr) (wc : Nat) (ge : TypeId) (gz : Nat × Nat) (he : togE k ≠ 0) (w0 : World) (h : BkIn k fA fc rA rc wA wc w0) (hG : BlkIs 1 sidesA ge gz w0) :
    Calls Tryd.prog 21 #[.agg #[.int .i64 k.sh.wide, .int .i64 k.sh.high, .slice fA k.sh.flaps.length fc, .slice rA k.sh.rules.length rc, .int .i64 k.gross, .int .i64 k.pay, .int .i64 k.fine, .slice wA k.ws.length wc]] w0 (Ret w0 (.tuple #[.int .i64 (teachP k).1, .int .i64 (teachP k).2])) := by
  refine c_enter (n := 31) Tryd.func21 rfl rfl (Nat.le_of_ble_eq_true rfl) ?_; intro a hf; simp only [zipR] at hf
  have hs := St.start w0 [Rd encF 5 fA k.sh.flaps.length k.sh.flaps, Rd encR 2 rA k.sh.rules.length k.sh.rules, Rd encW 6 wA k.ws.length k.ws, OrdD k.ws, BlkIs 1 sidesA ge gz] (stab_app h.stab hG.st1)
  have hwm := h.W.2.1
  refine c_reg ?_
  refine vL hf (v_boxA hf hs rfl) (by decide) ?_; clear hs hf a; rintro _ w ⟨b1, rfl, hs⟩ a hf
  refine gL hf (g_as hf rfl) (by decide) ?_; clear hf a; intro a hf
  refine gL hf (g_as hf rfl) (by decide) ?_; clear hf a; intro a hf
  refine e_nil ?_
  refine c_reg ?_
  refine gL hf (g_ldW hf hs T28 rfl (k := 0) rfl rfl) (by decide) ?_; clear hf a; intro a hf
  refine callX hf hs (c_togH_err k _ _ _ _ _ _ ge gz he _ ⟨⟨hs.rd (.head _), hs.rd (.tail _ (.head _)), h.sh.fc_, h.sh.rc_⟩, hs.rd (.tail _ (.tail _ (.head _))), h.wc_, hs.rd (.tail _ (.tail _ (.tail _ (.head _))))⟩ (hs.rd (.tail _ (.tail _ (.tail _ (.tail _ (.head _))))))) rfl rfl rfl E72 (by decide) ?_; intro v w1 a hR hb hs1 hf; obtain ⟨lz, hlz, hpz, rfl⟩ := hR; replace hs := hs1; clear hs1 hb
  refine gL hf (g_mv hf rfl) (by decide) ?_; clear hf a; intro a hf
  refine gL hf (g_ext hf rfl rfl) (by decide) ?_; clear hf a; intro a hf
  refine gL hf (g_ext hf rfl rfl) (by decide) ?_; clear hf a; intro a hf
  refine vL hf (v_alloc hs T89 rfl) (by decide) ?_; clear hs hf a; rintro _ w ⟨b2, rfl, hs⟩ a hf
  refine uL (u_stW hf hs T89 rfl rfl hpz (k := 0) rfl hlz hlz) ?_; clear hs; intro w hs; dsimp only [List.set] at hs
  refine gL hf (g_as hf rfl) (by decide) ?_; clear hf a; intro a hf
  refine e_nil ?_
  refine wp_seq ?_
  refine c_reg ?_
  refine gL hf (g_mv hf rfl) (by decide) ?_; clear hf a; intro a hf
  refine gL hf (g_neq hf rfl rfl) (by decide) ?_; clear hf a; intro a hf
  refine e_nil ?_
  refine c_cond hf rfl (fun hc1 => ?_) (fun hc1 => ?_)
  · skip
    refine c_reg ?_
    refine gL hf (g_mv hf rfl) (by decide) ?_; clear hf a; intro a hf
    refine gL hf (g_as hf rfl) (by decide) ?_; clear hf a; intro a hf
    refine gL hf (g_as hf rfl) (by decide) ?_; clear hf a; intro a hf
    refine e_nil ?_
    refine c_ret (q_thenR ?_)
    refine e_ret2 hf rfl rfl rfl ?_
    exact ⟨by rw [teachP, if_neg he]; rfl, hs.below⟩
  · skip
    exact absurd (by simpa using hc1) he

theorem c_TeachH_ok (k : Bk) (fA : Option Addr) (fc : Nat) (rA : Option Addr) (rc : Nat) (wA : Option Addr) (wc : Nat) (ge : TypeId) (gz : Nat × Nat) (he : togE k = 0) (w0 : World) (h : BkIn k fA fc rA rc wA wc w0) (hG : BlkIs 1 sidesA ge gz w0) (te : TypeId) (tz : Nat × Nat) (hT : BlkIs 0 toldA te tz w0) :
    Calls Tryd.prog 21 #[.agg #[.int .i64 k.sh.wide, .int .i64 k.sh.high, .slice fA k.sh.flaps.length fc, .slice rA k.sh.rules.length rc, .int .i64 k.gross, .int .i64 k.pay, .int .i64 k.fine, .slice wA k.ws.length wc]] w0 (Ret w0 (.tuple #[.int .i64 (teachP k).1, .int .i64 (teachP k).2])) := by
  obtain ⟨hbk, hnw⟩ := togE_zero he
  have hv := hck_iff.1 hbk
  have hwn := hv.n
  refine c_enter (n := 31) Tryd.func21 rfl rfl (Nat.le_of_ble_eq_true rfl) ?_; intro a hf; simp only [zipR] at hf
  have hs := St.start w0 [Rd encF 5 fA k.sh.flaps.length k.sh.flaps, Rd encR 2 rA k.sh.rules.length k.sh.rules, Rd encW 6 wA k.ws.length k.ws, OrdD k.ws, BlkIs 1 sidesA ge gz, BlkIs 0 toldA te tz] (stab_app (stab_app h.stab hG.st1) hT.st1)
  have hwm := h.W.2.1
  refine c_reg ?_
  refine vL hf (v_boxA hf hs rfl) (by decide) ?_; clear hs hf a; rintro _ w ⟨b1, rfl, hs⟩ a hf
  refine gL hf (g_as hf rfl) (by decide) ?_; clear hf a; intro a hf
  refine gL hf (g_as hf rfl) (by decide) ?_; clear hf a; intro a hf
  refine e_nil ?_
  refine c_reg ?_
  refine gL hf (g_ldW hf hs T28 rfl (k := 0) rfl rfl) (by decide) ?_; clear hf a; intro a hf
  refine callX hf hs (c_togH_ok k _ _ _ _ _ _ ge gz he _ ⟨⟨hs.rd (.head _), hs.rd (.tail _ (.head _)), h.sh.fc_, h.sh.rc_⟩, hs.rd (.tail _ (.tail _ (.head _))), h.wc_, hs.rd (.tail _ (.tail _ (.tail _ (.head _))))⟩ (hs.rd (.tail _ (.tail _ (.tail _ (.tail _ (.head _))))))) rfl rfl rfl E72 (by decide) ?_; have hle0 := hs.below.size; intro v w1 a hR hb hs1 hf; obtain ⟨dA, dc, mb, rfl, hop⟩ := hR; replace hs := hs.opened hb hop; clear hs1; have hkm := kOK_nil k
  refine gL hf (g_mv hf rfl) (by decide) ?_; clear hf a; intro a hf
  refine gL hf (g_ext hf rfl rfl) (by decide) ?_; clear hf a; intro a hf
  refine gL hf (g_ext hf rfl rfl) (by decide) ?_; clear hf a; intro a hf
  refine vL hf (v_alloc hs T89 rfl) (by decide) ?_; clear hs hf a; rintro _ w ⟨b2, rfl, hs⟩ a hf
  refine uL (u_stW hf hs T89 rfl rfl rfl (k := 0) rfl rfl rfl) ?_; clear hs; intro w hs; dsimp only [List.set] at hs
  refine gL hf (g_as hf rfl) (by decide) ?_; clear hf a; intro a hf
  refine e_nil ?_
  refine wp_seq ?_
  refine c_reg ?_
  refine gL hf (g_mv hf rfl) (by decide) ?_; clear hf a; intro a hf
  refine gL hf (g_neq hf rfl rfl) (by decide) ?_; clear hf a; intro a hf
  refine e_nil ?_
  refine c_cond hf rfl (fun hc1 => ?_) (fun hc1 => ?_)
  · skip
    simp at hc1
  · skip
    refine c_skip (q_thenN ?_)
    refine c_reg ?_
    refine gL hf (g_fa (off' := 0) hf F28_0 rfl rfl) (by decide) ?_; clear hf a; intro a hf
    refine gL hf (g_ldP hf hs T25 rfl (k := 2) rfl rfl) (by decide) ?_; clear hf a; intro a hf
    refine callX hf hs (c_Order k.sh _ _ _ _ ge gz _ ⟨hs.rd (.tail _ (.head _)), hs.rd (.tail _ (.tail _ (.head _))), h.sh.fc_, h.sh.rc_⟩ (hs.rd (.tail _ (.tail _ (.tail _ (.tail _ (.tail _ (.head _)))))))) rfl rfl rfl E19 (by decide) ?_; intro v w1 a hR hb hs1 hf; obtain ⟨Ao, co, rfl, hou⟩ := hR; replace hs := hs.fresh hs1 (outFresh hou); clear hs1 hb
    refine gL hf (g_mv hf rfl) (by decide) ?_; clear hf a; intro a hf
    refine gL hf (g_ext hf rfl rfl) (by decide) ?_; clear hf a; intro a hf
    refine gL hf (g_ext hf rfl rfl) (by decide) ?_; clear hf a; intro a hf
    refine vL hf (v_alloc hs T31 rfl) (by decide) ?_; clear hs hf a; rintro _ w ⟨b3, rfl, hs⟩ a hf
    refine uL (u_st hf hs T31 rfl rfl rfl (k := 0) rfl (Nat.le_of_ble_eq_true rfl)) ?_; clear hs; intro w hs; dsimp only [List.set] at hs
    refine gL hf (g_as hf rfl) (by decide) ?_; clear hf a; intro a hf
    refine e_nil ?_
    refine wp_seq ?_
    refine c_reg ?_
    refine gL hf (g_mv hf rfl) (by decide) ?_; clear hf a; intro a hf
    refine gL hf (g_neq hf rfl rfl) (by decide) ?_; clear hf a; intro a hf
    refine e_nil ?_
    refine c_cond hf rfl (fun hc2 => ?_) (fun hc2 => ?_)
    · skip
      have ho : (orderP k.sh).2 ≠ 0 := by simpa using hc2
      refine c_reg ?_
      refine gL hf (g_as hf rfl) (by decide) ?_; clear hf a; intro a hf
      refine gL hf (g_as hf rfl) (by decide) ?_; clear hf a; intro a hf
      refine e_nil ?_
      refine c_ret (q_thenR ?_)
      refine e_ret2 hf rfl rfl rfl ?_
      exact ⟨by rw [teachP, if_pos he, if_neg ho], hs.below⟩
    · skip
      have ho : (orderP k.sh).2 = 0 := by simpa using hc2
      have hord := order_ord hv.ck ho
      refine c_skip (q_thenN ?_)
      refine c_reg ?_
      refine gL hf (g_fn hf rfl rfl) (by decide) ?_; clear hf a; intro a hf
      refine gL hf (g_bld hf [[.nilFunc]] (.cons rfl .nil) (fun _ => by kernel_rfl)) (by decide) ?_; clear hf a; intro a hf
      refine gL hf (g_fa (off' := 7) hf F28_4 rfl rfl) (by decide) ?_; clear hf a; intro a hf
      refine gL hf (g_ld hf hs T26 rfl (k := 3) rfl rfl) (by decide) ?_; clear hf a; intro a hf
      refine gL hf (g_len hf SL26 rfl) (by decide) ?_; clear hf a; intro a hf
      refine callM hf hs (j := 2) rfl (c_mostW k mb 73 [.pointer (some ⟨b1, 0, none⟩), .pointer (some ⟨b3, 0, none⟩), .pointer (some ⟨b2, 0, none⟩)] (moreZ k (orderP k.sh).1) k.ws.length E73 _ ⟨_, hkm, (hs.own _ _ (.tail _ (.tail _ (.head _)))).2⟩ (fun i w1 hi hl hm => c_Teach1 k fA fc rA rc wA wc dA dc mb hv h.sh.fc_ h.sh.rc_ ge gz te tz (orderP k.sh).1 Ao co hord.1 hou.1 b1 b3 b2 _ (all_cons (hs.fixM (i := 3) (j := 2) rfl rfl (by decide)) (all_cons (hs.fixM (i := 0) (j := 2) rfl rfl (by decide)) (all_cons (hs.fixM (i := 1) (j := 2) rfl rfl (by decide)) (all_cons (hs.told (j := 2) rfl (.tail _ (.tail _ (.tail _ (.tail _ (.tail _ (.tail _ (.tail _ (.head _))))))))) (all_cons (hs.told (j := 2) rfl (.tail _ (.tail _ (.tail _ (.tail _ (.tail _ (.tail _ (.head _)))))))) (all_cons (hs.told (j := 2) rfl (.head _)) (all_cons (hs.told (j := 2) rfl (.tail _ (.tail _ (.head _)))) (all_cons (hs.told (j := 2) rfl (.tail _ (.tail _ (.tail _ (.head _))))) (all_cons (hs.told (j := 2) rfl (.tail _ (.tail _ (.tail _ (.tail _ (.head _)))))) (all_cons (hs.told (j := 2) rfl (.tail _ (.tail _ (.tail _ (.tail _ (.tail _ (.head _))))))) (all_cons (hs.told (j := 2) rfl (.tail _ (.head _))) all_nil))))))))))) i hi w1 hl hm) (by omega)) rfl rfl rfl E75 (by decide) ?_; clear hs hf a; intro m w a hkm hs hf; dsimp only [List.set] at hs
      refine gL hf (g_ext hf rfl rfl) (by decide) ?_; clear hf a; intro a hf
      refine gL hf (g_ext hf rfl rfl) (by decide) ?_; clear hf a; intro a hf
      refine gL hf (g_as hf rfl) (by decide) ?_; clear hf a; intro a hf
      refine gL hf (g_as hf rfl) (by decide) ?_; clear hf a; intro a hf
      refine e_nil ?_
      refine c_ret ?_
      refine e_ret2 hf rfl rfl rfl ?_
      exact ⟨by rw [teachP, if_pos he, if_pos ho]; rfl, hs.below⟩

end Go.Proofs.YtjjcopeedcdokaaDoor

set_option linter.unusedVariables false
set_option linter.unusedSimpArgs false
namespace Go.Proofs.YtjjcopeedcdokaaDoor
open Go.RowKit
section
variable (k : Bk) (fA : Option Addr) (fc : Nat) (rA : Option Addr) (rc : Nat) (wA : Option Addr) (wc : Nat) (ge : TypeId) (gz : Nat × Nat)
theorem c_TeachH (w : World) (h : BkIn k fA fc rA rc wA wc w) (hG : BlkIs 1 sidesA ge gz w) (te : TypeId) (tz : Nat × Nat) (hT : BlkIs 0 toldA te tz w) : Calls Tryd.prog 21 #[bkV k fA fc rA rc wA wc] w (Ret w (.tuple #[.int .i64 (teachP k).1, .int .i64 (teachP k).2])) := by
  by_cases he : togE k = 0
  · exact c_TeachH_ok k fA fc rA rc wA wc ge gz he w h hG te tz hT
  · exact c_TeachH_err k fA fc rA rc wA wc ge gz he w h hG
theorem c_AskH (w : World) (h : BkIn k fA fc rA rc wA wc w) (hG : BlkIs 1 sidesA ge gz w) (te : TypeId) (tz : Nat × Nat) (hT : BlkIs 0 toldA te tz w) : Calls Tryd.prog 46 #[bkV k fA fc rA rc wA wc] w (Ret w (.tuple #[.int .i64 (askP k).1, .int .i64 (askP k).2])) := by
  by_cases he : togE k = 0
  · exact c_AskH_ok k fA fc rA rc wA wc ge gz he w h hG te tz hT
  · exact c_AskH_err k fA fc rA rc wA wc ge gz he w h hG
end
end Go.Proofs.YtjjcopeedcdokaaDoor

set_option linter.unusedVariables false
set_option linter.unusedSimpArgs false
namespace Go.Proofs.YtjjcopeedcdokaaDoor
open Go.RowKit
def chW1 (o : Option Addr) : Wkr := ⟨300, [1, 2, 0, 3], 288, 290, 4, 6, o, 4⟩
def chW2 (s : Int) (o : Option Addr) : Wkr := ⟨s, [0, 1, 2, 3], 140, 145, 0, 2, o, 4⟩
def chBk (most sheets : Int) (o1 o2 : Option Addr) : Bk := ⟨chapB 5 most, 144, 60, 2, [chW1 o1, chW2 sheets o2]⟩
section
variable (o1 o2 : Option Addr)
theorem k_passes : tellP (chBk 5 150 o1 o2) 0 0 = ((288, 290), 0) := by kernel_rfl
theorem k_missing : tellP (chBk 5 150 o1 o2) 1 1 = ((3, 10), 0) := by kernel_rfl
theorem k_gets : tellP (chBk 5 150 o1 o2) 0 2 = ((104, 112), 0) := by kernel_rfl
theorem k_total : totalP (chBk 5 150 o1 o2) = ((84, 106), 0) := by kernel_rfl
theorem k_gross : grossP (chBk 5 150 o1 o2) = ((2, 2), 0) := by kernel_rfl
theorem k_wrong : wrongP (chBk 5 139 o1 o2) = ([1], 0) := by kernel_rfl
theorem k_right : rightP (chBk 5 150 o1 o2) 1 = (true, 0) := by kernel_rfl
theorem k_teach : teachP (chBk 5 150 o1 o2) = (1, 0) := by kernel_rfl
theorem k_ask : askP (chBk 5 150 o1 o2) = (1, 0) := by kernel_rfl
end
theorem Stable.notin {X : List Nat} {w : World} {D : World → Prop} (h : Stable X w D) {b : Nat} {o : Obj} (ho : ∀ w', D w' → w'.heap[b]? = some o) : b ∉ X := fun hb => by
  have h1 := ho w h.now
  have hlt : b < w.heap.size := (Array.getElem?_eq_some_iff.1 h1).1
  have key : ∀ o' : Obj, o' = o := fun o' => by
    have h2 := ho _ (h (w.putObj b o') ⟨by rw [(putObj_eq w b o').1]; exact Nat.le_refl _, fun i _ hn => (putObj_eq w b o').2 i fun e => hn (e ▸ hb)⟩)
    rw [World.putObj_heap_same hlt] at h2
    exact Option.some.inj h2
  have h3 := (key (.deferred none)).trans (key (.deferred (some []))).symm
  cases h3
abbrev chBV (bf br bw : Nat) : Value := .agg #[.int .i64 10, .int .i64 8, .slice (some ⟨bf, 0, none⟩) 4 4, .slice (some ⟨br, 0, none⟩) 4 4, .int .i64 144, .int .i64 60, .int .i64 2, .slice (some ⟨bw, 0, none⟩) 2 2]
def chWs (sheets : Int) (b1 b2 : Nat) : Array Value := ([chW1 (some ⟨b1, 0, none⟩), chW2 sheets (some ⟨b2, 0, none⟩)].flatMap encW).toArray
/-- The chapter's book lies in five blocks, no older than m. -/
structure BkC (most sheets : Int) (bf br b1 b2 bw m : Nat) (w : World) : Prop where
  ch : ChIn 5 most bf br m w
  m1 : m ≤ b1
  m2 : m ≤ b2
  mw : m ≤ bw
  nd : [bw, b2, b1, bf, br].Nodup
  h1 : w.heap[b1]? = some (.cells #[.int .i64 1, .int .i64 2, .int .i64 0, .int .i64 3] 3 (0, 0))
  h2 : w.heap[b2]? = some (.cells #[.int .i64 0, .int .i64 1, .int .i64 2, .int .i64 3] 3 (0, 0))
  hw : w.heap[bw]? = some (.cells (chWs sheets b1 b2) 47 (0, 0))
abbrev chK (most sheets : Int) (b1 b2 : Nat) : Bk := chBk most sheets (some ⟨b1, 0, none⟩) (some ⟨b2, 0, none⟩)
theorem BkC.bk {most sheets : Int} {bf br b1 b2 bw m : Nat} {w : World} (h : BkC most sheets bf br b1 b2 bw m w) : BkIn (chK most sheets b1 b2) (some ⟨bf, 0, none⟩) 4 (some ⟨br, 0, none⟩) 4 (some ⟨bw, 0, none⟩) 2 w :=
  ⟨h.ch.sh, rd_of_flat (sz := 6) (len := 2) (fun _ => rfl) (by decide) h.hw rfl (by decide) rfl, Nat.le_refl _, fun x hx => by
    rcases List.mem_cons.1 hx with rfl | hx
    · exact ⟨Nat.le_refl _, rd_of_flat (sz := 1) (len := 4) (fun _ => rfl) (by decide) h.h1 rfl (by decide) rfl⟩
    · rw [List.mem_singleton.1 hx]
      exact ⟨Nat.le_refl _, rd_of_flat (sz := 1) (len := 4) (fun _ => rfl) (by decide) h.h2 rfl (by decide) rfl⟩⟩
theorem bkCFresh {w w' : World} {most sheets : Int} {bf br b1 b2 bw m : Nat} (h : BkC most sheets bf br b1 b2 bw w.heap.size w') (hm : m ≤ w.heap.size) : Fresh w w' (BkC most sheets bf br b1 b2 bw m) :=
  fun w'' hs hb => ⟨chFresh h.ch hm w'' hs hb, Nat.le_trans hm h.m1, Nat.le_trans hm h.m2, Nat.le_trans hm h.mw, h.nd, (hb b1 h.m1 (Array.getElem?_eq_some_iff.1 h.h1).1).trans h.h1, (hb b2 h.m2 (Array.getElem?_eq_some_iff.1 h.h2).1).trans h.h2, (hb bw h.mw (Array.getElem?_eq_some_iff.1 h.hw).1).trans h.hw⟩
theorem Fr.setV {ds : List Deferred} {a : Act} {n d : Nat} {L : Regs} {v v' : Value} (hf : Fr ds a n ((d, v) :: L)) (h : v = v') : Fr ds a n ((d, v') :: L) := h ▸ hf
end Go.Proofs.YtjjcopeedcdokaaDoor

