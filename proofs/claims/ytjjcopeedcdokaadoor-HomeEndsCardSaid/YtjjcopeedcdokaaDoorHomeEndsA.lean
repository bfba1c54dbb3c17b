/- For every book and number the law HomeEnds returns true, and its arguments read afterwards as before: both ends of what passes, and is missing, are so in a truth. Conditions: the tables of the sides and of what is told hold what the text of the program lays. -/
import Derived.Test.YtjjcopeedcdokaaDoorComF
import Derived.Test.YtjjcopeedcdokaaDoorTie
import Derived.Test.YtjjcopeedcdokaaDoorCards
set_option linter.unusedVariables false
set_option linter.unusedSimpArgs false
namespace Go.Proofs.YtjjcopeedcdokaaDoor
open Go.RowKit
theorem c_HomeEnds (k : Bk) (fA : Option Addr) (fc : Nat) (rA : Option Addr) (rc : Nat) (wA : Option Addr) (wc : Nat) (ge : TypeId) (gz : Nat × Nat) (n : Int) (w0 : World) (h : BkIn k fA fc rA rc wA wc w0) (hG : BlkIs 1 sidesA ge gz w0) (te : TypeId) (tz : Nat × Nat) (hT : BlkIs 0 toldA te tz w0) :
    Calls Tryd.prog 9 #[.agg #[.int .i64 k.sh.wide, .int .i64 k.sh.high, .slice fA k.sh.flaps.length fc, .slice rA k.sh.rules.length rc, .int .i64 k.gross, .int .i64 k.pay, .int .i64 k.fine, .slice wA k.ws.length wc], .int .i64 n] w0 (Ret w0 (.bool true)) := by
  refine c_enter (n := 144) Tryd.func9 rfl rfl (Nat.le_of_ble_eq_true rfl) ?_; intro a hf; simp only [zipR] at hf
  have hs := St.start w0 [Rd encF 5 fA k.sh.flaps.length k.sh.flaps, Rd encR 2 rA k.sh.rules.length k.sh.rules, Rd encW 6 wA k.ws.length k.ws, OrdD k.ws, BlkIs 1 sidesA ge gz, BlkIs 0 toldA te tz] (stab_app (stab_app h.stab hG.st1) hT.st1)
  have hwm := h.W.2.1
  refine c_reg ?_
  refine vL hf (v_boxA hf hs rfl) (by decide) ?_; clear hs hf a; rintro _ w ⟨b1, rfl, hs⟩ a hf
  refine gL hf (g_as hf rfl) (by decide) ?_; clear hf a; intro a hf
  refine e_nil ?_
  refine wp_seq ?_
  refine c_reg ?_
  refine gL hf (g_ldW hf hs T28 rfl (k := 0) rfl rfl) (by decide) ?_; clear hf a; intro a hf
  refine callL hf hs (c_soundH k _ _ _ _ _ _ ge gz _ ⟨⟨hs.rd (.head _), hs.rd (.tail _ (.head _)), h.sh.fc_, h.sh.rc_⟩, hs.rd (.tail _ (.tail _ (.head _))), h.wc_, hs.rd (.tail _ (.tail _ (.tail _ (.head _))))⟩ (hs.rd (.tail _ (.tail _ (.tail _ (.tail _ (.head _))))))) rfl rfl rfl E48 (by decide) ?_; clear hs hf a; intro w a hs hf
  refine gL hf (g_not hf rfl) (by decide) ?_; clear hf a; intro a hf
  refine gL hf (g_mv hf rfl) (by decide) ?_; clear hf a; intro a hf
  refine ggL hf rfl rfl (gyes_f _) (fun hg => g_fa (off' := 7) hf F28_4 rfl rfl) (by decide) ?_; clear hf a; intro a hf
  refine ggL hf rfl rfl (gyes_f _) (fun hg => g_ld hf hs T26 (ev_gv rfl hg) (k := 0) rfl rfl) (by decide) ?_; clear hf a; intro a hf
  refine ggL hf rfl rfl (gyes_f _) (fun hg => g_len hf SL26 (ev_gv rfl hg)) (by decide) ?_; clear hf a; intro a hf
  refine ggL hf rfl rfl (gyes_f _) (fun hg => g_eql hf (ev_gv rfl hg) rfl) (by decide) ?_; clear hf a; intro a hf
  refine gL hf (g_or hf rfl rfl) (by decide) ?_; clear hf a; intro a hf
  refine e_nil ?_
  refine c_cond hf rfl (fun hc1 => ?_) (fun hc1 => ?_)
  · skip
    refine c_reg ?_
    refine callL hf hs (c_paid ge gz te tz _ (hs.rd (.tail _ (.tail _ (.tail _ (.tail _ (.head _)))))) (hs.rd (.tail _ (.tail _ (.tail _ (.tail _ (.tail _ (.head _)))))))) rfl rfl rfl E40 (by decide) ?_; clear hs hf a; intro w a hs hf
    refine gL hf (g_as hf rfl) (by decide) ?_; clear hf a; intro a hf
    refine e_nil ?_
    refine c_ret (q_thenR ?_)
    refine e_ret1 hf rfl rfl ?_
    exact ⟨rfl, hs.below⟩
  · skip
    obtain ⟨hck, hpos⟩ := sound_some hc1
    have hwn := (hck_iff.1 hck).n
    refine c_skip (q_thenN ?_)
    refine c_reg ?_
    refine gL hf (g_mv hf rfl) (by decide) ?_; clear hf a; intro a hf
    refine gL hf (g_fa (off' := 7) hf F28_4 rfl rfl) (by decide) ?_; clear hf a; intro a hf
    refine gL hf (g_ld hf hs T26 rfl (k := 0) rfl rfl) (by decide) ?_; clear hf a; intro a hf
    refine gL hf (g_len hf SL26 rfl) (by decide) ?_; clear hf a; intro a hf
    refine callL hf hs (c_Spin _ _ (by omega) _) rfl rfl rfl E22 (by decide) ?_; clear hs hf a; intro w a hs hf
    obtain ⟨i, hie, hi⟩ := some_nat (n := n) hpos
    rw [hie] at hf
    have hv := hck_iff.1 hck; have hx := hv.wk hi
    have hx1 := hx.b0; have hx2 := hx.b1; have hx3 := hx.b2; have hx4 := hx.t0; have hx5 := hx.t1; have hx6 := hx.t2; have hx7 := hx.s0; have hx8 := hx.s1
    refine gL hf (g_as hf rfl) (by decide) ?_; clear hf a; intro a hf
    refine e_nil ?_
    refine c_reg ?_
    refine gL hf (g_fa (off' := 7) hf F28_4 rfl rfl) (by decide) ?_; clear hf a; intro a hf
    refine gL hf (g_ld hf hs T26 rfl (k := 0) rfl rfl) (by decide) ?_; clear hf a; intro a hf
    refine gL hf (g_mv hf rfl) (by decide) ?_; clear hf a; intro a hf
    (first | (refine gL hf (g_ixE hf hs (.tail _ (.tail _ (.head _))) SL26 rfl rfl (by omega)) (by decide) ?_) | (refine gL hf (g_ixD hf hs (.tail _ (.tail _ (.head _))) SL26 rfl rfl (by omega)) (by decide) ?_)); clear hf a; intro a hf
    refine gL hf (g_ldEW hf hs (.tail _ (.tail _ (.head _))) T47 rfl rfl (by omega)) (by decide) ?_; clear hf a; intro a hf
    refine vL hf (v_alloc hs T47 rfl) (by decide) ?_; clear hs hf a; rintro _ w ⟨b2, rfl, hs⟩ a hf
    refine uL (u_stW hf hs T47 rfl rfl rfl (k := 0) rfl rfl rfl) ?_; clear hs; intro w hs; dsimp only [List.set] at hs
    refine e_nil ?_
    refine c_reg ?_
    refine gL hf (g_fa (off' := 0) hf F28_0 rfl rfl) (by decide) ?_; clear hf a; intro a hf
    refine gL hf (g_ldP hf hs T25 rfl (k := 1) rfl rfl) (by decide) ?_; clear hf a; intro a hf
    refine gL hf (g_fa (off' := 1) hf F47_1 rfl rfl) (by decide) ?_; clear hf a; intro a hf
    refine gL hf (g_ld hf hs T31 rfl (k := 0) rfl rfl) (by decide) ?_; clear hf a; intro a hf
    refine callL hf hs (c_Does k.sh _ _ _ _ _ _ (k.ws.getD i default).order ge gz hv.ck _ ⟨hs.rd (.head _), hs.rd (.tail _ (.head _)), h.sh.fc_, h.sh.rc_⟩ ((hs.rd (.tail _ (.tail _ (.tail _ (.head _))))) _ (getD_mem hi)).2 (hs.rd (.tail _ (.tail _ (.tail _ (.tail _ (.head _))))))) rfl rfl rfl E51 (by decide) ?_; clear hs hf a; intro w a hs hf
    rw [does_ok hv.ck hx.ord] at hf
    rw [show 2 - worst k.sh (k.ws.getD i default).order k.sh.rules.length = doesK k (k.ws.getD i default) from by rw [doesK, does_ok hv.ck hx.ord]] at hf
    refine gL hf (g_mv hf rfl) (by decide) ?_; clear hf a; intro a hf
    refine gL hf (g_ext hf rfl rfl) (by decide) ?_; clear hf a; intro a hf
    refine gL hf (g_ext hf rfl rfl) (by decide) ?_; clear hf a; intro a hf
    refine gL hf (g_as hf rfl) (by decide) ?_; clear hf a; intro a hf
    refine gL hf (g_as hf rfl) (by decide) ?_; clear hf a; intro a hf
    refine e_nil ?_
    refine c_reg ?_
    refine gL hf (g_ldW hf hs T28 rfl (k := 1) rfl rfl) (by decide) ?_; clear hf a; intro a hf
    refine gL hf (g_mv hf rfl) (by decide) ?_; clear hf a; intro a hf
    have h9 := c_PassesH k _ _ _ _ _ _ ge gz ((i : Nat) : Int) _ ⟨⟨hs.rd (.head _), hs.rd (.tail _ (.head _)), h.sh.fc_, h.sh.rc_⟩, hs.rd (.tail _ (.tail _ (.head _))), h.wc_, hs.rd (.tail _ (.tail _ (.tail _ (.head _))))⟩ (hs.rd (.tail _ (.tail _ (.tail _ (.tail _ (.head _)))))) te tz (hs.rd (.tail _ (.tail _ (.tail _ (.tail _ (.tail _ (.head _)))))))
    rw [tk_eq hck hi 0] at h9
    refine callL hf hs (h9) rfl rfl rfl E23 (by decide) ?_; clear hs hf a; intro w a hs hf
    refine gL hf (g_mv hf rfl) (by decide) ?_; clear hf a; intro a hf
    refine gL hf (g_ext hf rfl rfl) (by decide) ?_; clear hf a; intro a hf
    refine gL hf (g_ext hf rfl rfl) (by decide) ?_; clear hf a; intro a hf
    refine vL hf (v_alloc hs T40 rfl) (by decide) ?_; clear hs hf a; rintro _ w ⟨b3, rfl, hs⟩ a hf
    refine uL (u_stW hf hs T40 rfl rfl rfl (k := 0) rfl rfl rfl) ?_; clear hs; intro w hs; dsimp only [List.set] at hs
    refine gL hf (g_as hf rfl) (by decide) ?_; clear hf a; intro a hf
    refine e_nil ?_
    refine c_reg ?_
    refine gL hf (g_ldW hf hs T28 rfl (k := 2) rfl rfl) (by decide) ?_; clear hf a; intro a hf
    refine gL hf (g_mv hf rfl) (by decide) ?_; clear hf a; intro a hf
    have h9 := c_MissingH k _ _ _ _ _ _ ge gz ((i : Nat) : Int) _ ⟨⟨hs.rd (.head _), hs.rd (.tail _ (.head _)), h.sh.fc_, h.sh.rc_⟩, hs.rd (.tail _ (.tail _ (.head _))), h.wc_, hs.rd (.tail _ (.tail _ (.tail _ (.head _))))⟩ (hs.rd (.tail _ (.tail _ (.tail _ (.tail _ (.head _)))))) te tz (hs.rd (.tail _ (.tail _ (.tail _ (.tail _ (.tail _ (.head _)))))))
    rw [tk_eq hck hi 1] at h9
    refine callL hf hs (h9) rfl rfl rfl E36 (by decide) ?_; clear hs hf a; intro w a hs hf
    refine gL hf (g_mv hf rfl) (by decide) ?_; clear hf a; intro a hf
    refine gL hf (g_ext hf rfl rfl) (by decide) ?_; clear hf a; intro a hf
    refine gL hf (g_ext hf rfl rfl) (by decide) ?_; clear hf a; intro a hf
    refine vL hf (v_alloc hs T40 rfl) (by decide) ?_; clear hs hf a; rintro _ w ⟨b4, rfl, hs⟩ a hf
    refine uL (u_stW hf hs T40 rfl rfl rfl (k := 0) rfl rfl rfl) ?_; clear hs; intro w hs; dsimp only [List.set] at hs
    refine gL hf (g_as hf rfl) (by decide) ?_; clear hf a; intro a hf
    refine e_nil ?_
    refine wp_seq ?_
    refine c_reg ?_
    refine gL hf (g_mv hf rfl) (by decide) ?_; clear hf a; intro a hf
    refine gL hf (g_neq hf rfl rfl) (by decide) ?_; clear hf a; intro a hf
    refine gL hf (g_mv hf rfl) (by decide) ?_; clear hf a; intro a hf
    refine ggL hf rfl rfl (gyes_f _) (fun hg => g_mv hf rfl) (by decide) ?_; clear hf a; intro a hf
    refine ggL hf rfl rfl (gyes_f _) (fun hg => g_eql hf (ev_gv rfl hg) rfl) (by decide) ?_; clear hf a; intro a hf
    refine ggL hf rfl rfl (gyes_f _) (fun hg => g_fa (off' := 2) hf F47_2 rfl rfl) (by decide) ?_; clear hf a; intro a hf
    refine ggL hf rfl rfl (gyes_f _) (fun hg => g_fa (off' := 2) hf F40_0 (ev_gv rfl hg) rfl) (by decide) ?_; clear hf a; intro a hf
    refine ggL hf rfl rfl (gyes_f _) (fun hg => g_ld hf hs T3 (ev_gv rfl hg) (k := 2) rfl rfl) (by decide) ?_; clear hf a; intro a hf
    refine ggL hf rfl rfl (gyes_f _) (fun hg => g_fa (off' := 4) hf F47_3 rfl rfl) (by decide) ?_; clear hf a; intro a hf
    refine ggL hf rfl rfl (gyes_f _) (fun hg => g_fa (off' := 4) hf F40_0 (ev_gv rfl hg) rfl) (by decide) ?_; clear hf a; intro a hf
    refine ggL hf rfl rfl (gyes_f _) (fun hg => g_ld hf hs T3 (ev_gv rfl hg) (k := 2) rfl rfl) (by decide) ?_; clear hf a; intro a hf
    refine ggL hf rfl rfl (gyes_f _) (fun hg => g_addI hf (ev_gv rfl hg) (ev_gv rfl hg) (by omega)) (by decide) ?_; clear hf a; intro a hf
    refine ggL hf rfl rfl (gyes_f _) (fun hg => g_fa (off' := 0) hf F47_0 rfl rfl) (by decide) ?_; clear hf a; intro a hf
    refine ggL hf rfl rfl (gyes_f _) (fun hg => g_ld hf hs T3 (ev_gv rfl hg) (k := 2) rfl rfl) (by decide) ?_; clear hf a; intro a hf
    refine ggL hf rfl rfl (gyes_f _) (fun hg => g_leq hf (ev_gv rfl hg) (ev_gv rfl hg)) (by decide) ?_; clear hf a; intro a hf
    refine ggL hf rfl rfl (gyes_f _) (fun hg => g_neqB hf B4 (ev_gv rfl hg) (ev_gv rfl hg)) (by decide) ?_; clear hf a; intro a hf
    refine gL hf (g_or hf rfl rfl) (by decide) ?_; clear hf a; intro a hf
    refine gL hf (g_mv hf rfl) (by decide) ?_; clear hf a; intro a hf
    refine ggL hf rfl rfl (gyes_f _) (fun hg => g_mv hf rfl) (by decide) ?_; clear hf a; intro a hf
    refine ggL hf rfl rfl (gyes_f _) (fun hg => g_mv hf rfl) (by decide) ?_; clear hf a; intro a hf
    refine ggL hf rfl rfl (gyes_f _) (fun hg => g_neq hf (ev_gv rfl hg) (ev_gv rfl hg)) (by decide) ?_; clear hf a; intro a hf
    refine gL hf (g_or hf rfl rfl) (by decide) ?_; clear hf a; intro a hf
    refine e_nil ?_
    refine c_cond hf rfl (fun hc2 => ?_) (fun hc2 => ?_)
    · skip
      rw [ends_dead hx] at hc2; cases hc2
    · skip
      refine c_skip (q_thenN ?_)
      refine wp_seq ?_
      refine c_reg ?_
      refine gL hf (g_mv hf rfl) (by decide) ?_; clear hf a; intro a hf
      refine gL hf (g_neq hf rfl rfl) (by decide) ?_; clear hf a; intro a hf
      refine e_nil ?_
      refine c_cond hf rfl (fun hc3 => ?_) (fun hc3 => ?_)
      · skip
        have hrt : rightB (k.ws.getD i default) = false := by cases h9 : rightB (k.ws.getD i default) with | false => rfl | true => rw [tk_yes h9] at hc3; simp at hc3
        refine c_reg ?_
        refine gL hf (g_mv hf rfl) (by decide) ?_; clear hf a; intro a hf
        refine gL hf (g_eql hf rfl rfl) (by decide) ?_; clear hf a; intro a hf
        refine gL hf (g_mv hf rfl) (by decide) ?_; clear hf a; intro a hf
        refine callG hf hs rfl rfl (gyes_t _) (fun hg => ⟨_, _, _, _, c_paid ge gz te tz _ (hs.rd (.tail _ (.tail _ (.tail _ (.tail _ (.head _)))))) (hs.rd (.tail _ (.tail _ (.tail _ (.tail _ (.tail _ (.head _))))))), rfl, evs_nil, rfl⟩) E40 (by decide) ?_; clear hs hf a; intro w a hs hf
        refine gL hf (g_and hf rfl rfl) (by decide) ?_; clear hf a; intro a hf
        refine gL hf (g_as hf rfl) (by decide) ?_; clear hf a; intro a hf
        refine e_nil ?_
        refine c_ret (q_thenR ?_)
        refine e_ret1 hf rfl rfl ?_
        exact ⟨by rw [tk_no hrt]; rfl, hs.below⟩
      · skip
        have hrt : rightB (k.ws.getD i default) = true := by cases h9 : rightB (k.ws.getD i default) with | true => rfl | false => rw [tk_no h9] at hc3; simp at hc3
        have he0 := ends0 hv hx hrt; have he1 := ends1 (k := k) hx hrt
        refine c_skip (q_thenN ?_)
        refine c_reg ?_
        refine gL hf (g_fa (off' := 2) hf F47_2 rfl rfl) (by decide) ?_; clear hf a; intro a hf
        refine gL hf (g_fa (off' := 3) hf F40_1 rfl rfl) (by decide) ?_; clear hf a; intro a hf
        refine gL hf (g_ld hf hs T3 rfl (k := 2) rfl rfl) (by decide) ?_; clear hf a; intro a hf
        refine gL hf (g_fa (off' := 0) hf F47_0 rfl rfl) (by decide) ?_; clear hf a; intro a hf
        refine gL hf (g_ld hf hs T3 rfl (k := 2) rfl rfl) (by decide) ?_; clear hf a; intro a hf
        refine gL hf (g_fa (off' := 4) hf F47_3 rfl rfl) (by decide) ?_; clear hf a; intro a hf
        refine gL hf (g_fa (off' := 4) hf F40_0 rfl rfl) (by decide) ?_; clear hf a; intro a hf
        refine gL hf (g_ld hf hs T3 rfl (k := 2) rfl rfl) (by decide) ?_; clear hf a; intro a hf
        refine gL hf (g_subI hf rfl rfl (by omega)) (by decide) ?_; clear hf a; intro a hf
        refine gL hf (g_min hf rfl rfl) (by decide) ?_; clear hf a; intro a hf
        refine gL hf (g_as hf rfl) (by decide) ?_; clear hf a; intro a hf
        refine e_nil ?_
        refine c_reg ?_
        refine gL hf (g_fa (off' := 2) hf F47_2 rfl rfl) (by decide) ?_; clear hf a; intro a hf
        refine gL hf (g_fa (off' := 2) hf F40_0 rfl rfl) (by decide) ?_; clear hf a; intro a hf
        refine gL hf (g_ld hf hs T3 rfl (k := 2) rfl rfl) (by decide) ?_; clear hf a; intro a hf
        refine gL hf (g_mv hf rfl) (by decide) ?_; clear hf a; intro a hf
        refine callL hf hs (c_Sp _ _ _) rfl rfl rfl E52 (by decide) ?_; clear hs hf a; intro w a hs hf
        refine vL hf (v_alloc hs T40 rfl) (by decide) ?_; clear hs hf a; rintro _ w ⟨b5, rfl, hs⟩ a hf
        refine uL (u_stW hf hs T40 rfl rfl rfl (k := 0) rfl rfl rfl) ?_; clear hs; intro w hs; dsimp only [List.set] at hs
        refine e_nil ?_
        refine wp_seq ?_
        refine c_reg ?_
        refine gL hf (g_mv hf rfl) (by decide) ?_; clear hf a; intro a hf
        refine gL hf (g_lss hf rfl rfl) (by decide) ?_; clear hf a; intro a hf
        refine e_nil ?_
        refine c_cond hf rfl (fun hc4 => ?_) (fun hc4 => ?_)
        · try simp only [decide_eq_true_eq, decide_eq_false_iff_not] at hc4
          refine c_reg1 ?_
          refine gL hf (g_fa (off' := 0) hf F40_0 rfl rfl) (by decide) ?_; clear hf a; intro a hf
          refine uL (u_st hf hs T3 rfl rfl rfl (k := 0) rfl (Nat.le_of_ble_eq_true rfl)) ?_; clear hs; intro w hs; dsimp only [List.set] at hs
          refine e_nil1 (q_thenN ?_)
          refine wp_seq ?_
          refine c_reg ?_
          refine gL hf (g_mv hf rfl) (by decide) ?_; clear hf a; intro a hf
          refine gL hf (g_eql hf rfl rfl) (by decide) ?_; clear hf a; intro a hf
          refine e_nil ?_
          refine c_cond hf rfl (fun hc5 => ?_) (fun hc5 => ?_)
          · skip
            refine c_reg1 ?_
            refine gL hf (g_fa (off' := 1) hf F40_1 rfl rfl) (by decide) ?_; clear hf a; intro a hf
            refine uL (u_st hf hs T3 rfl rfl rfl (k := 0) rfl (Nat.le_of_ble_eq_true rfl)) ?_; clear hs; intro w hs; dsimp only [List.set] at hs
            refine e_nil1 (q_thenN ?_)
            refine c_reg ?_
            refine gL hf (g_fa (off' := 0) hf F47_0 rfl rfl) (by decide) ?_; clear hf a; intro a hf
            refine gL hf (g_ld hf hs T3 rfl (k := 3) rfl rfl) (by decide) ?_; clear hf a; intro a hf
            refine gL hf (g_fa (off' := 2) hf F47_2 rfl rfl) (by decide) ?_; clear hf a; intro a hf
            refine gL hf (g_fa (off' := 3) hf F40_1 rfl rfl) (by decide) ?_; clear hf a; intro a hf
            refine gL hf (g_ld hf hs T3 rfl (k := 3) rfl rfl) (by decide) ?_; clear hf a; intro a hf
            refine gL hf (g_subI hf rfl rfl (by omega)) (by decide) ?_; clear hf a; intro a hf
            refine gL hf (g_fa (off' := 4) hf F47_3 rfl rfl) (by decide) ?_; clear hf a; intro a hf
            refine gL hf (g_fa (off' := 5) hf F40_1 rfl rfl) (by decide) ?_; clear hf a; intro a hf
            refine gL hf (g_ld hf hs T3 rfl (k := 3) rfl rfl) (by decide) ?_; clear hf a; intro a hf
            refine gL hf (g_subI hf rfl rfl (by omega)) (by decide) ?_; clear hf a; intro a hf
            refine gL hf (g_max hf rfl rfl) (by decide) ?_; clear hf a; intro a hf
            refine gL hf (g_as hf rfl) (by decide) ?_; clear hf a; intro a hf
            refine e_nil ?_
            refine c_reg ?_
            refine gL hf (g_ldW hf hs T40 rfl (k := 2) rfl rfl) (by decide) ?_; clear hf a; intro a hf
            refine gL hf (g_ldW hf hs T40 rfl (k := 0) rfl rfl) (by decide) ?_; clear hf a; intro a hf
            refine gL hf (g_eqS hf Q40 rfl rfl) (by decide) ?_; clear hf a; intro a hf
            refine gL hf (g_mv hf rfl) (by decide) ?_; clear hf a; intro a hf
            refine ggL hf rfl rfl (gyes_t _) (fun hg => g_fa (off' := 1) hf F40_1 rfl rfl) (by decide) ?_; clear hf a; intro a hf
            refine ggL hf rfl rfl (gyes_t _) (fun hg => g_ld hf hs T3 (ev_gv rfl hg) (k := 1) rfl rfl) (by decide) ?_; clear hf a; intro a hf
            refine ggL hf rfl rfl (gyes_t _) (fun hg => g_fa (off' := 0) hf F47_0 rfl rfl) (by decide) ?_; clear hf a; intro a hf
            refine ggL hf rfl rfl (gyes_t _) (fun hg => g_ld hf hs T3 (ev_gv rfl hg) (k := 3) rfl rfl) (by decide) ?_; clear hf a; intro a hf
            refine ggL hf rfl rfl (gyes_t _) (fun hg => g_fa (off' := 2) hf F47_2 rfl rfl) (by decide) ?_; clear hf a; intro a hf
            refine ggL hf rfl rfl (gyes_t _) (fun hg => g_fa (off' := 2) hf F40_0 (ev_gv rfl hg) rfl) (by decide) ?_; clear hf a; intro a hf
            refine ggL hf rfl rfl (gyes_t _) (fun hg => g_ld hf hs T3 (ev_gv rfl hg) (k := 3) rfl rfl) (by decide) ?_; clear hf a; intro a hf
            refine ggL hf rfl rfl (gyes_t _) (fun hg => g_subI hf (ev_gv rfl hg) (ev_gv rfl hg) (by omega)) (by decide) ?_; clear hf a; intro a hf
            refine ggL hf rfl rfl (gyes_t _) (fun hg => g_fa (off' := 4) hf F47_3 rfl rfl) (by decide) ?_; clear hf a; intro a hf
            refine ggL hf rfl rfl (gyes_t _) (fun hg => g_fa (off' := 4) hf F40_0 (ev_gv rfl hg) rfl) (by decide) ?_; clear hf a; intro a hf
            refine ggL hf rfl rfl (gyes_t _) (fun hg => g_ld hf hs T3 (ev_gv rfl hg) (k := 3) rfl rfl) (by decide) ?_; clear hf a; intro a hf
            refine ggL hf rfl rfl (gyes_t _) (fun hg => g_subI hf (ev_gv rfl hg) (ev_gv rfl hg) (by omega)) (by decide) ?_; clear hf a; intro a hf
            refine ggL hf rfl rfl (gyes_t _) (fun hg => g_eql hf (ev_gv rfl hg) (ev_gv rfl hg)) (by decide) ?_; clear hf a; intro a hf
            refine gL hf (g_and hf rfl rfl) (by decide) ?_; clear hf a; intro a hf
            refine gL hf (g_mv hf rfl) (by decide) ?_; clear hf a; intro a hf
            refine ggL hf rfl rfl (gyes_t _) (fun hg => g_fa (off' := 0) hf F40_0 rfl rfl) (by decide) ?_; clear hf a; intro a hf
            refine ggL hf rfl rfl (gyes_t _) (fun hg => g_ld hf hs T3 (ev_gv rfl hg) (k := 1) rfl rfl) (by decide) ?_; clear hf a; intro a hf
            refine ggL hf rfl rfl (gyes_t _) (fun hg => g_mv hf rfl) (by decide) ?_; clear hf a; intro a hf
            refine ggL hf rfl rfl (gyes_t _) (fun hg => g_eql hf (ev_gv rfl hg) (ev_gv rfl hg)) (by decide) ?_; clear hf a; intro a hf
            refine gL hf (g_and hf rfl rfl) (by decide) ?_; clear hf a; intro a hf
            refine gL hf (g_mv hf rfl) (by decide) ?_; clear hf a; intro a hf
            refine callG hf hs rfl rfl (gyes_t _) (fun hg => ⟨_, _, _, _, c_paid ge gz te tz _ (hs.rd (.tail _ (.tail _ (.tail _ (.tail _ (.head _)))))) (hs.rd (.tail _ (.tail _ (.tail _ (.tail _ (.tail _ (.head _))))))), rfl, evs_nil, rfl⟩) E40 (by decide) ?_; clear hs hf a; intro w a hs hf
            refine gL hf (g_and hf rfl rfl) (by decide) ?_; clear hf a; intro a hf
            refine gL hf (g_as hf rfl) (by decide) ?_; clear hf a; intro a hf
            refine e_nil ?_
            refine c_ret ?_
            refine e_ret1 hf rfl rfl ?_
            refine ⟨?_, hs.below⟩
            rw [tk_yes hrt, tk_yes hrt, he0, he1]
            first | (simp_all; done) | (simp_all; intro h6; omega)
          · skip
            refine c_skip (q_thenN ?_)
            refine c_reg ?_
            refine gL hf (g_fa (off' := 0) hf F47_0 rfl rfl) (by decide) ?_; clear hf a; intro a hf
            refine gL hf (g_ld hf hs T3 rfl (k := 3) rfl rfl) (by decide) ?_; clear hf a; intro a hf
            refine gL hf (g_fa (off' := 2) hf F47_2 rfl rfl) (by decide) ?_; clear hf a; intro a hf
            refine gL hf (g_fa (off' := 3) hf F40_1 rfl rfl) (by decide) ?_; clear hf a; intro a hf
            refine gL hf (g_ld hf hs T3 rfl (k := 3) rfl rfl) (by decide) ?_; clear hf a; intro a hf
            refine gL hf (g_subI hf rfl rfl (by omega)) (by decide) ?_; clear hf a; intro a hf
            refine gL hf (g_fa (off' := 4) hf F47_3 rfl rfl) (by decide) ?_; clear hf a; intro a hf
            refine gL hf (g_fa (off' := 5) hf F40_1 rfl rfl) (by decide) ?_; clear hf a; intro a hf
            refine gL hf (g_ld hf hs T3 rfl (k := 3) rfl rfl) (by decide) ?_; clear hf a; intro a hf
            refine gL hf (g_subI hf rfl rfl (by omega)) (by decide) ?_; clear hf a; intro a hf
            refine gL hf (g_max hf rfl rfl) (by decide) ?_; clear hf a; intro a hf
            refine gL hf (g_as hf rfl) (by decide) ?_; clear hf a; intro a hf
            refine e_nil ?_
            refine c_reg ?_
            refine gL hf (g_ldW hf hs T40 rfl (k := 2) rfl rfl) (by decide) ?_; clear hf a; intro a hf
            refine gL hf (g_ldW hf hs T40 rfl (k := 0) rfl rfl) (by decide) ?_; clear hf a; intro a hf
            refine gL hf (g_eqS hf Q40 rfl rfl) (by decide) ?_; clear hf a; intro a hf
            refine gL hf (g_mv hf rfl) (by decide) ?_; clear hf a; intro a hf
            refine ggL hf rfl rfl (gyes_t _) (fun hg => g_fa (off' := 1) hf F40_1 rfl rfl) (by decide) ?_; clear hf a; intro a hf
            refine ggL hf rfl rfl (gyes_t _) (fun hg => g_ld hf hs T3 (ev_gv rfl hg) (k := 1) rfl rfl) (by decide) ?_; clear hf a; intro a hf
            refine ggL hf rfl rfl (gyes_t _) (fun hg => g_fa (off' := 0) hf F47_0 rfl rfl) (by decide) ?_; clear hf a; intro a hf
            refine ggL hf rfl rfl (gyes_t _) (fun hg => g_ld hf hs T3 (ev_gv rfl hg) (k := 3) rfl rfl) (by decide) ?_; clear hf a; intro a hf
            refine ggL hf rfl rfl (gyes_t _) (fun hg => g_fa (off' := 2) hf F47_2 rfl rfl) (by decide) ?_; clear hf a; intro a hf
            refine ggL hf rfl rfl (gyes_t _) (fun hg => g_fa (off' := 2) hf F40_0 (ev_gv rfl hg) rfl) (by decide) ?_; clear hf a; intro a hf
            refine ggL hf rfl rfl (gyes_t _) (fun hg => g_ld hf hs T3 (ev_gv rfl hg) (k := 3) rfl rfl) (by decide) ?_; clear hf a; intro a hf
            refine ggL hf rfl rfl (gyes_t _) (fun hg => g_subI hf (ev_gv rfl hg) (ev_gv rfl hg) (by omega)) (by decide) ?_; clear hf a; intro a hf
            refine ggL hf rfl rfl (gyes_t _) (fun hg => g_fa (off' := 4) hf F47_3 rfl rfl) (by decide) ?_; clear hf a; intro a hf
            refine ggL hf rfl rfl (gyes_t _) (fun hg => g_fa (off' := 4) hf F40_0 (ev_gv rfl hg) rfl) (by decide) ?_; clear hf a; intro a hf
            refine ggL hf rfl rfl (gyes_t _) (fun hg => g_ld hf hs T3 (ev_gv rfl hg) (k := 3) rfl rfl) (by decide) ?_; clear hf a; intro a hf
            refine ggL hf rfl rfl (gyes_t _) (fun hg => g_subI hf (ev_gv rfl hg) (ev_gv rfl hg) (by omega)) (by decide) ?_; clear hf a; intro a hf
            refine ggL hf rfl rfl (gyes_t _) (fun hg => g_eql hf (ev_gv rfl hg) (ev_gv rfl hg)) (by decide) ?_; clear hf a; intro a hf
            refine gL hf (g_and hf rfl rfl) (by decide) ?_; clear hf a; intro a hf
            refine gL hf (g_mv hf rfl) (by decide) ?_; clear hf a; intro a hf
            refine ggL hf rfl rfl (gyes_t _) (fun hg => g_fa (off' := 0) hf F40_0 rfl rfl) (by decide) ?_; clear hf a; intro a hf
            refine ggL hf rfl rfl (gyes_t _) (fun hg => g_ld hf hs T3 (ev_gv rfl hg) (k := 1) rfl rfl) (by decide) ?_; clear hf a; intro a hf
            refine ggL hf rfl rfl (gyes_t _) (fun hg => g_mv hf rfl) (by decide) ?_; clear hf a; intro a hf
            refine ggL hf rfl rfl (gyes_t _) (fun hg => g_eql hf (ev_gv rfl hg) (ev_gv rfl hg)) (by decide) ?_; clear hf a; intro a hf
            refine gL hf (g_and hf rfl rfl) (by decide) ?_; clear hf a; intro a hf
            refine gL hf (g_mv hf rfl) (by decide) ?_; clear hf a; intro a hf
            refine callG hf hs rfl rfl (gyes_t _) (fun hg => ⟨_, _, _, _, c_paid ge gz te tz _ (hs.rd (.tail _ (.tail _ (.tail _ (.tail _ (.head _)))))) (hs.rd (.tail _ (.tail _ (.tail _ (.tail _ (.tail _ (.head _))))))), rfl, evs_nil, rfl⟩) E40 (by decide) ?_; clear hs hf a; intro w a hs hf
            refine gL hf (g_and hf rfl rfl) (by decide) ?_; clear hf a; intro a hf
            refine gL hf (g_as hf rfl) (by decide) ?_; clear hf a; intro a hf
            refine e_nil ?_
            refine c_ret ?_
            refine e_ret1 hf rfl rfl ?_
            refine ⟨?_, hs.below⟩
            rw [tk_yes hrt, tk_yes hrt, he0, he1]
            first | (simp_all; done) | (simp_all; intro h6; omega)
        · try simp only [decide_eq_true_eq, decide_eq_false_iff_not] at hc4
          refine c_skip (q_thenN ?_)
          refine wp_seq ?_
          refine c_reg ?_
          refine gL hf (g_mv hf rfl) (by decide) ?_; clear hf a; intro a hf
          refine gL hf (g_eql hf rfl rfl) (by decide) ?_; clear hf a; intro a hf
          refine e_nil ?_
          refine c_cond hf rfl (fun hc5 => ?_) (fun hc5 => ?_)
          · skip
            refine c_reg1 ?_
            refine gL hf (g_fa (off' := 1) hf F40_1 rfl rfl) (by decide) ?_; clear hf a; intro a hf
            refine uL (u_st hf hs T3 rfl rfl rfl (k := 0) rfl (Nat.le_of_ble_eq_true rfl)) ?_; clear hs; intro w hs; dsimp only [List.set] at hs
            refine e_nil1 (q_thenN ?_)
            refine c_reg ?_
            refine gL hf (g_fa (off' := 0) hf F47_0 rfl rfl) (by decide) ?_; clear hf a; intro a hf
            refine gL hf (g_ld hf hs T3 rfl (k := 3) rfl rfl) (by decide) ?_; clear hf a; intro a hf
            refine gL hf (g_fa (off' := 2) hf F47_2 rfl rfl) (by decide) ?_; clear hf a; intro a hf
            refine gL hf (g_fa (off' := 3) hf F40_1 rfl rfl) (by decide) ?_; clear hf a; intro a hf
            refine gL hf (g_ld hf hs T3 rfl (k := 3) rfl rfl) (by decide) ?_; clear hf a; intro a hf
            refine gL hf (g_subI hf rfl rfl (by omega)) (by decide) ?_; clear hf a; intro a hf
            refine gL hf (g_fa (off' := 4) hf F47_3 rfl rfl) (by decide) ?_; clear hf a; intro a hf
            refine gL hf (g_fa (off' := 5) hf F40_1 rfl rfl) (by decide) ?_; clear hf a; intro a hf
            refine gL hf (g_ld hf hs T3 rfl (k := 3) rfl rfl) (by decide) ?_; clear hf a; intro a hf
            refine gL hf (g_subI hf rfl rfl (by omega)) (by decide) ?_; clear hf a; intro a hf
            refine gL hf (g_max hf rfl rfl) (by decide) ?_; clear hf a; intro a hf
            refine gL hf (g_as hf rfl) (by decide) ?_; clear hf a; intro a hf
            refine e_nil ?_
            refine c_reg ?_
            refine gL hf (g_ldW hf hs T40 rfl (k := 2) rfl rfl) (by decide) ?_; clear hf a; intro a hf
            refine gL hf (g_ldW hf hs T40 rfl (k := 0) rfl rfl) (by decide) ?_; clear hf a; intro a hf
            refine gL hf (g_eqS hf Q40 rfl rfl) (by decide) ?_; clear hf a; intro a hf
            refine gL hf (g_mv hf rfl) (by decide) ?_; clear hf a; intro a hf
            refine ggL hf rfl rfl (gyes_t _) (fun hg => g_fa (off' := 1) hf F40_1 rfl rfl) (by decide) ?_; clear hf a; intro a hf
            refine ggL hf rfl rfl (gyes_t _) (fun hg => g_ld hf hs T3 (ev_gv rfl hg) (k := 1) rfl rfl) (by decide) ?_; clear hf a; intro a hf
            refine ggL hf rfl rfl (gyes_t _) (fun hg => g_fa (off' := 0) hf F47_0 rfl rfl) (by decide) ?_; clear hf a; intro a hf
            refine ggL hf rfl rfl (gyes_t _) (fun hg => g_ld hf hs T3 (ev_gv rfl hg) (k := 3) rfl rfl) (by decide) ?_; clear hf a; intro a hf
            refine ggL hf rfl rfl (gyes_t _) (fun hg => g_fa (off' := 2) hf F47_2 rfl rfl) (by decide) ?_; clear hf a; intro a hf
            refine ggL hf rfl rfl (gyes_t _) (fun hg => g_fa (off' := 2) hf F40_0 (ev_gv rfl hg) rfl) (by decide) ?_; clear hf a; intro a hf
            refine ggL hf rfl rfl (gyes_t _) (fun hg => g_ld hf hs T3 (ev_gv rfl hg) (k := 3) rfl rfl) (by decide) ?_; clear hf a; intro a hf
            refine ggL hf rfl rfl (gyes_t _) (fun hg => g_subI hf (ev_gv rfl hg) (ev_gv rfl hg) (by omega)) (by decide) ?_; clear hf a; intro a hf
            refine ggL hf rfl rfl (gyes_t _) (fun hg => g_fa (off' := 4) hf F47_3 rfl rfl) (by decide) ?_; clear hf a; intro a hf
            refine ggL hf rfl rfl (gyes_t _) (fun hg => g_fa (off' := 4) hf F40_0 (ev_gv rfl hg) rfl) (by decide) ?_; clear hf a; intro a hf
            refine ggL hf rfl rfl (gyes_t _) (fun hg => g_ld hf hs T3 (ev_gv rfl hg) (k := 3) rfl rfl) (by decide) ?_; clear hf a; intro a hf
            refine ggL hf rfl rfl (gyes_t _) (fun hg => g_subI hf (ev_gv rfl hg) (ev_gv rfl hg) (by omega)) (by decide) ?_; clear hf a; intro a hf
            refine ggL hf rfl rfl (gyes_t _) (fun hg => g_eql hf (ev_gv rfl hg) (ev_gv rfl hg)) (by decide) ?_; clear hf a; intro a hf
            refine gL hf (g_and hf rfl rfl) (by decide) ?_; clear hf a; intro a hf
            refine gL hf (g_mv hf rfl) (by decide) ?_; clear hf a; intro a hf
            refine ggL hf rfl rfl (gyes_t _) (fun hg => g_fa (off' := 0) hf F40_0 rfl rfl) (by decide) ?_; clear hf a; intro a hf
            refine ggL hf rfl rfl (gyes_t _) (fun hg => g_ld hf hs T3 (ev_gv rfl hg) (k := 1) rfl rfl) (by decide) ?_; clear hf a; intro a hf
            refine ggL hf rfl rfl (gyes_t _) (fun hg => g_mv hf rfl) (by decide) ?_; clear hf a; intro a hf
            refine ggL hf rfl rfl (gyes_t _) (fun hg => g_eql hf (ev_gv rfl hg) (ev_gv rfl hg)) (by decide) ?_; clear hf a; intro a hf
            refine gL hf (g_and hf rfl rfl) (by decide) ?_; clear hf a; intro a hf
            refine gL hf (g_mv hf rfl) (by decide) ?_; clear hf a; intro a hf
            refine callG hf hs rfl rfl (gyes_t _) (fun hg => ⟨_, _, _, _, c_paid ge gz te tz _ (hs.rd (.tail _ (.tail _ (.tail _ (.tail _ (.head _)))))) (hs.rd (.tail _ (.tail _ (.tail _ (.tail _ (.tail _ (.head _))))))), rfl, evs_nil, rfl⟩) E40 (by decide) ?_; clear hs hf a; intro w a hs hf
            refine gL hf (g_and hf rfl rfl) (by decide) ?_; clear hf a; intro a hf
            refine gL hf (g_as hf rfl) (by decide) ?_; clear hf a; intro a hf
            refine e_nil ?_
            refine c_ret ?_
            refine e_ret1 hf rfl rfl ?_
            refine ⟨?_, hs.below⟩
            rw [tk_yes hrt, tk_yes hrt, he0, he1]
            first | (simp_all; done) | (simp_all; intro h6; omega)
          · skip
            refine c_skip (q_thenN ?_)
            refine c_reg ?_
            refine gL hf (g_fa (off' := 0) hf F47_0 rfl rfl) (by decide) ?_; clear hf a; intro a hf
            refine gL hf (g_ld hf hs T3 rfl (k := 3) rfl rfl) (by decide) ?_; clear hf a; intro a hf
            refine gL hf (g_fa (off' := 2) hf F47_2 rfl rfl) (by decide) ?_; clear hf a; intro a hf
            refine gL hf (g_fa (off' := 3) hf F40_1 rfl rfl) (by decide) ?_; clear hf a; intro a hf
            refine gL hf (g_ld hf hs T3 rfl (k := 3) rfl rfl) (by decide) ?_; clear hf a; intro a hf
            refine gL hf (g_subI hf rfl rfl (by omega)) (by decide) ?_; clear hf a; intro a hf
            refine gL hf (g_fa (off' := 4) hf F47_3 rfl rfl) (by decide) ?_; clear hf a; intro a hf
            refine gL hf (g_fa (off' := 5) hf F40_1 rfl rfl) (by decide) ?_; clear hf a; intro a hf
            refine gL hf (g_ld hf hs T3 rfl (k := 3) rfl rfl) (by decide) ?_; clear hf a; intro a hf
            refine gL hf (g_subI hf rfl rfl (by omega)) (by decide) ?_; clear hf a; intro a hf
            refine gL hf (g_max hf rfl rfl) (by decide) ?_; clear hf a; intro a hf
            refine gL hf (g_as hf rfl) (by decide) ?_; clear hf a; intro a hf
            refine e_nil ?_
            refine c_reg ?_
            refine gL hf (g_ldW hf hs T40 rfl (k := 2) rfl rfl) (by decide) ?_; clear hf a; intro a hf
            refine gL hf (g_ldW hf hs T40 rfl (k := 0) rfl rfl) (by decide) ?_; clear hf a; intro a hf
            refine gL hf (g_eqS hf Q40 rfl rfl) (by decide) ?_; clear hf a; intro a hf
            refine gL hf (g_mv hf rfl) (by decide) ?_; clear hf a; intro a hf
            refine ggL hf rfl rfl (gyes_t _) (fun hg => g_fa (off' := 1) hf F40_1 rfl rfl) (by decide) ?_; clear hf a; intro a hf
            refine ggL hf rfl rfl (gyes_t _) (fun hg => g_ld hf hs T3 (ev_gv rfl hg) (k := 1) rfl rfl) (by decide) ?_; clear hf a; intro a hf
            refine ggL hf rfl rfl (gyes_t _) (fun hg => g_fa (off' := 0) hf F47_0 rfl rfl) (by decide) ?_; clear hf a; intro a hf
            refine ggL hf rfl rfl (gyes_t _) (fun hg => g_ld hf hs T3 (ev_gv rfl hg) (k := 3) rfl rfl) (by decide) ?_; clear hf a; intro a hf
            refine ggL hf rfl rfl (gyes_t _) (fun hg => g_fa (off' := 2) hf F47_2 rfl rfl) (by decide) ?_; clear hf a; intro a hf
            refine ggL hf rfl rfl (gyes_t _) (fun hg => g_fa (off' := 2) hf F40_0 (ev_gv rfl hg) rfl) (by decide) ?_; clear hf a; intro a hf
            refine ggL hf rfl rfl (gyes_t _) (fun hg => g_ld hf hs T3 (ev_gv rfl hg) (k := 3) rfl rfl) (by decide) ?_; clear hf a; intro a hf
            refine ggL hf rfl rfl (gyes_t _) (fun hg => g_subI hf (ev_gv rfl hg) (ev_gv rfl hg) (by omega)) (by decide) ?_; clear hf a; intro a hf
            refine ggL hf rfl rfl (gyes_t _) (fun hg => g_fa (off' := 4) hf F47_3 rfl rfl) (by decide) ?_; clear hf a; intro a hf
            refine ggL hf rfl rfl (gyes_t _) (fun hg => g_fa (off' := 4) hf F40_0 (ev_gv rfl hg) rfl) (by decide) ?_; clear hf a; intro a hf
            refine ggL hf rfl rfl (gyes_t _) (fun hg => g_ld hf hs T3 (ev_gv rfl hg) (k := 3) rfl rfl) (by decide) ?_; clear hf a; intro a hf
            refine ggL hf rfl rfl (gyes_t _) (fun hg => g_subI hf (ev_gv rfl hg) (ev_gv rfl hg) (by omega)) (by decide) ?_; clear hf a; intro a hf
            refine ggL hf rfl rfl (gyes_t _) (fun hg => g_eql hf (ev_gv rfl hg) (ev_gv rfl hg)) (by decide) ?_; clear hf a; intro a hf
            refine gL hf (g_and hf rfl rfl) (by decide) ?_; clear hf a; intro a hf
            refine gL hf (g_mv hf rfl) (by decide) ?_; clear hf a; intro a hf
            refine ggL hf rfl rfl (gyes_t _) (fun hg => g_fa (off' := 0) hf F40_0 rfl rfl) (by decide) ?_; clear hf a; intro a hf
            refine ggL hf rfl rfl (gyes_t _) (fun hg => g_ld hf hs T3 (ev_gv rfl hg) (k := 1) rfl rfl) (by decide) ?_; clear hf a; intro a hf
            refine ggL hf rfl rfl (gyes_t _) (fun hg => g_mv hf rfl) (by decide) ?_; clear hf a; intro a hf
            refine ggL hf rfl rfl (gyes_t _) (fun hg => g_eql hf (ev_gv rfl hg) (ev_gv rfl hg)) (by decide) ?_; clear hf a; intro a hf
            refine gL hf (g_and hf rfl rfl) (by decide) ?_; clear hf a; intro a hf
            refine gL hf (g_mv hf rfl) (by decide) ?_; clear hf a; intro a hf
            refine callG hf hs rfl rfl (gyes_t _) (fun hg => ⟨_, _, _, _, c_paid ge gz te tz _ (hs.rd (.tail _ (.tail _ (.tail _ (.tail _ (.head _)))))) (hs.rd (.tail _ (.tail _ (.tail _ (.tail _ (.tail _ (.head _))))))), rfl, evs_nil, rfl⟩) E40 (by decide) ?_; clear hs hf a; intro w a hs hf
            refine gL hf (g_and hf rfl rfl) (by decide) ?_; clear hf a; intro a hf
            refine gL hf (g_as hf rfl) (by decide) ?_; clear hf a; intro a hf
            refine e_nil ?_
            refine c_ret ?_
            refine e_ret1 hf rfl rfl ?_
            refine ⟨?_, hs.below⟩
            rw [tk_yes hrt, tk_yes hrt, he0, he1]
            first | (simp_all; done) | (simp_all; intro h6; omega)

end Go.Proofs.YtjjcopeedcdokaaDoor

set_option linter.unusedVariables false
namespace Go.Proofs.YtjjcopeedcdokaaDoor
open Go.ChangeShapes Go.WideShapes Go.ChangeAt Go.RowKit
set_option maxRecDepth 100000 in
theorem lifted9 (os : Os) (started : os.Started) (H : Type) (enc : TypeId × Value → H) :
    ReturnsInHanded {} Tryd.checked os 9 .any (fun w args => (Rows.homeEndsSpec.pre enc Tryd.prog Tryd.f9 [] false w args ∧ laidMetH Tryd.prog laid1 w) ∧ sizedMet enc Tryd.prog Tryd.f9 (OpenSpec.ofChange Rows.homeEndsSpec) false w args)
      (Rows.homeEndsSpec.post enc Tryd.prog Tryd.f9 false true false false) := by
  refine returnsInHanded_of_change_and (C := Tryd.checked) (X := fun w _ => laidMetH Tryd.prog laid1 w) (fun _ _ _ hh h => h.of_heap hh) pOwn started (by kernel_rfl) Tryd.func9
    (ChangeSpec.witness_shaped (enc := enc) (C := Tryd.checked) (os := os) (X := fun w _ => laidMetH Tryd.prog laid1 w) false (World.doorLaid Tryd.prog 600 os) #[.agg #[.int .i64 0, .int .i64 0, .slice none 0 0, .slice none 0 0, .int .i64 0, .int .i64 0, .int .i64 0, .slice none 0 0], .int .i64 0] 8 rfl (World.shaped_of_RefB (by kernel_rfl) (by kernel_rfl)) (by kernel_rfl) (by kernel_rfl) (by kernel_rfl) (door_met os _)) ?_
  intro W base args ds gs before hval0 hW _ _ hL _
  have hval : ∀ (j : Nat) t v, Tryd.f9.params[j]? = some t → args[j]? = some v → Value.okWide Tryd.prog W .any base t v := hval0
  have hW' := hW
  obtain ⟨p, q, hA0, hV, rfl, hfz, hnd⟩ := hW
  have hA : DataW.TrodAll enc Tryd.prog W 0 (fun _ => true) true Tryd.f9.params.toList args.toList ds p := hA0
  have hA9 := hA
  rw [Tryd.params9] at hA hval
  obtain ⟨v0, v1, d0, d1, p0, p1, rfl, rfl, rfl, h0, h1⟩ := trodAll_two hA
  obtain ⟨rfl, rfl⟩ := trodVars_none hV
  obtain ⟨k, fA, fc, rA, rc, wA, wc, rfl, hbk⟩ := open_book (hval 0 28 v0 rfl rfl) h0
  obtain ⟨i, rfl, rfl, rfl, wi⟩ := open_int Tryd.underlying3 (hval 1 3 v1 rfl rfl) h1
  obtain ⟨ge, gz, hG⟩ := of_laid hL
  obtain ⟨te, tz, hT⟩ := of_told hL
  refine (c_HomeEnds k fA fc rA rc wA wc ge gz i W hbk hG te tz hT).mono fun e W' ⟨he, hb⟩ => ?_
  subst he
  exact ⟨_, rfl, law_post rfl rfl rfl (by kernel_rfl) hW' rfl hA9 hb⟩
theorem row9 : Rows.HomeEndsSaid :=
  OpenClaim.holds_of_wide 9 Tryd.f9 rfl rfl rfl rfl rfl rfl rfl ⟨rfl, rfl, rfl, rfl, rfl⟩ rfl rfl rfl rfl rfl (by kernel_rfl) Tryd.func9 (by kernel_rfl)
    (of_decide_eq_true (by kernel_rfl)) (by unfold Func.isWrapper; first | (rw [if_pos (by decide +kernel)]; kernel_rfl) | (rw [if_neg (by decide +kernel)]; exact ⟨rfl, rfl⟩))
    (fun os started H enc _ => lifted9 os started H enc)
/-- The card. -/
theorem homeEnds_holds : Rows.HomeEndsCardSaid :=
  Claim7.holds_tied_plain_at .later [] [.funcs, .funcs] true (true, "812014c6ba21101d15e02d82012ffa61e4b3f2f84e9c736658d12c12a3cb442a") false
    row9 (fun _ h => by cases h) (by kernel_rfl) (fun _ h => by cases h) homeEnds_row_tie rfl ⟨rfl, rfl⟩ (by kernel_rfl) rfl
    (fun f fn hf hfn => by
      obtain rfl : f = 9 := Option.some.inj ((show Tryd.prog.funcNamed "lucifer/luciferlaw09.HomeEnds" = some 9 by kernel_rfl).symm.trans hf) |>.symm
      obtain rfl : fn = Tryd.f9 := (Option.some.inj (Tryd.func9.symm.trans hfn)).symm
      exact ⟨by kernel_rfl, fun j t ht => by
        rw [Tryd.params9] at ht
        have hm : t ∈ [28, 3] := by simpa using Array.mem_of_getElem? ht
        have hall : ([28, 3].all fun u => !Tryd.prog.wantsStandIn u) = true := by kernel_rfl
        exact (show Tryd.prog.wantsStandIn t = false by simpa using List.all_eq_true.1 hall t hm)⟩)
    (by kernel_rfl)
#print axioms homeEnds_holds
end Go.Proofs.YtjjcopeedcdokaaDoor

