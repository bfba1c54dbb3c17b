/- For every book and number the law HomeBetter returns true, and its arguments read afterwards as before: a worker who folds in an order that does gets no less than one who folds in any other one, and no fewer boxes pass. Conditions: the tables of the sides and of what is told hold what the text of the program lays. -/
import Derived.Test.YtjjcopeedcdokaaDoorComF
import Derived.Test.YtjjcopeedcdokaaDoorTie
import Derived.Test.YtjjcopeedcdokaaDoorCards
set_option linter.unusedVariables false
set_option linter.unusedSimpArgs false
namespace Go.Proofs.YtjjcopeedcdokaaDoor
open Go.RowKit
theorem c_HomeBetter (k : Bk) (fA : Option Addr) (fc : Nat) (rA : Option Addr) (rc : Nat) (wA : Option Addr) (wc : Nat) (ge : TypeId) (gz : Nat × Nat) (n : Int) (w0 : World) (h : BkIn k fA fc rA rc wA wc w0) (hG : BlkIs 1 sidesA ge gz w0) (te : TypeId) (tz : Nat × Nat) (hT : BlkIs 0 toldA te tz w0) :
    Calls Tryd.prog 10 #[.agg #[.int .i64 k.sh.wide, .int .i64 k.sh.high, .slice fA k.sh.flaps.length fc, .slice rA k.sh.rules.length rc, .int .i64 k.gross, .int .i64 k.pay, .int .i64 k.fine, .slice wA k.ws.length wc], .int .i64 n] w0 (Ret w0 (.bool true)) := by
  refine c_enter (n := 150) Tryd.func10 rfl rfl (Nat.le_of_ble_eq_true rfl) ?_; intro a hf; simp only [zipR] at hf
  have hs := St.start w0 [Rd encF 5 fA k.sh.flaps.length k.sh.flaps, Rd encR 2 rA k.sh.rules.length k.sh.rules, Rd encW 6 wA k.ws.length k.ws, OrdD k.ws, BlkIs 1 sidesA ge gz, BlkIs 0 toldA te tz] (stab_app (stab_app h.stab hG.st1) hT.st1)
  have hwm := h.W.2.1
  refine c_reg ?_
  refine vL hf (v_boxA hf hs rfl) (by decide) ?_; clear hs hf a; rintro _ w ⟨b1, rfl, hs⟩ a hf
  refine gL hf (g_as hf rfl) (by decide) ?_; clear hf a; intro a hf
  refine e_nil ?_
  refine wp_seq ?_
  refine c_reg ?_
  refine gL hf (g_ldW hf hs T28 rfl (k := 0) rfl rfl) (by decide) ?_; clear hf a; intro a hf
  refine callL hf hs (c_soundH k _ _ _ _ _ _ ge gz _ ⟨⟨hs.rd (.head _), hs.rd (.tail _ (.head _)), h.sh.fc_, h.sh.rc_⟩, hs.rd (.tail _ (.tail _ (.head _))), h.wc_, hs.rd (.tail _ (.tail _ (.tail _ (.head _))))⟩ (hs.rd (.tail _ (.tail _ (.tail _ (.tail _ (.head _))))))) rfl rfl rfl E48 (by decide) ?_; clear hs hf a; intro w a hs hf
  refine gL hf (g_not hf rfl) (by decide) ?_; clear hf a; intro a hf
  refine gL hf (g_mv hf rfl) (by decide) ?_; clear hf a; intro a hf
  refine ggL hf rfl rfl (gyes_f _) (fun hg => g_fa (off' := 7) hf F28_4 rfl rfl) (by decide) ?_; clear hf a; intro a hf
  refine ggL hf rfl rfl (gyes_f _) (fun hg => g_ld hf hs T26 (ev_gv rfl hg) (k := 0) rfl rfl) (by decide) ?_; clear hf a; intro a hf
  refine ggL hf rfl rfl (gyes_f _) (fun hg => g_len hf SL26 (ev_gv rfl hg)) (by decide) ?_; clear hf a; intro a hf
  refine ggL hf rfl rfl (gyes_f _) (fun hg => g_eql hf (ev_gv rfl hg) rfl) (by decide) ?_; clear hf a; intro a hf
  refine gL hf (g_or hf rfl rfl) (by decide) ?_; clear hf a; intro a hf
  refine e_nil ?_
  refine c_cond hf rfl (fun hc1 => ?_) (fun hc1 => ?_)
  · skip
    refine c_reg ?_
    refine callL hf hs (c_paid ge gz te tz _ (hs.rd (.tail _ (.tail _ (.tail _ (.tail _ (.head _)))))) (hs.rd (.tail _ (.tail _ (.tail _ (.tail _ (.tail _ (.head _)))))))) rfl rfl rfl E40 (by decide) ?_; clear hs hf a; intro w a hs hf
    refine gL hf (g_as hf rfl) (by decide) ?_; clear hf a; intro a hf
    refine e_nil ?_
    refine c_ret (q_thenR ?_)
    refine e_ret1 hf rfl rfl ?_
    exact ⟨rfl, hs.below⟩
  · skip
    obtain ⟨hck, hpos⟩ := sound_some hc1
    have hwn := (hck_iff.1 hck).n
    refine c_skip (q_thenN ?_)
    refine c_reg ?_
    refine gL hf (g_fa (off' := 0) hf F28_0 rfl rfl) (by decide) ?_; clear hf a; intro a hf
    refine gL hf (g_ldP hf hs T25 rfl (k := 0) rfl rfl) (by decide) ?_; clear hf a; intro a hf
    refine callX hf hs (c_Order k.sh _ _ _ _ ge gz _ ⟨hs.rd (.head _), hs.rd (.tail _ (.head _)), h.sh.fc_, h.sh.rc_⟩ (hs.rd (.tail _ (.tail _ (.tail _ (.tail _ (.head _))))))) rfl rfl rfl E19 (by decide) ?_; intro v w1 a hR hb hs1 hf; obtain ⟨Ao, co, rfl, hoo⟩ := hR; replace hs := hs.fresh hs1 (outFresh hoo); clear hs1 hb
    refine gL hf (g_mv hf rfl) (by decide) ?_; clear hf a; intro a hf
    refine gL hf (g_ext hf rfl rfl) (by decide) ?_; clear hf a; intro a hf
    refine gL hf (g_ext hf rfl rfl) (by decide) ?_; clear hf a; intro a hf
    refine gL hf (g_as hf rfl) (by decide) ?_; clear hf a; intro a hf
    refine gL hf (g_as hf rfl) (by decide) ?_; clear hf a; intro a hf
    refine e_nil ?_
    refine wp_seq ?_
    refine c_reg ?_
    refine gL hf (g_mv hf rfl) (by decide) ?_; clear hf a; intro a hf
    refine gL hf (g_neq hf rfl rfl) (by decide) ?_; clear hf a; intro a hf
    refine e_nil ?_
    refine c_cond hf rfl (fun hc2 => ?_) (fun hc2 => ?_)
    · skip
      have ho : (orderP k.sh).2 ≠ 0 := by simpa using hc2
      refine c_reg ?_
      refine gL hf (g_ldW hf hs T28 rfl (k := 0) rfl rfl) (by decide) ?_; clear hf a; intro a hf
      refine callL hf hs (c_TeachH k _ _ _ _ _ _ ge gz  _ ⟨⟨hs.rd (.tail _ (.head _)), hs.rd (.tail _ (.tail _ (.head _))), h.sh.fc_, h.sh.rc_⟩, hs.rd (.tail _ (.tail _ (.tail _ (.head _)))), h.wc_, hs.rd (.tail _ (.tail _ (.tail _ (.tail _ (.head _)))))⟩ (hs.rd (.tail _ (.tail _ (.tail _ (.tail _ (.tail _ (.head _))))))) te tz (hs.rd (.tail _ (.tail _ (.tail _ (.tail _ (.tail _ (.tail _ (.head _))))))))) rfl rfl rfl E21 (by decide) ?_; clear hs hf a; intro w a hs hf
      refine gL hf (g_mv hf rfl) (by decide) ?_; clear hf a; intro a hf
      refine gL hf (g_ext hf rfl rfl) (by decide) ?_; clear hf a; intro a hf
      refine gL hf (g_ext hf rfl rfl) (by decide) ?_; clear hf a; intro a hf
      refine gL hf (g_as hf rfl) (by decide) ?_; clear hf a; intro a hf
      refine gL hf (g_as hf rfl) (by decide) ?_; clear hf a; intro a hf
      refine e_nil ?_
      refine c_reg ?_
      refine gL hf (g_mv hf rfl) (by decide) ?_; clear hf a; intro a hf
      refine gL hf (g_eql hf rfl rfl) (by decide) ?_; clear hf a; intro a hf
      refine gL hf (g_mv hf rfl) (by decide) ?_; clear hf a; intro a hf
      refine ggL hf rfl rfl (gyes_t _) (fun hg => g_mv hf rfl) (by decide) ?_; clear hf a; intro a hf
      refine ggL hf rfl rfl (gyes_t _) (fun hg => g_eql hf (ev_gv rfl hg) rfl) (by decide) ?_; clear hf a; intro a hf
      refine ggL hf rfl rfl (gyes_t _) (fun hg => g_mv hf (ev_gv rfl hg)) (by decide) ?_; clear hf a; intro a hf
      refine ggL hf rfl rfl (gyes_gf _ _) (fun hg => g_mv hf rfl) (by decide) ?_; clear hf a; intro a hf
      refine ggL hf rfl rfl (gyes_gf _ _) (fun hg => g_eql hf (ev_gv rfl hg) rfl) (by decide) ?_; clear hf a; intro a hf
      refine ggL hf rfl rfl (gyes_t _) (fun hg => g_or hf (ev_gv rfl hg) (ev_gvand rfl hg)) (by decide) ?_; clear hf a; intro a hf
      refine gL hf (g_and hf rfl rfl) (by decide) ?_; clear hf a; intro a hf
      refine gL hf (g_mv hf rfl) (by decide) ?_; clear hf a; intro a hf
      refine callG hf hs rfl rfl (gyes_t _) (fun hg => ⟨_, _, _, _, c_paid ge gz te tz _ (hs.rd (.tail _ (.tail _ (.tail _ (.tail _ (.tail _ (.head _))))))) (hs.rd (.tail _ (.tail _ (.tail _ (.tail _ (.tail _ (.tail _ (.head _)))))))), rfl, evs_nil, rfl⟩) E40 (by decide) ?_; clear hs hf a; intro w a hs hf
      refine gL hf (g_and hf rfl rfl) (by decide) ?_; clear hf a; intro a hf
      refine gL hf (g_as hf rfl) (by decide) ?_; clear hf a; intro a hf
      refine e_nil ?_
      refine c_ret (q_thenR ?_)
      refine e_ret1 hf rfl rfl ?_
      refine ⟨?_, hs.below⟩
      have h4 : (orderP k.sh).2 = 4 := (order_err (hck_iff.1 hck).ck).resolve_left ho
      have h5 := teach_no hck ho
      rw [h4, h5]
      split <;> rfl
    · skip
      have ho : (orderP k.sh).2 = 0 := by simpa using hc2
      have hord := order_ord (hck_iff.1 hck).ck ho
      have hd2 := order_does (hck_iff.1 hck).ck ho
      refine c_skip (q_thenN ?_)
      refine c_reg ?_
      refine gL hf (g_mv hf rfl) (by decide) ?_; clear hf a; intro a hf
      refine gL hf (g_fa (off' := 7) hf F28_4 rfl rfl) (by decide) ?_; clear hf a; intro a hf
      refine gL hf (g_ld hf hs T26 rfl (k := 0) rfl rfl) (by decide) ?_; clear hf a; intro a hf
      refine gL hf (g_len hf SL26 rfl) (by decide) ?_; clear hf a; intro a hf
      refine callL hf hs (c_Spin _ _ (by omega) _) rfl rfl rfl E22 (by decide) ?_; clear hs hf a; intro w a hs hf
      obtain ⟨i, hie, hi⟩ := some_nat (n := n) hpos
      rw [hie] at hf
      have hv := hck_iff.1 hck; have hx := hv.wk hi
      have hx1 := hx.b0; have hx2 := hx.b1; have hx3 := hx.b2; have hx4 := hx.t0; have hx5 := hx.t1; have hx6 := hx.t2; have hx7 := hx.s0; have hx8 := hx.s1
      refine gL hf (g_as hf rfl) (by decide) ?_; clear hf a; intro a hf
      refine e_nil ?_
      refine c_reg ?_
      refine gL hf (g_ldW hf hs T28 rfl (k := 0) rfl rfl) (by decide) ?_; clear hf a; intro a hf
      refine vL hf (v_alloc hs T28 rfl) (by decide) ?_; clear hs hf a; rintro _ w ⟨b2, rfl, hs⟩ a hf
      refine uL (u_stW hf hs T28 rfl rfl rfl (k := 0) rfl rfl rfl) ?_; clear hs; intro w hs; dsimp only [List.set] at hs
      refine e_nil ?_
      refine c_reg ?_
      refine vL hf (v_lits (len := 0) hf hs SL26 T47 .nil rfl rfl rfl rfl (by decide) rfl) (by decide) ?_; clear hs hf a; rintro _ w ⟨b3, rfl, hs⟩ a hf
      refine gL hf (g_fa (off' := 7) hf F28_4 rfl rfl) (by decide) ?_; clear hf a; intro a hf
      refine gL hf (g_ld hf hs T26 rfl (k := 2) rfl rfl) (by decide) ?_; clear hf a; intro a hf
      refine vL hf (v_accN (e := 47) (o := some (b3, #[])) (l := []) (l' := k.ws) (len := 0) hf 0 hs rfl ⟨0, rfl, Nat.le_refl _, by omega, rfl⟩ AP26 (enc := encW) (fun _ => rfl) (by decide) (by intro x v hv9; simp only [encW, List.mem_cons, List.not_mem_nil, or_false] at hv9; rcases hv9 with rfl | rfl | rfl | rfl | rfl | rfl <;> rfl) rfl rfl rfl (hs.rd (.tail _ (.tail _ (.tail _ (.head _))))) (by omega) (by decide)) (by decide) ?_; clear hs hf a; rintro _ w ⟨ox, rfl, hox, hs⟩ a hf; dsimp only [List.take, List.nil_append] at hs
      rw [List.nil_append] at hox
      obtain ⟨bcx, csx, rfl⟩ : ∃ bc cs, ox = some (bc, cs) := acc_some hox (by omega)
      simp only [Nat.zero_add] at hf; dsimp only [accV] at hf; dsimp only [accH, List.cons_append, List.nil_append] at hs
      have hcapx := hox.cap (sz := 6) (by decide)
      refine gL hf (g_fa (off' := 7) hf F28_4 rfl rfl) (by decide) ?_; clear hf a; intro a hf
      refine uL (u_st hf hs T26 rfl rfl rfl (k := 1) rfl (Nat.le_of_ble_eq_true rfl)) ?_; clear hs; intro w hs; dsimp only [List.set] at hs
      refine e_nil ?_
      refine c_reg ?_
      refine gL hf (g_fa (off' := 7) hf F28_4 rfl rfl) (by decide) ?_; clear hf a; intro a hf
      refine gL hf (g_ld hf hs T26 rfl (k := 1) rfl rfl) (by decide) ?_; clear hf a; intro a hf
      refine gL hf (g_mv hf rfl) (by decide) ?_; clear hf a; intro a hf
      refine gL hf (g_mv hf rfl) (by decide) ?_; clear hf a; intro a hf
      refine gL hf (g_ixO hf SL26 rfl rfl (by omega)) (by decide) ?_; clear hf a; intro a hf
      refine gL hf (g_fa hf F47_1 rfl rfl) (by decide) ?_; clear hf a; intro a hf
      refine uL (u_st hf hs T31 rfl rfl rfl (k := 0) rfl (accW_set (x' := reO (k.ws.getD i default) (orderP k.sh).1 Ao co) (i := i) (r := 1) hi (by decide) (by omega) rfl hox).1) ?_; clear hs; intro w hs; dsimp only [List.set] at hs
      have hox2 := (accW_set (x' := reO (k.ws.getD i default) (orderP k.sh).1 Ao co) (i := i) (r := 1) (q := 0 + i * 6 + 1) hi (by decide) (by omega) rfl hox).2
      refine e_nil ?_
      obtain ⟨Ax, cx, ex, hlx, hs⟩ := hs.freeze (e := 47) (o := some (bcx, _)) (l := (setW k i (orderP k.sh).1 Ao co).ws) (enc := encW) (sz := 6) 0 rfl hox2 (fun _ => rfl) (by decide)
      dsimp only [List.take, List.nil_append] at hs
      dsimp only [accV] at ex
      injection ex with ex1 ex2 ex3; subst ex1
      replace hs := hs.addD (ordD_set (i := i) (l := (orderP k.sh).1) (A := Ao) (c := co) (hs.data _ (.tail _ (.tail _ (.tail _ (.tail _ (.tail _ (.head _))))))) hoo.1 (hs.data _ (.tail _ (.head _))))
      refine c_reg ?_
      refine gL hf (g_ldW hf hs T28 rfl (k := 1) rfl rfl) (by decide) ?_; clear hf a; intro a hf
      refine gL hf (g_mv hf rfl) (by decide) ?_; clear hf a; intro a hf
      have h9 := c_GetsH k _ _ _ _ _ _ ge gz ((i : Nat) : Int) _ ⟨⟨hs.rd (.tail _ (.tail _ (.tail _ (.head _)))), hs.rd (.tail _ (.tail _ (.tail _ (.tail _ (.head _))))), h.sh.fc_, h.sh.rc_⟩, hs.rd (.tail _ (.tail _ (.tail _ (.tail _ (.tail _ (.head _)))))), h.wc_, hs.rd (.tail _ (.tail _ (.tail _ (.tail _ (.tail _ (.tail _ (.head _)))))))⟩ (hs.rd (.tail _ (.tail _ (.tail _ (.tail _ (.tail _ (.tail _ (.tail _ (.head _))))))))) te tz (hs.rd (.tail _ (.tail _ (.tail _ (.tail _ (.tail _ (.tail _ (.tail _ (.tail _ (.head _))))))))))
      rw [tk_eq hck hi 2] at h9
      refine callL hf hs (h9) rfl rfl rfl E38 (by decide) ?_; clear hs hf a; intro w a hs hf
      refine gL hf (g_mv hf rfl) (by decide) ?_; clear hf a; intro a hf
      refine gL hf (g_ext hf rfl rfl) (by decide) ?_; clear hf a; intro a hf
      refine gL hf (g_ext hf rfl rfl) (by decide) ?_; clear hf a; intro a hf
      refine vL hf (v_alloc hs T40 rfl) (by decide) ?_; clear hs hf a; rintro _ w ⟨b4, rfl, hs⟩ a hf
      refine uL (u_stW hf hs T40 rfl rfl rfl (k := 0) rfl rfl rfl) ?_; clear hs; intro w hs; dsimp only [List.set] at hs
      refine gL hf (g_as hf rfl) (by decide) ?_; clear hf a; intro a hf
      refine e_nil ?_
      refine c_reg ?_
      refine gL hf (g_ldW hf hs T28 rfl (k := 1) rfl rfl) (by decide) ?_; clear hf a; intro a hf
      refine gL hf (g_mv hf rfl) (by decide) ?_; clear hf a; intro a hf
      have h9 := c_GetsH (setW k i (orderP k.sh).1 Ao co) fA fc rA rc (some ⟨bcx, 0, none⟩) (csx.size / 6) ge gz ((i : Nat) : Int) _ (show BkIn (setW k i (orderP k.sh).1 Ao co) fA fc rA rc (some ⟨bcx, 0, none⟩) (csx.size / 6) _ from ⟨⟨hs.rd (.tail _ (.tail _ (.tail _ (.head _)))), hs.rd (.tail _ (.tail _ (.tail _ (.tail _ (.head _))))), h.sh.fc_, h.sh.rc_⟩, hs.rd (.tail _ (.head _)), by rw [setW_len]; exact hcapx, hs.rd (.head _)⟩) (hs.rd (.tail _ (.tail _ (.tail _ (.tail _ (.tail _ (.tail _ (.tail _ (.head _))))))))) te tz (hs.rd (.tail _ (.tail _ (.tail _ (.tail _ (.tail _ (.tail _ (.tail _ (.tail _ (.head _))))))))))
      rw [tk_set hv hi hord.1 Ao co 2] at h9
      simp only [setW_len] at h9
      refine callL hf hs (h9) rfl rfl rfl E38 (by decide) ?_; clear hs hf a; intro w a hs hf
      refine gL hf (g_mv hf rfl) (by decide) ?_; clear hf a; intro a hf
      refine gL hf (g_ext hf rfl rfl) (by decide) ?_; clear hf a; intro a hf
      refine gL hf (g_ext hf rfl rfl) (by decide) ?_; clear hf a; intro a hf
      refine vL hf (v_alloc hs T40 rfl) (by decide) ?_; clear hs hf a; rintro _ w ⟨b5, rfl, hs⟩ a hf
      refine uL (u_stW hf hs T40 rfl rfl rfl (k := 0) rfl rfl rfl) ?_; clear hs; intro w hs; dsimp only [List.set] at hs
      refine gL hf (g_as hf rfl) (by decide) ?_; clear hf a; intro a hf
      refine e_nil ?_
      refine c_reg ?_
      refine gL hf (g_ldW hf hs T28 rfl (k := 3) rfl rfl) (by decide) ?_; clear hf a; intro a hf
      refine gL hf (g_mv hf rfl) (by decide) ?_; clear hf a; intro a hf
      have h9 := c_PassesH k _ _ _ _ _ _ ge gz ((i : Nat) : Int) _ ⟨⟨hs.rd (.tail _ (.tail _ (.tail _ (.head _)))), hs.rd (.tail _ (.tail _ (.tail _ (.tail _ (.head _))))), h.sh.fc_, h.sh.rc_⟩, hs.rd (.tail _ (.tail _ (.tail _ (.tail _ (.tail _ (.head _)))))), h.wc_, hs.rd (.tail _ (.tail _ (.tail _ (.tail _ (.tail _ (.tail _ (.head _)))))))⟩ (hs.rd (.tail _ (.tail _ (.tail _ (.tail _ (.tail _ (.tail _ (.tail _ (.head _))))))))) te tz (hs.rd (.tail _ (.tail _ (.tail _ (.tail _ (.tail _ (.tail _ (.tail _ (.tail _ (.head _))))))))))
      rw [tk_eq hck hi 0] at h9
      refine callL hf hs (h9) rfl rfl rfl E23 (by decide) ?_; clear hs hf a; intro w a hs hf
      refine gL hf (g_mv hf rfl) (by decide) ?_; clear hf a; intro a hf
      refine gL hf (g_ext hf rfl rfl) (by decide) ?_; clear hf a; intro a hf
      refine gL hf (g_ext hf rfl rfl) (by decide) ?_; clear hf a; intro a hf
      refine vL hf (v_alloc hs T40 rfl) (by decide) ?_; clear hs hf a; rintro _ w ⟨b6, rfl, hs⟩ a hf
      refine uL (u_stW hf hs T40 rfl rfl rfl (k := 0) rfl rfl rfl) ?_; clear hs; intro w hs; dsimp only [List.set] at hs
      refine gL hf (g_as hf rfl) (by decide) ?_; clear hf a; intro a hf
      refine e_nil ?_
      refine c_reg ?_
      refine gL hf (g_ldW hf hs T28 rfl (k := 3) rfl rfl) (by decide) ?_; clear hf a; intro a hf
      refine gL hf (g_mv hf rfl) (by decide) ?_; clear hf a; intro a hf
      have h9 := c_PassesH (setW k i (orderP k.sh).1 Ao co) fA fc rA rc (some ⟨bcx, 0, none⟩) (csx.size / 6) ge gz ((i : Nat) : Int) _ (show BkIn (setW k i (orderP k.sh).1 Ao co) fA fc rA rc (some ⟨bcx, 0, none⟩) (csx.size / 6) _ from ⟨⟨hs.rd (.tail _ (.tail _ (.tail _ (.head _)))), hs.rd (.tail _ (.tail _ (.tail _ (.tail _ (.head _))))), h.sh.fc_, h.sh.rc_⟩, hs.rd (.tail _ (.head _)), by rw [setW_len]; exact hcapx, hs.rd (.head _)⟩) (hs.rd (.tail _ (.tail _ (.tail _ (.tail _ (.tail _ (.tail _ (.tail _ (.head _))))))))) te tz (hs.rd (.tail _ (.tail _ (.tail _ (.tail _ (.tail _ (.tail _ (.tail _ (.tail _ (.head _))))))))))
      rw [tk_set hv hi hord.1 Ao co 0] at h9
      simp only [setW_len] at h9
      refine callL hf hs (h9) rfl rfl rfl E23 (by decide) ?_; clear hs hf a; intro w a hs hf
      refine gL hf (g_mv hf rfl) (by decide) ?_; clear hf a; intro a hf
      refine gL hf (g_ext hf rfl rfl) (by decide) ?_; clear hf a; intro a hf
      refine gL hf (g_ext hf rfl rfl) (by decide) ?_; clear hf a; intro a hf
      refine vL hf (v_alloc hs T40 rfl) (by decide) ?_; clear hs hf a; rintro _ w ⟨b7, rfl, hs⟩ a hf
      refine uL (u_stW hf hs T40 rfl rfl rfl (k := 0) rfl rfl rfl) ?_; clear hs; intro w hs; dsimp only [List.set] at hs
      refine gL hf (g_as hf rfl) (by decide) ?_; clear hf a; intro a hf
      refine e_nil ?_
      refine wp_seq ?_
      refine c_reg ?_
      refine gL hf (g_mv hf rfl) (by decide) ?_; clear hf a; intro a hf
      refine gL hf (g_mv hf rfl) (by decide) ?_; clear hf a; intro a hf
      refine gL hf (g_neq hf rfl rfl) (by decide) ?_; clear hf a; intro a hf
      refine gL hf (g_mv hf rfl) (by decide) ?_; clear hf a; intro a hf
      refine ggL hf rfl rfl (gyes_f _) (fun hg => g_mv hf rfl) (by decide) ?_; clear hf a; intro a hf
      refine ggL hf rfl rfl (gyes_f _) (fun hg => g_mv hf rfl) (by decide) ?_; clear hf a; intro a hf
      refine ggL hf rfl rfl (gyes_f _) (fun hg => g_neq hf (ev_gv rfl hg) (ev_gv rfl hg)) (by decide) ?_; clear hf a; intro a hf
      refine gL hf (g_or hf rfl rfl) (by decide) ?_; clear hf a; intro a hf
      refine gL hf (g_mv hf rfl) (by decide) ?_; clear hf a; intro a hf
      refine ggL hf rfl rfl (gyes_f _) (fun hg => g_mv hf rfl) (by decide) ?_; clear hf a; intro a hf
      refine ggL hf rfl rfl (gyes_f _) (fun hg => g_mv hf rfl) (by decide) ?_; clear hf a; intro a hf
      refine ggL hf rfl rfl (gyes_f _) (fun hg => g_neq hf (ev_gv rfl hg) (ev_gv rfl hg)) (by decide) ?_; clear hf a; intro a hf
      refine gL hf (g_or hf rfl rfl) (by decide) ?_; clear hf a; intro a hf
      refine gL hf (g_mv hf rfl) (by decide) ?_; clear hf a; intro a hf
      refine ggL hf rfl rfl (gyes_f _) (fun hg => g_mv hf rfl) (by decide) ?_; clear hf a; intro a hf
      refine ggL hf rfl rfl (gyes_f _) (fun hg => g_neq hf (ev_gv rfl hg) rfl) (by decide) ?_; clear hf a; intro a hf
      refine ggL hf rfl rfl (gyes_f _) (fun hg => g_mv hf (ev_gv rfl hg)) (by decide) ?_; clear hf a; intro a hf
      refine ggL hf rfl rfl (gyes_gt _ _) (fun hg => g_mv hf rfl) (by decide) ?_; clear hf a; intro a hf
      refine ggL hf rfl rfl (gyes_gt _ _) (fun hg => g_neq hf (ev_gv rfl hg) rfl) (by decide) ?_; clear hf a; intro a hf
      refine ggL hf rfl rfl (gyes_f _) (fun hg => g_and hf (ev_gv rfl hg) (ev_gvand rfl hg)) (by decide) ?_; clear hf a; intro a hf
      refine gL hf (g_or hf rfl rfl) (by decide) ?_; clear hf a; intro a hf
      refine e_nil ?_
      refine c_cond hf rfl (fun hc3 => ?_) (fun hc3 => ?_)
      · skip
        exfalso; revert hc3; simp only [tk_err, right_reO]; by_cases hrt : rightB (k.ws.getD i default) = true <;> simp only [hrt, if_true, if_false] <;> decide
      · skip
        refine c_skip (q_thenN ?_)
        refine c_reg ?_
        refine gL hf (g_mv hf rfl) (by decide) ?_; clear hf a; intro a hf
        refine gL hf (g_neq hf rfl rfl) (by decide) ?_; clear hf a; intro a hf
        refine gL hf (g_mv hf rfl) (by decide) ?_; clear hf a; intro a hf
        refine ggL hf rfl rfl (gyes_f _) (fun hg => g_fa (off' := 0) hf F40_0 rfl rfl) (by decide) ?_; clear hf a; intro a hf
        refine ggL hf rfl rfl (gyes_f _) (fun hg => g_ld hf hs T3 (ev_gv rfl hg) (k := 2) rfl rfl) (by decide) ?_; clear hf a; intro a hf
        refine ggL hf rfl rfl (gyes_f _) (fun hg => g_fa (off' := 0) hf F40_0 rfl rfl) (by decide) ?_; clear hf a; intro a hf
        refine ggL hf rfl rfl (gyes_f _) (fun hg => g_ld hf hs T3 (ev_gv rfl hg) (k := 3) rfl rfl) (by decide) ?_; clear hf a; intro a hf
        refine ggL hf rfl rfl (gyes_f _) (fun hg => g_geq hf (ev_gv rfl hg) (ev_gv rfl hg)) (by decide) ?_; clear hf a; intro a hf
        refine ggL hf rfl rfl (gyes_f _) (fun hg => g_mv hf (ev_gv rfl hg)) (by decide) ?_; clear hf a; intro a hf
        refine ggL hf rfl rfl (gyes_gt _ _) (fun hg => g_fa (off' := 1) hf F40_1 rfl rfl) (by decide) ?_; clear hf a; intro a hf
        refine ggL hf rfl rfl (gyes_gt _ _) (fun hg => g_ld hf hs T3 (ev_gv rfl hg) (k := 2) rfl rfl) (by decide) ?_; clear hf a; intro a hf
        refine ggL hf rfl rfl (gyes_gt _ _) (fun hg => g_fa (off' := 1) hf F40_1 rfl rfl) (by decide) ?_; clear hf a; intro a hf
        refine ggL hf rfl rfl (gyes_gt _ _) (fun hg => g_ld hf hs T3 (ev_gv rfl hg) (k := 3) rfl rfl) (by decide) ?_; clear hf a; intro a hf
        refine ggL hf rfl rfl (gyes_gt _ _) (fun hg => g_geq hf (ev_gv rfl hg) (ev_gv rfl hg)) (by decide) ?_; clear hf a; intro a hf
        refine ggL hf rfl rfl (gyes_f _) (fun hg => g_and hf (ev_gv rfl hg) (ev_gvand rfl hg)) (by decide) ?_; clear hf a; intro a hf
        refine ggL hf rfl rfl (gyes_f _) (fun hg => g_mv hf (ev_gv rfl hg)) (by decide) ?_; clear hf a; intro a hf
        refine ggL hf rfl rfl (gyes_gt _ _) (fun hg => g_fa (off' := 0) hf F40_0 rfl rfl) (by decide) ?_; clear hf a; intro a hf
        refine ggL hf rfl rfl (gyes_gt _ _) (fun hg => g_ld hf hs T3 (ev_gv rfl hg) (k := 0) rfl rfl) (by decide) ?_; clear hf a; intro a hf
        refine ggL hf rfl rfl (gyes_gt _ _) (fun hg => g_fa (off' := 0) hf F40_0 rfl rfl) (by decide) ?_; clear hf a; intro a hf
        refine ggL hf rfl rfl (gyes_gt _ _) (fun hg => g_ld hf hs T3 (ev_gv rfl hg) (k := 1) rfl rfl) (by decide) ?_; clear hf a; intro a hf
        refine ggL hf rfl rfl (gyes_gt _ _) (fun hg => g_geq hf (ev_gv rfl hg) (ev_gv rfl hg)) (by decide) ?_; clear hf a; intro a hf
        refine ggL hf rfl rfl (gyes_f _) (fun hg => g_and hf (ev_gv rfl hg) (ev_gvand rfl hg)) (by decide) ?_; clear hf a; intro a hf
        refine ggL hf rfl rfl (gyes_f _) (fun hg => g_mv hf (ev_gv rfl hg)) (by decide) ?_; clear hf a; intro a hf
        refine ggL hf rfl rfl (gyes_gt _ _) (fun hg => g_fa (off' := 1) hf F40_1 rfl rfl) (by decide) ?_; clear hf a; intro a hf
        refine ggL hf rfl rfl (gyes_gt _ _) (fun hg => g_ld hf hs T3 (ev_gv rfl hg) (k := 0) rfl rfl) (by decide) ?_; clear hf a; intro a hf
        refine ggL hf rfl rfl (gyes_gt _ _) (fun hg => g_fa (off' := 1) hf F40_1 rfl rfl) (by decide) ?_; clear hf a; intro a hf
        refine ggL hf rfl rfl (gyes_gt _ _) (fun hg => g_ld hf hs T3 (ev_gv rfl hg) (k := 1) rfl rfl) (by decide) ?_; clear hf a; intro a hf
        refine ggL hf rfl rfl (gyes_gt _ _) (fun hg => g_geq hf (ev_gv rfl hg) (ev_gv rfl hg)) (by decide) ?_; clear hf a; intro a hf
        refine ggL hf rfl rfl (gyes_f _) (fun hg => g_and hf (ev_gv rfl hg) (ev_gvand rfl hg)) (by decide) ?_; clear hf a; intro a hf
        refine gL hf (g_or hf rfl rfl) (by decide) ?_; clear hf a; intro a hf
        refine gL hf (g_mv hf rfl) (by decide) ?_; clear hf a; intro a hf
        refine callG hf hs rfl rfl (gyes_t _) (fun hg => ⟨_, _, _, _, c_paid ge gz te tz _ (hs.rd (.tail _ (.tail _ (.tail _ (.tail _ (.tail _ (.tail _ (.tail _ (.head _))))))))) (hs.rd (.tail _ (.tail _ (.tail _ (.tail _ (.tail _ (.tail _ (.tail _ (.tail _ (.head _)))))))))), rfl, evs_nil, rfl⟩) E40 (by decide) ?_; clear hs hf a; intro w a hs hf
        refine gL hf (g_and hf rfl rfl) (by decide) ?_; clear hf a; intro a hf
        refine gL hf (g_as hf rfl) (by decide) ?_; clear hf a; intro a hf
        refine e_nil ?_
        refine c_ret ?_
        refine e_ret1 hf rfl rfl ?_
        refine ⟨?_, hs.below⟩
        obtain ⟨⟨g1, g2⟩, g3, g4⟩ := betterH hv hx hd2 Ao co
        clear hf hs
        generalize (k.ws.getD i default) = x at g1 g2 g3 g4 ⊢
        by_cases hrt : rightB x = true
        · simp [tk, right_reO, hrt, g1, g2, g3, g4]
        · simp [tk, right_reO, hrt]

end Go.Proofs.YtjjcopeedcdokaaDoor

set_option linter.unusedVariables false
namespace Go.Proofs.YtjjcopeedcdokaaDoor
open Go.ChangeShapes Go.WideShapes Go.ChangeAt Go.RowKit
set_option maxRecDepth 100000 in
theorem lifted10 (os : Os) (started : os.Started) (H : Type) (enc : TypeId × Value → H) :
    ReturnsInHanded {} Tryd.checked os 10 .any (fun w args => (Rows.homeBetterSpec.pre enc Tryd.prog Tryd.f10 [] false w args ∧ laidMetH Tryd.prog laid1 w) ∧ sizedMet enc Tryd.prog Tryd.f10 (OpenSpec.ofChange Rows.homeBetterSpec) false w args)
      (Rows.homeBetterSpec.post enc Tryd.prog Tryd.f10 false true false false) := by
  refine returnsInHanded_of_change_and (C := Tryd.checked) (X := fun w _ => laidMetH Tryd.prog laid1 w) (fun _ _ _ hh h => h.of_heap hh) pOwn started (by kernel_rfl) Tryd.func10
    (ChangeSpec.witness_shaped (enc := enc) (C := Tryd.checked) (os := os) (X := fun w _ => laidMetH Tryd.prog laid1 w) false (World.doorLaid Tryd.prog 600 os) #[.agg #[.int .i64 0, .int .i64 0, .slice none 0 0, .slice none 0 0, .int .i64 0, .int .i64 0, .int .i64 0, .slice none 0 0], .int .i64 0] 8 rfl (World.shaped_of_RefB (by kernel_rfl) (by kernel_rfl)) (by kernel_rfl) (by kernel_rfl) (by kernel_rfl) (door_met os _)) ?_
  intro W base args ds gs before hval0 hW _ _ hL _
  have hval : ∀ (j : Nat) t v, Tryd.f10.params[j]? = some t → args[j]? = some v → Value.okWide Tryd.prog W .any base t v := hval0
  have hW' := hW
  obtain ⟨p, q, hA0, hV, rfl, hfz, hnd⟩ := hW
  have hA : DataW.TrodAll enc Tryd.prog W 0 (fun _ => true) true Tryd.f10.params.toList args.toList ds p := hA0
  have hA9 := hA
  rw [Tryd.params10] at hA hval
  obtain ⟨v0, v1, d0, d1, p0, p1, rfl, rfl, rfl, h0, h1⟩ := trodAll_two hA
  obtain ⟨rfl, rfl⟩ := trodVars_none hV
  obtain ⟨k, fA, fc, rA, rc, wA, wc, rfl, hbk⟩ := open_book (hval 0 28 v0 rfl rfl) h0
  obtain ⟨i, rfl, rfl, rfl, wi⟩ := open_int Tryd.underlying3 (hval 1 3 v1 rfl rfl) h1
  obtain ⟨ge, gz, hG⟩ := of_laid hL
  obtain ⟨te, tz, hT⟩ := of_told hL
  refine (c_HomeBetter k fA fc rA rc wA wc ge gz i W hbk hG te tz hT).mono fun e W' ⟨he, hb⟩ => ?_
  subst he
  exact ⟨_, rfl, law_post rfl rfl rfl (by kernel_rfl) hW' rfl hA9 hb⟩
theorem row10 : Rows.HomeBetterSaid :=
  OpenClaim.holds_of_wide 10 Tryd.f10 rfl rfl rfl rfl rfl rfl rfl ⟨rfl, rfl, rfl, rfl, rfl⟩ rfl rfl rfl rfl rfl (by kernel_rfl) Tryd.func10 (by kernel_rfl)
    (of_decide_eq_true (by kernel_rfl)) (by unfold Func.isWrapper; first | (rw [if_pos (by decide +kernel)]; kernel_rfl) | (rw [if_neg (by decide +kernel)]; exact ⟨rfl, rfl⟩))
    (fun os started H enc _ => lifted10 os started H enc)
/-- The card. -/
theorem homeBetter_holds : Rows.HomeBetterCardSaid :=
  Claim7.holds_tied_plain_at .later [] [.funcs, .funcs] true (true, "812014c6ba21101d15e02d82012ffa61e4b3f2f84e9c736658d12c12a3cb442a") false
    row10 (fun _ h => by cases h) (by kernel_rfl) (fun _ h => by cases h) homeBetter_row_tie rfl ⟨rfl, rfl⟩ (by kernel_rfl) rfl
    (fun f fn hf hfn => by
      obtain rfl : f = 10 := Option.some.inj ((show Tryd.prog.funcNamed "lucifer/luciferlaw09.HomeBetter" = some 10 by kernel_rfl).symm.trans hf) |>.symm
      obtain rfl : fn = Tryd.f10 := (Option.some.inj (Tryd.func10.symm.trans hfn)).symm
      exact ⟨by kernel_rfl, fun j t ht => by
        rw [Tryd.params10] at ht
        have hm : t ∈ [28, 3] := by simpa using Array.mem_of_getElem? ht
        have hall : ([28, 3].all fun u => !Tryd.prog.wantsStandIn u) = true := by kernel_rfl
        exact (show Tryd.prog.wantsStandIn t = false by simpa using List.all_eq_true.1 hall t hm)⟩)
    (by kernel_rfl)
#print axioms homeBetter_holds
end Go.Proofs.YtjjcopeedcdokaaDoor

