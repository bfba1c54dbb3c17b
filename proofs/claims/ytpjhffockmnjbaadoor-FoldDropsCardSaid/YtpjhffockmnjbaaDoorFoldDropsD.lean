/- Part 4 of the proof of FoldDrops: laws of the engine, plain facts and contracts of the functions that the law reaches. Conditions: none beyond those of each theorem. -/
import Derived.Test.YtpjhffockmnjbaaDoorFoldDropsC
set_option linter.unusedVariables false
set_option linter.unusedSimpArgs false
namespace Go.Proofs.YtpjhffockmnjbaaDoor
open Go.RowKit
theorem c_ring_step (c : RingCtx) (k : Nat) (ih : RingSpec c k) (w0 : World) (r : List Int) (A : Option Addr) (cp : Nat) (o : Best) (hl3 : Later [c.bb] c.w3 w0) (hb0 : w0.heap[c.bb]? = some (.cells #[bV o] 27 (0, 0))) (ho0 : bOK c.bb c.M o w0) (hne : r ≠ []) (hrin : ∀ y ∈ r, inN c.b y) (hfr : freeN c.b r < k + 1) (hrl : r.length + freeN c.b r ≤ c.b.flaps.length) (hr : Rd encI 1 A r.length r w0) (hA : ∀ bk off, A = some ⟨bk, off, none⟩ → bk ≠ c.bb ∧ c.M ≤ bk) (hcp : r.length ≤ cp) :
    Calls Tryd.prog 69 #[.slice A r.length cp, .pointer (some ⟨c.sb, 0, none⟩), .pointer (some ⟨c.bb, 0, none⟩), .pointer (some ⟨c.nb, 0, none⟩)] w0 (RetR (RingR c (k + 1) r o w0)) := by
  refine c_enter (n := 80) Tryd.func69 rfl rfl (Nat.le_of_ble_eq_true rfl) ?_; intro a hf; simp only [zipR] at hf
  have hs := c.at_ (we := w0) hl3 ⟨rfl, rfl, rfl, Later.refl _ _⟩ hb0 ho0 hr hA
  have hmany := c.hv.many; have hlm := hr.2.1; have hr0 := List.length_pos_iff.2 hne
  have hA0 : A = none → r.length = 0 := fun e => by have := hr.isSome hr0; rw [e] at this; cases this
  have hrst : ∀ w2, Later [c.bb] w0 w2 → Rd encI 1 A r.length r w2 := fun w2 h2 => hr.stable (is := [c.bb]) (fun bk off e hm => (hA bk off e).1 (List.mem_singleton.1 hm)) w2 h2
  have hin1 : inN c.b (headI r) := hrin _ (getD_mem (l := r) (i := 0) hr0)
  have hin2 : inN c.b (lastI r) := hrin _ (getD_mem (l := r) (i := r.length - 1) (by omega))
  have hisn := ho0.isNone
  have hl9 : r.getD (((r.length : Nat) : Int) - 1).toNat default = lastI r := by rw [show (((r.length : Nat) : Int) - 1).toNat = r.length - 1 by omega]; rfl
  refine c_reg ?_
  refine gL hf (g_mv hf rfl) (by decide) ?_; clear hf a; intro a hf
  refine gL hf (g_len hf SL27 rfl) (by decide) ?_; clear hf a; intro a hf
  refine gL hf (g_as hf rfl) (by decide) ?_; clear hf a; intro a hf
  refine e_nil ?_
  refine wp_seq ?_
  refine c_draw _ 24 Mx rfl hs (fun _ h => h) ?_; intro w hs hS
  refine gA hf hS (i := 0) rfl (by kernel_rfl) (fun w hs => g_mv hf rfl) (by decide) ?_; clear hf a; intro a hf
  refine gA hf hS (i := 1) rfl (by kernel_rfl) (fun w hs => g_gtr hf rfl rfl) (by decide) ?_; clear hf a; intro a hf
  refine gA hf hS (i := 2) rfl (by kernel_rfl) (fun w hs => g_mv hf rfl) (by decide) ?_; clear hf a; intro a hf
  refine ggA hf hS (i := 3) rfl (by kernel_rfl) rfl rfl (gyes_t _) (fun hg w hs => g_ldBW hf hs (.tail _ (.tail _ (.tail _ (.tail _ (.tail _ (.head _)))))) T69 rfl rfl) (by decide) ?_; clear hf a; intro a hf
  refine ggA hf hS (i := 4) rfl (by kernel_rfl) rfl rfl (gyes_t _) (fun hg w hs => g_mv hf rfl) (by decide) ?_; clear hf a; intro a hf
  (first | (refine ggA hf hS (i := 5) rfl (by kernel_rfl) rfl rfl (gyes_t _) (fun hg w hs => g_ixE hf hs (.head _) SL27 (ev_gv rfl hg) rfl (by omega)) (by decide) ?_) | (refine ggA hf hS (i := 5) rfl (by kernel_rfl) rfl rfl (gyes_t _) (fun hg w hs => g_ixD hf hs (.head _) SL27 (ev_gv rfl hg) rfl (by omega)) (by decide) ?_)); clear hf a; intro a hf
  refine ggA hf hS (i := 6) rfl (by kernel_rfl) rfl rfl (gyes_t _) (fun hg w hs => g_ldE hf hs (.head _) T3 (ev_gv rfl hg) rfl (by omega)) (by decide) ?_; clear hf a; intro a hf
  refine ggA hf hS (i := 7) rfl (by kernel_rfl) rfl rfl (gyes_t _) (fun hg w hs => g_mv hf rfl) (by decide) ?_; clear hf a; intro a hf
  refine ggA hf hS (i := 8) rfl (by kernel_rfl) rfl rfl (gyes_t _) (fun hg w hs => g_mv hf rfl) (by decide) ?_; clear hf a; intro a hf
  refine ggA hf hS (i := 9) rfl (by kernel_rfl) rfl rfl (gyes_t _) (fun hg w hs => g_subI hf (ev_gv rfl hg) rfl (by omega)) (by decide) ?_; clear hf a; intro a hf
  (first | (refine ggA hf hS (i := 10) rfl (by kernel_rfl) rfl rfl (gyes_t _) (fun hg w hs => g_ixE hf hs (.head _) SL27 (ev_gv rfl hg) (ev_gv rfl hg) (by omega)) (by decide) ?_) | (refine ggA hf hS (i := 10) rfl (by kernel_rfl) rfl rfl (gyes_t _) (fun hg w hs => g_ixD hf hs (.head _) SL27 (ev_gv rfl hg) (ev_gv rfl hg) (by omega)) (by decide) ?_)); clear hf a; intro a hf
  refine ggA hf hS (i := 11) rfl (by kernel_rfl) rfl rfl (gyes_t _) (fun hg w hs => g_ldE hf hs (.head _) T3 (ev_gv rfl hg) rfl (by omega)) (by decide) ?_; clear hf a; intro a hf
  refine one (i := 12) (by kernel_rfl) ?_
  refine oCallG hf hs rfl rfl rfl (gyes_t _) (fun hg => ⟨_, _, _, _, c_overT c.b _ _ _ _ _ c.mp _ _ _ ⟨hs.rd (.tail _ (.tail _ (.head _))), hs.rd (.tail _ (.tail _ (.tail _ (.head _)))), c.hfc, c.hrc⟩ (hs.rd (.tail _ (.tail _ (.tail _ (.tail _ (.head _)))))), rfl, evs_cons (ev_gv rfl hg) (evs_cons (ev_gv rfl hg) (evs_cons (ev_gv rfl hg) evs_nil)), rfl⟩) E70 (by decide) (fun _ h => h.sub (.refl _)) ?_; clear hs hf hS a; intro w a hs hS hf
  rw [hl9] at hf
  rw [show r.getD 0 default = headI r from rfl] at hf
  rw [overT_eq c.hm hin1 hin2] at hf
  refine gA hf hS (i := 13) rfl (by kernel_rfl) (fun w hs => g_and hf rfl rfl) (by decide) ?_; clear hf a; intro a hf
  refine gA hf hS (i := 14) rfl (by kernel_rfl) (fun w hs => g_mv hf rfl) (by decide) ?_; clear hf a; intro a hf
  refine ggA hf hS (i := 15) rfl (by kernel_rfl) rfl rfl (gyes_t _) (fun hg w hs => g_ld hf hs T27 rfl (k := 0) rfl rfl) (by decide) ?_; clear hf a; intro a hf
  refine ggA hf hS (i := 16) rfl (by kernel_rfl) rfl rfl (gyes_t _) (fun hg w hs => g_eqNil hf SE27 (ev_gv rfl hg) rfl) (by decide) ?_; clear hf a; intro a hf
  refine ggA hf hS (i := 17) rfl (by kernel_rfl) rfl rfl (gyes_t _) (fun hg w hs => g_mv hf (ev_gv rfl hg)) (by decide) ?_; clear hf a; intro a hf
  refine ggA hf hS (i := 18) rfl (by kernel_rfl) rfl rfl (gyes_gf _ _) (fun hg w hs => g_mv hf rfl) (by decide) ?_; clear hf a; intro a hf
  refine ggA hf hS (i := 19) rfl (by kernel_rfl) rfl rfl (gyes_gf _ _) (fun hg w hs => g_ld hf hs T27 rfl (k := 0) rfl rfl) (by decide) ?_; clear hf a; intro a hf
  refine ggA hf hS (i := 20) rfl (by kernel_rfl) rfl rfl (gyes_gf _ _) (fun hg w hs => g_len hf SL27 (ev_gv rfl hg)) (by decide) ?_; clear hf a; intro a hf
  refine ggA hf hS (i := 21) rfl (by kernel_rfl) rfl rfl (gyes_gf _ _) (fun hg w hs => g_lss hf (ev_gv rfl hg) (ev_gv rfl hg)) (by decide) ?_; clear hf a; intro a hf
  refine ggA hf hS (i := 22) rfl (by kernel_rfl) rfl rfl (gyes_t _) (fun hg w hs => g_or hf (ev_gv rfl hg) (ev_gvand rfl hg)) (by decide) ?_; clear hf a; intro a hf
  refine gA hf hS (i := 23) rfl (by kernel_rfl) (fun w hs => g_and hf rfl rfl) (by decide) ?_; clear hf a; intro a hf
  refine e_done (by kernel_rfl) ?_
  refine c_cond hf rfl (fun hc1 => ?_) (fun hc1 => ?_)
  · skip
    refine c_reg1 ?_
    refine gL hf (g_mv hf rfl) (by decide) ?_; clear hf a; intro a hf
    refine gL hf (g_mv hf rfl) (by decide) ?_; clear hf a; intro a hf
    refine gL hf (g_mv hf rfl) (by decide) ?_; clear hf a; intro a hf
    refine gL hf (g_slHM hf SL27 rfl rfl rfl (by omega) (by omega)) (by decide) ?_; clear hf a; intro a hf
    refine uL (u_st hf hs T27 rfl rfl rfl (k := 0) rfl (Nat.le_of_ble_eq_true rfl)) ?_; clear hs; intro w hs; dsimp only [List.set] at hs
    refine e_nil1 (q_thenN ?_)
    refine wp_seq ?_
    have hbo9 : bOK c.bb c.M (some (A, r)) w := fun A1 l1 e => by cases e; exact ⟨hs.rd (.head _), hne, hA⟩
    have hoo := hs.rd (.tail _ (.head _))
    obtain ⟨o1, hs, hbl, ho1⟩ : ∃ o1, St (Base.rnd w0 [c.bb] [] noE) (Rd encI 1 A r.length r :: bOK c.bb c.M o1 :: c.Ds) [(c.bb, .cells #[bV o1] 27 (0, 0))] w ∧ bL o1 = ring1 c.b r (bL o) ∧ bOK c.bb c.M o1 w := by
      rw [ringLt_eq ho0] at hc1
      first
      | exact ⟨some (A, r), c.at_ (we := w0) (hl3.trans hs.below.2.2.2) hs.below (hs.own _ _ (.head _)).2 hbo9 (hs.rd (.head _)) hA, by rw [ring1, if_pos hc1]; rfl, hbo9⟩
      | exact ⟨o, hs, by rw [ring1, if_neg (by rw [hc1]; decide)], hoo⟩
    refine c_reg ?_
    refine gL hf (g_ld hf hs T27 rfl (k := 0) rfl rfl) (by decide) ?_; clear hf a; intro a hf
    refine gL hf (g_neNil hf SE27 rfl rfl) (by decide) ?_; clear hf a; intro a hf
    refine gL hf (g_mv hf rfl) (by decide) ?_; clear hf a; intro a hf
    refine ggL hf rfl rfl (gyes_t _) (fun hg => g_mv hf rfl) (by decide) ?_; clear hf a; intro a hf
    refine ggL hf rfl rfl (gyes_t _) (fun hg => g_ld hf hs T27 rfl (k := 0) rfl rfl) (by decide) ?_; clear hf a; intro a hf
    refine ggL hf rfl rfl (gyes_t _) (fun hg => g_len hf SL27 (ev_gv rfl hg)) (by decide) ?_; clear hf a; intro a hf
    refine ggL hf rfl rfl (gyes_t _) (fun hg => g_geq hf (ev_gv rfl hg) (ev_gv rfl hg)) (by decide) ?_; clear hf a; intro a hf
    refine gL hf (g_and hf rfl rfl) (by decide) ?_; clear hf a; intro a hf
    refine e_nil ?_
    refine c_cond hf rfl (fun hc2 => ?_) (fun hc2 => ?_)
    · skip
      have hcut : ringCut (bL o1) r = true := by rw [← ringCut_eq ho1]; exact hc2
      refine c_ret (q_thenR ?_)
      refine e_ret0 hf rfl ?_
      exact ⟨_, rfl, rfl, o1, by rw [hbl, ringF, if_pos (by rw [← hbl]; exact hcut)], ho1, (hs.own _ _ (.head _)).2, hs.below⟩
    · skip
      have hcut : ¬ ringCut (bL o1) r = true := by rw [← ringCut_eq ho1, hc2]; decide
      have hhd : r.getD 0 default = headI r := rfl; have hh1 := hin1.1; have hh2 := hin1.2
      have hJ00 : (headI r).toNat + 1 ≤ ((headI r).toNat + 1, o1).1 ∧ ((headI r).toNat + 1, o1).1 ≤ c.b.flaps.length ∧ bL ((headI r).toNat + 1, o1).2 = (List.range ((headI r).toNat + 1, o1).1).foldl (ringStep c.b r (ringF c.b k)) (bL o1) := ⟨Nat.le_refl _, by dsimp only; omega, (range_fold_skip _ (by dsimp only; omega)).symm⟩
      refine c_skip (q_thenN ?_)
      refine c_reg ?_
      refine gL hf (g_mv hf rfl) (by decide) ?_; clear hf a; intro a hf
      (first | (refine gL hf (g_ixE hf hs (.head _) SL27 rfl rfl (by omega)) (by decide) ?_) | (refine gL hf (g_ixD hf hs (.head _) SL27 rfl rfl (by omega)) (by decide) ?_)); clear hf a; intro a hf
      refine gL hf (g_ldE hf hs (.head _) T3 rfl rfl (by omega)) (by decide) ?_; clear hf a; intro a hf
      refine gL hf (g_addI hf rfl rfl (by rw [hhd]; omega)) (by decide) ?_; clear hf a; intro a hf
      refine gL hf (g_as hf rfl) (by decide) ?_; clear hf a; intro a hf
      refine e_nil ?_
      refine c_block ?_
      rw [show r.getD 0 default + 1 = (((headI r).toNat + 1 : Nat) : Int) by rw [hhd]; omega] at hf
      refine c_loopD (fun s => Base.rnd w0 [c.bb] [] noE) (fun s => (Rd encI 1 A r.length r :: bOK c.bb c.M s.2 :: c.Ds)) hf (List.range' 6 1 ++ List.range' 49 31) (σ := (Nat × Best)) (fun s => [(6, .int .i64 (s.1 : Nat))]) (fun s => [(c.bb, .cells #[bV s.2] 27 (0, 0))]) (fun s => (headI r).toNat + 1 ≤ s.1 ∧ s.1 ≤ c.b.flaps.length ∧ bL s.2 = (List.range s.1).foldl (ringStep c.b r (ringF c.b k)) (bL o1)) (fun s => c.b.flaps.length - s.1) ((headI r).toNat + 1, o1) hs hJ00 (.cons rfl .nil) ?_
      intro ⟨i, o2⟩ a w hJ hf hs
      dsimp only at hJ hf hs
      obtain ⟨hi0, hi1, hbo⟩ := hJ
      refine wp_seq ?_
      refine c_reg ?_
      refine gL hf (g_mv hf rfl) (by decide) ?_; clear hf a; intro a hf
      refine gL hf (g_fa (off' := 0) hf F69_0 rfl rfl) (by decide) ?_; clear hf a; intro a hf
      refine gL hf (g_fa (off' := 2) hf F25_2 rfl rfl) (by decide) ?_; clear hf a; intro a hf
      refine gL hf (g_ldB hf hs (.tail _ (.tail _ (.tail _ (.tail _ (.tail _ (.head _)))))) T22 rfl rfl) (by decide) ?_; clear hf a; intro a hf
      refine gL hf (g_len hf SL22 rfl) (by decide) ?_; clear hf a; intro a hf
      refine gL hf (g_lss hf rfl rfl) (by decide) ?_; clear hf a; intro a hf
      refine e_nil ?_
      refine c_cond hf rfl (fun hc3 => ?_) (fun hc3 => ?_)
      · try simp only [decide_eq_true_eq, decide_eq_false_iff_not] at hc3
        have hii : inN c.b ((i : Nat) : Int) := ⟨by omega, by omega⟩
        refine c_skip (q_thenN ?_)
        refine c_blockS ?_
        refine c_draw _ 14 Mx rfl hs (fun _ h => h) ?_; intro w hs hS
        refine gA hf hS (i := 0) rfl (by kernel_rfl) (fun w hs => g_mv hf rfl) (by decide) ?_; clear hf a; intro a hf
        refine gA hf hS (i := 1) rfl (by kernel_rfl) (fun w hs => g_mv hf rfl) (by decide) ?_; clear hf a; intro a hf
        refine one (i := 2) (by kernel_rfl) ?_
        refine oCall hf hs rfl (c_Contains _ _ _ r _ _ (hs.rd (.head _))) rfl rfl rfl E71 (by decide) (fun _ h => h.sub (.refl _)) ?_; clear hs hf hS a; intro w a hs hS hf
        refine gA hf hS (i := 3) rfl (by kernel_rfl) (fun w hs => g_not hf rfl) (by decide) ?_; clear hf a; intro a hf
        refine gA hf hS (i := 4) rfl (by kernel_rfl) (fun w hs => g_mv hf rfl) (by decide) ?_; clear hf a; intro a hf
        refine ggA hf hS (i := 5) rfl (by kernel_rfl) rfl rfl (gyes_t _) (fun hg w hs => g_ldBW hf hs (.tail _ (.tail _ (.tail _ (.tail _ (.tail _ (.head _)))))) T69 rfl rfl) (by decide) ?_; clear hf a; intro a hf
        refine ggA hf hS (i := 6) rfl (by kernel_rfl) rfl rfl (gyes_t _) (fun hg w hs => g_mv hf rfl) (by decide) ?_; clear hf a; intro a hf
        refine ggA hf hS (i := 7) rfl (by kernel_rfl) rfl rfl (gyes_t _) (fun hg w hs => g_mv hf rfl) (by decide) ?_; clear hf a; intro a hf
        refine ggA hf hS (i := 8) rfl (by kernel_rfl) rfl rfl (gyes_t _) (fun hg w hs => g_mv hf rfl) (by decide) ?_; clear hf a; intro a hf
        refine ggA hf hS (i := 9) rfl (by kernel_rfl) rfl rfl (gyes_t _) (fun hg w hs => g_subI hf (ev_gv rfl hg) rfl (by omega)) (by decide) ?_; clear hf a; intro a hf
        (first | (refine ggA hf hS (i := 10) rfl (by kernel_rfl) rfl rfl (gyes_t _) (fun hg w hs => g_ixE hf hs (.head _) SL27 (ev_gv rfl hg) (ev_gv rfl hg) (by omega)) (by decide) ?_) | (refine ggA hf hS (i := 10) rfl (by kernel_rfl) rfl rfl (gyes_t _) (fun hg w hs => g_ixD hf hs (.head _) SL27 (ev_gv rfl hg) (ev_gv rfl hg) (by omega)) (by decide) ?_)); clear hf a; intro a hf
        refine ggA hf hS (i := 11) rfl (by kernel_rfl) rfl rfl (gyes_t _) (fun hg w hs => g_ldE hf hs (.head _) T3 (ev_gv rfl hg) rfl (by omega)) (by decide) ?_; clear hf a; intro a hf
        refine one (i := 12) (by kernel_rfl) ?_
        refine oCallG hf hs rfl rfl rfl (gyes_t _) (fun hg => ⟨_, _, _, _, c_overT c.b _ _ _ _ _ c.mp ((i : Nat) : Int) _ _ ⟨hs.rd (.tail _ (.tail _ (.head _))), hs.rd (.tail _ (.tail _ (.tail _ (.head _)))), c.hfc, c.hrc⟩ (hs.rd (.tail _ (.tail _ (.tail _ (.tail _ (.head _)))))), rfl, evs_cons (ev_gv rfl hg) (evs_cons (ev_gv rfl hg) (evs_cons (ev_gv rfl hg) evs_nil)), rfl⟩) E70 (by decide) (fun _ h => h.sub (.refl _)) ?_; clear hs hf hS a; intro w a hs hS hf
        rw [hl9, overT_eq c.hm hii hin2] at hf
        refine gA hf hS (i := 13) rfl (by kernel_rfl) (fun w hs => g_and hf rfl rfl) (by decide) ?_; clear hf a; intro a hf
        refine e_done (by kernel_rfl) ?_
        refine c_cond hf rfl (fun hc4 => ?_) (fun hc4 => ?_)
        · skip
          have hany : (r.any fun x => ((i : Nat) : Int) == x) = decide (((i : Nat) : Int) ∈ r) := by rw [Bool.eq_iff_iff, List.any_eq_true]; simp
          rw [hany] at hc4
          have hnot : ((i : Nat) : Int) ∉ r := by intro hm; rw [decide_eq_true hm] at hc4; simp at hc4
          have hfl9 := freeN_lt (b := c.b) (r := r) (i := i) (by omega) hnot
          have hcnd : (decide (headI r < ((i : Nat) : Int)) && (!decide (((i : Nat) : Int) ∈ r) && overP c.b ((i : Nat) : Int) (lastI r))) = true := by rw [hc4, decide_eq_true (by omega)]; rfl
          refine c_draw1 (fun w => ∃ B o9, St B (Rd encI 1 A r.length r :: bOK c.bb c.M o9 :: c.Ds) [(c.bb, .cells #[bV o9] 27 (0, 0))] w) 9 Mx rfl hs (fun _ h => ⟨_, _, h⟩) ?_; intro w hs hS
          refine gA hf hS (i := 0) rfl (by kernel_rfl) (fun w ⟨_, _, hs⟩ => g_ldB hf hs (.tail _ (.tail _ (.tail _ (.tail _ (.tail _ (.tail _ (.head _))))))) T84 rfl rfl) (by decide) ?_; clear hf a; intro a hf
          refine gA hf hS (i := 1) rfl (by kernel_rfl) (fun w ⟨_, _, hs⟩ => g_mv hf rfl) (by decide) ?_; clear hf a; intro a hf
          refine gA hf hS (i := 2) rfl (by kernel_rfl) (fun w ⟨_, _, hs⟩ => g_mv hf rfl) (by decide) ?_; clear hf a; intro a hf
          refine gA hf hS (i := 3) rfl (by kernel_rfl) (fun w ⟨_, _, hs⟩ => g_mv hf rfl) (by decide) ?_; clear hf a; intro a hf
          refine gA hf hS (i := 4) rfl (by kernel_rfl) (fun w ⟨_, _, hs⟩ => g_slHM hf SL27 rfl rfl rfl (by omega) (by omega)) (by decide) ?_; clear hf a; intro a hf
          refine gA hf hS (i := 5) rfl (by kernel_rfl) (fun w ⟨_, _, hs⟩ => g_mv hf rfl) (by decide) ?_; clear hf a; intro a hf
          refine one (i := 6) (by kernel_rfl) ?_
          refine oV hf rfl (v_lits (len := 1) hf hs SL27 T3 (.cons rfl .nil) rfl rfl rfl rfl (by decide) rfl) (by decide) (fun _ _ ⟨_, _, h⟩ => ⟨_, _, h.sub (.cons _ (.refl _))⟩) ?_; clear hs hf hS a; rintro _ w ⟨b1, rfl, hs⟩ hS a hf
          refine one (i := 7) (by kernel_rfl) ?_
          refine oV hf rfl (v_app hf hs AP27 (fun _ => rfl) (by decide) rfl rfl (l := r) (by simpa using hs.rd (.head _)) (rd_one (enc := encI) (x := ((i : Nat) : Int)) rfl (hs.own _ _ (.head _)).2) (by omega) (Nat.le_refl _) (fun e => by have h9 := hA0 e; omega) (by omega) (by decide)) (by decide) (fun _ _ ⟨_, _, _, _, h⟩ => ⟨_, _, h.sub (.cons _ (.cons _ (.refl _)))⟩) ?_; clear hs hf hS a; rintro _ w ⟨b2, cs4, rfl, hok, hs⟩ hS a hf
          rw [show ((r.length : Nat) : Int).toNat + 1 = (r ++ [((i : Nat) : Int)]).length by simp] at hf
          refine one (i := 8) (by kernel_rfl) ?_
          have hnew := hs.own _ _ (.head _)
          have hnbb : b2 ≠ c.bb := fun e => by have hn := hs.nodup; rw [e] at hn; simp [ids] at hn
          refine oCallB hf rfl (ih w (r ++ [((i : Nat) : Int)]) (some ⟨b2, 0, none⟩) _ o2 (hl3.trans hs.below.2.2.2) (hs.own _ _ (.tail _ (.tail _ (.head _)))).2 (hs.rd (.tail _ (.head _))) (by simp) (fun y hy => by rcases List.mem_append.1 hy with hy | hy; exact hrin y hy; rw [List.mem_singleton.1 hy]; exact hii) (by omega) (by rw [List.length_append]; simp only [List.length_cons, List.length_nil]; omega) (hok.rdb (sz := 1) (fun _ => rfl) (by decide) (hs.own _ _ (.head _)).2) (fun bk off e => by cases e; exact ⟨hnbb, Nat.le_trans c.hMl (Nat.le_trans hl3.1 (hnew.1.resolve_left (by simpa using hnbb)))⟩) (hok.cap (sz := 1) (by decide))) rfl rfl rfl E69 (by decide)
            (fun v w2 hR2 => by obtain ⟨rfl, o3, hb3, ho3, hh3, g1, g2, g3, g4⟩ := hR2; exact ⟨_, o3, c.at_ (we := w0) (o := o3) (r := r) (A := A) ((hl3.trans hs.below.2.2.2).trans g4) ⟨g1.trans hs.below.1, g2.trans hs.below.2.1, g3.trans hs.below.2.2.1, hs.below.2.2.2.trans g4⟩ hh3 ho3 (hrst w2 (hs.below.2.2.2.trans g4)) hA⟩) ?_; clear hf hS a; intro v w2 a hR2 hS hf; obtain ⟨rfl, o3, hb3, ho3, hh3, g1, g2, g3, g4⟩ := hR2
          replace hs := c.at_ (we := w0) (o := o3) (r := r) (A := A) ((hl3.trans hs.below.2.2.2).trans g4) ⟨g1.trans hs.below.1, g2.trans hs.below.2.1, g3.trans hs.below.2.2.1, hs.below.2.2.2.trans g4⟩ hh3 ho3 (hrst w2 (hs.below.2.2.2.trans g4)) hA
          refine e_done1 (by kernel_rfl) ?_
          refine q_blkN (q_thenN ?_)
          refine c_reg1 ?_
          refine gL hf (g_mv hf rfl) (by decide) ?_; clear hf a; intro a hf
          refine gL hf (g_addI hf rfl rfl (by omega)) (by decide) ?_; clear hf a; intro a hf
          refine gL hf (g_as hf rfl) (by decide) ?_; clear hf a; intro a hf
          refine e_nil1 (q_thenN ?_)
          first | exact ⟨(i + 1, o2), (by dsimp only; exact ⟨by omega, by omega, hstep⟩), (by dsimp only; omega), hf.back (by repeat (first | (with_reducible exact Ext.base) | ((with_reducible refine Ext.cons ?_ ?_); (· rfl)) | ((with_reducible refine Ext.over ?_ ?_ ?_); (· rfl); (· rfl)))) (allKeys rfl) (.cons rfl .nil), hs.dropN 0⟩ | exact ⟨(i + 1, o3), (by dsimp only; exact ⟨by omega, by omega, by rw [range_fold_succ, ← hbo, ringStep, if_pos hcnd]; exact hb3⟩), (by dsimp only; omega), hf.back (by repeat (first | (with_reducible exact Ext.base) | ((with_reducible refine Ext.cons ?_ ?_); (· rfl)) | ((with_reducible refine Ext.over ?_ ?_ ?_); (· rfl); (· rfl)))) (allKeys rfl) (.cons rfl .nil), hs.dropN 0⟩
        · skip
          have hany : (r.any fun x => ((i : Nat) : Int) == x) = decide (((i : Nat) : Int) ∈ r) := by rw [Bool.eq_iff_iff, List.any_eq_true]; simp
          rw [hany] at hc4
          have hstep : bL o2 = (List.range (i + 1)).foldl (ringStep c.b r (ringF c.b k)) (bL o1) := by rw [range_fold_succ, ← hbo, ringStep, hc4]; simp
          refine c_skip (q_blkN (q_thenN ?_))
          refine c_reg1 ?_
          refine gL hf (g_mv hf rfl) (by decide) ?_; clear hf a; intro a hf
          refine gL hf (g_addI hf rfl rfl (by omega)) (by decide) ?_; clear hf a; intro a hf
          refine gL hf (g_as hf rfl) (by decide) ?_; clear hf a; intro a hf
          refine e_nil1 (q_thenN ?_)
          first | exact ⟨(i + 1, o2), (by dsimp only; exact ⟨by omega, by omega, hstep⟩), (by dsimp only; omega), hf.back (by repeat (first | (with_reducible exact Ext.base) | ((with_reducible refine Ext.cons ?_ ?_); (· rfl)) | ((with_reducible refine Ext.over ?_ ?_ ?_); (· rfl); (· rfl)))) (allKeys rfl) (.cons rfl .nil), hs.dropN 0⟩ | exact ⟨(i + 1, o3), (by dsimp only; exact ⟨by omega, by omega, by rw [range_fold_succ, ← hbo, ringStep, if_pos hcnd]; exact hb3⟩), (by dsimp only; omega), hf.back (by repeat (first | (with_reducible exact Ext.base) | ((with_reducible refine Ext.cons ?_ ?_); (· rfl)) | ((with_reducible refine Ext.over ?_ ?_ ?_); (· rfl); (· rfl)))) (allKeys rfl) (.cons rfl .nil), hs.dropN 0⟩
      · try simp only [decide_eq_true_eq, decide_eq_false_iff_not] at hc3
        obtain rfl : i = c.b.flaps.length := by omega
        refine c_exit (q_thenX (q_thenX (q_blkX ?_)))
        refine e_end0 hf rfl ?_
        exact ⟨_, rfl, rfl, o2, by rw [ringF, ← hbl, if_neg hcut]; exact hbo, hs.rd (.tail _ (.head _)), (hs.own _ _ (.head _)).2, hs.below⟩
  · skip
    refine c_skip (q_thenN ?_)
    refine wp_seq ?_
    have hbo9 : bOK c.bb c.M (some (A, r)) w := fun A1 l1 e => by cases e; exact ⟨hs.rd (.head _), hne, hA⟩
    have hoo := hs.rd (.tail _ (.head _))
    obtain ⟨o1, hs, hbl, ho1⟩ : ∃ o1, St (Base.rnd w0 [c.bb] [] noE) (Rd encI 1 A r.length r :: bOK c.bb c.M o1 :: c.Ds) [(c.bb, .cells #[bV o1] 27 (0, 0))] w ∧ bL o1 = ring1 c.b r (bL o) ∧ bOK c.bb c.M o1 w := by
      rw [ringLt_eq ho0] at hc1
      first
      | exact ⟨some (A, r), c.at_ (we := w0) (hl3.trans hs.below.2.2.2) hs.below (hs.own _ _ (.head _)).2 hbo9 (hs.rd (.head _)) hA, by rw [ring1, if_pos hc1]; rfl, hbo9⟩
      | exact ⟨o, hs, by rw [ring1, if_neg (by rw [hc1]; decide)], hoo⟩
    refine c_reg ?_
    refine gL hf (g_ld hf hs T27 rfl (k := 0) rfl rfl) (by decide) ?_; clear hf a; intro a hf
    refine gL hf (g_neNil hf SE27 rfl rfl) (by decide) ?_; clear hf a; intro a hf
    refine gL hf (g_mv hf rfl) (by decide) ?_; clear hf a; intro a hf
    refine ggL hf rfl rfl (gyes_t _) (fun hg => g_mv hf rfl) (by decide) ?_; clear hf a; intro a hf
    refine ggL hf rfl rfl (gyes_t _) (fun hg => g_ld hf hs T27 rfl (k := 0) rfl rfl) (by decide) ?_; clear hf a; intro a hf
    refine ggL hf rfl rfl (gyes_t _) (fun hg => g_len hf SL27 (ev_gv rfl hg)) (by decide) ?_; clear hf a; intro a hf
    refine ggL hf rfl rfl (gyes_t _) (fun hg => g_geq hf (ev_gv rfl hg) (ev_gv rfl hg)) (by decide) ?_; clear hf a; intro a hf
    refine gL hf (g_and hf rfl rfl) (by decide) ?_; clear hf a; intro a hf
    refine e_nil ?_
    refine c_cond hf rfl (fun hc2 => ?_) (fun hc2 => ?_)
    · skip
      have hcut : ringCut (bL o1) r = true := by rw [← ringCut_eq ho1]; exact hc2
      refine c_ret (q_thenR ?_)
      refine e_ret0 hf rfl ?_
      exact ⟨_, rfl, rfl, o1, by rw [hbl, ringF, if_pos (by rw [← hbl]; exact hcut)], ho1, (hs.own _ _ (.head _)).2, hs.below⟩
    · skip
      have hcut : ¬ ringCut (bL o1) r = true := by rw [← ringCut_eq ho1, hc2]; decide
      have hhd : r.getD 0 default = headI r := rfl; have hh1 := hin1.1; have hh2 := hin1.2
      have hJ00 : (headI r).toNat + 1 ≤ ((headI r).toNat + 1, o1).1 ∧ ((headI r).toNat + 1, o1).1 ≤ c.b.flaps.length ∧ bL ((headI r).toNat + 1, o1).2 = (List.range ((headI r).toNat + 1, o1).1).foldl (ringStep c.b r (ringF c.b k)) (bL o1) := ⟨Nat.le_refl _, by dsimp only; omega, (range_fold_skip _ (by dsimp only; omega)).symm⟩
      refine c_skip (q_thenN ?_)
      refine c_reg ?_
      refine gL hf (g_mv hf rfl) (by decide) ?_; clear hf a; intro a hf
      (first | (refine gL hf (g_ixE hf hs (.head _) SL27 rfl rfl (by omega)) (by decide) ?_) | (refine gL hf (g_ixD hf hs (.head _) SL27 rfl rfl (by omega)) (by decide) ?_)); clear hf a; intro a hf
      refine gL hf (g_ldE hf hs (.head _) T3 rfl rfl (by omega)) (by decide) ?_; clear hf a; intro a hf
      refine gL hf (g_addI hf rfl rfl (by rw [hhd]; omega)) (by decide) ?_; clear hf a; intro a hf
      refine gL hf (g_as hf rfl) (by decide) ?_; clear hf a; intro a hf
      refine e_nil ?_
      refine c_block ?_
      rw [show r.getD 0 default + 1 = (((headI r).toNat + 1 : Nat) : Int) by rw [hhd]; omega] at hf
      refine c_loopD (fun s => Base.rnd w0 [c.bb] [] noE) (fun s => (Rd encI 1 A r.length r :: bOK c.bb c.M s.2 :: c.Ds)) hf (List.range' 6 1 ++ List.range' 49 31) (σ := (Nat × Best)) (fun s => [(6, .int .i64 (s.1 : Nat))]) (fun s => [(c.bb, .cells #[bV s.2] 27 (0, 0))]) (fun s => (headI r).toNat + 1 ≤ s.1 ∧ s.1 ≤ c.b.flaps.length ∧ bL s.2 = (List.range s.1).foldl (ringStep c.b r (ringF c.b k)) (bL o1)) (fun s => c.b.flaps.length - s.1) ((headI r).toNat + 1, o1) hs hJ00 (.cons rfl .nil) ?_
      intro ⟨i, o2⟩ a w hJ hf hs
      dsimp only at hJ hf hs
      obtain ⟨hi0, hi1, hbo⟩ := hJ
      refine wp_seq ?_
      refine c_reg ?_
      refine gL hf (g_mv hf rfl) (by decide) ?_; clear hf a; intro a hf
      refine gL hf (g_fa (off' := 0) hf F69_0 rfl rfl) (by decide) ?_; clear hf a; intro a hf
      refine gL hf (g_fa (off' := 2) hf F25_2 rfl rfl) (by decide) ?_; clear hf a; intro a hf
      refine gL hf (g_ldB hf hs (.tail _ (.tail _ (.tail _ (.tail _ (.tail _ (.head _)))))) T22 rfl rfl) (by decide) ?_; clear hf a; intro a hf
      refine gL hf (g_len hf SL22 rfl) (by decide) ?_; clear hf a; intro a hf
      refine gL hf (g_lss hf rfl rfl) (by decide) ?_; clear hf a; intro a hf
      refine e_nil ?_
      refine c_cond hf rfl (fun hc3 => ?_) (fun hc3 => ?_)
      · try simp only [decide_eq_true_eq, decide_eq_false_iff_not] at hc3
        have hii : inN c.b ((i : Nat) : Int) := ⟨by omega, by omega⟩
        refine c_skip (q_thenN ?_)
        refine c_blockS ?_
        refine c_draw _ 14 Mx rfl hs (fun _ h => h) ?_; intro w hs hS
        refine gA hf hS (i := 0) rfl (by kernel_rfl) (fun w hs => g_mv hf rfl) (by decide) ?_; clear hf a; intro a hf
        refine gA hf hS (i := 1) rfl (by kernel_rfl) (fun w hs => g_mv hf rfl) (by decide) ?_; clear hf a; intro a hf
        refine one (i := 2) (by kernel_rfl) ?_
        refine oCall hf hs rfl (c_Contains _ _ _ r _ _ (hs.rd (.head _))) rfl rfl rfl E71 (by decide) (fun _ h => h.sub (.refl _)) ?_; clear hs hf hS a; intro w a hs hS hf
        refine gA hf hS (i := 3) rfl (by kernel_rfl) (fun w hs => g_not hf rfl) (by decide) ?_; clear hf a; intro a hf
        refine gA hf hS (i := 4) rfl (by kernel_rfl) (fun w hs => g_mv hf rfl) (by decide) ?_; clear hf a; intro a hf
        refine ggA hf hS (i := 5) rfl (by kernel_rfl) rfl rfl (gyes_t _) (fun hg w hs => g_ldBW hf hs (.tail _ (.tail _ (.tail _ (.tail _ (.tail _ (.head _)))))) T69 rfl rfl) (by decide) ?_; clear hf a; intro a hf
        refine ggA hf hS (i := 6) rfl (by kernel_rfl) rfl rfl (gyes_t _) (fun hg w hs => g_mv hf rfl) (by decide) ?_; clear hf a; intro a hf
        refine ggA hf hS (i := 7) rfl (by kernel_rfl) rfl rfl (gyes_t _) (fun hg w hs => g_mv hf rfl) (by decide) ?_; clear hf a; intro a hf
        refine ggA hf hS (i := 8) rfl (by kernel_rfl) rfl rfl (gyes_t _) (fun hg w hs => g_mv hf rfl) (by decide) ?_; clear hf a; intro a hf
        refine ggA hf hS (i := 9) rfl (by kernel_rfl) rfl rfl (gyes_t _) (fun hg w hs => g_subI hf (ev_gv rfl hg) rfl (by omega)) (by decide) ?_; clear hf a; intro a hf
        (first | (refine ggA hf hS (i := 10) rfl (by kernel_rfl) rfl rfl (gyes_t _) (fun hg w hs => g_ixE hf hs (.head _) SL27 (ev_gv rfl hg) (ev_gv rfl hg) (by omega)) (by decide) ?_) | (refine ggA hf hS (i := 10) rfl (by kernel_rfl) rfl rfl (gyes_t _) (fun hg w hs => g_ixD hf hs (.head _) SL27 (ev_gv rfl hg) (ev_gv rfl hg) (by omega)) (by decide) ?_)); clear hf a; intro a hf
        refine ggA hf hS (i := 11) rfl (by kernel_rfl) rfl rfl (gyes_t _) (fun hg w hs => g_ldE hf hs (.head _) T3 (ev_gv rfl hg) rfl (by omega)) (by decide) ?_; clear hf a; intro a hf
        refine one (i := 12) (by kernel_rfl) ?_
        refine oCallG hf hs rfl rfl rfl (gyes_t _) (fun hg => ⟨_, _, _, _, c_overT c.b _ _ _ _ _ c.mp ((i : Nat) : Int) _ _ ⟨hs.rd (.tail _ (.tail _ (.head _))), hs.rd (.tail _ (.tail _ (.tail _ (.head _)))), c.hfc, c.hrc⟩ (hs.rd (.tail _ (.tail _ (.tail _ (.tail _ (.head _)))))), rfl, evs_cons (ev_gv rfl hg) (evs_cons (ev_gv rfl hg) (evs_cons (ev_gv rfl hg) evs_nil)), rfl⟩) E70 (by decide) (fun _ h => h.sub (.refl _)) ?_; clear hs hf hS a; intro w a hs hS hf
        rw [hl9, overT_eq c.hm hii hin2] at hf
        refine gA hf hS (i := 13) rfl (by kernel_rfl) (fun w hs => g_and hf rfl rfl) (by decide) ?_; clear hf a; intro a hf
        refine e_done (by kernel_rfl) ?_
        refine c_cond hf rfl (fun hc4 => ?_) (fun hc4 => ?_)
        · skip
          have hany : (r.any fun x => ((i : Nat) : Int) == x) = decide (((i : Nat) : Int) ∈ r) := by rw [Bool.eq_iff_iff, List.any_eq_true]; simp
          rw [hany] at hc4
          have hnot : ((i : Nat) : Int) ∉ r := by intro hm; rw [decide_eq_true hm] at hc4; simp at hc4
          have hfl9 := freeN_lt (b := c.b) (r := r) (i := i) (by omega) hnot
          have hcnd : (decide (headI r < ((i : Nat) : Int)) && (!decide (((i : Nat) : Int) ∈ r) && overP c.b ((i : Nat) : Int) (lastI r))) = true := by rw [hc4, decide_eq_true (by omega)]; rfl
          refine c_draw1 (fun w => ∃ B o9, St B (Rd encI 1 A r.length r :: bOK c.bb c.M o9 :: c.Ds) [(c.bb, .cells #[bV o9] 27 (0, 0))] w) 9 Mx rfl hs (fun _ h => ⟨_, _, h⟩) ?_; intro w hs hS
          refine gA hf hS (i := 0) rfl (by kernel_rfl) (fun w ⟨_, _, hs⟩ => g_ldB hf hs (.tail _ (.tail _ (.tail _ (.tail _ (.tail _ (.tail _ (.head _))))))) T84 rfl rfl) (by decide) ?_; clear hf a; intro a hf
          refine gA hf hS (i := 1) rfl (by kernel_rfl) (fun w ⟨_, _, hs⟩ => g_mv hf rfl) (by decide) ?_; clear hf a; intro a hf
          refine gA hf hS (i := 2) rfl (by kernel_rfl) (fun w ⟨_, _, hs⟩ => g_mv hf rfl) (by decide) ?_; clear hf a; intro a hf
          refine gA hf hS (i := 3) rfl (by kernel_rfl) (fun w ⟨_, _, hs⟩ => g_mv hf rfl) (by decide) ?_; clear hf a; intro a hf
          refine gA hf hS (i := 4) rfl (by kernel_rfl) (fun w ⟨_, _, hs⟩ => g_slHM hf SL27 rfl rfl rfl (by omega) (by omega)) (by decide) ?_; clear hf a; intro a hf
          refine gA hf hS (i := 5) rfl (by kernel_rfl) (fun w ⟨_, _, hs⟩ => g_mv hf rfl) (by decide) ?_; clear hf a; intro a hf
          refine one (i := 6) (by kernel_rfl) ?_
          refine oV hf rfl (v_lits (len := 1) hf hs SL27 T3 (.cons rfl .nil) rfl rfl rfl rfl (by decide) rfl) (by decide) (fun _ _ ⟨_, _, h⟩ => ⟨_, _, h.sub (.cons _ (.refl _))⟩) ?_; clear hs hf hS a; rintro _ w ⟨b1, rfl, hs⟩ hS a hf
          refine one (i := 7) (by kernel_rfl) ?_
          refine oV hf rfl (v_app hf hs AP27 (fun _ => rfl) (by decide) rfl rfl (l := r) (by simpa using hs.rd (.head _)) (rd_one (enc := encI) (x := ((i : Nat) : Int)) rfl (hs.own _ _ (.head _)).2) (by omega) (Nat.le_refl _) (fun e => by have h9 := hA0 e; omega) (by omega) (by decide)) (by decide) (fun _ _ ⟨_, _, _, _, h⟩ => ⟨_, _, h.sub (.cons _ (.cons _ (.refl _)))⟩) ?_; clear hs hf hS a; rintro _ w ⟨b2, cs4, rfl, hok, hs⟩ hS a hf
          rw [show ((r.length : Nat) : Int).toNat + 1 = (r ++ [((i : Nat) : Int)]).length by simp] at hf
          refine one (i := 8) (by kernel_rfl) ?_
          have hnew := hs.own _ _ (.head _)
          have hnbb : b2 ≠ c.bb := fun e => by have hn := hs.nodup; rw [e] at hn; simp [ids] at hn
          refine oCallB hf rfl (ih w (r ++ [((i : Nat) : Int)]) (some ⟨b2, 0, none⟩) _ o2 (hl3.trans hs.below.2.2.2) (hs.own _ _ (.tail _ (.tail _ (.head _)))).2 (hs.rd (.tail _ (.head _))) (by simp) (fun y hy => by rcases List.mem_append.1 hy with hy | hy; exact hrin y hy; rw [List.mem_singleton.1 hy]; exact hii) (by omega) (by rw [List.length_append]; simp only [List.length_cons, List.length_nil]; omega) (hok.rdb (sz := 1) (fun _ => rfl) (by decide) (hs.own _ _ (.head _)).2) (fun bk off e => by cases e; exact ⟨hnbb, Nat.le_trans c.hMl (Nat.le_trans hl3.1 (hnew.1.resolve_left (by simpa using hnbb)))⟩) (hok.cap (sz := 1) (by decide))) rfl rfl rfl E69 (by decide)
            (fun v w2 hR2 => by obtain ⟨rfl, o3, hb3, ho3, hh3, g1, g2, g3, g4⟩ := hR2; exact ⟨_, o3, c.at_ (we := w0) (o := o3) (r := r) (A := A) ((hl3.trans hs.below.2.2.2).trans g4) ⟨g1.trans hs.below.1, g2.trans hs.below.2.1, g3.trans hs.below.2.2.1, hs.below.2.2.2.trans g4⟩ hh3 ho3 (hrst w2 (hs.below.2.2.2.trans g4)) hA⟩) ?_; clear hf hS a; intro v w2 a hR2 hS hf; obtain ⟨rfl, o3, hb3, ho3, hh3, g1, g2, g3, g4⟩ := hR2
          replace hs := c.at_ (we := w0) (o := o3) (r := r) (A := A) ((hl3.trans hs.below.2.2.2).trans g4) ⟨g1.trans hs.below.1, g2.trans hs.below.2.1, g3.trans hs.below.2.2.1, hs.below.2.2.2.trans g4⟩ hh3 ho3 (hrst w2 (hs.below.2.2.2.trans g4)) hA
          refine e_done1 (by kernel_rfl) ?_
          refine q_blkN (q_thenN ?_)
          refine c_reg1 ?_
          refine gL hf (g_mv hf rfl) (by decide) ?_; clear hf a; intro a hf
          refine gL hf (g_addI hf rfl rfl (by omega)) (by decide) ?_; clear hf a; intro a hf
          refine gL hf (g_as hf rfl) (by decide) ?_; clear hf a; intro a hf
          refine e_nil1 (q_thenN ?_)
          first | exact ⟨(i + 1, o2), (by dsimp only; exact ⟨by omega, by omega, hstep⟩), (by dsimp only; omega), hf.back (by repeat (first | (with_reducible exact Ext.base) | ((with_reducible refine Ext.cons ?_ ?_); (· rfl)) | ((with_reducible refine Ext.over ?_ ?_ ?_); (· rfl); (· rfl)))) (allKeys rfl) (.cons rfl .nil), hs.dropN 0⟩ | exact ⟨(i + 1, o3), (by dsimp only; exact ⟨by omega, by omega, by rw [range_fold_succ, ← hbo, ringStep, if_pos hcnd]; exact hb3⟩), (by dsimp only; omega), hf.back (by repeat (first | (with_reducible exact Ext.base) | ((with_reducible refine Ext.cons ?_ ?_); (· rfl)) | ((with_reducible refine Ext.over ?_ ?_ ?_); (· rfl); (· rfl)))) (allKeys rfl) (.cons rfl .nil), hs.dropN 0⟩
        · skip
          have hany : (r.any fun x => ((i : Nat) : Int) == x) = decide (((i : Nat) : Int) ∈ r) := by rw [Bool.eq_iff_iff, List.any_eq_true]; simp
          rw [hany] at hc4
          have hstep : bL o2 = (List.range (i + 1)).foldl (ringStep c.b r (ringF c.b k)) (bL o1) := by rw [range_fold_succ, ← hbo, ringStep, hc4]; simp
          refine c_skip (q_blkN (q_thenN ?_))
          refine c_reg1 ?_
          refine gL hf (g_mv hf rfl) (by decide) ?_; clear hf a; intro a hf
          refine gL hf (g_addI hf rfl rfl (by omega)) (by decide) ?_; clear hf a; intro a hf
          refine gL hf (g_as hf rfl) (by decide) ?_; clear hf a; intro a hf
          refine e_nil1 (q_thenN ?_)
          first | exact ⟨(i + 1, o2), (by dsimp only; exact ⟨by omega, by omega, hstep⟩), (by dsimp only; omega), hf.back (by repeat (first | (with_reducible exact Ext.base) | ((with_reducible refine Ext.cons ?_ ?_); (· rfl)) | ((with_reducible refine Ext.over ?_ ?_ ?_); (· rfl); (· rfl)))) (allKeys rfl) (.cons rfl .nil), hs.dropN 0⟩ | exact ⟨(i + 1, o3), (by dsimp only; exact ⟨by omega, by omega, by rw [range_fold_succ, ← hbo, ringStep, if_pos hcnd]; exact hb3⟩), (by dsimp only; omega), hf.back (by repeat (first | (with_reducible exact Ext.base) | ((with_reducible refine Ext.cons ?_ ?_); (· rfl)) | ((with_reducible refine Ext.over ?_ ?_ ?_); (· rfl); (· rfl)))) (allKeys rfl) (.cons rfl .nil), hs.dropN 0⟩
      · try simp only [decide_eq_true_eq, decide_eq_false_iff_not] at hc3
        obtain rfl : i = c.b.flaps.length := by omega
        refine c_exit (q_thenX (q_thenX (q_blkX ?_)))
        refine e_end0 hf rfl ?_
        exact ⟨_, rfl, rfl, o2, by rw [ringF, ← hbl, if_neg hcut]; exact hbo, hs.rd (.tail _ (.head _)), (hs.own _ _ (.head _)).2, hs.below⟩

end Go.Proofs.YtpjhffockmnjbaaDoor
set_option linter.unusedVariables false
namespace Go.Proofs.YtpjhffockmnjbaaDoor
open Go.RowKit
theorem c_ring (c : RingCtx) : ∀ k, RingSpec c k := by
  intro k
  induction k with
  | zero => exact fun w r A cp o h1 h2 h3 h4 h5 h6 => absurd h6 (by omega)
  | succ k ih => exact fun w r A cp o h1 h2 h3 h4 h5 h6 h7 h8 h9 h10 => c_ring_step c k ih w r A cp o h1 h2 h3 h4 h5 h6 h7 h8 h9 h10
/-- One own block, and it has been turned by a call. -/
theorem St.turned {w0 : Base} {Ds : List (World → Prop)} {b : Nat} {o o' : Obj} {w w' : World} (hs : St w0 Ds [(b, o)] w) (hos : w'.os = w.os) (ht : w'.tape = w.tape) (hu : w'.output = w.output) (hl : Later [b] w w') (hb : w'.heap[b]? = some o') : St w0 Ds [(b, o')] w' := by
  have hm := (hs.own b o (.head _)).1
  refine ⟨w0.closed _ _ hs.below ⟨hos, ht, hu, hl.1, fun i hi hn => hl.2 i hi fun h => hn (by rw [List.mem_singleton.1 h]; exact hm)⟩, fun c u hc => ?_, by simp, fun D hD => ?_⟩
  · rcases List.mem_singleton.1 hc with e
    cases e
    exact ⟨hm, hb⟩
  · have h1 := hs.data D hD
    exact h1.later ⟨hl.1, fun i hi hn => hl.2 i hi fun h => hn (by rw [List.mem_singleton.1 h]; simp)⟩
/-- All own blocks but one are written no more: they are data. -/
theorem St.fixB {w0 : Base} {Ds : List (World → Prop)} {H : Own} {b c : Nat} {cs cs' : Array Value} {e e' : TypeId} {w : World} (hs : St w0 Ds H w) (hb : (b, .cells cs e (0, 0)) ∈ H) (hc : (c, .cells cs' e' (0, 0)) ∈ H) (hne : c ≠ b) : Stable (w0.ex ++ [b]) w (BlkIs c cs' e' (0, 0)) :=
  BlkIs.stable (hs.own c _ hc).2 fun hm => by
    rcases List.mem_append.1 hm with hm | hm
    · exact w0.exm c hm (hs.own c _ hc).1
    · exact hne (List.mem_singleton.1 hm)
end Go.Proofs.YtpjhffockmnjbaaDoor
set_option linter.unusedVariables false
set_option linter.unusedSimpArgs false
namespace Go.Proofs.YtpjhffockmnjbaaDoor
open Go.RowKit
theorem c_Ring (b : Sheet) (fA : Option Addr) (fc : Nat) (rA : Option Addr) (rc : Nat) (ge : TypeId) (gz : Nat × Nat)  (w0 : World) (h : ShIn b fA fc rA rc w0) (hG : BlkIs 0 sidesA ge gz w0) :
    Calls Tryd.prog 27 #[.agg #[.int .i64 b.wide, .int .i64 b.high, .slice fA b.flaps.length fc, .slice rA b.rules.length rc]] w0 (RetX w0 (fun v w0' => ∃ A c, v = .tuple #[.slice A (ringP b).1.length c, .int .i64 (ringP b).2] ∧ Out (ringP b).1 A c w0 w0')) := by
  refine c_enter (n := 33) Tryd.func27 rfl rfl (Nat.le_of_ble_eq_true rfl) ?_; intro a hf; simp only [zipR] at hf
  have hs := St.start w0 [Rd encF 5 fA b.flaps.length b.flaps, Rd encR 2 rA b.rules.length b.rules, BlkIs 0 sidesA ge gz] (stab_app h.stab hG.st1)
  have hfm := h.F.2.1; have hrm := h.R.2.1
  refine c_reg ?_
  refine vL hf (v_boxA hf hs rfl) (by decide) ?_; clear hs hf a; rintro _ w ⟨b1, rfl, hs⟩ a hf
  refine gL hf (g_as hf rfl) (by decide) ?_; clear hf a; intro a hf
  refine gL hf (g_as hf rfl) (by decide) ?_; clear hf a; intro a hf
  refine e_nil ?_
  refine c_reg ?_
  refine gL hf (g_ldW hf hs T25 rfl (k := 0) rfl rfl) (by decide) ?_; clear hf a; intro a hf
  refine callX hf hs (c_asked b _ _ _ _ _ _ true _ ⟨hs.rd (.head _), hs.rd (.tail _ (.head _)), h.fc_, h.rc_⟩ (hs.rd (.tail _ (.tail _ (.head _))))) rfl rfl rfl E54 (by decide) ?_; intro v w1 a hR hb hs1 hf; obtain ⟨cs, mb, mp, rfl, hcl, hcp, hcm⟩ := hR; replace hs := hs.fresh hs1 (condFresh fun he => (hcm he).2.2); clear hs1 hb
  refine gL hf (g_mv hf rfl) (by decide) ?_; clear hf a; intro a hf
  refine gL hf (g_ext hf rfl rfl) (by decide) ?_; clear hf a; intro a hf
  refine gL hf (g_ext hf rfl rfl) (by decide) ?_; clear hf a; intro a hf
  refine vL hf (v_alloc hs T69 rfl) (by decide) ?_; clear hs hf a; rintro _ w ⟨b2, rfl, hs⟩ a hf
  refine uL (u_stW hf hs T69 rfl rfl hcp (k := 0) rfl hcl hcl) ?_; clear hs; intro w hs; dsimp only [List.set] at hs
  refine gL hf (g_as hf rfl) (by decide) ?_; clear hf a; intro a hf
  refine e_nil ?_
  refine wp_seq ?_
  refine c_reg ?_
  refine gL hf (g_mv hf rfl) (by decide) ?_; clear hf a; intro a hf
  refine gL hf (g_neq hf rfl rfl) (by decide) ?_; clear hf a; intro a hf
  refine e_nil ?_
  refine c_cond hf rfl (fun hc1 => ?_) (fun hc1 => ?_)
  · try simp only [decide_eq_true_eq, decide_eq_false_iff_not] at hc1
    have he : ¬ askE b true = 0 := by simpa using hc1
    refine c_reg ?_
    refine gL hf (g_mv hf rfl) (by decide) ?_; clear hf a; intro a hf
    refine gL hf (g_as hf rfl) (by decide) ?_; clear hf a; intro a hf
    refine gL hf (g_as hf rfl) (by decide) ?_; clear hf a; intro a hf
    refine e_nil ?_
    refine c_ret (q_thenR ?_)
    refine e_ret2 hf rfl rfl rfl ?_
    have hor : ringP b = ([], askE b true) := by simp only [ringP, if_neg he]
    exact ⟨_, rfl, hs.below, none, 0, by rw [hor]; rfl, by rw [hor]; exact ⟨Nat.le_refl _, rd_nil, fun b o e => by cases e⟩⟩
  · try simp only [decide_eq_true_eq, decide_eq_false_iff_not] at hc1
    have he : askE b true = 0 := by simpa using hc1
    obtain ⟨rfl, hmo, _, _⟩ := hcm he
    replace hs := hs.un (fun w h => h he)
    have hok := askE_zero he
    have hv := valid_of hok.1
    have hall := allOrds_eq hv hmo
    have hmany := hv.many
    refine c_skip (q_thenN ?_)
    refine c_reg ?_
    refine vL hf (v_alloc hs T27 rfl) (by decide) ?_; clear hs hf a; rintro _ w ⟨b3, rfl, hs⟩ a hf
    refine e_nil ?_
    refine c_reg ?_
    refine vL hf (v_alloc hs T84 rfl) (by decide) ?_; clear hs hf a; rintro _ w ⟨b4, rfl, hs⟩ a hf
    refine e_nil ?_
    refine c_reg ?_
    refine gL hf (g_fn hf rfl rfl) (by decide) ?_; clear hf a; intro a hf
    refine uL (u_st hf hs T84 rfl rfl rfl (k := 0) rfl (Nat.le_of_ble_eq_true rfl)) ?_; clear hs; intro w hs; dsimp only [List.set] at hs
    refine e_nil ?_
    refine wp_seq ?_
    refine c_reg ?_
    refine gL hf (g_fa (off' := 0) hf F69_0 rfl rfl) (by decide) ?_; clear hf a; intro a hf
    refine gL hf (g_fa (off' := 2) hf F25_2 rfl rfl) (by decide) ?_; clear hf a; intro a hf
    refine gL hf (g_ld hf hs T22 rfl (k := 2) rfl rfl) (by decide) ?_; clear hf a; intro a hf
    refine gL hf (g_len hf SL22 rfl) (by decide) ?_; clear hf a; intro a hf
    refine gL hf (g_mv hf rfl) (by decide) ?_; clear hf a; intro a hf
    refine e_nil ?_
    refine c_block ?_
    have n23 : b2 ≠ b3 := fun e => by have hn := hs.nodup; rw [e] at hn; simp [ids] at hn
    have n43 : b4 ≠ b3 := fun e => by have hn := hs.nodup; rw [e] at hn; simp [ids] at hn
    have f2 : Stable [b3] w (BlkIs b2 (sh5 b fA fc rA rc mb).toArray 69 (0, 0)) := hs.fixB (b := b3) (.tail _ (.head _)) (.tail _ (.tail _ (.head _))) n23
    have f4 : Stable [b3] w (BlkIs b4 #[.func (.func 69) #[] #[.pointer (some ⟨b2, 0, none⟩), .pointer (some ⟨b3, 0, none⟩), .pointer (some ⟨b4, 0, none⟩)]] 84 (0, 0)) := hs.fixB (b := b3) (.tail _ (.head _)) (.head _) n43
    replace hs : St (Base.of w0) (bOK b3 w0.heap.size none :: [BlkIs b2 (sh5 b fA fc rA rc mb).toArray 69 (0, 0), BlkIs b4 #[.func (.func 69) #[] #[.pointer (some ⟨b2, 0, none⟩), .pointer (some ⟨b3, 0, none⟩), .pointer (some ⟨b4, 0, none⟩)]] 84 (0, 0), MapIs mb mp, Rd encF 5 fA b.flaps.length b.flaps, Rd encR 2 rA b.rules.length b.rules, BlkIs 0 sidesA ge gz]) [(b3, .cells #[bV none] 27 (0, 0))] w := (((hs.sub (.cons _ (.cons_cons _ (List.nil_sublist _)))).addD f4).addD f2).addD (fun _ _ A l e => by cases e)
    refine c_loopD (fun s => Base.of w0) (fun s => bOK b3 w0.heap.size s.2 :: [BlkIs b2 (sh5 b fA fc rA rc mb).toArray 69 (0, 0), BlkIs b4 #[.func (.func 69) #[] #[.pointer (some ⟨b2, 0, none⟩), .pointer (some ⟨b3, 0, none⟩), .pointer (some ⟨b4, 0, none⟩)]] 84 (0, 0), MapIs mb mp, Rd encF 5 fA b.flaps.length b.flaps, Rd encR 2 rA b.rules.length b.rules, BlkIs 0 sidesA ge gz]) hf [8, 22, 23, 24, 25, 26, 27, 28, 29] (σ := (Nat × Best)) (fun s => [(22, .int .i64 (s.1 : Nat))]) (fun s => [(b3, .cells #[bV s.2] 27 (0, 0))]) (fun s => s.1 ≤ b.flaps.length ∧ bL s.2 = (List.range s.1).foldl (fun best i => ringF b 8 [((i : Nat) : Int)] best) none) (fun s => b.flaps.length - s.1) (0, none) hs ⟨Nat.zero_le _, rfl⟩ (.cons rfl .nil) ?_
    intro ⟨i, o2⟩ a w hJ hf hs
    dsimp only at hJ hf hs
    obtain ⟨hi1, hbo⟩ := hJ
    refine c_reg ?_
    refine gL hf (g_lss hf rfl rfl) (by decide) ?_; clear hf a; intro a hf
    refine e_nil ?_
    refine c_condS hf rfl (fun hc2 => ?_) (fun hc2 => ?_)
    · try simp only [decide_eq_true_eq, decide_eq_false_iff_not] at hc2
      refine c_skip (q_thenN ?_)
      refine c_blockS ?_
      refine c_reg ?_
      refine gL hf (g_mv hf rfl) (by decide) ?_; clear hf a; intro a hf
      refine gL hf (g_as hf rfl) (by decide) ?_; clear hf a; intro a hf
      refine e_nil ?_
      refine c_reg1 ?_
      refine gL hf (g_ldB hf hs (.tail _ (.tail _ (.head _))) T84 rfl rfl) (by decide) ?_; clear hf a; intro a hf
      refine gL hf (g_mv hf rfl) (by decide) ?_; clear hf a; intro a hf
      refine vL hf (v_lits (len := 1) hf hs SL27 T3 (.cons rfl .nil) rfl rfl rfl rfl (by decide) rfl) (by decide) ?_; clear hs hf a; rintro _ w ⟨b5, rfl, hs⟩ a hf
      have hne5 : b5 ≠ b3 := fun e => by have hn := hs.nodup; rw [e] at hn; simp [ids] at hn
      have hii : inN b ((i : Nat) : Int) := ⟨by omega, by omega⟩
      have hfr9 := freeN_lt (b := b) (r := []) (i := i) (by omega) (by simp); have hfl9 := freeN_le b []; simp only [List.nil_append] at hfr9
      refine callB hf (c_ring (RingCtx.mk b fA fc rA rc mb mp w b2 b3 b4 w0.heap.size hs.below.size hv hmo h.fc_ h.rc_ ((hs.data _ (.tail _ (.tail _ (.tail _ (.tail _ (.head _)))))).sub (fun i hi => by rw [List.mem_singleton.1 hi]; simp [ids])) ((hs.data _ (.tail _ (.tail _ (.tail _ (.tail _ (.tail _ (.head _))))))).sub (fun i hi => by rw [List.mem_singleton.1 hi]; simp [ids])) ((hs.data _ (.tail _ (.tail _ (.tail _ (.head _))))).sub (fun i hi => by rw [List.mem_singleton.1 hi]; simp [ids])) ((hs.data _ (.tail _ (.head _))).sub (fun i hi => by rw [List.mem_singleton.1 hi]; simp [ids])) ((hs.data _ (.tail _ (.tail _ (.head _)))).sub (fun i hi => by rw [List.mem_singleton.1 hi]; simp [ids]))) 8 w [((i : Nat) : Int)] (some ⟨b5, 0, none⟩) 1 o2 (Later.refl _ _) (hs.own _ _ (.tail _ (.head _))).2 (hs.rd (.head _)) (by simp) (fun y hy => by rw [List.mem_singleton.1 hy]; exact hii) (by show freeN b _ < 8; omega) (by show _ + freeN b _ ≤ b.flaps.length; simp only [List.length_cons, List.length_nil]; omega) (rd_one (enc := encI) rfl (hs.own _ _ (.head _)).2) (fun bk off e => by cases e; exact ⟨hne5, (hs.own _ _ (.head _)).1⟩) (Nat.le_refl _)) rfl rfl rfl E69 (by decide) ?_; clear hf; intro v w2 a hR2 hf
      obtain ⟨rfl, o3, hb3, ho3, hh3, g1, g2, g3, g4⟩ := hR2
      replace hs : St (Base.of w0) (bOK b3 w0.heap.size o3 :: [BlkIs b2 (sh5 b fA fc rA rc mb).toArray 69 (0, 0), BlkIs b4 #[.func (.func 69) #[] #[.pointer (some ⟨b2, 0, none⟩), .pointer (some ⟨b3, 0, none⟩), .pointer (some ⟨b4, 0, none⟩)]] 84 (0, 0), MapIs mb mp, Rd encF 5 fA b.flaps.length b.flaps, Rd encR 2 rA b.rules.length b.rules, BlkIs 0 sidesA ge gz]) [(b3, .cells #[bV o3] 27 (0, 0))] w2 := (((hs.dropN 1).turned g1 g2 g3 g4 hh3).subD (fun _ h => .tail _ h)).addD ho3.stable
      refine e_nil1 (q_blkN (q_thenN ?_))
      refine c_reg1 ?_
      refine gL hf (g_addI hf rfl rfl (by omega)) (by decide) ?_; clear hf a; intro a hf
      refine gL hf (g_mv hf rfl) (by decide) ?_; clear hf a; intro a hf
      refine e_nil1 (q_thenN ?_)
      exact ⟨(i + 1, o3), ⟨by dsimp only; omega, by dsimp only; rw [List.range_succ, List.foldl_append, ← hbo]; exact hb3⟩, (by dsimp only; omega), hf.back (by repeat (first | (with_reducible exact Ext.base) | ((with_reducible refine Ext.cons ?_ ?_); (· rfl)) | ((with_reducible refine Ext.over ?_ ?_ ?_); (· rfl); (· rfl)))) (allKeys rfl) (.cons rfl .nil), hs⟩
    · try simp only [decide_eq_true_eq, decide_eq_false_iff_not] at hc2
      obtain rfl : i = b.flaps.length := by omega
      refine c_exit (q_thenX (q_thenX (q_blkX (q_thenN ?_))))
      refine wp_seq ?_
      refine c_reg ?_
      refine gL hf (g_ld hf hs T27 rfl (k := 0) rfl rfl) (by decide) ?_; clear hf a; intro a hf
      refine gL hf (g_eqNil hf SE27 rfl rfl) (by decide) ?_; clear hf a; intro a hf
      refine e_nil ?_
      refine c_cond hf rfl (fun hc3 => ?_) (fun hc3 => ?_)
      · skip
        refine c_reg ?_
        refine gL hf (g_as hf rfl) (by decide) ?_; clear hf a; intro a hf
        refine gL hf (g_as hf rfl) (by decide) ?_; clear hf a; intro a hf
        refine e_nil ?_
        refine c_ret (q_thenR ?_)
        refine e_ret2 hf rfl rfl rfl ?_
        have hon := hs.rd (.head _)
        have hno : o2 = none := by have h8 := hon.isNone; rw [hc3] at h8; cases o2 with
              | none => rfl
              | some p => cases h8
        subst hno
        have hor : ringP b = ([], 4) := by simp only [ringP, he, if_true]; rw [← hbo]; rfl
        exact ⟨_, rfl, hs.below, none, 0, by rw [hor]; rfl, by rw [hor]; exact ⟨Nat.le_refl _, rd_nil, fun b o e => by cases e⟩⟩
      · skip
        refine c_skip (q_thenN ?_)
        refine c_reg ?_
        refine gL hf (g_ld hf hs T27 rfl (k := 0) rfl rfl) (by decide) ?_; clear hf a; intro a hf
        refine gL hf (g_as hf rfl) (by decide) ?_; clear hf a; intro a hf
        refine gL hf (g_as hf rfl) (by decide) ?_; clear hf a; intro a hf
        refine e_nil ?_
        refine c_ret ?_
        refine e_ret2 hf rfl rfl rfl ?_
        have hon := hs.rd (.head _)
        cases o2 with
        | none => simp [bA] at hc3
        | some p =>
          obtain ⟨A, l⟩ := p
          have hor : ringP b = (l, 0) := by simp only [ringP, he, if_true]; rw [← hbo]; rfl
          exact ⟨_, rfl, hs.below, A, l.length, by rw [hor]; rfl, by rw [hor]; exact ⟨Nat.le_refl _, (hon A l rfl).1, fun bk off e => ((hon A l rfl).2.2 bk off e).2⟩⟩

end Go.Proofs.YtpjhffockmnjbaaDoor
set_option linter.unusedVariables false
set_option linter.unusedSimpArgs false
namespace Go.Proofs.YtpjhffockmnjbaaDoor
open Go.RowKit
theorem c_whole (b : Sheet) (fA : Option Addr) (fc : Nat) (rA : Option Addr) (rc : Nat) (oA : Option Addr) (oc : Nat) (l : List Int)  (w0 : World) (h : ShIn b fA fc rA rc w0) (ho : Rd encI 1 oA l.length l w0) :
    Calls Tryd.prog 36 #[.agg #[.int .i64 b.wide, .int .i64 b.high, .slice fA b.flaps.length fc, .slice rA b.rules.length rc], .slice oA l.length oc] w0 (Ret w0 (.bool (wholeB b l))) := by
  refine c_enter (n := 23) Tryd.func36 rfl rfl (Nat.le_of_ble_eq_true rfl) ?_; intro a hf; simp only [zipR] at hf
  have hs := St.start w0 [Rd encF 5 fA b.flaps.length b.flaps, Rd encR 2 rA b.rules.length b.rules, Rd encI 1 oA l.length l] (stab_app h.stab ho.st1)
  have hfm := h.F.2.1; have hrm := h.R.2.1; have hlm := ho.2.1
  refine c_reg ?_
  refine vL hf (v_boxA hf hs rfl) (by decide) ?_; clear hs hf a; rintro _ w ⟨b1, rfl, hs⟩ a hf
  refine gL hf (g_as hf rfl) (by decide) ?_; clear hf a; intro a hf
  refine e_nil ?_
  refine wp_seq ?_
  refine c_reg ?_
  refine gL hf (g_as hf rfl) (by decide) ?_; clear hf a; intro a hf
  refine e_nil ?_
  refine c_block ?_
  refine c_loop hf hs [4, 5, 6, 7, 8, 9, 10, 11, 12, 13, 14, 15, 16] (σ := Nat) (fun k => [(5, .int .i64 (k : Nat))]) (fun k => _) (fun k => k ≤ b.flaps.length ∧ ∀ j, j < k → ((j : Nat) : Int) ∈ l) (fun k => b.flaps.length - k) 0 ⟨by omega, fun z hz => absurd hz (by omega)⟩ (.cons rfl .nil) rfl ?_
  intro k a w hJ hf hs
  obtain ⟨hk, hp⟩ := hJ
  refine wp_seq ?_
  refine c_reg ?_
  refine gL hf (g_mv hf rfl) (by decide) ?_; clear hf a; intro a hf
  refine gL hf (g_fa (off' := 2) hf F25_2 rfl rfl) (by decide) ?_; clear hf a; intro a hf
  refine gL hf (g_ld hf hs T22 rfl (k := 0) rfl rfl) (by decide) ?_; clear hf a; intro a hf
  refine gL hf (g_len hf SL22 rfl) (by decide) ?_; clear hf a; intro a hf
  refine gL hf (g_lss hf rfl rfl) (by decide) ?_; clear hf a; intro a hf
  refine e_nil ?_
  refine c_cond hf rfl (fun hc1 => ?_) (fun hc1 => ?_)
  · try simp only [decide_eq_true_eq, decide_eq_false_iff_not] at hc1
    refine c_skip (q_thenN ?_)
    refine c_blockS ?_
    refine c_reg ?_
    refine gL hf (g_mv hf rfl) (by decide) ?_; clear hf a; intro a hf
    refine gL hf (g_mv hf rfl) (by decide) ?_; clear hf a; intro a hf
    refine callL hf hs (c_place _ _ _ l _ _ (hs.rd (.tail _ (.tail _ (.head _))))) rfl rfl rfl E81 (by decide) ?_; clear hs hf a; intro w a hs hf
    refine gL hf (g_lss hf rfl rfl) (by decide) ?_; clear hf a; intro a hf
    refine e_nil ?_
    refine c_cond hf rfl (fun hc2 => ?_) (fun hc2 => ?_)
    · try simp only [decide_eq_true_eq, decide_eq_false_iff_not] at hc2
      refine c_reg ?_
      refine gL hf (g_as hf rfl) (by decide) ?_; clear hf a; intro a hf
      refine e_nil ?_
      refine c_ret (q_blkR (q_thenR (q_thenR (q_blkR (q_thenR ?_)))))
      refine e_ret1 hf rfl rfl ?_
      exact ⟨by rw [whole_no (i := k) (by omega) (indexZ_neg hc2)], hs.below⟩
    · try simp only [decide_eq_true_eq, decide_eq_false_iff_not] at hc2
      refine c_skip (q_blkN (q_thenN ?_))
      refine c_reg1 ?_
      refine gL hf (g_mv hf rfl) (by decide) ?_; clear hf a; intro a hf
      refine gL hf (g_addI hf rfl rfl (by omega)) (by decide) ?_; clear hf a; intro a hf
      refine gL hf (g_as hf rfl) (by decide) ?_; clear hf a; intro a hf
      refine e_nil1 (q_thenN ?_)
      exact ⟨k + 1, ⟨by omega, lt_succ hp (indexZ_pos hc2)⟩, (by omega), hf.back (by repeat (first | (with_reducible exact Ext.base) | ((with_reducible refine Ext.cons ?_ ?_); (· rfl)) | ((with_reducible refine Ext.over ?_ ?_ ?_); (· rfl); (· rfl)))) (allKeys rfl) (.cons rfl .nil), hs.dropN 0⟩
  · try simp only [decide_eq_true_eq, decide_eq_false_iff_not] at hc1
    refine c_exit (q_thenX (q_thenX (q_blkX (q_thenN ?_))))
    refine c_reg ?_
    refine gL hf (g_mv hf rfl) (by decide) ?_; clear hf a; intro a hf
    refine gL hf (g_len hf SL27 rfl) (by decide) ?_; clear hf a; intro a hf
    refine gL hf (g_fa (off' := 2) hf F25_2 rfl rfl) (by decide) ?_; clear hf a; intro a hf
    refine gL hf (g_ld hf hs T22 rfl (k := 0) rfl rfl) (by decide) ?_; clear hf a; intro a hf
    refine gL hf (g_len hf SL22 rfl) (by decide) ?_; clear hf a; intro a hf
    refine gL hf (g_eql hf rfl rfl) (by decide) ?_; clear hf a; intro a hf
    refine gL hf (g_as hf rfl) (by decide) ?_; clear hf a; intro a hf
    refine e_nil ?_
    refine c_ret ?_
    refine e_ret1 hf rfl rfl ?_
    exact ⟨by rw [whole_yes (fun i hi => hp i (by omega))]; congr 2; rw [Bool.eq_iff_iff]; simp; omega, hs.below⟩

end Go.Proofs.YtpjhffockmnjbaaDoor
set_option linter.unusedVariables false
set_option linter.unusedSimpArgs false
namespace Go.Proofs.YtpjhffockmnjbaaDoor
open Go.RowKit
theorem c_reach (b : Sheet) (fA : Option Addr) (fc : Nat) (rA : Option Addr) (rc : Nat) (oA : Option Addr) (oc : Nat) (l : List Int) (i : Int) (hv : Valid b) (hi : inN b i) (w0 : World) (h : ShIn b fA fc rA rc w0) (ho : Rd encI 1 oA l.length l w0) :
    Calls Tryd.prog 41 #[.agg #[.int .i64 b.wide, .int .i64 b.high, .slice fA b.flaps.length fc, .slice rA b.rules.length rc], .int .i64 i, .slice oA l.length oc] w0 (Ret w0 (.int .i64 (reachZ b i.toNat l))) := by
  refine c_enter (n := 17) Tryd.func41 rfl rfl (Nat.le_of_ble_eq_true rfl) ?_; intro a hf; simp only [zipR] at hf
  have hs := St.start w0 [Rd encF 5 fA b.flaps.length b.flaps, Rd encR 2 rA b.rules.length b.rules, Rd encI 1 oA l.length l] (stab_app h.stab ho.st1)
  have hfm := h.F.2.1; have hrm := h.R.2.1; have hlm := ho.2.1
  have hi1 := hi.1; have hi2 := hi.2; have hff := flap_far hv hi
  simp only [flapA] at hff
  refine c_reg ?_
  refine vL hf (v_boxA hf hs rfl) (by decide) ?_; clear hs hf a; rintro _ w ⟨b1, rfl, hs⟩ a hf
  refine gL hf (g_as hf rfl) (by decide) ?_; clear hf a; intro a hf
  refine e_nil ?_
  refine c_draw _ 11 Mx rfl hs (fun _ h => h) ?_; intro w hs hS
  refine gA hf hS (i := 0) rfl (by kernel_rfl) (fun w hs => g_fa (off' := 2) hf F25_2 rfl rfl) (by decide) ?_; clear hf a; intro a hf
  refine gA hf hS (i := 1) rfl (by kernel_rfl) (fun w hs => g_ld hf hs T22 rfl (k := 0) rfl rfl) (by decide) ?_; clear hf a; intro a hf
  refine gA hf hS (i := 2) rfl (by kernel_rfl) (fun w hs => g_mv hf rfl) (by decide) ?_; clear hf a; intro a hf
  (first | (refine gA hf hS (i := 3) rfl (by kernel_rfl) (fun w hs => g_ixE hf hs (.head _) SL22 rfl rfl (by omega)) (by decide) ?_) | (refine gA hf hS (i := 3) rfl (by kernel_rfl) (fun w hs => g_ixD hf hs (.head _) SL22 rfl rfl (by omega)) (by decide) ?_)); clear hf a; intro a hf
  refine gA hf hS (i := 4) rfl (by kernel_rfl) (fun w hs => g_faD (j' := 1) hf hs (.head _) F49_1 rfl (by omega) rfl) (by decide) ?_; clear hf a; intro a hf
  refine gA hf hS (i := 5) rfl (by kernel_rfl) (fun w hs => g_ldEP hf hs (.head _) T47 rfl rfl (by omega)) (by decide) ?_; clear hf a; intro a hf
  refine gA hf hS (i := 6) rfl (by kernel_rfl) (fun w hs => g_mv hf rfl) (by decide) ?_; clear hf a; intro a hf
  refine gA hf hS (i := 7) rfl (by kernel_rfl) (fun w hs => g_mv hf rfl) (by decide) ?_; clear hf a; intro a hf
  refine one (i := 8) (by kernel_rfl) ?_
  refine oCall hf hs rfl (c_Item _ _ l _ _ (hs.rd (.tail _ (.tail _ (.head _))))) rfl rfl rfl E83 (by decide) (fun _ h => h.sub (.refl _)) ?_; clear hs hf hS a; intro w a hs hS hf
  refine one (i := 9) (by kernel_rfl) ?_
  refine oCall hf hs rfl (c_Drawn _ _ _ (by omega) _) rfl rfl rfl E47 (by decide) (fun _ h => h.sub (.refl _)) ?_; clear hs hf hS a; intro w a hs hS hf
  refine gA hf hS (i := 10) rfl (by kernel_rfl) (fun w hs => g_as hf rfl) (by decide) ?_; clear hf a; intro a hf
  refine e_done (by kernel_rfl) ?_
  refine c_ret ?_
  refine e_ret1 hf rfl rfl ?_
  exact ⟨by rw [reachZ, Int.toNat_of_nonneg hi1], hs.below⟩

end Go.Proofs.YtpjhffockmnjbaaDoor
set_option linter.unusedVariables false
set_option linter.unusedSimpArgs false
namespace Go.Proofs.YtpjhffockmnjbaaDoor
open Go.RowKit
theorem c_covers (b : Sheet) (fA : Option Addr) (fc : Nat) (rA : Option Addr) (rc : Nat) (x : Flap) (r c q : Int) (h1 : 0 ≤ b.wide ∧ b.wide ≤ 99) (h2 : 0 ≤ b.high ∧ b.high ≤ 99) (h3 : 0 ≤ r ∧ r ≤ 99) (w0 : World) (h : ShIn b fA fc rA rc w0) :
    Calls Tryd.prog 82 #[.agg #[.int .i64 b.wide, .int .i64 b.high, .slice fA b.flaps.length fc, .slice rA b.rules.length rc], .agg #[.int .i64 x.side, .int .i64 x.rl, .int .i64 x.rh, .int .i64 x.al, .int .i64 x.ah], .int .i64 r, .int .i64 c, .int .i64 q] w0 (Ret w0 (.bool (coverB b x r c q))) := by
  refine c_enter (n := 61) Tryd.func82 rfl rfl (Nat.le_of_ble_eq_true rfl) ?_; intro a hf; simp only [zipR] at hf
  have hs := St.start w0 [Rd encF 5 fA b.flaps.length b.flaps, Rd encR 2 rA b.rules.length b.rules] h.stab
  have hfm := h.F.2.1; have hrm := h.R.2.1
  refine c_reg ?_
  refine vL hf (v_boxA hf hs rfl) (by decide) ?_; clear hs hf a; rintro _ w ⟨b1, rfl, hs⟩ a hf
  refine vL hf (v_boxA hf hs rfl) (by decide) ?_; clear hs hf a; rintro _ w ⟨b2, rfl, hs⟩ a hf
  refine gL hf (g_as hf rfl) (by decide) ?_; clear hf a; intro a hf
  refine e_nil ?_
  refine wp_seq ?_
  refine c_reg ?_
  refine gL hf (g_fa (off' := 0) hf F49_0 rfl rfl) (by decide) ?_; clear hf a; intro a hf
  refine gL hf (g_ld hf hs T3 rfl (k := 0) rfl rfl) (by decide) ?_; clear hf a; intro a hf
  refine e_nil ?_
  refine c_block ?_
  refine c_reg ?_
  refine gL hf (g_eql hf rfl rfl) (by decide) ?_; clear hf a; intro a hf
  refine gL hf (g_as hf rfl) (by decide) ?_; clear hf a; intro a hf
  refine e_nil ?_
  refine c_cond hf rfl (fun hc1 => ?_) (fun hc1 => ?_)
  · try simp only [decide_eq_true_eq, decide_eq_false_iff_not] at hc1
    refine c_reg ?_
    refine gL hf (g_mv hf rfl) (by decide) ?_; clear hf a; intro a hf
    refine gL hf (g_mv hf rfl) (by decide) ?_; clear hf a; intro a hf
    refine gL hf (g_lss hf rfl rfl) (by decide) ?_; clear hf a; intro a hf
    refine gL hf (g_mv hf rfl) (by decide) ?_; clear hf a; intro a hf
    refine ggL hf rfl rfl (gyes_t _) (fun hg => g_fa (off' := 3) hf F49_2 rfl rfl) (by decide) ?_; clear hf a; intro a hf
    refine ggL hf rfl rfl (gyes_t _) (fun hg => g_ldP hf hs T47 (ev_gv rfl hg) (k := 0) rfl rfl) (by decide) ?_; clear hf a; intro a hf
    refine ggL hf rfl rfl (gyes_t _) (fun hg => g_mv hf rfl) (by decide) ?_; clear hf a; intro a hf
    refine callG hf hs rfl rfl (gyes_t _) (fun hg => ⟨_, _, _, _, c_Has _ _ _ _, rfl, evs_cons (ev_gv rfl hg) (evs_cons (ev_gv rfl hg) evs_nil), rfl⟩) E107 (by decide) ?_; clear hs hf a; intro w a hs hf
    refine gL hf (g_and hf rfl rfl) (by decide) ?_; clear hf a; intro a hf
    refine gL hf (g_as hf rfl) (by decide) ?_; clear hf a; intro a hf
    refine e_nil ?_
    refine c_ret (q_blkR (q_thenR ?_))
    refine e_ret1 hf rfl rfl ?_
    exact ⟨by unfold coverB; simp_all, hs.below⟩
  · try simp only [decide_eq_true_eq, decide_eq_false_iff_not] at hc1
    refine c_reg ?_
    refine gL hf (g_eql hf rfl rfl) (by decide) ?_; clear hf a; intro a hf
    refine gL hf (g_as hf rfl) (by decide) ?_; clear hf a; intro a hf
    refine e_nil ?_
    refine c_cond hf rfl (fun hc2 => ?_) (fun hc2 => ?_)
    · try simp only [decide_eq_true_eq, decide_eq_false_iff_not] at hc2
      refine c_reg ?_
      refine gL hf (g_mv hf rfl) (by decide) ?_; clear hf a; intro a hf
      refine gL hf (g_fa (off' := 0) hf F25_0 rfl rfl) (by decide) ?_; clear hf a; intro a hf
      refine gL hf (g_ld hf hs T3 rfl (k := 1) rfl rfl) (by decide) ?_; clear hf a; intro a hf
      refine gL hf (g_mv hf rfl) (by decide) ?_; clear hf a; intro a hf
      refine gL hf (g_subI hf rfl rfl (by omega)) (by decide) ?_; clear hf a; intro a hf
      refine gL hf (g_geq hf rfl rfl) (by decide) ?_; clear hf a; intro a hf
      refine gL hf (g_mv hf rfl) (by decide) ?_; clear hf a; intro a hf
      refine ggL hf rfl rfl (gyes_t _) (fun hg => g_fa (off' := 3) hf F49_2 rfl rfl) (by decide) ?_; clear hf a; intro a hf
      refine ggL hf rfl rfl (gyes_t _) (fun hg => g_ldP hf hs T47 (ev_gv rfl hg) (k := 0) rfl rfl) (by decide) ?_; clear hf a; intro a hf
      refine ggL hf rfl rfl (gyes_t _) (fun hg => g_mv hf rfl) (by decide) ?_; clear hf a; intro a hf
      refine callG hf hs rfl rfl (gyes_t _) (fun hg => ⟨_, _, _, _, c_Has _ _ _ _, rfl, evs_cons (ev_gv rfl hg) (evs_cons (ev_gv rfl hg) evs_nil), rfl⟩) E107 (by decide) ?_; clear hs hf a; intro w a hs hf
      refine gL hf (g_and hf rfl rfl) (by decide) ?_; clear hf a; intro a hf
      refine gL hf (g_as hf rfl) (by decide) ?_; clear hf a; intro a hf
      refine e_nil ?_
      refine c_ret (q_blkR (q_thenR ?_))
      refine e_ret1 hf rfl rfl ?_
      exact ⟨by unfold coverB; simp_all, hs.below⟩
    · try simp only [decide_eq_true_eq, decide_eq_false_iff_not] at hc2
      refine c_reg ?_
      refine gL hf (g_eql hf rfl rfl) (by decide) ?_; clear hf a; intro a hf
      refine gL hf (g_as hf rfl) (by decide) ?_; clear hf a; intro a hf
      refine e_nil ?_
      refine c_cond hf rfl (fun hc3 => ?_) (fun hc3 => ?_)
      · try simp only [decide_eq_true_eq, decide_eq_false_iff_not] at hc3
        refine c_reg ?_
        refine gL hf (g_mv hf rfl) (by decide) ?_; clear hf a; intro a hf
        refine gL hf (g_mv hf rfl) (by decide) ?_; clear hf a; intro a hf
        refine gL hf (g_lss hf rfl rfl) (by decide) ?_; clear hf a; intro a hf
        refine gL hf (g_mv hf rfl) (by decide) ?_; clear hf a; intro a hf
        refine ggL hf rfl rfl (gyes_t _) (fun hg => g_fa (off' := 3) hf F49_2 rfl rfl) (by decide) ?_; clear hf a; intro a hf
        refine ggL hf rfl rfl (gyes_t _) (fun hg => g_ldP hf hs T47 (ev_gv rfl hg) (k := 0) rfl rfl) (by decide) ?_; clear hf a; intro a hf
        refine ggL hf rfl rfl (gyes_t _) (fun hg => g_mv hf rfl) (by decide) ?_; clear hf a; intro a hf
        refine callG hf hs rfl rfl (gyes_t _) (fun hg => ⟨_, _, _, _, c_Has _ _ _ _, rfl, evs_cons (ev_gv rfl hg) (evs_cons (ev_gv rfl hg) evs_nil), rfl⟩) E107 (by decide) ?_; clear hs hf a; intro w a hs hf
        refine gL hf (g_and hf rfl rfl) (by decide) ?_; clear hf a; intro a hf
        refine gL hf (g_as hf rfl) (by decide) ?_; clear hf a; intro a hf
        refine e_nil ?_
        refine c_ret (q_blkR (q_thenR ?_))
        refine e_ret1 hf rfl rfl ?_
        exact ⟨by unfold coverB; simp_all, hs.below⟩
      · try simp only [decide_eq_true_eq, decide_eq_false_iff_not] at hc3
        refine c_skip (q_blkN (q_thenN ?_))
        refine c_reg ?_
        refine gL hf (g_mv hf rfl) (by decide) ?_; clear hf a; intro a hf
        refine gL hf (g_fa (off' := 1) hf F25_1 rfl rfl) (by decide) ?_; clear hf a; intro a hf
        refine gL hf (g_ld hf hs T3 rfl (k := 1) rfl rfl) (by decide) ?_; clear hf a; intro a hf
        refine gL hf (g_mv hf rfl) (by decide) ?_; clear hf a; intro a hf
        refine gL hf (g_subI hf rfl rfl (by omega)) (by decide) ?_; clear hf a; intro a hf
        refine gL hf (g_geq hf rfl rfl) (by decide) ?_; clear hf a; intro a hf
        refine gL hf (g_mv hf rfl) (by decide) ?_; clear hf a; intro a hf
        refine ggL hf rfl rfl (gyes_t _) (fun hg => g_fa (off' := 3) hf F49_2 rfl rfl) (by decide) ?_; clear hf a; intro a hf
        refine ggL hf rfl rfl (gyes_t _) (fun hg => g_ldP hf hs T47 (ev_gv rfl hg) (k := 0) rfl rfl) (by decide) ?_; clear hf a; intro a hf
        refine ggL hf rfl rfl (gyes_t _) (fun hg => g_mv hf rfl) (by decide) ?_; clear hf a; intro a hf
        refine callG hf hs rfl rfl (gyes_t _) (fun hg => ⟨_, _, _, _, c_Has _ _ _ _, rfl, evs_cons (ev_gv rfl hg) (evs_cons (ev_gv rfl hg) evs_nil), rfl⟩) E107 (by decide) ?_; clear hs hf a; intro w a hs hf
        refine gL hf (g_and hf rfl rfl) (by decide) ?_; clear hf a; intro a hf
        refine gL hf (g_as hf rfl) (by decide) ?_; clear hf a; intro a hf
        refine e_nil ?_
        refine c_ret ?_
        refine e_ret1 hf rfl rfl ?_
        exact ⟨by unfold coverB; simp_all, hs.below⟩

end Go.Proofs.YtpjhffockmnjbaaDoor
set_option linter.unusedVariables false
set_option linter.unusedSimpArgs false
namespace Go.Proofs.YtpjhffockmnjbaaDoor
open Go.RowKit
theorem c_meets (b : Sheet) (fA : Option Addr) (fc : Nat) (rA : Option Addr) (rc : Nat) (i r j s : Int) (hv : Valid b) (hi : inN b i) (hj : inN b j) (hr9 : 0 ≤ r ∧ r ≤ 99) (hs9 : 0 ≤ s ∧ s ≤ 99) (w0 : World) (h : ShIn b fA fc rA rc w0) :
    Calls Tryd.prog 40 #[.agg #[.int .i64 b.wide, .int .i64 b.high, .slice fA b.flaps.length fc, .slice rA b.rules.length rc], .int .i64 i, .int .i64 r, .int .i64 j, .int .i64 s] w0 (Ret w0 (.bool (squareB b i r j s))) := by
  refine c_enter (n := 47) Tryd.func40 rfl rfl (Nat.le_of_ble_eq_true rfl) ?_; intro a hf; simp only [zipR] at hf
  have hs := St.start w0 [Rd encF 5 fA b.flaps.length b.flaps, Rd encR 2 rA b.rules.length b.rules] h.stab
  have hfm := h.F.2.1; have hrm := h.R.2.1
  have hw1 : 0 ≤ b.wide ∧ b.wide ≤ 99 := ⟨by have := hv.wide; omega, hv.wide.2⟩
  have hw2 : 0 ≤ b.high ∧ b.high ≤ 99 := ⟨by have := hv.high; omega, hv.high.2⟩
  have hi1 := hi.1; have hi2 := hi.2; have hj1 := hj.1; have hj2 := hj.2
  refine c_reg ?_
  refine vL hf (v_boxA hf hs rfl) (by decide) ?_; clear hs hf a; rintro _ w ⟨b1, rfl, hs⟩ a hf
  refine gL hf (g_as hf rfl) (by decide) ?_; clear hf a; intro a hf
  refine e_nil ?_
  refine wp_seq ?_
  refine c_reg ?_
  refine gL hf (g_as hf rfl) (by decide) ?_; clear hf a; intro a hf
  refine e_nil ?_
  refine c_block ?_
  refine c_loop hf hs (List.range' 10 37) (σ := Nat) (fun c => [(11, .int .i64 (c : Nat))]) (fun c => _) (fun c => ((c : Nat) : Int) ≤ b.wide ∧ ∀ x : Nat, x < c → ∀ y : Nat, ((y : Nat) : Int) < b.high → bothB b i r j s x y = false) (fun c => b.wide.toNat - c) 0 ⟨by omega, fun x hx => absurd hx (by omega)⟩ (.cons rfl .nil) rfl ?_
  intro c a w hJ hf hs
  obtain ⟨hc9, hp⟩ := hJ
  refine wp_seq ?_
  refine c_reg ?_
  refine gL hf (g_mv hf rfl) (by decide) ?_; clear hf a; intro a hf
  refine gL hf (g_fa (off' := 0) hf F25_0 rfl rfl) (by decide) ?_; clear hf a; intro a hf
  refine gL hf (g_ld hf hs T3 rfl (k := 0) rfl rfl) (by decide) ?_; clear hf a; intro a hf
  refine gL hf (g_lss hf rfl rfl) (by decide) ?_; clear hf a; intro a hf
  refine e_nil ?_
  refine c_cond hf rfl (fun hc1 => ?_) (fun hc1 => ?_)
  · try simp only [decide_eq_true_eq, decide_eq_false_iff_not] at hc1
    refine c_skip (q_thenN ?_)
    refine c_blockS ?_
    refine c_reg ?_
    refine gL hf (g_as hf rfl) (by decide) ?_; clear hf a; intro a hf
    refine e_nil ?_
    refine c_block ?_
    refine c_loop hf hs (List.range' 10 1 ++ List.range' 12 1 ++ List.range' 19 28) (σ := Nat) (fun q => [(12, .int .i64 (q : Nat))]) (fun q => _) (fun q => ((q : Nat) : Int) ≤ b.high ∧ ∀ y : Nat, y < q → bothB b i r j s c y = false) (fun q => b.high.toNat - q) 0 ⟨by omega, fun x hx => absurd hx (by omega)⟩ (.cons rfl .nil) rfl ?_
    intro q a w hJ hf hs
    obtain ⟨hq9, hq⟩ := hJ
    refine wp_seq ?_
    refine c_reg ?_
    refine gL hf (g_mv hf rfl) (by decide) ?_; clear hf a; intro a hf
    refine gL hf (g_fa (off' := 1) hf F25_1 rfl rfl) (by decide) ?_; clear hf a; intro a hf
    refine gL hf (g_ld hf hs T3 rfl (k := 0) rfl rfl) (by decide) ?_; clear hf a; intro a hf
    refine gL hf (g_lss hf rfl rfl) (by decide) ?_; clear hf a; intro a hf
    refine e_nil ?_
    refine c_cond hf rfl (fun hc2 => ?_) (fun hc2 => ?_)
    · try simp only [decide_eq_true_eq, decide_eq_false_iff_not] at hc2
      refine c_skip (q_thenN ?_)
      refine c_blockS ?_
      refine c_draw _ 22 Mx rfl hs (fun _ h => h) ?_; intro w hs hS
      refine gA hf hS (i := 0) rfl (by kernel_rfl) (fun w hs => g_ldW hf hs T25 rfl (k := 0) rfl rfl) (by decide) ?_; clear hf a; intro a hf
      refine gA hf hS (i := 1) rfl (by kernel_rfl) (fun w hs => g_fa (off' := 2) hf F25_2 rfl rfl) (by decide) ?_; clear hf a; intro a hf
      refine gA hf hS (i := 2) rfl (by kernel_rfl) (fun w hs => g_ld hf hs T22 rfl (k := 0) rfl rfl) (by decide) ?_; clear hf a; intro a hf
      refine gA hf hS (i := 3) rfl (by kernel_rfl) (fun w hs => g_mv hf rfl) (by decide) ?_; clear hf a; intro a hf
      (first | (refine gA hf hS (i := 4) rfl (by kernel_rfl) (fun w hs => g_ixE hf hs (.head _) SL22 rfl rfl (by omega)) (by decide) ?_) | (refine gA hf hS (i := 4) rfl (by kernel_rfl) (fun w hs => g_ixD hf hs (.head _) SL22 rfl rfl (by omega)) (by decide) ?_)); clear hf a; intro a hf
      refine gA hf hS (i := 5) rfl (by kernel_rfl) (fun w hs => g_ldEW hf hs (.head _) T49 rfl rfl (by omega)) (by decide) ?_; clear hf a; intro a hf
      refine gA hf hS (i := 6) rfl (by kernel_rfl) (fun w hs => g_mv hf rfl) (by decide) ?_; clear hf a; intro a hf
      refine gA hf hS (i := 7) rfl (by kernel_rfl) (fun w hs => g_mv hf rfl) (by decide) ?_; clear hf a; intro a hf
      refine gA hf hS (i := 8) rfl (by kernel_rfl) (fun w hs => g_mv hf rfl) (by decide) ?_; clear hf a; intro a hf
      refine one (i := 9) (by kernel_rfl) ?_
      refine oCall hf hs rfl (c_covers b _ _ _ _ (flapA b i) r ((c : Nat) : Int) ((q : Nat) : Int) hw1 hw2 hr9 _ ⟨hs.rd (.head _), hs.rd (.tail _ (.head _)), h.fc_, h.rc_⟩) rfl rfl rfl E82 (by decide) (fun _ h => h.sub (.refl _)) ?_; clear hs hf hS a; intro w a hs hS hf
      refine gA hf hS (i := 10) rfl (by kernel_rfl) (fun w hs => g_mv hf rfl) (by decide) ?_; clear hf a; intro a hf
      refine ggA hf hS (i := 11) rfl (by kernel_rfl) rfl rfl (gyes_t _) (fun hg w hs => g_ldW hf hs T25 rfl (k := 0) rfl rfl) (by decide) ?_; clear hf a; intro a hf
      refine ggA hf hS (i := 12) rfl (by kernel_rfl) rfl rfl (gyes_t _) (fun hg w hs => g_fa (off' := 2) hf F25_2 rfl rfl) (by decide) ?_; clear hf a; intro a hf
      refine ggA hf hS (i := 13) rfl (by kernel_rfl) rfl rfl (gyes_t _) (fun hg w hs => g_ld hf hs T22 (ev_gv rfl hg) (k := 0) rfl rfl) (by decide) ?_; clear hf a; intro a hf
      refine ggA hf hS (i := 14) rfl (by kernel_rfl) rfl rfl (gyes_t _) (fun hg w hs => g_mv hf rfl) (by decide) ?_; clear hf a; intro a hf
      (first | (refine ggA hf hS (i := 15) rfl (by kernel_rfl) rfl rfl (gyes_t _) (fun hg w hs => g_ixE hf hs (.head _) SL22 (ev_gv rfl hg) (ev_gv rfl hg) (by omega)) (by decide) ?_) | (refine ggA hf hS (i := 15) rfl (by kernel_rfl) rfl rfl (gyes_t _) (fun hg w hs => g_ixD hf hs (.head _) SL22 (ev_gv rfl hg) (ev_gv rfl hg) (by omega)) (by decide) ?_)); clear hf a; intro a hf
      refine ggA hf hS (i := 16) rfl (by kernel_rfl) rfl rfl (gyes_t _) (fun hg w hs => g_ldEW hf hs (.head _) T49 (ev_gv rfl hg) rfl (by omega)) (by decide) ?_; clear hf a; intro a hf
      refine ggA hf hS (i := 17) rfl (by kernel_rfl) rfl rfl (gyes_t _) (fun hg w hs => g_mv hf rfl) (by decide) ?_; clear hf a; intro a hf
      refine ggA hf hS (i := 18) rfl (by kernel_rfl) rfl rfl (gyes_t _) (fun hg w hs => g_mv hf rfl) (by decide) ?_; clear hf a; intro a hf
      refine ggA hf hS (i := 19) rfl (by kernel_rfl) rfl rfl (gyes_t _) (fun hg w hs => g_mv hf rfl) (by decide) ?_; clear hf a; intro a hf
      refine one (i := 20) (by kernel_rfl) ?_
      refine oCallG hf hs rfl rfl rfl (gyes_t _) (fun hg => ⟨_, _, _, _, c_covers b _ _ _ _ (flapA b j) s ((c : Nat) : Int) ((q : Nat) : Int) hw1 hw2 hs9 _ ⟨hs.rd (.head _), hs.rd (.tail _ (.head _)), h.fc_, h.rc_⟩, rfl, evs_cons (ev_gv rfl hg) (evs_cons (ev_gv rfl hg) (evs_cons (ev_gv rfl hg) (evs_cons (ev_gv rfl hg) (evs_cons (ev_gv rfl hg) evs_nil)))), rfl⟩) E82 (by decide) (fun _ h => h.sub (.refl _)) ?_; clear hs hf hS a; intro w a hs hS hf
      refine gA hf hS (i := 21) rfl (by kernel_rfl) (fun w hs => g_and hf rfl rfl) (by decide) ?_; clear hf a; intro a hf
      refine e_done (by kernel_rfl) ?_
      refine c_cond hf rfl (fun hc3 => ?_) (fun hc3 => ?_)
      · skip
        refine c_reg ?_
        refine gL hf (g_as hf rfl) (by decide) ?_; clear hf a; intro a hf
        refine e_nil ?_
        refine c_ret (q_blkR (q_thenR (q_thenR (q_blkR (q_blkR (q_thenR (q_thenR (q_blkR (q_thenR ?_)))))))))
        refine e_ret1 hf rfl rfl ?_
        exact ⟨by rw [square_yes (c := c) (q := q) (by omega) (by omega) hc3], hs.below⟩
      · skip
        refine c_skip (q_blkN (q_thenN ?_))
        refine c_reg1 ?_
        refine gL hf (g_mv hf rfl) (by decide) ?_; clear hf a; intro a hf
        refine gL hf (g_addI hf rfl rfl (by omega)) (by decide) ?_; clear hf a; intro a hf
        refine gL hf (g_as hf rfl) (by decide) ?_; clear hf a; intro a hf
        refine e_nil1 (q_thenN ?_)
        exact ⟨q + 1, ⟨by omega, lt_succ hq hc3⟩, (by omega), hf.back (by repeat (first | (with_reducible exact Ext.base) | ((with_reducible refine Ext.cons ?_ ?_); (· rfl)) | ((with_reducible refine Ext.over ?_ ?_ ?_); (· rfl); (· rfl)))) (allKeys rfl) (.cons rfl .nil), hs.dropN 0⟩
    · try simp only [decide_eq_true_eq, decide_eq_false_iff_not] at hc2
      refine c_exit (q_thenX (q_thenX (q_blkX (q_blkN (q_thenN ?_)))))
      refine c_reg1 ?_
      refine gL hf (g_mv hf rfl) (by decide) ?_; clear hf a; intro a hf
      refine gL hf (g_addI hf rfl rfl (by omega)) (by decide) ?_; clear hf a; intro a hf
      refine gL hf (g_as hf rfl) (by decide) ?_; clear hf a; intro a hf
      refine e_nil1 (q_thenN ?_)
      exact ⟨c + 1, ⟨by omega, lt_succ hp (fun y hy => hq y (by omega))⟩, (by omega), hf.back (by repeat (first | (with_reducible exact Ext.base) | ((with_reducible refine Ext.cons ?_ ?_); (· rfl)) | ((with_reducible refine Ext.over ?_ ?_ ?_); (· rfl); (· rfl)))) (allKeys rfl) (.cons rfl .nil), hs.dropN 0⟩
  · try simp only [decide_eq_true_eq, decide_eq_false_iff_not] at hc1
    refine c_exit (q_thenX (q_thenX (q_blkX (q_thenN ?_))))
    refine c_reg ?_
    refine gL hf (g_as hf rfl) (by decide) ?_; clear hf a; intro a hf
    refine e_nil ?_
    refine c_ret ?_
    refine e_ret1 hf rfl rfl ?_
    exact ⟨by rw [square_no (fun x hx => hp x (by omega))], hs.below⟩

end Go.Proofs.YtpjhffockmnjbaaDoor
set_option linter.unusedVariables false
set_option linter.unusedSimpArgs false
namespace Go.Proofs.YtpjhffockmnjbaaDoor
open Go.RowKit
theorem c_Drop (b : Sheet) (fA : Option Addr) (fc : Nat) (rA : Option Addr) (rc : Nat) (ge : TypeId) (gz : Nat × Nat)  (w0 : World) (h : ShIn b fA fc rA rc w0) (hG : BlkIs 0 sidesA ge gz w0) :
    Calls Tryd.prog 33 #[.agg #[.int .i64 b.wide, .int .i64 b.high, .slice fA b.flaps.length fc, .slice rA b.rules.length rc]] w0 (RetX w0 (fun v w0' => ∃ A c, v = .tuple #[.slice A (dropP b).1.length c, .int .i64 (dropP b).2] ∧ Out (dropP b).1 A c w0 w0')) := by
  refine c_enter (n := 88) Tryd.func33 rfl rfl (Nat.le_of_ble_eq_true rfl) ?_; intro a hf; simp only [zipR] at hf
  have hs := St.start w0 [Rd encF 5 fA b.flaps.length b.flaps, Rd encR 2 rA b.rules.length b.rules, BlkIs 0 sidesA ge gz] (stab_app h.stab hG.st1)
  have hfm := h.F.2.1; have hrm := h.R.2.1
  refine c_reg ?_
  refine vL hf (v_boxA hf hs rfl) (by decide) ?_; clear hs hf a; rintro _ w ⟨b1, rfl, hs⟩ a hf
  refine gL hf (g_as hf rfl) (by decide) ?_; clear hf a; intro a hf
  refine gL hf (g_as hf rfl) (by decide) ?_; clear hf a; intro a hf
  refine e_nil ?_
  refine c_reg ?_
  refine gL hf (g_ldW hf hs T25 rfl (k := 0) rfl rfl) (by decide) ?_; clear hf a; intro a hf
  refine callX hf hs (c_asked b _ _ _ _ _ _ true _ ⟨hs.rd (.head _), hs.rd (.tail _ (.head _)), h.fc_, h.rc_⟩ (hs.rd (.tail _ (.tail _ (.head _))))) rfl rfl rfl E54 (by decide) ?_; intro v w1 a hR hb hs1 hf; obtain ⟨cs, mb, mp, rfl, hcl, hcp, hcm⟩ := hR; replace hs := hs.fresh hs1 (condFresh fun he => (hcm he).2.2); clear hs1 hb
  refine gL hf (g_mv hf rfl) (by decide) ?_; clear hf a; intro a hf
  refine gL hf (g_ext hf rfl rfl) (by decide) ?_; clear hf a; intro a hf
  refine gL hf (g_ext hf rfl rfl) (by decide) ?_; clear hf a; intro a hf
  refine vL hf (v_alloc hs T69 rfl) (by decide) ?_; clear hs hf a; rintro _ w ⟨b2, rfl, hs⟩ a hf
  refine uL (u_stW hf hs T69 rfl rfl hcp (k := 0) rfl hcl hcl) ?_; clear hs; intro w hs; dsimp only [List.set] at hs
  refine gL hf (g_as hf rfl) (by decide) ?_; clear hf a; intro a hf
  refine e_nil ?_
  refine wp_seq ?_
  refine c_reg ?_
  refine gL hf (g_mv hf rfl) (by decide) ?_; clear hf a; intro a hf
  refine gL hf (g_neq hf rfl rfl) (by decide) ?_; clear hf a; intro a hf
  refine e_nil ?_
  refine c_cond hf rfl (fun hc1 => ?_) (fun hc1 => ?_)
  · try simp only [decide_eq_true_eq, decide_eq_false_iff_not] at hc1
    have he : ¬ askE b true = 0 := by simpa using hc1
    refine c_reg ?_
    refine gL hf (g_mv hf rfl) (by decide) ?_; clear hf a; intro a hf
    refine gL hf (g_as hf rfl) (by decide) ?_; clear hf a; intro a hf
    refine gL hf (g_as hf rfl) (by decide) ?_; clear hf a; intro a hf
    refine e_nil ?_
    refine c_ret (q_thenR ?_)
    refine e_ret2 hf rfl rfl rfl ?_
    have hor : dropP b = ([], askE b true) := by simp only [dropP, if_neg he]
    exact ⟨_, rfl, hs.below, none, 0, by rw [hor]; rfl, by rw [hor]; exact ⟨Nat.le_refl _, rd_nil, fun b o e => by cases e⟩⟩
  · try simp only [decide_eq_true_eq, decide_eq_false_iff_not] at hc1
    have he : askE b true = 0 := by simpa using hc1
    obtain ⟨rfl, hmo, _, _⟩ := hcm he
    replace hs := hs.un (fun w h => h he)
    have hok := askE_zero he
    have hv := valid_of hok.1
    have hall := allOrds_eq hv hmo
    have hmany := hv.many
    have hrl := hv.rules
    have hpw : 2 ^ b.rules.length ≤ 1024 := Nat.pow_le_pow_right (n := 2) (by decide) hrl
    refine c_skip (q_thenN ?_)
    refine c_reg ?_
    refine gL hf (g_as hf rfl) (by decide) ?_; clear hf a; intro a hf
    refine e_nil ?_
    refine c_reg ?_
    refine gL hf (g_as hf rfl) (by decide) ?_; clear hf a; intro a hf
    refine e_nil ?_
    refine wp_seq ?_
    refine c_reg ?_
    refine gL hf (g_fa (off' := 3) hf F25_3 rfl rfl) (by decide) ?_; clear hf a; intro a hf
    refine gL hf (g_ld hf hs T23 rfl (k := 1) rfl rfl) (by decide) ?_; clear hf a; intro a hf
    refine gL hf (g_len hf SL23 rfl) (by decide) ?_; clear hf a; intro a hf
    refine gL hf (g_shl hf rfl rfl (by omega)) (by decide) ?_; clear hf a; intro a hf
    refine gL hf (g_mv hf rfl) (by decide) ?_; clear hf a; intro a hf
    refine e_nil ?_
    refine c_block ?_
    rw [pow_wrap hrl] at hf
    replace hs := hs.addD (D := Rd encI 1 none 0 []) (rd_nil.stable (fun b off e => by cases e))
    refine c_loopD (fun s => Base.of w0) (fun s => Rd encI 1 s.2.1 (s.2.2.2.getD []).length (s.2.2.2.getD []) :: MapIs mb mp :: Rd encF 5 fA b.flaps.length b.flaps :: Rd encR 2 rA b.rules.length b.rules :: BlkIs 0 sidesA ge gz :: []) hf (List.range' 6 7 ++ List.range' 25 57) (σ := (Nat × Option Addr × Nat × Option (List Int))) (fun s => [(6, .slice s.2.1 (s.2.2.2.getD []).length s.2.2.1), (7, .bool s.2.2.2.isSome), (25, .int .i64 (s.1 : Nat))]) (fun s => _) (fun s => s.1 ≤ 2 ^ b.rules.length ∧ s.2.2.2 = dropF b s.1 ∧ (s.2.2.2.getD []).length ≤ s.2.2.1 ∧ (s.2.2.2.getD []).length ≤ 10 ∧ ∀ bk off, s.2.1 = some ⟨bk, off, none⟩ → w0.heap.size ≤ bk) (fun s => 2 ^ b.rules.length - s.1) (0, none, 0, none) hs ⟨Nat.zero_le _, rfl, Nat.le_refl _, Nat.zero_le _, fun bk off e => by cases e⟩ (.cons rfl (.cons rfl (.cons rfl .nil))) ?_
    intro ⟨k, Ab, cb, ob⟩ a w hJ hf hs
    dsimp only at hJ hf hs
    obtain ⟨hk1, hob, hcb, hl10, hAb⟩ := hJ
    refine c_reg ?_
    refine gL hf (g_lss hf rfl rfl) (by decide) ?_; clear hf a; intro a hf
    refine e_nil ?_
    refine c_condS hf rfl (fun hc2 => ?_) (fun hc2 => ?_)
    · try simp only [decide_eq_true_eq, decide_eq_false_iff_not] at hc2
      refine c_skip (q_thenN ?_)
      refine c_blockS ?_
      refine c_reg ?_
      refine gL hf (g_mv hf rfl) (by decide) ?_; clear hf a; intro a hf
      refine gL hf (g_as hf rfl) (by decide) ?_; clear hf a; intro a hf
      refine e_nil ?_
      refine c_reg ?_
      refine gL hf (g_ldW hf hs T69 rfl (k := 0) rfl rfl) (by decide) ?_; clear hf a; intro a hf
      refine vL hf (v_alloc hs T69 rfl) (by decide) ?_; clear hs hf a; rintro _ w ⟨b3, rfl, hs⟩ a hf
      refine uL (u_stW hf hs T69 rfl rfl rfl (k := 0) rfl rfl rfl) ?_; clear hs; intro w hs; dsimp only [List.set] at hs
      refine e_nil ?_
      refine c_reg ?_
      refine gL hf (g_fa (off' := 0) hf F69_0 rfl rfl) (by decide) ?_; clear hf a; intro a hf
      refine gL hf (g_fa (off' := 3) hf F25_3 rfl rfl) (by decide) ?_; clear hf a; intro a hf
      refine uL (u_st hf hs T23 rfl rfl rfl (k := 0) rfl (Nat.le_of_ble_eq_true rfl)) ?_; clear hs; intro w hs; dsimp only [List.set] at hs
      refine e_nil ?_
      refine c_reg ?_
      refine gL hf (g_as hf rfl) (by decide) ?_; clear hf a; intro a hf
      refine e_nil ?_
      refine wp_seq ?_
      refine c_reg ?_
      refine gL hf (g_fa (off' := 3) hf F25_3 rfl rfl) (by decide) ?_; clear hf a; intro a hf
      refine gL hf (g_ld hf hs T23 rfl (k := 2) rfl rfl) (by decide) ?_; clear hf a; intro a hf
      refine gL hf (g_len hf SL23 rfl) (by decide) ?_; clear hf a; intro a hf
      refine gL hf (g_mv hf rfl) (by decide) ?_; clear hf a; intro a hf
      refine e_nil ?_
      refine c_block ?_
      refine c_loop hf hs (List.range' 10 3 ++ List.range' 34 23) (σ := (Nat × Acc × Acc)) (fun s => [(10, accV 1 (outL ((k : Nat) : Int) s.1).length s.2.1), (34, .int .i64 (s.1 : Nat))]) (fun s => (b3, .cells #[.int .i64 b.wide, .int .i64 b.high, .slice fA b.flaps.length fc, accV 2 (keepR b ((k : Nat) : Int) s.1).length s.2.2, .map (some mb)] 69 (0, 0)) :: (b2, .cells (sh5 b fA fc rA rc mb).toArray 69 (0, 0)) :: (b1, .cells #[.int .i64 b.wide, .int .i64 b.high, .slice fA b.flaps.length fc, .slice rA b.rules.length rc] 25 (0, 0)) :: (accH 3 s.2.1 ++ accH 64 s.2.2)) (fun s => s.1 ≤ b.rules.length ∧ AccOK encI 1 (outL ((k : Nat) : Int) s.1) s.2.1 ∧ AccOK encR 2 (keepR b ((k : Nat) : Int) s.1) s.2.2) (fun s => b.rules.length - s.1) (0, none, none) ⟨Nat.zero_le _, rfl, rfl⟩ (.cons rfl (.cons rfl .nil)) rfl ?_
      intro ⟨j, oa, oy⟩ a w hJ hf hs
      dsimp only at hJ hf hs
      obtain ⟨hj, hoa, hoy⟩ := hJ
      refine c_reg ?_
      refine gL hf (g_lss hf rfl rfl) (by decide) ?_; clear hf a; intro a hf
      refine e_nil ?_
      refine c_condS hf rfl (fun hc3 => ?_) (fun hc3 => ?_)
      · try simp only [decide_eq_true_eq, decide_eq_false_iff_not] at hc3
        have hj9 : j < b.rules.length := by omega
        have hkl := keep_le b ((k : Nat) : Int) j; have hol := out_le ((k : Nat) : Int) j
        refine c_skip (q_thenN ?_)
        refine c_blockS ?_
        refine c_reg ?_
        refine gL hf (g_mv hf rfl) (by decide) ?_; clear hf a; intro a hf
        (first | (refine gL hf (g_ixE hf hs (.tail _ (.tail _ (.tail _ (.head _)))) SL23 rfl rfl (by omega)) (by decide) ?_) | (refine gL hf (g_ixD hf hs (.tail _ (.tail _ (.tail _ (.head _)))) SL23 rfl rfl (by omega)) (by decide) ?_)); clear hf a; intro a hf
        refine gL hf (g_ldEW hf hs (.tail _ (.tail _ (.tail _ (.head _)))) T64 rfl rfl (by omega)) (by decide) ?_; clear hf a; intro a hf
        refine vL hf (v_alloc hs T64 rfl) (by decide) ?_; clear hs hf a; rintro _ w ⟨b4, rfl, hs⟩ a hf
        refine gL hf (g_as hf rfl) (by decide) ?_; clear hf a; intro a hf
        refine uL (u_stW hf hs T64 rfl rfl rfl (k := 0) rfl rfl rfl) ?_; clear hs; intro w hs; dsimp only [List.set] at hs
        refine e_nil ?_
        refine c_reg ?_
        refine gL hf (g_mv hf rfl) (by decide) ?_; clear hf a; intro a hf
        refine gL hf (g_mv hf rfl) (by decide) ?_; clear hf a; intro a hf
        refine gL hf (g_shr hf rfl rfl (by omega)) (by decide) ?_; clear hf a; intro a hf
        refine gL hf (g_band hf rfl rfl) (by decide) ?_; clear hf a; intro a hf
        refine gL hf (g_eql hf rfl rfl) (by decide) ?_; clear hf a; intro a hf
        refine e_nil ?_
        refine c_cond hf rfl (fun hc4 => ?_) (fun hc4 => ?_)
        · skip
          have hc4 : bitI ((k : Nat) : Int) j = true := hc4
          refine c_reg1 ?_
          refine gL hf (g_mv hf rfl) (by decide) ?_; clear hf a; intro a hf
          refine gL hf (g_mv hf rfl) (by decide) ?_; clear hf a; intro a hf
          refine vL hf (v_lits (len := 1) hf hs SL27 T3 (.cons rfl .nil) rfl rfl rfl rfl (by decide) rfl) (by decide) ?_; clear hs hf a; rintro _ w ⟨b5, rfl, hs⟩ a hf
          refine vL hf (v_accN (e := 3) (R := accH 64 oy) (o := oa) hf 5 hs rfl hoa AP27 (enc := encI) (l := (outL ((k : Nat) : Int) j)) (l' := [((j : Nat) : Int)]) (fun _ => rfl) (by decide) (by intro x v hv9; rw [List.mem_singleton.1 hv9]; rfl) rfl rfl rfl (rd_one rfl (hs.own _ _ (.head _)).2) (by omega) (by decide)) (by decide) ?_; clear hs hf a; rintro _ w ⟨oa2, rfl, hoa2, hs⟩ a hf; dsimp only [List.take, List.cons_append, List.nil_append] at hs
          rw [show (outL ((k : Nat) : Int) j).length + 1 = (outL ((k : Nat) : Int) (j + 1)).length by rw [out_yes hc4, List.length_append]; rfl] at hf
          rw [← out_yes hc4] at hoa2; rw [← keep_yes (b := b) hc4] at hs hoy
          refine gL hf (g_as hf rfl) (by decide) ?_; clear hf a; intro a hf
          refine e_nil1 (q_blkN (q_thenN ?_))
          refine c_reg1 ?_
          refine gL hf (g_addI hf rfl rfl (by omega)) (by decide) ?_; clear hf a; intro a hf
          refine gL hf (g_mv hf rfl) (by decide) ?_; clear hf a; intro a hf
          refine e_nil1 (q_thenN ?_)
          first | exact ⟨(j + 1, oa2, oy), ⟨by dsimp only; omega, hoa2, hoy⟩, (by dsimp only; omega), hf.back (by repeat (first | (with_reducible exact Ext.base) | ((with_reducible refine Ext.cons ?_ ?_); (· rfl)) | ((with_reducible refine Ext.over ?_ ?_ ?_); (· rfl); (· rfl)))) (allKeys rfl) (.cons rfl (.cons rfl .nil)), hs.dropN 2⟩ | exact ⟨(j + 1, oa, oy2), ⟨by dsimp only; omega, hoa, hoy2⟩, (by dsimp only; omega), hf.back (by repeat (first | (with_reducible exact Ext.base) | ((with_reducible refine Ext.cons ?_ ?_); (· rfl)) | ((with_reducible refine Ext.over ?_ ?_ ?_); (· rfl); (· rfl)))) (allKeys rfl) (.cons rfl (.cons rfl .nil)), hs.dropN 2⟩
        · skip
          have hc4 : bitI ((k : Nat) : Int) j = false := hc4
          refine c_reg1 ?_
          refine gL hf (g_fa (off' := 0) hf F69_0 rfl rfl) (by decide) ?_; clear hf a; intro a hf
          refine gL hf (g_fa (off' := 3) hf F25_3 rfl rfl) (by decide) ?_; clear hf a; intro a hf
          refine gL hf (g_ld hf hs T23 rfl (k := 1) rfl rfl) (by decide) ?_; clear hf a; intro a hf
          refine gL hf (g_ldW hf hs T64 rfl (k := 0) rfl rfl) (by decide) ?_; clear hf a; intro a hf
          refine vL hf (v_lits (len := 1) hf hs SL23 T64 (.cons rfl .nil) rfl rfl rfl rfl (by decide) rfl) (by decide) ?_; clear hs hf a; rintro _ w ⟨b5, rfl, hs⟩ a hf
          replace hs := hs.swapN (X := accH 3 oa) (Y := accH 64 oy) 5 rfl; dsimp only [List.take, List.cons_append, List.nil_append] at hs
          refine vL hf (v_accN (e := 64) (R := accH 3 oa) (o := oy) hf 5 hs rfl hoy AP23 (enc := encR) (l := (keepR b ((k : Nat) : Int) j)) (l' := [b.rules.getD j default]) (fun _ => rfl) (by decide) (by intro x v hv9; simp only [encR, List.mem_cons, List.not_mem_nil, or_false] at hv9; rcases hv9 with rfl | rfl <;> rfl) rfl rfl rfl (rd_single (enc := encR) rfl (hs.own _ _ (.head _)).2) (by omega) (by decide)) (by decide) ?_; clear hs hf a; rintro _ w ⟨oy2, rfl, hoy2, hs⟩ a hf; dsimp only [List.take, List.cons_append, List.nil_append] at hs
          replace hs := hs.swapN (X := accH 64 oy2) (Y := accH 3 oa) 5 rfl; dsimp only [List.take, List.cons_append, List.nil_append] at hs
          rw [show (keepR b ((k : Nat) : Int) j).length + 1 = (keepR b ((k : Nat) : Int) (j + 1)).length by rw [keep_no hc4, List.length_append]; rfl] at hf
          rw [← keep_no hc4] at hoy2; rw [← out_no hc4] at hf hoa
          refine gL hf (g_fa (off' := 0) hf F69_0 rfl rfl) (by decide) ?_; clear hf a; intro a hf
          refine gL hf (g_fa (off' := 3) hf F25_3 rfl rfl) (by decide) ?_; clear hf a; intro a hf
          refine uL (u_st hf hs T23 rfl rfl (plain_acc _ _ _) (k := 2) rfl (Nat.le_of_ble_eq_true rfl)) ?_; clear hs; intro w hs; dsimp only [List.set] at hs
          refine e_nil1 (q_blkN (q_thenN ?_))
          refine c_reg1 ?_
          refine gL hf (g_addI hf rfl rfl (by omega)) (by decide) ?_; clear hf a; intro a hf
          refine gL hf (g_mv hf rfl) (by decide) ?_; clear hf a; intro a hf
          refine e_nil1 (q_thenN ?_)
          first | exact ⟨(j + 1, oa2, oy), ⟨by dsimp only; omega, hoa2, hoy⟩, (by dsimp only; omega), hf.back (by repeat (first | (with_reducible exact Ext.base) | ((with_reducible refine Ext.cons ?_ ?_); (· rfl)) | ((with_reducible refine Ext.over ?_ ?_ ?_); (· rfl); (· rfl)))) (allKeys rfl) (.cons rfl (.cons rfl .nil)), hs.dropN 2⟩ | exact ⟨(j + 1, oa, oy2), ⟨by dsimp only; omega, hoa, hoy2⟩, (by dsimp only; omega), hf.back (by repeat (first | (with_reducible exact Ext.base) | ((with_reducible refine Ext.cons ?_ ?_); (· rfl)) | ((with_reducible refine Ext.over ?_ ?_ ?_); (· rfl); (· rfl)))) (allKeys rfl) (.cons rfl (.cons rfl .nil)), hs.dropN 2⟩
      · try simp only [decide_eq_true_eq, decide_eq_false_iff_not] at hc3
        obtain rfl : j = b.rules.length := by omega
        have hn1 : ∀ q, oa = some q → w0.heap.size ≤ q.1 := fun q e => by subst e; exact (hs.own _ _ (.tail _ (.tail _ (.tail _ (.head _))))).1
        obtain ⟨A1, c1, e1, hl1, hs⟩ := hs.freeze (R := accH 64 oy) (enc := encI) (sz := 1) 3 rfl hoa (fun _ => rfl) (by decide)
        dsimp only [List.take, List.cons_append, List.nil_append] at hs
        obtain ⟨A2, c2, e2, hl2, hs⟩ := hs.freeze (e := 64) (R := []) (o := oy) (enc := encR) (sz := 2) 3 (by simp) hoy (fun _ => rfl) (by decide)
        dsimp only [List.take, List.cons_append, List.nil_append] at hs
        have hA1 := acc_new hn1 e1
        rw [e1] at hf; rw [e2] at hs
        have hv2 := valid_drop hv ((k : Nat) : Int)
        have hkl := keep_le b ((k : Nat) : Int) b.rules.length
        have hol := out_le ((k : Nat) : Int) b.rules.length
        refine c_exit (q_thenX (q_thenX (q_blkX (q_thenN ?_))))
        refine wp_seq ?_
        refine c_reg ?_
        refine gL hf (g_mv hf rfl) (by decide) ?_; clear hf a; intro a hf
        refine gL hf (g_mv hf rfl) (by decide) ?_; clear hf a; intro a hf
        refine ggL hf rfl rfl (gyes_t _) (fun hg => g_mv hf rfl) (by decide) ?_; clear hf a; intro a hf
        refine ggL hf rfl rfl (gyes_t _) (fun hg => g_len hf SL27 (ev_gv rfl hg)) (by decide) ?_; clear hf a; intro a hf
        refine ggL hf rfl rfl (gyes_t _) (fun hg => g_mv hf rfl) (by decide) ?_; clear hf a; intro a hf
        refine ggL hf rfl rfl (gyes_t _) (fun hg => g_len hf SL27 (ev_gv rfl hg)) (by decide) ?_; clear hf a; intro a hf
        refine ggL hf rfl rfl (gyes_t _) (fun hg => g_gtr hf (ev_gv rfl hg) (ev_gv rfl hg)) (by decide) ?_; clear hf a; intro a hf
        refine ggL hf rfl rfl (gyes_t _) (fun hg => g_mv hf (ev_gv rfl hg)) (by decide) ?_; clear hf a; intro a hf
        refine ggL hf rfl rfl (gyes_gf _ _) (fun hg => g_mv hf rfl) (by decide) ?_; clear hf a; intro a hf
        refine ggL hf rfl rfl (gyes_gf _ _) (fun hg => g_len hf SL27 (ev_gv rfl hg)) (by decide) ?_; clear hf a; intro a hf
        refine ggL hf rfl rfl (gyes_gf _ _) (fun hg => g_mv hf rfl) (by decide) ?_; clear hf a; intro a hf
        refine ggL hf rfl rfl (gyes_gf _ _) (fun hg => g_len hf SL27 (ev_gv rfl hg)) (by decide) ?_; clear hf a; intro a hf
        refine ggL hf rfl rfl (gyes_gf _ _) (fun hg => g_eql hf (ev_gv rfl hg) (ev_gv rfl hg)) (by decide) ?_; clear hf a; intro a hf
        refine ggL hf rfl rfl (gyes_gf _ _) (fun hg => g_mv hf (ev_gv rfl hg)) (by decide) ?_; clear hf a; intro a hf
        refine ggL hf rfl rfl (gyes_gt _ _) (fun hg => g_mv hf rfl) (by decide) ?_; clear hf a; intro a hf
        refine ggL hf rfl rfl (gyes_gt _ _) (fun hg => g_mv hf rfl) (by decide) ?_; clear hf a; intro a hf
        refine callG hf hs rfl rfl (gyes_gt _ _) (fun hg => ⟨_, _, _, _, c_Compare _ _ _ _ _ _ _ (hs.rd (.tail _ (.head _))) (hs.rd (.tail _ (.tail _ (.head _)))), rfl, evs_cons (ev_gv rfl hg) (evs_cons (ev_gv rfl hg) evs_nil), rfl⟩) E78 (by decide) ?_; clear hs hf a; intro w a hs hf
        refine ggL hf rfl rfl (gyes_gt _ _) (fun hg => g_geq hf (ev_gv rfl hg) rfl) (by decide) ?_; clear hf a; intro a hf
        refine ggL hf rfl rfl (gyes_gf _ _) (fun hg => g_and hf (ev_gv rfl hg) (ev_gvand rfl hg)) (by decide) ?_; clear hf a; intro a hf
        refine ggL hf rfl rfl (gyes_t _) (fun hg => g_or hf (ev_gv rfl hg) (ev_gvand rfl hg)) (by decide) ?_; clear hf a; intro a hf
        refine gL hf (g_and hf rfl rfl) (by decide) ?_; clear hf a; intro a hf
        refine e_nil ?_
        refine c_cond hf rfl (fun hc5 => ?_) (fun hc5 => ?_)
        · skip
          have hc5 : dropBad ob (outL ((k : Nat) : Int) b.rules.length) = true := hc5
          refine c_exit (q_thenX (q_blkX (q_thenN ?_)))
          refine c_reg1 ?_
          refine gL hf (g_addI hf rfl rfl (by omega)) (by decide) ?_; clear hf a; intro a hf
          refine gL hf (g_mv hf rfl) (by decide) ?_; clear hf a; intro a hf
          refine e_nil1 (q_thenN ?_)
          first | exact ⟨(k + 1, Ab, cb, ob), ⟨by dsimp only; omega, by dsimp only; rw [dropF_succ, ← hob, dropStep, if_pos hc5], hcb, hl10, hAb⟩, (by dsimp only; omega), hf.back (by repeat (first | (with_reducible exact Ext.base) | ((with_reducible refine Ext.cons ?_ ?_); (· rfl)) | ((with_reducible refine Ext.over ?_ ?_ ?_); (· rfl); (· rfl)))) (allKeys rfl) (.cons rfl (.cons rfl (.cons rfl .nil))), (by first | exact (hs.dropN 1).subD (fun _ h => .tail _ (.tail _ h)) | exact (hs.dropN 1).subD (fun _ h => by rcases List.mem_cons.1 h with rfl | h; exact .tail _ (.head _); exact .tail _ (.tail _ (.tail _ h))))⟩ | exact ⟨(k + 1, A1, c1, some (outL ((k : Nat) : Int) b.rules.length)), ⟨by dsimp only; omega, by dsimp only; rw [dropF_succ, ← hob, dropStep, if_neg (by rw [hc5]; decide), if_pos hc6], hl1, Nat.le_trans hol hrl, hA1⟩, (by dsimp only; omega), hf.back (by repeat (first | (with_reducible exact Ext.base) | ((with_reducible refine Ext.cons ?_ ?_); (· rfl)) | ((with_reducible refine Ext.over ?_ ?_ ?_); (· rfl); (· rfl)))) (allKeys rfl) (.cons rfl (.cons rfl (.cons rfl .nil))), (by first | exact (hs.dropN 1).subD (fun _ h => .tail _ (.tail _ h)) | exact (hs.dropN 1).subD (fun _ h => by rcases List.mem_cons.1 h with rfl | h; exact .tail _ (.head _); exact .tail _ (.tail _ (.tail _ h))))⟩ | exact ⟨(k + 1, Ab, cb, ob), ⟨by dsimp only; omega, by dsimp only; rw [dropF_succ, ← hob, dropStep, if_neg (by rw [hc5]; decide), if_neg (by rw [hc6]; decide)], hcb, hl10, hAb⟩, (by dsimp only; omega), hf.back (by repeat (first | (with_reducible exact Ext.base) | ((with_reducible refine Ext.cons ?_ ?_); (· rfl)) | ((with_reducible refine Ext.over ?_ ?_ ?_); (· rfl); (· rfl)))) (allKeys rfl) (.cons rfl (.cons rfl (.cons rfl .nil))), (by first | exact (hs.dropN 1).subD (fun _ h => .tail _ (.tail _ h)) | exact (hs.dropN 1).subD (fun _ h => by rcases List.mem_cons.1 h with rfl | h; exact .tail _ (.head _); exact .tail _ (.tail _ (.tail _ h))))⟩
        · skip
          have hc5 : dropBad ob (outL ((k : Nat) : Int) b.rules.length) = false := hc5
          refine c_skip (q_thenN ?_)
          refine c_reg ?_
          refine gL hf (g_ldW hf hs T69 rfl (k := 0) rfl rfl) (by decide) ?_; clear hf a; intro a hf
          refine callL hf hs (c_folds (dropB b ((k : Nat) : Int)) fA fc A2 c2 mb mp _ hv2 ⟨hs.rd (.tail _ (.tail _ (.tail _ (.tail _ (.head _))))), hs.rd (.head _), h.fc_, hl2⟩ (hs.rd (.tail _ (.tail _ (.tail _ (.head _)))))) rfl rfl rfl E76 (by decide) ?_; clear hs hf a; intro w a hs hf
          rw [allOrds_eq (b := dropB b ((k : Nat) : Int)) hv2 hmo] at hf
          refine e_nil ?_
          refine c_cond hf rfl (fun hc6 => ?_) (fun hc6 => ?_)
          · skip
            have hc6 : foldsP (dropB b ((k : Nat) : Int)) = true := hc6
            refine c_reg1 ?_
            refine gL hf (g_mv hf rfl) (by decide) ?_; clear hf a; intro a hf
            refine gL hf (g_as hf rfl) (by decide) ?_; clear hf a; intro a hf
            refine gL hf (g_as hf rfl) (by decide) ?_; clear hf a; intro a hf
            refine e_nil1 (q_blkN (q_thenN ?_))
            refine c_reg1 ?_
            refine gL hf (g_addI hf rfl rfl (by omega)) (by decide) ?_; clear hf a; intro a hf
            refine gL hf (g_mv hf rfl) (by decide) ?_; clear hf a; intro a hf
            refine e_nil1 (q_thenN ?_)
            first | exact ⟨(k + 1, Ab, cb, ob), ⟨by dsimp only; omega, by dsimp only; rw [dropF_succ, ← hob, dropStep, if_pos hc5], hcb, hl10, hAb⟩, (by dsimp only; omega), hf.back (by repeat (first | (with_reducible exact Ext.base) | ((with_reducible refine Ext.cons ?_ ?_); (· rfl)) | ((with_reducible refine Ext.over ?_ ?_ ?_); (· rfl); (· rfl)))) (allKeys rfl) (.cons rfl (.cons rfl (.cons rfl .nil))), (by first | exact (hs.dropN 1).subD (fun _ h => .tail _ (.tail _ h)) | exact (hs.dropN 1).subD (fun _ h => by rcases List.mem_cons.1 h with rfl | h; exact .tail _ (.head _); exact .tail _ (.tail _ (.tail _ h))))⟩ | exact ⟨(k + 1, A1, c1, some (outL ((k : Nat) : Int) b.rules.length)), ⟨by dsimp only; omega, by dsimp only; rw [dropF_succ, ← hob, dropStep, if_neg (by rw [hc5]; decide), if_pos hc6], hl1, Nat.le_trans hol hrl, hA1⟩, (by dsimp only; omega), hf.back (by repeat (first | (with_reducible exact Ext.base) | ((with_reducible refine Ext.cons ?_ ?_); (· rfl)) | ((with_reducible refine Ext.over ?_ ?_ ?_); (· rfl); (· rfl)))) (allKeys rfl) (.cons rfl (.cons rfl (.cons rfl .nil))), (by first | exact (hs.dropN 1).subD (fun _ h => .tail _ (.tail _ h)) | exact (hs.dropN 1).subD (fun _ h => by rcases List.mem_cons.1 h with rfl | h; exact .tail _ (.head _); exact .tail _ (.tail _ (.tail _ h))))⟩ | exact ⟨(k + 1, Ab, cb, ob), ⟨by dsimp only; omega, by dsimp only; rw [dropF_succ, ← hob, dropStep, if_neg (by rw [hc5]; decide), if_neg (by rw [hc6]; decide)], hcb, hl10, hAb⟩, (by dsimp only; omega), hf.back (by repeat (first | (with_reducible exact Ext.base) | ((with_reducible refine Ext.cons ?_ ?_); (· rfl)) | ((with_reducible refine Ext.over ?_ ?_ ?_); (· rfl); (· rfl)))) (allKeys rfl) (.cons rfl (.cons rfl (.cons rfl .nil))), (by first | exact (hs.dropN 1).subD (fun _ h => .tail _ (.tail _ h)) | exact (hs.dropN 1).subD (fun _ h => by rcases List.mem_cons.1 h with rfl | h; exact .tail _ (.head _); exact .tail _ (.tail _ (.tail _ h))))⟩
          · skip
            have hc6 : foldsP (dropB b ((k : Nat) : Int)) = false := hc6
            refine c_skip (q_blkN (q_thenN ?_))
            refine c_reg1 ?_
            refine gL hf (g_addI hf rfl rfl (by omega)) (by decide) ?_; clear hf a; intro a hf
            refine gL hf (g_mv hf rfl) (by decide) ?_; clear hf a; intro a hf
            refine e_nil1 (q_thenN ?_)
            first | exact ⟨(k + 1, Ab, cb, ob), ⟨by dsimp only; omega, by dsimp only; rw [dropF_succ, ← hob, dropStep, if_pos hc5], hcb, hl10, hAb⟩, (by dsimp only; omega), hf.back (by repeat (first | (with_reducible exact Ext.base) | ((with_reducible refine Ext.cons ?_ ?_); (· rfl)) | ((with_reducible refine Ext.over ?_ ?_ ?_); (· rfl); (· rfl)))) (allKeys rfl) (.cons rfl (.cons rfl (.cons rfl .nil))), (by first | exact (hs.dropN 1).subD (fun _ h => .tail _ (.tail _ h)) | exact (hs.dropN 1).subD (fun _ h => by rcases List.mem_cons.1 h with rfl | h; exact .tail _ (.head _); exact .tail _ (.tail _ (.tail _ h))))⟩ | exact ⟨(k + 1, A1, c1, some (outL ((k : Nat) : Int) b.rules.length)), ⟨by dsimp only; omega, by dsimp only; rw [dropF_succ, ← hob, dropStep, if_neg (by rw [hc5]; decide), if_pos hc6], hl1, Nat.le_trans hol hrl, hA1⟩, (by dsimp only; omega), hf.back (by repeat (first | (with_reducible exact Ext.base) | ((with_reducible refine Ext.cons ?_ ?_); (· rfl)) | ((with_reducible refine Ext.over ?_ ?_ ?_); (· rfl); (· rfl)))) (allKeys rfl) (.cons rfl (.cons rfl (.cons rfl .nil))), (by first | exact (hs.dropN 1).subD (fun _ h => .tail _ (.tail _ h)) | exact (hs.dropN 1).subD (fun _ h => by rcases List.mem_cons.1 h with rfl | h; exact .tail _ (.head _); exact .tail _ (.tail _ (.tail _ h))))⟩ | exact ⟨(k + 1, Ab, cb, ob), ⟨by dsimp only; omega, by dsimp only; rw [dropF_succ, ← hob, dropStep, if_neg (by rw [hc5]; decide), if_neg (by rw [hc6]; decide)], hcb, hl10, hAb⟩, (by dsimp only; omega), hf.back (by repeat (first | (with_reducible exact Ext.base) | ((with_reducible refine Ext.cons ?_ ?_); (· rfl)) | ((with_reducible refine Ext.over ?_ ?_ ?_); (· rfl); (· rfl)))) (allKeys rfl) (.cons rfl (.cons rfl (.cons rfl .nil))), (by first | exact (hs.dropN 1).subD (fun _ h => .tail _ (.tail _ h)) | exact (hs.dropN 1).subD (fun _ h => by rcases List.mem_cons.1 h with rfl | h; exact .tail _ (.head _); exact .tail _ (.tail _ (.tail _ h))))⟩
    · try simp only [decide_eq_true_eq, decide_eq_false_iff_not] at hc2
      obtain rfl : k = 2 ^ b.rules.length := by omega
      refine c_exit (q_thenX (q_thenX (q_blkX (q_thenN ?_))))
      refine c_reg ?_
      refine gL hf (g_mv hf rfl) (by decide) ?_; clear hf a; intro a hf
      refine gL hf (g_mv hf rfl) (by decide) ?_; clear hf a; intro a hf
      refine gL hf (g_len hf SL27 rfl) (by decide) ?_; clear hf a; intro a hf
      refine gL hf (g_mv hf rfl) (by decide) ?_; clear hf a; intro a hf
      refine gL hf (g_len hf SL27 rfl) (by decide) ?_; clear hf a; intro a hf
      refine gL hf (g_slHM hf SL27 rfl rfl rfl (by omega) (by omega)) (by decide) ?_; clear hf a; intro a hf
      refine gL hf (g_as hf rfl) (by decide) ?_; clear hf a; intro a hf
      refine gL hf (g_as hf rfl) (by decide) ?_; clear hf a; intro a hf
      refine e_nil ?_
      refine c_ret ?_
      refine e_ret2 hf rfl rfl rfl ?_
      have hor : dropP b = (ob.getD [], 0) := by simp only [dropP, he, if_true, hob]
      exact ⟨_, rfl, hs.below, Ab, (ob.getD []).length, by rw [hor]; rfl, by rw [hor]; exact ⟨Nat.le_refl _, hs.rd (.head _), hAb⟩⟩

end Go.Proofs.YtpjhffockmnjbaaDoor
set_option linter.unusedVariables false
set_option linter.unusedSimpArgs false
namespace Go.Proofs.YtpjhffockmnjbaaDoor
open Go.RowKit
theorem c_sheet (rl rh : Int) (w0 : World) :
    Calls Tryd.prog 85 #[.agg #[.int .i64 rl, .int .i64 rh]] w0 (RetX w0 (fun v w0' => ∃ bf br, v = chV bf br ∧ ChIn rl rh bf br w0.heap.size w0')) := by
  refine c_enter (n := 22) Tryd.func85 rfl rfl (Nat.le_of_ble_eq_true rfl) ?_; intro a hf; simp only [zipR] at hf
  have hs := St.start w0 [] (by simp)
  refine c_reg ?_
  refine vL hf (v_boxA hf hs rfl) (by decide) ?_; clear hs hf a; rintro _ w ⟨b1, rfl, hs⟩ a hf
  refine vL hf (v_alloc hs T25 rfl) (by decide) ?_; clear hs hf a; rintro _ w ⟨b2, rfl, hs⟩ a hf
  refine e_nil ?_
  refine c_draw _ 20 Mx rfl hs (fun _ h => h.sub (.cons _ (.refl _))) ?_; intro w hs hS
  refine gA hf hS (i := 0) rfl (by kernel_rfl) (fun w hs => g_ldW hf hs T47 rfl (k := 0) rfl rfl) (by decide) ?_; clear hf a; intro a hf
  refine gA hf hS (i := 13) rfl (by kernel_rfl) (fun w hs => g_bld hf [[.int .i64 0], [.int .i64 0]] (.cons rfl (.cons rfl .nil)) (fun _ => by kernel_rfl)) (by decide) ?_; clear hf a; intro a hf
  refine gA hf hS (i := 14) rfl (by kernel_rfl) (fun w hs => g_bld hf [[.int .i64 0], [.int .i64 0]] (.cons rfl (.cons rfl .nil)) (fun _ => by kernel_rfl)) (by decide) ?_; clear hf a; intro a hf
  refine gA hf hS (i := 15) rfl (by kernel_rfl) (fun w hs => g_bld hf [[.int .i64 0], [.int .i64 0]] (.cons rfl (.cons rfl .nil)) (fun _ => by kernel_rfl)) (by decide) ?_; clear hf a; intro a hf
  refine gA hf hS (i := 16) rfl (by kernel_rfl) (fun w hs => g_bld hf [[.int .i64 0], [.int .i64 0]] (.cons rfl (.cons rfl .nil)) (fun _ => by kernel_rfl)) (by decide) ?_; clear hf a; intro a hf
  refine two (i := 1) (j := 17) (by kernel_rfl) ?_ ?_
  · skip
    refine oCall hf hs rfl (c_Sp _ _ _) rfl rfl rfl E52 (by decide) (fun _ h => h.sub (.cons _ (.refl _))) ?_; clear hs hf hS a; intro w a hs hS hf
    refine two (i := 2) (j := 17) (by kernel_rfl) ?_ ?_
    · skip
      refine oCall hf hs rfl (c_flap _ _ _ _ _ _) rfl rfl rfl E108 (by decide) (fun _ h => h.sub (.cons _ (.refl _))) ?_; clear hs hf hS a; intro w a hs hS hf
      refine two (i := 3) (j := 17) (by kernel_rfl) ?_ ?_
      · skip
        refine oCall hf hs rfl (c_Sp _ _ _) rfl rfl rfl E52 (by decide) (fun _ h => h.sub (.cons _ (.refl _))) ?_; clear hs hf hS a; intro w a hs hS hf
        refine two (i := 4) (j := 17) (by kernel_rfl) ?_ ?_
        · skip
          refine oCall hf hs rfl (c_Sp _ _ _) rfl rfl rfl E52 (by decide) (fun _ h => h.sub (.cons _ (.refl _))) ?_; clear hs hf hS a; intro w a hs hS hf
          refine two (i := 5) (j := 17) (by kernel_rfl) ?_ ?_
          · skip
            refine oCall hf hs rfl (c_flap _ _ _ _ _ _) rfl rfl rfl E108 (by decide) (fun _ h => h.sub (.cons _ (.refl _))) ?_; clear hs hf hS a; intro w a hs hS hf
            refine two (i := 6) (j := 17) (by kernel_rfl) ?_ ?_
            · skip
              refine oCall hf hs rfl (c_Only _ _) rfl rfl rfl E86 (by decide) (fun _ h => h.sub (.cons _ (.refl _))) ?_; clear hs hf hS a; intro w a hs hS hf
              refine two (i := 7) (j := 17) (by kernel_rfl) ?_ ?_
              · skip
                refine oCall hf hs rfl (c_Sp _ _ _) rfl rfl rfl E52 (by decide) (fun _ h => h.sub (.cons _ (.refl _))) ?_; clear hs hf hS a; intro w a hs hS hf
                refine two (i := 8) (j := 17) (by kernel_rfl) ?_ ?_
                · skip
                  refine oCall hf hs rfl (c_flap _ _ _ _ _ _) rfl rfl rfl E108 (by decide) (fun _ h => h.sub (.cons _ (.refl _))) ?_; clear hs hf hS a; intro w a hs hS hf
                  refine two (i := 9) (j := 17) (by kernel_rfl) ?_ ?_
                  · skip
                    refine oCall hf hs rfl (c_Only _ _) rfl rfl rfl E86 (by decide) (fun _ h => h.sub (.cons _ (.refl _))) ?_; clear hs hf hS a; intro w a hs hS hf
                    refine two (i := 10) (j := 17) (by kernel_rfl) ?_ ?_
                    · skip
                      refine oCall hf hs rfl (c_Sp _ _ _) rfl rfl rfl E52 (by decide) (fun _ h => h.sub (.cons _ (.refl _))) ?_; clear hs hf hS a; intro w a hs hS hf
                      refine two (i := 11) (j := 17) (by kernel_rfl) ?_ ?_
                      · skip
                        refine oCall hf hs rfl (c_flap _ _ _ _ _ _) rfl rfl rfl E108 (by decide) (fun _ h => h.sub (.cons _ (.refl _))) ?_; clear hs hf hS a; intro w a hs hS hf
                        refine two (i := 12) (j := 17) (by kernel_rfl) ?_ ?_
                        · skip
                          refine oV hf rfl (v_lits (len := 4) hf hs SL22 T49 (.cons rfl (.cons rfl (.cons rfl (.cons rfl .nil)))) rfl rfl rfl rfl (by decide) rfl) (by decide) (fun _ _ ⟨_, _, h⟩ => h.sub (.cons _ (.cons _ (.refl _)))) ?_; clear hs hf hS a; rintro _ w ⟨b3, rfl, hs⟩ hS a hf
                          refine one (i := 17) (by kernel_rfl) ?_
                          refine oV hf rfl (v_lits (len := 4) hf hs SL23 T64 (.cons rfl (.cons rfl (.cons rfl (.cons rfl .nil)))) rfl rfl rfl rfl (by decide) rfl) (by decide) (fun _ _ ⟨_, _, h⟩ => h.sub (.cons _ (.cons _ (.cons _ (.refl _))))) ?_; clear hs hf hS a; rintro _ w ⟨b4, rfl, hs⟩ hS a hf
                          refine gA hf hS (i := 18) rfl (by kernel_rfl) (fun w hs => g_bld hf [[.int .i64 0], [.int .i64 0], [.slice none 0 0], [.slice none 0 0]] (.cons rfl (.cons rfl (.cons rfl (.cons rfl .nil)))) (fun _ => by kernel_rfl)) (by decide) ?_; clear hf a; intro a hf
                          refine one (i := 19) (by kernel_rfl) ?_
                          refine oU rfl (u_stW hf hs T25 rfl rfl rfl (k := 2) rfl rfl rfl) (fun _ h => h.sub (.cons _ (.cons _ (.cons _ (.refl _))))) ?_; clear hs hS; intro w hs hS; dsimp only [List.set] at hs
                          refine e_done (by kernel_rfl) ?_
                          refine c_ret ?_
                          refine e_res hf hs rfl (.cellA T25 rfl (k := 2) rfl rfl .nil) rfl ?_
                          first
                          | exact ⟨_, rfl, hs.below, b3, b4, rfl, (hs.own _ _ (.tail _ (.head _))).1, (hs.own _ _ (.head _)).1, fun e => by have hn := hs.nodup; rw [e] at hn; simp [ids] at hn, (hs.own _ _ (.tail _ (.head _))).2, (hs.own _ _ (.head _)).2⟩
                          | exact ⟨_, rfl, hs.below, b4, b3, rfl, (hs.own _ _ (.head _)).1, (hs.own _ _ (.tail _ (.head _))).1, fun e => by have hn := hs.nodup; rw [e] at hn; simp [ids] at hn, (hs.own _ _ (.head _)).2, (hs.own _ _ (.tail _ (.head _))).2⟩
                        · skip
                          refine oV hf rfl (v_lits (len := 4) hf hs SL23 T64 (.cons rfl (.cons rfl (.cons rfl (.cons rfl .nil)))) rfl rfl rfl rfl (by decide) rfl) (by decide) (fun _ _ ⟨_, _, h⟩ => h.sub (.cons _ (.cons _ (.refl _)))) ?_; clear hs hf hS a; rintro _ w ⟨b3, rfl, hs⟩ hS a hf
                          refine one (i := 12) (by kernel_rfl) ?_
                          refine oV hf rfl (v_lits (len := 4) hf hs SL22 T49 (.cons rfl (.cons rfl (.cons rfl (.cons rfl .nil)))) rfl rfl rfl rfl (by decide) rfl) (by decide) (fun _ _ ⟨_, _, h⟩ => h.sub (.cons _ (.cons _ (.cons _ (.refl _))))) ?_; clear hs hf hS a; rintro _ w ⟨b4, rfl, hs⟩ hS a hf
                          refine gA hf hS (i := 18) rfl (by kernel_rfl) (fun w hs => g_bld hf [[.int .i64 0], [.int .i64 0], [.slice none 0 0], [.slice none 0 0]] (.cons rfl (.cons rfl (.cons rfl (.cons rfl .nil)))) (fun _ => by kernel_rfl)) (by decide) ?_; clear hf a; intro a hf
                          refine one (i := 19) (by kernel_rfl) ?_
                          refine oU rfl (u_stW hf hs T25 rfl rfl rfl (k := 2) rfl rfl rfl) (fun _ h => h.sub (.cons _ (.cons _ (.cons _ (.refl _))))) ?_; clear hs hS; intro w hs hS; dsimp only [List.set] at hs
                          refine e_done (by kernel_rfl) ?_
                          refine c_ret ?_
                          refine e_res hf hs rfl (.cellA T25 rfl (k := 2) rfl rfl .nil) rfl ?_
                          first
                          | exact ⟨_, rfl, hs.below, b3, b4, rfl, (hs.own _ _ (.tail _ (.head _))).1, (hs.own _ _ (.head _)).1, fun e => by have hn := hs.nodup; rw [e] at hn; simp [ids] at hn, (hs.own _ _ (.tail _ (.head _))).2, (hs.own _ _ (.head _)).2⟩
                          | exact ⟨_, rfl, hs.below, b4, b3, rfl, (hs.own _ _ (.head _)).1, (hs.own _ _ (.tail _ (.head _))).1, fun e => by have hn := hs.nodup; rw [e] at hn; simp [ids] at hn, (hs.own _ _ (.head _)).2, (hs.own _ _ (.tail _ (.head _))).2⟩
                      · skip
                        refine oV hf rfl (v_lits (len := 4) hf hs SL23 T64 (.cons rfl (.cons rfl (.cons rfl (.cons rfl .nil)))) rfl rfl rfl rfl (by decide) rfl) (by decide) (fun _ _ ⟨_, _, h⟩ => h.sub (.cons _ (.cons _ (.refl _)))) ?_; clear hs hf hS a; rintro _ w ⟨b3, rfl, hs⟩ hS a hf
                        refine one (i := 11) (by kernel_rfl) ?_
                        refine oCall hf hs rfl (c_flap _ _ _ _ _ _) rfl rfl rfl E108 (by decide) (fun _ h => h.sub (.cons _ (.cons _ (.refl _)))) ?_; clear hs hf hS a; intro w a hs hS hf
                        refine one (i := 12) (by kernel_rfl) ?_
                        refine oV hf rfl (v_lits (len := 4) hf hs SL22 T49 (.cons rfl (.cons rfl (.cons rfl (.cons rfl .nil)))) rfl rfl rfl rfl (by decide) rfl) (by decide) (fun _ _ ⟨_, _, h⟩ => h.sub (.cons _ (.cons _ (.cons _ (.refl _))))) ?_; clear hs hf hS a; rintro _ w ⟨b4, rfl, hs⟩ hS a hf
                        refine gA hf hS (i := 18) rfl (by kernel_rfl) (fun w hs => g_bld hf [[.int .i64 0], [.int .i64 0], [.slice none 0 0], [.slice none 0 0]] (.cons rfl (.cons rfl (.cons rfl (.cons rfl .nil)))) (fun _ => by kernel_rfl)) (by decide) ?_; clear hf a; intro a hf
                        refine one (i := 19) (by kernel_rfl) ?_
                        refine oU rfl (u_stW hf hs T25 rfl rfl rfl (k := 2) rfl rfl rfl) (fun _ h => h.sub (.cons _ (.cons _ (.cons _ (.refl _))))) ?_; clear hs hS; intro w hs hS; dsimp only [List.set] at hs
                        refine e_done (by kernel_rfl) ?_
                        refine c_ret ?_
                        refine e_res hf hs rfl (.cellA T25 rfl (k := 2) rfl rfl .nil) rfl ?_
                        first
                        | exact ⟨_, rfl, hs.below, b3, b4, rfl, (hs.own _ _ (.tail _ (.head _))).1, (hs.own _ _ (.head _)).1, fun e => by have hn := hs.nodup; rw [e] at hn; simp [ids] at hn, (hs.own _ _ (.tail _ (.head _))).2, (hs.own _ _ (.head _)).2⟩
                        | exact ⟨_, rfl, hs.below, b4, b3, rfl, (hs.own _ _ (.head _)).1, (hs.own _ _ (.tail _ (.head _))).1, fun e => by have hn := hs.nodup; rw [e] at hn; simp [ids] at hn, (hs.own _ _ (.head _)).2, (hs.own _ _ (.tail _ (.head _))).2⟩
                    · skip
                      refine oV hf rfl (v_lits (len := 4) hf hs SL23 T64 (.cons rfl (.cons rfl (.cons rfl (.cons rfl .nil)))) rfl rfl rfl rfl (by decide) rfl) (by decide) (fun _ _ ⟨_, _, h⟩ => h.sub (.cons _ (.cons _ (.refl _)))) ?_; clear hs hf hS a; rintro _ w ⟨b3, rfl, hs⟩ hS a hf
                      refine one (i := 10) (by kernel_rfl) ?_
                      refine oCall hf hs rfl (c_Sp _ _ _) rfl rfl rfl E52 (by decide) (fun _ h => h.sub (.cons _ (.cons _ (.refl _)))) ?_; clear hs hf hS a; intro w a hs hS hf
                      refine one (i := 11) (by kernel_rfl) ?_
                      refine oCall hf hs rfl (c_flap _ _ _ _ _ _) rfl rfl rfl E108 (by decide) (fun _ h => h.sub (.cons _ (.cons _ (.refl _)))) ?_; clear hs hf hS a; intro w a hs hS hf
                      refine one (i := 12) (by kernel_rfl) ?_
                      refine oV hf rfl (v_lits (len := 4) hf hs SL22 T49 (.cons rfl (.cons rfl (.cons rfl (.cons rfl .nil)))) rfl rfl rfl rfl (by decide) rfl) (by decide) (fun _ _ ⟨_, _, h⟩ => h.sub (.cons _ (.cons _ (.cons _ (.refl _))))) ?_; clear hs hf hS a; rintro _ w ⟨b4, rfl, hs⟩ hS a hf
                      refine gA hf hS (i := 18) rfl (by kernel_rfl) (fun w hs => g_bld hf [[.int .i64 0], [.int .i64 0], [.slice none 0 0], [.slice none 0 0]] (.cons rfl (.cons rfl (.cons rfl (.cons rfl .nil)))) (fun _ => by kernel_rfl)) (by decide) ?_; clear hf a; intro a hf
                      refine one (i := 19) (by kernel_rfl) ?_
                      refine oU rfl (u_stW hf hs T25 rfl rfl rfl (k := 2) rfl rfl rfl) (fun _ h => h.sub (.cons _ (.cons _ (.cons _ (.refl _))))) ?_; clear hs hS; intro w hs hS; dsimp only [List.set] at hs
                      refine e_done (by kernel_rfl) ?_
                      refine c_ret ?_
                      refine e_res hf hs rfl (.cellA T25 rfl (k := 2) rfl rfl .nil) rfl ?_
                      first
                      | exact ⟨_, rfl, hs.below, b3, b4, rfl, (hs.own _ _ (.tail _ (.head _))).1, (hs.own _ _ (.head _)).1, fun e => by have hn := hs.nodup; rw [e] at hn; simp [ids] at hn, (hs.own _ _ (.tail _ (.head _))).2, (hs.own _ _ (.head _)).2⟩
                      | exact ⟨_, rfl, hs.below, b4, b3, rfl, (hs.own _ _ (.head _)).1, (hs.own _ _ (.tail _ (.head _))).1, fun e => by have hn := hs.nodup; rw [e] at hn; simp [ids] at hn, (hs.own _ _ (.head _)).2, (hs.own _ _ (.tail _ (.head _))).2⟩
                  · skip
                    refine oV hf rfl (v_lits (len := 4) hf hs SL23 T64 (.cons rfl (.cons rfl (.cons rfl (.cons rfl .nil)))) rfl rfl rfl rfl (by decide) rfl) (by decide) (fun _ _ ⟨_, _, h⟩ => h.sub (.cons _ (.cons _ (.refl _)))) ?_; clear hs hf hS a; rintro _ w ⟨b3, rfl, hs⟩ hS a hf
                    refine one (i := 9) (by kernel_rfl) ?_
                    refine oCall hf hs rfl (c_Only _ _) rfl rfl rfl E86 (by decide) (fun _ h => h.sub (.cons _ (.cons _ (.refl _)))) ?_; clear hs hf hS a; intro w a hs hS hf
                    refine one (i := 10) (by kernel_rfl) ?_
                    refine oCall hf hs rfl (c_Sp _ _ _) rfl rfl rfl E52 (by decide) (fun _ h => h.sub (.cons _ (.cons _ (.refl _)))) ?_; clear hs hf hS a; intro w a hs hS hf
                    refine one (i := 11) (by kernel_rfl) ?_
                    refine oCall hf hs rfl (c_flap _ _ _ _ _ _) rfl rfl rfl E108 (by decide) (fun _ h => h.sub (.cons _ (.cons _ (.refl _)))) ?_; clear hs hf hS a; intro w a hs hS hf
                    refine one (i := 12) (by kernel_rfl) ?_
                    refine oV hf rfl (v_lits (len := 4) hf hs SL22 T49 (.cons rfl (.cons rfl (.cons rfl (.cons rfl .nil)))) rfl rfl rfl rfl (by decide) rfl) (by decide) (fun _ _ ⟨_, _, h⟩ => h.sub (.cons _ (.cons _ (.cons _ (.refl _))))) ?_; clear hs hf hS a; rintro _ w ⟨b4, rfl, hs⟩ hS a hf
                    refine gA hf hS (i := 18) rfl (by kernel_rfl) (fun w hs => g_bld hf [[.int .i64 0], [.int .i64 0], [.slice none 0 0], [.slice none 0 0]] (.cons rfl (.cons rfl (.cons rfl (.cons rfl .nil)))) (fun _ => by kernel_rfl)) (by decide) ?_; clear hf a; intro a hf
                    refine one (i := 19) (by kernel_rfl) ?_
                    refine oU rfl (u_stW hf hs T25 rfl rfl rfl (k := 2) rfl rfl rfl) (fun _ h => h.sub (.cons _ (.cons _ (.cons _ (.refl _))))) ?_; clear hs hS; intro w hs hS; dsimp only [List.set] at hs
                    refine e_done (by kernel_rfl) ?_
                    refine c_ret ?_
                    refine e_res hf hs rfl (.cellA T25 rfl (k := 2) rfl rfl .nil) rfl ?_
                    first
                    | exact ⟨_, rfl, hs.below, b3, b4, rfl, (hs.own _ _ (.tail _ (.head _))).1, (hs.own _ _ (.head _)).1, fun e => by have hn := hs.nodup; rw [e] at hn; simp [ids] at hn, (hs.own _ _ (.tail _ (.head _))).2, (hs.own _ _ (.head _)).2⟩
                    | exact ⟨_, rfl, hs.below, b4, b3, rfl, (hs.own _ _ (.head _)).1, (hs.own _ _ (.tail _ (.head _))).1, fun e => by have hn := hs.nodup; rw [e] at hn; simp [ids] at hn, (hs.own _ _ (.head _)).2, (hs.own _ _ (.tail _ (.head _))).2⟩
                · skip
                  refine oV hf rfl (v_lits (len := 4) hf hs SL23 T64 (.cons rfl (.cons rfl (.cons rfl (.cons rfl .nil)))) rfl rfl rfl rfl (by decide) rfl) (by decide) (fun _ _ ⟨_, _, h⟩ => h.sub (.cons _ (.cons _ (.refl _)))) ?_; clear hs hf hS a; rintro _ w ⟨b3, rfl, hs⟩ hS a hf
                  refine one (i := 8) (by kernel_rfl) ?_
                  refine oCall hf hs rfl (c_flap _ _ _ _ _ _) rfl rfl rfl E108 (by decide) (fun _ h => h.sub (.cons _ (.cons _ (.refl _)))) ?_; clear hs hf hS a; intro w a hs hS hf
                  refine one (i := 9) (by kernel_rfl) ?_
                  refine oCall hf hs rfl (c_Only _ _) rfl rfl rfl E86 (by decide) (fun _ h => h.sub (.cons _ (.cons _ (.refl _)))) ?_; clear hs hf hS a; intro w a hs hS hf
                  refine one (i := 10) (by kernel_rfl) ?_
                  refine oCall hf hs rfl (c_Sp _ _ _) rfl rfl rfl E52 (by decide) (fun _ h => h.sub (.cons _ (.cons _ (.refl _)))) ?_; clear hs hf hS a; intro w a hs hS hf
                  refine one (i := 11) (by kernel_rfl) ?_
                  refine oCall hf hs rfl (c_flap _ _ _ _ _ _) rfl rfl rfl E108 (by decide) (fun _ h => h.sub (.cons _ (.cons _ (.refl _)))) ?_; clear hs hf hS a; intro w a hs hS hf
                  refine one (i := 12) (by kernel_rfl) ?_
                  refine oV hf rfl (v_lits (len := 4) hf hs SL22 T49 (.cons rfl (.cons rfl (.cons rfl (.cons rfl .nil)))) rfl rfl rfl rfl (by decide) rfl) (by decide) (fun _ _ ⟨_, _, h⟩ => h.sub (.cons _ (.cons _ (.cons _ (.refl _))))) ?_; clear hs hf hS a; rintro _ w ⟨b4, rfl, hs⟩ hS a hf
                  refine gA hf hS (i := 18) rfl (by kernel_rfl) (fun w hs => g_bld hf [[.int .i64 0], [.int .i64 0], [.slice none 0 0], [.slice none 0 0]] (.cons rfl (.cons rfl (.cons rfl (.cons rfl .nil)))) (fun _ => by kernel_rfl)) (by decide) ?_; clear hf a; intro a hf
                  refine one (i := 19) (by kernel_rfl) ?_
                  refine oU rfl (u_stW hf hs T25 rfl rfl rfl (k := 2) rfl rfl rfl) (fun _ h => h.sub (.cons _ (.cons _ (.cons _ (.refl _))))) ?_; clear hs hS; intro w hs hS; dsimp only [List.set] at hs
                  refine e_done (by kernel_rfl) ?_
                  refine c_ret ?_
                  refine e_res hf hs rfl (.cellA T25 rfl (k := 2) rfl rfl .nil) rfl ?_
                  first
                  | exact ⟨_, rfl, hs.below, b3, b4, rfl, (hs.own _ _ (.tail _ (.head _))).1, (hs.own _ _ (.head _)).1, fun e => by have hn := hs.nodup; rw [e] at hn; simp [ids] at hn, (hs.own _ _ (.tail _ (.head _))).2, (hs.own _ _ (.head _)).2⟩
                  | exact ⟨_, rfl, hs.below, b4, b3, rfl, (hs.own _ _ (.head _)).1, (hs.own _ _ (.tail _ (.head _))).1, fun e => by have hn := hs.nodup; rw [e] at hn; simp [ids] at hn, (hs.own _ _ (.head _)).2, (hs.own _ _ (.tail _ (.head _))).2⟩
              · skip
                refine oV hf rfl (v_lits (len := 4) hf hs SL23 T64 (.cons rfl (.cons rfl (.cons rfl (.cons rfl .nil)))) rfl rfl rfl rfl (by decide) rfl) (by decide) (fun _ _ ⟨_, _, h⟩ => h.sub (.cons _ (.cons _ (.refl _)))) ?_; clear hs hf hS a; rintro _ w ⟨b3, rfl, hs⟩ hS a hf
                refine one (i := 7) (by kernel_rfl) ?_
                refine oCall hf hs rfl (c_Sp _ _ _) rfl rfl rfl E52 (by decide) (fun _ h => h.sub (.cons _ (.cons _ (.refl _)))) ?_; clear hs hf hS a; intro w a hs hS hf
                refine one (i := 8) (by kernel_rfl) ?_
                refine oCall hf hs rfl (c_flap _ _ _ _ _ _) rfl rfl rfl E108 (by decide) (fun _ h => h.sub (.cons _ (.cons _ (.refl _)))) ?_; clear hs hf hS a; intro w a hs hS hf
                refine one (i := 9) (by kernel_rfl) ?_
                refine oCall hf hs rfl (c_Only _ _) rfl rfl rfl E86 (by decide) (fun _ h => h.sub (.cons _ (.cons _ (.refl _)))) ?_; clear hs hf hS a; intro w a hs hS hf
                refine one (i := 10) (by kernel_rfl) ?_
                refine oCall hf hs rfl (c_Sp _ _ _) rfl rfl rfl E52 (by decide) (fun _ h => h.sub (.cons _ (.cons _ (.refl _)))) ?_; clear hs hf hS a; intro w a hs hS hf
                refine one (i := 11) (by kernel_rfl) ?_
                refine oCall hf hs rfl (c_flap _ _ _ _ _ _) rfl rfl rfl E108 (by decide) (fun _ h => h.sub (.cons _ (.cons _ (.refl _)))) ?_; clear hs hf hS a; intro w a hs hS hf
                refine one (i := 12) (by kernel_rfl) ?_
                refine oV hf rfl (v_lits (len := 4) hf hs SL22 T49 (.cons rfl (.cons rfl (.cons rfl (.cons rfl .nil)))) rfl rfl rfl rfl (by decide) rfl) (by decide) (fun _ _ ⟨_, _, h⟩ => h.sub (.cons _ (.cons _ (.cons _ (.refl _))))) ?_; clear hs hf hS a; rintro _ w ⟨b4, rfl, hs⟩ hS a hf
                refine gA hf hS (i := 18) rfl (by kernel_rfl) (fun w hs => g_bld hf [[.int .i64 0], [.int .i64 0], [.slice none 0 0], [.slice none 0 0]] (.cons rfl (.cons rfl (.cons rfl (.cons rfl .nil)))) (fun _ => by kernel_rfl)) (by decide) ?_; clear hf a; intro a hf
                refine one (i := 19) (by kernel_rfl) ?_
                refine oU rfl (u_stW hf hs T25 rfl rfl rfl (k := 2) rfl rfl rfl) (fun _ h => h.sub (.cons _ (.cons _ (.cons _ (.refl _))))) ?_; clear hs hS; intro w hs hS; dsimp only [List.set] at hs
                refine e_done (by kernel_rfl) ?_
                refine c_ret ?_
                refine e_res hf hs rfl (.cellA T25 rfl (k := 2) rfl rfl .nil) rfl ?_
                first
                | exact ⟨_, rfl, hs.below, b3, b4, rfl, (hs.own _ _ (.tail _ (.head _))).1, (hs.own _ _ (.head _)).1, fun e => by have hn := hs.nodup; rw [e] at hn; simp [ids] at hn, (hs.own _ _ (.tail _ (.head _))).2, (hs.own _ _ (.head _)).2⟩
                | exact ⟨_, rfl, hs.below, b4, b3, rfl, (hs.own _ _ (.head _)).1, (hs.own _ _ (.tail _ (.head _))).1, fun e => by have hn := hs.nodup; rw [e] at hn; simp [ids] at hn, (hs.own _ _ (.head _)).2, (hs.own _ _ (.tail _ (.head _))).2⟩
            · skip
              refine oV hf rfl (v_lits (len := 4) hf hs SL23 T64 (.cons rfl (.cons rfl (.cons rfl (.cons rfl .nil)))) rfl rfl rfl rfl (by decide) rfl) (by decide) (fun _ _ ⟨_, _, h⟩ => h.sub (.cons _ (.cons _ (.refl _)))) ?_; clear hs hf hS a; rintro _ w ⟨b3, rfl, hs⟩ hS a hf
              refine one (i := 6) (by kernel_rfl) ?_
              refine oCall hf hs rfl (c_Only _ _) rfl rfl rfl E86 (by decide) (fun _ h => h.sub (.cons _ (.cons _ (.refl _)))) ?_; clear hs hf hS a; intro w a hs hS hf
              refine one (i := 7) (by kernel_rfl) ?_
              refine oCall hf hs rfl (c_Sp _ _ _) rfl rfl rfl E52 (by decide) (fun _ h => h.sub (.cons _ (.cons _ (.refl _)))) ?_; clear hs hf hS a; intro w a hs hS hf
              refine one (i := 8) (by kernel_rfl) ?_
              refine oCall hf hs rfl (c_flap _ _ _ _ _ _) rfl rfl rfl E108 (by decide) (fun _ h => h.sub (.cons _ (.cons _ (.refl _)))) ?_; clear hs hf hS a; intro w a hs hS hf
              refine one (i := 9) (by kernel_rfl) ?_
              refine oCall hf hs rfl (c_Only _ _) rfl rfl rfl E86 (by decide) (fun _ h => h.sub (.cons _ (.cons _ (.refl _)))) ?_; clear hs hf hS a; intro w a hs hS hf
              refine one (i := 10) (by kernel_rfl) ?_
              refine oCall hf hs rfl (c_Sp _ _ _) rfl rfl rfl E52 (by decide) (fun _ h => h.sub (.cons _ (.cons _ (.refl _)))) ?_; clear hs hf hS a; intro w a hs hS hf
              refine one (i := 11) (by kernel_rfl) ?_
              refine oCall hf hs rfl (c_flap _ _ _ _ _ _) rfl rfl rfl E108 (by decide) (fun _ h => h.sub (.cons _ (.cons _ (.refl _)))) ?_; clear hs hf hS a; intro w a hs hS hf
              refine one (i := 12) (by kernel_rfl) ?_
              refine oV hf rfl (v_lits (len := 4) hf hs SL22 T49 (.cons rfl (.cons rfl (.cons rfl (.cons rfl .nil)))) rfl rfl rfl rfl (by decide) rfl) (by decide) (fun _ _ ⟨_, _, h⟩ => h.sub (.cons _ (.cons _ (.cons _ (.refl _))))) ?_; clear hs hf hS a; rintro _ w ⟨b4, rfl, hs⟩ hS a hf
              refine gA hf hS (i := 18) rfl (by kernel_rfl) (fun w hs => g_bld hf [[.int .i64 0], [.int .i64 0], [.slice none 0 0], [.slice none 0 0]] (.cons rfl (.cons rfl (.cons rfl (.cons rfl .nil)))) (fun _ => by kernel_rfl)) (by decide) ?_; clear hf a; intro a hf
              refine one (i := 19) (by kernel_rfl) ?_
              refine oU rfl (u_stW hf hs T25 rfl rfl rfl (k := 2) rfl rfl rfl) (fun _ h => h.sub (.cons _ (.cons _ (.cons _ (.refl _))))) ?_; clear hs hS; intro w hs hS; dsimp only [List.set] at hs
              refine e_done (by kernel_rfl) ?_
              refine c_ret ?_
              refine e_res hf hs rfl (.cellA T25 rfl (k := 2) rfl rfl .nil) rfl ?_
              first
              | exact ⟨_, rfl, hs.below, b3, b4, rfl, (hs.own _ _ (.tail _ (.head _))).1, (hs.own _ _ (.head _)).1, fun e => by have hn := hs.nodup; rw [e] at hn; simp [ids] at hn, (hs.own _ _ (.tail _ (.head _))).2, (hs.own _ _ (.head _)).2⟩
              | exact ⟨_, rfl, hs.below, b4, b3, rfl, (hs.own _ _ (.head _)).1, (hs.own _ _ (.tail _ (.head _))).1, fun e => by have hn := hs.nodup; rw [e] at hn; simp [ids] at hn, (hs.own _ _ (.head _)).2, (hs.own _ _ (.tail _ (.head _))).2⟩
          · skip
            refine oV hf rfl (v_lits (len := 4) hf hs SL23 T64 (.cons rfl (.cons rfl (.cons rfl (.cons rfl .nil)))) rfl rfl rfl rfl (by decide) rfl) (by decide) (fun _ _ ⟨_, _, h⟩ => h.sub (.cons _ (.cons _ (.refl _)))) ?_; clear hs hf hS a; rintro _ w ⟨b3, rfl, hs⟩ hS a hf
            refine one (i := 5) (by kernel_rfl) ?_
            refine oCall hf hs rfl (c_flap _ _ _ _ _ _) rfl rfl rfl E108 (by decide) (fun _ h => h.sub (.cons _ (.cons _ (.refl _)))) ?_; clear hs hf hS a; intro w a hs hS hf
            refine one (i := 6) (by kernel_rfl) ?_
            refine oCall hf hs rfl (c_Only _ _) rfl rfl rfl E86 (by decide) (fun _ h => h.sub (.cons _ (.cons _ (.refl _)))) ?_; clear hs hf hS a; intro w a hs hS hf
            refine one (i := 7) (by kernel_rfl) ?_
            refine oCall hf hs rfl (c_Sp _ _ _) rfl rfl rfl E52 (by decide) (fun _ h => h.sub (.cons _ (.cons _ (.refl _)))) ?_; clear hs hf hS a; intro w a hs hS hf
            refine one (i := 8) (by kernel_rfl) ?_
            refine oCall hf hs rfl (c_flap _ _ _ _ _ _) rfl rfl rfl E108 (by decide) (fun _ h => h.sub (.cons _ (.cons _ (.refl _)))) ?_; clear hs hf hS a; intro w a hs hS hf
            refine one (i := 9) (by kernel_rfl) ?_
            refine oCall hf hs rfl (c_Only _ _) rfl rfl rfl E86 (by decide) (fun _ h => h.sub (.cons _ (.cons _ (.refl _)))) ?_; clear hs hf hS a; intro w a hs hS hf
            refine one (i := 10) (by kernel_rfl) ?_
            refine oCall hf hs rfl (c_Sp _ _ _) rfl rfl rfl E52 (by decide) (fun _ h => h.sub (.cons _ (.cons _ (.refl _)))) ?_; clear hs hf hS a; intro w a hs hS hf
            refine one (i := 11) (by kernel_rfl) ?_
            refine oCall hf hs rfl (c_flap _ _ _ _ _ _) rfl rfl rfl E108 (by decide) (fun _ h => h.sub (.cons _ (.cons _ (.refl _)))) ?_; clear hs hf hS a; intro w a hs hS hf
            refine one (i := 12) (by kernel_rfl) ?_
            refine oV hf rfl (v_lits (len := 4) hf hs SL22 T49 (.cons rfl (.cons rfl (.cons rfl (.cons rfl .nil)))) rfl rfl rfl rfl (by decide) rfl) (by decide) (fun _ _ ⟨_, _, h⟩ => h.sub (.cons _ (.cons _ (.cons _ (.refl _))))) ?_; clear hs hf hS a; rintro _ w ⟨b4, rfl, hs⟩ hS a hf
            refine gA hf hS (i := 18) rfl (by kernel_rfl) (fun w hs => g_bld hf [[.int .i64 0], [.int .i64 0], [.slice none 0 0], [.slice none 0 0]] (.cons rfl (.cons rfl (.cons rfl (.cons rfl .nil)))) (fun _ => by kernel_rfl)) (by decide) ?_; clear hf a; intro a hf
            refine one (i := 19) (by kernel_rfl) ?_
            refine oU rfl (u_stW hf hs T25 rfl rfl rfl (k := 2) rfl rfl rfl) (fun _ h => h.sub (.cons _ (.cons _ (.cons _ (.refl _))))) ?_; clear hs hS; intro w hs hS; dsimp only [List.set] at hs
            refine e_done (by kernel_rfl) ?_
            refine c_ret ?_
            refine e_res hf hs rfl (.cellA T25 rfl (k := 2) rfl rfl .nil) rfl ?_
            first
            | exact ⟨_, rfl, hs.below, b3, b4, rfl, (hs.own _ _ (.tail _ (.head _))).1, (hs.own _ _ (.head _)).1, fun e => by have hn := hs.nodup; rw [e] at hn; simp [ids] at hn, (hs.own _ _ (.tail _ (.head _))).2, (hs.own _ _ (.head _)).2⟩
            | exact ⟨_, rfl, hs.below, b4, b3, rfl, (hs.own _ _ (.head _)).1, (hs.own _ _ (.tail _ (.head _))).1, fun e => by have hn := hs.nodup; rw [e] at hn; simp [ids] at hn, (hs.own _ _ (.head _)).2, (hs.own _ _ (.tail _ (.head _))).2⟩
        · skip
          refine oV hf rfl (v_lits (len := 4) hf hs SL23 T64 (.cons rfl (.cons rfl (.cons rfl (.cons rfl .nil)))) rfl rfl rfl rfl (by decide) rfl) (by decide) (fun _ _ ⟨_, _, h⟩ => h.sub (.cons _ (.cons _ (.refl _)))) ?_; clear hs hf hS a; rintro _ w ⟨b3, rfl, hs⟩ hS a hf
          refine one (i := 4) (by kernel_rfl) ?_
          refine oCall hf hs rfl (c_Sp _ _ _) rfl rfl rfl E52 (by decide) (fun _ h => h.sub (.cons _ (.cons _ (.refl _)))) ?_; clear hs hf hS a; intro w a hs hS hf
          refine one (i := 5) (by kernel_rfl) ?_
          refine oCall hf hs rfl (c_flap _ _ _ _ _ _) rfl rfl rfl E108 (by decide) (fun _ h => h.sub (.cons _ (.cons _ (.refl _)))) ?_; clear hs hf hS a; intro w a hs hS hf
          refine one (i := 6) (by kernel_rfl) ?_
          refine oCall hf hs rfl (c_Only _ _) rfl rfl rfl E86 (by decide) (fun _ h => h.sub (.cons _ (.cons _ (.refl _)))) ?_; clear hs hf hS a; intro w a hs hS hf
          refine one (i := 7) (by kernel_rfl) ?_
          refine oCall hf hs rfl (c_Sp _ _ _) rfl rfl rfl E52 (by decide) (fun _ h => h.sub (.cons _ (.cons _ (.refl _)))) ?_; clear hs hf hS a; intro w a hs hS hf
          refine one (i := 8) (by kernel_rfl) ?_
          refine oCall hf hs rfl (c_flap _ _ _ _ _ _) rfl rfl rfl E108 (by decide) (fun _ h => h.sub (.cons _ (.cons _ (.refl _)))) ?_; clear hs hf hS a; intro w a hs hS hf
          refine one (i := 9) (by kernel_rfl) ?_
          refine oCall hf hs rfl (c_Only _ _) rfl rfl rfl E86 (by decide) (fun _ h => h.sub (.cons _ (.cons _ (.refl _)))) ?_; clear hs hf hS a; intro w a hs hS hf
          refine one (i := 10) (by kernel_rfl) ?_
          refine oCall hf hs rfl (c_Sp _ _ _) rfl rfl rfl E52 (by decide) (fun _ h => h.sub (.cons _ (.cons _ (.refl _)))) ?_; clear hs hf hS a; intro w a hs hS hf
          refine one (i := 11) (by kernel_rfl) ?_
          refine oCall hf hs rfl (c_flap _ _ _ _ _ _) rfl rfl rfl E108 (by decide) (fun _ h => h.sub (.cons _ (.cons _ (.refl _)))) ?_; clear hs hf hS a; intro w a hs hS hf
          refine one (i := 12) (by kernel_rfl) ?_
          refine oV hf rfl (v_lits (len := 4) hf hs SL22 T49 (.cons rfl (.cons rfl (.cons rfl (.cons rfl .nil)))) rfl rfl rfl rfl (by decide) rfl) (by decide) (fun _ _ ⟨_, _, h⟩ => h.sub (.cons _ (.cons _ (.cons _ (.refl _))))) ?_; clear hs hf hS a; rintro _ w ⟨b4, rfl, hs⟩ hS a hf
          refine gA hf hS (i := 18) rfl (by kernel_rfl) (fun w hs => g_bld hf [[.int .i64 0], [.int .i64 0], [.slice none 0 0], [.slice none 0 0]] (.cons rfl (.cons rfl (.cons rfl (.cons rfl .nil)))) (fun _ => by kernel_rfl)) (by decide) ?_; clear hf a; intro a hf
          refine one (i := 19) (by kernel_rfl) ?_
          refine oU rfl (u_stW hf hs T25 rfl rfl rfl (k := 2) rfl rfl rfl) (fun _ h => h.sub (.cons _ (.cons _ (.cons _ (.refl _))))) ?_; clear hs hS; intro w hs hS; dsimp only [List.set] at hs
          refine e_done (by kernel_rfl) ?_
          refine c_ret ?_
          refine e_res hf hs rfl (.cellA T25 rfl (k := 2) rfl rfl .nil) rfl ?_
          first
          | exact ⟨_, rfl, hs.below, b3, b4, rfl, (hs.own _ _ (.tail _ (.head _))).1, (hs.own _ _ (.head _)).1, fun e => by have hn := hs.nodup; rw [e] at hn; simp [ids] at hn, (hs.own _ _ (.tail _ (.head _))).2, (hs.own _ _ (.head _)).2⟩
          | exact ⟨_, rfl, hs.below, b4, b3, rfl, (hs.own _ _ (.head _)).1, (hs.own _ _ (.tail _ (.head _))).1, fun e => by have hn := hs.nodup; rw [e] at hn; simp [ids] at hn, (hs.own _ _ (.head _)).2, (hs.own _ _ (.tail _ (.head _))).2⟩
      · skip
        refine oV hf rfl (v_lits (len := 4) hf hs SL23 T64 (.cons rfl (.cons rfl (.cons rfl (.cons rfl .nil)))) rfl rfl rfl rfl (by decide) rfl) (by decide) (fun _ _ ⟨_, _, h⟩ => h.sub (.cons _ (.cons _ (.refl _)))) ?_; clear hs hf hS a; rintro _ w ⟨b3, rfl, hs⟩ hS a hf
        refine one (i := 3) (by kernel_rfl) ?_
        refine oCall hf hs rfl (c_Sp _ _ _) rfl rfl rfl E52 (by decide) (fun _ h => h.sub (.cons _ (.cons _ (.refl _)))) ?_; clear hs hf hS a; intro w a hs hS hf
        refine one (i := 4) (by kernel_rfl) ?_
        refine oCall hf hs rfl (c_Sp _ _ _) rfl rfl rfl E52 (by decide) (fun _ h => h.sub (.cons _ (.cons _ (.refl _)))) ?_; clear hs hf hS a; intro w a hs hS hf
        refine one (i := 5) (by kernel_rfl) ?_
        refine oCall hf hs rfl (c_flap _ _ _ _ _ _) rfl rfl rfl E108 (by decide) (fun _ h => h.sub (.cons _ (.cons _ (.refl _)))) ?_; clear hs hf hS a; intro w a hs hS hf
        refine one (i := 6) (by kernel_rfl) ?_
        refine oCall hf hs rfl (c_Only _ _) rfl rfl rfl E86 (by decide) (fun _ h => h.sub (.cons _ (.cons _ (.refl _)))) ?_; clear hs hf hS a; intro w a hs hS hf
        refine one (i := 7) (by kernel_rfl) ?_
        refine oCall hf hs rfl (c_Sp _ _ _) rfl rfl rfl E52 (by decide) (fun _ h => h.sub (.cons _ (.cons _ (.refl _)))) ?_; clear hs hf hS a; intro w a hs hS hf
        refine one (i := 8) (by kernel_rfl) ?_
        refine oCall hf hs rfl (c_flap _ _ _ _ _ _) rfl rfl rfl E108 (by decide) (fun _ h => h.sub (.cons _ (.cons _ (.refl _)))) ?_; clear hs hf hS a; intro w a hs hS hf
        refine one (i := 9) (by kernel_rfl) ?_
        refine oCall hf hs rfl (c_Only _ _) rfl rfl rfl E86 (by decide) (fun _ h => h.sub (.cons _ (.cons _ (.refl _)))) ?_; clear hs hf hS a; intro w a hs hS hf
        refine one (i := 10) (by kernel_rfl) ?_
        refine oCall hf hs rfl (c_Sp _ _ _) rfl rfl rfl E52 (by decide) (fun _ h => h.sub (.cons _ (.cons _ (.refl _)))) ?_; clear hs hf hS a; intro w a hs hS hf
        refine one (i := 11) (by kernel_rfl) ?_
        refine oCall hf hs rfl (c_flap _ _ _ _ _ _) rfl rfl rfl E108 (by decide) (fun _ h => h.sub (.cons _ (.cons _ (.refl _)))) ?_; clear hs hf hS a; intro w a hs hS hf
        refine one (i := 12) (by kernel_rfl) ?_
        refine oV hf rfl (v_lits (len := 4) hf hs SL22 T49 (.cons rfl (.cons rfl (.cons rfl (.cons rfl .nil)))) rfl rfl rfl rfl (by decide) rfl) (by decide) (fun _ _ ⟨_, _, h⟩ => h.sub (.cons _ (.cons _ (.cons _ (.refl _))))) ?_; clear hs hf hS a; rintro _ w ⟨b4, rfl, hs⟩ hS a hf
        refine gA hf hS (i := 18) rfl (by kernel_rfl) (fun w hs => g_bld hf [[.int .i64 0], [.int .i64 0], [.slice none 0 0], [.slice none 0 0]] (.cons rfl (.cons rfl (.cons rfl (.cons rfl .nil)))) (fun _ => by kernel_rfl)) (by decide) ?_; clear hf a; intro a hf
        refine one (i := 19) (by kernel_rfl) ?_
        refine oU rfl (u_stW hf hs T25 rfl rfl rfl (k := 2) rfl rfl rfl) (fun _ h => h.sub (.cons _ (.cons _ (.cons _ (.refl _))))) ?_; clear hs hS; intro w hs hS; dsimp only [List.set] at hs
        refine e_done (by kernel_rfl) ?_
        refine c_ret ?_
        refine e_res hf hs rfl (.cellA T25 rfl (k := 2) rfl rfl .nil) rfl ?_
        first
        | exact ⟨_, rfl, hs.below, b3, b4, rfl, (hs.own _ _ (.tail _ (.head _))).1, (hs.own _ _ (.head _)).1, fun e => by have hn := hs.nodup; rw [e] at hn; simp [ids] at hn, (hs.own _ _ (.tail _ (.head _))).2, (hs.own _ _ (.head _)).2⟩
        | exact ⟨_, rfl, hs.below, b4, b3, rfl, (hs.own _ _ (.head _)).1, (hs.own _ _ (.tail _ (.head _))).1, fun e => by have hn := hs.nodup; rw [e] at hn; simp [ids] at hn, (hs.own _ _ (.head _)).2, (hs.own _ _ (.tail _ (.head _))).2⟩
    · skip
      refine oV hf rfl (v_lits (len := 4) hf hs SL23 T64 (.cons rfl (.cons rfl (.cons rfl (.cons rfl .nil)))) rfl rfl rfl rfl (by decide) rfl) (by decide) (fun _ _ ⟨_, _, h⟩ => h.sub (.cons _ (.cons _ (.refl _)))) ?_; clear hs hf hS a; rintro _ w ⟨b3, rfl, hs⟩ hS a hf
      refine one (i := 2) (by kernel_rfl) ?_
      refine oCall hf hs rfl (c_flap _ _ _ _ _ _) rfl rfl rfl E108 (by decide) (fun _ h => h.sub (.cons _ (.cons _ (.refl _)))) ?_; clear hs hf hS a; intro w a hs hS hf
      refine one (i := 3) (by kernel_rfl) ?_
      refine oCall hf hs rfl (c_Sp _ _ _) rfl rfl rfl E52 (by decide) (fun _ h => h.sub (.cons _ (.cons _ (.refl _)))) ?_; clear hs hf hS a; intro w a hs hS hf
      refine one (i := 4) (by kernel_rfl) ?_
      refine oCall hf hs rfl (c_Sp _ _ _) rfl rfl rfl E52 (by decide) (fun _ h => h.sub (.cons _ (.cons _ (.refl _)))) ?_; clear hs hf hS a; intro w a hs hS hf
      refine one (i := 5) (by kernel_rfl) ?_
      refine oCall hf hs rfl (c_flap _ _ _ _ _ _) rfl rfl rfl E108 (by decide) (fun _ h => h.sub (.cons _ (.cons _ (.refl _)))) ?_; clear hs hf hS a; intro w a hs hS hf
      refine one (i := 6) (by kernel_rfl) ?_
      refine oCall hf hs rfl (c_Only _ _) rfl rfl rfl E86 (by decide) (fun _ h => h.sub (.cons _ (.cons _ (.refl _)))) ?_; clear hs hf hS a; intro w a hs hS hf
      refine one (i := 7) (by kernel_rfl) ?_
      refine oCall hf hs rfl (c_Sp _ _ _) rfl rfl rfl E52 (by decide) (fun _ h => h.sub (.cons _ (.cons _ (.refl _)))) ?_; clear hs hf hS a; intro w a hs hS hf
      refine one (i := 8) (by kernel_rfl) ?_
      refine oCall hf hs rfl (c_flap _ _ _ _ _ _) rfl rfl rfl E108 (by decide) (fun _ h => h.sub (.cons _ (.cons _ (.refl _)))) ?_; clear hs hf hS a; intro w a hs hS hf
      refine one (i := 9) (by kernel_rfl) ?_
      refine oCall hf hs rfl (c_Only _ _) rfl rfl rfl E86 (by decide) (fun _ h => h.sub (.cons _ (.cons _ (.refl _)))) ?_; clear hs hf hS a; intro w a hs hS hf
      refine one (i := 10) (by kernel_rfl) ?_
      refine oCall hf hs rfl (c_Sp _ _ _) rfl rfl rfl E52 (by decide) (fun _ h => h.sub (.cons _ (.cons _ (.refl _)))) ?_; clear hs hf hS a; intro w a hs hS hf
      refine one (i := 11) (by kernel_rfl) ?_
      refine oCall hf hs rfl (c_flap _ _ _ _ _ _) rfl rfl rfl E108 (by decide) (fun _ h => h.sub (.cons _ (.cons _ (.refl _)))) ?_; clear hs hf hS a; intro w a hs hS hf
      refine one (i := 12) (by kernel_rfl) ?_
      refine oV hf rfl (v_lits (len := 4) hf hs SL22 T49 (.cons rfl (.cons rfl (.cons rfl (.cons rfl .nil)))) rfl rfl rfl rfl (by decide) rfl) (by decide) (fun _ _ ⟨_, _, h⟩ => h.sub (.cons _ (.cons _ (.cons _ (.refl _))))) ?_; clear hs hf hS a; rintro _ w ⟨b4, rfl, hs⟩ hS a hf
      refine gA hf hS (i := 18) rfl (by kernel_rfl) (fun w hs => g_bld hf [[.int .i64 0], [.int .i64 0], [.slice none 0 0], [.slice none 0 0]] (.cons rfl (.cons rfl (.cons rfl (.cons rfl .nil)))) (fun _ => by kernel_rfl)) (by decide) ?_; clear hf a; intro a hf
      refine one (i := 19) (by kernel_rfl) ?_
      refine oU rfl (u_stW hf hs T25 rfl rfl rfl (k := 2) rfl rfl rfl) (fun _ h => h.sub (.cons _ (.cons _ (.cons _ (.refl _))))) ?_; clear hs hS; intro w hs hS; dsimp only [List.set] at hs
      refine e_done (by kernel_rfl) ?_
      refine c_ret ?_
      refine e_res hf hs rfl (.cellA T25 rfl (k := 2) rfl rfl .nil) rfl ?_
      first
      | exact ⟨_, rfl, hs.below, b3, b4, rfl, (hs.own _ _ (.tail _ (.head _))).1, (hs.own _ _ (.head _)).1, fun e => by have hn := hs.nodup; rw [e] at hn; simp [ids] at hn, (hs.own _ _ (.tail _ (.head _))).2, (hs.own _ _ (.head _)).2⟩
      | exact ⟨_, rfl, hs.below, b4, b3, rfl, (hs.own _ _ (.head _)).1, (hs.own _ _ (.tail _ (.head _))).1, fun e => by have hn := hs.nodup; rw [e] at hn; simp [ids] at hn, (hs.own _ _ (.head _)).2, (hs.own _ _ (.tail _ (.head _))).2⟩
  · skip
    refine oV hf rfl (v_lits (len := 4) hf hs SL23 T64 (.cons rfl (.cons rfl (.cons rfl (.cons rfl .nil)))) rfl rfl rfl rfl (by decide) rfl) (by decide) (fun _ _ ⟨_, _, h⟩ => h.sub (.cons _ (.cons _ (.refl _)))) ?_; clear hs hf hS a; rintro _ w ⟨b3, rfl, hs⟩ hS a hf
    refine one (i := 1) (by kernel_rfl) ?_
    refine oCall hf hs rfl (c_Sp _ _ _) rfl rfl rfl E52 (by decide) (fun _ h => h.sub (.cons _ (.cons _ (.refl _)))) ?_; clear hs hf hS a; intro w a hs hS hf
    refine one (i := 2) (by kernel_rfl) ?_
    refine oCall hf hs rfl (c_flap _ _ _ _ _ _) rfl rfl rfl E108 (by decide) (fun _ h => h.sub (.cons _ (.cons _ (.refl _)))) ?_; clear hs hf hS a; intro w a hs hS hf
    refine one (i := 3) (by kernel_rfl) ?_
    refine oCall hf hs rfl (c_Sp _ _ _) rfl rfl rfl E52 (by decide) (fun _ h => h.sub (.cons _ (.cons _ (.refl _)))) ?_; clear hs hf hS a; intro w a hs hS hf
    refine one (i := 4) (by kernel_rfl) ?_
    refine oCall hf hs rfl (c_Sp _ _ _) rfl rfl rfl E52 (by decide) (fun _ h => h.sub (.cons _ (.cons _ (.refl _)))) ?_; clear hs hf hS a; intro w a hs hS hf
    refine one (i := 5) (by kernel_rfl) ?_
    refine oCall hf hs rfl (c_flap _ _ _ _ _ _) rfl rfl rfl E108 (by decide) (fun _ h => h.sub (.cons _ (.cons _ (.refl _)))) ?_; clear hs hf hS a; intro w a hs hS hf
    refine one (i := 6) (by kernel_rfl) ?_
    refine oCall hf hs rfl (c_Only _ _) rfl rfl rfl E86 (by decide) (fun _ h => h.sub (.cons _ (.cons _ (.refl _)))) ?_; clear hs hf hS a; intro w a hs hS hf
    refine one (i := 7) (by kernel_rfl) ?_
    refine oCall hf hs rfl (c_Sp _ _ _) rfl rfl rfl E52 (by decide) (fun _ h => h.sub (.cons _ (.cons _ (.refl _)))) ?_; clear hs hf hS a; intro w a hs hS hf
    refine one (i := 8) (by kernel_rfl) ?_
    refine oCall hf hs rfl (c_flap _ _ _ _ _ _) rfl rfl rfl E108 (by decide) (fun _ h => h.sub (.cons _ (.cons _ (.refl _)))) ?_; clear hs hf hS a; intro w a hs hS hf
    refine one (i := 9) (by kernel_rfl) ?_
    refine oCall hf hs rfl (c_Only _ _) rfl rfl rfl E86 (by decide) (fun _ h => h.sub (.cons _ (.cons _ (.refl _)))) ?_; clear hs hf hS a; intro w a hs hS hf
    refine one (i := 10) (by kernel_rfl) ?_
    refine oCall hf hs rfl (c_Sp _ _ _) rfl rfl rfl E52 (by decide) (fun _ h => h.sub (.cons _ (.cons _ (.refl _)))) ?_; clear hs hf hS a; intro w a hs hS hf
    refine one (i := 11) (by kernel_rfl) ?_
    refine oCall hf hs rfl (c_flap _ _ _ _ _ _) rfl rfl rfl E108 (by decide) (fun _ h => h.sub (.cons _ (.cons _ (.refl _)))) ?_; clear hs hf hS a; intro w a hs hS hf
    refine one (i := 12) (by kernel_rfl) ?_
    refine oV hf rfl (v_lits (len := 4) hf hs SL22 T49 (.cons rfl (.cons rfl (.cons rfl (.cons rfl .nil)))) rfl rfl rfl rfl (by decide) rfl) (by decide) (fun _ _ ⟨_, _, h⟩ => h.sub (.cons _ (.cons _ (.cons _ (.refl _))))) ?_; clear hs hf hS a; rintro _ w ⟨b4, rfl, hs⟩ hS a hf
    refine gA hf hS (i := 18) rfl (by kernel_rfl) (fun w hs => g_bld hf [[.int .i64 0], [.int .i64 0], [.slice none 0 0], [.slice none 0 0]] (.cons rfl (.cons rfl (.cons rfl (.cons rfl .nil)))) (fun _ => by kernel_rfl)) (by decide) ?_; clear hf a; intro a hf
    refine one (i := 19) (by kernel_rfl) ?_
    refine oU rfl (u_stW hf hs T25 rfl rfl rfl (k := 2) rfl rfl rfl) (fun _ h => h.sub (.cons _ (.cons _ (.cons _ (.refl _))))) ?_; clear hs hS; intro w hs hS; dsimp only [List.set] at hs
    refine e_done (by kernel_rfl) ?_
    refine c_ret ?_
    refine e_res hf hs rfl (.cellA T25 rfl (k := 2) rfl rfl .nil) rfl ?_
    first
    | exact ⟨_, rfl, hs.below, b3, b4, rfl, (hs.own _ _ (.tail _ (.head _))).1, (hs.own _ _ (.head _)).1, fun e => by have hn := hs.nodup; rw [e] at hn; simp [ids] at hn, (hs.own _ _ (.tail _ (.head _))).2, (hs.own _ _ (.head _)).2⟩
    | exact ⟨_, rfl, hs.below, b4, b3, rfl, (hs.own _ _ (.head _)).1, (hs.own _ _ (.tail _ (.head _))).1, fun e => by have hn := hs.nodup; rw [e] at hn; simp [ids] at hn, (hs.own _ _ (.head _)).2, (hs.own _ _ (.tail _ (.head _))).2⟩

end Go.Proofs.YtpjhffockmnjbaaDoor
set_option linter.unusedVariables false
set_option linter.unusedSimpArgs false
namespace Go.Proofs.YtpjhffockmnjbaaDoor
open Go.RowKit
theorem c_ringed (w0 : World) :
    Calls Tryd.prog 51 #[] w0 (RetX w0 (fun v w0' => ∃ bf br, v = chV bf br ∧ ChIn 5 6 bf br w0.heap.size w0')) := by
  refine c_enter (n := 3) Tryd.func51 rfl rfl (Nat.le_of_ble_eq_true rfl) ?_; intro a hf; simp only [zipR] at hf
  have hs := St.start w0 [] (by simp)
  refine c_reg ?_
  refine vL hf (v_alloc hs T25 rfl) (by decide) ?_; clear hs hf a; rintro _ w ⟨b1, rfl, hs⟩ a hf
  refine e_nil ?_
  refine c_reg ?_
  refine callL hf hs (c_Sp _ _ _) rfl rfl rfl E52 (by decide) ?_; clear hs hf a; intro w a hs hf
  refine callX hf hs (c_sheet _ _ _) rfl rfl rfl E85 (by decide) ?_; intro v w1 a hR hb hs1 hf; obtain ⟨bf, br, rfl, hch⟩ := hR; replace hs := hs.fresh hs1 (chFresh (m := w0.heap.size) hch hs.below.size); clear hs1 hb
  refine uL (u_stW hf hs T25 rfl rfl rfl (k := 0) rfl rfl rfl) ?_; clear hs; intro w hs; dsimp only [List.set] at hs
  refine e_nil ?_
  refine c_ret ?_
  refine e_res hf hs rfl (.cellA T25 rfl (k := 0) rfl rfl .nil) rfl ?_
  exact ⟨_, rfl, hs.below, bf, br, rfl, hs.rd (.head _)⟩

theorem c_short (w0 : World) :
    Calls Tryd.prog 53 #[] w0 (RetX w0 (fun v w0' => ∃ bf br, v = chV bf br ∧ ChIn 5 5 bf br w0.heap.size w0')) := by
  refine c_enter (n := 3) Tryd.func53 rfl rfl (Nat.le_of_ble_eq_true rfl) ?_; intro a hf; simp only [zipR] at hf
  have hs := St.start w0 [] (by simp)
  refine c_reg ?_
  refine vL hf (v_alloc hs T25 rfl) (by decide) ?_; clear hs hf a; rintro _ w ⟨b1, rfl, hs⟩ a hf
  refine e_nil ?_
  refine c_reg ?_
  refine callL hf hs (c_Only _ _) rfl rfl rfl E86 (by decide) ?_; clear hs hf a; intro w a hs hf
  refine callX hf hs (c_sheet _ _ _) rfl rfl rfl E85 (by decide) ?_; intro v w1 a hR hb hs1 hf; obtain ⟨bf, br, rfl, hch⟩ := hR; replace hs := hs.fresh hs1 (chFresh (m := w0.heap.size) hch hs.below.size); clear hs1 hb
  refine uL (u_stW hf hs T25 rfl rfl rfl (k := 0) rfl rfl rfl) ?_; clear hs; intro w hs; dsimp only [List.set] at hs
  refine e_nil ?_
  refine c_ret ?_
  refine e_res hf hs rfl (.cellA T25 rfl (k := 0) rfl rfl .nil) rfl ?_
  exact ⟨_, rfl, hs.below, bf, br, rfl, hs.rd (.head _)⟩

theorem c_folded (ge : TypeId) (gz : Nat × Nat) (w0 : World) (hG : BlkIs 0 sidesA ge gz w0) :
    Calls Tryd.prog 21 #[] w0 (Ret w0 (.bool true)) := by
  refine c_enter (n := 130) Tryd.func21 rfl rfl (Nat.le_of_ble_eq_true rfl) ?_; intro a hf; simp only [zipR] at hf
  have hs := St.start w0 [BlkIs 0 sidesA ge gz] hG.st1
  refine c_reg ?_
  refine gL hf (g_as hf rfl) (by decide) ?_; clear hf a; intro a hf
  refine e_nil ?_
  refine c_reg ?_
  refine callX hf hs (c_ringed _) rfl rfl rfl E51 (by decide) ?_; intro v w1 a hR hb hs1 hf; obtain ⟨bf1, br1, rfl, hch⟩ := hR; replace hs := hs.fresh hs1 (chFresh (m := w0.heap.size) hch hs.below.size); clear hs1 hb
  refine callL hf hs (c_Meet (chapB 5 6) (some ⟨bf1, 0, none⟩) 4 (some ⟨br1, 0, none⟩) 4 ge gz 0 1 _ (hs.rd (.head _)).sh (hs.rd (.tail _ (.head _)))) rfl rfl rfl E15 (by decide) ?_; clear hs hf a; intro w a hs hf
  rw [k_meet] at hf
  refine gL hf (g_mv hf rfl) (by decide) ?_; clear hf a; intro a hf
  refine gL hf (g_ext hf rfl rfl) (by decide) ?_; clear hf a; intro a hf
  refine gL hf (g_ext hf rfl rfl) (by decide) ?_; clear hf a; intro a hf
  refine gL hf (g_as hf rfl) (by decide) ?_; clear hf a; intro a hf
  refine gL hf (g_as hf rfl) (by decide) ?_; clear hf a; intro a hf
  refine e_nil ?_
  refine c_reg ?_
  refine callX hf hs (c_ringed _) rfl rfl rfl E51 (by decide) ?_; intro v w1 a hR hb hs1 hf; obtain ⟨bf2, br2, rfl, hch⟩ := hR; replace hs := hs.fresh hs1 (chFresh (m := w0.heap.size) hch hs.below.size); clear hs1 hb
  refine vL hf (v_lits (len := 4) hf hs SL27 T3 (.cons rfl (.cons rfl (.cons rfl (.cons rfl .nil)))) rfl rfl rfl rfl (by decide) rfl) (by decide) ?_; clear hs hf a; rintro _ w ⟨b1, rfl, hs⟩ a hf
  refine callL hf hs (c_Does (chapB 5 6) (some ⟨bf2, 0, none⟩) 4 (some ⟨br2, 0, none⟩) 4 _ _ [1, 2, 0, 3] ge gz (by decide) _ (hs.rd (.head _)).sh (show Rd encI 1 (some ⟨b1, 0, none⟩) 4 [1, 2, 0, 3] w from rd_of_flat (sz := 1) (fun _ => rfl) (by decide) (hs.own _ _ (.head _)).2 rfl (by decide) rfl) (hs.rd (.tail _ (.tail _ (.head _))))) rfl rfl rfl E19 (by decide) ?_; clear hs hf a; intro w a hs hf
  rw [k_does] at hf
  refine gL hf (g_mv hf rfl) (by decide) ?_; clear hf a; intro a hf
  refine gL hf (g_ext hf rfl rfl) (by decide) ?_; clear hf a; intro a hf
  refine gL hf (g_ext hf rfl rfl) (by decide) ?_; clear hf a; intro a hf
  refine gL hf (g_as hf rfl) (by decide) ?_; clear hf a; intro a hf
  refine gL hf (g_as hf rfl) (by decide) ?_; clear hf a; intro a hf
  refine e_nil ?_
  refine c_reg ?_
  refine callX hf hs (c_ringed _) rfl rfl rfl E51 (by decide) ?_; intro v w1 a hR hb hs1 hf; obtain ⟨bf3, br3, rfl, hch⟩ := hR; replace hs := hs.fresh hs1 (chFresh (m := w0.heap.size) hch hs.below.size); clear hs1 hb
  refine callX hf hs (c_Ring (chapB 5 6) (some ⟨bf3, 0, none⟩) 4 (some ⟨br3, 0, none⟩) 4 ge gz _ (hs.rd (.head _)).sh (hs.rd (.tail _ (.tail _ (.tail _ (.head _)))))) rfl rfl rfl E27 (by decide) ?_; intro v w1 a hR hb hs1 hf; obtain ⟨A3, c3, rfl, hou⟩ := hR; rw [k_ring] at hou hf; replace hs := hs.fresh hs1 (outFresh hou); clear hs1 hb
  refine gL hf (g_mv hf rfl) (by decide) ?_; clear hf a; intro a hf
  refine gL hf (g_ext hf rfl rfl) (by decide) ?_; clear hf a; intro a hf
  refine gL hf (g_ext hf rfl rfl) (by decide) ?_; clear hf a; intro a hf
  refine gL hf (g_as hf rfl) (by decide) ?_; clear hf a; intro a hf
  refine gL hf (g_as hf rfl) (by decide) ?_; clear hf a; intro a hf
  refine e_nil ?_
  refine c_reg ?_
  refine callX hf hs (c_ringed _) rfl rfl rfl E51 (by decide) ?_; intro v w1 a hR hb hs1 hf; obtain ⟨bf4, br4, rfl, hch⟩ := hR; replace hs := hs.fresh hs1 (chFresh (m := w0.heap.size) hch hs.below.size); clear hs1 hb
  refine callX hf hs (c_Order (chapB 5 6) (some ⟨bf4, 0, none⟩) 4 (some ⟨br4, 0, none⟩) 4 ge gz _ (hs.rd (.head _)).sh (hs.rd (.tail _ (.tail _ (.tail _ (.tail _ (.tail _ (.head _)))))))) rfl rfl rfl E22 (by decide) ?_; intro v w1 a hR hb hs1 hf; obtain ⟨A4, c4, rfl, hou⟩ := hR; rw [k_order] at hou hf; replace hs := hs.fresh hs1 (outFresh hou); clear hs1 hb
  refine gL hf (g_mv hf rfl) (by decide) ?_; clear hf a; intro a hf
  refine gL hf (g_ext hf rfl rfl) (by decide) ?_; clear hf a; intro a hf
  refine gL hf (g_ext hf rfl rfl) (by decide) ?_; clear hf a; intro a hf
  refine gL hf (g_as hf rfl) (by decide) ?_; clear hf a; intro a hf
  refine gL hf (g_as hf rfl) (by decide) ?_; clear hf a; intro a hf
  refine e_nil ?_
  refine c_reg ?_
  refine callX hf hs (c_ringed _) rfl rfl rfl E51 (by decide) ?_; intro v w1 a hR hb hs1 hf; obtain ⟨bf5, br5, rfl, hch⟩ := hR; replace hs := hs.fresh hs1 (chFresh (m := w0.heap.size) hch hs.below.size); clear hs1 hb
  refine callX hf hs (c_Drop (chapB 5 6) (some ⟨bf5, 0, none⟩) 4 (some ⟨br5, 0, none⟩) 4 ge gz _ (hs.rd (.head _)).sh (hs.rd (.tail _ (.tail _ (.tail _ (.tail _ (.tail _ (.tail _ (.tail _ (.head _)))))))))) rfl rfl rfl E33 (by decide) ?_; intro v w1 a hR hb hs1 hf; obtain ⟨A5, c5, rfl, hou⟩ := hR; rw [k_drop] at hou hf; replace hs := hs.fresh hs1 (outFresh hou); clear hs1 hb
  refine gL hf (g_mv hf rfl) (by decide) ?_; clear hf a; intro a hf
  refine gL hf (g_ext hf rfl rfl) (by decide) ?_; clear hf a; intro a hf
  refine gL hf (g_ext hf rfl rfl) (by decide) ?_; clear hf a; intro a hf
  refine gL hf (g_as hf rfl) (by decide) ?_; clear hf a; intro a hf
  refine gL hf (g_as hf rfl) (by decide) ?_; clear hf a; intro a hf
  refine e_nil ?_
  refine wp_seq ?_
  refine c_reg ?_
  refine gL hf (g_mv hf rfl) (by decide) ?_; clear hf a; intro a hf
  refine gL hf (g_neq hf rfl rfl) (by decide) ?_; clear hf a; intro a hf
  refine gL hf (g_mv hf rfl) (by decide) ?_; clear hf a; intro a hf
  refine gKnown hf rfl rfl rfl ?_
  refine gL hf (g_mv hf rfl) (by decide) ?_; clear hf a; intro a hf
  refine gKnown hf rfl rfl rfl ?_
  refine gL hf (g_neq hf rfl rfl) (by decide) ?_; clear hf a; intro a hf
  refine gL hf (g_pick hf rfl rfl rfl) (by decide) ?_; clear hf a; intro a hf
  refine gL hf (g_mv hf rfl) (by decide) ?_; clear hf a; intro a hf
  refine gKnown hf rfl rfl rfl ?_
  refine gL hf (g_mv hf rfl) (by decide) ?_; clear hf a; intro a hf
  refine gKnown hf rfl rfl rfl ?_
  refine gL hf (g_neq hf rfl rfl) (by decide) ?_; clear hf a; intro a hf
  refine gL hf (g_pick hf rfl rfl rfl) (by decide) ?_; clear hf a; intro a hf
  refine gL hf (g_mv hf rfl) (by decide) ?_; clear hf a; intro a hf
  refine gKnown hf rfl rfl rfl ?_
  refine gL hf (g_mv hf rfl) (by decide) ?_; clear hf a; intro a hf
  refine gKnown hf rfl rfl rfl ?_
  refine gL hf (g_neq hf rfl rfl) (by decide) ?_; clear hf a; intro a hf
  refine gL hf (g_pick hf rfl rfl rfl) (by decide) ?_; clear hf a; intro a hf
  refine gL hf (g_mv hf rfl) (by decide) ?_; clear hf a; intro a hf
  refine gKnown hf rfl rfl rfl ?_
  refine gL hf (g_mv hf rfl) (by decide) ?_; clear hf a; intro a hf
  refine gKnown hf rfl rfl rfl ?_
  refine gL hf (g_neq hf rfl rfl) (by decide) ?_; clear hf a; intro a hf
  refine gL hf (g_pick hf rfl rfl rfl) (by decide) ?_; clear hf a; intro a hf
  refine gL hf (g_mv hf rfl) (by decide) ?_; clear hf a; intro a hf
  refine gKnown hf rfl rfl rfl ?_
  refine gL hf (g_mv hf rfl) (by decide) ?_; clear hf a; intro a hf
  refine gKnown hf rfl rfl rfl ?_
  refine gL hf (g_neq hf rfl rfl) (by decide) ?_; clear hf a; intro a hf
  refine gL hf (g_pick hf rfl rfl rfl) (by decide) ?_; clear hf a; intro a hf
  refine gL hf (g_mv hf rfl) (by decide) ?_; clear hf a; intro a hf
  refine gKnown hf rfl rfl rfl ?_
  refine gL hf (g_mv hf rfl) (by decide) ?_; clear hf a; intro a hf
  refine gKnown hf rfl rfl rfl ?_
  refine gL hf (g_neq hf rfl rfl) (by decide) ?_; clear hf a; intro a hf
  refine gL hf (g_pick hf rfl rfl rfl) (by decide) ?_; clear hf a; intro a hf
  refine gL hf (g_mv hf rfl) (by decide) ?_; clear hf a; intro a hf
  refine gKnown hf rfl rfl rfl ?_
  refine gL hf (g_mv hf rfl) (by decide) ?_; clear hf a; intro a hf
  refine gKnown hf rfl rfl rfl ?_
  refine vL hf (v_lits (len := 3) hf hs SL27 T3 (.cons rfl (.cons rfl (.cons rfl .nil))) rfl rfl rfl rfl (by decide) rfl) (by decide) ?_; clear hs hf a; rintro _ w ⟨b2, rfl, hs⟩ a hf
  refine gKnown hf rfl rfl rfl ?_
  refine callL hf hs (c_Alike _ _ [0, 1, 2] _ _ [0, 1, 2] _ (hs.rd (.tail _ (.tail _ (.tail _ (.tail _ (.head _)))))) (show Rd encI 1 (some ⟨b2, 0, none⟩) 3 [0, 1, 2] w from rd_of_flat (sz := 1) (fun _ => rfl) (by decide) (hs.own _ _ (.head _)).2 rfl (by decide) rfl)) rfl rfl rfl E24 (by decide) ?_; clear hs hf a; intro w a hs hf
  refine gKnown hf rfl rfl rfl ?_
  refine gL hf (g_not hf rfl) (by decide) ?_; clear hf a; intro a hf
  refine gL hf (g_pick hf rfl rfl rfl) (by decide) ?_; clear hf a; intro a hf
  refine gL hf (g_mv hf rfl) (by decide) ?_; clear hf a; intro a hf
  refine gKnown hf rfl rfl rfl ?_
  refine gL hf (g_mv hf rfl) (by decide) ?_; clear hf a; intro a hf
  refine gKnown hf rfl rfl rfl ?_
  refine vL hf (v_lits (len := 1) hf hs SL27 T3 (.cons rfl .nil) rfl rfl rfl rfl (by decide) rfl) (by decide) ?_; clear hs hf a; rintro _ w ⟨b3, rfl, hs⟩ a hf
  refine gKnown hf rfl rfl rfl ?_
  refine callL hf hs (c_Alike _ _ [0] _ _ [0] _ (hs.rd (.head _)) (show Rd encI 1 (some ⟨b3, 0, none⟩) 1 [0] w from rd_of_flat (sz := 1) (fun _ => rfl) (by decide) (hs.own _ _ (.head _)).2 rfl (by decide) rfl)) rfl rfl rfl E24 (by decide) ?_; clear hs hf a; intro w a hs hf
  refine gKnown hf rfl rfl rfl ?_
  refine gL hf (g_not hf rfl) (by decide) ?_; clear hf a; intro a hf
  refine gL hf (g_pick hf rfl rfl rfl) (by decide) ?_; clear hf a; intro a hf
  refine e_nil ?_
  refine c_cond hf rfl (fun hc1 => ?_) (fun hc1 => ?_)
  · skip
    cases hc1
  · skip
    refine c_skip (q_thenN ?_)
    refine c_reg ?_
    refine callX hf hs (c_short _) rfl rfl rfl E53 (by decide) ?_; intro v w1 a hR hb hs1 hf; obtain ⟨bf6, br6, rfl, hch⟩ := hR; replace hs := hs.fresh hs1 (chFresh (m := w0.heap.size) hch hs.below.size); clear hs1 hb
    refine callX hf hs (c_Order (chapB 5 5) (some ⟨bf6, 0, none⟩) 4 (some ⟨br6, 0, none⟩) 4 ge gz _ (hs.rd (.head _)).sh (hs.rd (.tail _ (.tail _ (.tail _ (.tail _ (.tail _ (.tail _ (.tail _ (.tail _ (.tail _ (.head _)))))))))))) rfl rfl rfl E22 (by decide) ?_; intro v w1 a hR hb hs1 hf; obtain ⟨A6, c6, rfl, hou⟩ := hR; rw [k_order2] at hou hf; replace hs := hs.fresh hs1 (outFresh hou); clear hs1 hb
    refine gL hf (g_mv hf rfl) (by decide) ?_; clear hf a; intro a hf
    refine gL hf (g_ext hf rfl rfl) (by decide) ?_; clear hf a; intro a hf
    refine gL hf (g_ext hf rfl rfl) (by decide) ?_; clear hf a; intro a hf
    refine gL hf (g_as hf rfl) (by decide) ?_; clear hf a; intro a hf
    refine gL hf (g_as hf rfl) (by decide) ?_; clear hf a; intro a hf
    refine e_nil ?_
    refine c_reg ?_
    refine callX hf hs (c_short _) rfl rfl rfl E53 (by decide) ?_; intro v w1 a hR hb hs1 hf; obtain ⟨bf7, br7, rfl, hch⟩ := hR; replace hs := hs.fresh hs1 (chFresh (m := w0.heap.size) hch hs.below.size); clear hs1 hb
    refine callL hf hs (c_Orders (chapB 5 5) (some ⟨bf7, 0, none⟩) 4 (some ⟨br7, 0, none⟩) 4 ge gz _ (hs.rd (.head _)).sh (hs.rd (.tail _ (.tail _ (.tail _ (.tail _ (.tail _ (.tail _ (.tail _ (.tail _ (.tail _ (.tail _ (.tail _ (.head _)))))))))))))) rfl rfl rfl E25 (by decide) ?_; clear hs hf a; intro w a hs hf
    rw [k_count2] at hf
    refine gL hf (g_mv hf rfl) (by decide) ?_; clear hf a; intro a hf
    refine gL hf (g_ext hf rfl rfl) (by decide) ?_; clear hf a; intro a hf
    refine gL hf (g_ext hf rfl rfl) (by decide) ?_; clear hf a; intro a hf
    refine gL hf (g_as hf rfl) (by decide) ?_; clear hf a; intro a hf
    refine gL hf (g_as hf rfl) (by decide) ?_; clear hf a; intro a hf
    refine e_nil ?_
    refine c_reg ?_
    refine callX hf hs (c_short _) rfl rfl rfl E53 (by decide) ?_; intro v w1 a hR hb hs1 hf; obtain ⟨bf8, br8, rfl, hch⟩ := hR; replace hs := hs.fresh hs1 (chFresh (m := w0.heap.size) hch hs.below.size); clear hs1 hb
    refine callL hf hs (c_Rounds (chapB 5 5) (some ⟨bf8, 0, none⟩) 4 (some ⟨br8, 0, none⟩) 4 ge gz _ (hs.rd (.head _)).sh (hs.rd (.tail _ (.tail _ (.tail _ (.tail _ (.tail _ (.tail _ (.tail _ (.tail _ (.tail _ (.tail _ (.tail _ (.tail _ (.head _))))))))))))))) rfl rfl rfl E29 (by decide) ?_; clear hs hf a; intro w a hs hf
    rw [k_round2] at hf
    refine gL hf (g_mv hf rfl) (by decide) ?_; clear hf a; intro a hf
    refine gL hf (g_ext hf rfl rfl) (by decide) ?_; clear hf a; intro a hf
    refine gL hf (g_ext hf rfl rfl) (by decide) ?_; clear hf a; intro a hf
    refine gL hf (g_as hf rfl) (by decide) ?_; clear hf a; intro a hf
    refine gL hf (g_as hf rfl) (by decide) ?_; clear hf a; intro a hf
    refine e_nil ?_
    refine c_reg ?_
    refine callX hf hs (c_ringed _) rfl rfl rfl E51 (by decide) ?_; intro v w1 a hR hb hs1 hf; obtain ⟨bf9, br9, rfl, hch⟩ := hR; replace hs := hs.fresh hs1 (chFresh (m := w0.heap.size) hch hs.below.size); clear hs1 hb
    refine callL hf hs (c_Shorter (chapB 5 6) (some ⟨bf9, 0, none⟩) 4 (some ⟨br9, 0, none⟩) 4 ge gz 0 _ (hs.rd (.head _)).sh (hs.rd (.tail _ (.tail _ (.tail _ (.tail _ (.tail _ (.tail _ (.tail _ (.tail _ (.tail _ (.tail _ (.tail _ (.tail _ (.tail _ (.head _)))))))))))))))) rfl rfl rfl E31 (by decide) ?_; clear hs hf a; intro w a hs hf
    rw [k_short] at hf
    refine gL hf (g_mv hf rfl) (by decide) ?_; clear hf a; intro a hf
    refine gL hf (g_ext hf rfl rfl) (by decide) ?_; clear hf a; intro a hf
    refine gL hf (g_ext hf rfl rfl) (by decide) ?_; clear hf a; intro a hf
    refine gL hf (g_as hf rfl) (by decide) ?_; clear hf a; intro a hf
    refine gL hf (g_as hf rfl) (by decide) ?_; clear hf a; intro a hf
    refine e_nil ?_
    refine c_reg ?_
    refine gL hf (g_mv hf rfl) (by decide) ?_; clear hf a; intro a hf
    refine gL hf (g_eql hf rfl rfl) (by decide) ?_; clear hf a; intro a hf
    refine gL hf (g_mv hf rfl) (by decide) ?_; clear hf a; intro a hf
    refine gKnown hf rfl rfl rfl ?_
    refine gL hf (g_mv hf rfl) (by decide) ?_; clear hf a; intro a hf
    refine gKnown hf rfl rfl rfl ?_
    refine gL hf (g_eql hf rfl rfl) (by decide) ?_; clear hf a; intro a hf
    refine gL hf (g_pick hf rfl rfl rfl) (by decide) ?_; clear hf a; intro a hf
    refine gL hf (g_mv hf rfl) (by decide) ?_; clear hf a; intro a hf
    refine gKnown hf rfl rfl rfl ?_
    refine gL hf (g_mv hf rfl) (by decide) ?_; clear hf a; intro a hf
    refine gKnown hf rfl rfl rfl ?_
    refine gL hf (g_eql hf rfl rfl) (by decide) ?_; clear hf a; intro a hf
    refine gL hf (g_pick hf rfl rfl rfl) (by decide) ?_; clear hf a; intro a hf
    refine gL hf (g_mv hf rfl) (by decide) ?_; clear hf a; intro a hf
    refine gKnown hf rfl rfl rfl ?_
    refine gL hf (g_mv hf rfl) (by decide) ?_; clear hf a; intro a hf
    refine gKnown hf rfl rfl rfl ?_
    refine gL hf (g_eql hf rfl rfl) (by decide) ?_; clear hf a; intro a hf
    refine gL hf (g_pick hf rfl rfl rfl) (by decide) ?_; clear hf a; intro a hf
    refine gL hf (g_mv hf rfl) (by decide) ?_; clear hf a; intro a hf
    refine gKnown hf rfl rfl rfl ?_
    refine gL hf (g_mv hf rfl) (by decide) ?_; clear hf a; intro a hf
    refine gKnown hf rfl rfl rfl ?_
    refine vL hf (v_lits (len := 4) hf hs SL27 T3 (.cons rfl (.cons rfl (.cons rfl (.cons rfl .nil)))) rfl rfl rfl rfl (by decide) rfl) (by decide) ?_; clear hs hf a; rintro _ w ⟨b4, rfl, hs⟩ a hf
    refine gKnown hf rfl rfl rfl ?_
    refine callL hf hs (c_Alike _ _ [1, 2, 0, 3] _ _ [1, 2, 0, 3] _ (hs.rd (.tail _ (.tail _ (.tail _ (.head _))))) (show Rd encI 1 (some ⟨b4, 0, none⟩) 4 [1, 2, 0, 3] w from rd_of_flat (sz := 1) (fun _ => rfl) (by decide) (hs.own _ _ (.head _)).2 rfl (by decide) rfl)) rfl rfl rfl E24 (by decide) ?_; clear hs hf a; intro w a hs hf
    refine gL hf (g_pick hf rfl rfl rfl) (by decide) ?_; clear hf a; intro a hf
    refine gL hf (g_mv hf rfl) (by decide) ?_; clear hf a; intro a hf
    refine gKnown hf rfl rfl rfl ?_
    refine gL hf (g_mv hf rfl) (by decide) ?_; clear hf a; intro a hf
    refine gKnown hf rfl rfl rfl ?_
    refine gL hf (g_eql hf rfl rfl) (by decide) ?_; clear hf a; intro a hf
    refine gL hf (g_pick hf rfl rfl rfl) (by decide) ?_; clear hf a; intro a hf
    refine gL hf (g_mv hf rfl) (by decide) ?_; clear hf a; intro a hf
    refine gKnown hf rfl rfl rfl ?_
    refine gL hf (g_mv hf rfl) (by decide) ?_; clear hf a; intro a hf
    refine gKnown hf rfl rfl rfl ?_
    refine gL hf (g_eql hf rfl rfl) (by decide) ?_; clear hf a; intro a hf
    refine gL hf (g_pick hf rfl rfl rfl) (by decide) ?_; clear hf a; intro a hf
    refine gL hf (g_mv hf rfl) (by decide) ?_; clear hf a; intro a hf
    refine gKnown hf rfl rfl rfl ?_
    refine gL hf (g_mv hf rfl) (by decide) ?_; clear hf a; intro a hf
    refine gKnown hf rfl rfl rfl ?_
    refine gL hf (g_eql hf rfl rfl) (by decide) ?_; clear hf a; intro a hf
    refine gL hf (g_pick hf rfl rfl rfl) (by decide) ?_; clear hf a; intro a hf
    refine gL hf (g_as hf rfl) (by decide) ?_; clear hf a; intro a hf
    refine e_nil ?_
    refine c_ret ?_
    refine e_ret1 hf rfl rfl ?_
    exact ⟨rfl, hs.below⟩

end Go.Proofs.YtpjhffockmnjbaaDoor
set_option linter.unusedVariables false
set_option linter.unusedSimpArgs false
namespace Go.Proofs.YtpjhffockmnjbaaDoor
open Go.RowKit
theorem c_sound (b : Sheet) (fA : Option Addr) (fc : Nat) (rA : Option Addr) (rc : Nat)  (w0 : World) (h : ShIn b fA fc rA rc w0) :
    Calls Tryd.prog 35 #[.agg #[.int .i64 b.wide, .int .i64 b.high, .slice fA b.flaps.length fc, .slice rA b.rules.length rc]] w0 (Ret w0 (.bool (checkB b))) := by
  refine c_enter (n := 95) Tryd.func35 rfl rfl (Nat.le_of_ble_eq_true rfl) ?_; intro a hf; simp only [zipR] at hf
  have hs := St.start w0 [Rd encF 5 fA b.flaps.length b.flaps, Rd encR 2 rA b.rules.length b.rules] h.stab
  have hfm := h.F.2.1; have hrm := h.R.2.1
  refine c_reg ?_
  refine vL hf (v_boxA hf hs rfl) (by decide) ?_; clear hs hf a; rintro _ w ⟨b1, rfl, hs⟩ a hf
  refine gL hf (g_as hf rfl) (by decide) ?_; clear hf a; intro a hf
  refine e_nil ?_
  refine c_reg ?_
  refine gL hf (g_ldW hf hs T25 rfl (k := 0) rfl rfl) (by decide) ?_; clear hf a; intro a hf
  refine callL hf hs (c_Check b _ _ _ _ _ ⟨hs.rd (.head _), hs.rd (.tail _ (.head _)), h.fc_, h.rc_⟩) rfl rfl rfl E17 (by decide) ?_; clear hs hf a; intro w a hs hf
  refine gL hf (g_eql hf rfl rfl) (by decide) ?_; clear hf a; intro a hf
  refine gL hf (g_mv hf rfl) (by decide) ?_; clear hf a; intro a hf
  refine ggL hf rfl rfl (gyes_t _) (fun hg => g_fa (off' := 0) hf F25_0 rfl rfl) (by decide) ?_; clear hf a; intro a hf
  refine ggL hf rfl rfl (gyes_t _) (fun hg => g_ld hf hs T3 (ev_gv rfl hg) (k := 0) rfl rfl) (by decide) ?_; clear hf a; intro a hf
  refine callG hf hs rfl rfl (gyes_t _) (fun hg => ⟨_, _, _, _, c_Fits _ _ _ _, rfl, evs_cons (ev_gv rfl hg) (evs_cons rfl (evs_cons rfl evs_nil)), rfl⟩) E39 (by decide) ?_; clear hs hf a; intro w a hs hf
  refine gL hf (g_and hf rfl rfl) (by decide) ?_; clear hf a; intro a hf
  refine gL hf (g_mv hf rfl) (by decide) ?_; clear hf a; intro a hf
  refine ggL hf rfl rfl (gyes_t _) (fun hg => g_fa (off' := 1) hf F25_1 rfl rfl) (by decide) ?_; clear hf a; intro a hf
  refine ggL hf rfl rfl (gyes_t _) (fun hg => g_ld hf hs T3 (ev_gv rfl hg) (k := 0) rfl rfl) (by decide) ?_; clear hf a; intro a hf
  refine callG hf hs rfl rfl (gyes_t _) (fun hg => ⟨_, _, _, _, c_Fits _ _ _ _, rfl, evs_cons (ev_gv rfl hg) (evs_cons rfl (evs_cons rfl evs_nil)), rfl⟩) E39 (by decide) ?_; clear hs hf a; intro w a hs hf
  refine gL hf (g_and hf rfl rfl) (by decide) ?_; clear hf a; intro a hf
  refine gL hf (g_mv hf rfl) (by decide) ?_; clear hf a; intro a hf
  refine ggL hf rfl rfl (gyes_t _) (fun hg => g_fa (off' := 2) hf F25_2 rfl rfl) (by decide) ?_; clear hf a; intro a hf
  refine ggL hf rfl rfl (gyes_t _) (fun hg => g_ld hf hs T22 (ev_gv rfl hg) (k := 0) rfl rfl) (by decide) ?_; clear hf a; intro a hf
  refine ggL hf rfl rfl (gyes_t _) (fun hg => g_len hf SL22 (ev_gv rfl hg)) (by decide) ?_; clear hf a; intro a hf
  refine callG hf hs rfl rfl (gyes_t _) (fun hg => ⟨_, _, _, _, c_Fits _ _ _ _, rfl, evs_cons (ev_gv rfl hg) (evs_cons rfl (evs_cons rfl evs_nil)), rfl⟩) E39 (by decide) ?_; clear hs hf a; intro w a hs hf
  refine gL hf (g_and hf rfl rfl) (by decide) ?_; clear hf a; intro a hf
  refine gL hf (g_mv hf rfl) (by decide) ?_; clear hf a; intro a hf
  refine ggL hf rfl rfl (gyes_t _) (fun hg => g_fa (off' := 3) hf F25_3 rfl rfl) (by decide) ?_; clear hf a; intro a hf
  refine ggL hf rfl rfl (gyes_t _) (fun hg => g_ld hf hs T23 (ev_gv rfl hg) (k := 0) rfl rfl) (by decide) ?_; clear hf a; intro a hf
  refine ggL hf rfl rfl (gyes_t _) (fun hg => g_len hf SL23 (ev_gv rfl hg)) (by decide) ?_; clear hf a; intro a hf
  refine ggL hf rfl rfl (gyes_t _) (fun hg => g_leq hf (ev_gv rfl hg) rfl) (by decide) ?_; clear hf a; intro a hf
  refine gL hf (g_and hf rfl rfl) (by decide) ?_; clear hf a; intro a hf
  refine gL hf (g_as hf rfl) (by decide) ?_; clear hf a; intro a hf
  refine e_nil ?_
  refine wp_seq ?_
  refine c_reg ?_
  refine gL hf (g_as hf rfl) (by decide) ?_; clear hf a; intro a hf
  refine e_nil ?_
  refine c_block ?_
  rw [sound0 b] at hf
  refine c_loop hf hs (List.range' 3 3 ++ List.range' 32 28) (σ := Nat) (fun k => [(3, .bool (checkB b)), (4, .int .i64 (k : Nat))]) (fun k => _) (fun k => k ≤ b.flaps.length) (fun k => b.flaps.length - k) 0 (by omega) (.cons rfl (.cons rfl .nil)) rfl ?_
  intro k a w hJ hf hs
  refine wp_seq ?_
  refine c_reg ?_
  refine gL hf (g_mv hf rfl) (by decide) ?_; clear hf a; intro a hf
  refine gL hf (g_mv hf rfl) (by decide) ?_; clear hf a; intro a hf
  refine ggL hf rfl rfl (gyes_t _) (fun hg => g_mv hf rfl) (by decide) ?_; clear hf a; intro a hf
  refine ggL hf rfl rfl (gyes_t _) (fun hg => g_fa (off' := 2) hf F25_2 rfl rfl) (by decide) ?_; clear hf a; intro a hf
  refine ggL hf rfl rfl (gyes_t _) (fun hg => g_ld hf hs T22 (ev_gv rfl hg) (k := 0) rfl rfl) (by decide) ?_; clear hf a; intro a hf
  refine ggL hf rfl rfl (gyes_t _) (fun hg => g_len hf SL22 (ev_gv rfl hg)) (by decide) ?_; clear hf a; intro a hf
  refine ggL hf rfl rfl (gyes_t _) (fun hg => g_lss hf (ev_gv rfl hg) (ev_gv rfl hg)) (by decide) ?_; clear hf a; intro a hf
  refine gL hf (g_and hf rfl rfl) (by decide) ?_; clear hf a; intro a hf
  refine e_nil ?_
  refine c_cond hf rfl (fun hc1 => ?_) (fun hc1 => ?_)
  · skip
    obtain ⟨hck, hkl⟩ := (Bool.and_eq_true _ _).mp hc1
    replace hkl := of_decide_eq_true hkl
    refine c_skip (q_thenN ?_)
    refine c_blockS ?_
    refine c_reg ?_
    refine gL hf (g_fa (off' := 2) hf F25_2 rfl rfl) (by decide) ?_; clear hf a; intro a hf
    refine gL hf (g_ld hf hs T22 rfl (k := 0) rfl rfl) (by decide) ?_; clear hf a; intro a hf
    refine gL hf (g_mv hf rfl) (by decide) ?_; clear hf a; intro a hf
    (first | (refine gL hf (g_ixE hf hs (.head _) SL22 rfl rfl (by omega)) (by decide) ?_) | (refine gL hf (g_ixD hf hs (.head _) SL22 rfl rfl (by omega)) (by decide) ?_)); clear hf a; intro a hf
    refine gL hf (g_ldEW hf hs (.head _) T49 rfl rfl (by omega)) (by decide) ?_; clear hf a; intro a hf
    refine vL hf (v_alloc hs T49 rfl) (by decide) ?_; clear hs hf a; rintro _ w ⟨b2, rfl, hs⟩ a hf
    refine uL (u_stW hf hs T49 rfl rfl rfl (k := 0) rfl rfl rfl) ?_; clear hs; intro w hs; dsimp only [List.set] at hs
    refine e_nil ?_
    refine c_reg1 ?_
    refine gL hf (g_fa (off' := 0) hf F49_0 rfl rfl) (by decide) ?_; clear hf a; intro a hf
    refine gL hf (g_ld hf hs T3 rfl (k := 0) rfl rfl) (by decide) ?_; clear hf a; intro a hf
    refine callL hf hs (c_Fits _ _ _ _) rfl rfl rfl E39 (by decide) ?_; clear hs hf a; intro w a hs hf
    refine gL hf (g_mv hf rfl) (by decide) ?_; clear hf a; intro a hf
    refine ggL hf rfl rfl (gyes_t _) (fun hg => g_fa (off' := 1) hf F49_1 rfl rfl) (by decide) ?_; clear hf a; intro a hf
    refine ggL hf rfl rfl (gyes_t _) (fun hg => g_ldP hf hs T47 (ev_gv rfl hg) (k := 0) rfl rfl) (by decide) ?_; clear hf a; intro a hf
    refine callG hf hs rfl rfl (gyes_t _) (fun hg => ⟨_, _, _, _, c_Right _ _ _ _ _, rfl, evs_cons (ev_gv rfl hg) (evs_cons rfl (evs_cons rfl evs_nil)), rfl⟩) E80 (by decide) ?_; clear hs hf a; intro w a hs hf
    refine gL hf (g_and hf rfl rfl) (by decide) ?_; clear hf a; intro a hf
    refine gL hf (g_mv hf rfl) (by decide) ?_; clear hf a; intro a hf
    refine ggL hf rfl rfl (gyes_t _) (fun hg => g_fa (off' := 3) hf F49_2 rfl rfl) (by decide) ?_; clear hf a; intro a hf
    refine ggL hf rfl rfl (gyes_t _) (fun hg => g_ldP hf hs T47 (ev_gv rfl hg) (k := 0) rfl rfl) (by decide) ?_; clear hf a; intro a hf
    refine callG hf hs rfl rfl (gyes_t _) (fun hg => ⟨_, _, _, _, c_Right _ _ _ _ _, rfl, evs_cons (ev_gv rfl hg) (evs_cons rfl (evs_cons rfl evs_nil)), rfl⟩) E80 (by decide) ?_; clear hs hf a; intro w a hs hf
    refine gL hf (g_and hf rfl rfl) (by decide) ?_; clear hf a; intro a hf
    refine gL hf (g_as hf rfl) (by decide) ?_; clear hf a; intro a hf
    refine e_nil1 (q_blkN (q_thenN ?_))
    refine c_reg1 ?_
    refine gL hf (g_mv hf rfl) (by decide) ?_; clear hf a; intro a hf
    refine gL hf (g_addI hf rfl rfl (by omega)) (by decide) ?_; clear hf a; intro a hf
    refine gL hf (g_as hf rfl) (by decide) ?_; clear hf a; intro a hf
    refine e_nil1 (q_thenN ?_)
    rw [sound1 hck (by omega)] at hf
    exact ⟨k + 1, (by omega), (by omega), hf.back (by repeat (first | (with_reducible exact Ext.base) | ((with_reducible refine Ext.cons ?_ ?_); (· rfl)) | ((with_reducible refine Ext.over ?_ ?_ ?_); (· rfl); (· rfl)))) (allKeys rfl) (.cons rfl (.cons rfl .nil)), hs.dropN 1⟩
  · skip
    refine c_exit (q_thenX (q_thenX (q_blkX (q_thenN ?_))))
    refine wp_seq ?_
    refine c_reg ?_
    refine gL hf (g_as hf rfl) (by decide) ?_; clear hf a; intro a hf
    refine e_nil ?_
    refine c_block ?_
    refine c_loop hf hs (List.range' 3 1 ++ List.range' 6 1 ++ List.range' 60 34) (σ := Nat) (fun k => [(3, .bool (checkB b)), (6, .int .i64 (k : Nat))]) (fun k => _) (fun k => k ≤ b.rules.length) (fun k => b.rules.length - k) 0 (by omega) (.cons rfl (.cons rfl .nil)) rfl ?_
    intro k a w hJ hf hs
    refine wp_seq ?_
    refine c_reg ?_
    refine gL hf (g_mv hf rfl) (by decide) ?_; clear hf a; intro a hf
    refine gL hf (g_mv hf rfl) (by decide) ?_; clear hf a; intro a hf
    refine ggL hf rfl rfl (gyes_t _) (fun hg => g_mv hf rfl) (by decide) ?_; clear hf a; intro a hf
    refine ggL hf rfl rfl (gyes_t _) (fun hg => g_fa (off' := 3) hf F25_3 rfl rfl) (by decide) ?_; clear hf a; intro a hf
    refine ggL hf rfl rfl (gyes_t _) (fun hg => g_ld hf hs T23 (ev_gv rfl hg) (k := 0) rfl rfl) (by decide) ?_; clear hf a; intro a hf
    refine ggL hf rfl rfl (gyes_t _) (fun hg => g_len hf SL23 (ev_gv rfl hg)) (by decide) ?_; clear hf a; intro a hf
    refine ggL hf rfl rfl (gyes_t _) (fun hg => g_lss hf (ev_gv rfl hg) (ev_gv rfl hg)) (by decide) ?_; clear hf a; intro a hf
    refine gL hf (g_and hf rfl rfl) (by decide) ?_; clear hf a; intro a hf
    refine e_nil ?_
    refine c_cond hf rfl (fun hc2 => ?_) (fun hc2 => ?_)
    · skip
      obtain ⟨hck, hkl⟩ := (Bool.and_eq_true _ _).mp hc2
      replace hkl := of_decide_eq_true hkl
      refine c_skip (q_thenN ?_)
      refine c_blockS ?_
      refine c_draw1 _ 25 Mx rfl hs (fun _ h => h) ?_; intro w hs hS
      refine gA hf hS (i := 0) rfl (by kernel_rfl) (fun w hs => g_fa (off' := 3) hf F25_3 rfl rfl) (by decide) ?_; clear hf a; intro a hf
      refine gA hf hS (i := 1) rfl (by kernel_rfl) (fun w hs => g_ld hf hs T23 rfl (k := 0) rfl rfl) (by decide) ?_; clear hf a; intro a hf
      refine gA hf hS (i := 2) rfl (by kernel_rfl) (fun w hs => g_mv hf rfl) (by decide) ?_; clear hf a; intro a hf
      (first | (refine gA hf hS (i := 3) rfl (by kernel_rfl) (fun w hs => g_ixE hf hs (.tail _ (.head _)) SL23 rfl rfl (by omega)) (by decide) ?_) | (refine gA hf hS (i := 3) rfl (by kernel_rfl) (fun w hs => g_ixD hf hs (.tail _ (.head _)) SL23 rfl rfl (by omega)) (by decide) ?_)); clear hf a; intro a hf
      refine gA hf hS (i := 4) rfl (by kernel_rfl) (fun w hs => g_faD (j' := 0) hf hs (.tail _ (.head _)) F64_0 rfl (by omega) rfl) (by decide) ?_; clear hf a; intro a hf
      refine gA hf hS (i := 5) rfl (by kernel_rfl) (fun w hs => g_ldE hf hs (.tail _ (.head _)) T3 rfl rfl (by omega)) (by decide) ?_; clear hf a; intro a hf
      refine gA hf hS (i := 6) rfl (by kernel_rfl) (fun w hs => g_fa (off' := 2) hf F25_2 rfl rfl) (by decide) ?_; clear hf a; intro a hf
      refine gA hf hS (i := 7) rfl (by kernel_rfl) (fun w hs => g_ld hf hs T22 rfl (k := 0) rfl rfl) (by decide) ?_; clear hf a; intro a hf
      refine gA hf hS (i := 8) rfl (by kernel_rfl) (fun w hs => g_len hf SL22 rfl) (by decide) ?_; clear hf a; intro a hf
      refine gA hf hS (i := 9) rfl (by kernel_rfl) (fun w hs => g_subI hf rfl rfl (by omega)) (by decide) ?_; clear hf a; intro a hf
      refine one (i := 10) (by kernel_rfl) ?_
      refine oCall hf hs rfl (c_Fits _ _ _ _) rfl rfl rfl E39 (by decide) (fun _ h => h.sub (.refl _)) ?_; clear hs hf hS a; intro w a hs hS hf
      refine gA hf hS (i := 11) rfl (by kernel_rfl) (fun w hs => g_mv hf rfl) (by decide) ?_; clear hf a; intro a hf
      refine ggA hf hS (i := 12) rfl (by kernel_rfl) rfl rfl (gyes_t _) (fun hg w hs => g_fa (off' := 3) hf F25_3 rfl rfl) (by decide) ?_; clear hf a; intro a hf
      refine ggA hf hS (i := 13) rfl (by kernel_rfl) rfl rfl (gyes_t _) (fun hg w hs => g_ld hf hs T23 (ev_gv rfl hg) (k := 0) rfl rfl) (by decide) ?_; clear hf a; intro a hf
      refine ggA hf hS (i := 14) rfl (by kernel_rfl) rfl rfl (gyes_t _) (fun hg w hs => g_mv hf rfl) (by decide) ?_; clear hf a; intro a hf
      (first | (refine ggA hf hS (i := 15) rfl (by kernel_rfl) rfl rfl (gyes_t _) (fun hg w hs => g_ixE hf hs (.tail _ (.head _)) SL23 (ev_gv rfl hg) (ev_gv rfl hg) (by omega)) (by decide) ?_) | (refine ggA hf hS (i := 15) rfl (by kernel_rfl) rfl rfl (gyes_t _) (fun hg w hs => g_ixD hf hs (.tail _ (.head _)) SL23 (ev_gv rfl hg) (ev_gv rfl hg) (by omega)) (by decide) ?_)); clear hf a; intro a hf
      refine ggA hf hS (i := 16) rfl (by kernel_rfl) rfl rfl (gyes_t _) (fun hg w hs => g_faD (j' := 1) hf hs (.tail _ (.head _)) F64_1 (ev_gv rfl hg) (by omega) rfl) (by decide) ?_; clear hf a; intro a hf
      refine ggA hf hS (i := 17) rfl (by kernel_rfl) rfl rfl (gyes_t _) (fun hg w hs => g_ldE hf hs (.tail _ (.head _)) T3 (ev_gv rfl hg) rfl (by omega)) (by decide) ?_; clear hf a; intro a hf
      refine ggA hf hS (i := 18) rfl (by kernel_rfl) rfl rfl (gyes_t _) (fun hg w hs => g_fa (off' := 2) hf F25_2 rfl rfl) (by decide) ?_; clear hf a; intro a hf
      refine ggA hf hS (i := 19) rfl (by kernel_rfl) rfl rfl (gyes_t _) (fun hg w hs => g_ld hf hs T22 (ev_gv rfl hg) (k := 0) rfl rfl) (by decide) ?_; clear hf a; intro a hf
      refine ggA hf hS (i := 20) rfl (by kernel_rfl) rfl rfl (gyes_t _) (fun hg w hs => g_len hf SL22 (ev_gv rfl hg)) (by decide) ?_; clear hf a; intro a hf
      refine ggA hf hS (i := 21) rfl (by kernel_rfl) rfl rfl (gyes_t _) (fun hg w hs => g_subI hf (ev_gv rfl hg) rfl (by omega)) (by decide) ?_; clear hf a; intro a hf
      refine one (i := 22) (by kernel_rfl) ?_
      refine oCallG hf hs rfl rfl rfl (gyes_t _) (fun hg => ⟨_, _, _, _, c_Fits _ _ _ _, rfl, evs_cons (ev_gv rfl hg) (evs_cons rfl (evs_cons (ev_gv rfl hg) evs_nil)), rfl⟩) E39 (by decide) (fun _ h => h.sub (.refl _)) ?_; clear hs hf hS a; intro w a hs hS hf
      refine gA hf hS (i := 23) rfl (by kernel_rfl) (fun w hs => g_and hf rfl rfl) (by decide) ?_; clear hf a; intro a hf
      refine gA hf hS (i := 24) rfl (by kernel_rfl) (fun w hs => g_as hf rfl) (by decide) ?_; clear hf a; intro a hf
      refine e_done1 (by kernel_rfl) ?_
      refine q_blkN (q_thenN ?_)
      refine c_reg1 ?_
      refine gL hf (g_mv hf rfl) (by decide) ?_; clear hf a; intro a hf
      refine gL hf (g_addI hf rfl rfl (by omega)) (by decide) ?_; clear hf a; intro a hf
      refine gL hf (g_as hf rfl) (by decide) ?_; clear hf a; intro a hf
      refine e_nil1 (q_thenN ?_)
      rw [sound2 hck (by omega)] at hf
      exact ⟨k + 1, (by omega), (by omega), hf.back (by repeat (first | (with_reducible exact Ext.base) | ((with_reducible refine Ext.cons ?_ ?_); (· rfl)) | ((with_reducible refine Ext.over ?_ ?_ ?_); (· rfl); (· rfl)))) (allKeys rfl) (.cons rfl (.cons rfl .nil)), hs.dropN 0⟩
    · skip
      refine c_exit (q_thenX (q_thenX (q_blkX (q_thenN ?_))))
      refine c_reg ?_
      refine gL hf (g_mv hf rfl) (by decide) ?_; clear hf a; intro a hf
      refine gL hf (g_as hf rfl) (by decide) ?_; clear hf a; intro a hf
      refine e_nil ?_
      refine c_ret ?_
      refine e_ret1 hf rfl rfl ?_
      exact ⟨rfl, hs.below⟩

end Go.Proofs.YtpjhffockmnjbaaDoor
set_option linter.unusedVariables false
set_option linter.unusedSimpArgs false
namespace Go.Proofs.YtpjhffockmnjbaaDoor
/-- What may come next behind some flaps. -/
def Next (b : Sheet) (p : List Int) (x : Int) : Prop := inN b x ∧ x ∉ p ∧ ∀ u, overP b x u = true → u ∈ p
/-- Each flap may come behind those before it. -/
def Ok (b : Sheet) (l : List Int) : Prop := ∀ k, k < l.length → Next b (l.take k) (l.getD k default)
theorem getD_app1 {p t : List Int} {k : Nat} (h : k < p.length) : (p ++ t).getD k default = p.getD k default := by
  rw [List.getD_eq_getElem?_getD, List.getD_eq_getElem?_getD, List.getElem?_append_left h]
theorem getD_app2 {p t : List Int} {x : Int} : (p ++ x :: t).getD p.length default = x := by
  rw [List.getD_eq_getElem?_getD, List.getElem?_append_right (Nat.le_refl _)]; simp
theorem Ok.app {b : Sheet} {p t : List Int} (h : Ok b (p ++ t)) : Ok b p := fun k hk => by
  have := h k (by rw [List.length_append]; omega)
  rwa [List.take_append_of_le_length (by omega), getD_app1 hk] at this
theorem ok_snoc {b : Sheet} {p : List Int} {x : Int} : Ok b (p ++ [x]) ↔ Ok b p ∧ Next b p x := by
  constructor
  · intro h
    refine ⟨h.app, ?_⟩
    have := h p.length (by simp)
    rwa [List.take_left, getD_app2] at this
  · rintro ⟨h1, h2⟩ k hk
    simp only [List.length_append, List.length_cons, List.length_nil] at hk
    by_cases e : k = p.length
    · subst e
      rwa [List.take_left, getD_app2]
    · have hk' : k < p.length := by omega
      rw [List.take_append_of_le_length (by omega), getD_app1 hk']
      exact h1 k hk'
theorem ok_nil (b : Sheet) : Ok b [] := fun k hk => absurd hk (by simp)
theorem Ok.inN {b : Sheet} {l : List Int} (h : Ok b l) {x : Int} (hx : x ∈ l) : inN b x := by
  obtain ⟨k, hk, rfl⟩ := List.getElem_of_mem hx
  have := (h k hk).1
  rwa [List.getD_eq_getElem?_getD, List.getElem?_eq_getElem hk] at this
theorem Ok.nodup {b : Sheet} {l : List Int} (h : Ok b l) : l.Nodup := by
  rw [List.nodup_iff_pairwise_ne, List.pairwise_iff_getElem]
  intro i j hi hj hij e
  have := (h j hj).2.1
  rw [List.getD_eq_getElem?_getD, List.getElem?_eq_getElem hj] at this
  exact this (List.mem_take_iff_getElem.2 ⟨i, by omega, by simpa using e⟩)
theorem overP_iff {b : Sheet} {i j : Int} : overP b i j = true ↔ 0 < cellN b 2 i j ∧ ∃ r ∈ b.rules, r.over = i ∧ r.under = j := by
  simp only [overP, Bool.and_eq_true, decide_eq_true_eq, List.any_eq_true, sameR, beq_iff_eq]
/-- Which flaps of a row are marked. -/
def Mk (d : List Bool) (p : List Int) : Prop := d.length = 7 ∧ ∀ i : Nat, i < 7 → d.getD i false = decide (((i : Nat) : Int) ∈ p)
theorem mk_nil : Mk (List.replicate 7 false) [] := ⟨rfl, fun i hi => by
  have : i = 0 ∨ i = 1 ∨ i = 2 ∨ i = 3 ∨ i = 4 ∨ i = 5 ∨ i = 6 := by omega
  rcases this with rfl | rfl | rfl | rfl | rfl | rfl | rfl <;> rfl⟩
theorem mk_snoc {d : List Bool} {p : List Int} (h : Mk d p) {i : Nat} (hi : i < 7) : Mk (d.set i true) (p ++ [((i : Nat) : Int)]) := by
  refine ⟨by simpa using h.1, fun j hj => ?_⟩
  have h2 := h.2 j hj
  rw [List.getD_eq_getElem?_getD, List.getElem?_set]
  by_cases e : i = j
  · subst e; rw [if_pos rfl, if_pos (by rw [h.1]; exact hj)]; simp
  · rw [if_neg e, ← List.getD_eq_getElem?_getD, h2]
    have : ¬ ((j : Nat) : Int) = ((i : Nat) : Int) := by omega
    simp [this]
theorem stop_iff {b : Sheet} (hv : Valid b) {d : List Bool} {p : List Int} (hd : Mk d p) (i : Int) : stopP b d i = false ↔ ∀ u, overP b i u = true → u ∈ p := by
  have hmany := hv.many
  unfold stopP
  rw [List.any_eq_false]
  constructor
  · intro h u hu
    obtain ⟨hc, r, hr, rfl, rfl⟩ := overP_iff.1 hu
    have h1 := h r hr
    have h2 := (hv.rule r hr).2.2
    have h3 := hd.2 r.under.toNat (by omega)
    rw [show ((r.under.toNat : Nat) : Int) = r.under by omega] at h3
    rw [h3] at h1
    simpa [hc] using h1
  · intro h r hr hc
    simp only [Bool.and_eq_true, beq_iff_eq, decide_eq_true_eq, Bool.not_eq_true'] at hc
    obtain ⟨⟨rfl, hc⟩, h1⟩ := hc
    have h2 := (hv.rule r hr).2.2
    have h3 := hd.2 r.under.toNat (by omega)
    rw [show ((r.under.toNat : Nat) : Int) = r.under by omega, h1] at h3
    have := h r.under (overP_iff.2 ⟨hc, r, hr, rfl, rfl⟩)
    simp [this] at h3
theorem step_iff {b : Sheet} (hv : Valid b) {d : List Bool} {p : List Int} (hd : Mk d p) {i : Nat} (hi : i < b.flaps.length) : (d.getD i false || stopP b d (i : Nat)) = false ↔ Next b p ((i : Nat) : Int) := by
  have hmany := hv.many
  rw [Bool.or_eq_false_iff, stop_iff hv hd, hd.2 i (by omega)]
  unfold Next
  simp only [decide_eq_false_iff_not]
  exact ⟨fun h => ⟨⟨by omega, by omega⟩, h.1, h.2⟩, fun h => ⟨h.2.1, h.2.2⟩⟩
theorem mem_ords {b : Sheet} (hv : Valid b) {l : List Int} : ∀ (k : Nat) (p : List Int) (d : List Bool), Mk d p → Ok b p → p.length + k = b.flaps.length → (l ∈ ordsP b k p d ↔ Ok b l ∧ l.length = b.flaps.length ∧ ∃ t, l = p ++ t)
  | 0, p, d, hd, hp, hl => by
    simp only [ordsP, List.mem_singleton]
    constructor
    · rintro rfl; exact ⟨hp, by omega, [], by simp⟩
    · rintro ⟨_, h1, t, rfl⟩
      rw [List.length_append] at h1
      have : t = [] := List.eq_nil_of_length_eq_zero (by omega)
      rw [this]; simp
  | k + 1, p, d, hd, hp, hl => by
    have hmany := hv.many
    simp only [ordsP, List.mem_flatMap, List.mem_range, ordStepP]
    constructor
    · rintro ⟨i, hi, h⟩
      split at h
      · cases h
      · rename_i hc
        have hn := (step_iff hv hd hi).1 (by simpa using hc)
        obtain ⟨h1, h2, t, rfl⟩ := (mem_ords hv k _ _ (mk_snoc hd (by omega)) (ok_snoc.2 ⟨hp, hn⟩) (by simp; omega)).1 h
        exact ⟨h1, h2, ((i : Nat) : Int) :: t, by simp⟩
    · rintro ⟨h1, h2, t, rfl⟩
      match t with
      | [] => simp at h2; omega
      | x :: t =>
        have h3 : p ++ x :: t = (p ++ [x]) ++ t := by simp
        rw [h3] at h1 h2 ⊢
        have hn := (ok_snoc.1 h1.app).2
        have hx0 := hn.1.1; have hx1 := hn.1.2
        have hx : ((x.toNat : Nat) : Int) = x := by omega
        refine ⟨x.toNat, by omega, ?_⟩
        have hs := (step_iff hv hd (i := x.toNat) (by omega)).2 (by rw [hx]; exact hn)
        rw [if_neg (by rw [hs]; decide), hx]
        have hd' := mk_snoc hd (i := x.toNat) (by omega)
        rw [hx] at hd'
        exact (mem_ords hv k _ _ hd' h1.app (by simp; omega)).2 ⟨h1, h2, t, rfl⟩
theorem mem_allO {b : Sheet} (hv : Valid b) {l : List Int} : l ∈ allO b ↔ Ok b l ∧ l.length = b.flaps.length := by
  rw [allO, mem_ords hv _ _ _ mk_nil (ok_nil b) (by simp)]
  exact ⟨fun h => ⟨h.1, h.2.1⟩, fun h => ⟨h.1, h.2, l, rfl⟩⟩
/-! ### One before the other -/
theorem earlier_app (p : List Int) {x y : Int} (h : x < y) (s t : List Int) : earlierB (p ++ x :: s) (p ++ y :: t) = true := by
  induction p with
  | nil => simp only [List.nil_append, earlierB]; rw [if_neg (by omega)]; simpa using h
  | cons a p ih => simp only [List.cons_append, earlierB, if_true]; exact ih
theorem earlier_self : ∀ l : List Int, earlierB l l = false
  | [] => rfl
  | x :: l => by simp only [earlierB, if_true]; exact earlier_self l
theorem earlier_asymm : ∀ {l m : List Int}, earlierB l m = true → earlierB m l = false
  | [], [], h => by cases h
  | [], _ :: _, _ => rfl
  | _ :: _, [], h => by cases h
  | x :: l, y :: m, h => by
    simp only [earlierB] at h ⊢
    by_cases e : x = y
    · subst e; rw [if_pos rfl] at h ⊢; exact earlier_asymm h
    · rw [if_neg e] at h; rw [if_neg (fun e' => e e'.symm)]; simp at h ⊢; omega
theorem earlier_trans : ∀ {l m r : List Int}, earlierB l m = true → earlierB m r = true → earlierB l r = true
  | [], [], _, h, _ => by cases h
  | _ :: _, [], _, h, _ => by cases h
  | _, _ :: _, [], _, h => by cases h
  | [], _ :: _, _ :: _, _, _ => rfl
  | x :: l, y :: m, z :: r, h1, h2 => by
    simp only [earlierB] at h1 h2 ⊢
    by_cases e1 : x = y
    · subst e1
      rw [if_pos rfl] at h1
      by_cases e2 : x = z
      · subst e2; rw [if_pos rfl] at h2 ⊢; exact earlier_trans h1 h2
      · rw [if_neg e2] at h2 ⊢; exact h2
    · rw [if_neg e1] at h1
      by_cases e2 : y = z
      · subst e2; rw [if_neg e1]; exact h1
      · rw [if_neg e2] at h2; simp only [decide_eq_true_eq] at h1 h2; rw [if_neg (by omega)]; simp; omega
theorem earlier_tri : ∀ (l m : List Int), earlierB l m = true ∨ l = m ∨ earlierB m l = true
  | [], [] => .inr (.inl rfl)
  | [], _ :: _ => .inl rfl
  | _ :: _, [] => .inr (.inr rfl)
  | x :: l, y :: m => by
    simp only [earlierB]
    rcases Int.lt_trichotomy x y with h | h | h
    · left; rw [if_neg (by omega)]; simpa using h
    · subst h
      rcases earlier_tri l m with h | h | h
      · left; rw [if_pos rfl]; exact h
      · right; left; rw [h]
      · right; right; rw [if_pos rfl]; exact h
    · right; right; rw [if_neg (by omega)]; simpa using h
theorem ords_app (b : Sheet) : ∀ (k : Nat) (p : List Int) (d : List Bool), ∀ x ∈ ordsP b k p d, ∃ t, x = p ++ t
  | 0, p, d, x, h => ⟨[], by simpa [ordsP] using h⟩
  | k + 1, p, d, x, h => by
    simp only [ordsP, List.mem_flatMap, ordStepP] at h
    obtain ⟨i, _, hi⟩ := h
    split at hi
    · cases hi
    · obtain ⟨t, rfl⟩ := ords_app b k _ _ x hi
      exact ⟨((i : Nat) : Int) :: t, by simp⟩
theorem ords_sorted (b : Sheet) : ∀ (k : Nat) (p : List Int) (d : List Bool), (ordsP b k p d).Pairwise fun x y => earlierB x y = true
  | 0, p, d => by simp [ordsP]
  | k + 1, p, d => by
    simp only [ordsP]
    rw [List.pairwise_flatMap]
    refine ⟨fun i _ => ?_, ?_⟩
    · unfold ordStepP
      split
      · simp
      · exact ords_sorted b k _ _
    · rw [List.pairwise_iff_getElem]
      intro i j hi hj hij x hx y hy
      simp only [List.getElem_range, ordStepP] at hx hy
      split at hx
      · cases hx
      · split at hy
        · cases hy
        · obtain ⟨s, rfl⟩ := ords_app b k _ _ x hx
          obtain ⟨t, rfl⟩ := ords_app b k _ _ y hy
          have := earlier_app p (x := ((i : Nat) : Int)) (y := ((j : Nat) : Int)) (by omega) s t
          simpa using this
theorem allO_sorted (b : Sheet) : (allO b).Pairwise fun x y => earlierB x y = true := ords_sorted b _ _ _
theorem allO_nodup (b : Sheet) : (allO b).Nodup := by
  rw [List.nodup_iff_pairwise_ne]
  refine (allO_sorted b).imp fun {x y} h e => ?_
  subst e
  rw [earlier_self] at h; cases h
theorem allO_first {b : Sheet} {x : List Int} {rest : List (List Int)} (h : allO b = x :: rest) {y : List Int} (hy : y ∈ allO b) : earlierB y x = false := by
  have hs := allO_sorted b
  rw [h] at hs hy
  rcases List.mem_cons.1 hy with rfl | hy
  · exact earlier_self _
  · exact earlier_asymm (List.rel_of_pairwise_cons hs hy)
/-! ### An order that does -/
theorem idx_lt {l : List Int} {v : Int} (h : v ∈ l) : l.idxOf v < l.length := List.idxOf_lt_length_iff.2 h
theorem idx_get {l : List Int} {v : Int} (h : v ∈ l) : l.getD (l.idxOf v) default = v := by
  rw [List.getD_eq_getElem?_getD, List.getElem?_eq_getElem (idx_lt h)]
  simp
theorem idx_ne {l : List Int} {v : Int} {j : Nat} (h : j < l.idxOf v) : l.getD j default ≠ v := by
  have hj : j < l.length := Nat.lt_of_lt_of_le h List.idxOf_le_length
  rw [List.getD_eq_getElem?_getD, List.getElem?_eq_getElem hj]
  intro e
  have := List.not_of_lt_findIdx (p := (· == v)) (xs := l) (i := j) (by simpa [List.idxOf] using h)
  simp at this
  simp at e
  exact this e
theorem index_idx {l : List Int} {v : Int} (h : v ∈ l) : indexZ (fun y => v == y) l = (l.idxOf v : Nat) := by
  refine indexZ_found (idx_lt h) (fun j hj => ?_) ?_
  · have := idx_ne hj
    simp only [beq_eq_false_iff_ne, ne_eq]
    exact fun e => this e.symm
  · rw [idx_get h]; simp
theorem index_idx' {l : List Int} {v : Int} (h : v ∈ l) : indexZ (fun y => y == v) l = (l.idxOf v : Nat) := by
  refine indexZ_found (idx_lt h) (fun j hj => ?_) ?_
  · simpa using idx_ne hj
  · rw [idx_get h]; simp
theorem mem_take_idx {l : List Int} {v : Int} {k : Nat} (hl : l.Nodup) (hk : k ≤ l.length) : v ∈ l.take k ↔ v ∈ l ∧ l.idxOf v < k := by
  constructor
  · intro h
    refine ⟨List.mem_of_mem_take h, ?_⟩
    obtain ⟨j, hj, rfl⟩ := List.mem_take_iff_getElem.1 h
    rw [hl.idxOf_getElem]; omega
  · rintro ⟨h1, h2⟩
    refine List.mem_take_iff_getElem.2 ⟨l.idxOf v, by have := idx_lt h1; omega, ?_⟩
    simp
theorem ordB_iff {b : Sheet} {l : List Int} : ordB b l = true ↔ l.length = b.flaps.length ∧ l.Nodup ∧ ∀ x ∈ l, inN b x := by
  constructor
  · intro h
    simp only [ordB, Bool.and_eq_true (a := (l.length == b.flaps.length)), List.all_eq_true, List.mem_range, beq_iff_eq] at h
    refine ⟨h.1, ?_, fun x hx => ?_⟩
    · rw [List.nodup_iff_pairwise_ne, List.pairwise_iff_getElem]
      intro i j hi hj hij e
      have := h.2 j hj
      simp only [Bool.and_eq_true, Bool.not_eq_true', decide_eq_false_iff_not] at this
      rw [List.getD_eq_getElem?_getD, List.getElem?_eq_getElem hj] at this
      exact this.2 (List.mem_take_iff_getElem.2 ⟨i, by omega, by simpa using e⟩)
    · obtain ⟨k, hk, rfl⟩ := List.getElem_of_mem hx
      have := h.2 k hk
      simp only [Bool.and_eq_true] at this
      rw [List.getD_eq_getElem?_getD, List.getElem?_eq_getElem hk] at this
      exact flapB_in this.1
  · rintro ⟨h1, h2, h3⟩
    simp only [ordB, Bool.and_eq_true (a := (l.length == b.flaps.length)), List.all_eq_true, List.mem_range, beq_iff_eq]
    refine ⟨h1, fun k hk => ?_⟩
    rw [List.getD_eq_getElem?_getD, List.getElem?_eq_getElem hk]
    have h4 := h3 _ (List.getElem_mem hk)
    simp only [Option.getD_some, Bool.and_eq_true, Bool.not_eq_true', decide_eq_false_iff_not]
    refine ⟨fitsB_iff.2 ⟨h4.1, by have := h4.2; omega⟩, fun hm => ?_⟩
    have := (mem_take_idx h2 (by omega)).1 hm
    rw [h2.idxOf_getElem] at this; omega
theorem ord_mem {b : Sheet} {l : List Int} (h : ordB b l = true) {x : Int} (hx : inN b x) : x ∈ l := by
  obtain ⟨h1, h2, h3⟩ := ordB_iff.1 h
  have hsub : l ⊆ (List.range b.flaps.length).map fun i => ((i : Nat) : Int) := fun y hy => by
    have h9 := h3 y hy
    exact List.mem_map.2 ⟨y.toNat, List.mem_range.2 (by have := h9.1; have := h9.2; omega), by have := h9.1; omega⟩
  by_cases hm : x ∈ l
  · exact hm
  · have hn : (x :: l).Nodup := List.nodup_cons.2 ⟨hm, h2⟩
    have := hn.length_le_of_subset (l₂ := (List.range b.flaps.length).map fun i => ((i : Nat) : Int)) (fun y hy => by
      rcases List.mem_cons.1 hy with rfl | hy
      · exact List.mem_map.2 ⟨y.toNat, List.mem_range.2 (by have := hx.1; have := hx.2; omega), by have := hx.1; omega⟩
      · exact hsub hy)
    simp at this; omega
theorem ok_ord {b : Sheet} {l : List Int} (h : Ok b l) (hl : l.length = b.flaps.length) : ordB b l = true := ordB_iff.2 ⟨hl, h.nodup, fun x hx => h.inN hx⟩
/-- In an order that does each flap comes behind those that it must lie over. -/
theorem ok_iff {b : Sheet} (hv : Valid b) {l : List Int} (ho : ordB b l = true) : Ok b l ↔ ∀ r ∈ b.rules, 0 < cellN b 2 r.over r.under → l.idxOf r.under < l.idxOf r.over := by
  obtain ⟨h1, h2, h3⟩ := ordB_iff.1 ho
  constructor
  · intro h r hr hc
    have hi := rule_in hv hr
    have hm := ord_mem ho hi.1
    have := (h (l.idxOf r.over) (idx_lt hm)).2.2 r.under (by rw [idx_get hm]; exact overP_iff.2 ⟨hc, r, hr, rfl, rfl⟩)
    exact ((mem_take_idx h2 (Nat.le_of_lt (idx_lt hm))).1 this).2
  · intro h k hk
    refine ⟨h3 _ (getD_mem hk), fun hm => ?_, fun u hu => ?_⟩
    · have := ((mem_take_idx h2 (by omega)).1 hm).2
      rw [List.getD_eq_getElem?_getD, List.getElem?_eq_getElem hk, Option.getD_some, h2.idxOf_getElem] at this; omega
    · obtain ⟨hc, r, hr, hro, rfl⟩ := overP_iff.1 hu
      rw [← hro] at hc
      have := h r hr hc
      rw [hro, List.getD_eq_getElem?_getD, List.getElem?_eq_getElem hk, Option.getD_some, h2.idxOf_getElem] at this
      exact (mem_take_idx h2 (by omega)).2 ⟨ord_mem ho (rule_in hv hr).2, this⟩
theorem fold_zero (b : Sheet) (l : List Int) : ∀ (rs : List Rule) (x : Int), 0 ≤ x → (rs.foldl (stepW b l) x = 0 ↔ x = 0 ∧ ∀ r ∈ rs, indexZ (fun y => r.over == y) l < indexZ (fun y => r.under == y) l → cellN b 2 r.over r.under = 0)
  | [], x, hx => by simp
  | r :: rs, x, hx => by
    have hc := cell_rng b r.over r.under
    have h0 : 0 ≤ stepW b l x r := by unfold stepW; split <;> omega
    rw [List.foldl_cons, fold_zero b l rs _ h0]
    simp only [List.mem_cons, forall_eq_or_imp]
    unfold stepW
    split
    · rename_i h
      constructor
      · rintro ⟨h1, h2⟩; exact ⟨by omega, fun _ => by omega, h2⟩
      · rintro ⟨h1, h2, h3⟩; exact ⟨by have := h2 h; omega, h3⟩
    · rename_i h
      constructor
      · rintro ⟨h1, h2⟩; exact ⟨h1, fun h' => absurd h' h, h2⟩
      · rintro ⟨h1, h2, h3⟩; exact ⟨h1, h3⟩
theorem fold_max (b : Sheet) (l : List Int) : ∀ (rs : List Rule) (x : Int), rs.foldl (stepW b l) x = 2 → x = 2 ∨ ∃ r ∈ rs, indexZ (fun y => r.over == y) l < indexZ (fun y => r.under == y) l ∧ cellN b 2 r.over r.under = 2
  | [], x, h => .inl h
  | r :: rs, x, h => by
    rw [List.foldl_cons] at h
    rcases fold_max b l rs _ h with h | ⟨s, hs, h1, h2⟩
    · unfold stepW at h
      split at h
      · rename_i hi
        by_cases e : x = 2
        · exact .inl e
        · refine .inr ⟨r, .head _, hi, ?_⟩
          rcases Int.le_total x (cellN b 2 r.over r.under) with h' | h' <;> omega
      · exact .inl h
    · exact .inr ⟨s, .tail _ hs, h1, h2⟩
theorem does_ok {b : Sheet} (hck : checkB b = true) {l : List Int} (ho : ordB b l = true) : doesP b l = (2 - worst b l b.rules.length, 0) := by
  have : askE b (ordB b l) = 0 := by rw [ho]; simp [askE, hck]
  simp [doesP, this]
theorem does_two {b : Sheet} (hv : Valid b) {l : List Int} (ho : ordB b l = true) : 2 - worst b l b.rules.length = 2 ↔ Ok b l := by
  rw [ok_iff hv ho]
  have hz := fold_zero b l b.rules 0 (by omega)
  have h2 := (ordB_iff.1 ho).2.1
  unfold worst
  rw [List.take_length]
  constructor
  · intro h r hr hc
    have hi := rule_in hv hr
    have m1 := ord_mem ho hi.1; have m2 := ord_mem ho hi.2
    have := (hz.1 (by omega)).2 r hr
    rw [index_idx m1, index_idx m2] at this
    by_cases h5 : l.idxOf r.under < l.idxOf r.over
    · exact h5
    · by_cases e : l.idxOf r.over = l.idxOf r.under
      · have e1 := idx_get m1; have e2 := idx_get m2
        rw [e] at e1
        exact absurd (e1.symm.trans e2) (hv.rule r hr).2.2.2.2
      · have := this (by omega); omega
  · intro h
    have : (b.rules.foldl (stepW b l) 0) = 0 := hz.2 ⟨rfl, fun r hr hlt => by
      have hi := rule_in hv hr
      have m1 := ord_mem ho hi.1; have m2 := ord_mem ho hi.2
      rw [index_idx m1, index_idx m2] at hlt
      have hc := cell_rng b r.over r.under
      by_cases h5 : 0 < cellN b 2 r.over r.under
      · have := h r hr h5; omega
      · omega⟩
    omega
end Go.Proofs.YtpjhffockmnjbaaDoor
set_option linter.unusedVariables false
set_option linter.unusedSimpArgs false
namespace Go.Proofs.YtpjhffockmnjbaaDoor
def pickR (best : Option (List Int)) (r : List Int) : Option (List Int) := if ringLt best r = true then some r else best
/-- All rings that begin with a row, in the order in which they are sought. -/
def ringsL (b : Sheet) : Nat → List Int → List (List Int)
  | 0, r => []
  | k + 1, r => (if (decide ((1 : Int) < (r.length : Nat)) && overP b (headI r) (lastI r)) = true then [r] else []) ++
    (List.range b.flaps.length).flatMap fun i => if (decide (headI r < (i : Nat)) && (!decide (((i : Nat) : Int) ∈ r) && overP b (i : Nat) (lastI r))) = true then ringsL b k (r ++ [((i : Nat) : Int)]) else []
def allR (b : Sheet) : List (List Int) := (List.range b.flaps.length).flatMap fun i => ringsL b 8 [((i : Nat) : Int)]
theorem rings_len (b : Sheet) : ∀ (k : Nat) (r : List Int), ∀ s ∈ ringsL b k r, r.length ≤ s.length
  | 0, r, s, h => by cases h
  | k + 1, r, s, h => by
    simp only [ringsL, List.mem_append, List.mem_flatMap] at h
    rcases h with h | ⟨i, _, h⟩
    · split at h
      · rw [List.mem_singleton.1 h]; exact Nat.le_refl _
      · cases h
    · split at h
      · have := rings_len b k _ s h; simp at this; omega
      · cases h
theorem pick_skip {l : List Int} : ∀ (L : List (List Int)), (∀ s ∈ L, l.length ≤ s.length) → L.foldl pickR (some l) = some l
  | [], _ => rfl
  | s :: L, h => by
    have h1 := h s (.head _)
    rw [List.foldl_cons, show pickR (some l) s = some l by unfold pickR; rw [if_neg (by simp [ringLt]; omega)]]
    exact pick_skip L fun s hs => h s (.tail _ hs)
theorem ringF_eq (b : Sheet) : ∀ (k : Nat) (r : List Int) (best : Option (List Int)), ringF b k r best = (ringsL b k r).foldl pickR best
  | 0, r, best => rfl
  | k + 1, r, best => by
    have e1 : (if (decide ((1 : Int) < (r.length : Nat)) && overP b (headI r) (lastI r)) = true then [r] else []).foldl pickR best = ring1 b r best := by
      unfold ring1
      cases (decide ((1 : Int) < (r.length : Nat)) && overP b (headI r) (lastI r)) with
      | true => simp [pickR]
      | false => simp
    have e2 : ∀ o : Option (List Int), ((List.range b.flaps.length).flatMap fun i => if (decide (headI r < (i : Nat)) && (!decide (((i : Nat) : Int) ∈ r) && overP b (i : Nat) (lastI r))) = true then ringsL b k (r ++ [((i : Nat) : Int)]) else []).foldl pickR o = (List.range b.flaps.length).foldl (ringStep b r (ringF b k)) o := by
      intro o
      rw [List.foldl_flatMap]
      congr 1
      funext o i
      unfold ringStep
      split
      · rw [ringF_eq b k]
      · rfl
    simp only [ringF, ringsL]
    rw [List.foldl_append, e1, e2]
    by_cases hc : ringCut (ring1 b r best) r = true
    · rw [if_pos hc, ← e2]
      cases ho : ring1 b r best with
      | none => rw [ho] at hc; simp [ringCut] at hc
      | some l =>
        rw [ho] at hc
        simp only [ringCut, decide_eq_true_eq] at hc
        rw [pick_skip]
        intro s hs
        obtain ⟨i, _, hs⟩ := List.mem_flatMap.1 hs
        split at hs
        · have := rings_len b k _ s hs; simp at this; omega
        · cases hs
    · rw [if_neg hc]
theorem ringP_eq {b : Sheet} (hck : checkB b = true) : ringP b = match (allR b).foldl pickR none with | some l => (l, 0) | none => ([], 4) := by
  have h1 : askE b true = 0 := by simp [askE, hck]
  rw [ringP, if_pos h1, allR, List.foldl_flatMap]
  have : (fun (best : Option (List Int)) (i : Nat) => ringF b 8 [((i : Nat) : Int)] best) = fun acc x => List.foldl pickR acc (ringsL b 8 [((x : Nat) : Int)]) := by funext o i; exact ringF_eq b 8 _ _
  rw [this]
  cases List.foldl (fun acc x => List.foldl pickR acc (ringsL b 8 [((x : Nat) : Int)])) none (List.range b.flaps.length) <;> rfl
/-! ### What is a ring -/
structure Row (b : Sheet) (r : List Int) : Prop where
  ne : r ≠ []
  nodup : r.Nodup
  inb : ∀ x ∈ r, inN b x
  least : ∀ k, 0 < k → k < r.length → r.getD 0 default < r.getD k default
  chain : ∀ k, k + 1 < r.length → overP b (r.getD (k + 1) default) (r.getD k default) = true
structure Ring (b : Sheet) (r : List Int) : Prop extends Row b r where
  two : 2 ≤ r.length
  round : overP b (headI r) (lastI r) = true
theorem getD_last {r : List Int} {x : Int} : lastI (r ++ [x]) = x := by
  unfold lastI
  rw [show (r ++ [x]).length - 1 = r.length by simp]
  exact getD_app2
theorem row_snoc {b : Sheet} {r : List Int} (hr : r ≠ []) {x : Int} : Row b (r ++ [x]) ↔ Row b r ∧ inN b x ∧ headI r < x ∧ x ∉ r ∧ overP b x (lastI r) = true := by
  have h0 := List.length_pos_iff.2 hr
  have hh : (r ++ [x]).getD 0 default = headI r := getD_app1 h0
  have hl : (r ++ [x]).getD (r.length - 1) default = lastI r := getD_app1 (by omega)
  constructor
  · rintro ⟨h1, h2, h3, h4, h5⟩
    have hx : x ∉ r := by
      rw [List.nodup_append] at h2
      exact fun hm => h2.2.2 x hm x (List.mem_singleton.2 rfl) rfl
    refine ⟨⟨hr, (List.nodup_append.1 h2).1, fun y hy => h3 y (List.mem_append_left _ hy), fun k hk hk2 => ?_, fun k hk => ?_⟩, h3 x (by simp), ?_, hx, ?_⟩
    · have := h4 k hk (by simp; omega)
      rwa [hh, getD_app1 hk2] at this
    · have := h5 k (by simp; omega)
      rwa [getD_app1 hk, getD_app1 (by omega)] at this
    · have := h4 r.length h0 (by simp)
      rwa [hh, getD_app2] at this
    · have := h5 (r.length - 1) (by simp; omega)
      rwa [show r.length - 1 + 1 = r.length by omega, getD_app2, hl] at this
  · rintro ⟨⟨h1, h2, h3, h4, h5⟩, hx, hlt, hm, ho⟩
    refine ⟨by simp, List.nodup_append.2 ⟨h2, by simp, fun a ha c hc e => ?_⟩, fun y hy => ?_, fun k hk hk2 => ?_, fun k hk => ?_⟩
    · rw [List.mem_singleton.1 hc] at e; exact hm (e ▸ ha)
    · rcases List.mem_append.1 hy with hy | hy
      · exact h3 y hy
      · rw [List.mem_singleton.1 hy]; exact hx
    · simp only [List.length_append, List.length_cons, List.length_nil] at hk2
      rw [hh]
      by_cases e : k = r.length
      · subst e; rw [getD_app2]; exact hlt
      · rw [getD_app1 (by omega)]; exact h4 k hk (by omega)
    · simp only [List.length_append, List.length_cons, List.length_nil] at hk
      by_cases e : k + 1 = r.length
      · rw [e, getD_app2, show k = r.length - 1 by omega, hl]; exact ho
      · rw [getD_app1 (by omega), getD_app1 (by omega)]; exact h5 k (by omega)
theorem row_app {b : Sheet} {r : List Int} (hr : r ≠ []) : ∀ (t : List Int), Row b (r ++ t) → Row b r := by
  intro t
  induction t generalizing r with
  | nil => intro h; simpa using h
  | cons x t ih =>
    intro h
    have h1 : Row b ((r ++ [x]) ++ t) := by simpa using h
    exact ((row_snoc hr).1 (ih (by simp) h1)).1
theorem mem_rings {b : Sheet} {s : List Int} : ∀ (k : Nat) (r : List Int), Row b r → freeN b r < k → (s ∈ ringsL b k r ↔ Ring b s ∧ ∃ t, s = r ++ t)
  | 0, r, hr, hf => absurd hf (by omega)
  | k + 1, r, hr, hf => by
    have h0 := List.length_pos_iff.2 hr.ne
    simp only [ringsL, List.mem_append, List.mem_flatMap, List.mem_range]
    constructor
    · rintro (h | ⟨i, hi, h⟩)
      · split at h
        · rename_i hc
          rw [List.mem_singleton.1 h]
          simp only [Bool.and_eq_true, decide_eq_true_eq] at hc
          exact ⟨⟨hr, by omega, hc.2⟩, [], by simp⟩
        · cases h
      · split at h
        · rename_i hc
          simp only [Bool.and_eq_true, decide_eq_true_eq, Bool.not_eq_true', decide_eq_false_iff_not] at hc
          have hr2 := (row_snoc hr.ne).2 ⟨hr, ⟨by omega, by omega⟩, hc.1, hc.2.1, hc.2.2⟩
          have hf2 := freeN_lt (b := b) (r := r) hi hc.2.1
          obtain ⟨h1, t, rfl⟩ := (mem_rings k _ hr2 (by omega)).1 h
          exact ⟨h1, ((i : Nat) : Int) :: t, by simp⟩
        · cases h
    · rintro ⟨h1, t, rfl⟩
      match t with
      | [] =>
        left
        rw [List.append_nil] at h1 ⊢
        rw [if_pos (by simp only [Bool.and_eq_true, decide_eq_true_eq]; exact ⟨by have := h1.two; omega, h1.round⟩)]
        exact List.mem_singleton.2 rfl
      | x :: t =>
        right
        have h3 : r ++ x :: t = (r ++ [x]) ++ t := by simp
        rw [h3] at h1 ⊢
        have hr2 := row_app (by simp) _ h1.toRow
        obtain ⟨_, hx, hlt, hm, ho⟩ := (row_snoc hr.ne).1 hr2
        have hx0 := hx.1; have hx1 := hx.2
        have he : ((x.toNat : Nat) : Int) = x := by omega
        refine ⟨x.toNat, by omega, ?_⟩
        rw [he, if_pos (by simp only [Bool.and_eq_true, decide_eq_true_eq, Bool.not_eq_true', decide_eq_false_iff_not]; exact ⟨hlt, hm, ho⟩)]
        have hf2 := freeN_lt (b := b) (r := r) (i := x.toNat) (by omega) (by rw [he]; exact hm)
        rw [he] at hf2
        exact (mem_rings k _ hr2 (by omega)).2 ⟨h1, t, rfl⟩
theorem row_one {b : Sheet} {x : Int} (h : inN b x) : Row b [x] := ⟨by simp, by simp, fun y hy => by rw [List.mem_singleton.1 hy]; exact h, fun k h1 h2 => by simp at h2; omega, fun k hk => by simp at hk⟩
theorem free_one {b : Sheet} (hv : Valid b) (x : Int) : freeN b [x] < 8 := by
  have := freeN_le b [x]; have := hv.many; omega
theorem mem_allR {b : Sheet} (hv : Valid b) {s : List Int} : s ∈ allR b ↔ Ring b s := by
  simp only [allR, List.mem_flatMap, List.mem_range]
  constructor
  · rintro ⟨i, hi, h⟩
    exact ((mem_rings 8 _ (row_one ⟨by omega, by omega⟩) (free_one hv _)).1 h).1
  · intro h
    match s, h with
    | [], h => exact absurd rfl h.ne
    | x :: t, h =>
      have hx := h.inb x (.head _)
      have hx0 := hx.1; have hx1 := hx.2
      refine ⟨x.toNat, by omega, ?_⟩
      rw [show ((x.toNat : Nat) : Int) = x by omega]
      exact (mem_rings 8 _ (row_one hx) (free_one hv _)).2 ⟨h, t, rfl⟩
theorem pick_none {L : List (List Int)} (h : L.foldl pickR none = none) : L = [] := by
  match L with
  | [] => rfl
  | s :: L =>
    have : ∀ (L : List (List Int)) (l : List Int), L.foldl pickR (some l) ≠ none := by
      intro L
      induction L with
      | nil => intro l h; cases h
      | cons s L ih =>
        intro l
        rw [List.foldl_cons]
        unfold pickR
        split
        · exact ih _
        · exact ih _
    exact absurd h (by rw [List.foldl_cons, show pickR none s = some s from rfl]; exact this L s)
theorem pick_min : ∀ (L : List (List Int)) (o : Option (List Int)) (l : List Int), L.foldl pickR o = some l → (o = some l ∨ l ∈ L) ∧ (∀ s ∈ L, l.length ≤ s.length) ∧ ∀ s, o = some s → l.length ≤ s.length
  | [], o, l, h => ⟨.inl h, (fun s hs => by cases hs), fun s hs => by simp only [List.foldl_nil] at h; rw [h] at hs; cases hs; exact Nat.le_refl _⟩
  | x :: L, o, l, h => by
    rw [List.foldl_cons] at h
    obtain ⟨h1, h2, h3⟩ := pick_min L _ l h
    unfold pickR at h1 h3
    cases hlt : ringLt o x with
    | true =>
      rw [if_pos hlt] at h1 h3
      have hx := h3 x rfl
      refine ⟨?_, fun s hs => ?_, fun s hs => ?_⟩
      · rcases h1 with h1 | h1
        · cases h1; exact .inr (.head _)
        · exact .inr (.tail _ h1)
      · rcases List.mem_cons.1 hs with rfl | hs
        · exact hx
        · exact h2 s hs
      · subst hs; simp [ringLt] at hlt; omega
    | false =>
      rw [if_neg (by rw [hlt]; decide)] at h1 h3
      refine ⟨?_, fun s hs => ?_, h3⟩
      · rcases h1 with h1 | h1
        · exact .inl h1
        · exact .inr (.tail _ h1)
      · rcases List.mem_cons.1 hs with rfl | hs
        · cases o with
          | none => simp [ringLt] at hlt
          | some q => simp [ringLt] at hlt; have := h3 q rfl; omega
        · exact h2 s hs
/-- What the ring's answer is. -/
theorem ring_cases {b : Sheet} (hck : checkB b = true) : (ringP b = ([], 4) ∧ ∀ s, ¬ Ring b s) ∨ ∃ l, ringP b = (l, 0) ∧ Ring b l ∧ ∀ s, Ring b s → l.length ≤ s.length := by
  have hv := valid_of hck
  rw [ringP_eq hck]
  cases h : (allR b).foldl pickR none with
  | none =>
    left
    refine ⟨rfl, fun s hs => ?_⟩
    have := (mem_allR hv).2 hs
    rw [pick_none h] at this; cases this
  | some l =>
    right
    obtain ⟨h1, h2, _⟩ := pick_min _ _ _ h
    refine ⟨l, rfl, ?_, fun s hs => h2 s ((mem_allR hv).2 hs)⟩
    rcases h1 with h1 | h1
    · cases h1
    · exact (mem_allR hv).1 h1
/-! ### Any round gives a ring -/
structure Cyc (b : Sheet) (c : List Int) : Prop where
  two : 2 ≤ c.length
  nodup : c.Nodup
  inb : ∀ x ∈ c, inN b x
  round : ∀ k, k < c.length → overP b (c.getD ((k + 1) % c.length) default) (c.getD k default) = true
theorem getD_inj {c : List Int} (h : c.Nodup) {i j : Nat} (hi : i < c.length) (hj : j < c.length) (e : c.getD i default = c.getD j default) : i = j := by
  rw [List.getD_eq_getElem?_getD, List.getD_eq_getElem?_getD, List.getElem?_eq_getElem hi, List.getElem?_eq_getElem hj] at e
  simp only [Option.getD_some] at e
  have h1 := h.idxOf_getElem i hi
  have h2 := h.idxOf_getElem j hj
  rw [e] at h1
  omega
theorem least_at : ∀ (c : List Int), c ≠ [] → ∃ m, m < c.length ∧ ∀ k, k < c.length → c.getD m default ≤ c.getD k default
  | [x], _ => ⟨0, by simp, fun k hk => by simp at hk; subst hk; exact Int.le_refl _⟩
  | x :: y :: c, _ => by
    obtain ⟨m, hm, h⟩ := least_at (y :: c) (by simp)
    by_cases hx : x ≤ (y :: c).getD m default
    · refine ⟨0, by simp, fun k hk => ?_⟩
      match k with
      | 0 => exact Int.le_refl _
      | k + 1 => have := h k (by simp at hk ⊢; omega); simp only [List.getD_cons_zero, List.getD_cons_succ] at this ⊢; omega
    · refine ⟨m + 1, by simp at hm ⊢; omega, fun k hk => ?_⟩
      match k with
      | 0 => simp only [List.getD_cons_zero, List.getD_cons_succ]; omega
      | k + 1 => have := h k (by simp at hk ⊢; omega); simp only [List.getD_cons_succ]; omega
theorem getD_map_range {f : Nat → Int} {n k : Nat} (h : k < n) : ((List.range n).map f).getD k default = f k := by
  rw [List.getD_eq_getElem?_getD, List.getElem?_map, List.getElem?_range h]; rfl
theorem ring_of_cyc {b : Sheet} {c : List Int} (hc : Cyc b c) : ∃ s, Ring b s ∧ s.length = c.length := by
  have h2 := hc.two
  obtain ⟨m, hm, hmin⟩ := least_at c (by intro e; rw [e] at h2; simp at h2)
  obtain ⟨n, hn⟩ : ∃ n, c.length = n := ⟨_, rfl⟩
  rw [hn] at h2 hm hmin
  have hlt : ∀ i, (m + i) % n < n := fun i => Nat.mod_lt _ (by omega)
  have hg : ∀ k, k < n → ((List.range n).map fun i => c.getD ((m + i) % n) default).getD k default = c.getD ((m + k) % n) default := fun k hk => getD_map_range hk
  have hinj : ∀ i j, i < n → j < n → (m + i) % n = (m + j) % n → i = j := by
    intro i j hi hj e
    have h1 : (m + i) % n = if m + i < n then m + i else m + i - n := by
      split
      · exact Nat.mod_eq_of_lt (by omega)
      · rw [Nat.mod_eq_sub_mod (by omega)]; exact Nat.mod_eq_of_lt (by omega)
    have h2 : (m + j) % n = if m + j < n then m + j else m + j - n := by
      split
      · exact Nat.mod_eq_of_lt (by omega)
      · rw [Nat.mod_eq_sub_mod (by omega)]; exact Nat.mod_eq_of_lt (by omega)
    rw [h1, h2] at e
    split at e <;> split at e <;> omega
  have hm0 : (m + 0) % n = m := Nat.mod_eq_of_lt (by omega)
  refine ⟨(List.range n).map fun i => c.getD ((m + i) % n) default, ⟨⟨?_, ?_, ?_, ?_, ?_⟩, ?_, ?_⟩, by simp [hn]⟩
  · intro e
    have := congrArg List.length e
    simp at this; omega
  · rw [List.nodup_iff_pairwise_ne, List.pairwise_map]
    refine (List.pairwise_iff_getElem.2 fun i j hi hj hij => ?_)
    simp only [List.getElem_range, List.length_range] at hi hj ⊢
    intro e
    have := getD_inj hc.nodup (by rw [hn]; exact hlt i) (by rw [hn]; exact hlt j) e
    have := hinj i j hi hj this
    omega
  · intro x hx
    obtain ⟨i, hi, rfl⟩ := List.mem_map.1 hx
    exact hc.inb _ (getD_mem (by rw [hn]; exact hlt i))
  · intro k hk hk2
    simp only [List.length_map, List.length_range] at hk2
    rw [hg 0 (by omega), hg k hk2, hm0]
    have h3 := hmin ((m + k) % n) (hlt k)
    have h4 : c.getD m default ≠ c.getD ((m + k) % n) default := fun e => by
      have h5 := getD_inj hc.nodup (by rw [hn]; exact hm) (by rw [hn]; exact hlt k) e
      have := hinj 0 k (by omega) hk2 (by rw [hm0]; exact h5)
      omega
    omega
  · intro k hk
    simp only [List.length_map, List.length_range] at hk
    rw [hg k (by omega), hg (k + 1) hk]
    have := hc.round ((m + k) % n) (by rw [hn]; exact hlt k)
    rw [hn, Nat.mod_add_mod] at this
    exact this
  · simp; exact h2
  · unfold headI lastI
    simp only [List.length_map, List.length_range]
    rw [hg 0 (by omega), hg (n - 1) (by omega), hm0]
    have := hc.round ((m + (n - 1)) % n) (by rw [hn]; exact hlt _)
    rw [hn, Nat.mod_add_mod, show m + (n - 1) + 1 = m + n by omega, Nat.add_mod_right, Nat.mod_eq_of_lt hm] at this
    exact this
theorem Ring.cyc {b : Sheet} {r : List Int} (h : Ring b r) : Cyc b r := by
  have h2 := h.two
  refine ⟨h.two, h.nodup, h.inb, fun k hk => ?_⟩
  by_cases e : k + 1 = r.length
  · rw [e, Nat.mod_self]
    have := h.round
    unfold headI lastI at this
    rw [show r.length - 1 = k by omega] at this
    exact this
  · rw [Nat.mod_eq_of_lt (by omega)]
    exact h.chain k (by omega)
/-! ### No order where there is a ring -/
theorem ok_over {b : Sheet} {l : List Int} (h : Ok b l) {x u : Int} (hx : x ∈ l) (ho : overP b x u = true) : l.idxOf u < l.idxOf x := by
  have := (h (l.idxOf x) (idx_lt hx)).2.2 u (by rw [idx_get hx]; exact ho)
  exact ((mem_take_idx h.nodup (Nat.le_of_lt (idx_lt hx))).1 this).2
theorem no_ring {b : Sheet} {l : List Int} (h : Ok b l) (hl : l.length = b.flaps.length) {s : List Int} (hs : Ring b s) : False := by
  have hm : ∀ x ∈ s, x ∈ l := fun x hx => ord_mem (ok_ord h hl) (hs.inb x hx)
  have h2 := hs.two
  have hup : ∀ k, k < s.length → l.idxOf (s.getD 0 default) ≤ l.idxOf (s.getD k default) := by
    intro k
    induction k with
    | zero => intro _; exact Nat.le_refl _
    | succ k ih =>
      intro hk
      have h3 := ih (by omega)
      have h4 := ok_over h (hm _ (getD_mem hk)) (hs.chain k hk)
      omega
  have h3 := hup (s.length - 1) (by omega)
  have h4 := ok_over h (hm _ (getD_mem (i := 0) (by omega))) hs.round
  unfold headI lastI at h4
  omega
/-! ### An order where there is no ring -/
def itF (f : Int → Int) : Nat → Int → Int
  | 0, x => x
  | k + 1, x => f (itF f k x)
theorem it_add (f : Int → Int) (i j : Nat) (x : Int) : itF f (i + j) x = itF f i (itF f j x) := by
  induction i with
  | zero => simp [itF]
  | succ i ih => rw [Nat.succ_add]; simp only [itF]; rw [ih]
theorem exists_least {p : Nat → Prop} {d : Nat} (h : p d) : ∃ m, p m ∧ ∀ k, k < m → ¬ p k := by
  classical
  induction d using Nat.strongRecOn with
  | _ d ih =>
    by_cases hex : ∃ k, k < d ∧ p k
    · obtain ⟨k, hk, hp⟩ := hex
      exact ih k hk hp
    · exact ⟨d, h, fun k hk hp => hex ⟨k, hk, hp⟩⟩
theorem cyc_of_fun {b : Sheet} (hv : Valid b) {S : Int → Prop} {f : Int → Int} (hS : ∀ x, S x → inN b x) (hf : ∀ x, S x → S (f x)) (ho : ∀ x, S x → overP b x (f x) = true) {x : Int} (hx : S x) : ∃ c, Cyc b c := by
  have hit : ∀ k y, S y → S (itF f k y) := by
    intro k y hy
    induction k with
    | zero => exact hy
    | succ k ih => exact hf _ ih
  have hdup : ¬ ((List.range (b.flaps.length + 1)).map fun k => itF f k x).Nodup := by
    intro hn
    have := hn.length_le_of_subset (l₂ := (List.range b.flaps.length).map fun i => ((i : Nat) : Int)) (fun y hy => by
      obtain ⟨k, _, rfl⟩ := List.mem_map.1 hy
      have h := hS _ (hit k x hx)
      exact List.mem_map.2 ⟨(itF f k x).toNat, List.mem_range.2 (by have := h.1; have := h.2; omega), by have := h.1; omega⟩)
    simp at this; omega
  have hper : ∃ i d, 0 < d ∧ itF f d (itF f i x) = itF f i x := by
    rw [List.nodup_iff_pairwise_ne, List.pairwise_map, List.pairwise_iff_getElem] at hdup
    simp only [Classical.not_forall] at hdup
    obtain ⟨i, j, hi, hj, hij, h⟩ := hdup
    simp only [List.getElem_range, ne_eq, Classical.not_not] at h
    refine ⟨i, j - i, by omega, ?_⟩
    rw [← it_add, show j - i + i = j by omega, h]
  obtain ⟨i, d0, hd0, hper⟩ := hper
  obtain ⟨y, hy⟩ : ∃ y, y = itF f i x := ⟨_, rfl⟩
  rw [← hy] at hper
  have hSy : S y := hy ▸ hit i x hx
  obtain ⟨d, ⟨hd, hdy⟩, hmin⟩ := exists_least (p := fun d => 0 < d ∧ itF f d y = y) (d := d0) ⟨hd0, hper⟩
  have hd2 : 2 ≤ d := by
    by_cases e : d = 1
    · subst e
      have h1 := ho y hSy
      have h2 : f y = y := hdy
      rw [h2] at h1
      obtain ⟨_, r, hr, h3, h4⟩ := overP_iff.1 h1
      exact absurd (h3.trans h4.symm) (hv.rule r hr).2.2.2.2
    · omega
  have hg : ∀ k, k < d → ((List.range d).map fun k => itF f (d - 1 - k) y).getD k default = itF f (d - 1 - k) y := fun k hk => getD_map_range hk
  have hne : ∀ i j, i < j → j < d → itF f i y ≠ itF f j y := by
    intro i j hij hj e
    have h1 : itF f (d - j + i) y = y := by
      rw [it_add, e, ← it_add, show d - j + j = d by omega, hdy]
    exact hmin (d - j + i) (by omega) ⟨by omega, h1⟩
  refine ⟨(List.range d).map fun k => itF f (d - 1 - k) y, by simpa using hd2, ?_, ?_, ?_⟩
  · rw [List.nodup_iff_pairwise_ne, List.pairwise_map, List.pairwise_iff_getElem]
    intro i j hi hj hij
    simp only [List.getElem_range, List.length_range] at hi hj ⊢
    exact fun e => hne (d - 1 - j) (d - 1 - i) (by omega) (by omega) e.symm
  · intro z hz
    obtain ⟨k, _, rfl⟩ := List.mem_map.1 hz
    exact hS _ (hit _ y hSy)
  · intro k hk
    simp only [List.length_map, List.length_range] at hk ⊢
    rw [hg k hk]
    by_cases e : k + 1 = d
    · rw [e, Nat.mod_self, hg 0 (by omega), show d - 1 - k = 0 by omega]
      have h1 := ho _ (hit (d - 1 - 0) y hSy)
      have h2 : f (itF f (d - 1 - 0) y) = y := by
        have : itF f (d - 1 - 0 + 1) y = y := by rw [show d - 1 - 0 + 1 = d by omega]; exact hdy
        exact this
      rw [h2] at h1
      exact h1
    · rw [Nat.mod_eq_of_lt (by omega), hg (k + 1) (by omega)]
      have h1 := ho _ (hit (d - 1 - (k + 1)) y hSy)
      have h2 : f (itF f (d - 1 - (k + 1)) y) = itF f (d - 1 - k) y := by
        rw [show d - 1 - k = d - 1 - (k + 1) + 1 by omega]; rfl
      rw [h2] at h1
      exact h1
theorem next_of {b : Sheet} (hv : Valid b) (hr : ∀ s, ¬ Ring b s) {p : List Int} (hp : Ok b p) (hl : p.length < b.flaps.length) : ∃ x, Next b p x := by
  classical
  by_cases hex : ∃ x, Next b p x
  · exact hex
  · exfalso
    have hstep : ∀ x, inN b x ∧ x ∉ p → ∃ u, overP b x u = true ∧ u ∉ p := by
      intro x hx
      by_cases h : ∃ u, overP b x u = true ∧ u ∉ p
      · exact h
      · refine absurd ⟨x, hx.1, hx.2, fun u hu => ?_⟩ hex
        by_cases hm : u ∈ p
        · exact hm
        · exact absurd ⟨u, hu, hm⟩ h
    have hfirst : ∃ x, inN b x ∧ x ∉ p := by
      by_cases h : ∃ x, inN b x ∧ x ∉ p
      · exact h
      · have hn : ((List.range b.flaps.length).map fun i => ((i : Nat) : Int)).Nodup := by
          rw [List.nodup_iff_pairwise_ne, List.pairwise_map, List.pairwise_iff_getElem]
          intro i j hi hj hij
          simp only [List.getElem_range]
          omega
        have := hn.length_le_of_subset (l₂ := p) (fun y hy => by
          obtain ⟨i, hi, rfl⟩ := List.mem_map.1 hy
          have hi' := List.mem_range.1 hi
          by_cases hm : ((i : Nat) : Int) ∈ p
          · exact hm
          · exact absurd ⟨_, ⟨by omega, by omega⟩, hm⟩ h)
        simp at this; omega
    obtain ⟨x, hx⟩ := hfirst
    let f : Int → Int := fun x => if h : inN b x ∧ x ∉ p then (hstep x h).choose else x
    have hfs : ∀ x, inN b x ∧ x ∉ p → overP b x (f x) = true ∧ f x ∉ p := by
      intro x h
      have : f x = (hstep x h).choose := dif_pos h
      rw [this]
      exact (hstep x h).choose_spec
    obtain ⟨c, hc⟩ := cyc_of_fun hv (S := fun x => inN b x ∧ x ∉ p) (f := f) (fun x h => h.1) (fun x h => by
      have h1 := hfs x h
      obtain ⟨_, r, hr, _, h4⟩ := overP_iff.1 h1.1
      exact ⟨h4 ▸ (rule_in hv hr).2, h1.2⟩) (fun x h => (hfs x h).1) hx
    obtain ⟨s, hs, _⟩ := ring_of_cyc hc
    exact hr s hs
theorem order_of {b : Sheet} (hv : Valid b) (hr : ∀ s, ¬ Ring b s) : ∀ (k : Nat) (p : List Int), Ok b p → p.length + k = b.flaps.length → ∃ l, Ok b l ∧ l.length = b.flaps.length
  | 0, p, hp, hl => ⟨p, hp, by omega⟩
  | k + 1, p, hp, hl => by
    obtain ⟨x, hx⟩ := next_of hv hr hp (by omega)
    exact order_of hv hr k _ (ok_snoc.2 ⟨hp, hx⟩) (by simp; omega)
/-- A sheet folds just if there is no ring. -/
theorem folds_iff {b : Sheet} (hv : Valid b) : allO b ≠ [] ↔ ∀ s, ¬ Ring b s := by
  constructor
  · intro h s hs
    obtain ⟨l, hl⟩ := List.exists_mem_of_ne_nil _ h
    obtain ⟨h1, h2⟩ := (mem_allO hv).1 hl
    exact no_ring h1 h2 hs
  · intro h e
    obtain ⟨l, h1, h2⟩ := order_of hv h b.flaps.length _ (ok_nil b) (by simp)
    have := (mem_allO hv).2 ⟨h1, h2⟩
    rw [e] at this; cases this
/-- How the order, the number of orders and the ring agree. -/
theorem told_cases {b : Sheet} (hck : checkB b = true) : (orderP b = ([], 4) ∧ countP b = (0, 0) ∧ allO b = [] ∧ (∃ r, ringP b = (r, 0) ∧ Ring b r ∧ ∀ s, Ring b s → r.length ≤ s.length)) ∨
    ∃ l rest, orderP b = (l, 0) ∧ allO b = l :: rest ∧ countP b = ((((allO b).length : Nat) : Int), 0) ∧ ringP b = ([], 4) ∧ Ok b l ∧ l.length = b.flaps.length ∧ ∀ s, ¬ Ring b s := by
  have hv := valid_of hck
  have ha : askE b true = 0 := by simp [askE, hck]
  have hf := folds_iff hv
  cases h : allO b with
  | nil =>
    left
    have hno : ¬ ∀ s, ¬ Ring b s := fun h' => hf.2 h' h
    refine ⟨by simp [orderP, ha, h], by simp [countP, ha, h], rfl, ?_⟩
    rcases ring_cases hck with ⟨_, h1⟩ | h1
    · exact absurd h1 hno
    · exact h1
  | cons l rest =>
    right
    have hno := hf.1 (by rw [h]; simp)
    have hm := (mem_allO hv).1 (show l ∈ allO b by rw [h]; exact .head _)
    refine ⟨l, rest, by simp [orderP, ha, h], rfl, by simp [countP, ha, h], ?_, hm.1, hm.2, hno⟩
    rcases ring_cases hck with ⟨h1, _⟩ | ⟨r, _, h1, _⟩
    · exact h1
    · exact absurd h1 (hno r)
end Go.Proofs.YtpjhffockmnjbaaDoor
set_option linter.unusedVariables false
set_option linter.unusedSimpArgs false
namespace Go.Proofs.YtpjhffockmnjbaaDoor
def stAt (b : Sheet) (l bits : List Int) (r : Rule) : Bool := decide (indexZ (fun x => x == r.over) l < indexZ (fun x => x == r.under) l) && squareB b r.over (reachZ b r.over.toNat bits) r.under (reachZ b r.under.toNat bits)
/-- Does a flap lie over one that must lie over it, as far as all truly reach? -/
def stoppedB (b : Sheet) (l bits : List Int) : Bool := b.rules.any (stAt b l bits)
theorem stopped_yes {b : Sheet} {l bits : List Int} {k : Nat} (hk : k < b.rules.length) (h : stAt b l bits (b.rules.getD k default) = true) : stoppedB b l bits = true := List.any_eq_true.2 ⟨_, getD_mem hk, h⟩
theorem stopped_no {b : Sheet} {l bits : List Int} (h : ∀ k, k < b.rules.length → stAt b l bits (b.rules.getD k default) = false) : stoppedB b l bits = false := by
  unfold stoppedB
  rw [List.any_eq_false]
  intro x hx
  obtain ⟨k, hk, rfl⟩ := List.getElem_of_mem hx
  have := h k hk
  rw [List.getD_eq_getElem?_getD, List.getElem?_eq_getElem hk] at this
  simpa using this
theorem met_reach {b : Sheet} (hv : Valid b) (bits : List Int) {r : Rule} (hr : r ∈ b.rules) : ((cellN b 2 r.over r.under == 2 && !squareB b r.over (reachZ b r.over.toNat bits) r.under (reachZ b r.under.toNat bits)) || (cellN b 2 r.over r.under == 0 && squareB b r.over (reachZ b r.over.toNat bits) r.under (reachZ b r.under.toNat bits))) = false := by
  have hi := rule_in hv hr
  have h1 := reach_rng hv hi.1 bits; have h2 := reach_rng hv hi.2 bits
  exact met_true hv hi.1 hi.2 (hv.rule r hr).2.2.2.2 ⟨h1.1, h1.2.1⟩ ⟨h2.1, h2.2.1⟩
theorem not_stopped {b : Sheet} (hv : Valid b) {l : List Int} (ho : ordB b l = true) (hok : Ok b l) (bits : List Int) : stoppedB b l bits = false := by
  unfold stoppedB
  rw [List.any_eq_false]
  intro r hr hs
  simp only [stAt, Bool.and_eq_true, decide_eq_true_eq] at hs
  have hi := rule_in hv hr
  have m1 := ord_mem ho hi.1; have m2 := ord_mem ho hi.2
  rw [index_idx' m1, index_idx' m2] at hs
  have h1 := (ok_iff hv ho).1 hok r hr
  have h2 := met_reach hv bits hr
  have hc := cell_rng b r.over r.under
  have h0 : cellN b 2 r.over r.under = 0 := by
    by_cases h : 0 < cellN b 2 r.over r.under
    · have := h1 h; omega
    · omega
  rw [h0, hs.2] at h2
  simp at h2
theorem index_eq (v : Int) (l : List Int) : indexZ (fun x => x == v) l = indexZ (fun y => v == y) l := by
  congr 1; funext x; rw [Bool.beq_comm]
theorem is_stopped {b : Sheet} (hv : Valid b) {l : List Int} (h : 2 - worst b l b.rules.length = 0) (bits : List Int) : stoppedB b l bits = true := by
  unfold worst at h
  rw [List.take_length] at h
  rcases fold_max b l b.rules 0 (by omega) with h1 | ⟨r, hr, h1, h2⟩
  · omega
  · refine List.any_eq_true.2 ⟨r, hr, ?_⟩
    have h3 := met_reach hv bits hr
    rw [h2] at h3
    simp only [stAt, Bool.and_eq_true, decide_eq_true_eq]
    refine ⟨by rw [index_eq, index_eq]; exact h1, ?_⟩
    cases hs : squareB b r.over (reachZ b r.over.toNat bits) r.under (reachZ b r.under.toNat bits) with
    | true => rfl
    | false => rw [hs] at h3; simp at h3
theorem whole_ok {b : Sheet} {l : List Int} (ho : ordB b l = true) : wholeB b l = true := by
  rw [whole_yes (fun i hi => ord_mem ho ⟨by omega, by omega⟩)]
  simpa using (ordB_iff.1 ho).1
theorem does_first {b : Sheet} (hck : checkB b = true) {l : List Int} (hok : Ok b l) (hl : l.length = b.flaps.length) : doesP b l = (2, 0) := by
  have ho := ok_ord hok hl
  rw [does_ok hck ho, (does_two (valid_of hck) ho).2 hok]
end Go.Proofs.YtpjhffockmnjbaaDoor
