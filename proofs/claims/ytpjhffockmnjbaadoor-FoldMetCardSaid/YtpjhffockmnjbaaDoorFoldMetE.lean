/- For every sheet, pair of numbers and list of numbers the law FoldMet returns true, and its arguments read afterwards as before: two flaps meet square by square as they are told to. Conditions: the table of the sides holds what the text of the program lays. -/
import Derived.Test.YtpjhffockmnjbaaDoorFoldMetD
import Derived.Test.YtpjhffockmnjbaaDoorTie
import Derived.Test.YtpjhffockmnjbaaDoorCards
set_option linter.unusedVariables false
set_option linter.unusedSimpArgs false
namespace Go.Proofs.YtpjhffockmnjbaaDoor
open Go.RowKit
theorem c_FoldMet (b : Sheet) (fA : Option Addr) (fc : Nat) (rA : Option Addr) (rc : Nat) (oA : Option Addr) (oc : Nat) (l : List Int) (ge : TypeId) (gz : Nat × Nat) (n0 n1 : Int) (w0 : World) (h : ShIn b fA fc rA rc w0) (ho : Rd encI 1 oA l.length l w0) (hG : BlkIs 0 sidesA ge gz w0) :
    Calls Tryd.prog 7 #[.agg #[.int .i64 b.wide, .int .i64 b.high, .slice fA b.flaps.length fc, .slice rA b.rules.length rc], .agg #[.int .i64 n0, .int .i64 n1], .slice oA l.length oc] w0 (Ret w0 (.bool true)) := by
  refine c_enter (n := 140) Tryd.func7 rfl rfl (Nat.le_of_ble_eq_true rfl) ?_; intro a hf; simp only [zipR] at hf
  have hs := St.start w0 [Rd encF 5 fA b.flaps.length b.flaps, Rd encR 2 rA b.rules.length b.rules, Rd encI 1 oA l.length l, BlkIs 0 sidesA ge gz] (stab_app (stab_app h.stab ho.st1) hG.st1)
  have hfm := h.F.2.1; have hrm := h.R.2.1; have hlm := ho.2.1
  refine c_reg ?_
  refine vL hf (v_boxA hf hs rfl) (by decide) ?_; clear hs hf a; rintro _ w ⟨b1, rfl, hs⟩ a hf
  refine vL hf (v_boxA hf hs rfl) (by decide) ?_; clear hs hf a; rintro _ w ⟨b2, rfl, hs⟩ a hf
  refine gL hf (g_as hf rfl) (by decide) ?_; clear hf a; intro a hf
  refine e_nil ?_
  refine wp_seq ?_
  refine c_reg ?_
  refine gL hf (g_ldW hf hs T25 rfl (k := 1) rfl rfl) (by decide) ?_; clear hf a; intro a hf
  refine callL hf hs (c_sound b _ _ _ _ _ ⟨hs.rd (.head _), hs.rd (.tail _ (.head _)), h.fc_, h.rc_⟩) rfl rfl rfl E35 (by decide) ?_; clear hs hf a; intro w a hs hf
  refine gL hf (g_not hf rfl) (by decide) ?_; clear hf a; intro a hf
  refine gL hf (g_mv hf rfl) (by decide) ?_; clear hf a; intro a hf
  refine ggL hf rfl rfl (gyes_f _) (fun hg => g_fa (off' := 2) hf F25_2 rfl rfl) (by decide) ?_; clear hf a; intro a hf
  refine ggL hf rfl rfl (gyes_f _) (fun hg => g_ld hf hs T22 (ev_gv rfl hg) (k := 1) rfl rfl) (by decide) ?_; clear hf a; intro a hf
  refine ggL hf rfl rfl (gyes_f _) (fun hg => g_len hf SL22 (ev_gv rfl hg)) (by decide) ?_; clear hf a; intro a hf
  refine ggL hf rfl rfl (gyes_f _) (fun hg => g_lss hf (ev_gv rfl hg) rfl) (by decide) ?_; clear hf a; intro a hf
  refine gL hf (g_or hf rfl rfl) (by decide) ?_; clear hf a; intro a hf
  refine e_nil ?_
  refine c_cond hf rfl (fun hc1 => ?_) (fun hc1 => ?_)
  · skip
    refine c_reg ?_
    refine callL hf hs (c_folded ge gz _ (hs.rd (.tail _ (.tail _ (.tail _ (.head _)))))) rfl rfl rfl E21 (by decide) ?_; clear hs hf a; intro w a hs hf
    refine gL hf (g_as hf rfl) (by decide) ?_; clear hf a; intro a hf
    refine e_nil ?_
    refine c_ret (q_thenR ?_)
    refine e_ret1 hf rfl rfl ?_
    exact ⟨rfl, hs.below⟩
  · skip
    have hck : checkB b = true := by cases h9 : checkB b with
            | true => rfl
            | false => rw [h9] at hc1; cases hc1
    have hlen : 2 ≤ b.flaps.length := by rw [hck] at hc1; simp only [Bool.not_true, Bool.false_or, decide_eq_false_iff_not] at hc1; omega
    have hv := valid_of hck
    have hmany := hv.many
    have h1 := spin_rng n0 (m := (b.flaps.length : Nat)) (by omega)
    obtain ⟨ia, hone⟩ : ∃ x, x = spin n0 (b.flaps.length : Nat) := ⟨_, rfl⟩
    rw [← hone] at h1
    have hin1 : inN b ia := h1
    have h5 := spin_rng n1 (m := (b.flaps.length : Nat) - 1) (by omega)
    refine c_skip (q_thenN ?_)
    refine c_reg ?_
    refine gL hf (g_ixA hf AR26 rfl rfl (by omega)) (by decide) ?_; clear hf a; intro a hf
    refine gL hf (g_ld hf hs T3 rfl (k := 0) rfl rfl) (by decide) ?_; clear hf a; intro a hf
    refine gL hf (g_fa (off' := 2) hf F25_2 rfl rfl) (by decide) ?_; clear hf a; intro a hf
    refine gL hf (g_ld hf hs T22 rfl (k := 1) rfl rfl) (by decide) ?_; clear hf a; intro a hf
    refine gL hf (g_len hf SL22 rfl) (by decide) ?_; clear hf a; intro a hf
    refine callL hf hs (c_Spin _ _ (by omega) _) rfl rfl rfl E38 (by decide) ?_; clear hs hf a; intro w a hs hf
    refine gL hf (g_as hf rfl) (by decide) ?_; clear hf a; intro a hf
    refine e_nil ?_
    rw [← hone] at hf
    refine c_draw _ 15 Mx rfl hs (fun _ h => h) ?_; intro w hs hS
    refine gA hf hS (i := 0) rfl (by kernel_rfl) (fun w hs => g_mv hf rfl) (by decide) ?_; clear hf a; intro a hf
    refine gA hf hS (i := 1) rfl (by kernel_rfl) (fun w hs => g_addI hf rfl rfl (by omega)) (by decide) ?_; clear hf a; intro a hf
    refine gA hf hS (i := 2) rfl (by kernel_rfl) (fun w hs => g_ixA hf AR26 rfl rfl (by omega)) (by decide) ?_; clear hf a; intro a hf
    refine gA hf hS (i := 3) rfl (by kernel_rfl) (fun w hs => g_ld hf hs T3 rfl (k := 0) rfl rfl) (by decide) ?_; clear hf a; intro a hf
    refine gA hf hS (i := 4) rfl (by kernel_rfl) (fun w hs => g_fa (off' := 2) hf F25_2 rfl rfl) (by decide) ?_; clear hf a; intro a hf
    refine gA hf hS (i := 5) rfl (by kernel_rfl) (fun w hs => g_ld hf hs T22 rfl (k := 1) rfl rfl) (by decide) ?_; clear hf a; intro a hf
    refine gA hf hS (i := 6) rfl (by kernel_rfl) (fun w hs => g_len hf SL22 rfl) (by decide) ?_; clear hf a; intro a hf
    refine gA hf hS (i := 7) rfl (by kernel_rfl) (fun w hs => g_subI hf rfl rfl (by omega)) (by decide) ?_; clear hf a; intro a hf
    refine gA hf hS (i := 10) rfl (by kernel_rfl) (fun w hs => g_fa (off' := 2) hf F25_2 rfl rfl) (by decide) ?_; clear hf a; intro a hf
    refine gA hf hS (i := 11) rfl (by kernel_rfl) (fun w hs => g_ld hf hs T22 rfl (k := 1) rfl rfl) (by decide) ?_; clear hf a; intro a hf
    refine gA hf hS (i := 12) rfl (by kernel_rfl) (fun w hs => g_len hf SL22 rfl) (by decide) ?_; clear hf a; intro a hf
    refine one (i := 8) (by kernel_rfl) ?_
    refine oCall hf hs rfl (c_Spin _ _ (by omega) _) rfl rfl rfl E38 (by decide) (fun _ h => h.sub (.refl _)) ?_; clear hs hf hS a; intro w a hs hS hf
    refine gA hf hS (i := 9) rfl (by kernel_rfl) (fun w hs => g_addI hf rfl rfl (by omega)) (by decide) ?_; clear hf a; intro a hf
    refine one (i := 13) (by kernel_rfl) ?_
    refine oCall hf hs rfl (c_Spin _ _ (by omega) _) rfl rfl rfl E38 (by decide) (fun _ h => h.sub (.refl _)) ?_; clear hs hf hS a; intro w a hs hS hf
    refine gA hf hS (i := 14) rfl (by kernel_rfl) (fun w hs => g_as hf rfl) (by decide) ?_; clear hf a; intro a hf
    refine e_done (by kernel_rfl) ?_
    obtain ⟨ja, hoth⟩ : ∃ x, x = spin (ia + 1 + spin n1 ((b.flaps.length : Nat) - 1)) (b.flaps.length : Nat) := ⟨_, rfl⟩
    rw [← hoth] at hf
    have h2 := spin_rng (ia + 1 + spin n1 ((b.flaps.length : Nat) - 1)) (m := (b.flaps.length : Nat)) (by omega)
    rw [← hoth] at h2
    have hin2 : inN b ja := h2
    have hne : ia ≠ ja := fun e => other_ne (n := ia) (k := n1) (m := (b.flaps.length : Nat)) (by omega) h1 (by rw [← hoth]; exact e.symm)
    have hff1 := flap_far hv hin1; have hff2 := flap_far hv hin2
    simp only [flapA] at hff1 hff2
    refine c_reg ?_
    refine gL hf (g_ldW hf hs T25 rfl (k := 1) rfl rfl) (by decide) ?_; clear hf a; intro a hf
    refine gL hf (g_mv hf rfl) (by decide) ?_; clear hf a; intro a hf
    refine gL hf (g_mv hf rfl) (by decide) ?_; clear hf a; intro a hf
    refine callL hf hs (c_Meet b _ _ _ _ _ _ ia ja _ ⟨hs.rd (.head _), hs.rd (.tail _ (.head _)), h.fc_, h.rc_⟩ (hs.rd (.tail _ (.tail _ (.tail _ (.head _)))))) rfl rfl rfl E15 (by decide) ?_; clear hs hf a; intro w a hs hf
    rw [meetP_ok hck hin1 hin2 hne] at hf
    refine gL hf (g_mv hf rfl) (by decide) ?_; clear hf a; intro a hf
    refine gL hf (g_ext hf rfl rfl) (by decide) ?_; clear hf a; intro a hf
    refine gL hf (g_ext hf rfl rfl) (by decide) ?_; clear hf a; intro a hf
    refine gL hf (g_as hf rfl) (by decide) ?_; clear hf a; intro a hf
    refine gL hf (g_as hf rfl) (by decide) ?_; clear hf a; intro a hf
    refine e_nil ?_
    refine c_reg ?_
    refine gL hf (g_ldW hf hs T25 rfl (k := 1) rfl rfl) (by decide) ?_; clear hf a; intro a hf
    refine gL hf (g_mv hf rfl) (by decide) ?_; clear hf a; intro a hf
    refine gL hf (g_mv hf rfl) (by decide) ?_; clear hf a; intro a hf
    refine callL hf hs (c_Meet b _ _ _ _ _ _ ja ia _ ⟨hs.rd (.head _), hs.rd (.tail _ (.head _)), h.fc_, h.rc_⟩ (hs.rd (.tail _ (.tail _ (.tail _ (.head _)))))) rfl rfl rfl E15 (by decide) ?_; clear hs hf a; intro w a hs hf
    rw [meetP_ok hck hin2 hin1 hne.symm, cell_comm b ja ia] at hf
    refine gL hf (g_mv hf rfl) (by decide) ?_; clear hf a; intro a hf
    refine gL hf (g_ext hf rfl rfl) (by decide) ?_; clear hf a; intro a hf
    refine gL hf (g_ext hf rfl rfl) (by decide) ?_; clear hf a; intro a hf
    refine gL hf (g_as hf rfl) (by decide) ?_; clear hf a; intro a hf
    refine gL hf (g_as hf rfl) (by decide) ?_; clear hf a; intro a hf
    refine e_nil ?_
    refine wp_seq ?_
    refine c_reg ?_
    refine gL hf (g_mv hf rfl) (by decide) ?_; clear hf a; intro a hf
    refine gL hf (g_neq hf rfl rfl) (by decide) ?_; clear hf a; intro a hf
    refine gL hf (g_mv hf rfl) (by decide) ?_; clear hf a; intro a hf
    refine ggL hf rfl rfl (gyes_f _) (fun hg => g_mv hf rfl) (by decide) ?_; clear hf a; intro a hf
    refine ggL hf rfl rfl (gyes_f _) (fun hg => g_neq hf (ev_gv rfl hg) rfl) (by decide) ?_; clear hf a; intro a hf
    refine gL hf (g_or hf rfl rfl) (by decide) ?_; clear hf a; intro a hf
    refine gL hf (g_mv hf rfl) (by decide) ?_; clear hf a; intro a hf
    refine ggL hf rfl rfl (gyes_f _) (fun hg => g_mv hf rfl) (by decide) ?_; clear hf a; intro a hf
    refine ggL hf rfl rfl (gyes_f _) (fun hg => g_mv hf rfl) (by decide) ?_; clear hf a; intro a hf
    refine ggL hf rfl rfl (gyes_f _) (fun hg => g_neq hf (ev_gv rfl hg) (ev_gv rfl hg)) (by decide) ?_; clear hf a; intro a hf
    refine gL hf (g_or hf rfl rfl) (by decide) ?_; clear hf a; intro a hf
    refine gL hf (g_mv hf rfl) (by decide) ?_; clear hf a; intro a hf
    refine ggL hf rfl rfl (gyes_f _) (fun hg => g_mv hf rfl) (by decide) ?_; clear hf a; intro a hf
    refine callG hf hs rfl rfl (gyes_f _) (fun hg => ⟨_, _, _, _, c_Fits _ _ _ _, rfl, evs_cons (ev_gv rfl hg) (evs_cons rfl (evs_cons rfl evs_nil)), rfl⟩) E39 (by decide) ?_; clear hs hf a; intro w a hs hf
    refine ggL hf rfl rfl (gyes_f _) (fun hg => g_not hf (ev_gv rfl hg)) (by decide) ?_; clear hf a; intro a hf
    refine gL hf (g_or hf rfl rfl) (by decide) ?_; clear hf a; intro a hf
    refine e_nil ?_
    refine c_cond hf rfl (fun hc2 => ?_) (fun hc2 => ?_)
    · skip
      exfalso; have h8 := cell_rng b ia ja; simp [fitsB] at hc2; omega
    · skip
      refine c_skip (q_thenN ?_)
      refine c_draw _ 16 Mx rfl hs (fun _ h => h) ?_; intro w hs hS
      refine gA hf hS (i := 0) rfl (by kernel_rfl) (fun w hs => g_fa (off' := 2) hf F25_2 rfl rfl) (by decide) ?_; clear hf a; intro a hf
      refine gA hf hS (i := 1) rfl (by kernel_rfl) (fun w hs => g_ld hf hs T22 rfl (k := 1) rfl rfl) (by decide) ?_; clear hf a; intro a hf
      refine gA hf hS (i := 2) rfl (by kernel_rfl) (fun w hs => g_mv hf rfl) (by decide) ?_; clear hf a; intro a hf
      (first | (refine gA hf hS (i := 3) rfl (by kernel_rfl) (fun w hs => g_ixE hf hs (.head _) SL22 rfl rfl (by omega)) (by decide) ?_) | (refine gA hf hS (i := 3) rfl (by kernel_rfl) (fun w hs => g_ixD hf hs (.head _) SL22 rfl rfl (by omega)) (by decide) ?_)); clear hf a; intro a hf
      refine gA hf hS (i := 4) rfl (by kernel_rfl) (fun w hs => g_faD (j' := 1) hf hs (.head _) F49_1 rfl (by omega) rfl) (by decide) ?_; clear hf a; intro a hf
      refine gA hf hS (i := 5) rfl (by kernel_rfl) (fun w hs => g_ldEP hf hs (.head _) T47 rfl rfl (by omega)) (by decide) ?_; clear hf a; intro a hf
      refine gA hf hS (i := 6) rfl (by kernel_rfl) (fun w hs => g_fa (off' := 2) hf F25_2 rfl rfl) (by decide) ?_; clear hf a; intro a hf
      refine gA hf hS (i := 7) rfl (by kernel_rfl) (fun w hs => g_ld hf hs T22 rfl (k := 1) rfl rfl) (by decide) ?_; clear hf a; intro a hf
      refine gA hf hS (i := 8) rfl (by kernel_rfl) (fun w hs => g_mv hf rfl) (by decide) ?_; clear hf a; intro a hf
      (first | (refine gA hf hS (i := 9) rfl (by kernel_rfl) (fun w hs => g_ixE hf hs (.head _) SL22 rfl rfl (by omega)) (by decide) ?_) | (refine gA hf hS (i := 9) rfl (by kernel_rfl) (fun w hs => g_ixD hf hs (.head _) SL22 rfl rfl (by omega)) (by decide) ?_)); clear hf a; intro a hf
      refine gA hf hS (i := 10) rfl (by kernel_rfl) (fun w hs => g_faD (j' := 1) hf hs (.head _) F49_1 rfl (by omega) rfl) (by decide) ?_; clear hf a; intro a hf
      refine gA hf hS (i := 11) rfl (by kernel_rfl) (fun w hs => g_ldEP hf hs (.head _) T47 rfl rfl (by omega)) (by decide) ?_; clear hf a; intro a hf
      refine two (i := 12) (j := 13) (by kernel_rfl) ?_ ?_
      · skip
        refine oV hf rfl (v_alloc hs T47 rfl) (by decide) (fun _ _ ⟨_, _, h⟩ => h.sub (.cons _ (.refl _))) ?_; clear hs hf hS a; rintro _ w ⟨b3, rfl, hs⟩ hS a hf
        refine one (i := 13) (by kernel_rfl) ?_
        refine oV hf rfl (v_alloc hs T47 rfl) (by decide) (fun _ _ ⟨_, _, h⟩ => h.sub (.cons _ (.cons _ (.refl _)))) ?_; clear hs hf hS a; rintro _ w ⟨b4, rfl, hs⟩ hS a hf
        refine one (i := 14) (by kernel_rfl) ?_
        refine oU rfl (u_stW hf hs T47 rfl rfl rfl (k := 1) rfl rfl rfl) (fun _ h => h.sub (.cons _ (.cons _ (.refl _)))) ?_; clear hs hS; intro w hs hS; dsimp only [List.set] at hs
        refine one (i := 15) (by kernel_rfl) ?_
        refine oU rfl (u_stW hf hs T47 rfl rfl rfl (k := 0) rfl rfl rfl) (fun _ h => h.sub (.cons _ (.cons _ (.refl _)))) ?_; clear hs hS; intro w hs hS; dsimp only [List.set] at hs
        refine e_done (by kernel_rfl) ?_
        refine c_draw _ 13 Mx rfl hs (fun _ h => h) ?_; intro w hs hS
        refine gA hf hS (i := 0) rfl (by kernel_rfl) (fun w hs => g_ldW hf hs T25 rfl (k := 3) rfl rfl) (by decide) ?_; clear hf a; intro a hf
        refine gA hf hS (i := 1) rfl (by kernel_rfl) (fun w hs => g_mv hf rfl) (by decide) ?_; clear hf a; intro a hf
        refine gA hf hS (i := 2) rfl (by kernel_rfl) (fun w hs => g_ldW hf hs T25 rfl (k := 3) rfl rfl) (by decide) ?_; clear hf a; intro a hf
        refine gA hf hS (i := 3) rfl (by kernel_rfl) (fun w hs => g_mv hf rfl) (by decide) ?_; clear hf a; intro a hf
        refine gA hf hS (i := 4) rfl (by kernel_rfl) (fun w hs => g_mv hf rfl) (by decide) ?_; clear hf a; intro a hf
        refine gA hf hS (i := 6) rfl (by kernel_rfl) (fun w hs => g_mv hf rfl) (by decide) ?_; clear hf a; intro a hf
        refine gA hf hS (i := 7) rfl (by kernel_rfl) (fun w hs => g_ldW hf hs T25 rfl (k := 3) rfl rfl) (by decide) ?_; clear hf a; intro a hf
        refine gA hf hS (i := 8) rfl (by kernel_rfl) (fun w hs => g_mv hf rfl) (by decide) ?_; clear hf a; intro a hf
        refine gA hf hS (i := 9) rfl (by kernel_rfl) (fun w hs => g_mv hf rfl) (by decide) ?_; clear hf a; intro a hf
        refine one (i := 5) (by kernel_rfl) ?_
        refine oCall hf hs rfl (c_reach b _ _ _ _ _ _ l ia hv hin1 _ ⟨hs.rd (.head _), hs.rd (.tail _ (.head _)), h.fc_, h.rc_⟩ (hs.rd (.tail _ (.tail _ (.head _))))) rfl rfl rfl E41 (by decide) (fun _ h => h.sub (.refl _)) ?_; clear hs hf hS a; intro w a hs hS hf
        refine one (i := 10) (by kernel_rfl) ?_
        refine oCall hf hs rfl (c_reach b _ _ _ _ _ _ l ja hv hin2 _ ⟨hs.rd (.head _), hs.rd (.tail _ (.head _)), h.fc_, h.rc_⟩ (hs.rd (.tail _ (.tail _ (.head _))))) rfl rfl rfl E41 (by decide) (fun _ h => h.sub (.refl _)) ?_; clear hs hf hS a; intro w a hs hS hf
        refine one (i := 11) (by kernel_rfl) ?_
        refine oCall hf hs rfl (c_meets b _ _ _ _ ia _ ja _ hv hin1 hin2 (reach_rng hv hin1 l).2.2 (reach_rng hv hin2 l).2.2 _ ⟨hs.rd (.head _), hs.rd (.tail _ (.head _)), h.fc_, h.rc_⟩) rfl rfl rfl E40 (by decide) (fun _ h => h.sub (.refl _)) ?_; clear hs hf hS a; intro w a hs hS hf
        refine gA hf hS (i := 12) rfl (by kernel_rfl) (fun w hs => g_as hf rfl) (by decide) ?_; clear hf a; intro a hf
        refine e_done (by kernel_rfl) ?_
        refine wp_seq ?_
        refine c_reg ?_
        refine gL hf (g_mv hf rfl) (by decide) ?_; clear hf a; intro a hf
        refine gL hf (g_eql hf rfl rfl) (by decide) ?_; clear hf a; intro a hf
        refine gL hf (g_mv hf rfl) (by decide) ?_; clear hf a; intro a hf
        refine ggL hf rfl rfl (gyes_t _) (fun hg => g_mv hf rfl) (by decide) ?_; clear hf a; intro a hf
        refine ggL hf rfl rfl (gyes_t _) (fun hg => g_not hf (ev_gv rfl hg)) (by decide) ?_; clear hf a; intro a hf
        refine gL hf (g_and hf rfl rfl) (by decide) ?_; clear hf a; intro a hf
        refine gL hf (g_mv hf rfl) (by decide) ?_; clear hf a; intro a hf
        refine ggL hf rfl rfl (gyes_f _) (fun hg => g_mv hf rfl) (by decide) ?_; clear hf a; intro a hf
        refine ggL hf rfl rfl (gyes_f _) (fun hg => g_eql hf (ev_gv rfl hg) rfl) (by decide) ?_; clear hf a; intro a hf
        refine ggL hf rfl rfl (gyes_f _) (fun hg => g_mv hf (ev_gv rfl hg)) (by decide) ?_; clear hf a; intro a hf
        refine ggL hf rfl rfl (gyes_gt _ _) (fun hg => g_mv hf rfl) (by decide) ?_; clear hf a; intro a hf
        refine ggL hf rfl rfl (gyes_f _) (fun hg => g_and hf (ev_gv rfl hg) (ev_gvand rfl hg)) (by decide) ?_; clear hf a; intro a hf
        refine gL hf (g_or hf rfl rfl) (by decide) ?_; clear hf a; intro a hf
        refine e_nil ?_
        refine c_cond hf rfl (fun hc3 => ?_) (fun hc3 => ?_)
        · skip
          have h8 := met_true (r := reachZ b ia.toNat l) (s := reachZ b ja.toNat l) hv hin1 hin2 hne ⟨(reach_rng hv hin1 l).1, (reach_rng hv hin1 l).2.1⟩ ⟨(reach_rng hv hin2 l).1, (reach_rng hv hin2 l).2.1⟩; rw [hc3] at h8; cases h8
        · skip
          refine c_skip (q_thenN ?_)
          refine c_reg ?_
          refine gL hf (g_mv hf rfl) (by decide) ?_; clear hf a; intro a hf
          refine gL hf (g_eql hf rfl rfl) (by decide) ?_; clear hf a; intro a hf
          refine gL hf (g_ldW hf hs T25 rfl (k := 3) rfl rfl) (by decide) ?_; clear hf a; intro a hf
          refine gL hf (g_mv hf rfl) (by decide) ?_; clear hf a; intro a hf
          refine gL hf (g_fa (off' := 0) hf F47_0 rfl rfl) (by decide) ?_; clear hf a; intro a hf
          refine gL hf (g_ld hf hs T3 rfl (k := 1) rfl rfl) (by decide) ?_; clear hf a; intro a hf
          refine gL hf (g_mv hf rfl) (by decide) ?_; clear hf a; intro a hf
          refine gL hf (g_fa (off' := 0) hf F47_0 rfl rfl) (by decide) ?_; clear hf a; intro a hf
          refine gL hf (g_ld hf hs T3 rfl (k := 0) rfl rfl) (by decide) ?_; clear hf a; intro a hf
          refine callL hf hs (c_meets b _ _ _ _ ia _ ja _ hv hin1 hin2 ⟨by omega, by omega⟩ ⟨by omega, by omega⟩ _ ⟨hs.rd (.head _), hs.rd (.tail _ (.head _)), h.fc_, h.rc_⟩) rfl rfl rfl E40 (by decide) ?_; clear hs hf a; intro w a hs hf
          refine gL hf (g_eqlB hf B4 rfl rfl) (by decide) ?_; clear hf a; intro a hf
          refine gL hf (g_mv hf rfl) (by decide) ?_; clear hf a; intro a hf
          refine ggL hf rfl rfl (gyes_t _) (fun hg => g_mv hf rfl) (by decide) ?_; clear hf a; intro a hf
          refine ggL hf rfl rfl (gyes_t _) (fun hg => g_gtr hf (ev_gv rfl hg) rfl) (by decide) ?_; clear hf a; intro a hf
          refine ggL hf rfl rfl (gyes_t _) (fun hg => g_ldW hf hs T25 rfl (k := 3) rfl rfl) (by decide) ?_; clear hf a; intro a hf
          refine ggL hf rfl rfl (gyes_t _) (fun hg => g_mv hf rfl) (by decide) ?_; clear hf a; intro a hf
          refine ggL hf rfl rfl (gyes_t _) (fun hg => g_fa (off' := 1) hf F47_1 rfl rfl) (by decide) ?_; clear hf a; intro a hf
          refine ggL hf rfl rfl (gyes_t _) (fun hg => g_ld hf hs T3 (ev_gv rfl hg) (k := 1) rfl rfl) (by decide) ?_; clear hf a; intro a hf
          refine ggL hf rfl rfl (gyes_t _) (fun hg => g_mv hf rfl) (by decide) ?_; clear hf a; intro a hf
          refine ggL hf rfl rfl (gyes_t _) (fun hg => g_fa (off' := 1) hf F47_1 rfl rfl) (by decide) ?_; clear hf a; intro a hf
          refine ggL hf rfl rfl (gyes_t _) (fun hg => g_ld hf hs T3 (ev_gv rfl hg) (k := 0) rfl rfl) (by decide) ?_; clear hf a; intro a hf
          refine callG hf hs rfl rfl (gyes_t _) (fun hg => ⟨_, _, _, _, c_meets b _ _ _ _ ia _ ja _ hv hin1 hin2 ⟨by omega, by omega⟩ ⟨by omega, by omega⟩ _ ⟨hs.rd (.head _), hs.rd (.tail _ (.head _)), h.fc_, h.rc_⟩, rfl, evs_cons (ev_gv rfl hg) (evs_cons (ev_gv rfl hg) (evs_cons (ev_gv rfl hg) (evs_cons (ev_gv rfl hg) (evs_cons (ev_gv rfl hg) evs_nil)))), rfl⟩) E40 (by decide) ?_; clear hs hf a; intro w a hs hf
          refine ggL hf rfl rfl (gyes_t _) (fun hg => g_eqlB hf B4 (ev_gv rfl hg) (ev_gv rfl hg)) (by decide) ?_; clear hf a; intro a hf
          refine gL hf (g_and hf rfl rfl) (by decide) ?_; clear hf a; intro a hf
          refine gL hf (g_mv hf rfl) (by decide) ?_; clear hf a; intro a hf
          refine callG hf hs rfl rfl (gyes_t _) (fun hg => ⟨_, _, _, _, c_folded ge gz _ (hs.rd (.tail _ (.tail _ (.tail _ (.head _))))), rfl, evs_nil, rfl⟩) E21 (by decide) ?_; clear hs hf a; intro w a hs hf
          refine gL hf (g_and hf rfl rfl) (by decide) ?_; clear hf a; intro a hf
          refine gL hf (g_as hf rfl) (by decide) ?_; clear hf a; intro a hf
          refine e_nil ?_
          refine c_ret ?_
          refine e_ret1 hf rfl rfl ?_
          have e1 := met_low hv hin1 hin2 hne; have e2 := met_high hv hin1 hin2 hne
          simp only [flapA] at e1 e2
          refine ⟨?_, hs.below⟩
          rw [e1, e2]; simp
      · skip
        refine oV hf rfl (v_alloc hs T47 rfl) (by decide) (fun _ _ ⟨_, _, h⟩ => h.sub (.cons _ (.refl _))) ?_; clear hs hf hS a; rintro _ w ⟨b3, rfl, hs⟩ hS a hf
        refine one (i := 12) (by kernel_rfl) ?_
        refine oV hf rfl (v_alloc hs T47 rfl) (by decide) (fun _ _ ⟨_, _, h⟩ => h.sub (.cons _ (.cons _ (.refl _)))) ?_; clear hs hf hS a; rintro _ w ⟨b4, rfl, hs⟩ hS a hf
        refine one (i := 14) (by kernel_rfl) ?_
        refine oU rfl (u_stW hf hs T47 rfl rfl rfl (k := 0) rfl rfl rfl) (fun _ h => h.sub (.cons _ (.cons _ (.refl _)))) ?_; clear hs hS; intro w hs hS; dsimp only [List.set] at hs
        refine one (i := 15) (by kernel_rfl) ?_
        refine oU rfl (u_stW hf hs T47 rfl rfl rfl (k := 1) rfl rfl rfl) (fun _ h => h.sub (.cons _ (.cons _ (.refl _)))) ?_; clear hs hS; intro w hs hS; dsimp only [List.set] at hs
        refine e_done (by kernel_rfl) ?_
        refine c_draw _ 13 Mx rfl hs (fun _ h => h) ?_; intro w hs hS
        refine gA hf hS (i := 0) rfl (by kernel_rfl) (fun w hs => g_ldW hf hs T25 rfl (k := 3) rfl rfl) (by decide) ?_; clear hf a; intro a hf
        refine gA hf hS (i := 1) rfl (by kernel_rfl) (fun w hs => g_mv hf rfl) (by decide) ?_; clear hf a; intro a hf
        refine gA hf hS (i := 2) rfl (by kernel_rfl) (fun w hs => g_ldW hf hs T25 rfl (k := 3) rfl rfl) (by decide) ?_; clear hf a; intro a hf
        refine gA hf hS (i := 3) rfl (by kernel_rfl) (fun w hs => g_mv hf rfl) (by decide) ?_; clear hf a; intro a hf
        refine gA hf hS (i := 4) rfl (by kernel_rfl) (fun w hs => g_mv hf rfl) (by decide) ?_; clear hf a; intro a hf
        refine gA hf hS (i := 6) rfl (by kernel_rfl) (fun w hs => g_mv hf rfl) (by decide) ?_; clear hf a; intro a hf
        refine gA hf hS (i := 7) rfl (by kernel_rfl) (fun w hs => g_ldW hf hs T25 rfl (k := 3) rfl rfl) (by decide) ?_; clear hf a; intro a hf
        refine gA hf hS (i := 8) rfl (by kernel_rfl) (fun w hs => g_mv hf rfl) (by decide) ?_; clear hf a; intro a hf
        refine gA hf hS (i := 9) rfl (by kernel_rfl) (fun w hs => g_mv hf rfl) (by decide) ?_; clear hf a; intro a hf
        refine one (i := 5) (by kernel_rfl) ?_
        refine oCall hf hs rfl (c_reach b _ _ _ _ _ _ l ia hv hin1 _ ⟨hs.rd (.head _), hs.rd (.tail _ (.head _)), h.fc_, h.rc_⟩ (hs.rd (.tail _ (.tail _ (.head _))))) rfl rfl rfl E41 (by decide) (fun _ h => h.sub (.refl _)) ?_; clear hs hf hS a; intro w a hs hS hf
        refine one (i := 10) (by kernel_rfl) ?_
        refine oCall hf hs rfl (c_reach b _ _ _ _ _ _ l ja hv hin2 _ ⟨hs.rd (.head _), hs.rd (.tail _ (.head _)), h.fc_, h.rc_⟩ (hs.rd (.tail _ (.tail _ (.head _))))) rfl rfl rfl E41 (by decide) (fun _ h => h.sub (.refl _)) ?_; clear hs hf hS a; intro w a hs hS hf
        refine one (i := 11) (by kernel_rfl) ?_
        refine oCall hf hs rfl (c_meets b _ _ _ _ ia _ ja _ hv hin1 hin2 (reach_rng hv hin1 l).2.2 (reach_rng hv hin2 l).2.2 _ ⟨hs.rd (.head _), hs.rd (.tail _ (.head _)), h.fc_, h.rc_⟩) rfl rfl rfl E40 (by decide) (fun _ h => h.sub (.refl _)) ?_; clear hs hf hS a; intro w a hs hS hf
        refine gA hf hS (i := 12) rfl (by kernel_rfl) (fun w hs => g_as hf rfl) (by decide) ?_; clear hf a; intro a hf
        refine e_done (by kernel_rfl) ?_
        refine wp_seq ?_
        refine c_reg ?_
        refine gL hf (g_mv hf rfl) (by decide) ?_; clear hf a; intro a hf
        refine gL hf (g_eql hf rfl rfl) (by decide) ?_; clear hf a; intro a hf
        refine gL hf (g_mv hf rfl) (by decide) ?_; clear hf a; intro a hf
        refine ggL hf rfl rfl (gyes_t _) (fun hg => g_mv hf rfl) (by decide) ?_; clear hf a; intro a hf
        refine ggL hf rfl rfl (gyes_t _) (fun hg => g_not hf (ev_gv rfl hg)) (by decide) ?_; clear hf a; intro a hf
        refine gL hf (g_and hf rfl rfl) (by decide) ?_; clear hf a; intro a hf
        refine gL hf (g_mv hf rfl) (by decide) ?_; clear hf a; intro a hf
        refine ggL hf rfl rfl (gyes_f _) (fun hg => g_mv hf rfl) (by decide) ?_; clear hf a; intro a hf
        refine ggL hf rfl rfl (gyes_f _) (fun hg => g_eql hf (ev_gv rfl hg) rfl) (by decide) ?_; clear hf a; intro a hf
        refine ggL hf rfl rfl (gyes_f _) (fun hg => g_mv hf (ev_gv rfl hg)) (by decide) ?_; clear hf a; intro a hf
        refine ggL hf rfl rfl (gyes_gt _ _) (fun hg => g_mv hf rfl) (by decide) ?_; clear hf a; intro a hf
        refine ggL hf rfl rfl (gyes_f _) (fun hg => g_and hf (ev_gv rfl hg) (ev_gvand rfl hg)) (by decide) ?_; clear hf a; intro a hf
        refine gL hf (g_or hf rfl rfl) (by decide) ?_; clear hf a; intro a hf
        refine e_nil ?_
        refine c_cond hf rfl (fun hc3 => ?_) (fun hc3 => ?_)
        · skip
          have h8 := met_true (r := reachZ b ia.toNat l) (s := reachZ b ja.toNat l) hv hin1 hin2 hne ⟨(reach_rng hv hin1 l).1, (reach_rng hv hin1 l).2.1⟩ ⟨(reach_rng hv hin2 l).1, (reach_rng hv hin2 l).2.1⟩; rw [hc3] at h8; cases h8
        · skip
          refine c_skip (q_thenN ?_)
          refine c_reg ?_
          refine gL hf (g_mv hf rfl) (by decide) ?_; clear hf a; intro a hf
          refine gL hf (g_eql hf rfl rfl) (by decide) ?_; clear hf a; intro a hf
          refine gL hf (g_ldW hf hs T25 rfl (k := 3) rfl rfl) (by decide) ?_; clear hf a; intro a hf
          refine gL hf (g_mv hf rfl) (by decide) ?_; clear hf a; intro a hf
          refine gL hf (g_fa (off' := 0) hf F47_0 rfl rfl) (by decide) ?_; clear hf a; intro a hf
          refine gL hf (g_ld hf hs T3 rfl (k := 0) rfl rfl) (by decide) ?_; clear hf a; intro a hf
          refine gL hf (g_mv hf rfl) (by decide) ?_; clear hf a; intro a hf
          refine gL hf (g_fa (off' := 0) hf F47_0 rfl rfl) (by decide) ?_; clear hf a; intro a hf
          refine gL hf (g_ld hf hs T3 rfl (k := 1) rfl rfl) (by decide) ?_; clear hf a; intro a hf
          refine callL hf hs (c_meets b _ _ _ _ ia _ ja _ hv hin1 hin2 ⟨by omega, by omega⟩ ⟨by omega, by omega⟩ _ ⟨hs.rd (.head _), hs.rd (.tail _ (.head _)), h.fc_, h.rc_⟩) rfl rfl rfl E40 (by decide) ?_; clear hs hf a; intro w a hs hf
          refine gL hf (g_eqlB hf B4 rfl rfl) (by decide) ?_; clear hf a; intro a hf
          refine gL hf (g_mv hf rfl) (by decide) ?_; clear hf a; intro a hf
          refine ggL hf rfl rfl (gyes_t _) (fun hg => g_mv hf rfl) (by decide) ?_; clear hf a; intro a hf
          refine ggL hf rfl rfl (gyes_t _) (fun hg => g_gtr hf (ev_gv rfl hg) rfl) (by decide) ?_; clear hf a; intro a hf
          refine ggL hf rfl rfl (gyes_t _) (fun hg => g_ldW hf hs T25 rfl (k := 3) rfl rfl) (by decide) ?_; clear hf a; intro a hf
          refine ggL hf rfl rfl (gyes_t _) (fun hg => g_mv hf rfl) (by decide) ?_; clear hf a; intro a hf
          refine ggL hf rfl rfl (gyes_t _) (fun hg => g_fa (off' := 1) hf F47_1 rfl rfl) (by decide) ?_; clear hf a; intro a hf
          refine ggL hf rfl rfl (gyes_t _) (fun hg => g_ld hf hs T3 (ev_gv rfl hg) (k := 0) rfl rfl) (by decide) ?_; clear hf a; intro a hf
          refine ggL hf rfl rfl (gyes_t _) (fun hg => g_mv hf rfl) (by decide) ?_; clear hf a; intro a hf
          refine ggL hf rfl rfl (gyes_t _) (fun hg => g_fa (off' := 1) hf F47_1 rfl rfl) (by decide) ?_; clear hf a; intro a hf
          refine ggL hf rfl rfl (gyes_t _) (fun hg => g_ld hf hs T3 (ev_gv rfl hg) (k := 1) rfl rfl) (by decide) ?_; clear hf a; intro a hf
          refine callG hf hs rfl rfl (gyes_t _) (fun hg => ⟨_, _, _, _, c_meets b _ _ _ _ ia _ ja _ hv hin1 hin2 ⟨by omega, by omega⟩ ⟨by omega, by omega⟩ _ ⟨hs.rd (.head _), hs.rd (.tail _ (.head _)), h.fc_, h.rc_⟩, rfl, evs_cons (ev_gv rfl hg) (evs_cons (ev_gv rfl hg) (evs_cons (ev_gv rfl hg) (evs_cons (ev_gv rfl hg) (evs_cons (ev_gv rfl hg) evs_nil)))), rfl⟩) E40 (by decide) ?_; clear hs hf a; intro w a hs hf
          refine ggL hf rfl rfl (gyes_t _) (fun hg => g_eqlB hf B4 (ev_gv rfl hg) (ev_gv rfl hg)) (by decide) ?_; clear hf a; intro a hf
          refine gL hf (g_and hf rfl rfl) (by decide) ?_; clear hf a; intro a hf
          refine gL hf (g_mv hf rfl) (by decide) ?_; clear hf a; intro a hf
          refine callG hf hs rfl rfl (gyes_t _) (fun hg => ⟨_, _, _, _, c_folded ge gz _ (hs.rd (.tail _ (.tail _ (.tail _ (.head _))))), rfl, evs_nil, rfl⟩) E21 (by decide) ?_; clear hs hf a; intro w a hs hf
          refine gL hf (g_and hf rfl rfl) (by decide) ?_; clear hf a; intro a hf
          refine gL hf (g_as hf rfl) (by decide) ?_; clear hf a; intro a hf
          refine e_nil ?_
          refine c_ret ?_
          refine e_ret1 hf rfl rfl ?_
          have e1 := met_low hv hin1 hin2 hne; have e2 := met_high hv hin1 hin2 hne
          simp only [flapA] at e1 e2
          refine ⟨?_, hs.below⟩
          rw [e1, e2]; simp

end Go.Proofs.YtpjhffockmnjbaaDoor
set_option linter.unusedVariables false
namespace Go.Proofs.YtpjhffockmnjbaaDoor
open Go.ChangeShapes Go.WideShapes Go.ChangeAt Go.RowKit
set_option maxRecDepth 100000 in
theorem lifted7 (os : Os) (started : os.Started) (H : Type) (enc : TypeId × Value → H) :
    ReturnsInHanded {} Tryd.checked os 7 .any (fun w args => (Rows.foldMetSpec.pre enc Tryd.prog Tryd.f7 [] false w args ∧ laidMetH Tryd.prog laid1 w) ∧ sizedMet enc Tryd.prog Tryd.f7 (OpenSpec.ofChange Rows.foldMetSpec) false w args)
      (Rows.foldMetSpec.post enc Tryd.prog Tryd.f7 false true false false) := by
  refine returnsInHanded_of_change_and (C := Tryd.checked) (X := fun w _ => laidMetH Tryd.prog laid1 w) (fun _ _ _ hh h => h.of_heap hh) pOwn started (by kernel_rfl) Tryd.func7
    (ChangeSpec.witness_shaped (enc := enc) (C := Tryd.checked) (os := os) (X := fun w _ => laidMetH Tryd.prog laid1 w) false (World.doorLaid Tryd.prog 600 os) #[.agg #[.int .i64 0, .int .i64 0, .slice none 0 0, .slice none 0 0], .agg #[.int .i64 0, .int .i64 0], .slice none 0 0] 8 rfl (World.shaped_of_RefB (by kernel_rfl) (by kernel_rfl)) (by kernel_rfl) (by kernel_rfl) (by kernel_rfl) (door_met os _)) ?_
  intro W base args ds gs before hval0 hW _ _ hL _
  have hval : ∀ (j : Nat) t v, Tryd.f7.params[j]? = some t → args[j]? = some v → Value.okWide Tryd.prog W .any base t v := hval0
  have hW' := hW
  obtain ⟨p, q, hA0, hV, rfl, hfz, hnd⟩ := hW
  have hA : DataW.TrodAll enc Tryd.prog W 0 (fun _ => true) true Tryd.f7.params.toList args.toList ds p := hA0
  have hA9 := hA
  rw [Tryd.params7] at hA hval
  obtain ⟨v0, v1, v2, d0, d1, d2, p0, p1, p2, rfl, rfl, rfl, h0, h1, h2⟩ := trodAll_three hA
  obtain ⟨rfl, rfl⟩ := trodVars_none hV
  obtain ⟨b, fA, fc, rA, rc, rfl, hsh⟩ := open_sheet (hval 0 25 v0 rfl rfl) h0
  obtain ⟨m, n, rfl⟩ := open_pair (hval 1 26 v1 rfl rfl) h1
  obtain ⟨A1, c1, l1, rfl, hr1⟩ := open_list (hval 2 27 v2 rfl rfl) h2
  obtain ⟨ge, gz, hG⟩ := of_laid hL
  refine (c_FoldMet b fA fc rA rc A1 c1 l1 ge gz m n W hsh hr1 hG).mono fun e W' ⟨he, hb⟩ => ?_
  subst he
  exact ⟨_, rfl, law_post rfl rfl rfl (by kernel_rfl) hW' rfl hA9 hb⟩
theorem row7 : Rows.FoldMetSaid :=
  OpenClaim.holds_of_wide 7 Tryd.f7 rfl rfl rfl rfl rfl rfl rfl ⟨rfl, rfl, rfl, rfl, rfl⟩ rfl rfl rfl rfl rfl (by kernel_rfl) Tryd.func7 (by kernel_rfl)
    (of_decide_eq_true (by kernel_rfl)) (by unfold Func.isWrapper; first | (rw [if_pos (by decide +kernel)]; kernel_rfl) | (rw [if_neg (by decide +kernel)]; exact ⟨rfl, rfl⟩))
    (fun os started H enc _ => lifted7 os started H enc)
/-- The card. -/
theorem foldMet_holds : Rows.FoldMetCardSaid :=
  Claim7.holds_tied_plain_at .later [] [.funcs] true (true, "b03cd1d6108e785492ab07a8ff83fd4a4932a4b1389f4c874b76231f1a716599") false
    row7 (fun _ h => by cases h) (by kernel_rfl) (fun _ h => by cases h) foldMet_row_tie rfl ⟨rfl, rfl⟩ (by kernel_rfl) rfl
    (fun f fn hf hfn => by
      obtain rfl : f = 7 := Option.some.inj ((show Tryd.prog.funcNamed "lucifer/luciferlaw04.FoldMet" = some 7 by kernel_rfl).symm.trans hf) |>.symm
      obtain rfl : fn = Tryd.f7 := (Option.some.inj (Tryd.func7.symm.trans hfn)).symm
      exact ⟨by kernel_rfl, fun j t ht => by
        rw [Tryd.params7] at ht
        have hm : t ∈ [25, 26, 27] := by simpa using Array.mem_of_getElem? ht
        have hall : ([25, 26, 27].all fun u => !Tryd.prog.wantsStandIn u) = true := by kernel_rfl
        exact (show Tryd.prog.wantsStandIn t = false by simpa using List.all_eq_true.1 hall t hm)⟩)
    (by kernel_rfl)
#print axioms foldMet_holds
end Go.Proofs.YtpjhffockmnjbaaDoor
