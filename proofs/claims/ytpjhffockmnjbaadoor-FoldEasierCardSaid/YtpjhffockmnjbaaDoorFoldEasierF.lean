/- Part 6 of the proof of FoldEasier: laws of the engine, plain facts and contracts of the functions that the law reaches. Conditions: none beyond those of each theorem. -/
import Derived.Test.YtpjhffockmnjbaaDoorFoldEasierE
set_option linter.unusedVariables false
set_option linter.unusedSimpArgs false
namespace Go.Proofs.YtpjhffockmnjbaaDoor
open Go.RowKit
set_option maxHeartbeats 8000000 in
theorem c_FoldEasier (b : Sheet) (fA : Option Addr) (fc : Nat) (rA : Option Addr) (rc : Nat) (oA : Option Addr) (oc : Nat) (l : List Int) (ge : TypeId) (gz : Nat × Nat) (n0 n1 : Int) (w0 : World) (h : ShIn b fA fc rA rc w0) (ho : Rd encI 1 oA l.length l w0) (hG : BlkIs 0 sidesA ge gz w0) :
    Calls Tryd.prog 12 #[.agg #[.int .i64 b.wide, .int .i64 b.high, .slice fA b.flaps.length fc, .slice rA b.rules.length rc], .agg #[.int .i64 n0, .int .i64 n1], .slice oA l.length oc] w0 (Ret w0 (.bool true)) := by
  refine c_enter (n := 285) Tryd.func12 rfl rfl (Nat.le_of_ble_eq_true rfl) ?_; intro a hf; simp only [zipR] at hf
  have hs := St.start w0 [Rd encF 5 fA b.flaps.length b.flaps, Rd encR 2 rA b.rules.length b.rules, Rd encI 1 oA l.length l, BlkIs 0 sidesA ge gz] (stab_app (stab_app h.stab ho.st1) hG.st1)
  have hfm := h.F.2.1; have hrm := h.R.2.1; have hlm := ho.2.1
  refine c_reg ?_
  refine vL hf (v_boxA hf hs rfl) (by decide) ?_; clear hs hf a; rintro _ w ⟨b1, rfl, hs⟩ a hf
  refine vL hf (v_boxA hf hs rfl) (by decide) ?_; clear hs hf a; rintro _ w ⟨b2, rfl, hs⟩ a hf
  refine gL hf (g_as hf rfl) (by decide) ?_; clear hf a; intro a hf
  refine e_nil ?_
  refine wp_seq ?_
  refine c_reg ?_
  refine gL hf (g_ldW hf hs T25 rfl (k := 1) rfl rfl) (by decide) ?_; clear hf a; intro a hf
  refine callL hf hs (c_sound b _ _ _ _ _ ⟨hs.rd (.head _), hs.rd (.tail _ (.head _)), h.fc_, h.rc_⟩) rfl rfl rfl E35 (by decide) ?_; clear hs hf a; intro w a hs hf
  refine gL hf (g_not hf rfl) (by decide) ?_; clear hf a; intro a hf
  refine e_nil ?_
  refine c_cond hf rfl (fun hc1 => ?_) (fun hc1 => ?_)
  · skip
    refine c_reg ?_
    refine callL hf hs (c_folded ge gz _ (hs.rd (.tail _ (.tail _ (.tail _ (.head _)))))) rfl rfl rfl E21 (by decide) ?_; clear hs hf a; intro w a hs hf
    refine gL hf (g_as hf rfl) (by decide) ?_; clear hf a; intro a hf
    refine e_nil ?_
    refine c_ret (q_thenR ?_)
    refine e_ret1 hf rfl rfl ?_
    exact ⟨rfl, hs.below⟩
  · skip
    have hck : checkB b = true := by cases h9 : checkB b with
            | true => rfl
            | false => rw [h9] at hc1; cases hc1
    have hv := valid_of hck
    have hmany := hv.many
    have hrl := hv.rules
    refine c_skip (q_thenN ?_)
    refine c_reg ?_
    refine gL hf (g_ixA hf AR26 rfl rfl (by omega)) (by decide) ?_; clear hf a; intro a hf
    refine gL hf (g_ld hf hs T3 rfl (k := 0) rfl rfl) (by decide) ?_; clear hf a; intro a hf
    refine gL hf (g_fa (off' := 2) hf F25_2 rfl rfl) (by decide) ?_; clear hf a; intro a hf
    refine gL hf (g_ld hf hs T22 rfl (k := 1) rfl rfl) (by decide) ?_; clear hf a; intro a hf
    refine gL hf (g_len hf SL22 rfl) (by decide) ?_; clear hf a; intro a hf
    refine callL hf hs (c_Spin _ _ (by omega) _) rfl rfl rfl E38 (by decide) ?_; clear hs hf a; intro w a hs hf
    refine gL hf (g_as hf rfl) (by decide) ?_; clear hf a; intro a hf
    refine e_nil ?_
    obtain ⟨ki, hki⟩ : ∃ x, x = spin n0 (b.flaps.length : Nat) := ⟨_, rfl⟩
    rw [← hki] at hf
    have h1 := spin_rng n0 (m := (b.flaps.length : Nat)) (by omega)
    rw [← hki] at h1
    have hin : inN b ki := h1
    have hff := flap_far hv hin
    simp only [flapA] at hff
    have hkz : 0 ≤ ((flapA b ki).rh - (flapA b ki).rl) ∧ ((flapA b ki).rh - (flapA b ki).rl) ≤ ((flapA b ki).rh - (flapA b ki).rl) := ⟨by simp only [flapA]; omega, Int.le_refl _⟩
    refine c_reg ?_
    refine gL hf (g_fa (off' := 2) hf F25_2 rfl rfl) (by decide) ?_; clear hf a; intro a hf
    refine gL hf (g_ld hf hs T22 rfl (k := 1) rfl rfl) (by decide) ?_; clear hf a; intro a hf
    refine gL hf (g_mv hf rfl) (by decide) ?_; clear hf a; intro a hf
    (first | (refine gL hf (g_ixE hf hs (.head _) SL22 rfl rfl (by omega)) (by decide) ?_) | (refine gL hf (g_ixD hf hs (.head _) SL22 rfl rfl (by omega)) (by decide) ?_)); clear hf a; intro a hf
    refine gL hf (g_faD (j' := 1) hf hs (.head _) F49_1 rfl (by omega) rfl) (by decide) ?_; clear hf a; intro a hf
    refine gL hf (g_ldEP hf hs (.head _) T47 rfl rfl (by omega)) (by decide) ?_; clear hf a; intro a hf
    refine vL hf (v_alloc hs T47 rfl) (by decide) ?_; clear hs hf a; rintro _ w ⟨b3, rfl, hs⟩ a hf
    refine uL (u_stW hf hs T47 rfl rfl rfl (k := 0) rfl rfl rfl) ?_; clear hs; intro w hs; dsimp only [List.set] at hs
    refine e_nil ?_
    refine c_draw _ 6 Mx rfl hs (fun _ h => h) ?_; intro w hs hS
    refine gA hf hS (i := 0) rfl (by kernel_rfl) (fun w hs => g_ldW hf hs T25 rfl (k := 2) rfl rfl) (by decide) ?_; clear hf a; intro a hf
    refine gA hf hS (i := 1) rfl (by kernel_rfl) (fun w hs => g_ldW hf hs T25 rfl (k := 2) rfl rfl) (by decide) ?_; clear hf a; intro a hf
    refine two (i := 2) (j := 3) (by kernel_rfl) ?_ ?_
    · skip
      refine oV hf rfl (v_alloc hs T25 rfl) (by decide) (fun _ _ ⟨_, _, h⟩ => h.sub (.cons _ (.refl _))) ?_; clear hs hf hS a; rintro _ w ⟨bx, rfl, hs⟩ hS a hf
      refine one (i := 3) (by kernel_rfl) ?_
      refine oV hf rfl (v_alloc hs T25 rfl) (by decide) (fun _ _ ⟨_, _, h⟩ => h.sub (.cons _ (.cons _ (.refl _)))) ?_; clear hs hf hS a; rintro _ w ⟨bw, rfl, hs⟩ hS a hf
      refine one (i := 4) (by kernel_rfl) ?_
      refine oU rfl (u_stW hf hs T25 rfl rfl rfl (k := 1) rfl rfl rfl) (fun _ h => h.sub (.cons _ (.cons _ (.refl _)))) ?_; clear hs hS; intro w hs hS; dsimp only [List.set] at hs
      refine one (i := 5) (by kernel_rfl) ?_
      refine oU rfl (u_stW hf hs T25 rfl rfl rfl (k := 0) rfl rfl rfl) (fun _ h => h.sub (.cons _ (.cons _ (.refl _)))) ?_; clear hs hS; intro w hs hS; dsimp only [List.set] at hs
      refine e_done (by kernel_rfl) ?_
      refine c_reg ?_
      refine vL hf (v_lits (len := 0) hf hs SL22 T49 .nil rfl rfl rfl rfl (by decide) rfl) (by decide) ?_; clear hs hf a; rintro _ w ⟨b4, rfl, hs⟩ a hf
      refine gL hf (g_fa (off' := 2) hf F25_2 rfl rfl) (by decide) ?_; clear hf a; intro a hf
      refine gL hf (g_ld hf hs T22 rfl (k := 5) rfl rfl) (by decide) ?_; clear hf a; intro a hf
      refine vL hf (v_accN (e := 49) (o := some (b4, #[])) (l := []) (l' := b.flaps) (len := 0) hf 0 hs rfl ⟨0, rfl, Nat.le_refl _, by omega, rfl⟩ AP22 (enc := encF) (fun _ => rfl) (by decide) (by intro x v hv9; simp only [encF, List.mem_cons, List.not_mem_nil, or_false] at hv9; rcases hv9 with rfl | rfl | rfl | rfl | rfl <;> rfl) rfl rfl rfl (hs.rd (.head _)) (by omega) (by decide)) (by decide) ?_; clear hs hf a; rintro _ w ⟨ox, rfl, hox, hs⟩ a hf; dsimp only [List.take, List.nil_append] at hs
      rw [List.nil_append] at hox
      obtain ⟨bcx, csx, rfl⟩ : ∃ bc cs, ox = some (bc, cs) := acc_some hox (by omega)
      simp only [Nat.zero_add] at hf; dsimp only [accV] at hf; dsimp only [accH, List.cons_append, List.nil_append] at hs
      have hcapx := hox.cap (sz := 5) (by decide)
      refine gL hf (g_fa (off' := 2) hf F25_2 rfl rfl) (by decide) ?_; clear hf a; intro a hf
      refine uL (u_st hf hs T22 rfl rfl rfl (k := 2) rfl (Nat.le_of_ble_eq_true rfl)) ?_; clear hs; intro w hs; dsimp only [List.set] at hs
      refine e_nil ?_
      refine c_draw _ 11 Mx rfl hs (fun _ h => h.sub (.cons _ (.refl _))) ?_; intro w hs hS
      refine gA hf hS (i := 0) rfl (by kernel_rfl) (fun w hs => g_fa (off' := 2) hf F25_2 rfl rfl) (by decide) ?_; clear hf a; intro a hf
      refine gA hf hS (i := 1) rfl (by kernel_rfl) (fun w hs => g_ld hf hs T22 rfl (k := 1) rfl rfl) (by decide) ?_; clear hf a; intro a hf
      refine gA hf hS (i := 2) rfl (by kernel_rfl) (fun w hs => g_mv hf rfl) (by decide) ?_; clear hf a; intro a hf
      refine gA hf hS (i := 3) rfl (by kernel_rfl) (fun w hs => g_ldW hf hs T47 rfl (k := 2) rfl rfl) (by decide) ?_; clear hf a; intro a hf
      refine gA hf hS (i := 4) rfl (by kernel_rfl) (fun w hs => g_ixA hf AR26 rfl rfl (by omega)) (by decide) ?_; clear hf a; intro a hf
      refine gA hf hS (i := 5) rfl (by kernel_rfl) (fun w hs => g_ld hf hs T3 rfl (k := 3) rfl rfl) (by decide) ?_; clear hf a; intro a hf
      refine one (i := 6) (by kernel_rfl) ?_
      refine oCall hf hs rfl (c_Drawn _ _ _ (by omega) _) rfl rfl rfl E47 (by decide) (fun _ h => h.sub (.cons _ (.refl _))) ?_; clear hs hf hS a; intro w a hs hS hf
      obtain ⟨dz, hdz⟩ : ∃ x, x = drawnZ (b.flaps.getD ki.toNat default).rl (b.flaps.getD ki.toNat default).rh n1 := ⟨_, rfl⟩
      rw [← hdz] at hf
      have hdr := drawnZ_range (lo := (b.flaps.getD ki.toNat default).rl) (hi := (b.flaps.getD ki.toNat default).rh) n1 (by omega)
      rw [← hdz] at hdr
      have hkx : 0 ≤ ((flapA b ki).rh - dz) ∧ ((flapA b ki).rh - dz) ≤ ((flapA b ki).rh - (flapA b ki).rl) := ⟨by simp only [flapA]; omega, by simp only [flapA]; omega⟩
      have hvx := valid_short hv hin hkx
      have hckx := valid_check hvx
      have hordx : ordB (shortB b ki ((flapA b ki).rh - dz)) (drawnL b l) = true := (ordB_len (short_len _ _ _) _).trans (drawn_ord b l)
      have hLx := less_short hv hin hkx
      refine gA hf hS (i := 7) rfl (by kernel_rfl) (fun w hs => g_ixO hf SL22 rfl rfl (by omega)) (by decide) ?_; clear hf a; intro a hf
      refine gA hf hS (i := 8) rfl (by kernel_rfl) (fun w hs => g_fa hf F49_1 rfl rfl) (by decide) ?_; clear hf a; intro a hf
      refine gA hf hS (i := 9) rfl (by kernel_rfl) (fun w hs => g_fa hf F47_1 rfl rfl) (by decide) ?_; clear hf a; intro a hf
      refine one (i := 10) (by kernel_rfl) ?_
      refine oU rfl (u_st hf hs T3 rfl rfl rfl (k := 0) rfl (acc_short (k := 0) hin hox).2.1) (fun _ h => h.sub (.cons _ (.refl _))) ?_; clear hs hS; intro w hs hS; dsimp only [List.set] at hs
      have hox2 := (acc_short (k := ((flapA b ki).rh - dz)) hin hox).2.2
      rw [show (flapA b ki).rh - ((flapA b ki).rh - dz) = dz by omega] at hox2
      refine e_done (by kernel_rfl) ?_
      refine wp_seq ?_
      refine c_reg ?_
      refine gL hf (g_fa (off' := 3) hf F25_3 rfl rfl) (by decide) ?_; clear hf a; intro a hf
      refine gL hf (g_ld hf hs T23 rfl (k := 5) rfl rfl) (by decide) ?_; clear hf a; intro a hf
      refine gL hf (g_len hf SL23 rfl) (by decide) ?_; clear hf a; intro a hf
      refine gL hf (g_gtr hf rfl rfl) (by decide) ?_; clear hf a; intro a hf
      refine e_nil ?_
      refine c_cond hf rfl (fun hc2 => ?_) (fun hc2 => ?_)
      · skip
        have hrp := of_decide_eq_true hc2
        refine c_reg ?_
        refine gL hf (g_ixA hf AR26 rfl rfl (by omega)) (by decide) ?_; clear hf a; intro a hf
        refine gL hf (g_ld hf hs T3 rfl (k := 4) rfl rfl) (by decide) ?_; clear hf a; intro a hf
        refine gL hf (g_fa (off' := 3) hf F25_3 rfl rfl) (by decide) ?_; clear hf a; intro a hf
        refine gL hf (g_ld hf hs T23 rfl (k := 5) rfl rfl) (by decide) ?_; clear hf a; intro a hf
        refine gL hf (g_len hf SL23 rfl) (by decide) ?_; clear hf a; intro a hf
        refine callL hf hs (c_Spin _ _ (by omega) _) rfl rfl rfl E38 (by decide) ?_; clear hs hf a; intro w a hs hf
        refine gL hf (g_as hf rfl) (by decide) ?_; clear hf a; intro a hf
        refine e_nil ?_
        obtain ⟨ri, hri⟩ : ∃ x, x = spin n1 (b.rules.length : Nat) := ⟨_, rfl⟩
        rw [← hri] at hf
        have h2 := spin_rng n1 (m := (b.rules.length : Nat)) (by omega)
        rw [← hri] at h2
        have hvy := valid_rm hv (i := ri) h2.1
        have hordy : ordB (rmB b ri) (drawnL b l) = true := drawn_ord b l
        have hLy := less_rm (b := b) (i := ri) h2.1
        refine c_draw1 _ 14 Mx rfl hs (fun _ h => h.sub (.cons_cons _ (.cons _ (.refl _)))) ?_; intro w hs hS
        refine gA hf hS (i := 1) rfl (by kernel_rfl) (fun w hs => g_fa (off' := 3) hf F25_3 rfl rfl) (by decide) ?_; clear hf a; intro a hf
        refine gA hf hS (i := 2) rfl (by kernel_rfl) (fun w hs => g_ld hf hs T23 rfl (k := 4) rfl rfl) (by decide) ?_; clear hf a; intro a hf
        refine gA hf hS (i := 3) rfl (by kernel_rfl) (fun w hs => g_mv hf rfl) (by decide) ?_; clear hf a; intro a hf
        refine gA hf hS (i := 4) rfl (by kernel_rfl) (fun w hs => g_slH hf SL23 rfl rfl (by have := h.rc_; omega)) (by decide) ?_; clear hf a; intro a hf
        refine gA hf hS (i := 6) rfl (by kernel_rfl) (fun w hs => g_fa (off' := 3) hf F25_3 rfl rfl) (by decide) ?_; clear hf a; intro a hf
        refine gA hf hS (i := 7) rfl (by kernel_rfl) (fun w hs => g_ld hf hs T23 rfl (k := 4) rfl rfl) (by decide) ?_; clear hf a; intro a hf
        refine gA hf hS (i := 8) rfl (by kernel_rfl) (fun w hs => g_mv hf rfl) (by decide) ?_; clear hf a; intro a hf
        refine gA hf hS (i := 9) rfl (by kernel_rfl) (fun w hs => g_addI hf rfl rfl (by omega)) (by decide) ?_; clear hf a; intro a hf
        refine gA hf hS (i := 10) rfl (by kernel_rfl) (fun w hs => g_slL hf SL23 rfl rfl (by omega)) (by decide) ?_; clear hf a; intro a hf
        refine one (i := 0) (by kernel_rfl) ?_
        refine oV hf rfl (v_lits (len := 0) hf hs SL23 T64 .nil rfl rfl rfl rfl (by decide) rfl) (by decide) (fun _ _ ⟨_, _, h⟩ => h.sub (.cons _ (.cons_cons _ (.cons _ (.refl _))))) ?_; clear hs hf hS a; rintro _ w ⟨b5, rfl, hs⟩ hS a hf
        refine one (i := 5) (by kernel_rfl) ?_
        refine oV hf rfl (v_accN (e := 64) (o := some (b5, #[])) (l := []) (l' := b.rules.take ri.toNat) (len := 0) hf 0 hs rfl ⟨0, rfl, Nat.le_refl _, by omega, rfl⟩ AP23 (enc := encR) (fun _ => rfl) (by decide) (by intro x v hv9; simp only [encR, List.mem_cons, List.not_mem_nil, or_false] at hv9; rcases hv9 with rfl | rfl <;> rfl) rfl rfl rfl ((hs.rd (.tail _ (.head _))).take _ (by omega)) (by omega) (by decide)) (by decide) (fun _ _ ⟨_, _, _, h⟩ => h.sub (List.Sublist.trans (.cons_cons _ (.cons _ (.refl _))) (List.sublist_append_right _ _))) ?_; clear hs hf hS a; rintro _ w ⟨oy1, rfl, hoy1, hs⟩ hS a hf; dsimp only [List.take, List.nil_append] at hs
        refine one (i := 11) (by kernel_rfl) ?_
        refine oV hf rfl (v_accN (e := 64) (o := oy1) (l := [] ++ b.rules.take ri.toNat) (l' := b.rules.drop (ri + 1).toNat) hf 0 hs rfl hoy1 AP23 (enc := encR) (fun _ => rfl) (by decide) (by intro x v hv9; simp only [encR, List.mem_cons, List.not_mem_nil, or_false] at hv9; rcases hv9 with rfl | rfl <;> rfl) (by simp; omega) rfl rfl ((hs.rd (.tail _ (.head _))).drop _ (by omega) h.rc_) (by omega) (by decide)) (by decide) (fun _ _ ⟨_, _, _, h⟩ => h.sub (List.Sublist.trans (.cons_cons _ (.cons _ (.refl _))) (List.sublist_append_right _ _))) ?_; clear hs hf hS a; rintro _ w ⟨oy2, rfl, hoy2, hs⟩ hS a hf; dsimp only [List.take, List.nil_append] at hs
        rw [show 0 + ri.toNat + (b.rules.length - (ri + 1).toNat) = ([] ++ b.rules.take ri.toNat ++ b.rules.drop (ri + 1).toNat).length by simp only [List.length_append, List.length_nil, List.length_take, List.length_drop]; omega] at hf
        obtain ⟨Ay, cy, ey, hly, hs⟩ := hs.freeze (e := 64) (o := oy2) (enc := encR) (sz := 2) 0 rfl hoy2 (fun _ => rfl) (by decide)
        dsimp only [List.take, List.nil_append] at hs; rw [ey] at hf
        refine gA hf hS (i := 12) rfl (by kernel_rfl) (fun w hs => g_fa (off' := 3) hf F25_3 rfl rfl) (by decide) ?_; clear hf a; intro a hf
        refine one (i := 13) (by kernel_rfl) ?_
        refine oU rfl (u_st hf hs T23 rfl rfl rfl (k := 1) rfl (Nat.le_of_ble_eq_true rfl)) (fun _ h => (h.sub (.cons_cons _ (.cons _ (.refl _)))).subD (fun _ h => (.tail _ h))) ?_; clear hs hS; intro w hs hS; dsimp only [List.set] at hs
        refine e_done1 (by kernel_rfl) ?_
        refine q_thenN ?_
        refine c_reg ?_
        refine gL hf (g_ldW hf hs T25 rfl (k := 5) rfl rfl) (by decide) ?_; clear hf a; intro a hf
        refine gL hf (g_mv hf rfl) (by decide) ?_; clear hf a; intro a hf
        refine callX hf hs (c_drawn b _ _ _ _ _ _ l hv _ ⟨hs.rd (.tail _ (.head _)), hs.rd (.tail _ (.tail _ (.head _))), h.fc_, h.rc_⟩ (hs.rd (.tail _ (.tail _ (.tail _ (.head _)))))) rfl rfl rfl E42 (by decide) ?_; intro v w1 a hR hb hs1 hf; obtain ⟨Ad, cd, rfl, hou⟩ := hR; replace hs := hs.fresh hs1 (outFresh hou); clear hs1 hb
        refine gL hf (g_as hf rfl) (by decide) ?_; clear hf a; intro a hf
        refine e_nil ?_
        refine c_reg ?_
        refine gL hf (g_ldW hf hs T25 rfl (k := 5) rfl rfl) (by decide) ?_; clear hf a; intro a hf
        refine gL hf (g_mv hf rfl) (by decide) ?_; clear hf a; intro a hf
        refine callL hf hs (c_Does b _ _ _ _ _ _ (drawnL b l) ge gz hck _ ⟨hs.rd (.tail _ (.tail _ (.head _))), hs.rd (.tail _ (.tail _ (.tail _ (.head _)))), h.fc_, h.rc_⟩ (hs.rd (.head _)) (hs.rd (.tail _ (.tail _ (.tail _ (.tail _ (.tail _ (.head _)))))))) rfl rfl rfl E19 (by decide) ?_; clear hs hf a; intro w a hs hf
        rw [does_ok hck (drawn_ord b l)] at hf
        refine gL hf (g_mv hf rfl) (by decide) ?_; clear hf a; intro a hf
        refine gL hf (g_ext hf rfl rfl) (by decide) ?_; clear hf a; intro a hf
        refine gL hf (g_ext hf rfl rfl) (by decide) ?_; clear hf a; intro a hf
        refine gL hf (g_as hf rfl) (by decide) ?_; clear hf a; intro a hf
        refine gL hf (g_as hf rfl) (by decide) ?_; clear hf a; intro a hf
        refine e_nil ?_
        refine c_reg ?_
        refine gL hf (g_ldW hf hs T25 rfl (k := 2) rfl rfl) (by decide) ?_; clear hf a; intro a hf
        refine gL hf (g_mv hf rfl) (by decide) ?_; clear hf a; intro a hf
        have hrdx : Rd encF 5 (some ⟨bcx, 0, none⟩) (shortB b ki ((flapA b ki).rh - dz)).flaps.length (shortB b ki ((flapA b ki).rh - dz)).flaps _ := hox2.rdb (sz := 5) (fun _ => rfl) (by decide) (hs.own _ _ (.head _)).2
        have hshx : ShIn (shortB b ki ((flapA b ki).rh - dz)) (some ⟨bcx, 0, none⟩) (csx.size / 5) rA rc _ := ⟨hrdx, hs.rd (.tail _ (.tail _ (.tail _ (.head _)))), by rw [short_len]; exact hcapx, h.rc_⟩
        have h9 := c_Does (shortB b ki ((flapA b ki).rh - dz)) _ _ _ _ _ cd (drawnL b l) ge gz hckx _ hshx (hs.rd (.head _)) (hs.rd (.tail _ (.tail _ (.tail _ (.tail _ (.tail _ (.head _)))))))
        simp only [short_len] at h9
        refine callL hf hs (h9) rfl rfl rfl E19 (by decide) ?_; clear hs hf a; intro w a hs hf
        rw [does_ok hckx hordx] at hf
        refine gL hf (g_mv hf rfl) (by decide) ?_; clear hf a; intro a hf
        refine gL hf (g_ext hf rfl rfl) (by decide) ?_; clear hf a; intro a hf
        refine gL hf (g_ext hf rfl rfl) (by decide) ?_; clear hf a; intro a hf
        refine gL hf (g_as hf rfl) (by decide) ?_; clear hf a; intro a hf
        refine gL hf (g_as hf rfl) (by decide) ?_; clear hf a; intro a hf
        refine e_nil ?_
        refine c_reg ?_
        refine gL hf (g_ldW hf hs T25 rfl (k := 1) rfl rfl) (by decide) ?_; clear hf a; intro a hf
        refine gL hf (g_mv hf rfl) (by decide) ?_; clear hf a; intro a hf
        refine callL hf hs (c_Does (rmB b ri) fA fc Ay cy _ _ (drawnL b l) ge gz (valid_check hvy) _ ⟨hs.rd (.tail _ (.tail _ (.head _))), hs.rd (.tail _ (.head _)), h.fc_, hly⟩ (hs.rd (.head _)) (hs.rd (.tail _ (.tail _ (.tail _ (.tail _ (.tail _ (.head _)))))))) rfl rfl rfl E19 (by decide) ?_; clear hs hf a; intro w a hs hf
        rw [does_ok (valid_check hvy) hordy] at hf
        refine gL hf (g_mv hf rfl) (by decide) ?_; clear hf a; intro a hf
        refine gL hf (g_ext hf rfl rfl) (by decide) ?_; clear hf a; intro a hf
        refine gL hf (g_ext hf rfl rfl) (by decide) ?_; clear hf a; intro a hf
        refine gL hf (g_as hf rfl) (by decide) ?_; clear hf a; intro a hf
        refine gL hf (g_as hf rfl) (by decide) ?_; clear hf a; intro a hf
        refine e_nil ?_
        refine c_reg ?_
        refine gL hf (g_ldW hf hs T25 rfl (k := 5) rfl rfl) (by decide) ?_; clear hf a; intro a hf
        refine callL hf hs (c_Orders b _ _ _ _ _ _ _ ⟨hs.rd (.tail _ (.tail _ (.head _))), hs.rd (.tail _ (.tail _ (.tail _ (.head _)))), h.fc_, h.rc_⟩ (hs.rd (.tail _ (.tail _ (.tail _ (.tail _ (.tail _ (.head _)))))))) rfl rfl rfl E25 (by decide) ?_; clear hs hf a; intro w a hs hf
        rw [count_valid hv] at hf
        refine gL hf (g_mv hf rfl) (by decide) ?_; clear hf a; intro a hf
        refine gL hf (g_ext hf rfl rfl) (by decide) ?_; clear hf a; intro a hf
        refine gL hf (g_ext hf rfl rfl) (by decide) ?_; clear hf a; intro a hf
        refine gL hf (g_as hf rfl) (by decide) ?_; clear hf a; intro a hf
        refine gL hf (g_as hf rfl) (by decide) ?_; clear hf a; intro a hf
        refine e_nil ?_
        refine c_reg ?_
        refine gL hf (g_ldW hf hs T25 rfl (k := 2) rfl rfl) (by decide) ?_; clear hf a; intro a hf
        have hrdx : Rd encF 5 (some ⟨bcx, 0, none⟩) (shortB b ki ((flapA b ki).rh - dz)).flaps.length (shortB b ki ((flapA b ki).rh - dz)).flaps _ := hox2.rdb (sz := 5) (fun _ => rfl) (by decide) (hs.own _ _ (.head _)).2
        have hshx : ShIn (shortB b ki ((flapA b ki).rh - dz)) (some ⟨bcx, 0, none⟩) (csx.size / 5) rA rc _ := ⟨hrdx, hs.rd (.tail _ (.tail _ (.tail _ (.head _)))), by rw [short_len]; exact hcapx, h.rc_⟩
        have h9 := c_Orders (shortB b ki ((flapA b ki).rh - dz)) _ _ _ _ ge gz _ hshx (hs.rd (.tail _ (.tail _ (.tail _ (.tail _ (.tail _ (.head _)))))))
        simp only [short_len] at h9
        refine callL hf hs (h9) rfl rfl rfl E25 (by decide) ?_; clear hs hf a; intro w a hs hf
        rw [count_valid hvx] at hf
        refine gL hf (g_mv hf rfl) (by decide) ?_; clear hf a; intro a hf
        refine gL hf (g_ext hf rfl rfl) (by decide) ?_; clear hf a; intro a hf
        refine gL hf (g_ext hf rfl rfl) (by decide) ?_; clear hf a; intro a hf
        refine gL hf (g_as hf rfl) (by decide) ?_; clear hf a; intro a hf
        refine gL hf (g_as hf rfl) (by decide) ?_; clear hf a; intro a hf
        refine e_nil ?_
        refine c_reg ?_
        refine gL hf (g_ldW hf hs T25 rfl (k := 1) rfl rfl) (by decide) ?_; clear hf a; intro a hf
        refine callL hf hs (c_Orders (rmB b ri) fA fc Ay cy ge gz _ ⟨hs.rd (.tail _ (.tail _ (.head _))), hs.rd (.tail _ (.head _)), h.fc_, hly⟩ (hs.rd (.tail _ (.tail _ (.tail _ (.tail _ (.tail _ (.head _)))))))) rfl rfl rfl E25 (by decide) ?_; clear hs hf a; intro w a hs hf
        rw [count_valid hvy] at hf
        refine gL hf (g_mv hf rfl) (by decide) ?_; clear hf a; intro a hf
        refine gL hf (g_ext hf rfl rfl) (by decide) ?_; clear hf a; intro a hf
        refine gL hf (g_ext hf rfl rfl) (by decide) ?_; clear hf a; intro a hf
        refine gL hf (g_as hf rfl) (by decide) ?_; clear hf a; intro a hf
        refine gL hf (g_as hf rfl) (by decide) ?_; clear hf a; intro a hf
        refine e_nil ?_
        refine wp_seq ?_
        have hw1 := hLx.worst hvx (drawnL b l); have hn1 := hLx.count hvx hv
        have hw2 := hLy.worst hvy (drawnL b l); have hn2 := hLy.count hvy hv
        refine c_reg ?_
        refine gL hf (g_mv hf rfl) (by decide) ?_; clear hf a; intro a hf
        refine gL hf (g_neq hf rfl rfl) (by decide) ?_; clear hf a; intro a hf
        refine gL hf (g_mv hf rfl) (by decide) ?_; clear hf a; intro a hf
        refine ggL hf rfl rfl (gyes_f _) (fun hg => g_mv hf rfl) (by decide) ?_; clear hf a; intro a hf
        refine ggL hf rfl rfl (gyes_f _) (fun hg => g_neq hf (ev_gv rfl hg) rfl) (by decide) ?_; clear hf a; intro a hf
        refine gL hf (g_or hf rfl rfl) (by decide) ?_; clear hf a; intro a hf
        refine gL hf (g_mv hf rfl) (by decide) ?_; clear hf a; intro a hf
        refine ggL hf rfl rfl (gyes_f _) (fun hg => g_mv hf rfl) (by decide) ?_; clear hf a; intro a hf
        refine ggL hf rfl rfl (gyes_f _) (fun hg => g_neq hf (ev_gv rfl hg) rfl) (by decide) ?_; clear hf a; intro a hf
        refine gL hf (g_or hf rfl rfl) (by decide) ?_; clear hf a; intro a hf
        refine gL hf (g_mv hf rfl) (by decide) ?_; clear hf a; intro a hf
        refine ggL hf rfl rfl (gyes_f _) (fun hg => g_mv hf rfl) (by decide) ?_; clear hf a; intro a hf
        refine ggL hf rfl rfl (gyes_f _) (fun hg => g_neq hf (ev_gv rfl hg) rfl) (by decide) ?_; clear hf a; intro a hf
        refine gL hf (g_or hf rfl rfl) (by decide) ?_; clear hf a; intro a hf
        refine gL hf (g_mv hf rfl) (by decide) ?_; clear hf a; intro a hf
        refine ggL hf rfl rfl (gyes_f _) (fun hg => g_mv hf rfl) (by decide) ?_; clear hf a; intro a hf
        refine ggL hf rfl rfl (gyes_f _) (fun hg => g_neq hf (ev_gv rfl hg) rfl) (by decide) ?_; clear hf a; intro a hf
        refine gL hf (g_or hf rfl rfl) (by decide) ?_; clear hf a; intro a hf
        refine gL hf (g_mv hf rfl) (by decide) ?_; clear hf a; intro a hf
        refine ggL hf rfl rfl (gyes_f _) (fun hg => g_mv hf rfl) (by decide) ?_; clear hf a; intro a hf
        refine ggL hf rfl rfl (gyes_f _) (fun hg => g_neq hf (ev_gv rfl hg) rfl) (by decide) ?_; clear hf a; intro a hf
        refine gL hf (g_or hf rfl rfl) (by decide) ?_; clear hf a; intro a hf
        refine gL hf (g_mv hf rfl) (by decide) ?_; clear hf a; intro a hf
        refine ggL hf rfl rfl (gyes_f _) (fun hg => g_mv hf rfl) (by decide) ?_; clear hf a; intro a hf
        refine ggL hf rfl rfl (gyes_f _) (fun hg => g_mv hf rfl) (by decide) ?_; clear hf a; intro a hf
        refine ggL hf rfl rfl (gyes_f _) (fun hg => g_lss hf (ev_gv rfl hg) (ev_gv rfl hg)) (by decide) ?_; clear hf a; intro a hf
        refine gL hf (g_or hf rfl rfl) (by decide) ?_; clear hf a; intro a hf
        refine gL hf (g_mv hf rfl) (by decide) ?_; clear hf a; intro a hf
        refine ggL hf rfl rfl (gyes_f _) (fun hg => g_mv hf rfl) (by decide) ?_; clear hf a; intro a hf
        refine ggL hf rfl rfl (gyes_f _) (fun hg => g_mv hf rfl) (by decide) ?_; clear hf a; intro a hf
        refine ggL hf rfl rfl (gyes_f _) (fun hg => g_lss hf (ev_gv rfl hg) (ev_gv rfl hg)) (by decide) ?_; clear hf a; intro a hf
        refine gL hf (g_or hf rfl rfl) (by decide) ?_; clear hf a; intro a hf
        refine gL hf (g_mv hf rfl) (by decide) ?_; clear hf a; intro a hf
        refine ggL hf rfl rfl (gyes_f _) (fun hg => g_mv hf rfl) (by decide) ?_; clear hf a; intro a hf
        refine ggL hf rfl rfl (gyes_f _) (fun hg => g_mv hf rfl) (by decide) ?_; clear hf a; intro a hf
        refine ggL hf rfl rfl (gyes_f _) (fun hg => g_lss hf (ev_gv rfl hg) (ev_gv rfl hg)) (by decide) ?_; clear hf a; intro a hf
        refine gL hf (g_or hf rfl rfl) (by decide) ?_; clear hf a; intro a hf
        refine gL hf (g_mv hf rfl) (by decide) ?_; clear hf a; intro a hf
        refine ggL hf rfl rfl (gyes_f _) (fun hg => g_mv hf rfl) (by decide) ?_; clear hf a; intro a hf
        refine ggL hf rfl rfl (gyes_f _) (fun hg => g_mv hf rfl) (by decide) ?_; clear hf a; intro a hf
        refine ggL hf rfl rfl (gyes_f _) (fun hg => g_lss hf (ev_gv rfl hg) (ev_gv rfl hg)) (by decide) ?_; clear hf a; intro a hf
        refine gL hf (g_or hf rfl rfl) (by decide) ?_; clear hf a; intro a hf
        refine e_nil ?_
        refine c_cond hf rfl (fun hc3 => ?_) (fun hc3 => ?_)
        · skip
          exfalso; generalize worst (shortB b ki ((flapA b ki).rh - dz)) (drawnL b l) (shortB b ki ((flapA b ki).rh - dz)).rules.length = wA at hc3 hw1; generalize (allO (shortB b ki ((flapA b ki).rh - dz))).length = nA at hc3 hn1; generalize hwB : worst b (drawnL b l) b.rules.length = wB at *; generalize (allO b).length = nB at *; (try generalize worst (rmB b ri) (drawnL b l) (rmB b ri).rules.length = wC at hc3 hw2); (try generalize (allO (rmB b ri)).length = nC at hc3 hn2); simp at hc3 <;> omega
        · skip
          refine c_skip (q_thenN ?_)
          refine c_reg ?_
          refine gL hf (g_ldW hf hs T25 rfl (k := 5) rfl rfl) (by decide) ?_; clear hf a; intro a hf
          refine gL hf (g_mv hf rfl) (by decide) ?_; clear hf a; intro a hf
          refine callL hf hs (c_Shorter b _ _ _ _ _ _ ki _ ⟨hs.rd (.tail _ (.tail _ (.head _))), hs.rd (.tail _ (.tail _ (.tail _ (.head _)))), h.fc_, h.rc_⟩ (hs.rd (.tail _ (.tail _ (.tail _ (.tail _ (.tail _ (.head _)))))))) rfl rfl rfl E31 (by decide) ?_; clear hs hf a; intro w a hs hf
          refine gL hf (g_mv hf rfl) (by decide) ?_; clear hf a; intro a hf
          refine gL hf (g_ext hf rfl rfl) (by decide) ?_; clear hf a; intro a hf
          refine gL hf (g_ext hf rfl rfl) (by decide) ?_; clear hf a; intro a hf
          refine gL hf (g_as hf rfl) (by decide) ?_; clear hf a; intro a hf
          refine gL hf (g_as hf rfl) (by decide) ?_; clear hf a; intro a hf
          refine e_nil ?_
          refine wp_seq ?_
          refine c_reg ?_
          refine gL hf (g_mv hf rfl) (by decide) ?_; clear hf a; intro a hf
          refine gL hf (g_neq hf rfl rfl) (by decide) ?_; clear hf a; intro a hf
          refine gL hf (g_mv hf rfl) (by decide) ?_; clear hf a; intro a hf
          refine ggL hf rfl rfl (gyes_t _) (fun hg => g_mv hf rfl) (by decide) ?_; clear hf a; intro a hf
          refine ggL hf rfl rfl (gyes_t _) (fun hg => g_neq hf (ev_gv rfl hg) rfl) (by decide) ?_; clear hf a; intro a hf
          refine ggL hf rfl rfl (gyes_t _) (fun hg => g_mv hf (ev_gv rfl hg)) (by decide) ?_; clear hf a; intro a hf
          refine ggL hf rfl rfl (gyes_gf _ _) (fun hg => g_mv hf rfl) (by decide) ?_; clear hf a; intro a hf
          refine ggL hf rfl rfl (gyes_gf _ _) (fun hg => g_neq hf (ev_gv rfl hg) rfl) (by decide) ?_; clear hf a; intro a hf
          refine ggL hf rfl rfl (gyes_t _) (fun hg => g_or hf (ev_gv rfl hg) (ev_gvand rfl hg)) (by decide) ?_; clear hf a; intro a hf
          refine gL hf (g_and hf rfl rfl) (by decide) ?_; clear hf a; intro a hf
          refine gL hf (g_mv hf rfl) (by decide) ?_; clear hf a; intro a hf
          refine ggL hf rfl rfl (gyes_f _) (fun hg => g_mv hf rfl) (by decide) ?_; clear hf a; intro a hf
          refine ggL hf rfl rfl (gyes_f _) (fun hg => g_eql hf (ev_gv rfl hg) rfl) (by decide) ?_; clear hf a; intro a hf
          refine ggL hf rfl rfl (gyes_f _) (fun hg => g_mv hf (ev_gv rfl hg)) (by decide) ?_; clear hf a; intro a hf
          refine ggL hf rfl rfl (gyes_gt _ _) (fun hg => g_mv hf rfl) (by decide) ?_; clear hf a; intro a hf
          refine ggL hf rfl rfl (gyes_gt _ _) (fun hg => g_fa (off' := 1) hf F47_1 rfl rfl) (by decide) ?_; clear hf a; intro a hf
          refine ggL hf rfl rfl (gyes_gt _ _) (fun hg => g_ld hf hs T3 (ev_gv rfl hg) (k := 3) rfl rfl) (by decide) ?_; clear hf a; intro a hf
          refine ggL hf rfl rfl (gyes_gt _ _) (fun hg => g_fa (off' := 0) hf F47_0 rfl rfl) (by decide) ?_; clear hf a; intro a hf
          refine ggL hf rfl rfl (gyes_gt _ _) (fun hg => g_ld hf hs T3 (ev_gv rfl hg) (k := 3) rfl rfl) (by decide) ?_; clear hf a; intro a hf
          refine ggL hf rfl rfl (gyes_gt _ _) (fun hg => g_subI hf (ev_gv rfl hg) (ev_gv rfl hg) (by omega)) (by decide) ?_; clear hf a; intro a hf
          refine callG hf hs rfl rfl (gyes_gt _ _) (fun hg => ⟨_, _, _, _, c_Fits _ _ _ _, rfl, evs_cons (ev_gv rfl hg) (evs_cons rfl (evs_cons (ev_gv rfl hg) evs_nil)), rfl⟩) E39 (by decide) ?_; clear hs hf a; intro w a hs hf
          refine ggL hf rfl rfl (gyes_gt _ _) (fun hg => g_not hf (ev_gv rfl hg)) (by decide) ?_; clear hf a; intro a hf
          refine ggL hf rfl rfl (gyes_f _) (fun hg => g_and hf (ev_gv rfl hg) (ev_gvand rfl hg)) (by decide) ?_; clear hf a; intro a hf
          refine gL hf (g_or hf rfl rfl) (by decide) ?_; clear hf a; intro a hf
          refine e_nil ?_
          refine c_cond hf rfl (fun hc4 => ?_) (fun hc4 => ?_)
          · skip
            exfalso; rcases shorter_cases hck hin with ⟨hs4, _⟩ | ⟨j, hs4, hj0, hj1, _⟩; (rw [hs4] at hc4; simp at hc4); (rw [hs4] at hc4; simp [fitsB] at hc4; simp only [flapA, List.getD_eq_getElem?_getD] at hj1; omega)
          · skip
            refine c_skip (q_thenN ?_)
            refine c_reg ?_
            refine gL hf (g_ldW hf hs T25 rfl (k := 2) rfl rfl) (by decide) ?_; clear hf a; intro a hf
            refine vL hf (v_alloc hs T25 rfl) (by decide) ?_; clear hs hf a; rintro _ w ⟨b6, rfl, hs⟩ a hf
            refine uL (u_stW hf hs T25 rfl rfl rfl (k := 0) rfl rfl rfl) ?_; clear hs; intro w hs; dsimp only [List.set] at hs
            refine e_nil ?_
            refine c_reg ?_
            refine vL hf (v_lits (len := 0) hf hs SL22 T49 .nil rfl rfl rfl rfl (by decide) rfl) (by decide) ?_; clear hs hf a; rintro _ w ⟨b7, rfl, hs⟩ a hf
            refine gL hf (g_fa (off' := 2) hf F25_2 rfl rfl) (by decide) ?_; clear hf a; intro a hf
            refine gL hf (g_ld hf hs T22 rfl (k := 7) rfl rfl) (by decide) ?_; clear hf a; intro a hf
            refine vL hf (v_accN (e := 49) (o := some (b7, #[])) (l := []) (l' := b.flaps) (len := 0) hf 0 hs rfl ⟨0, rfl, Nat.le_refl _, by omega, rfl⟩ AP22 (enc := encF) (fun _ => rfl) (by decide) (by intro x v hv9; simp only [encF, List.mem_cons, List.not_mem_nil, or_false] at hv9; rcases hv9 with rfl | rfl | rfl | rfl | rfl <;> rfl) rfl rfl rfl (hs.rd (.tail _ (.tail _ (.head _)))) (by omega) (by decide)) (by decide) ?_; clear hs hf a; rintro _ w ⟨oz, rfl, hoz, hs⟩ a hf; dsimp only [List.take, List.nil_append] at hs
            rw [List.nil_append] at hoz
            obtain ⟨bcz, csz, rfl⟩ : ∃ bc cs, oz = some (bc, cs) := acc_some hoz (by omega)
            simp only [Nat.zero_add] at hf; dsimp only [accV] at hf; dsimp only [accH, List.cons_append, List.nil_append] at hs
            have hcapz := hoz.cap (sz := 5) (by decide)
            refine gL hf (g_fa (off' := 2) hf F25_2 rfl rfl) (by decide) ?_; clear hf a; intro a hf
            refine uL (u_st hf hs T22 rfl rfl rfl (k := 1) rfl (Nat.le_of_ble_eq_true rfl)) ?_; clear hs; intro w hs; dsimp only [List.set] at hs
            refine e_nil ?_
            refine c_reg ?_
            refine gL hf (g_fa (off' := 2) hf F25_2 rfl rfl) (by decide) ?_; clear hf a; intro a hf
            refine gL hf (g_ld hf hs T22 rfl (k := 1) rfl rfl) (by decide) ?_; clear hf a; intro a hf
            refine gL hf (g_mv hf rfl) (by decide) ?_; clear hf a; intro a hf
            refine gL hf (g_fa (off' := 0) hf F47_0 rfl rfl) (by decide) ?_; clear hf a; intro a hf
            refine gL hf (g_ld hf hs T3 rfl (k := 5) rfl rfl) (by decide) ?_; clear hf a; intro a hf
            refine gL hf (g_ixO hf SL22 rfl rfl (by omega)) (by decide) ?_; clear hf a; intro a hf
            refine gL hf (g_fa hf F49_1 rfl rfl) (by decide) ?_; clear hf a; intro a hf
            refine gL hf (g_fa hf F47_1 rfl rfl) (by decide) ?_; clear hf a; intro a hf
            refine uL (u_st hf hs T3 rfl rfl rfl (k := 0) rfl (acc_short (k := 0) hin hoz).2.1) ?_; clear hs; intro w hs; dsimp only [List.set] at hs
            have hoz2 := (acc_short (k := ((flapA b ki).rh - (flapA b ki).rl)) hin hoz).2.2
            rw [show (flapA b ki).rh - ((flapA b ki).rh - (flapA b ki).rl) = (flapA b ki).rl by omega] at hoz2
            refine e_nil ?_
            refine wp_seq ?_
            refine c_reg ?_
            refine gL hf (g_mv hf rfl) (by decide) ?_; clear hf a; intro a hf
            refine gL hf (g_neq hf rfl rfl) (by decide) ?_; clear hf a; intro a hf
            refine e_nil ?_
            refine c_cond hf rfl (fun hc5 => ?_) (fun hc5 => ?_)
            · skip
              have hz5 : allO (shortB b ki ((flapA b ki).rh - (flapA b ki).rl)) = [] := by rcases shorter_cases hck hin with ⟨hs4, h5⟩ | ⟨j, hs4, _⟩; (exact h5 _ hkz.1 hkz.2); (rw [hs4] at hc5; cases hc5)
              refine c_reg ?_
              refine gL hf (g_ldW hf hs T25 rfl (k := 1) rfl rfl) (by decide) ?_; clear hf a; intro a hf
              have hrdz : Rd encF 5 (some ⟨bcz, 0, none⟩) (shortB b ki ((flapA b ki).rh - (flapA b ki).rl)).flaps.length (shortB b ki ((flapA b ki).rh - (flapA b ki).rl)).flaps _ := hoz2.rdb (sz := 5) (fun _ => rfl) (by decide) (hs.own _ _ (.head _)).2
              have hshz : ShIn (shortB b ki ((flapA b ki).rh - (flapA b ki).rl)) (some ⟨bcz, 0, none⟩) (csz.size / 5) rA rc _ := ⟨hrdz, hs.rd (.tail _ (.tail _ (.tail _ (.head _)))), by rw [short_len]; exact hcapz, h.rc_⟩
              have h9 := c_Orders (shortB b ki ((flapA b ki).rh - (flapA b ki).rl)) _ _ _ _ ge gz _ hshz (hs.rd (.tail _ (.tail _ (.tail _ (.tail _ (.tail _ (.head _)))))))
              simp only [short_len] at h9
              refine callL hf hs (h9) rfl rfl rfl E25 (by decide) ?_; clear hs hf a; intro w a hs hf
              rw [count_valid (valid_short hv hin hkz)] at hf
              refine gL hf (g_mv hf rfl) (by decide) ?_; clear hf a; intro a hf
              refine gL hf (g_ext hf rfl rfl) (by decide) ?_; clear hf a; intro a hf
              refine gL hf (g_ext hf rfl rfl) (by decide) ?_; clear hf a; intro a hf
              refine gL hf (g_as hf rfl) (by decide) ?_; clear hf a; intro a hf
              refine gL hf (g_as hf rfl) (by decide) ?_; clear hf a; intro a hf
              refine e_nil ?_
              refine c_reg ?_
              refine gL hf (g_mv hf rfl) (by decide) ?_; clear hf a; intro a hf
              refine gL hf (g_eql hf rfl rfl) (by decide) ?_; clear hf a; intro a hf
              refine gL hf (g_mv hf rfl) (by decide) ?_; clear hf a; intro a hf
              refine ggL hf rfl rfl (gyes_t _) (fun hg => g_mv hf rfl) (by decide) ?_; clear hf a; intro a hf
              refine ggL hf rfl rfl (gyes_t _) (fun hg => g_eql hf (ev_gv rfl hg) rfl) (by decide) ?_; clear hf a; intro a hf
              refine gL hf (g_and hf rfl rfl) (by decide) ?_; clear hf a; intro a hf
              refine gL hf (g_mv hf rfl) (by decide) ?_; clear hf a; intro a hf
              refine callG hf hs rfl rfl (gyes_t _) (fun hg => ⟨_, _, _, _, c_folded ge gz _ (hs.rd (.tail _ (.tail _ (.tail _ (.tail _ (.tail _ (.head _))))))), rfl, evs_nil, rfl⟩) E21 (by decide) ?_; clear hs hf a; intro w a hs hf
              refine gL hf (g_and hf rfl rfl) (by decide) ?_; clear hf a; intro a hf
              refine gL hf (g_as hf rfl) (by decide) ?_; clear hf a; intro a hf
              refine e_nil ?_
              refine c_ret (q_thenR ?_)
              refine e_ret1 hf rfl rfl ?_
              exact ⟨by rw [hz5]; rfl, hs.below⟩
            · skip
              obtain ⟨j9, hs9, hj0, hj1, hj2, hj3⟩ : ∃ j : Int, shorterP b ki = (j, 0) ∧ 0 ≤ j ∧ j ≤ ((flapA b ki).rh - (flapA b ki).rl) ∧ allO (shortB b ki j) ≠ [] ∧ ∀ k, 0 ≤ k → k < j → allO (shortB b ki k) = [] := by rcases shorter_cases hck hin with ⟨hs4, _⟩ | h5; (rw [hs4] at hc5; cases hc5); (exact h5)
              have e9 : (shorterP b ki).1 = j9 := by rw [hs9]
              rw [e9] at hf
              have hlp := List.length_pos_iff.2 hj2
              refine c_skip (q_thenN ?_)
              refine c_reg ?_
              refine gL hf (g_fa (off' := 2) hf F25_2 rfl rfl) (by decide) ?_; clear hf a; intro a hf
              refine gL hf (g_ld hf hs T22 rfl (k := 1) rfl rfl) (by decide) ?_; clear hf a; intro a hf
              refine gL hf (g_mv hf rfl) (by decide) ?_; clear hf a; intro a hf
              refine gL hf (g_fa (off' := 1) hf F47_1 rfl rfl) (by decide) ?_; clear hf a; intro a hf
              refine gL hf (g_ld hf hs T3 rfl (k := 5) rfl rfl) (by decide) ?_; clear hf a; intro a hf
              refine gL hf (g_mv hf rfl) (by decide) ?_; clear hf a; intro a hf
              refine gL hf (g_subI hf rfl rfl (by simp only [flapA] at hj1; omega)) (by decide) ?_; clear hf a; intro a hf
              refine gL hf (g_ixO hf SL22 rfl rfl (by omega)) (by decide) ?_; clear hf a; intro a hf
              refine gL hf (g_fa hf F49_1 rfl rfl) (by decide) ?_; clear hf a; intro a hf
              refine gL hf (g_fa hf F47_1 rfl rfl) (by decide) ?_; clear hf a; intro a hf
              refine uL (u_st hf hs T3 rfl rfl rfl (k := 0) rfl (by rw [Array.size_setIfInBounds]; exact (acc_short (k := 0) hin hoz).2.1)) ?_; clear hs; intro w hs; dsimp only [List.set] at hs
              rw [set_twice] at hs
              have hoz3 := (acc_short (k := j9) hin hoz).2.2
              refine e_nil ?_
              refine c_reg ?_
              refine gL hf (g_ldW hf hs T25 rfl (k := 1) rfl rfl) (by decide) ?_; clear hf a; intro a hf
              have hrdz : Rd encF 5 (some ⟨bcz, 0, none⟩) (shortB b ki j9).flaps.length (shortB b ki j9).flaps _ := hoz3.rdb (sz := 5) (fun _ => rfl) (by decide) (hs.own _ _ (.head _)).2
              have hshz : ShIn (shortB b ki j9) (some ⟨bcz, 0, none⟩) (csz.size / 5) rA rc _ := ⟨hrdz, hs.rd (.tail _ (.tail _ (.tail _ (.head _)))), by rw [short_len]; exact hcapz, h.rc_⟩
              have h9 := c_Orders (shortB b ki j9) _ _ _ _ ge gz _ hshz (hs.rd (.tail _ (.tail _ (.tail _ (.tail _ (.tail _ (.head _)))))))
              simp only [short_len] at h9
              refine callL hf hs (h9) rfl rfl rfl E25 (by decide) ?_; clear hs hf a; intro w a hs hf
              rw [count_valid (valid_short hv hin ⟨hj0, hj1⟩)] at hf
              refine gL hf (g_mv hf rfl) (by decide) ?_; clear hf a; intro a hf
              refine gL hf (g_ext hf rfl rfl) (by decide) ?_; clear hf a; intro a hf
              refine gL hf (g_ext hf rfl rfl) (by decide) ?_; clear hf a; intro a hf
              refine gL hf (g_as hf rfl) (by decide) ?_; clear hf a; intro a hf
              refine gL hf (g_as hf rfl) (by decide) ?_; clear hf a; intro a hf
              refine e_nil ?_
              refine wp_seq ?_
              refine c_reg ?_
              refine gL hf (g_mv hf rfl) (by decide) ?_; clear hf a; intro a hf
              refine gL hf (g_neq hf rfl rfl) (by decide) ?_; clear hf a; intro a hf
              refine gL hf (g_mv hf rfl) (by decide) ?_; clear hf a; intro a hf
              refine ggL hf rfl rfl (gyes_f _) (fun hg => g_mv hf rfl) (by decide) ?_; clear hf a; intro a hf
              refine ggL hf rfl rfl (gyes_f _) (fun hg => g_lss hf (ev_gv rfl hg) rfl) (by decide) ?_; clear hf a; intro a hf
              refine gL hf (g_or hf rfl rfl) (by decide) ?_; clear hf a; intro a hf
              refine gL hf (g_mv hf rfl) (by decide) ?_; clear hf a; intro a hf
              refine ggL hf rfl rfl (gyes_f _) (fun hg => g_mv hf rfl) (by decide) ?_; clear hf a; intro a hf
              refine ggL hf rfl rfl (gyes_f _) (fun hg => g_eql hf (ev_gv rfl hg) rfl) (by decide) ?_; clear hf a; intro a hf
              refine gL hf (g_or hf rfl rfl) (by decide) ?_; clear hf a; intro a hf
              refine e_nil ?_
              refine c_cond hf rfl (fun hc6 => ?_) (fun hc6 => ?_)
              · skip
                refine c_reg ?_
                refine gL hf (g_mv hf rfl) (by decide) ?_; clear hf a; intro a hf
                refine gL hf (g_eql hf rfl rfl) (by decide) ?_; clear hf a; intro a hf
                refine gL hf (g_mv hf rfl) (by decide) ?_; clear hf a; intro a hf
                refine ggL hf rfl rfl (gyes_t _) (fun hg => g_mv hf rfl) (by decide) ?_; clear hf a; intro a hf
                refine ggL hf rfl rfl (gyes_t _) (fun hg => g_gtr hf (ev_gv rfl hg) rfl) (by decide) ?_; clear hf a; intro a hf
                refine gL hf (g_and hf rfl rfl) (by decide) ?_; clear hf a; intro a hf
                refine gL hf (g_mv hf rfl) (by decide) ?_; clear hf a; intro a hf
                refine callG hf hs rfl rfl (gyes_t _) (fun hg => ⟨_, _, _, _, c_folded ge gz _ (hs.rd (.tail _ (.tail _ (.tail _ (.tail _ (.tail _ (.head _))))))), rfl, evs_nil, rfl⟩) E21 (by decide) ?_; clear hs hf a; intro w a hs hf
                refine gL hf (g_and hf rfl rfl) (by decide) ?_; clear hf a; intro a hf
                refine gL hf (g_as hf rfl) (by decide) ?_; clear hf a; intro a hf
                refine e_nil ?_
                refine c_ret (q_thenR ?_)
                refine e_ret1 hf rfl rfl ?_
                exact ⟨by rw [decide_eq_true (show (0 : Int) < (((allO (shortB b ki j9)).length : Nat) : Int) by omega)]; rfl, hs.below⟩
              · skip
                have hj9 : j9 ≠ 0 := by intro e; rw [e] at hc6; simp at hc6
                have hkm : 0 ≤ j9 - 1 ∧ j9 - 1 ≤ ((flapA b ki).rh - (flapA b ki).rl) := ⟨by omega, by omega⟩
                have hz6 := hj3 (j9 - 1) (by omega) (by omega)
                refine c_skip (q_thenN ?_)
                refine c_reg ?_
                refine gL hf (g_fa (off' := 2) hf F25_2 rfl rfl) (by decide) ?_; clear hf a; intro a hf
                refine gL hf (g_ld hf hs T22 rfl (k := 1) rfl rfl) (by decide) ?_; clear hf a; intro a hf
                refine gL hf (g_mv hf rfl) (by decide) ?_; clear hf a; intro a hf
                refine gL hf (g_fa (off' := 1) hf F47_1 rfl rfl) (by decide) ?_; clear hf a; intro a hf
                refine gL hf (g_ld hf hs T3 rfl (k := 5) rfl rfl) (by decide) ?_; clear hf a; intro a hf
                refine gL hf (g_mv hf rfl) (by decide) ?_; clear hf a; intro a hf
                refine gL hf (g_subI hf rfl rfl (by simp only [flapA] at hj1; omega)) (by decide) ?_; clear hf a; intro a hf
                refine gL hf (g_addI hf rfl rfl (by simp only [flapA] at hj1; omega)) (by decide) ?_; clear hf a; intro a hf
                refine gL hf (g_ixO hf SL22 rfl rfl (by omega)) (by decide) ?_; clear hf a; intro a hf
                refine gL hf (g_fa hf F49_1 rfl rfl) (by decide) ?_; clear hf a; intro a hf
                refine gL hf (g_fa hf F47_1 rfl rfl) (by decide) ?_; clear hf a; intro a hf
                refine uL (u_st hf hs T3 rfl rfl rfl (k := 0) rfl (by rw [Array.size_setIfInBounds]; exact (acc_short (k := 0) hin hoz).2.1)) ?_; clear hs; intro w hs; dsimp only [List.set] at hs
                rw [set_twice] at hs
                have hoz4 := (acc_short (k := j9 - 1) hin hoz).2.2
                rw [show (flapA b ki).rh - (j9 - 1) = (flapA b ki).rh - j9 + 1 by omega] at hoz4
                refine e_nil ?_
                refine c_reg ?_
                refine gL hf (g_ldW hf hs T25 rfl (k := 1) rfl rfl) (by decide) ?_; clear hf a; intro a hf
                have hrdz : Rd encF 5 (some ⟨bcz, 0, none⟩) (shortB b ki (j9 - 1)).flaps.length (shortB b ki (j9 - 1)).flaps _ := hoz4.rdb (sz := 5) (fun _ => rfl) (by decide) (hs.own _ _ (.head _)).2
                have hshz : ShIn (shortB b ki (j9 - 1)) (some ⟨bcz, 0, none⟩) (csz.size / 5) rA rc _ := ⟨hrdz, hs.rd (.tail _ (.tail _ (.tail _ (.head _)))), by rw [short_len]; exact hcapz, h.rc_⟩
                have h9 := c_Orders (shortB b ki (j9 - 1)) _ _ _ _ ge gz _ hshz (hs.rd (.tail _ (.tail _ (.tail _ (.tail _ (.tail _ (.head _)))))))
                simp only [short_len] at h9
                refine callL hf hs (h9) rfl rfl rfl E25 (by decide) ?_; clear hs hf a; intro w a hs hf
                rw [count_valid (valid_short hv hin hkm)] at hf
                refine gL hf (g_mv hf rfl) (by decide) ?_; clear hf a; intro a hf
                refine gL hf (g_ext hf rfl rfl) (by decide) ?_; clear hf a; intro a hf
                refine gL hf (g_ext hf rfl rfl) (by decide) ?_; clear hf a; intro a hf
                refine gL hf (g_as hf rfl) (by decide) ?_; clear hf a; intro a hf
                refine gL hf (g_as hf rfl) (by decide) ?_; clear hf a; intro a hf
                refine e_nil ?_
                refine c_reg ?_
                refine gL hf (g_mv hf rfl) (by decide) ?_; clear hf a; intro a hf
                refine gL hf (g_eql hf rfl rfl) (by decide) ?_; clear hf a; intro a hf
                refine gL hf (g_mv hf rfl) (by decide) ?_; clear hf a; intro a hf
                refine ggL hf rfl rfl (gyes_t _) (fun hg => g_mv hf rfl) (by decide) ?_; clear hf a; intro a hf
                refine ggL hf rfl rfl (gyes_t _) (fun hg => g_eql hf (ev_gv rfl hg) rfl) (by decide) ?_; clear hf a; intro a hf
                refine gL hf (g_and hf rfl rfl) (by decide) ?_; clear hf a; intro a hf
                refine gL hf (g_mv hf rfl) (by decide) ?_; clear hf a; intro a hf
                refine callG hf hs rfl rfl (gyes_t _) (fun hg => ⟨_, _, _, _, c_folded ge gz _ (hs.rd (.tail _ (.tail _ (.tail _ (.tail _ (.tail _ (.head _))))))), rfl, evs_nil, rfl⟩) E21 (by decide) ?_; clear hs hf a; intro w a hs hf
                refine gL hf (g_and hf rfl rfl) (by decide) ?_; clear hf a; intro a hf
                refine gL hf (g_as hf rfl) (by decide) ?_; clear hf a; intro a hf
                refine e_nil ?_
                refine c_ret ?_
                refine e_ret1 hf rfl rfl ?_
                exact ⟨by rw [hz6]; rfl, hs.below⟩
      · skip
        refine c_skip (q_thenN ?_)
        refine c_reg ?_
        refine gL hf (g_ldW hf hs T25 rfl (k := 5) rfl rfl) (by decide) ?_; clear hf a; intro a hf
        refine gL hf (g_mv hf rfl) (by decide) ?_; clear hf a; intro a hf
        refine callX hf hs (c_drawn b _ _ _ _ _ _ l hv _ ⟨hs.rd (.head _), hs.rd (.tail _ (.head _)), h.fc_, h.rc_⟩ (hs.rd (.tail _ (.tail _ (.head _))))) rfl rfl rfl E42 (by decide) ?_; intro v w1 a hR hb hs1 hf; obtain ⟨Ad, cd, rfl, hou⟩ := hR; replace hs := hs.fresh hs1 (outFresh hou); clear hs1 hb
        refine gL hf (g_as hf rfl) (by decide) ?_; clear hf a; intro a hf
        refine e_nil ?_
        refine c_reg ?_
        refine gL hf (g_ldW hf hs T25 rfl (k := 5) rfl rfl) (by decide) ?_; clear hf a; intro a hf
        refine gL hf (g_mv hf rfl) (by decide) ?_; clear hf a; intro a hf
        refine callL hf hs (c_Does b _ _ _ _ _ _ (drawnL b l) ge gz hck _ ⟨hs.rd (.tail _ (.head _)), hs.rd (.tail _ (.tail _ (.head _))), h.fc_, h.rc_⟩ (hs.rd (.head _)) (hs.rd (.tail _ (.tail _ (.tail _ (.tail _ (.head _))))))) rfl rfl rfl E19 (by decide) ?_; clear hs hf a; intro w a hs hf
        rw [does_ok hck (drawn_ord b l)] at hf
        refine gL hf (g_mv hf rfl) (by decide) ?_; clear hf a; intro a hf
        refine gL hf (g_ext hf rfl rfl) (by decide) ?_; clear hf a; intro a hf
        refine gL hf (g_ext hf rfl rfl) (by decide) ?_; clear hf a; intro a hf
        refine gL hf (g_as hf rfl) (by decide) ?_; clear hf a; intro a hf
        refine gL hf (g_as hf rfl) (by decide) ?_; clear hf a; intro a hf
        refine e_nil ?_
        refine c_reg ?_
        refine gL hf (g_ldW hf hs T25 rfl (k := 2) rfl rfl) (by decide) ?_; clear hf a; intro a hf
        refine gL hf (g_mv hf rfl) (by decide) ?_; clear hf a; intro a hf
        have hrdx : Rd encF 5 (some ⟨bcx, 0, none⟩) (shortB b ki ((flapA b ki).rh - dz)).flaps.length (shortB b ki ((flapA b ki).rh - dz)).flaps _ := hox2.rdb (sz := 5) (fun _ => rfl) (by decide) (hs.own _ _ (.head _)).2
        have hshx : ShIn (shortB b ki ((flapA b ki).rh - dz)) (some ⟨bcx, 0, none⟩) (csx.size / 5) rA rc _ := ⟨hrdx, hs.rd (.tail _ (.tail _ (.head _))), by rw [short_len]; exact hcapx, h.rc_⟩
        have h9 := c_Does (shortB b ki ((flapA b ki).rh - dz)) _ _ _ _ _ cd (drawnL b l) ge gz hckx _ hshx (hs.rd (.head _)) (hs.rd (.tail _ (.tail _ (.tail _ (.tail _ (.head _))))))
        simp only [short_len] at h9
        refine callL hf hs (h9) rfl rfl rfl E19 (by decide) ?_; clear hs hf a; intro w a hs hf
        rw [does_ok hckx hordx] at hf
        refine gL hf (g_mv hf rfl) (by decide) ?_; clear hf a; intro a hf
        refine gL hf (g_ext hf rfl rfl) (by decide) ?_; clear hf a; intro a hf
        refine gL hf (g_ext hf rfl rfl) (by decide) ?_; clear hf a; intro a hf
        refine gL hf (g_as hf rfl) (by decide) ?_; clear hf a; intro a hf
        refine gL hf (g_as hf rfl) (by decide) ?_; clear hf a; intro a hf
        refine e_nil ?_
        refine c_reg ?_
        refine gL hf (g_ldW hf hs T25 rfl (k := 1) rfl rfl) (by decide) ?_; clear hf a; intro a hf
        refine gL hf (g_mv hf rfl) (by decide) ?_; clear hf a; intro a hf
        refine callL hf hs (c_Does b _ _ _ _ _ _ (drawnL b l) ge gz hck _ ⟨hs.rd (.tail _ (.head _)), hs.rd (.tail _ (.tail _ (.head _))), h.fc_, h.rc_⟩ (hs.rd (.head _)) (hs.rd (.tail _ (.tail _ (.tail _ (.tail _ (.head _))))))) rfl rfl rfl E19 (by decide) ?_; clear hs hf a; intro w a hs hf
        rw [does_ok hck (drawn_ord b l)] at hf
        refine gL hf (g_mv hf rfl) (by decide) ?_; clear hf a; intro a hf
        refine gL hf (g_ext hf rfl rfl) (by decide) ?_; clear hf a; intro a hf
        refine gL hf (g_ext hf rfl rfl) (by decide) ?_; clear hf a; intro a hf
        refine gL hf (g_as hf rfl) (by decide) ?_; clear hf a; intro a hf
        refine gL hf (g_as hf rfl) (by decide) ?_; clear hf a; intro a hf
        refine e_nil ?_
        refine c_reg ?_
        refine gL hf (g_ldW hf hs T25 rfl (k := 5) rfl rfl) (by decide) ?_; clear hf a; intro a hf
        refine callL hf hs (c_Orders b _ _ _ _ _ _ _ ⟨hs.rd (.tail _ (.head _)), hs.rd (.tail _ (.tail _ (.head _))), h.fc_, h.rc_⟩ (hs.rd (.tail _ (.tail _ (.tail _ (.tail _ (.head _))))))) rfl rfl rfl E25 (by decide) ?_; clear hs hf a; intro w a hs hf
        rw [count_valid hv] at hf
        refine gL hf (g_mv hf rfl) (by decide) ?_; clear hf a; intro a hf
        refine gL hf (g_ext hf rfl rfl) (by decide) ?_; clear hf a; intro a hf
        refine gL hf (g_ext hf rfl rfl) (by decide) ?_; clear hf a; intro a hf
        refine gL hf (g_as hf rfl) (by decide) ?_; clear hf a; intro a hf
        refine gL hf (g_as hf rfl) (by decide) ?_; clear hf a; intro a hf
        refine e_nil ?_
        refine c_reg ?_
        refine gL hf (g_ldW hf hs T25 rfl (k := 2) rfl rfl) (by decide) ?_; clear hf a; intro a hf
        have hrdx : Rd encF 5 (some ⟨bcx, 0, none⟩) (shortB b ki ((flapA b ki).rh - dz)).flaps.length (shortB b ki ((flapA b ki).rh - dz)).flaps _ := hox2.rdb (sz := 5) (fun _ => rfl) (by decide) (hs.own _ _ (.head _)).2
        have hshx : ShIn (shortB b ki ((flapA b ki).rh - dz)) (some ⟨bcx, 0, none⟩) (csx.size / 5) rA rc _ := ⟨hrdx, hs.rd (.tail _ (.tail _ (.head _))), by rw [short_len]; exact hcapx, h.rc_⟩
        have h9 := c_Orders (shortB b ki ((flapA b ki).rh - dz)) _ _ _ _ ge gz _ hshx (hs.rd (.tail _ (.tail _ (.tail _ (.tail _ (.head _))))))
        simp only [short_len] at h9
        refine callL hf hs (h9) rfl rfl rfl E25 (by decide) ?_; clear hs hf a; intro w a hs hf
        rw [count_valid hvx] at hf
        refine gL hf (g_mv hf rfl) (by decide) ?_; clear hf a; intro a hf
        refine gL hf (g_ext hf rfl rfl) (by decide) ?_; clear hf a; intro a hf
        refine gL hf (g_ext hf rfl rfl) (by decide) ?_; clear hf a; intro a hf
        refine gL hf (g_as hf rfl) (by decide) ?_; clear hf a; intro a hf
        refine gL hf (g_as hf rfl) (by decide) ?_; clear hf a; intro a hf
        refine e_nil ?_
        refine c_reg ?_
        refine gL hf (g_ldW hf hs T25 rfl (k := 1) rfl rfl) (by decide) ?_; clear hf a; intro a hf
        refine callL hf hs (c_Orders b _ _ _ _ _ _ _ ⟨hs.rd (.tail _ (.head _)), hs.rd (.tail _ (.tail _ (.head _))), h.fc_, h.rc_⟩ (hs.rd (.tail _ (.tail _ (.tail _ (.tail _ (.head _))))))) rfl rfl rfl E25 (by decide) ?_; clear hs hf a; intro w a hs hf
        rw [count_valid hv] at hf
        refine gL hf (g_mv hf rfl) (by decide) ?_; clear hf a; intro a hf
        refine gL hf (g_ext hf rfl rfl) (by decide) ?_; clear hf a; intro a hf
        refine gL hf (g_ext hf rfl rfl) (by decide) ?_; clear hf a; intro a hf
        refine gL hf (g_as hf rfl) (by decide) ?_; clear hf a; intro a hf
        refine gL hf (g_as hf rfl) (by decide) ?_; clear hf a; intro a hf
        refine e_nil ?_
        refine wp_seq ?_
        have hw1 := hLx.worst hvx (drawnL b l); have hn1 := hLx.count hvx hv
        refine c_reg ?_
        refine gL hf (g_mv hf rfl) (by decide) ?_; clear hf a; intro a hf
        refine gL hf (g_neq hf rfl rfl) (by decide) ?_; clear hf a; intro a hf
        refine gL hf (g_mv hf rfl) (by decide) ?_; clear hf a; intro a hf
        refine ggL hf rfl rfl (gyes_f _) (fun hg => g_mv hf rfl) (by decide) ?_; clear hf a; intro a hf
        refine ggL hf rfl rfl (gyes_f _) (fun hg => g_neq hf (ev_gv rfl hg) rfl) (by decide) ?_; clear hf a; intro a hf
        refine gL hf (g_or hf rfl rfl) (by decide) ?_; clear hf a; intro a hf
        refine gL hf (g_mv hf rfl) (by decide) ?_; clear hf a; intro a hf
        refine ggL hf rfl rfl (gyes_f _) (fun hg => g_mv hf rfl) (by decide) ?_; clear hf a; intro a hf
        refine ggL hf rfl rfl (gyes_f _) (fun hg => g_neq hf (ev_gv rfl hg) rfl) (by decide) ?_; clear hf a; intro a hf
        refine gL hf (g_or hf rfl rfl) (by decide) ?_; clear hf a; intro a hf
        refine gL hf (g_mv hf rfl) (by decide) ?_; clear hf a; intro a hf
        refine ggL hf rfl rfl (gyes_f _) (fun hg => g_mv hf rfl) (by decide) ?_; clear hf a; intro a hf
        refine ggL hf rfl rfl (gyes_f _) (fun hg => g_neq hf (ev_gv rfl hg) rfl) (by decide) ?_; clear hf a; intro a hf
        refine gL hf (g_or hf rfl rfl) (by decide) ?_; clear hf a; intro a hf
        refine gL hf (g_mv hf rfl) (by decide) ?_; clear hf a; intro a hf
        refine ggL hf rfl rfl (gyes_f _) (fun hg => g_mv hf rfl) (by decide) ?_; clear hf a; intro a hf
        refine ggL hf rfl rfl (gyes_f _) (fun hg => g_neq hf (ev_gv rfl hg) rfl) (by decide) ?_; clear hf a; intro a hf
        refine gL hf (g_or hf rfl rfl) (by decide) ?_; clear hf a; intro a hf
        refine gL hf (g_mv hf rfl) (by decide) ?_; clear hf a; intro a hf
        refine ggL hf rfl rfl (gyes_f _) (fun hg => g_mv hf rfl) (by decide) ?_; clear hf a; intro a hf
        refine ggL hf rfl rfl (gyes_f _) (fun hg => g_neq hf (ev_gv rfl hg) rfl) (by decide) ?_; clear hf a; intro a hf
        refine gL hf (g_or hf rfl rfl) (by decide) ?_; clear hf a; intro a hf
        refine gL hf (g_mv hf rfl) (by decide) ?_; clear hf a; intro a hf
        refine ggL hf rfl rfl (gyes_f _) (fun hg => g_mv hf rfl) (by decide) ?_; clear hf a; intro a hf
        refine ggL hf rfl rfl (gyes_f _) (fun hg => g_mv hf rfl) (by decide) ?_; clear hf a; intro a hf
        refine ggL hf rfl rfl (gyes_f _) (fun hg => g_lss hf (ev_gv rfl hg) (ev_gv rfl hg)) (by decide) ?_; clear hf a; intro a hf
        refine gL hf (g_or hf rfl rfl) (by decide) ?_; clear hf a; intro a hf
        refine gL hf (g_mv hf rfl) (by decide) ?_; clear hf a; intro a hf
        refine ggL hf rfl rfl (gyes_f _) (fun hg => g_mv hf rfl) (by decide) ?_; clear hf a; intro a hf
        refine ggL hf rfl rfl (gyes_f _) (fun hg => g_mv hf rfl) (by decide) ?_; clear hf a; intro a hf
        refine ggL hf rfl rfl (gyes_f _) (fun hg => g_lss hf (ev_gv rfl hg) (ev_gv rfl hg)) (by decide) ?_; clear hf a; intro a hf
        refine gL hf (g_or hf rfl rfl) (by decide) ?_; clear hf a; intro a hf
        refine gL hf (g_mv hf rfl) (by decide) ?_; clear hf a; intro a hf
        refine ggL hf rfl rfl (gyes_f _) (fun hg => g_mv hf rfl) (by decide) ?_; clear hf a; intro a hf
        refine ggL hf rfl rfl (gyes_f _) (fun hg => g_mv hf rfl) (by decide) ?_; clear hf a; intro a hf
        refine ggL hf rfl rfl (gyes_f _) (fun hg => g_lss hf (ev_gv rfl hg) (ev_gv rfl hg)) (by decide) ?_; clear hf a; intro a hf
        refine gL hf (g_or hf rfl rfl) (by decide) ?_; clear hf a; intro a hf
        refine gL hf (g_mv hf rfl) (by decide) ?_; clear hf a; intro a hf
        refine ggL hf rfl rfl (gyes_f _) (fun hg => g_mv hf rfl) (by decide) ?_; clear hf a; intro a hf
        refine ggL hf rfl rfl (gyes_f _) (fun hg => g_mv hf rfl) (by decide) ?_; clear hf a; intro a hf
        refine ggL hf rfl rfl (gyes_f _) (fun hg => g_lss hf (ev_gv rfl hg) (ev_gv rfl hg)) (by decide) ?_; clear hf a; intro a hf
        refine gL hf (g_or hf rfl rfl) (by decide) ?_; clear hf a; intro a hf
        refine e_nil ?_
        refine c_cond hf rfl (fun hc3 => ?_) (fun hc3 => ?_)
        · skip
          exfalso; generalize worst (shortB b ki ((flapA b ki).rh - dz)) (drawnL b l) (shortB b ki ((flapA b ki).rh - dz)).rules.length = wA at hc3 hw1; generalize (allO (shortB b ki ((flapA b ki).rh - dz))).length = nA at hc3 hn1; generalize hwB : worst b (drawnL b l) b.rules.length = wB at *; generalize (allO b).length = nB at *; (try generalize worst (rmB b ri) (drawnL b l) (rmB b ri).rules.length = wC at hc3 hw2); (try generalize (allO (rmB b ri)).length = nC at hc3 hn2); simp at hc3 <;> omega
        · skip
          refine c_skip (q_thenN ?_)
          refine c_reg ?_
          refine gL hf (g_ldW hf hs T25 rfl (k := 5) rfl rfl) (by decide) ?_; clear hf a; intro a hf
          refine gL hf (g_mv hf rfl) (by decide) ?_; clear hf a; intro a hf
          refine callL hf hs (c_Shorter b _ _ _ _ _ _ ki _ ⟨hs.rd (.tail _ (.head _)), hs.rd (.tail _ (.tail _ (.head _))), h.fc_, h.rc_⟩ (hs.rd (.tail _ (.tail _ (.tail _ (.tail _ (.head _))))))) rfl rfl rfl E31 (by decide) ?_; clear hs hf a; intro w a hs hf
          refine gL hf (g_mv hf rfl) (by decide) ?_; clear hf a; intro a hf
          refine gL hf (g_ext hf rfl rfl) (by decide) ?_; clear hf a; intro a hf
          refine gL hf (g_ext hf rfl rfl) (by decide) ?_; clear hf a; intro a hf
          refine gL hf (g_as hf rfl) (by decide) ?_; clear hf a; intro a hf
          refine gL hf (g_as hf rfl) (by decide) ?_; clear hf a; intro a hf
          refine e_nil ?_
          refine wp_seq ?_
          refine c_reg ?_
          refine gL hf (g_mv hf rfl) (by decide) ?_; clear hf a; intro a hf
          refine gL hf (g_neq hf rfl rfl) (by decide) ?_; clear hf a; intro a hf
          refine gL hf (g_mv hf rfl) (by decide) ?_; clear hf a; intro a hf
          refine ggL hf rfl rfl (gyes_t _) (fun hg => g_mv hf rfl) (by decide) ?_; clear hf a; intro a hf
          refine ggL hf rfl rfl (gyes_t _) (fun hg => g_neq hf (ev_gv rfl hg) rfl) (by decide) ?_; clear hf a; intro a hf
          refine ggL hf rfl rfl (gyes_t _) (fun hg => g_mv hf (ev_gv rfl hg)) (by decide) ?_; clear hf a; intro a hf
          refine ggL hf rfl rfl (gyes_gf _ _) (fun hg => g_mv hf rfl) (by decide) ?_; clear hf a; intro a hf
          refine ggL hf rfl rfl (gyes_gf _ _) (fun hg => g_neq hf (ev_gv rfl hg) rfl) (by decide) ?_; clear hf a; intro a hf
          refine ggL hf rfl rfl (gyes_t _) (fun hg => g_or hf (ev_gv rfl hg) (ev_gvand rfl hg)) (by decide) ?_; clear hf a; intro a hf
          refine gL hf (g_and hf rfl rfl) (by decide) ?_; clear hf a; intro a hf
          refine gL hf (g_mv hf rfl) (by decide) ?_; clear hf a; intro a hf
          refine ggL hf rfl rfl (gyes_f _) (fun hg => g_mv hf rfl) (by decide) ?_; clear hf a; intro a hf
          refine ggL hf rfl rfl (gyes_f _) (fun hg => g_eql hf (ev_gv rfl hg) rfl) (by decide) ?_; clear hf a; intro a hf
          refine ggL hf rfl rfl (gyes_f _) (fun hg => g_mv hf (ev_gv rfl hg)) (by decide) ?_; clear hf a; intro a hf
          refine ggL hf rfl rfl (gyes_gt _ _) (fun hg => g_mv hf rfl) (by decide) ?_; clear hf a; intro a hf
          refine ggL hf rfl rfl (gyes_gt _ _) (fun hg => g_fa (off' := 1) hf F47_1 rfl rfl) (by decide) ?_; clear hf a; intro a hf
          refine ggL hf rfl rfl (gyes_gt _ _) (fun hg => g_ld hf hs T3 (ev_gv rfl hg) (k := 3) rfl rfl) (by decide) ?_; clear hf a; intro a hf
          refine ggL hf rfl rfl (gyes_gt _ _) (fun hg => g_fa (off' := 0) hf F47_0 rfl rfl) (by decide) ?_; clear hf a; intro a hf
          refine ggL hf rfl rfl (gyes_gt _ _) (fun hg => g_ld hf hs T3 (ev_gv rfl hg) (k := 3) rfl rfl) (by decide) ?_; clear hf a; intro a hf
          refine ggL hf rfl rfl (gyes_gt _ _) (fun hg => g_subI hf (ev_gv rfl hg) (ev_gv rfl hg) (by omega)) (by decide) ?_; clear hf a; intro a hf
          refine callG hf hs rfl rfl (gyes_gt _ _) (fun hg => ⟨_, _, _, _, c_Fits _ _ _ _, rfl, evs_cons (ev_gv rfl hg) (evs_cons rfl (evs_cons (ev_gv rfl hg) evs_nil)), rfl⟩) E39 (by decide) ?_; clear hs hf a; intro w a hs hf
          refine ggL hf rfl rfl (gyes_gt _ _) (fun hg => g_not hf (ev_gv rfl hg)) (by decide) ?_; clear hf a; intro a hf
          refine ggL hf rfl rfl (gyes_f _) (fun hg => g_and hf (ev_gv rfl hg) (ev_gvand rfl hg)) (by decide) ?_; clear hf a; intro a hf
          refine gL hf (g_or hf rfl rfl) (by decide) ?_; clear hf a; intro a hf
          refine e_nil ?_
          refine c_cond hf rfl (fun hc4 => ?_) (fun hc4 => ?_)
          · skip
            exfalso; rcases shorter_cases hck hin with ⟨hs4, _⟩ | ⟨j, hs4, hj0, hj1, _⟩; (rw [hs4] at hc4; simp at hc4); (rw [hs4] at hc4; simp [fitsB] at hc4; simp only [flapA, List.getD_eq_getElem?_getD] at hj1; omega)
          · skip
            refine c_skip (q_thenN ?_)
            refine c_reg ?_
            refine gL hf (g_ldW hf hs T25 rfl (k := 2) rfl rfl) (by decide) ?_; clear hf a; intro a hf
            refine vL hf (v_alloc hs T25 rfl) (by decide) ?_; clear hs hf a; rintro _ w ⟨b5, rfl, hs⟩ a hf
            refine uL (u_stW hf hs T25 rfl rfl rfl (k := 0) rfl rfl rfl) ?_; clear hs; intro w hs; dsimp only [List.set] at hs
            refine e_nil ?_
            refine c_reg ?_
            refine vL hf (v_lits (len := 0) hf hs SL22 T49 .nil rfl rfl rfl rfl (by decide) rfl) (by decide) ?_; clear hs hf a; rintro _ w ⟨b6, rfl, hs⟩ a hf
            refine gL hf (g_fa (off' := 2) hf F25_2 rfl rfl) (by decide) ?_; clear hf a; intro a hf
            refine gL hf (g_ld hf hs T22 rfl (k := 7) rfl rfl) (by decide) ?_; clear hf a; intro a hf
            refine vL hf (v_accN (e := 49) (o := some (b6, #[])) (l := []) (l' := b.flaps) (len := 0) hf 0 hs rfl ⟨0, rfl, Nat.le_refl _, by omega, rfl⟩ AP22 (enc := encF) (fun _ => rfl) (by decide) (by intro x v hv9; simp only [encF, List.mem_cons, List.not_mem_nil, or_false] at hv9; rcases hv9 with rfl | rfl | rfl | rfl | rfl <;> rfl) rfl rfl rfl (hs.rd (.tail _ (.head _))) (by omega) (by decide)) (by decide) ?_; clear hs hf a; rintro _ w ⟨oz, rfl, hoz, hs⟩ a hf; dsimp only [List.take, List.nil_append] at hs
            rw [List.nil_append] at hoz
            obtain ⟨bcz, csz, rfl⟩ : ∃ bc cs, oz = some (bc, cs) := acc_some hoz (by omega)
            simp only [Nat.zero_add] at hf; dsimp only [accV] at hf; dsimp only [accH, List.cons_append, List.nil_append] at hs
            have hcapz := hoz.cap (sz := 5) (by decide)
            refine gL hf (g_fa (off' := 2) hf F25_2 rfl rfl) (by decide) ?_; clear hf a; intro a hf
            refine uL (u_st hf hs T22 rfl rfl rfl (k := 1) rfl (Nat.le_of_ble_eq_true rfl)) ?_; clear hs; intro w hs; dsimp only [List.set] at hs
            refine e_nil ?_
            refine c_reg ?_
            refine gL hf (g_fa (off' := 2) hf F25_2 rfl rfl) (by decide) ?_; clear hf a; intro a hf
            refine gL hf (g_ld hf hs T22 rfl (k := 1) rfl rfl) (by decide) ?_; clear hf a; intro a hf
            refine gL hf (g_mv hf rfl) (by decide) ?_; clear hf a; intro a hf
            refine gL hf (g_fa (off' := 0) hf F47_0 rfl rfl) (by decide) ?_; clear hf a; intro a hf
            refine gL hf (g_ld hf hs T3 rfl (k := 5) rfl rfl) (by decide) ?_; clear hf a; intro a hf
            refine gL hf (g_ixO hf SL22 rfl rfl (by omega)) (by decide) ?_; clear hf a; intro a hf
            refine gL hf (g_fa hf F49_1 rfl rfl) (by decide) ?_; clear hf a; intro a hf
            refine gL hf (g_fa hf F47_1 rfl rfl) (by decide) ?_; clear hf a; intro a hf
            refine uL (u_st hf hs T3 rfl rfl rfl (k := 0) rfl (acc_short (k := 0) hin hoz).2.1) ?_; clear hs; intro w hs; dsimp only [List.set] at hs
            have hoz2 := (acc_short (k := ((flapA b ki).rh - (flapA b ki).rl)) hin hoz).2.2
            rw [show (flapA b ki).rh - ((flapA b ki).rh - (flapA b ki).rl) = (flapA b ki).rl by omega] at hoz2
            refine e_nil ?_
            refine wp_seq ?_
            refine c_reg ?_
            refine gL hf (g_mv hf rfl) (by decide) ?_; clear hf a; intro a hf
            refine gL hf (g_neq hf rfl rfl) (by decide) ?_; clear hf a; intro a hf
            refine e_nil ?_
            refine c_cond hf rfl (fun hc5 => ?_) (fun hc5 => ?_)
            · skip
              have hz5 : allO (shortB b ki ((flapA b ki).rh - (flapA b ki).rl)) = [] := by rcases shorter_cases hck hin with ⟨hs4, h5⟩ | ⟨j, hs4, _⟩; (exact h5 _ hkz.1 hkz.2); (rw [hs4] at hc5; cases hc5)
              refine c_reg ?_
              refine gL hf (g_ldW hf hs T25 rfl (k := 1) rfl rfl) (by decide) ?_; clear hf a; intro a hf
              have hrdz : Rd encF 5 (some ⟨bcz, 0, none⟩) (shortB b ki ((flapA b ki).rh - (flapA b ki).rl)).flaps.length (shortB b ki ((flapA b ki).rh - (flapA b ki).rl)).flaps _ := hoz2.rdb (sz := 5) (fun _ => rfl) (by decide) (hs.own _ _ (.head _)).2
              have hshz : ShIn (shortB b ki ((flapA b ki).rh - (flapA b ki).rl)) (some ⟨bcz, 0, none⟩) (csz.size / 5) rA rc _ := ⟨hrdz, hs.rd (.tail _ (.tail _ (.head _))), by rw [short_len]; exact hcapz, h.rc_⟩
              have h9 := c_Orders (shortB b ki ((flapA b ki).rh - (flapA b ki).rl)) _ _ _ _ ge gz _ hshz (hs.rd (.tail _ (.tail _ (.tail _ (.tail _ (.head _))))))
              simp only [short_len] at h9
              refine callL hf hs (h9) rfl rfl rfl E25 (by decide) ?_; clear hs hf a; intro w a hs hf
              rw [count_valid (valid_short hv hin hkz)] at hf
              refine gL hf (g_mv hf rfl) (by decide) ?_; clear hf a; intro a hf
              refine gL hf (g_ext hf rfl rfl) (by decide) ?_; clear hf a; intro a hf
              refine gL hf (g_ext hf rfl rfl) (by decide) ?_; clear hf a; intro a hf
              refine gL hf (g_as hf rfl) (by decide) ?_; clear hf a; intro a hf
              refine gL hf (g_as hf rfl) (by decide) ?_; clear hf a; intro a hf
              refine e_nil ?_
              refine c_reg ?_
              refine gL hf (g_mv hf rfl) (by decide) ?_; clear hf a; intro a hf
              refine gL hf (g_eql hf rfl rfl) (by decide) ?_; clear hf a; intro a hf
              refine gL hf (g_mv hf rfl) (by decide) ?_; clear hf a; intro a hf
              refine ggL hf rfl rfl (gyes_t _) (fun hg => g_mv hf rfl) (by decide) ?_; clear hf a; intro a hf
              refine ggL hf rfl rfl (gyes_t _) (fun hg => g_eql hf (ev_gv rfl hg) rfl) (by decide) ?_; clear hf a; intro a hf
              refine gL hf (g_and hf rfl rfl) (by decide) ?_; clear hf a; intro a hf
              refine gL hf (g_mv hf rfl) (by decide) ?_; clear hf a; intro a hf
              refine callG hf hs rfl rfl (gyes_t _) (fun hg => ⟨_, _, _, _, c_folded ge gz _ (hs.rd (.tail _ (.tail _ (.tail _ (.tail _ (.head _)))))), rfl, evs_nil, rfl⟩) E21 (by decide) ?_; clear hs hf a; intro w a hs hf
              refine gL hf (g_and hf rfl rfl) (by decide) ?_; clear hf a; intro a hf
              refine gL hf (g_as hf rfl) (by decide) ?_; clear hf a; intro a hf
              refine e_nil ?_
              refine c_ret (q_thenR ?_)
              refine e_ret1 hf rfl rfl ?_
              exact ⟨by rw [hz5]; rfl, hs.below⟩
            · skip
              obtain ⟨j9, hs9, hj0, hj1, hj2, hj3⟩ : ∃ j : Int, shorterP b ki = (j, 0) ∧ 0 ≤ j ∧ j ≤ ((flapA b ki).rh - (flapA b ki).rl) ∧ allO (shortB b ki j) ≠ [] ∧ ∀ k, 0 ≤ k → k < j → allO (shortB b ki k) = [] := by rcases shorter_cases hck hin with ⟨hs4, _⟩ | h5; (rw [hs4] at hc5; cases hc5); (exact h5)
              have e9 : (shorterP b ki).1 = j9 := by rw [hs9]
              rw [e9] at hf
              have hlp := List.length_pos_iff.2 hj2
              refine c_skip (q_thenN ?_)
              refine c_reg ?_
              refine gL hf (g_fa (off' := 2) hf F25_2 rfl rfl) (by decide) ?_; clear hf a; intro a hf
              refine gL hf (g_ld hf hs T22 rfl (k := 1) rfl rfl) (by decide) ?_; clear hf a; intro a hf
              refine gL hf (g_mv hf rfl) (by decide) ?_; clear hf a; intro a hf
              refine gL hf (g_fa (off' := 1) hf F47_1 rfl rfl) (by decide) ?_; clear hf a; intro a hf
              refine gL hf (g_ld hf hs T3 rfl (k := 5) rfl rfl) (by decide) ?_; clear hf a; intro a hf
              refine gL hf (g_mv hf rfl) (by decide) ?_; clear hf a; intro a hf
              refine gL hf (g_subI hf rfl rfl (by simp only [flapA] at hj1; omega)) (by decide) ?_; clear hf a; intro a hf
              refine gL hf (g_ixO hf SL22 rfl rfl (by omega)) (by decide) ?_; clear hf a; intro a hf
              refine gL hf (g_fa hf F49_1 rfl rfl) (by decide) ?_; clear hf a; intro a hf
              refine gL hf (g_fa hf F47_1 rfl rfl) (by decide) ?_; clear hf a; intro a hf
              refine uL (u_st hf hs T3 rfl rfl rfl (k := 0) rfl (by rw [Array.size_setIfInBounds]; exact (acc_short (k := 0) hin hoz).2.1)) ?_; clear hs; intro w hs; dsimp only [List.set] at hs
              rw [set_twice] at hs
              have hoz3 := (acc_short (k := j9) hin hoz).2.2
              refine e_nil ?_
              refine c_reg ?_
              refine gL hf (g_ldW hf hs T25 rfl (k := 1) rfl rfl) (by decide) ?_; clear hf a; intro a hf
              have hrdz : Rd encF 5 (some ⟨bcz, 0, none⟩) (shortB b ki j9).flaps.length (shortB b ki j9).flaps _ := hoz3.rdb (sz := 5) (fun _ => rfl) (by decide) (hs.own _ _ (.head _)).2
              have hshz : ShIn (shortB b ki j9) (some ⟨bcz, 0, none⟩) (csz.size / 5) rA rc _ := ⟨hrdz, hs.rd (.tail _ (.tail _ (.head _))), by rw [short_len]; exact hcapz, h.rc_⟩
              have h9 := c_Orders (shortB b ki j9) _ _ _ _ ge gz _ hshz (hs.rd (.tail _ (.tail _ (.tail _ (.tail _ (.head _))))))
              simp only [short_len] at h9
              refine callL hf hs (h9) rfl rfl rfl E25 (by decide) ?_; clear hs hf a; intro w a hs hf
              rw [count_valid (valid_short hv hin ⟨hj0, hj1⟩)] at hf
              refine gL hf (g_mv hf rfl) (by decide) ?_; clear hf a; intro a hf
              refine gL hf (g_ext hf rfl rfl) (by decide) ?_; clear hf a; intro a hf
              refine gL hf (g_ext hf rfl rfl) (by decide) ?_; clear hf a; intro a hf
              refine gL hf (g_as hf rfl) (by decide) ?_; clear hf a; intro a hf
              refine gL hf (g_as hf rfl) (by decide) ?_; clear hf a; intro a hf
              refine e_nil ?_
              refine wp_seq ?_
              refine c_reg ?_
              refine gL hf (g_mv hf rfl) (by decide) ?_; clear hf a; intro a hf
              refine gL hf (g_neq hf rfl rfl) (by decide) ?_; clear hf a; intro a hf
              refine gL hf (g_mv hf rfl) (by decide) ?_; clear hf a; intro a hf
              refine ggL hf rfl rfl (gyes_f _) (fun hg => g_mv hf rfl) (by decide) ?_; clear hf a; intro a hf
              refine ggL hf rfl rfl (gyes_f _) (fun hg => g_lss hf (ev_gv rfl hg) rfl) (by decide) ?_; clear hf a; intro a hf
              refine gL hf (g_or hf rfl rfl) (by decide) ?_; clear hf a; intro a hf
              refine gL hf (g_mv hf rfl) (by decide) ?_; clear hf a; intro a hf
              refine ggL hf rfl rfl (gyes_f _) (fun hg => g_mv hf rfl) (by decide) ?_; clear hf a; intro a hf
              refine ggL hf rfl rfl (gyes_f _) (fun hg => g_eql hf (ev_gv rfl hg) rfl) (by decide) ?_; clear hf a; intro a hf
              refine gL hf (g_or hf rfl rfl) (by decide) ?_; clear hf a; intro a hf
              refine e_nil ?_
              refine c_cond hf rfl (fun hc6 => ?_) (fun hc6 => ?_)
              · skip
                refine c_reg ?_
                refine gL hf (g_mv hf rfl) (by decide) ?_; clear hf a; intro a hf
                refine gL hf (g_eql hf rfl rfl) (by decide) ?_; clear hf a; intro a hf
                refine gL hf (g_mv hf rfl) (by decide) ?_; clear hf a; intro a hf
                refine ggL hf rfl rfl (gyes_t _) (fun hg => g_mv hf rfl) (by decide) ?_; clear hf a; intro a hf
                refine ggL hf rfl rfl (gyes_t _) (fun hg => g_gtr hf (ev_gv rfl hg) rfl) (by decide) ?_; clear hf a; intro a hf
                refine gL hf (g_and hf rfl rfl) (by decide) ?_; clear hf a; intro a hf
                refine gL hf (g_mv hf rfl) (by decide) ?_; clear hf a; intro a hf
                refine callG hf hs rfl rfl (gyes_t _) (fun hg => ⟨_, _, _, _, c_folded ge gz _ (hs.rd (.tail _ (.tail _ (.tail _ (.tail _ (.head _)))))), rfl, evs_nil, rfl⟩) E21 (by decide) ?_; clear hs hf a; intro w a hs hf
                refine gL hf (g_and hf rfl rfl) (by decide) ?_; clear hf a; intro a hf
                refine gL hf (g_as hf rfl) (by decide) ?_; clear hf a; intro a hf
                refine e_nil ?_
                refine c_ret (q_thenR ?_)
                refine e_ret1 hf rfl rfl ?_
                exact ⟨by rw [decide_eq_true (show (0 : Int) < (((allO (shortB b ki j9)).length : Nat) : Int) by omega)]; rfl, hs.below⟩
              · skip
                have hj9 : j9 ≠ 0 := by intro e; rw [e] at hc6; simp at hc6
                have hkm : 0 ≤ j9 - 1 ∧ j9 - 1 ≤ ((flapA b ki).rh - (flapA b ki).rl) := ⟨by omega, by omega⟩
                have hz6 := hj3 (j9 - 1) (by omega) (by omega)
                refine c_skip (q_thenN ?_)
                refine c_reg ?_
                refine gL hf (g_fa (off' := 2) hf F25_2 rfl rfl) (by decide) ?_; clear hf a; intro a hf
                refine gL hf (g_ld hf hs T22 rfl (k := 1) rfl rfl) (by decide) ?_; clear hf a; intro a hf
                refine gL hf (g_mv hf rfl) (by decide) ?_; clear hf a; intro a hf
                refine gL hf (g_fa (off' := 1) hf F47_1 rfl rfl) (by decide) ?_; clear hf a; intro a hf
                refine gL hf (g_ld hf hs T3 rfl (k := 5) rfl rfl) (by decide) ?_; clear hf a; intro a hf
                refine gL hf (g_mv hf rfl) (by decide) ?_; clear hf a; intro a hf
                refine gL hf (g_subI hf rfl rfl (by simp only [flapA] at hj1; omega)) (by decide) ?_; clear hf a; intro a hf
                refine gL hf (g_addI hf rfl rfl (by simp only [flapA] at hj1; omega)) (by decide) ?_; clear hf a; intro a hf
                refine gL hf (g_ixO hf SL22 rfl rfl (by omega)) (by decide) ?_; clear hf a; intro a hf
                refine gL hf (g_fa hf F49_1 rfl rfl) (by decide) ?_; clear hf a; intro a hf
                refine gL hf (g_fa hf F47_1 rfl rfl) (by decide) ?_; clear hf a; intro a hf
                refine uL (u_st hf hs T3 rfl rfl rfl (k := 0) rfl (by rw [Array.size_setIfInBounds]; exact (acc_short (k := 0) hin hoz).2.1)) ?_; clear hs; intro w hs; dsimp only [List.set] at hs
                rw [set_twice] at hs
                have hoz4 := (acc_short (k := j9 - 1) hin hoz).2.2
                rw [show (flapA b ki).rh - (j9 - 1) = (flapA b ki).rh - j9 + 1 by omega] at hoz4
                refine e_nil ?_
                refine c_reg ?_
                refine gL hf (g_ldW hf hs T25 rfl (k := 1) rfl rfl) (by decide) ?_; clear hf a; intro a hf
                have hrdz : Rd encF 5 (some ⟨bcz, 0, none⟩) (shortB b ki (j9 - 1)).flaps.length (shortB b ki (j9 - 1)).flaps _ := hoz4.rdb (sz := 5) (fun _ => rfl) (by decide) (hs.own _ _ (.head _)).2
                have hshz : ShIn (shortB b ki (j9 - 1)) (some ⟨bcz, 0, none⟩) (csz.size / 5) rA rc _ := ⟨hrdz, hs.rd (.tail _ (.tail _ (.head _))), by rw [short_len]; exact hcapz, h.rc_⟩
                have h9 := c_Orders (shortB b ki (j9 - 1)) _ _ _ _ ge gz _ hshz (hs.rd (.tail _ (.tail _ (.tail _ (.tail _ (.head _))))))
                simp only [short_len] at h9
                refine callL hf hs (h9) rfl rfl rfl E25 (by decide) ?_; clear hs hf a; intro w a hs hf
                rw [count_valid (valid_short hv hin hkm)] at hf
                refine gL hf (g_mv hf rfl) (by decide) ?_; clear hf a; intro a hf
                refine gL hf (g_ext hf rfl rfl) (by decide) ?_; clear hf a; intro a hf
                refine gL hf (g_ext hf rfl rfl) (by decide) ?_; clear hf a; intro a hf
                refine gL hf (g_as hf rfl) (by decide) ?_; clear hf a; intro a hf
                refine gL hf (g_as hf rfl) (by decide) ?_; clear hf a; intro a hf
                refine e_nil ?_
                refine c_reg ?_
                refine gL hf (g_mv hf rfl) (by decide) ?_; clear hf a; intro a hf
                refine gL hf (g_eql hf rfl rfl) (by decide) ?_; clear hf a; intro a hf
                refine gL hf (g_mv hf rfl) (by decide) ?_; clear hf a; intro a hf
                refine ggL hf rfl rfl (gyes_t _) (fun hg => g_mv hf rfl) (by decide) ?_; clear hf a; intro a hf
                refine ggL hf rfl rfl (gyes_t _) (fun hg => g_eql hf (ev_gv rfl hg) rfl) (by decide) ?_; clear hf a; intro a hf
                refine gL hf (g_and hf rfl rfl) (by decide) ?_; clear hf a; intro a hf
                refine gL hf (g_mv hf rfl) (by decide) ?_; clear hf a; intro a hf
                refine callG hf hs rfl rfl (gyes_t _) (fun hg => ⟨_, _, _, _, c_folded ge gz _ (hs.rd (.tail _ (.tail _ (.tail _ (.tail _ (.head _)))))), rfl, evs_nil, rfl⟩) E21 (by decide) ?_; clear hs hf a; intro w a hs hf
                refine gL hf (g_and hf rfl rfl) (by decide) ?_; clear hf a; intro a hf
                refine gL hf (g_as hf rfl) (by decide) ?_; clear hf a; intro a hf
                refine e_nil ?_
                refine c_ret ?_
                refine e_ret1 hf rfl rfl ?_
                exact ⟨by rw [hz6]; rfl, hs.below⟩
    · skip
      refine oV hf rfl (v_alloc hs T25 rfl) (by decide) (fun _ _ ⟨_, _, h⟩ => h.sub (.cons _ (.refl _))) ?_; clear hs hf hS a; rintro _ w ⟨bw, rfl, hs⟩ hS a hf
      refine one (i := 2) (by kernel_rfl) ?_
      refine oV hf rfl (v_alloc hs T25 rfl) (by decide) (fun _ _ ⟨_, _, h⟩ => h.sub (.cons _ (.cons _ (.refl _)))) ?_; clear hs hf hS a; rintro _ w ⟨bx, rfl, hs⟩ hS a hf
      refine one (i := 4) (by kernel_rfl) ?_
      refine oU rfl (u_stW hf hs T25 rfl rfl rfl (k := 0) rfl rfl rfl) (fun _ h => h.sub (.cons _ (.cons _ (.refl _)))) ?_; clear hs hS; intro w hs hS; dsimp only [List.set] at hs
      refine one (i := 5) (by kernel_rfl) ?_
      refine oU rfl (u_stW hf hs T25 rfl rfl rfl (k := 1) rfl rfl rfl) (fun _ h => h.sub (.cons _ (.cons _ (.refl _)))) ?_; clear hs hS; intro w hs hS; dsimp only [List.set] at hs
      refine e_done (by kernel_rfl) ?_
      refine c_reg ?_
      refine vL hf (v_lits (len := 0) hf hs SL22 T49 .nil rfl rfl rfl rfl (by decide) rfl) (by decide) ?_; clear hs hf a; rintro _ w ⟨b4, rfl, hs⟩ a hf
      refine gL hf (g_fa (off' := 2) hf F25_2 rfl rfl) (by decide) ?_; clear hf a; intro a hf
      refine gL hf (g_ld hf hs T22 rfl (k := 5) rfl rfl) (by decide) ?_; clear hf a; intro a hf
      refine vL hf (v_accN (e := 49) (o := some (b4, #[])) (l := []) (l' := b.flaps) (len := 0) hf 0 hs rfl ⟨0, rfl, Nat.le_refl _, by omega, rfl⟩ AP22 (enc := encF) (fun _ => rfl) (by decide) (by intro x v hv9; simp only [encF, List.mem_cons, List.not_mem_nil, or_false] at hv9; rcases hv9 with rfl | rfl | rfl | rfl | rfl <;> rfl) rfl rfl rfl (hs.rd (.head _)) (by omega) (by decide)) (by decide) ?_; clear hs hf a; rintro _ w ⟨ox, rfl, hox, hs⟩ a hf; dsimp only [List.take, List.nil_append] at hs
      rw [List.nil_append] at hox
      obtain ⟨bcx, csx, rfl⟩ : ∃ bc cs, ox = some (bc, cs) := acc_some hox (by omega)
      simp only [Nat.zero_add] at hf; dsimp only [accV] at hf; dsimp only [accH, List.cons_append, List.nil_append] at hs
      have hcapx := hox.cap (sz := 5) (by decide)
      refine gL hf (g_fa (off' := 2) hf F25_2 rfl rfl) (by decide) ?_; clear hf a; intro a hf
      refine uL (u_st hf hs T22 rfl rfl rfl (k := 1) rfl (Nat.le_of_ble_eq_true rfl)) ?_; clear hs; intro w hs; dsimp only [List.set] at hs
      refine e_nil ?_
      refine c_draw _ 11 Mx rfl hs (fun _ h => h.sub (.cons _ (.refl _))) ?_; intro w hs hS
      refine gA hf hS (i := 0) rfl (by kernel_rfl) (fun w hs => g_fa (off' := 2) hf F25_2 rfl rfl) (by decide) ?_; clear hf a; intro a hf
      refine gA hf hS (i := 1) rfl (by kernel_rfl) (fun w hs => g_ld hf hs T22 rfl (k := 0) rfl rfl) (by decide) ?_; clear hf a; intro a hf
      refine gA hf hS (i := 2) rfl (by kernel_rfl) (fun w hs => g_mv hf rfl) (by decide) ?_; clear hf a; intro a hf
      refine gA hf hS (i := 3) rfl (by kernel_rfl) (fun w hs => g_ldW hf hs T47 rfl (k := 2) rfl rfl) (by decide) ?_; clear hf a; intro a hf
      refine gA hf hS (i := 4) rfl (by kernel_rfl) (fun w hs => g_ixA hf AR26 rfl rfl (by omega)) (by decide) ?_; clear hf a; intro a hf
      refine gA hf hS (i := 5) rfl (by kernel_rfl) (fun w hs => g_ld hf hs T3 rfl (k := 3) rfl rfl) (by decide) ?_; clear hf a; intro a hf
      refine one (i := 6) (by kernel_rfl) ?_
      refine oCall hf hs rfl (c_Drawn _ _ _ (by omega) _) rfl rfl rfl E47 (by decide) (fun _ h => h.sub (.cons _ (.refl _))) ?_; clear hs hf hS a; intro w a hs hS hf
      obtain ⟨dz, hdz⟩ : ∃ x, x = drawnZ (b.flaps.getD ki.toNat default).rl (b.flaps.getD ki.toNat default).rh n1 := ⟨_, rfl⟩
      rw [← hdz] at hf
      have hdr := drawnZ_range (lo := (b.flaps.getD ki.toNat default).rl) (hi := (b.flaps.getD ki.toNat default).rh) n1 (by omega)
      rw [← hdz] at hdr
      have hkx : 0 ≤ ((flapA b ki).rh - dz) ∧ ((flapA b ki).rh - dz) ≤ ((flapA b ki).rh - (flapA b ki).rl) := ⟨by simp only [flapA]; omega, by simp only [flapA]; omega⟩
      have hvx := valid_short hv hin hkx
      have hckx := valid_check hvx
      have hordx : ordB (shortB b ki ((flapA b ki).rh - dz)) (drawnL b l) = true := (ordB_len (short_len _ _ _) _).trans (drawn_ord b l)
      have hLx := less_short hv hin hkx
      refine gA hf hS (i := 7) rfl (by kernel_rfl) (fun w hs => g_ixO hf SL22 rfl rfl (by omega)) (by decide) ?_; clear hf a; intro a hf
      refine gA hf hS (i := 8) rfl (by kernel_rfl) (fun w hs => g_fa hf F49_1 rfl rfl) (by decide) ?_; clear hf a; intro a hf
      refine gA hf hS (i := 9) rfl (by kernel_rfl) (fun w hs => g_fa hf F47_1 rfl rfl) (by decide) ?_; clear hf a; intro a hf
      refine one (i := 10) (by kernel_rfl) ?_
      refine oU rfl (u_st hf hs T3 rfl rfl rfl (k := 0) rfl (acc_short (k := 0) hin hox).2.1) (fun _ h => h.sub (.cons _ (.refl _))) ?_; clear hs hS; intro w hs hS; dsimp only [List.set] at hs
      have hox2 := (acc_short (k := ((flapA b ki).rh - dz)) hin hox).2.2
      rw [show (flapA b ki).rh - ((flapA b ki).rh - dz) = dz by omega] at hox2
      refine e_done (by kernel_rfl) ?_
      refine wp_seq ?_
      refine c_reg ?_
      refine gL hf (g_fa (off' := 3) hf F25_3 rfl rfl) (by decide) ?_; clear hf a; intro a hf
      refine gL hf (g_ld hf hs T23 rfl (k := 5) rfl rfl) (by decide) ?_; clear hf a; intro a hf
      refine gL hf (g_len hf SL23 rfl) (by decide) ?_; clear hf a; intro a hf
      refine gL hf (g_gtr hf rfl rfl) (by decide) ?_; clear hf a; intro a hf
      refine e_nil ?_
      refine c_cond hf rfl (fun hc2 => ?_) (fun hc2 => ?_)
      · skip
        have hrp := of_decide_eq_true hc2
        refine c_reg ?_
        refine gL hf (g_ixA hf AR26 rfl rfl (by omega)) (by decide) ?_; clear hf a; intro a hf
        refine gL hf (g_ld hf hs T3 rfl (k := 4) rfl rfl) (by decide) ?_; clear hf a; intro a hf
        refine gL hf (g_fa (off' := 3) hf F25_3 rfl rfl) (by decide) ?_; clear hf a; intro a hf
        refine gL hf (g_ld hf hs T23 rfl (k := 5) rfl rfl) (by decide) ?_; clear hf a; intro a hf
        refine gL hf (g_len hf SL23 rfl) (by decide) ?_; clear hf a; intro a hf
        refine callL hf hs (c_Spin _ _ (by omega) _) rfl rfl rfl E38 (by decide) ?_; clear hs hf a; intro w a hs hf
        refine gL hf (g_as hf rfl) (by decide) ?_; clear hf a; intro a hf
        refine e_nil ?_
        obtain ⟨ri, hri⟩ : ∃ x, x = spin n1 (b.rules.length : Nat) := ⟨_, rfl⟩
        rw [← hri] at hf
        have h2 := spin_rng n1 (m := (b.rules.length : Nat)) (by omega)
        rw [← hri] at h2
        have hvy := valid_rm hv (i := ri) h2.1
        have hordy : ordB (rmB b ri) (drawnL b l) = true := drawn_ord b l
        have hLy := less_rm (b := b) (i := ri) h2.1
        refine c_draw1 _ 14 Mx rfl hs (fun _ h => h.sub (.cons_cons _ (.cons_cons _ (.cons _ (.refl _))))) ?_; intro w hs hS
        refine gA hf hS (i := 1) rfl (by kernel_rfl) (fun w hs => g_fa (off' := 3) hf F25_3 rfl rfl) (by decide) ?_; clear hf a; intro a hf
        refine gA hf hS (i := 2) rfl (by kernel_rfl) (fun w hs => g_ld hf hs T23 rfl (k := 4) rfl rfl) (by decide) ?_; clear hf a; intro a hf
        refine gA hf hS (i := 3) rfl (by kernel_rfl) (fun w hs => g_mv hf rfl) (by decide) ?_; clear hf a; intro a hf
        refine gA hf hS (i := 4) rfl (by kernel_rfl) (fun w hs => g_slH hf SL23 rfl rfl (by have := h.rc_; omega)) (by decide) ?_; clear hf a; intro a hf
        refine gA hf hS (i := 6) rfl (by kernel_rfl) (fun w hs => g_fa (off' := 3) hf F25_3 rfl rfl) (by decide) ?_; clear hf a; intro a hf
        refine gA hf hS (i := 7) rfl (by kernel_rfl) (fun w hs => g_ld hf hs T23 rfl (k := 4) rfl rfl) (by decide) ?_; clear hf a; intro a hf
        refine gA hf hS (i := 8) rfl (by kernel_rfl) (fun w hs => g_mv hf rfl) (by decide) ?_; clear hf a; intro a hf
        refine gA hf hS (i := 9) rfl (by kernel_rfl) (fun w hs => g_addI hf rfl rfl (by omega)) (by decide) ?_; clear hf a; intro a hf
        refine gA hf hS (i := 10) rfl (by kernel_rfl) (fun w hs => g_slL hf SL23 rfl rfl (by omega)) (by decide) ?_; clear hf a; intro a hf
        refine one (i := 0) (by kernel_rfl) ?_
        refine oV hf rfl (v_lits (len := 0) hf hs SL23 T64 .nil rfl rfl rfl rfl (by decide) rfl) (by decide) (fun _ _ ⟨_, _, h⟩ => h.sub (.cons _ (.cons_cons _ (.cons_cons _ (.cons _ (.refl _)))))) ?_; clear hs hf hS a; rintro _ w ⟨b5, rfl, hs⟩ hS a hf
        refine one (i := 5) (by kernel_rfl) ?_
        refine oV hf rfl (v_accN (e := 64) (o := some (b5, #[])) (l := []) (l' := b.rules.take ri.toNat) (len := 0) hf 0 hs rfl ⟨0, rfl, Nat.le_refl _, by omega, rfl⟩ AP23 (enc := encR) (fun _ => rfl) (by decide) (by intro x v hv9; simp only [encR, List.mem_cons, List.not_mem_nil, or_false] at hv9; rcases hv9 with rfl | rfl <;> rfl) rfl rfl rfl ((hs.rd (.tail _ (.head _))).take _ (by omega)) (by omega) (by decide)) (by decide) (fun _ _ ⟨_, _, _, h⟩ => h.sub (List.Sublist.trans (.cons_cons _ (.cons_cons _ (.cons _ (.refl _)))) (List.sublist_append_right _ _))) ?_; clear hs hf hS a; rintro _ w ⟨oy1, rfl, hoy1, hs⟩ hS a hf; dsimp only [List.take, List.nil_append] at hs
        refine one (i := 11) (by kernel_rfl) ?_
        refine oV hf rfl (v_accN (e := 64) (o := oy1) (l := [] ++ b.rules.take ri.toNat) (l' := b.rules.drop (ri + 1).toNat) hf 0 hs rfl hoy1 AP23 (enc := encR) (fun _ => rfl) (by decide) (by intro x v hv9; simp only [encR, List.mem_cons, List.not_mem_nil, or_false] at hv9; rcases hv9 with rfl | rfl <;> rfl) (by simp; omega) rfl rfl ((hs.rd (.tail _ (.head _))).drop _ (by omega) h.rc_) (by omega) (by decide)) (by decide) (fun _ _ ⟨_, _, _, h⟩ => h.sub (List.Sublist.trans (.cons_cons _ (.cons_cons _ (.cons _ (.refl _)))) (List.sublist_append_right _ _))) ?_; clear hs hf hS a; rintro _ w ⟨oy2, rfl, hoy2, hs⟩ hS a hf; dsimp only [List.take, List.nil_append] at hs
        rw [show 0 + ri.toNat + (b.rules.length - (ri + 1).toNat) = ([] ++ b.rules.take ri.toNat ++ b.rules.drop (ri + 1).toNat).length by simp only [List.length_append, List.length_nil, List.length_take, List.length_drop]; omega] at hf
        obtain ⟨Ay, cy, ey, hly, hs⟩ := hs.freeze (e := 64) (o := oy2) (enc := encR) (sz := 2) 0 rfl hoy2 (fun _ => rfl) (by decide)
        dsimp only [List.take, List.nil_append] at hs; rw [ey] at hf
        refine gA hf hS (i := 12) rfl (by kernel_rfl) (fun w hs => g_fa (off' := 3) hf F25_3 rfl rfl) (by decide) ?_; clear hf a; intro a hf
        refine one (i := 13) (by kernel_rfl) ?_
        refine oU rfl (u_st hf hs T23 rfl rfl rfl (k := 2) rfl (Nat.le_of_ble_eq_true rfl)) (fun _ h => (h.sub (.cons_cons _ (.cons_cons _ (.cons _ (.refl _))))).subD (fun _ h => (.tail _ h))) ?_; clear hs hS; intro w hs hS; dsimp only [List.set] at hs
        refine e_done1 (by kernel_rfl) ?_
        refine q_thenN ?_
        refine c_reg ?_
        refine gL hf (g_ldW hf hs T25 rfl (k := 5) rfl rfl) (by decide) ?_; clear hf a; intro a hf
        refine gL hf (g_mv hf rfl) (by decide) ?_; clear hf a; intro a hf
        refine callX hf hs (c_drawn b _ _ _ _ _ _ l hv _ ⟨hs.rd (.tail _ (.head _)), hs.rd (.tail _ (.tail _ (.head _))), h.fc_, h.rc_⟩ (hs.rd (.tail _ (.tail _ (.tail _ (.head _)))))) rfl rfl rfl E42 (by decide) ?_; intro v w1 a hR hb hs1 hf; obtain ⟨Ad, cd, rfl, hou⟩ := hR; replace hs := hs.fresh hs1 (outFresh hou); clear hs1 hb
        refine gL hf (g_as hf rfl) (by decide) ?_; clear hf a; intro a hf
        refine e_nil ?_
        refine c_reg ?_
        refine gL hf (g_ldW hf hs T25 rfl (k := 5) rfl rfl) (by decide) ?_; clear hf a; intro a hf
        refine gL hf (g_mv hf rfl) (by decide) ?_; clear hf a; intro a hf
        refine callL hf hs (c_Does b _ _ _ _ _ _ (drawnL b l) ge gz hck _ ⟨hs.rd (.tail _ (.tail _ (.head _))), hs.rd (.tail _ (.tail _ (.tail _ (.head _)))), h.fc_, h.rc_⟩ (hs.rd (.head _)) (hs.rd (.tail _ (.tail _ (.tail _ (.tail _ (.tail _ (.head _)))))))) rfl rfl rfl E19 (by decide) ?_; clear hs hf a; intro w a hs hf
        rw [does_ok hck (drawn_ord b l)] at hf
        refine gL hf (g_mv hf rfl) (by decide) ?_; clear hf a; intro a hf
        refine gL hf (g_ext hf rfl rfl) (by decide) ?_; clear hf a; intro a hf
        refine gL hf (g_ext hf rfl rfl) (by decide) ?_; clear hf a; intro a hf
        refine gL hf (g_as hf rfl) (by decide) ?_; clear hf a; intro a hf
        refine gL hf (g_as hf rfl) (by decide) ?_; clear hf a; intro a hf
        refine e_nil ?_
        refine c_reg ?_
        refine gL hf (g_ldW hf hs T25 rfl (k := 1) rfl rfl) (by decide) ?_; clear hf a; intro a hf
        refine gL hf (g_mv hf rfl) (by decide) ?_; clear hf a; intro a hf
        have hrdx : Rd encF 5 (some ⟨bcx, 0, none⟩) (shortB b ki ((flapA b ki).rh - dz)).flaps.length (shortB b ki ((flapA b ki).rh - dz)).flaps _ := hox2.rdb (sz := 5) (fun _ => rfl) (by decide) (hs.own _ _ (.head _)).2
        have hshx : ShIn (shortB b ki ((flapA b ki).rh - dz)) (some ⟨bcx, 0, none⟩) (csx.size / 5) rA rc _ := ⟨hrdx, hs.rd (.tail _ (.tail _ (.tail _ (.head _)))), by rw [short_len]; exact hcapx, h.rc_⟩
        have h9 := c_Does (shortB b ki ((flapA b ki).rh - dz)) _ _ _ _ _ cd (drawnL b l) ge gz hckx _ hshx (hs.rd (.head _)) (hs.rd (.tail _ (.tail _ (.tail _ (.tail _ (.tail _ (.head _)))))))
        simp only [short_len] at h9
        refine callL hf hs (h9) rfl rfl rfl E19 (by decide) ?_; clear hs hf a; intro w a hs hf
        rw [does_ok hckx hordx] at hf
        refine gL hf (g_mv hf rfl) (by decide) ?_; clear hf a; intro a hf
        refine gL hf (g_ext hf rfl rfl) (by decide) ?_; clear hf a; intro a hf
        refine gL hf (g_ext hf rfl rfl) (by decide) ?_; clear hf a; intro a hf
        refine gL hf (g_as hf rfl) (by decide) ?_; clear hf a; intro a hf
        refine gL hf (g_as hf rfl) (by decide) ?_; clear hf a; intro a hf
        refine e_nil ?_
        refine c_reg ?_
        refine gL hf (g_ldW hf hs T25 rfl (k := 2) rfl rfl) (by decide) ?_; clear hf a; intro a hf
        refine gL hf (g_mv hf rfl) (by decide) ?_; clear hf a; intro a hf
        refine callL hf hs (c_Does (rmB b ri) fA fc Ay cy _ _ (drawnL b l) ge gz (valid_check hvy) _ ⟨hs.rd (.tail _ (.tail _ (.head _))), hs.rd (.tail _ (.head _)), h.fc_, hly⟩ (hs.rd (.head _)) (hs.rd (.tail _ (.tail _ (.tail _ (.tail _ (.tail _ (.head _)))))))) rfl rfl rfl E19 (by decide) ?_; clear hs hf a; intro w a hs hf
        rw [does_ok (valid_check hvy) hordy] at hf
        refine gL hf (g_mv hf rfl) (by decide) ?_; clear hf a; intro a hf
        refine gL hf (g_ext hf rfl rfl) (by decide) ?_; clear hf a; intro a hf
        refine gL hf (g_ext hf rfl rfl) (by decide) ?_; clear hf a; intro a hf
        refine gL hf (g_as hf rfl) (by decide) ?_; clear hf a; intro a hf
        refine gL hf (g_as hf rfl) (by decide) ?_; clear hf a; intro a hf
        refine e_nil ?_
        refine c_reg ?_
        refine gL hf (g_ldW hf hs T25 rfl (k := 5) rfl rfl) (by decide) ?_; clear hf a; intro a hf
        refine callL hf hs (c_Orders b _ _ _ _ _ _ _ ⟨hs.rd (.tail _ (.tail _ (.head _))), hs.rd (.tail _ (.tail _ (.tail _ (.head _)))), h.fc_, h.rc_⟩ (hs.rd (.tail _ (.tail _ (.tail _ (.tail _ (.tail _ (.head _)))))))) rfl rfl rfl E25 (by decide) ?_; clear hs hf a; intro w a hs hf
        rw [count_valid hv] at hf
        refine gL hf (g_mv hf rfl) (by decide) ?_; clear hf a; intro a hf
        refine gL hf (g_ext hf rfl rfl) (by decide) ?_; clear hf a; intro a hf
        refine gL hf (g_ext hf rfl rfl) (by decide) ?_; clear hf a; intro a hf
        refine gL hf (g_as hf rfl) (by decide) ?_; clear hf a; intro a hf
        refine gL hf (g_as hf rfl) (by decide) ?_; clear hf a; intro a hf
        refine e_nil ?_
        refine c_reg ?_
        refine gL hf (g_ldW hf hs T25 rfl (k := 1) rfl rfl) (by decide) ?_; clear hf a; intro a hf
        have hrdx : Rd encF 5 (some ⟨bcx, 0, none⟩) (shortB b ki ((flapA b ki).rh - dz)).flaps.length (shortB b ki ((flapA b ki).rh - dz)).flaps _ := hox2.rdb (sz := 5) (fun _ => rfl) (by decide) (hs.own _ _ (.head _)).2
        have hshx : ShIn (shortB b ki ((flapA b ki).rh - dz)) (some ⟨bcx, 0, none⟩) (csx.size / 5) rA rc _ := ⟨hrdx, hs.rd (.tail _ (.tail _ (.tail _ (.head _)))), by rw [short_len]; exact hcapx, h.rc_⟩
        have h9 := c_Orders (shortB b ki ((flapA b ki).rh - dz)) _ _ _ _ ge gz _ hshx (hs.rd (.tail _ (.tail _ (.tail _ (.tail _ (.tail _ (.head _)))))))
        simp only [short_len] at h9
        refine callL hf hs (h9) rfl rfl rfl E25 (by decide) ?_; clear hs hf a; intro w a hs hf
        rw [count_valid hvx] at hf
        refine gL hf (g_mv hf rfl) (by decide) ?_; clear hf a; intro a hf
        refine gL hf (g_ext hf rfl rfl) (by decide) ?_; clear hf a; intro a hf
        refine gL hf (g_ext hf rfl rfl) (by decide) ?_; clear hf a; intro a hf
        refine gL hf (g_as hf rfl) (by decide) ?_; clear hf a; intro a hf
        refine gL hf (g_as hf rfl) (by decide) ?_; clear hf a; intro a hf
        refine e_nil ?_
        refine c_reg ?_
        refine gL hf (g_ldW hf hs T25 rfl (k := 2) rfl rfl) (by decide) ?_; clear hf a; intro a hf
        refine callL hf hs (c_Orders (rmB b ri) fA fc Ay cy ge gz _ ⟨hs.rd (.tail _ (.tail _ (.head _))), hs.rd (.tail _ (.head _)), h.fc_, hly⟩ (hs.rd (.tail _ (.tail _ (.tail _ (.tail _ (.tail _ (.head _)))))))) rfl rfl rfl E25 (by decide) ?_; clear hs hf a; intro w a hs hf
        rw [count_valid hvy] at hf
        refine gL hf (g_mv hf rfl) (by decide) ?_; clear hf a; intro a hf
        refine gL hf (g_ext hf rfl rfl) (by decide) ?_; clear hf a; intro a hf
        refine gL hf (g_ext hf rfl rfl) (by decide) ?_; clear hf a; intro a hf
        refine gL hf (g_as hf rfl) (by decide) ?_; clear hf a; intro a hf
        refine gL hf (g_as hf rfl) (by decide) ?_; clear hf a; intro a hf
        refine e_nil ?_
        refine wp_seq ?_
        have hw1 := hLx.worst hvx (drawnL b l); have hn1 := hLx.count hvx hv
        have hw2 := hLy.worst hvy (drawnL b l); have hn2 := hLy.count hvy hv
        refine c_reg ?_
        refine gL hf (g_mv hf rfl) (by decide) ?_; clear hf a; intro a hf
        refine gL hf (g_neq hf rfl rfl) (by decide) ?_; clear hf a; intro a hf
        refine gL hf (g_mv hf rfl) (by decide) ?_; clear hf a; intro a hf
        refine ggL hf rfl rfl (gyes_f _) (fun hg => g_mv hf rfl) (by decide) ?_; clear hf a; intro a hf
        refine ggL hf rfl rfl (gyes_f _) (fun hg => g_neq hf (ev_gv rfl hg) rfl) (by decide) ?_; clear hf a; intro a hf
        refine gL hf (g_or hf rfl rfl) (by decide) ?_; clear hf a; intro a hf
        refine gL hf (g_mv hf rfl) (by decide) ?_; clear hf a; intro a hf
        refine ggL hf rfl rfl (gyes_f _) (fun hg => g_mv hf rfl) (by decide) ?_; clear hf a; intro a hf
        refine ggL hf rfl rfl (gyes_f _) (fun hg => g_neq hf (ev_gv rfl hg) rfl) (by decide) ?_; clear hf a; intro a hf
        refine gL hf (g_or hf rfl rfl) (by decide) ?_; clear hf a; intro a hf
        refine gL hf (g_mv hf rfl) (by decide) ?_; clear hf a; intro a hf
        refine ggL hf rfl rfl (gyes_f _) (fun hg => g_mv hf rfl) (by decide) ?_; clear hf a; intro a hf
        refine ggL hf rfl rfl (gyes_f _) (fun hg => g_neq hf (ev_gv rfl hg) rfl) (by decide) ?_; clear hf a; intro a hf
        refine gL hf (g_or hf rfl rfl) (by decide) ?_; clear hf a; intro a hf
        refine gL hf (g_mv hf rfl) (by decide) ?_; clear hf a; intro a hf
        refine ggL hf rfl rfl (gyes_f _) (fun hg => g_mv hf rfl) (by decide) ?_; clear hf a; intro a hf
        refine ggL hf rfl rfl (gyes_f _) (fun hg => g_neq hf (ev_gv rfl hg) rfl) (by decide) ?_; clear hf a; intro a hf
        refine gL hf (g_or hf rfl rfl) (by decide) ?_; clear hf a; intro a hf
        refine gL hf (g_mv hf rfl) (by decide) ?_; clear hf a; intro a hf
        refine ggL hf rfl rfl (gyes_f _) (fun hg => g_mv hf rfl) (by decide) ?_; clear hf a; intro a hf
        refine ggL hf rfl rfl (gyes_f _) (fun hg => g_neq hf (ev_gv rfl hg) rfl) (by decide) ?_; clear hf a; intro a hf
        refine gL hf (g_or hf rfl rfl) (by decide) ?_; clear hf a; intro a hf
        refine gL hf (g_mv hf rfl) (by decide) ?_; clear hf a; intro a hf
        refine ggL hf rfl rfl (gyes_f _) (fun hg => g_mv hf rfl) (by decide) ?_; clear hf a; intro a hf
        refine ggL hf rfl rfl (gyes_f _) (fun hg => g_mv hf rfl) (by decide) ?_; clear hf a; intro a hf
        refine ggL hf rfl rfl (gyes_f _) (fun hg => g_lss hf (ev_gv rfl hg) (ev_gv rfl hg)) (by decide) ?_; clear hf a; intro a hf
        refine gL hf (g_or hf rfl rfl) (by decide) ?_; clear hf a; intro a hf
        refine gL hf (g_mv hf rfl) (by decide) ?_; clear hf a; intro a hf
        refine ggL hf rfl rfl (gyes_f _) (fun hg => g_mv hf rfl) (by decide) ?_; clear hf a; intro a hf
        refine ggL hf rfl rfl (gyes_f _) (fun hg => g_mv hf rfl) (by decide) ?_; clear hf a; intro a hf
        refine ggL hf rfl rfl (gyes_f _) (fun hg => g_lss hf (ev_gv rfl hg) (ev_gv rfl hg)) (by decide) ?_; clear hf a; intro a hf
        refine gL hf (g_or hf rfl rfl) (by decide) ?_; clear hf a; intro a hf
        refine gL hf (g_mv hf rfl) (by decide) ?_; clear hf a; intro a hf
        refine ggL hf rfl rfl (gyes_f _) (fun hg => g_mv hf rfl) (by decide) ?_; clear hf a; intro a hf
        refine ggL hf rfl rfl (gyes_f _) (fun hg => g_mv hf rfl) (by decide) ?_; clear hf a; intro a hf
        refine ggL hf rfl rfl (gyes_f _) (fun hg => g_lss hf (ev_gv rfl hg) (ev_gv rfl hg)) (by decide) ?_; clear hf a; intro a hf
        refine gL hf (g_or hf rfl rfl) (by decide) ?_; clear hf a; intro a hf
        refine gL hf (g_mv hf rfl) (by decide) ?_; clear hf a; intro a hf
        refine ggL hf rfl rfl (gyes_f _) (fun hg => g_mv hf rfl) (by decide) ?_; clear hf a; intro a hf
        refine ggL hf rfl rfl (gyes_f _) (fun hg => g_mv hf rfl) (by decide) ?_; clear hf a; intro a hf
        refine ggL hf rfl rfl (gyes_f _) (fun hg => g_lss hf (ev_gv rfl hg) (ev_gv rfl hg)) (by decide) ?_; clear hf a; intro a hf
        refine gL hf (g_or hf rfl rfl) (by decide) ?_; clear hf a; intro a hf
        refine e_nil ?_
        refine c_cond hf rfl (fun hc3 => ?_) (fun hc3 => ?_)
        · skip
          exfalso; generalize worst (shortB b ki ((flapA b ki).rh - dz)) (drawnL b l) (shortB b ki ((flapA b ki).rh - dz)).rules.length = wA at hc3 hw1; generalize (allO (shortB b ki ((flapA b ki).rh - dz))).length = nA at hc3 hn1; generalize hwB : worst b (drawnL b l) b.rules.length = wB at *; generalize (allO b).length = nB at *; (try generalize worst (rmB b ri) (drawnL b l) (rmB b ri).rules.length = wC at hc3 hw2); (try generalize (allO (rmB b ri)).length = nC at hc3 hn2); simp at hc3 <;> omega
        · skip
          refine c_skip (q_thenN ?_)
          refine c_reg ?_
          refine gL hf (g_ldW hf hs T25 rfl (k := 5) rfl rfl) (by decide) ?_; clear hf a; intro a hf
          refine gL hf (g_mv hf rfl) (by decide) ?_; clear hf a; intro a hf
          refine callL hf hs (c_Shorter b _ _ _ _ _ _ ki _ ⟨hs.rd (.tail _ (.tail _ (.head _))), hs.rd (.tail _ (.tail _ (.tail _ (.head _)))), h.fc_, h.rc_⟩ (hs.rd (.tail _ (.tail _ (.tail _ (.tail _ (.tail _ (.head _)))))))) rfl rfl rfl E31 (by decide) ?_; clear hs hf a; intro w a hs hf
          refine gL hf (g_mv hf rfl) (by decide) ?_; clear hf a; intro a hf
          refine gL hf (g_ext hf rfl rfl) (by decide) ?_; clear hf a; intro a hf
          refine gL hf (g_ext hf rfl rfl) (by decide) ?_; clear hf a; intro a hf
          refine gL hf (g_as hf rfl) (by decide) ?_; clear hf a; intro a hf
          refine gL hf (g_as hf rfl) (by decide) ?_; clear hf a; intro a hf
          refine e_nil ?_
          refine wp_seq ?_
          refine c_reg ?_
          refine gL hf (g_mv hf rfl) (by decide) ?_; clear hf a; intro a hf
          refine gL hf (g_neq hf rfl rfl) (by decide) ?_; clear hf a; intro a hf
          refine gL hf (g_mv hf rfl) (by decide) ?_; clear hf a; intro a hf
          refine ggL hf rfl rfl (gyes_t _) (fun hg => g_mv hf rfl) (by decide) ?_; clear hf a; intro a hf
          refine ggL hf rfl rfl (gyes_t _) (fun hg => g_neq hf (ev_gv rfl hg) rfl) (by decide) ?_; clear hf a; intro a hf
          refine ggL hf rfl rfl (gyes_t _) (fun hg => g_mv hf (ev_gv rfl hg)) (by decide) ?_; clear hf a; intro a hf
          refine ggL hf rfl rfl (gyes_gf _ _) (fun hg => g_mv hf rfl) (by decide) ?_; clear hf a; intro a hf
          refine ggL hf rfl rfl (gyes_gf _ _) (fun hg => g_neq hf (ev_gv rfl hg) rfl) (by decide) ?_; clear hf a; intro a hf
          refine ggL hf rfl rfl (gyes_t _) (fun hg => g_or hf (ev_gv rfl hg) (ev_gvand rfl hg)) (by decide) ?_; clear hf a; intro a hf
          refine gL hf (g_and hf rfl rfl) (by decide) ?_; clear hf a; intro a hf
          refine gL hf (g_mv hf rfl) (by decide) ?_; clear hf a; intro a hf
          refine ggL hf rfl rfl (gyes_f _) (fun hg => g_mv hf rfl) (by decide) ?_; clear hf a; intro a hf
          refine ggL hf rfl rfl (gyes_f _) (fun hg => g_eql hf (ev_gv rfl hg) rfl) (by decide) ?_; clear hf a; intro a hf
          refine ggL hf rfl rfl (gyes_f _) (fun hg => g_mv hf (ev_gv rfl hg)) (by decide) ?_; clear hf a; intro a hf
          refine ggL hf rfl rfl (gyes_gt _ _) (fun hg => g_mv hf rfl) (by decide) ?_; clear hf a; intro a hf
          refine ggL hf rfl rfl (gyes_gt _ _) (fun hg => g_fa (off' := 1) hf F47_1 rfl rfl) (by decide) ?_; clear hf a; intro a hf
          refine ggL hf rfl rfl (gyes_gt _ _) (fun hg => g_ld hf hs T3 (ev_gv rfl hg) (k := 3) rfl rfl) (by decide) ?_; clear hf a; intro a hf
          refine ggL hf rfl rfl (gyes_gt _ _) (fun hg => g_fa (off' := 0) hf F47_0 rfl rfl) (by decide) ?_; clear hf a; intro a hf
          refine ggL hf rfl rfl (gyes_gt _ _) (fun hg => g_ld hf hs T3 (ev_gv rfl hg) (k := 3) rfl rfl) (by decide) ?_; clear hf a; intro a hf
          refine ggL hf rfl rfl (gyes_gt _ _) (fun hg => g_subI hf (ev_gv rfl hg) (ev_gv rfl hg) (by omega)) (by decide) ?_; clear hf a; intro a hf
          refine callG hf hs rfl rfl (gyes_gt _ _) (fun hg => ⟨_, _, _, _, c_Fits _ _ _ _, rfl, evs_cons (ev_gv rfl hg) (evs_cons rfl (evs_cons (ev_gv rfl hg) evs_nil)), rfl⟩) E39 (by decide) ?_; clear hs hf a; intro w a hs hf
          refine ggL hf rfl rfl (gyes_gt _ _) (fun hg => g_not hf (ev_gv rfl hg)) (by decide) ?_; clear hf a; intro a hf
          refine ggL hf rfl rfl (gyes_f _) (fun hg => g_and hf (ev_gv rfl hg) (ev_gvand rfl hg)) (by decide) ?_; clear hf a; intro a hf
          refine gL hf (g_or hf rfl rfl) (by decide) ?_; clear hf a; intro a hf
          refine e_nil ?_
          refine c_cond hf rfl (fun hc4 => ?_) (fun hc4 => ?_)
          · skip
            exfalso; rcases shorter_cases hck hin with ⟨hs4, _⟩ | ⟨j, hs4, hj0, hj1, _⟩; (rw [hs4] at hc4; simp at hc4); (rw [hs4] at hc4; simp [fitsB] at hc4; simp only [flapA, List.getD_eq_getElem?_getD] at hj1; omega)
          · skip
            refine c_skip (q_thenN ?_)
            refine c_reg ?_
            refine gL hf (g_ldW hf hs T25 rfl (k := 1) rfl rfl) (by decide) ?_; clear hf a; intro a hf
            refine vL hf (v_alloc hs T25 rfl) (by decide) ?_; clear hs hf a; rintro _ w ⟨b6, rfl, hs⟩ a hf
            refine uL (u_stW hf hs T25 rfl rfl rfl (k := 0) rfl rfl rfl) ?_; clear hs; intro w hs; dsimp only [List.set] at hs
            refine e_nil ?_
            refine c_reg ?_
            refine vL hf (v_lits (len := 0) hf hs SL22 T49 .nil rfl rfl rfl rfl (by decide) rfl) (by decide) ?_; clear hs hf a; rintro _ w ⟨b7, rfl, hs⟩ a hf
            refine gL hf (g_fa (off' := 2) hf F25_2 rfl rfl) (by decide) ?_; clear hf a; intro a hf
            refine gL hf (g_ld hf hs T22 rfl (k := 7) rfl rfl) (by decide) ?_; clear hf a; intro a hf
            refine vL hf (v_accN (e := 49) (o := some (b7, #[])) (l := []) (l' := b.flaps) (len := 0) hf 0 hs rfl ⟨0, rfl, Nat.le_refl _, by omega, rfl⟩ AP22 (enc := encF) (fun _ => rfl) (by decide) (by intro x v hv9; simp only [encF, List.mem_cons, List.not_mem_nil, or_false] at hv9; rcases hv9 with rfl | rfl | rfl | rfl | rfl <;> rfl) rfl rfl rfl (hs.rd (.tail _ (.tail _ (.head _)))) (by omega) (by decide)) (by decide) ?_; clear hs hf a; rintro _ w ⟨oz, rfl, hoz, hs⟩ a hf; dsimp only [List.take, List.nil_append] at hs
            rw [List.nil_append] at hoz
            obtain ⟨bcz, csz, rfl⟩ : ∃ bc cs, oz = some (bc, cs) := acc_some hoz (by omega)
            simp only [Nat.zero_add] at hf; dsimp only [accV] at hf; dsimp only [accH, List.cons_append, List.nil_append] at hs
            have hcapz := hoz.cap (sz := 5) (by decide)
            refine gL hf (g_fa (off' := 2) hf F25_2 rfl rfl) (by decide) ?_; clear hf a; intro a hf
            refine uL (u_st hf hs T22 rfl rfl rfl (k := 1) rfl (Nat.le_of_ble_eq_true rfl)) ?_; clear hs; intro w hs; dsimp only [List.set] at hs
            refine e_nil ?_
            refine c_reg ?_
            refine gL hf (g_fa (off' := 2) hf F25_2 rfl rfl) (by decide) ?_; clear hf a; intro a hf
            refine gL hf (g_ld hf hs T22 rfl (k := 1) rfl rfl) (by decide) ?_; clear hf a; intro a hf
            refine gL hf (g_mv hf rfl) (by decide) ?_; clear hf a; intro a hf
            refine gL hf (g_fa (off' := 0) hf F47_0 rfl rfl) (by decide) ?_; clear hf a; intro a hf
            refine gL hf (g_ld hf hs T3 rfl (k := 5) rfl rfl) (by decide) ?_; clear hf a; intro a hf
            refine gL hf (g_ixO hf SL22 rfl rfl (by omega)) (by decide) ?_; clear hf a; intro a hf
            refine gL hf (g_fa hf F49_1 rfl rfl) (by decide) ?_; clear hf a; intro a hf
            refine gL hf (g_fa hf F47_1 rfl rfl) (by decide) ?_; clear hf a; intro a hf
            refine uL (u_st hf hs T3 rfl rfl rfl (k := 0) rfl (acc_short (k := 0) hin hoz).2.1) ?_; clear hs; intro w hs; dsimp only [List.set] at hs
            have hoz2 := (acc_short (k := ((flapA b ki).rh - (flapA b ki).rl)) hin hoz).2.2
            rw [show (flapA b ki).rh - ((flapA b ki).rh - (flapA b ki).rl) = (flapA b ki).rl by omega] at hoz2
            refine e_nil ?_
            refine wp_seq ?_
            refine c_reg ?_
            refine gL hf (g_mv hf rfl) (by decide) ?_; clear hf a; intro a hf
            refine gL hf (g_neq hf rfl rfl) (by decide) ?_; clear hf a; intro a hf
            refine e_nil ?_
            refine c_cond hf rfl (fun hc5 => ?_) (fun hc5 => ?_)
            · skip
              have hz5 : allO (shortB b ki ((flapA b ki).rh - (flapA b ki).rl)) = [] := by rcases shorter_cases hck hin with ⟨hs4, h5⟩ | ⟨j, hs4, _⟩; (exact h5 _ hkz.1 hkz.2); (rw [hs4] at hc5; cases hc5)
              refine c_reg ?_
              refine gL hf (g_ldW hf hs T25 rfl (k := 1) rfl rfl) (by decide) ?_; clear hf a; intro a hf
              have hrdz : Rd encF 5 (some ⟨bcz, 0, none⟩) (shortB b ki ((flapA b ki).rh - (flapA b ki).rl)).flaps.length (shortB b ki ((flapA b ki).rh - (flapA b ki).rl)).flaps _ := hoz2.rdb (sz := 5) (fun _ => rfl) (by decide) (hs.own _ _ (.head _)).2
              have hshz : ShIn (shortB b ki ((flapA b ki).rh - (flapA b ki).rl)) (some ⟨bcz, 0, none⟩) (csz.size / 5) rA rc _ := ⟨hrdz, hs.rd (.tail _ (.tail _ (.tail _ (.head _)))), by rw [short_len]; exact hcapz, h.rc_⟩
              have h9 := c_Orders (shortB b ki ((flapA b ki).rh - (flapA b ki).rl)) _ _ _ _ ge gz _ hshz (hs.rd (.tail _ (.tail _ (.tail _ (.tail _ (.tail _ (.head _)))))))
              simp only [short_len] at h9
              refine callL hf hs (h9) rfl rfl rfl E25 (by decide) ?_; clear hs hf a; intro w a hs hf
              rw [count_valid (valid_short hv hin hkz)] at hf
              refine gL hf (g_mv hf rfl) (by decide) ?_; clear hf a; intro a hf
              refine gL hf (g_ext hf rfl rfl) (by decide) ?_; clear hf a; intro a hf
              refine gL hf (g_ext hf rfl rfl) (by decide) ?_; clear hf a; intro a hf
              refine gL hf (g_as hf rfl) (by decide) ?_; clear hf a; intro a hf
              refine gL hf (g_as hf rfl) (by decide) ?_; clear hf a; intro a hf
              refine e_nil ?_
              refine c_reg ?_
              refine gL hf (g_mv hf rfl) (by decide) ?_; clear hf a; intro a hf
              refine gL hf (g_eql hf rfl rfl) (by decide) ?_; clear hf a; intro a hf
              refine gL hf (g_mv hf rfl) (by decide) ?_; clear hf a; intro a hf
              refine ggL hf rfl rfl (gyes_t _) (fun hg => g_mv hf rfl) (by decide) ?_; clear hf a; intro a hf
              refine ggL hf rfl rfl (gyes_t _) (fun hg => g_eql hf (ev_gv rfl hg) rfl) (by decide) ?_; clear hf a; intro a hf
              refine gL hf (g_and hf rfl rfl) (by decide) ?_; clear hf a; intro a hf
              refine gL hf (g_mv hf rfl) (by decide) ?_; clear hf a; intro a hf
              refine callG hf hs rfl rfl (gyes_t _) (fun hg => ⟨_, _, _, _, c_folded ge gz _ (hs.rd (.tail _ (.tail _ (.tail _ (.tail _ (.tail _ (.head _))))))), rfl, evs_nil, rfl⟩) E21 (by decide) ?_; clear hs hf a; intro w a hs hf
              refine gL hf (g_and hf rfl rfl) (by decide) ?_; clear hf a; intro a hf
              refine gL hf (g_as hf rfl) (by decide) ?_; clear hf a; intro a hf
              refine e_nil ?_
              refine c_ret (q_thenR ?_)
              refine e_ret1 hf rfl rfl ?_
              exact ⟨by rw [hz5]; rfl, hs.below⟩
            · skip
              obtain ⟨j9, hs9, hj0, hj1, hj2, hj3⟩ : ∃ j : Int, shorterP b ki = (j, 0) ∧ 0 ≤ j ∧ j ≤ ((flapA b ki).rh - (flapA b ki).rl) ∧ allO (shortB b ki j) ≠ [] ∧ ∀ k, 0 ≤ k → k < j → allO (shortB b ki k) = [] := by rcases shorter_cases hck hin with ⟨hs4, _⟩ | h5; (rw [hs4] at hc5; cases hc5); (exact h5)
              have e9 : (shorterP b ki).1 = j9 := by rw [hs9]
              rw [e9] at hf
              have hlp := List.length_pos_iff.2 hj2
              refine c_skip (q_thenN ?_)
              refine c_reg ?_
              refine gL hf (g_fa (off' := 2) hf F25_2 rfl rfl) (by decide) ?_; clear hf a; intro a hf
              refine gL hf (g_ld hf hs T22 rfl (k := 1) rfl rfl) (by decide) ?_; clear hf a; intro a hf
              refine gL hf (g_mv hf rfl) (by decide) ?_; clear hf a; intro a hf
              refine gL hf (g_fa (off' := 1) hf F47_1 rfl rfl) (by decide) ?_; clear hf a; intro a hf
              refine gL hf (g_ld hf hs T3 rfl (k := 5) rfl rfl) (by decide) ?_; clear hf a; intro a hf
              refine gL hf (g_mv hf rfl) (by decide) ?_; clear hf a; intro a hf
              refine gL hf (g_subI hf rfl rfl (by simp only [flapA] at hj1; omega)) (by decide) ?_; clear hf a; intro a hf
              refine gL hf (g_ixO hf SL22 rfl rfl (by omega)) (by decide) ?_; clear hf a; intro a hf
              refine gL hf (g_fa hf F49_1 rfl rfl) (by decide) ?_; clear hf a; intro a hf
              refine gL hf (g_fa hf F47_1 rfl rfl) (by decide) ?_; clear hf a; intro a hf
              refine uL (u_st hf hs T3 rfl rfl rfl (k := 0) rfl (by rw [Array.size_setIfInBounds]; exact (acc_short (k := 0) hin hoz).2.1)) ?_; clear hs; intro w hs; dsimp only [List.set] at hs
              rw [set_twice] at hs
              have hoz3 := (acc_short (k := j9) hin hoz).2.2
              refine e_nil ?_
              refine c_reg ?_
              refine gL hf (g_ldW hf hs T25 rfl (k := 1) rfl rfl) (by decide) ?_; clear hf a; intro a hf
              have hrdz : Rd encF 5 (some ⟨bcz, 0, none⟩) (shortB b ki j9).flaps.length (shortB b ki j9).flaps _ := hoz3.rdb (sz := 5) (fun _ => rfl) (by decide) (hs.own _ _ (.head _)).2
              have hshz : ShIn (shortB b ki j9) (some ⟨bcz, 0, none⟩) (csz.size / 5) rA rc _ := ⟨hrdz, hs.rd (.tail _ (.tail _ (.tail _ (.head _)))), by rw [short_len]; exact hcapz, h.rc_⟩
              have h9 := c_Orders (shortB b ki j9) _ _ _ _ ge gz _ hshz (hs.rd (.tail _ (.tail _ (.tail _ (.tail _ (.tail _ (.head _)))))))
              simp only [short_len] at h9
              refine callL hf hs (h9) rfl rfl rfl E25 (by decide) ?_; clear hs hf a; intro w a hs hf
              rw [count_valid (valid_short hv hin ⟨hj0, hj1⟩)] at hf
              refine gL hf (g_mv hf rfl) (by decide) ?_; clear hf a; intro a hf
              refine gL hf (g_ext hf rfl rfl) (by decide) ?_; clear hf a; intro a hf
              refine gL hf (g_ext hf rfl rfl) (by decide) ?_; clear hf a; intro a hf
              refine gL hf (g_as hf rfl) (by decide) ?_; clear hf a; intro a hf
              refine gL hf (g_as hf rfl) (by decide) ?_; clear hf a; intro a hf
              refine e_nil ?_
              refine wp_seq ?_
              refine c_reg ?_
              refine gL hf (g_mv hf rfl) (by decide) ?_; clear hf a; intro a hf
              refine gL hf (g_neq hf rfl rfl) (by decide) ?_; clear hf a; intro a hf
              refine gL hf (g_mv hf rfl) (by decide) ?_; clear hf a; intro a hf
              refine ggL hf rfl rfl (gyes_f _) (fun hg => g_mv hf rfl) (by decide) ?_; clear hf a; intro a hf
              refine ggL hf rfl rfl (gyes_f _) (fun hg => g_lss hf (ev_gv rfl hg) rfl) (by decide) ?_; clear hf a; intro a hf
              refine gL hf (g_or hf rfl rfl) (by decide) ?_; clear hf a; intro a hf
              refine gL hf (g_mv hf rfl) (by decide) ?_; clear hf a; intro a hf
              refine ggL hf rfl rfl (gyes_f _) (fun hg => g_mv hf rfl) (by decide) ?_; clear hf a; intro a hf
              refine ggL hf rfl rfl (gyes_f _) (fun hg => g_eql hf (ev_gv rfl hg) rfl) (by decide) ?_; clear hf a; intro a hf
              refine gL hf (g_or hf rfl rfl) (by decide) ?_; clear hf a; intro a hf
              refine e_nil ?_
              refine c_cond hf rfl (fun hc6 => ?_) (fun hc6 => ?_)
              · skip
                refine c_reg ?_
                refine gL hf (g_mv hf rfl) (by decide) ?_; clear hf a; intro a hf
                refine gL hf (g_eql hf rfl rfl) (by decide) ?_; clear hf a; intro a hf
                refine gL hf (g_mv hf rfl) (by decide) ?_; clear hf a; intro a hf
                refine ggL hf rfl rfl (gyes_t _) (fun hg => g_mv hf rfl) (by decide) ?_; clear hf a; intro a hf
                refine ggL hf rfl rfl (gyes_t _) (fun hg => g_gtr hf (ev_gv rfl hg) rfl) (by decide) ?_; clear hf a; intro a hf
                refine gL hf (g_and hf rfl rfl) (by decide) ?_; clear hf a; intro a hf
                refine gL hf (g_mv hf rfl) (by decide) ?_; clear hf a; intro a hf
                refine callG hf hs rfl rfl (gyes_t _) (fun hg => ⟨_, _, _, _, c_folded ge gz _ (hs.rd (.tail _ (.tail _ (.tail _ (.tail _ (.tail _ (.head _))))))), rfl, evs_nil, rfl⟩) E21 (by decide) ?_; clear hs hf a; intro w a hs hf
                refine gL hf (g_and hf rfl rfl) (by decide) ?_; clear hf a; intro a hf
                refine gL hf (g_as hf rfl) (by decide) ?_; clear hf a; intro a hf
                refine e_nil ?_
                refine c_ret (q_thenR ?_)
                refine e_ret1 hf rfl rfl ?_
                exact ⟨by rw [decide_eq_true (show (0 : Int) < (((allO (shortB b ki j9)).length : Nat) : Int) by omega)]; rfl, hs.below⟩
              · skip
                have hj9 : j9 ≠ 0 := by intro e; rw [e] at hc6; simp at hc6
                have hkm : 0 ≤ j9 - 1 ∧ j9 - 1 ≤ ((flapA b ki).rh - (flapA b ki).rl) := ⟨by omega, by omega⟩
                have hz6 := hj3 (j9 - 1) (by omega) (by omega)
                refine c_skip (q_thenN ?_)
                refine c_reg ?_
                refine gL hf (g_fa (off' := 2) hf F25_2 rfl rfl) (by decide) ?_; clear hf a; intro a hf
                refine gL hf (g_ld hf hs T22 rfl (k := 1) rfl rfl) (by decide) ?_; clear hf a; intro a hf
                refine gL hf (g_mv hf rfl) (by decide) ?_; clear hf a; intro a hf
                refine gL hf (g_fa (off' := 1) hf F47_1 rfl rfl) (by decide) ?_; clear hf a; intro a hf
                refine gL hf (g_ld hf hs T3 rfl (k := 5) rfl rfl) (by decide) ?_; clear hf a; intro a hf
                refine gL hf (g_mv hf rfl) (by decide) ?_; clear hf a; intro a hf
                refine gL hf (g_subI hf rfl rfl (by simp only [flapA] at hj1; omega)) (by decide) ?_; clear hf a; intro a hf
                refine gL hf (g_addI hf rfl rfl (by simp only [flapA] at hj1; omega)) (by decide) ?_; clear hf a; intro a hf
                refine gL hf (g_ixO hf SL22 rfl rfl (by omega)) (by decide) ?_; clear hf a; intro a hf
                refine gL hf (g_fa hf F49_1 rfl rfl) (by decide) ?_; clear hf a; intro a hf
                refine gL hf (g_fa hf F47_1 rfl rfl) (by decide) ?_; clear hf a; intro a hf
                refine uL (u_st hf hs T3 rfl rfl rfl (k := 0) rfl (by rw [Array.size_setIfInBounds]; exact (acc_short (k := 0) hin hoz).2.1)) ?_; clear hs; intro w hs; dsimp only [List.set] at hs
                rw [set_twice] at hs
                have hoz4 := (acc_short (k := j9 - 1) hin hoz).2.2
                rw [show (flapA b ki).rh - (j9 - 1) = (flapA b ki).rh - j9 + 1 by omega] at hoz4
                refine e_nil ?_
                refine c_reg ?_
                refine gL hf (g_ldW hf hs T25 rfl (k := 1) rfl rfl) (by decide) ?_; clear hf a; intro a hf
                have hrdz : Rd encF 5 (some ⟨bcz, 0, none⟩) (shortB b ki (j9 - 1)).flaps.length (shortB b ki (j9 - 1)).flaps _ := hoz4.rdb (sz := 5) (fun _ => rfl) (by decide) (hs.own _ _ (.head _)).2
                have hshz : ShIn (shortB b ki (j9 - 1)) (some ⟨bcz, 0, none⟩) (csz.size / 5) rA rc _ := ⟨hrdz, hs.rd (.tail _ (.tail _ (.tail _ (.head _)))), by rw [short_len]; exact hcapz, h.rc_⟩
                have h9 := c_Orders (shortB b ki (j9 - 1)) _ _ _ _ ge gz _ hshz (hs.rd (.tail _ (.tail _ (.tail _ (.tail _ (.tail _ (.head _)))))))
                simp only [short_len] at h9
                refine callL hf hs (h9) rfl rfl rfl E25 (by decide) ?_; clear hs hf a; intro w a hs hf
                rw [count_valid (valid_short hv hin hkm)] at hf
                refine gL hf (g_mv hf rfl) (by decide) ?_; clear hf a; intro a hf
                refine gL hf (g_ext hf rfl rfl) (by decide) ?_; clear hf a; intro a hf
                refine gL hf (g_ext hf rfl rfl) (by decide) ?_; clear hf a; intro a hf
                refine gL hf (g_as hf rfl) (by decide) ?_; clear hf a; intro a hf
                refine gL hf (g_as hf rfl) (by decide) ?_; clear hf a; intro a hf
                refine e_nil ?_
                refine c_reg ?_
                refine gL hf (g_mv hf rfl) (by decide) ?_; clear hf a; intro a hf
                refine gL hf (g_eql hf rfl rfl) (by decide) ?_; clear hf a; intro a hf
                refine gL hf (g_mv hf rfl) (by decide) ?_; clear hf a; intro a hf
                refine ggL hf rfl rfl (gyes_t _) (fun hg => g_mv hf rfl) (by decide) ?_; clear hf a; intro a hf
                refine ggL hf rfl rfl (gyes_t _) (fun hg => g_eql hf (ev_gv rfl hg) rfl) (by decide) ?_; clear hf a; intro a hf
                refine gL hf (g_and hf rfl rfl) (by decide) ?_; clear hf a; intro a hf
                refine gL hf (g_mv hf rfl) (by decide) ?_; clear hf a; intro a hf
                refine callG hf hs rfl rfl (gyes_t _) (fun hg => ⟨_, _, _, _, c_folded ge gz _ (hs.rd (.tail _ (.tail _ (.tail _ (.tail _ (.tail _ (.head _))))))), rfl, evs_nil, rfl⟩) E21 (by decide) ?_; clear hs hf a; intro w a hs hf
                refine gL hf (g_and hf rfl rfl) (by decide) ?_; clear hf a; intro a hf
                refine gL hf (g_as hf rfl) (by decide) ?_; clear hf a; intro a hf
                refine e_nil ?_
                refine c_ret ?_
                refine e_ret1 hf rfl rfl ?_
                exact ⟨by rw [hz6]; rfl, hs.below⟩
      · skip
        refine c_skip (q_thenN ?_)
        refine c_reg ?_
        refine gL hf (g_ldW hf hs T25 rfl (k := 5) rfl rfl) (by decide) ?_; clear hf a; intro a hf
        refine gL hf (g_mv hf rfl) (by decide) ?_; clear hf a; intro a hf
        refine callX hf hs (c_drawn b _ _ _ _ _ _ l hv _ ⟨hs.rd (.head _), hs.rd (.tail _ (.head _)), h.fc_, h.rc_⟩ (hs.rd (.tail _ (.tail _ (.head _))))) rfl rfl rfl E42 (by decide) ?_; intro v w1 a hR hb hs1 hf; obtain ⟨Ad, cd, rfl, hou⟩ := hR; replace hs := hs.fresh hs1 (outFresh hou); clear hs1 hb
        refine gL hf (g_as hf rfl) (by decide) ?_; clear hf a; intro a hf
        refine e_nil ?_
        refine c_reg ?_
        refine gL hf (g_ldW hf hs T25 rfl (k := 5) rfl rfl) (by decide) ?_; clear hf a; intro a hf
        refine gL hf (g_mv hf rfl) (by decide) ?_; clear hf a; intro a hf
        refine callL hf hs (c_Does b _ _ _ _ _ _ (drawnL b l) ge gz hck _ ⟨hs.rd (.tail _ (.head _)), hs.rd (.tail _ (.tail _ (.head _))), h.fc_, h.rc_⟩ (hs.rd (.head _)) (hs.rd (.tail _ (.tail _ (.tail _ (.tail _ (.head _))))))) rfl rfl rfl E19 (by decide) ?_; clear hs hf a; intro w a hs hf
        rw [does_ok hck (drawn_ord b l)] at hf
        refine gL hf (g_mv hf rfl) (by decide) ?_; clear hf a; intro a hf
        refine gL hf (g_ext hf rfl rfl) (by decide) ?_; clear hf a; intro a hf
        refine gL hf (g_ext hf rfl rfl) (by decide) ?_; clear hf a; intro a hf
        refine gL hf (g_as hf rfl) (by decide) ?_; clear hf a; intro a hf
        refine gL hf (g_as hf rfl) (by decide) ?_; clear hf a; intro a hf
        refine e_nil ?_
        refine c_reg ?_
        refine gL hf (g_ldW hf hs T25 rfl (k := 1) rfl rfl) (by decide) ?_; clear hf a; intro a hf
        refine gL hf (g_mv hf rfl) (by decide) ?_; clear hf a; intro a hf
        have hrdx : Rd encF 5 (some ⟨bcx, 0, none⟩) (shortB b ki ((flapA b ki).rh - dz)).flaps.length (shortB b ki ((flapA b ki).rh - dz)).flaps _ := hox2.rdb (sz := 5) (fun _ => rfl) (by decide) (hs.own _ _ (.head _)).2
        have hshx : ShIn (shortB b ki ((flapA b ki).rh - dz)) (some ⟨bcx, 0, none⟩) (csx.size / 5) rA rc _ := ⟨hrdx, hs.rd (.tail _ (.tail _ (.head _))), by rw [short_len]; exact hcapx, h.rc_⟩
        have h9 := c_Does (shortB b ki ((flapA b ki).rh - dz)) _ _ _ _ _ cd (drawnL b l) ge gz hckx _ hshx (hs.rd (.head _)) (hs.rd (.tail _ (.tail _ (.tail _ (.tail _ (.head _))))))
        simp only [short_len] at h9
        refine callL hf hs (h9) rfl rfl rfl E19 (by decide) ?_; clear hs hf a; intro w a hs hf
        rw [does_ok hckx hordx] at hf
        refine gL hf (g_mv hf rfl) (by decide) ?_; clear hf a; intro a hf
        refine gL hf (g_ext hf rfl rfl) (by decide) ?_; clear hf a; intro a hf
        refine gL hf (g_ext hf rfl rfl) (by decide) ?_; clear hf a; intro a hf
        refine gL hf (g_as hf rfl) (by decide) ?_; clear hf a; intro a hf
        refine gL hf (g_as hf rfl) (by decide) ?_; clear hf a; intro a hf
        refine e_nil ?_
        refine c_reg ?_
        refine gL hf (g_ldW hf hs T25 rfl (k := 2) rfl rfl) (by decide) ?_; clear hf a; intro a hf
        refine gL hf (g_mv hf rfl) (by decide) ?_; clear hf a; intro a hf
        refine callL hf hs (c_Does b _ _ _ _ _ _ (drawnL b l) ge gz hck _ ⟨hs.rd (.tail _ (.head _)), hs.rd (.tail _ (.tail _ (.head _))), h.fc_, h.rc_⟩ (hs.rd (.head _)) (hs.rd (.tail _ (.tail _ (.tail _ (.tail _ (.head _))))))) rfl rfl rfl E19 (by decide) ?_; clear hs hf a; intro w a hs hf
        rw [does_ok hck (drawn_ord b l)] at hf
        refine gL hf (g_mv hf rfl) (by decide) ?_; clear hf a; intro a hf
        refine gL hf (g_ext hf rfl rfl) (by decide) ?_; clear hf a; intro a hf
        refine gL hf (g_ext hf rfl rfl) (by decide) ?_; clear hf a; intro a hf
        refine gL hf (g_as hf rfl) (by decide) ?_; clear hf a; intro a hf
        refine gL hf (g_as hf rfl) (by decide) ?_; clear hf a; intro a hf
        refine e_nil ?_
        refine c_reg ?_
        refine gL hf (g_ldW hf hs T25 rfl (k := 5) rfl rfl) (by decide) ?_; clear hf a; intro a hf
        refine callL hf hs (c_Orders b _ _ _ _ _ _ _ ⟨hs.rd (.tail _ (.head _)), hs.rd (.tail _ (.tail _ (.head _))), h.fc_, h.rc_⟩ (hs.rd (.tail _ (.tail _ (.tail _ (.tail _ (.head _))))))) rfl rfl rfl E25 (by decide) ?_; clear hs hf a; intro w a hs hf
        rw [count_valid hv] at hf
        refine gL hf (g_mv hf rfl) (by decide) ?_; clear hf a; intro a hf
        refine gL hf (g_ext hf rfl rfl) (by decide) ?_; clear hf a; intro a hf
        refine gL hf (g_ext hf rfl rfl) (by decide) ?_; clear hf a; intro a hf
        refine gL hf (g_as hf rfl) (by decide) ?_; clear hf a; intro a hf
        refine gL hf (g_as hf rfl) (by decide) ?_; clear hf a; intro a hf
        refine e_nil ?_
        refine c_reg ?_
        refine gL hf (g_ldW hf hs T25 rfl (k := 1) rfl rfl) (by decide) ?_; clear hf a; intro a hf
        have hrdx : Rd encF 5 (some ⟨bcx, 0, none⟩) (shortB b ki ((flapA b ki).rh - dz)).flaps.length (shortB b ki ((flapA b ki).rh - dz)).flaps _ := hox2.rdb (sz := 5) (fun _ => rfl) (by decide) (hs.own _ _ (.head _)).2
        have hshx : ShIn (shortB b ki ((flapA b ki).rh - dz)) (some ⟨bcx, 0, none⟩) (csx.size / 5) rA rc _ := ⟨hrdx, hs.rd (.tail _ (.tail _ (.head _))), by rw [short_len]; exact hcapx, h.rc_⟩
        have h9 := c_Orders (shortB b ki ((flapA b ki).rh - dz)) _ _ _ _ ge gz _ hshx (hs.rd (.tail _ (.tail _ (.tail _ (.tail _ (.head _))))))
        simp only [short_len] at h9
        refine callL hf hs (h9) rfl rfl rfl E25 (by decide) ?_; clear hs hf a; intro w a hs hf
        rw [count_valid hvx] at hf
        refine gL hf (g_mv hf rfl) (by decide) ?_; clear hf a; intro a hf
        refine gL hf (g_ext hf rfl rfl) (by decide) ?_; clear hf a; intro a hf
        refine gL hf (g_ext hf rfl rfl) (by decide) ?_; clear hf a; intro a hf
        refine gL hf (g_as hf rfl) (by decide) ?_; clear hf a; intro a hf
        refine gL hf (g_as hf rfl) (by decide) ?_; clear hf a; intro a hf
        refine e_nil ?_
        refine c_reg ?_
        refine gL hf (g_ldW hf hs T25 rfl (k := 2) rfl rfl) (by decide) ?_; clear hf a; intro a hf
        refine callL hf hs (c_Orders b _ _ _ _ _ _ _ ⟨hs.rd (.tail _ (.head _)), hs.rd (.tail _ (.tail _ (.head _))), h.fc_, h.rc_⟩ (hs.rd (.tail _ (.tail _ (.tail _ (.tail _ (.head _))))))) rfl rfl rfl E25 (by decide) ?_; clear hs hf a; intro w a hs hf
        rw [count_valid hv] at hf
        refine gL hf (g_mv hf rfl) (by decide) ?_; clear hf a; intro a hf
        refine gL hf (g_ext hf rfl rfl) (by decide) ?_; clear hf a; intro a hf
        refine gL hf (g_ext hf rfl rfl) (by decide) ?_; clear hf a; intro a hf
        refine gL hf (g_as hf rfl) (by decide) ?_; clear hf a; intro a hf
        refine gL hf (g_as hf rfl) (by decide) ?_; clear hf a; intro a hf
        refine e_nil ?_
        refine wp_seq ?_
        have hw1 := hLx.worst hvx (drawnL b l); have hn1 := hLx.count hvx hv
        refine c_reg ?_
        refine gL hf (g_mv hf rfl) (by decide) ?_; clear hf a; intro a hf
        refine gL hf (g_neq hf rfl rfl) (by decide) ?_; clear hf a; intro a hf
        refine gL hf (g_mv hf rfl) (by decide) ?_; clear hf a; intro a hf
        refine ggL hf rfl rfl (gyes_f _) (fun hg => g_mv hf rfl) (by decide) ?_; clear hf a; intro a hf
        refine ggL hf rfl rfl (gyes_f _) (fun hg => g_neq hf (ev_gv rfl hg) rfl) (by decide) ?_; clear hf a; intro a hf
        refine gL hf (g_or hf rfl rfl) (by decide) ?_; clear hf a; intro a hf
        refine gL hf (g_mv hf rfl) (by decide) ?_; clear hf a; intro a hf
        refine ggL hf rfl rfl (gyes_f _) (fun hg => g_mv hf rfl) (by decide) ?_; clear hf a; intro a hf
        refine ggL hf rfl rfl (gyes_f _) (fun hg => g_neq hf (ev_gv rfl hg) rfl) (by decide) ?_; clear hf a; intro a hf
        refine gL hf (g_or hf rfl rfl) (by decide) ?_; clear hf a; intro a hf
        refine gL hf (g_mv hf rfl) (by decide) ?_; clear hf a; intro a hf
        refine ggL hf rfl rfl (gyes_f _) (fun hg => g_mv hf rfl) (by decide) ?_; clear hf a; intro a hf
        refine ggL hf rfl rfl (gyes_f _) (fun hg => g_neq hf (ev_gv rfl hg) rfl) (by decide) ?_; clear hf a; intro a hf
        refine gL hf (g_or hf rfl rfl) (by decide) ?_; clear hf a; intro a hf
        refine gL hf (g_mv hf rfl) (by decide) ?_; clear hf a; intro a hf
        refine ggL hf rfl rfl (gyes_f _) (fun hg => g_mv hf rfl) (by decide) ?_; clear hf a; intro a hf
        refine ggL hf rfl rfl (gyes_f _) (fun hg => g_neq hf (ev_gv rfl hg) rfl) (by decide) ?_; clear hf a; intro a hf
        refine gL hf (g_or hf rfl rfl) (by decide) ?_; clear hf a; intro a hf
        refine gL hf (g_mv hf rfl) (by decide) ?_; clear hf a; intro a hf
        refine ggL hf rfl rfl (gyes_f _) (fun hg => g_mv hf rfl) (by decide) ?_; clear hf a; intro a hf
        refine ggL hf rfl rfl (gyes_f _) (fun hg => g_neq hf (ev_gv rfl hg) rfl) (by decide) ?_; clear hf a; intro a hf
        refine gL hf (g_or hf rfl rfl) (by decide) ?_; clear hf a; intro a hf
        refine gL hf (g_mv hf rfl) (by decide) ?_; clear hf a; intro a hf
        refine ggL hf rfl rfl (gyes_f _) (fun hg => g_mv hf rfl) (by decide) ?_; clear hf a; intro a hf
        refine ggL hf rfl rfl (gyes_f _) (fun hg => g_mv hf rfl) (by decide) ?_; clear hf a; intro a hf
        refine ggL hf rfl rfl (gyes_f _) (fun hg => g_lss hf (ev_gv rfl hg) (ev_gv rfl hg)) (by decide) ?_; clear hf a; intro a hf
        refine gL hf (g_or hf rfl rfl) (by decide) ?_; clear hf a; intro a hf
        refine gL hf (g_mv hf rfl) (by decide) ?_; clear hf a; intro a hf
        refine ggL hf rfl rfl (gyes_f _) (fun hg => g_mv hf rfl) (by decide) ?_; clear hf a; intro a hf
        refine ggL hf rfl rfl (gyes_f _) (fun hg => g_mv hf rfl) (by decide) ?_; clear hf a; intro a hf
        refine ggL hf rfl rfl (gyes_f _) (fun hg => g_lss hf (ev_gv rfl hg) (ev_gv rfl hg)) (by decide) ?_; clear hf a; intro a hf
        refine gL hf (g_or hf rfl rfl) (by decide) ?_; clear hf a; intro a hf
        refine gL hf (g_mv hf rfl) (by decide) ?_; clear hf a; intro a hf
        refine ggL hf rfl rfl (gyes_f _) (fun hg => g_mv hf rfl) (by decide) ?_; clear hf a; intro a hf
        refine ggL hf rfl rfl (gyes_f _) (fun hg => g_mv hf rfl) (by decide) ?_; clear hf a; intro a hf
        refine ggL hf rfl rfl (gyes_f _) (fun hg => g_lss hf (ev_gv rfl hg) (ev_gv rfl hg)) (by decide) ?_; clear hf a; intro a hf
        refine gL hf (g_or hf rfl rfl) (by decide) ?_; clear hf a; intro a hf
        refine gL hf (g_mv hf rfl) (by decide) ?_; clear hf a; intro a hf
        refine ggL hf rfl rfl (gyes_f _) (fun hg => g_mv hf rfl) (by decide) ?_; clear hf a; intro a hf
        refine ggL hf rfl rfl (gyes_f _) (fun hg => g_mv hf rfl) (by decide) ?_; clear hf a; intro a hf
        refine ggL hf rfl rfl (gyes_f _) (fun hg => g_lss hf (ev_gv rfl hg) (ev_gv rfl hg)) (by decide) ?_; clear hf a; intro a hf
        refine gL hf (g_or hf rfl rfl) (by decide) ?_; clear hf a; intro a hf
        refine e_nil ?_
        refine c_cond hf rfl (fun hc3 => ?_) (fun hc3 => ?_)
        · skip
          exfalso; generalize worst (shortB b ki ((flapA b ki).rh - dz)) (drawnL b l) (shortB b ki ((flapA b ki).rh - dz)).rules.length = wA at hc3 hw1; generalize (allO (shortB b ki ((flapA b ki).rh - dz))).length = nA at hc3 hn1; generalize hwB : worst b (drawnL b l) b.rules.length = wB at *; generalize (allO b).length = nB at *; (try generalize worst (rmB b ri) (drawnL b l) (rmB b ri).rules.length = wC at hc3 hw2); (try generalize (allO (rmB b ri)).length = nC at hc3 hn2); simp at hc3 <;> omega
        · skip
          refine c_skip (q_thenN ?_)
          refine c_reg ?_
          refine gL hf (g_ldW hf hs T25 rfl (k := 5) rfl rfl) (by decide) ?_; clear hf a; intro a hf
          refine gL hf (g_mv hf rfl) (by decide) ?_; clear hf a; intro a hf
          refine callL hf hs (c_Shorter b _ _ _ _ _ _ ki _ ⟨hs.rd (.tail _ (.head _)), hs.rd (.tail _ (.tail _ (.head _))), h.fc_, h.rc_⟩ (hs.rd (.tail _ (.tail _ (.tail _ (.tail _ (.head _))))))) rfl rfl rfl E31 (by decide) ?_; clear hs hf a; intro w a hs hf
          refine gL hf (g_mv hf rfl) (by decide) ?_; clear hf a; intro a hf
          refine gL hf (g_ext hf rfl rfl) (by decide) ?_; clear hf a; intro a hf
          refine gL hf (g_ext hf rfl rfl) (by decide) ?_; clear hf a; intro a hf
          refine gL hf (g_as hf rfl) (by decide) ?_; clear hf a; intro a hf
          refine gL hf (g_as hf rfl) (by decide) ?_; clear hf a; intro a hf
          refine e_nil ?_
          refine wp_seq ?_
          refine c_reg ?_
          refine gL hf (g_mv hf rfl) (by decide) ?_; clear hf a; intro a hf
          refine gL hf (g_neq hf rfl rfl) (by decide) ?_; clear hf a; intro a hf
          refine gL hf (g_mv hf rfl) (by decide) ?_; clear hf a; intro a hf
          refine ggL hf rfl rfl (gyes_t _) (fun hg => g_mv hf rfl) (by decide) ?_; clear hf a; intro a hf
          refine ggL hf rfl rfl (gyes_t _) (fun hg => g_neq hf (ev_gv rfl hg) rfl) (by decide) ?_; clear hf a; intro a hf
          refine ggL hf rfl rfl (gyes_t _) (fun hg => g_mv hf (ev_gv rfl hg)) (by decide) ?_; clear hf a; intro a hf
          refine ggL hf rfl rfl (gyes_gf _ _) (fun hg => g_mv hf rfl) (by decide) ?_; clear hf a; intro a hf
          refine ggL hf rfl rfl (gyes_gf _ _) (fun hg => g_neq hf (ev_gv rfl hg) rfl) (by decide) ?_; clear hf a; intro a hf
          refine ggL hf rfl rfl (gyes_t _) (fun hg => g_or hf (ev_gv rfl hg) (ev_gvand rfl hg)) (by decide) ?_; clear hf a; intro a hf
          refine gL hf (g_and hf rfl rfl) (by decide) ?_; clear hf a; intro a hf
          refine gL hf (g_mv hf rfl) (by decide) ?_; clear hf a; intro a hf
          refine ggL hf rfl rfl (gyes_f _) (fun hg => g_mv hf rfl) (by decide) ?_; clear hf a; intro a hf
          refine ggL hf rfl rfl (gyes_f _) (fun hg => g_eql hf (ev_gv rfl hg) rfl) (by decide) ?_; clear hf a; intro a hf
          refine ggL hf rfl rfl (gyes_f _) (fun hg => g_mv hf (ev_gv rfl hg)) (by decide) ?_; clear hf a; intro a hf
          refine ggL hf rfl rfl (gyes_gt _ _) (fun hg => g_mv hf rfl) (by decide) ?_; clear hf a; intro a hf
          refine ggL hf rfl rfl (gyes_gt _ _) (fun hg => g_fa (off' := 1) hf F47_1 rfl rfl) (by decide) ?_; clear hf a; intro a hf
          refine ggL hf rfl rfl (gyes_gt _ _) (fun hg => g_ld hf hs T3 (ev_gv rfl hg) (k := 3) rfl rfl) (by decide) ?_; clear hf a; intro a hf
          refine ggL hf rfl rfl (gyes_gt _ _) (fun hg => g_fa (off' := 0) hf F47_0 rfl rfl) (by decide) ?_; clear hf a; intro a hf
          refine ggL hf rfl rfl (gyes_gt _ _) (fun hg => g_ld hf hs T3 (ev_gv rfl hg) (k := 3) rfl rfl) (by decide) ?_; clear hf a; intro a hf
          refine ggL hf rfl rfl (gyes_gt _ _) (fun hg => g_subI hf (ev_gv rfl hg) (ev_gv rfl hg) (by omega)) (by decide) ?_; clear hf a; intro a hf
          refine callG hf hs rfl rfl (gyes_gt _ _) (fun hg => ⟨_, _, _, _, c_Fits _ _ _ _, rfl, evs_cons (ev_gv rfl hg) (evs_cons rfl (evs_cons (ev_gv rfl hg) evs_nil)), rfl⟩) E39 (by decide) ?_; clear hs hf a; intro w a hs hf
          refine ggL hf rfl rfl (gyes_gt _ _) (fun hg => g_not hf (ev_gv rfl hg)) (by decide) ?_; clear hf a; intro a hf
          refine ggL hf rfl rfl (gyes_f _) (fun hg => g_and hf (ev_gv rfl hg) (ev_gvand rfl hg)) (by decide) ?_; clear hf a; intro a hf
          refine gL hf (g_or hf rfl rfl) (by decide) ?_; clear hf a; intro a hf
          refine e_nil ?_
          refine c_cond hf rfl (fun hc4 => ?_) (fun hc4 => ?_)
          · skip
            exfalso; rcases shorter_cases hck hin with ⟨hs4, _⟩ | ⟨j, hs4, hj0, hj1, _⟩; (rw [hs4] at hc4; simp at hc4); (rw [hs4] at hc4; simp [fitsB] at hc4; simp only [flapA, List.getD_eq_getElem?_getD] at hj1; omega)
          · skip
            refine c_skip (q_thenN ?_)
            refine c_reg ?_
            refine gL hf (g_ldW hf hs T25 rfl (k := 1) rfl rfl) (by decide) ?_; clear hf a; intro a hf
            refine vL hf (v_alloc hs T25 rfl) (by decide) ?_; clear hs hf a; rintro _ w ⟨b5, rfl, hs⟩ a hf
            refine uL (u_stW hf hs T25 rfl rfl rfl (k := 0) rfl rfl rfl) ?_; clear hs; intro w hs; dsimp only [List.set] at hs
            refine e_nil ?_
            refine c_reg ?_
            refine vL hf (v_lits (len := 0) hf hs SL22 T49 .nil rfl rfl rfl rfl (by decide) rfl) (by decide) ?_; clear hs hf a; rintro _ w ⟨b6, rfl, hs⟩ a hf
            refine gL hf (g_fa (off' := 2) hf F25_2 rfl rfl) (by decide) ?_; clear hf a; intro a hf
            refine gL hf (g_ld hf hs T22 rfl (k := 7) rfl rfl) (by decide) ?_; clear hf a; intro a hf
            refine vL hf (v_accN (e := 49) (o := some (b6, #[])) (l := []) (l' := b.flaps) (len := 0) hf 0 hs rfl ⟨0, rfl, Nat.le_refl _, by omega, rfl⟩ AP22 (enc := encF) (fun _ => rfl) (by decide) (by intro x v hv9; simp only [encF, List.mem_cons, List.not_mem_nil, or_false] at hv9; rcases hv9 with rfl | rfl | rfl | rfl | rfl <;> rfl) rfl rfl rfl (hs.rd (.tail _ (.head _))) (by omega) (by decide)) (by decide) ?_; clear hs hf a; rintro _ w ⟨oz, rfl, hoz, hs⟩ a hf; dsimp only [List.take, List.nil_append] at hs
            rw [List.nil_append] at hoz
            obtain ⟨bcz, csz, rfl⟩ : ∃ bc cs, oz = some (bc, cs) := acc_some hoz (by omega)
            simp only [Nat.zero_add] at hf; dsimp only [accV] at hf; dsimp only [accH, List.cons_append, List.nil_append] at hs
            have hcapz := hoz.cap (sz := 5) (by decide)
            refine gL hf (g_fa (off' := 2) hf F25_2 rfl rfl) (by decide) ?_; clear hf a; intro a hf
            refine uL (u_st hf hs T22 rfl rfl rfl (k := 1) rfl (Nat.le_of_ble_eq_true rfl)) ?_; clear hs; intro w hs; dsimp only [List.set] at hs
            refine e_nil ?_
            refine c_reg ?_
            refine gL hf (g_fa (off' := 2) hf F25_2 rfl rfl) (by decide) ?_; clear hf a; intro a hf
            refine gL hf (g_ld hf hs T22 rfl (k := 1) rfl rfl) (by decide) ?_; clear hf a; intro a hf
            refine gL hf (g_mv hf rfl) (by decide) ?_; clear hf a; intro a hf
            refine gL hf (g_fa (off' := 0) hf F47_0 rfl rfl) (by decide) ?_; clear hf a; intro a hf
            refine gL hf (g_ld hf hs T3 rfl (k := 5) rfl rfl) (by decide) ?_; clear hf a; intro a hf
            refine gL hf (g_ixO hf SL22 rfl rfl (by omega)) (by decide) ?_; clear hf a; intro a hf
            refine gL hf (g_fa hf F49_1 rfl rfl) (by decide) ?_; clear hf a; intro a hf
            refine gL hf (g_fa hf F47_1 rfl rfl) (by decide) ?_; clear hf a; intro a hf
            refine uL (u_st hf hs T3 rfl rfl rfl (k := 0) rfl (acc_short (k := 0) hin hoz).2.1) ?_; clear hs; intro w hs; dsimp only [List.set] at hs
            have hoz2 := (acc_short (k := ((flapA b ki).rh - (flapA b ki).rl)) hin hoz).2.2
            rw [show (flapA b ki).rh - ((flapA b ki).rh - (flapA b ki).rl) = (flapA b ki).rl by omega] at hoz2
            refine e_nil ?_
            refine wp_seq ?_
            refine c_reg ?_
            refine gL hf (g_mv hf rfl) (by decide) ?_; clear hf a; intro a hf
            refine gL hf (g_neq hf rfl rfl) (by decide) ?_; clear hf a; intro a hf
            refine e_nil ?_
            refine c_cond hf rfl (fun hc5 => ?_) (fun hc5 => ?_)
            · skip
              have hz5 : allO (shortB b ki ((flapA b ki).rh - (flapA b ki).rl)) = [] := by rcases shorter_cases hck hin with ⟨hs4, h5⟩ | ⟨j, hs4, _⟩; (exact h5 _ hkz.1 hkz.2); (rw [hs4] at hc5; cases hc5)
              refine c_reg ?_
              refine gL hf (g_ldW hf hs T25 rfl (k := 1) rfl rfl) (by decide) ?_; clear hf a; intro a hf
              have hrdz : Rd encF 5 (some ⟨bcz, 0, none⟩) (shortB b ki ((flapA b ki).rh - (flapA b ki).rl)).flaps.length (shortB b ki ((flapA b ki).rh - (flapA b ki).rl)).flaps _ := hoz2.rdb (sz := 5) (fun _ => rfl) (by decide) (hs.own _ _ (.head _)).2
              have hshz : ShIn (shortB b ki ((flapA b ki).rh - (flapA b ki).rl)) (some ⟨bcz, 0, none⟩) (csz.size / 5) rA rc _ := ⟨hrdz, hs.rd (.tail _ (.tail _ (.head _))), by rw [short_len]; exact hcapz, h.rc_⟩
              have h9 := c_Orders (shortB b ki ((flapA b ki).rh - (flapA b ki).rl)) _ _ _ _ ge gz _ hshz (hs.rd (.tail _ (.tail _ (.tail _ (.tail _ (.head _))))))
              simp only [short_len] at h9
              refine callL hf hs (h9) rfl rfl rfl E25 (by decide) ?_; clear hs hf a; intro w a hs hf
              rw [count_valid (valid_short hv hin hkz)] at hf
              refine gL hf (g_mv hf rfl) (by decide) ?_; clear hf a; intro a hf
              refine gL hf (g_ext hf rfl rfl) (by decide) ?_; clear hf a; intro a hf
              refine gL hf (g_ext hf rfl rfl) (by decide) ?_; clear hf a; intro a hf
              refine gL hf (g_as hf rfl) (by decide) ?_; clear hf a; intro a hf
              refine gL hf (g_as hf rfl) (by decide) ?_; clear hf a; intro a hf
              refine e_nil ?_
              refine c_reg ?_
              refine gL hf (g_mv hf rfl) (by decide) ?_; clear hf a; intro a hf
              refine gL hf (g_eql hf rfl rfl) (by decide) ?_; clear hf a; intro a hf
              refine gL hf (g_mv hf rfl) (by decide) ?_; clear hf a; intro a hf
              refine ggL hf rfl rfl (gyes_t _) (fun hg => g_mv hf rfl) (by decide) ?_; clear hf a; intro a hf
              refine ggL hf rfl rfl (gyes_t _) (fun hg => g_eql hf (ev_gv rfl hg) rfl) (by decide) ?_; clear hf a; intro a hf
              refine gL hf (g_and hf rfl rfl) (by decide) ?_; clear hf a; intro a hf
              refine gL hf (g_mv hf rfl) (by decide) ?_; clear hf a; intro a hf
              refine callG hf hs rfl rfl (gyes_t _) (fun hg => ⟨_, _, _, _, c_folded ge gz _ (hs.rd (.tail _ (.tail _ (.tail _ (.tail _ (.head _)))))), rfl, evs_nil, rfl⟩) E21 (by decide) ?_; clear hs hf a; intro w a hs hf
              refine gL hf (g_and hf rfl rfl) (by decide) ?_; clear hf a; intro a hf
              refine gL hf (g_as hf rfl) (by decide) ?_; clear hf a; intro a hf
              refine e_nil ?_
              refine c_ret (q_thenR ?_)
              refine e_ret1 hf rfl rfl ?_
              exact ⟨by rw [hz5]; rfl, hs.below⟩
            · skip
              obtain ⟨j9, hs9, hj0, hj1, hj2, hj3⟩ : ∃ j : Int, shorterP b ki = (j, 0) ∧ 0 ≤ j ∧ j ≤ ((flapA b ki).rh - (flapA b ki).rl) ∧ allO (shortB b ki j) ≠ [] ∧ ∀ k, 0 ≤ k → k < j → allO (shortB b ki k) = [] := by rcases shorter_cases hck hin with ⟨hs4, _⟩ | h5; (rw [hs4] at hc5; cases hc5); (exact h5)
              have e9 : (shorterP b ki).1 = j9 := by rw [hs9]
              rw [e9] at hf
              have hlp := List.length_pos_iff.2 hj2
              refine c_skip (q_thenN ?_)
              refine c_reg ?_
              refine gL hf (g_fa (off' := 2) hf F25_2 rfl rfl) (by decide) ?_; clear hf a; intro a hf
              refine gL hf (g_ld hf hs T22 rfl (k := 1) rfl rfl) (by decide) ?_; clear hf a; intro a hf
              refine gL hf (g_mv hf rfl) (by decide) ?_; clear hf a; intro a hf
              refine gL hf (g_fa (off' := 1) hf F47_1 rfl rfl) (by decide) ?_; clear hf a; intro a hf
              refine gL hf (g_ld hf hs T3 rfl (k := 5) rfl rfl) (by decide) ?_; clear hf a; intro a hf
              refine gL hf (g_mv hf rfl) (by decide) ?_; clear hf a; intro a hf
              refine gL hf (g_subI hf rfl rfl (by simp only [flapA] at hj1; omega)) (by decide) ?_; clear hf a; intro a hf
              refine gL hf (g_ixO hf SL22 rfl rfl (by omega)) (by decide) ?_; clear hf a; intro a hf
              refine gL hf (g_fa hf F49_1 rfl rfl) (by decide) ?_; clear hf a; intro a hf
              refine gL hf (g_fa hf F47_1 rfl rfl) (by decide) ?_; clear hf a; intro a hf
              refine uL (u_st hf hs T3 rfl rfl rfl (k := 0) rfl (by rw [Array.size_setIfInBounds]; exact (acc_short (k := 0) hin hoz).2.1)) ?_; clear hs; intro w hs; dsimp only [List.set] at hs
              rw [set_twice] at hs
              have hoz3 := (acc_short (k := j9) hin hoz).2.2
              refine e_nil ?_
              refine c_reg ?_
              refine gL hf (g_ldW hf hs T25 rfl (k := 1) rfl rfl) (by decide) ?_; clear hf a; intro a hf
              have hrdz : Rd encF 5 (some ⟨bcz, 0, none⟩) (shortB b ki j9).flaps.length (shortB b ki j9).flaps _ := hoz3.rdb (sz := 5) (fun _ => rfl) (by decide) (hs.own _ _ (.head _)).2
              have hshz : ShIn (shortB b ki j9) (some ⟨bcz, 0, none⟩) (csz.size / 5) rA rc _ := ⟨hrdz, hs.rd (.tail _ (.tail _ (.head _))), by rw [short_len]; exact hcapz, h.rc_⟩
              have h9 := c_Orders (shortB b ki j9) _ _ _ _ ge gz _ hshz (hs.rd (.tail _ (.tail _ (.tail _ (.tail _ (.head _))))))
              simp only [short_len] at h9
              refine callL hf hs (h9) rfl rfl rfl E25 (by decide) ?_; clear hs hf a; intro w a hs hf
              rw [count_valid (valid_short hv hin ⟨hj0, hj1⟩)] at hf
              refine gL hf (g_mv hf rfl) (by decide) ?_; clear hf a; intro a hf
              refine gL hf (g_ext hf rfl rfl) (by decide) ?_; clear hf a; intro a hf
              refine gL hf (g_ext hf rfl rfl) (by decide) ?_; clear hf a; intro a hf
              refine gL hf (g_as hf rfl) (by decide) ?_; clear hf a; intro a hf
              refine gL hf (g_as hf rfl) (by decide) ?_; clear hf a; intro a hf
              refine e_nil ?_
              refine wp_seq ?_
              refine c_reg ?_
              refine gL hf (g_mv hf rfl) (by decide) ?_; clear hf a; intro a hf
              refine gL hf (g_neq hf rfl rfl) (by decide) ?_; clear hf a; intro a hf
              refine gL hf (g_mv hf rfl) (by decide) ?_; clear hf a; intro a hf
              refine ggL hf rfl rfl (gyes_f _) (fun hg => g_mv hf rfl) (by decide) ?_; clear hf a; intro a hf
              refine ggL hf rfl rfl (gyes_f _) (fun hg => g_lss hf (ev_gv rfl hg) rfl) (by decide) ?_; clear hf a; intro a hf
              refine gL hf (g_or hf rfl rfl) (by decide) ?_; clear hf a; intro a hf
              refine gL hf (g_mv hf rfl) (by decide) ?_; clear hf a; intro a hf
              refine ggL hf rfl rfl (gyes_f _) (fun hg => g_mv hf rfl) (by decide) ?_; clear hf a; intro a hf
              refine ggL hf rfl rfl (gyes_f _) (fun hg => g_eql hf (ev_gv rfl hg) rfl) (by decide) ?_; clear hf a; intro a hf
              refine gL hf (g_or hf rfl rfl) (by decide) ?_; clear hf a; intro a hf
              refine e_nil ?_
              refine c_cond hf rfl (fun hc6 => ?_) (fun hc6 => ?_)
              · skip
                refine c_reg ?_
                refine gL hf (g_mv hf rfl) (by decide) ?_; clear hf a; intro a hf
                refine gL hf (g_eql hf rfl rfl) (by decide) ?_; clear hf a; intro a hf
                refine gL hf (g_mv hf rfl) (by decide) ?_; clear hf a; intro a hf
                refine ggL hf rfl rfl (gyes_t _) (fun hg => g_mv hf rfl) (by decide) ?_; clear hf a; intro a hf
                refine ggL hf rfl rfl (gyes_t _) (fun hg => g_gtr hf (ev_gv rfl hg) rfl) (by decide) ?_; clear hf a; intro a hf
                refine gL hf (g_and hf rfl rfl) (by decide) ?_; clear hf a; intro a hf
                refine gL hf (g_mv hf rfl) (by decide) ?_; clear hf a; intro a hf
                refine callG hf hs rfl rfl (gyes_t _) (fun hg => ⟨_, _, _, _, c_folded ge gz _ (hs.rd (.tail _ (.tail _ (.tail _ (.tail _ (.head _)))))), rfl, evs_nil, rfl⟩) E21 (by decide) ?_; clear hs hf a; intro w a hs hf
                refine gL hf (g_and hf rfl rfl) (by decide) ?_; clear hf a; intro a hf
                refine gL hf (g_as hf rfl) (by decide) ?_; clear hf a; intro a hf
                refine e_nil ?_
                refine c_ret (q_thenR ?_)
                refine e_ret1 hf rfl rfl ?_
                exact ⟨by rw [decide_eq_true (show (0 : Int) < (((allO (shortB b ki j9)).length : Nat) : Int) by omega)]; rfl, hs.below⟩
              · skip
                have hj9 : j9 ≠ 0 := by intro e; rw [e] at hc6; simp at hc6
                have hkm : 0 ≤ j9 - 1 ∧ j9 - 1 ≤ ((flapA b ki).rh - (flapA b ki).rl) := ⟨by omega, by omega⟩
                have hz6 := hj3 (j9 - 1) (by omega) (by omega)
                refine c_skip (q_thenN ?_)
                refine c_reg ?_
                refine gL hf (g_fa (off' := 2) hf F25_2 rfl rfl) (by decide) ?_; clear hf a; intro a hf
                refine gL hf (g_ld hf hs T22 rfl (k := 1) rfl rfl) (by decide) ?_; clear hf a; intro a hf
                refine gL hf (g_mv hf rfl) (by decide) ?_; clear hf a; intro a hf
                refine gL hf (g_fa (off' := 1) hf F47_1 rfl rfl) (by decide) ?_; clear hf a; intro a hf
                refine gL hf (g_ld hf hs T3 rfl (k := 5) rfl rfl) (by decide) ?_; clear hf a; intro a hf
                refine gL hf (g_mv hf rfl) (by decide) ?_; clear hf a; intro a hf
                refine gL hf (g_subI hf rfl rfl (by simp only [flapA] at hj1; omega)) (by decide) ?_; clear hf a; intro a hf
                refine gL hf (g_addI hf rfl rfl (by simp only [flapA] at hj1; omega)) (by decide) ?_; clear hf a; intro a hf
                refine gL hf (g_ixO hf SL22 rfl rfl (by omega)) (by decide) ?_; clear hf a; intro a hf
                refine gL hf (g_fa hf F49_1 rfl rfl) (by decide) ?_; clear hf a; intro a hf
                refine gL hf (g_fa hf F47_1 rfl rfl) (by decide) ?_; clear hf a; intro a hf
                refine uL (u_st hf hs T3 rfl rfl rfl (k := 0) rfl (by rw [Array.size_setIfInBounds]; exact (acc_short (k := 0) hin hoz).2.1)) ?_; clear hs; intro w hs; dsimp only [List.set] at hs
                rw [set_twice] at hs
                have hoz4 := (acc_short (k := j9 - 1) hin hoz).2.2
                rw [show (flapA b ki).rh - (j9 - 1) = (flapA b ki).rh - j9 + 1 by omega] at hoz4
                refine e_nil ?_
                refine c_reg ?_
                refine gL hf (g_ldW hf hs T25 rfl (k := 1) rfl rfl) (by decide) ?_; clear hf a; intro a hf
                have hrdz : Rd encF 5 (some ⟨bcz, 0, none⟩) (shortB b ki (j9 - 1)).flaps.length (shortB b ki (j9 - 1)).flaps _ := hoz4.rdb (sz := 5) (fun _ => rfl) (by decide) (hs.own _ _ (.head _)).2
                have hshz : ShIn (shortB b ki (j9 - 1)) (some ⟨bcz, 0, none⟩) (csz.size / 5) rA rc _ := ⟨hrdz, hs.rd (.tail _ (.tail _ (.head _))), by rw [short_len]; exact hcapz, h.rc_⟩
                have h9 := c_Orders (shortB b ki (j9 - 1)) _ _ _ _ ge gz _ hshz (hs.rd (.tail _ (.tail _ (.tail _ (.tail _ (.head _))))))
                simp only [short_len] at h9
                refine callL hf hs (h9) rfl rfl rfl E25 (by decide) ?_; clear hs hf a; intro w a hs hf
                rw [count_valid (valid_short hv hin hkm)] at hf
                refine gL hf (g_mv hf rfl) (by decide) ?_; clear hf a; intro a hf
                refine gL hf (g_ext hf rfl rfl) (by decide) ?_; clear hf a; intro a hf
                refine gL hf (g_ext hf rfl rfl) (by decide) ?_; clear hf a; intro a hf
                refine gL hf (g_as hf rfl) (by decide) ?_; clear hf a; intro a hf
                refine gL hf (g_as hf rfl) (by decide) ?_; clear hf a; intro a hf
                refine e_nil ?_
                refine c_reg ?_
                refine gL hf (g_mv hf rfl) (by decide) ?_; clear hf a; intro a hf
                refine gL hf (g_eql hf rfl rfl) (by decide) ?_; clear hf a; intro a hf
                refine gL hf (g_mv hf rfl) (by decide) ?_; clear hf a; intro a hf
                refine ggL hf rfl rfl (gyes_t _) (fun hg => g_mv hf rfl) (by decide) ?_; clear hf a; intro a hf
                refine ggL hf rfl rfl (gyes_t _) (fun hg => g_eql hf (ev_gv rfl hg) rfl) (by decide) ?_; clear hf a; intro a hf
                refine gL hf (g_and hf rfl rfl) (by decide) ?_; clear hf a; intro a hf
                refine gL hf (g_mv hf rfl) (by decide) ?_; clear hf a; intro a hf
                refine callG hf hs rfl rfl (gyes_t _) (fun hg => ⟨_, _, _, _, c_folded ge gz _ (hs.rd (.tail _ (.tail _ (.tail _ (.tail _ (.head _)))))), rfl, evs_nil, rfl⟩) E21 (by decide) ?_; clear hs hf a; intro w a hs hf
                refine gL hf (g_and hf rfl rfl) (by decide) ?_; clear hf a; intro a hf
                refine gL hf (g_as hf rfl) (by decide) ?_; clear hf a; intro a hf
                refine e_nil ?_
                refine c_ret ?_
                refine e_ret1 hf rfl rfl ?_
                exact ⟨by rw [hz6]; rfl, hs.below⟩

end Go.Proofs.YtpjhffockmnjbaaDoor
