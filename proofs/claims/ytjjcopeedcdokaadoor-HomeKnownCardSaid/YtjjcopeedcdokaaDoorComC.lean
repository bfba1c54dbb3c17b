/- Part ComC of the proofs of the laws of home workers: laws of the engine, plain facts and contracts of the functions that they reach. Conditions: none beyond those of each theorem. -/
import Derived.Test.YtjjcopeedcdokaaDoorComB
set_option linter.unusedVariables false
set_option linter.unusedSimpArgs false
namespace Go.Proofs.YtjjcopeedcdokaaDoor
open Go.RowKit
theorem c_asked (b : Sheet) (fA : Option Addr) (fc : Nat) (rA : Option Addr) (rc : Nat) (ge : TypeId) (gz : Nat × Nat) (ok : Bool) (w0 : World) (h : ShIn b fA fc rA rc w0) (hG : BlkIs 1 sidesA ge gz w0) :
    Calls Tryd.prog 65 #[.agg #[.int .i64 b.wide, .int .i64 b.high, .slice fA b.flaps.length fc, .slice rA b.rules.length rc], .bool ok] w0 (RetX w0 (askR b fA fc rA rc ok w0)) := by
  refine c_enter (n := 18) Tryd.func65 rfl rfl (Nat.le_of_ble_eq_true rfl) ?_; intro a hf; simp only [zipR] at hf
  have hs := St.start w0 [Rd encF 5 fA b.flaps.length b.flaps, Rd encR 2 rA b.rules.length b.rules, BlkIs 1 sidesA ge gz] (stab_app h.stab hG.st1)
  have hfm := h.F.2.1; have hrm := h.R.2.1
  refine c_reg ?_
  refine vL hf (v_boxA hf hs rfl) (by decide) ?_; clear hs hf a; rintro _ w ⟨b1, rfl, hs⟩ a hf
  refine vL hf (v_alloc hs T80 rfl) (by decide) ?_; clear hs hf a; rintro _ w ⟨b2, rfl, hs⟩ a hf
  refine gL hf (g_as hf rfl) (by decide) ?_; clear hf a; intro a hf
  refine e_nil ?_
  refine wp_seq ?_
  refine c_reg ?_
  refine gL hf (g_ldW hf hs T25 rfl (k := 1) rfl rfl) (by decide) ?_; clear hf a; intro a hf
  refine callL hf hs (c_Check b _ _ _ _ _ ⟨hs.rd (.head _), hs.rd (.tail _ (.head _)), h.fc_, h.rc_⟩) rfl rfl rfl E61 (by decide) ?_; clear hs hf a; intro w a hs hf
  refine gL hf (g_as hf rfl) (by decide) ?_; clear hf a; intro a hf
  refine e_nil ?_
  refine c_reg ?_
  refine gL hf (g_mv hf rfl) (by decide) ?_; clear hf a; intro a hf
  refine gL hf (g_neq hf rfl rfl) (by decide) ?_; clear hf a; intro a hf
  refine e_nil ?_
  refine c_cond hf rfl (fun hc1 => ?_) (fun hc1 => ?_)
  · try simp only [decide_eq_true_eq, decide_eq_false_iff_not] at hc1
    have hck : checkB b = false := by cases h9 : checkB b <;> simp_all
    have he : askE b ok = 40 := by simp [askE, hck]
    refine c_reg ?_
    refine gL hf (g_bld hf [[.int .i64 0, .int .i64 0, .slice none 0 0, .slice none 0 0], [.map none]] .nil (fun _ => by kernel_rfl)) (by decide) ?_; clear hf a; intro a hf
    refine gL hf (g_mv hf rfl) (by decide) ?_; clear hf a; intro a hf
    refine uL (u_stW hf hs T80 rfl rfl rfl (k := 0) rfl rfl rfl) ?_; clear hs; intro w hs; dsimp only [List.set] at hs
    refine gL hf (g_as hf rfl) (by decide) ?_; clear hf a; intro a hf
    refine e_nil ?_
    refine c_ret (q_thenR ?_)
    refine e_res hf hs rfl (.cellA T80 rfl (k := 0) rfl rfl (.tmp rfl .nil)) rfl ?_
    exact ⟨_, rfl, hs.below, [.int .i64 0, .int .i64 0, .slice none 0 0, .slice none 0 0, .map none], 0, [], by rw [he, hck]; rfl, rfl, rfl, fun h0 => absurd h0 (by omega)⟩
  · try simp only [decide_eq_true_eq, decide_eq_false_iff_not] at hc1
    have hck : checkB b = true := by cases h9 : checkB b <;> simp_all
    refine c_skip (q_thenN ?_)
    refine wp_seq ?_
    refine c_reg ?_
    refine gL hf (g_mv hf rfl) (by decide) ?_; clear hf a; intro a hf
    refine gL hf (g_not hf rfl) (by decide) ?_; clear hf a; intro a hf
    refine e_nil ?_
    refine c_cond hf rfl (fun hc2 => ?_) (fun hc2 => ?_)
    · try simp only [decide_eq_true_eq, decide_eq_false_iff_not] at hc2
      have he : askE b ok = 41 := by simp at hc2; simp [askE, hck, hc2]
      refine c_reg ?_
      refine gL hf (g_bld hf [[.int .i64 0, .int .i64 0, .slice none 0 0, .slice none 0 0], [.map none]] .nil (fun _ => by kernel_rfl)) (by decide) ?_; clear hf a; intro a hf
      refine uL (u_stW hf hs T80 rfl rfl rfl (k := 0) rfl rfl rfl) ?_; clear hs; intro w hs; dsimp only [List.set] at hs
      refine gL hf (g_as hf rfl) (by decide) ?_; clear hf a; intro a hf
      refine e_nil ?_
      refine c_ret (q_thenR ?_)
      refine e_res hf hs rfl (.cellA T80 rfl (k := 0) rfl rfl (.tmp rfl .nil)) rfl ?_
      exact ⟨_, rfl, hs.below, [.int .i64 0, .int .i64 0, .slice none 0 0, .slice none 0 0, .map none], 0, [], by rw [he]; rfl, rfl, rfl, fun h0 => absurd h0 (by omega)⟩
    · try simp only [decide_eq_true_eq, decide_eq_false_iff_not] at hc2
      have he : askE b ok = 0 := by simp at hc2; simp [askE, hck, hc2]
      refine c_skip (q_thenN ?_)
      refine c_reg ?_
      refine gL hf (g_ldW hf hs T25 rfl (k := 1) rfl rfl) (by decide) ?_; clear hf a; intro a hf
      refine callX hf hs (c_opened b _ _ _ _ _ _ (valid_of hck) _ ⟨hs.rd (.head _), hs.rd (.tail _ (.head _)), h.fc_, h.rc_⟩ (hs.rd (.tail _ (.tail _ (.head _))))) rfl rfl rfl E102 (by decide) ?_; intro v w1 a hR hb hs1 hf; obtain ⟨mb, mp, rfl, hmo, hle, hmi⟩ := hR; have hle0 := Nat.le_trans hs.below.size hle; replace hs := hs.fresh hs1 (mapFresh hle hmi); clear hs1 hb
      refine uL (u_stW hf hs T80 rfl rfl rfl (k := 0) rfl rfl rfl) ?_; clear hs; intro w hs; dsimp only [List.set] at hs
      refine gL hf (g_as hf rfl) (by decide) ?_; clear hf a; intro a hf
      refine e_nil ?_
      refine c_ret ?_
      refine e_res hf hs rfl (.cellA T80 rfl (k := 0) rfl rfl (.tmp rfl .nil)) rfl ?_
      exact ⟨_, rfl, hs.below, sh5 b fA fc rA rc mb, mb, mp, by rw [he]; rfl, rfl, rfl, fun _ => ⟨rfl, hmo, hle0, hs.rd (.head _)⟩⟩

theorem c_Does (b : Sheet) (fA : Option Addr) (fc : Nat) (rA : Option Addr) (rc : Nat) (oA : Option Addr) (oc : Nat) (l : List Int) (ge : TypeId) (gz : Nat × Nat) (hck : checkB b = true) (w0 : World) (h : ShIn b fA fc rA rc w0) (ho : Rd encI 1 oA l.length l w0) (hG : BlkIs 1 sidesA ge gz w0) :
    Calls Tryd.prog 51 #[.agg #[.int .i64 b.wide, .int .i64 b.high, .slice fA b.flaps.length fc, .slice rA b.rules.length rc], .slice oA l.length oc] w0 (Ret w0 (.tuple #[.int .i64 (doesP b l).1, .int .i64 (doesP b l).2])) := by
  refine c_enter (n := 53) Tryd.func51 rfl rfl (Nat.le_of_ble_eq_true rfl) ?_; intro a hf; simp only [zipR] at hf
  have hs := St.start w0 [Rd encF 5 fA b.flaps.length b.flaps, Rd encR 2 rA b.rules.length b.rules, Rd encI 1 oA l.length l, BlkIs 1 sidesA ge gz] (stab_app h.stab (stab_app ho.st1 hG.st1))
  have hfm := h.F.2.1; have hrm := h.R.2.1; have hlm := ho.2.1
  have hv := valid_of hck
  refine c_reg ?_
  refine vL hf (v_boxA hf hs rfl) (by decide) ?_; clear hs hf a; rintro _ w ⟨b1, rfl, hs⟩ a hf
  refine gL hf (g_as hf rfl) (by decide) ?_; clear hf a; intro a hf
  refine gL hf (g_as hf rfl) (by decide) ?_; clear hf a; intro a hf
  refine e_nil ?_
  refine c_draw _ 11 Mx rfl hs (fun _ h => h) ?_; intro w hs hS
  refine gA hf hS (i := 0) rfl (by kernel_rfl) (fun w hs => g_ldW hf hs T25 rfl (k := 0) rfl rfl) (by decide) ?_; clear hf a; intro a hf
  refine gA hf hS (i := 1) rfl (by kernel_rfl) (fun w hs => g_ldW hf hs T25 rfl (k := 0) rfl rfl) (by decide) ?_; clear hf a; intro a hf
  refine gA hf hS (i := 2) rfl (by kernel_rfl) (fun w hs => g_mv hf rfl) (by decide) ?_; clear hf a; intro a hf
  refine two (i := 3) (j := 8) (by kernel_rfl) ?_ ?_
  · skip
    refine oCall hf hs rfl (c_isOrder b _ _ _ _ _ _ l hv _ ⟨hs.rd (.head _), hs.rd (.tail _ (.head _)), h.fc_, h.rc_⟩ (hs.rd (.tail _ (.tail _ (.head _))))) rfl rfl rfl E95 (by decide) (fun _ h => h.sub (.refl _)) ?_; clear hs hf hS a; intro w a hs hS hf
    refine two (i := 4) (j := 8) (by kernel_rfl) ?_ ?_
    · skip
      refine oCallX hf hs rfl (c_asked b _ _ _ _ _ _ (ordB b l) _ ⟨hs.rd (.head _), hs.rd (.tail _ (.head _)), h.fc_, h.rc_⟩ (hs.rd (.tail _ (.tail _ (.tail _ (.head _)))))) rfl rfl rfl E65 (by decide) (fun _ h => h.sub (.refl _)) ?_; intro v w1 a hR hb hs1 hS hf; obtain ⟨cs, mb, mp, rfl, hcl, hcp, hcm⟩ := hR; replace hs := hs.fresh hs1 (condFresh fun he => (hcm he).2.2); clear hs1 hb
      refine gA hf hS (i := 5) rfl (by kernel_rfl) (fun w hs => g_mv hf rfl) (by decide) ?_; clear hf a; intro a hf
      refine gA hf hS (i := 6) rfl (by kernel_rfl) (fun w hs => g_ext hf rfl rfl) (by decide) ?_; clear hf a; intro a hf
      refine gA hf hS (i := 7) rfl (by kernel_rfl) (fun w hs => g_ext hf rfl rfl) (by decide) ?_; clear hf a; intro a hf
      refine one (i := 8) (by kernel_rfl) ?_
      refine oV hf rfl (v_alloc hs T80 rfl) (by decide) (fun _ _ ⟨_, _, h⟩ => (h.sub (.cons _ (.refl _))).subD (fun _ h => (.tail _ h))) ?_; clear hs hf hS a; rintro _ w ⟨b2, rfl, hs⟩ hS a hf
      refine one (i := 9) (by kernel_rfl) ?_
      refine oU rfl (u_stW hf hs T80 rfl rfl hcp (k := 0) rfl hcl hcl) (fun _ h => (h.sub (.cons _ (.refl _))).subD (fun _ h => (.tail _ h))) ?_; clear hs hS; intro w hs hS; dsimp only [List.set] at hs
      refine gA hf hS (i := 10) rfl (by kernel_rfl) (fun w hs => g_as hf rfl) (by decide) ?_; clear hf a; intro a hf
      refine e_done (by kernel_rfl) ?_
      refine wp_seq ?_
      refine c_reg ?_
      refine gL hf (g_mv hf rfl) (by decide) ?_; clear hf a; intro a hf
      refine gL hf (g_neq hf rfl rfl) (by decide) ?_; clear hf a; intro a hf
      refine e_nil ?_
      refine c_cond hf rfl (fun hc1 => ?_) (fun hc1 => ?_)
      · try simp only [decide_eq_true_eq, decide_eq_false_iff_not] at hc1
        have he : ¬ askE b (ordB b l) = 0 := by simpa using hc1
        refine c_reg ?_
        refine gL hf (g_mv hf rfl) (by decide) ?_; clear hf a; intro a hf
        refine gL hf (g_as hf rfl) (by decide) ?_; clear hf a; intro a hf
        refine gL hf (g_as hf rfl) (by decide) ?_; clear hf a; intro a hf
        refine e_nil ?_
        refine c_ret (q_thenR ?_)
        refine e_ret2 hf rfl rfl rfl ?_
        exact ⟨by simp only [doesP, if_neg he]; rfl, hs.below⟩
      · try simp only [decide_eq_true_eq, decide_eq_false_iff_not] at hc1
        have he : askE b (ordB b l) = 0 := by simpa using hc1
        obtain ⟨rfl, hmo, _, _⟩ := hcm he
        replace hs := hs.un (fun w h => h he)
        refine c_skip (q_thenN ?_)
        refine c_reg ?_
        refine gL hf (g_as hf rfl) (by decide) ?_; clear hf a; intro a hf
        refine e_nil ?_
        refine wp_seq ?_
        refine c_reg ?_
        refine gL hf (g_fa (off' := 0) hf F80_0 rfl rfl) (by decide) ?_; clear hf a; intro a hf
        refine gL hf (g_fa (off' := 3) hf F25_3 rfl rfl) (by decide) ?_; clear hf a; intro a hf
        refine gL hf (g_ld hf hs T23 rfl (k := 0) rfl rfl) (by decide) ?_; clear hf a; intro a hf
        refine gL hf (g_len hf SL23 rfl) (by decide) ?_; clear hf a; intro a hf
        refine gL hf (g_mv hf rfl) (by decide) ?_; clear hf a; intro a hf
        refine e_nil ?_
        refine c_block ?_
        refine c_loop hf hs (List.range' 8 1 ++ List.range' 10 1 ++ List.range' 26 25) (σ := Nat) (fun k => [(8, .int .i64 (worst b l k)), (26, .int .i64 (k : Nat))]) (fun k => _) (fun k => k ≤ b.rules.length) (fun k => b.rules.length - k) 0 (by omega) (.cons rfl (.cons rfl .nil)) rfl ?_
        intro k a w hJ hf hs
        refine c_reg ?_
        refine gL hf (g_lss hf rfl rfl) (by decide) ?_; clear hf a; intro a hf
        refine e_nil ?_
        refine c_condS hf rfl (fun hc2 => ?_) (fun hc2 => ?_)
        · try simp only [decide_eq_true_eq, decide_eq_false_iff_not] at hc2
          have hrm9 := getD_mem (l := b.rules) (i := k) (by omega)
          refine c_skip (q_thenN ?_)
          refine c_blockS ?_
          refine c_reg ?_
          (first | (refine gL hf (g_ixE hf hs (.tail _ (.tail _ (.head _))) SL23 rfl rfl (by omega)) (by decide) ?_) | (refine gL hf (g_ixD hf hs (.tail _ (.tail _ (.head _))) SL23 rfl rfl (by omega)) (by decide) ?_)); clear hf a; intro a hf
          refine gL hf (g_ldEW hf hs (.tail _ (.tail _ (.head _))) T51 rfl rfl (by omega)) (by decide) ?_; clear hf a; intro a hf
          refine vL hf (v_alloc hs T51 rfl) (by decide) ?_; clear hs hf a; rintro _ w ⟨b3, rfl, hs⟩ a hf
          refine uL (u_stW hf hs T51 rfl rfl rfl (k := 0) rfl rfl rfl) ?_; clear hs; intro w hs; dsimp only [List.set] at hs
          refine e_nil ?_
          refine c_draw _ 9 Mx rfl hs (fun _ h => h) ?_; intro w hs hS
          refine gA hf hS (i := 0) rfl (by kernel_rfl) (fun w hs => g_mv hf rfl) (by decide) ?_; clear hf a; intro a hf
          refine gA hf hS (i := 1) rfl (by kernel_rfl) (fun w hs => g_fa (off' := 1) hf F51_1 rfl rfl) (by decide) ?_; clear hf a; intro a hf
          refine gA hf hS (i := 2) rfl (by kernel_rfl) (fun w hs => g_ld hf hs T3 rfl (k := 0) rfl rfl) (by decide) ?_; clear hf a; intro a hf
          refine gA hf hS (i := 4) rfl (by kernel_rfl) (fun w hs => g_mv hf rfl) (by decide) ?_; clear hf a; intro a hf
          refine gA hf hS (i := 5) rfl (by kernel_rfl) (fun w hs => g_fa (off' := 0) hf F51_0 rfl rfl) (by decide) ?_; clear hf a; intro a hf
          refine gA hf hS (i := 6) rfl (by kernel_rfl) (fun w hs => g_ld hf hs T3 rfl (k := 0) rfl rfl) (by decide) ?_; clear hf a; intro a hf
          refine one (i := 3) (by kernel_rfl) ?_
          refine oCall hf hs rfl (c_Index _ _ _ l _ _ (hs.rd (.tail _ (.tail _ (.tail _ (.head _)))))) rfl rfl rfl E96 (by decide) (fun _ h => h.sub (.refl _)) ?_; clear hs hf hS a; intro w a hs hS hf
          refine one (i := 7) (by kernel_rfl) ?_
          refine oCall hf hs rfl (c_Index _ _ _ l _ _ (hs.rd (.tail _ (.tail _ (.tail _ (.head _)))))) rfl rfl rfl E96 (by decide) (fun _ h => h.sub (.refl _)) ?_; clear hs hf hS a; intro w a hs hS hf
          refine gA hf hS (i := 8) rfl (by kernel_rfl) (fun w hs => g_gtr hf rfl rfl) (by decide) ?_; clear hf a; intro a hf
          refine e_done (by kernel_rfl) ?_
          refine c_cond hf rfl (fun hc3 => ?_) (fun hc3 => ?_)
          · try simp only [decide_eq_true_eq, decide_eq_false_iff_not] at hc3
            have e9 : worst b l (k + 1) = max (worst b l k) (mget mp (b.rules.getD k default).over (b.rules.getD k default).under) := by rw [worst_succ (by omega), stepW, if_pos hc3, meets_rule hv hmo hrm9]
            refine c_reg1 ?_
            refine gL hf (g_mv hf rfl) (by decide) ?_; clear hf a; intro a hf
            refine gL hf (g_fa (off' := 4) hf F80_1 rfl rfl) (by decide) ?_; clear hf a; intro a hf
            refine gL hf (g_ld hf hs T78 rfl (k := 1) rfl rfl) (by decide) ?_; clear hf a; intro a hf
            refine gL hf (g_fa (off' := 0) hf F51_0 rfl rfl) (by decide) ?_; clear hf a; intro a hf
            refine gL hf (g_ld hf hs T3 rfl (k := 0) rfl rfl) (by decide) ?_; clear hf a; intro a hf
            refine gL hf (g_fa (off' := 1) hf F51_1 rfl rfl) (by decide) ?_; clear hf a; intro a hf
            refine gL hf (g_ld hf hs T3 rfl (k := 0) rfl rfl) (by decide) ?_; clear hf a; intro a hf
            refine gL hf (g_bld hf [[.int .i64 0], [.int .i64 0]] (.cons rfl (.cons rfl .nil)) (fun _ => by kernel_rfl)) (by decide) ?_; clear hf a; intro a hf
            refine gL hf (g_lookD hf hs (.head _) MT78 rfl rfl) (by decide) ?_; clear hf a; intro a hf
            refine vL hf (v_lits (len := 1) hf hs SL31 T3 (.cons rfl .nil) rfl rfl rfl rfl (by decide) rfl) (by decide) ?_; clear hs hf a; rintro _ w ⟨b4, rfl, hs⟩ a hf
            refine callL hf hs (c_greatest _ _ [_] (worst b l k) _ (rd_one rfl (hs.own _ _ (.head _)).2)) rfl rfl rfl E97 (by decide) ?_; clear hs hf a; intro w a hs hf
            refine gL hf (g_as hf rfl) (by decide) ?_; clear hf a; intro a hf
            refine e_nil1 (q_blkN (q_thenN ?_))
            refine c_reg1 ?_
            refine gL hf (g_addI hf rfl rfl (by omega)) (by decide) ?_; clear hf a; intro a hf
            refine gL hf (g_mv hf rfl) (by decide) ?_; clear hf a; intro a hf
            refine e_nil1 (q_thenN ?_)
            first | rw [show maxL (worst b l k) [mget mp (b.rules.getD k default).over (b.rules.getD k default).under] = worst b l (k + 1) from e9.symm] at hf | rw [← e9] at hf
            exact ⟨k + 1, (by omega), (by omega), hf.back (by repeat (first | (with_reducible exact Ext.base) | ((with_reducible refine Ext.cons ?_ ?_); (· rfl)) | ((with_reducible refine Ext.over ?_ ?_ ?_); (· rfl); (· rfl)))) (allKeys rfl) (.cons rfl (.cons rfl .nil)), hs.dropN 2⟩
          · try simp only [decide_eq_true_eq, decide_eq_false_iff_not] at hc3
            have e9 : worst b l (k + 1) = worst b l k := by rw [worst_succ (by omega), stepW, if_neg hc3]
            refine c_skip (q_blkN (q_thenN ?_))
            refine c_reg1 ?_
            refine gL hf (g_addI hf rfl rfl (by omega)) (by decide) ?_; clear hf a; intro a hf
            refine gL hf (g_mv hf rfl) (by decide) ?_; clear hf a; intro a hf
            refine e_nil1 (q_thenN ?_)
            first | rw [show maxL (worst b l k) [mget mp (b.rules.getD k default).over (b.rules.getD k default).under] = worst b l (k + 1) from e9.symm] at hf | rw [← e9] at hf
            exact ⟨k + 1, (by omega), (by omega), hf.back (by repeat (first | (with_reducible exact Ext.base) | ((with_reducible refine Ext.cons ?_ ?_); (· rfl)) | ((with_reducible refine Ext.over ?_ ?_ ?_); (· rfl); (· rfl)))) (allKeys rfl) (.cons rfl (.cons rfl .nil)), hs.dropN 1⟩
        · try simp only [decide_eq_true_eq, decide_eq_false_iff_not] at hc2
          refine c_exit (q_thenX (q_thenX (q_blkX (q_thenN ?_))))
          refine c_reg ?_
          refine gL hf (g_mv hf rfl) (by decide) ?_; clear hf a; intro a hf
          refine gL hf (g_subI hf rfl rfl (by have := worst_le b l k; omega)) (by decide) ?_; clear hf a; intro a hf
          refine gL hf (g_as hf rfl) (by decide) ?_; clear hf a; intro a hf
          refine gL hf (g_as hf rfl) (by decide) ?_; clear hf a; intro a hf
          refine e_nil ?_
          refine c_ret ?_
          refine e_ret2 hf rfl rfl rfl ?_
          have hk9 : k = b.rules.length := by omega
          subst hk9
          exact ⟨by simp only [doesP, he, if_true], hs.below⟩
    · skip
      refine oV hf rfl (v_alloc hs T80 rfl) (by decide) (fun _ _ ⟨_, _, h⟩ => h.sub (.cons _ (.refl _))) ?_; clear hs hf hS a; rintro _ w ⟨b2, rfl, hs⟩ hS a hf
      refine one (i := 4) (by kernel_rfl) ?_
      refine oCallX hf hs rfl (c_asked b _ _ _ _ _ _ (ordB b l) _ ⟨hs.rd (.head _), hs.rd (.tail _ (.head _)), h.fc_, h.rc_⟩ (hs.rd (.tail _ (.tail _ (.tail _ (.head _)))))) rfl rfl rfl E65 (by decide) (fun _ h => h.sub (.cons _ (.refl _))) ?_; intro v w1 a hR hb hs1 hS hf; obtain ⟨cs, mb, mp, rfl, hcl, hcp, hcm⟩ := hR; replace hs := hs.fresh hs1 (condFresh fun he => (hcm he).2.2); clear hs1 hb
      refine gA hf hS (i := 5) rfl (by kernel_rfl) (fun w hs => g_mv hf rfl) (by decide) ?_; clear hf a; intro a hf
      refine gA hf hS (i := 6) rfl (by kernel_rfl) (fun w hs => g_ext hf rfl rfl) (by decide) ?_; clear hf a; intro a hf
      refine gA hf hS (i := 7) rfl (by kernel_rfl) (fun w hs => g_ext hf rfl rfl) (by decide) ?_; clear hf a; intro a hf
      refine one (i := 9) (by kernel_rfl) ?_
      refine oU rfl (u_stW hf hs T80 rfl rfl hcp (k := 0) rfl hcl hcl) (fun _ h => (h.sub (.cons _ (.refl _))).subD (fun _ h => (.tail _ h))) ?_; clear hs hS; intro w hs hS; dsimp only [List.set] at hs
      refine gA hf hS (i := 10) rfl (by kernel_rfl) (fun w hs => g_as hf rfl) (by decide) ?_; clear hf a; intro a hf
      refine e_done (by kernel_rfl) ?_
      refine wp_seq ?_
      refine c_reg ?_
      refine gL hf (g_mv hf rfl) (by decide) ?_; clear hf a; intro a hf
      refine gL hf (g_neq hf rfl rfl) (by decide) ?_; clear hf a; intro a hf
      refine e_nil ?_
      refine c_cond hf rfl (fun hc1 => ?_) (fun hc1 => ?_)
      · try simp only [decide_eq_true_eq, decide_eq_false_iff_not] at hc1
        have he : ¬ askE b (ordB b l) = 0 := by simpa using hc1
        refine c_reg ?_
        refine gL hf (g_mv hf rfl) (by decide) ?_; clear hf a; intro a hf
        refine gL hf (g_as hf rfl) (by decide) ?_; clear hf a; intro a hf
        refine gL hf (g_as hf rfl) (by decide) ?_; clear hf a; intro a hf
        refine e_nil ?_
        refine c_ret (q_thenR ?_)
        refine e_ret2 hf rfl rfl rfl ?_
        exact ⟨by simp only [doesP, if_neg he]; rfl, hs.below⟩
      · try simp only [decide_eq_true_eq, decide_eq_false_iff_not] at hc1
        have he : askE b (ordB b l) = 0 := by simpa using hc1
        obtain ⟨rfl, hmo, _, _⟩ := hcm he
        replace hs := hs.un (fun w h => h he)
        refine c_skip (q_thenN ?_)
        refine c_reg ?_
        refine gL hf (g_as hf rfl) (by decide) ?_; clear hf a; intro a hf
        refine e_nil ?_
        refine wp_seq ?_
        refine c_reg ?_
        refine gL hf (g_fa (off' := 0) hf F80_0 rfl rfl) (by decide) ?_; clear hf a; intro a hf
        refine gL hf (g_fa (off' := 3) hf F25_3 rfl rfl) (by decide) ?_; clear hf a; intro a hf
        refine gL hf (g_ld hf hs T23 rfl (k := 0) rfl rfl) (by decide) ?_; clear hf a; intro a hf
        refine gL hf (g_len hf SL23 rfl) (by decide) ?_; clear hf a; intro a hf
        refine gL hf (g_mv hf rfl) (by decide) ?_; clear hf a; intro a hf
        refine e_nil ?_
        refine c_block ?_
        refine c_loop hf hs (List.range' 8 1 ++ List.range' 10 1 ++ List.range' 26 25) (σ := Nat) (fun k => [(8, .int .i64 (worst b l k)), (26, .int .i64 (k : Nat))]) (fun k => _) (fun k => k ≤ b.rules.length) (fun k => b.rules.length - k) 0 (by omega) (.cons rfl (.cons rfl .nil)) rfl ?_
        intro k a w hJ hf hs
        refine c_reg ?_
        refine gL hf (g_lss hf rfl rfl) (by decide) ?_; clear hf a; intro a hf
        refine e_nil ?_
        refine c_condS hf rfl (fun hc2 => ?_) (fun hc2 => ?_)
        · try simp only [decide_eq_true_eq, decide_eq_false_iff_not] at hc2
          have hrm9 := getD_mem (l := b.rules) (i := k) (by omega)
          refine c_skip (q_thenN ?_)
          refine c_blockS ?_
          refine c_reg ?_
          (first | (refine gL hf (g_ixE hf hs (.tail _ (.tail _ (.head _))) SL23 rfl rfl (by omega)) (by decide) ?_) | (refine gL hf (g_ixD hf hs (.tail _ (.tail _ (.head _))) SL23 rfl rfl (by omega)) (by decide) ?_)); clear hf a; intro a hf
          refine gL hf (g_ldEW hf hs (.tail _ (.tail _ (.head _))) T51 rfl rfl (by omega)) (by decide) ?_; clear hf a; intro a hf
          refine vL hf (v_alloc hs T51 rfl) (by decide) ?_; clear hs hf a; rintro _ w ⟨b3, rfl, hs⟩ a hf
          refine uL (u_stW hf hs T51 rfl rfl rfl (k := 0) rfl rfl rfl) ?_; clear hs; intro w hs; dsimp only [List.set] at hs
          refine e_nil ?_
          refine c_draw _ 9 Mx rfl hs (fun _ h => h) ?_; intro w hs hS
          refine gA hf hS (i := 0) rfl (by kernel_rfl) (fun w hs => g_mv hf rfl) (by decide) ?_; clear hf a; intro a hf
          refine gA hf hS (i := 1) rfl (by kernel_rfl) (fun w hs => g_fa (off' := 1) hf F51_1 rfl rfl) (by decide) ?_; clear hf a; intro a hf
          refine gA hf hS (i := 2) rfl (by kernel_rfl) (fun w hs => g_ld hf hs T3 rfl (k := 0) rfl rfl) (by decide) ?_; clear hf a; intro a hf
          refine gA hf hS (i := 4) rfl (by kernel_rfl) (fun w hs => g_mv hf rfl) (by decide) ?_; clear hf a; intro a hf
          refine gA hf hS (i := 5) rfl (by kernel_rfl) (fun w hs => g_fa (off' := 0) hf F51_0 rfl rfl) (by decide) ?_; clear hf a; intro a hf
          refine gA hf hS (i := 6) rfl (by kernel_rfl) (fun w hs => g_ld hf hs T3 rfl (k := 0) rfl rfl) (by decide) ?_; clear hf a; intro a hf
          refine one (i := 3) (by kernel_rfl) ?_
          refine oCall hf hs rfl (c_Index _ _ _ l _ _ (hs.rd (.tail _ (.tail _ (.tail _ (.head _)))))) rfl rfl rfl E96 (by decide) (fun _ h => h.sub (.refl _)) ?_; clear hs hf hS a; intro w a hs hS hf
          refine one (i := 7) (by kernel_rfl) ?_
          refine oCall hf hs rfl (c_Index _ _ _ l _ _ (hs.rd (.tail _ (.tail _ (.tail _ (.head _)))))) rfl rfl rfl E96 (by decide) (fun _ h => h.sub (.refl _)) ?_; clear hs hf hS a; intro w a hs hS hf
          refine gA hf hS (i := 8) rfl (by kernel_rfl) (fun w hs => g_gtr hf rfl rfl) (by decide) ?_; clear hf a; intro a hf
          refine e_done (by kernel_rfl) ?_
          refine c_cond hf rfl (fun hc3 => ?_) (fun hc3 => ?_)
          · try simp only [decide_eq_true_eq, decide_eq_false_iff_not] at hc3
            have e9 : worst b l (k + 1) = max (worst b l k) (mget mp (b.rules.getD k default).over (b.rules.getD k default).under) := by rw [worst_succ (by omega), stepW, if_pos hc3, meets_rule hv hmo hrm9]
            refine c_reg1 ?_
            refine gL hf (g_mv hf rfl) (by decide) ?_; clear hf a; intro a hf
            refine gL hf (g_fa (off' := 4) hf F80_1 rfl rfl) (by decide) ?_; clear hf a; intro a hf
            refine gL hf (g_ld hf hs T78 rfl (k := 1) rfl rfl) (by decide) ?_; clear hf a; intro a hf
            refine gL hf (g_fa (off' := 0) hf F51_0 rfl rfl) (by decide) ?_; clear hf a; intro a hf
            refine gL hf (g_ld hf hs T3 rfl (k := 0) rfl rfl) (by decide) ?_; clear hf a; intro a hf
            refine gL hf (g_fa (off' := 1) hf F51_1 rfl rfl) (by decide) ?_; clear hf a; intro a hf
            refine gL hf (g_ld hf hs T3 rfl (k := 0) rfl rfl) (by decide) ?_; clear hf a; intro a hf
            refine gL hf (g_bld hf [[.int .i64 0], [.int .i64 0]] (.cons rfl (.cons rfl .nil)) (fun _ => by kernel_rfl)) (by decide) ?_; clear hf a; intro a hf
            refine gL hf (g_lookD hf hs (.head _) MT78 rfl rfl) (by decide) ?_; clear hf a; intro a hf
            refine vL hf (v_lits (len := 1) hf hs SL31 T3 (.cons rfl .nil) rfl rfl rfl rfl (by decide) rfl) (by decide) ?_; clear hs hf a; rintro _ w ⟨b4, rfl, hs⟩ a hf
            refine callL hf hs (c_greatest _ _ [_] (worst b l k) _ (rd_one rfl (hs.own _ _ (.head _)).2)) rfl rfl rfl E97 (by decide) ?_; clear hs hf a; intro w a hs hf
            refine gL hf (g_as hf rfl) (by decide) ?_; clear hf a; intro a hf
            refine e_nil1 (q_blkN (q_thenN ?_))
            refine c_reg1 ?_
            refine gL hf (g_addI hf rfl rfl (by omega)) (by decide) ?_; clear hf a; intro a hf
            refine gL hf (g_mv hf rfl) (by decide) ?_; clear hf a; intro a hf
            refine e_nil1 (q_thenN ?_)
            first | rw [show maxL (worst b l k) [mget mp (b.rules.getD k default).over (b.rules.getD k default).under] = worst b l (k + 1) from e9.symm] at hf | rw [← e9] at hf
            exact ⟨k + 1, (by omega), (by omega), hf.back (by repeat (first | (with_reducible exact Ext.base) | ((with_reducible refine Ext.cons ?_ ?_); (· rfl)) | ((with_reducible refine Ext.over ?_ ?_ ?_); (· rfl); (· rfl)))) (allKeys rfl) (.cons rfl (.cons rfl .nil)), hs.dropN 2⟩
          · try simp only [decide_eq_true_eq, decide_eq_false_iff_not] at hc3
            have e9 : worst b l (k + 1) = worst b l k := by rw [worst_succ (by omega), stepW, if_neg hc3]
            refine c_skip (q_blkN (q_thenN ?_))
            refine c_reg1 ?_
            refine gL hf (g_addI hf rfl rfl (by omega)) (by decide) ?_; clear hf a; intro a hf
            refine gL hf (g_mv hf rfl) (by decide) ?_; clear hf a; intro a hf
            refine e_nil1 (q_thenN ?_)
            first | rw [show maxL (worst b l k) [mget mp (b.rules.getD k default).over (b.rules.getD k default).under] = worst b l (k + 1) from e9.symm] at hf | rw [← e9] at hf
            exact ⟨k + 1, (by omega), (by omega), hf.back (by repeat (first | (with_reducible exact Ext.base) | ((with_reducible refine Ext.cons ?_ ?_); (· rfl)) | ((with_reducible refine Ext.over ?_ ?_ ?_); (· rfl); (· rfl)))) (allKeys rfl) (.cons rfl (.cons rfl .nil)), hs.dropN 1⟩
        · try simp only [decide_eq_true_eq, decide_eq_false_iff_not] at hc2
          refine c_exit (q_thenX (q_thenX (q_blkX (q_thenN ?_))))
          refine c_reg ?_
          refine gL hf (g_mv hf rfl) (by decide) ?_; clear hf a; intro a hf
          refine gL hf (g_subI hf rfl rfl (by have := worst_le b l k; omega)) (by decide) ?_; clear hf a; intro a hf
          refine gL hf (g_as hf rfl) (by decide) ?_; clear hf a; intro a hf
          refine gL hf (g_as hf rfl) (by decide) ?_; clear hf a; intro a hf
          refine e_nil ?_
          refine c_ret ?_
          refine e_ret2 hf rfl rfl rfl ?_
          have hk9 : k = b.rules.length := by omega
          subst hk9
          exact ⟨by simp only [doesP, he, if_true], hs.below⟩
  · skip
    refine oV hf rfl (v_alloc hs T80 rfl) (by decide) (fun _ _ ⟨_, _, h⟩ => h.sub (.cons _ (.refl _))) ?_; clear hs hf hS a; rintro _ w ⟨b2, rfl, hs⟩ hS a hf
    refine one (i := 3) (by kernel_rfl) ?_
    refine oCall hf hs rfl (c_isOrder b _ _ _ _ _ _ l hv _ ⟨hs.rd (.head _), hs.rd (.tail _ (.head _)), h.fc_, h.rc_⟩ (hs.rd (.tail _ (.tail _ (.head _))))) rfl rfl rfl E95 (by decide) (fun _ h => h.sub (.cons _ (.refl _))) ?_; clear hs hf hS a; intro w a hs hS hf
    refine one (i := 4) (by kernel_rfl) ?_
    refine oCallX hf hs rfl (c_asked b _ _ _ _ _ _ (ordB b l) _ ⟨hs.rd (.head _), hs.rd (.tail _ (.head _)), h.fc_, h.rc_⟩ (hs.rd (.tail _ (.tail _ (.tail _ (.head _)))))) rfl rfl rfl E65 (by decide) (fun _ h => h.sub (.cons _ (.refl _))) ?_; intro v w1 a hR hb hs1 hS hf; obtain ⟨cs, mb, mp, rfl, hcl, hcp, hcm⟩ := hR; replace hs := hs.fresh hs1 (condFresh fun he => (hcm he).2.2); clear hs1 hb
    refine gA hf hS (i := 5) rfl (by kernel_rfl) (fun w hs => g_mv hf rfl) (by decide) ?_; clear hf a; intro a hf
    refine gA hf hS (i := 6) rfl (by kernel_rfl) (fun w hs => g_ext hf rfl rfl) (by decide) ?_; clear hf a; intro a hf
    refine gA hf hS (i := 7) rfl (by kernel_rfl) (fun w hs => g_ext hf rfl rfl) (by decide) ?_; clear hf a; intro a hf
    refine one (i := 9) (by kernel_rfl) ?_
    refine oU rfl (u_stW hf hs T80 rfl rfl hcp (k := 0) rfl hcl hcl) (fun _ h => (h.sub (.cons _ (.refl _))).subD (fun _ h => (.tail _ h))) ?_; clear hs hS; intro w hs hS; dsimp only [List.set] at hs
    refine gA hf hS (i := 10) rfl (by kernel_rfl) (fun w hs => g_as hf rfl) (by decide) ?_; clear hf a; intro a hf
    refine e_done (by kernel_rfl) ?_
    refine wp_seq ?_
    refine c_reg ?_
    refine gL hf (g_mv hf rfl) (by decide) ?_; clear hf a; intro a hf
    refine gL hf (g_neq hf rfl rfl) (by decide) ?_; clear hf a; intro a hf
    refine e_nil ?_
    refine c_cond hf rfl (fun hc1 => ?_) (fun hc1 => ?_)
    · try simp only [decide_eq_true_eq, decide_eq_false_iff_not] at hc1
      have he : ¬ askE b (ordB b l) = 0 := by simpa using hc1
      refine c_reg ?_
      refine gL hf (g_mv hf rfl) (by decide) ?_; clear hf a; intro a hf
      refine gL hf (g_as hf rfl) (by decide) ?_; clear hf a; intro a hf
      refine gL hf (g_as hf rfl) (by decide) ?_; clear hf a; intro a hf
      refine e_nil ?_
      refine c_ret (q_thenR ?_)
      refine e_ret2 hf rfl rfl rfl ?_
      exact ⟨by simp only [doesP, if_neg he]; rfl, hs.below⟩
    · try simp only [decide_eq_true_eq, decide_eq_false_iff_not] at hc1
      have he : askE b (ordB b l) = 0 := by simpa using hc1
      obtain ⟨rfl, hmo, _, _⟩ := hcm he
      replace hs := hs.un (fun w h => h he)
      refine c_skip (q_thenN ?_)
      refine c_reg ?_
      refine gL hf (g_as hf rfl) (by decide) ?_; clear hf a; intro a hf
      refine e_nil ?_
      refine wp_seq ?_
      refine c_reg ?_
      refine gL hf (g_fa (off' := 0) hf F80_0 rfl rfl) (by decide) ?_; clear hf a; intro a hf
      refine gL hf (g_fa (off' := 3) hf F25_3 rfl rfl) (by decide) ?_; clear hf a; intro a hf
      refine gL hf (g_ld hf hs T23 rfl (k := 0) rfl rfl) (by decide) ?_; clear hf a; intro a hf
      refine gL hf (g_len hf SL23 rfl) (by decide) ?_; clear hf a; intro a hf
      refine gL hf (g_mv hf rfl) (by decide) ?_; clear hf a; intro a hf
      refine e_nil ?_
      refine c_block ?_
      refine c_loop hf hs (List.range' 8 1 ++ List.range' 10 1 ++ List.range' 26 25) (σ := Nat) (fun k => [(8, .int .i64 (worst b l k)), (26, .int .i64 (k : Nat))]) (fun k => _) (fun k => k ≤ b.rules.length) (fun k => b.rules.length - k) 0 (by omega) (.cons rfl (.cons rfl .nil)) rfl ?_
      intro k a w hJ hf hs
      refine c_reg ?_
      refine gL hf (g_lss hf rfl rfl) (by decide) ?_; clear hf a; intro a hf
      refine e_nil ?_
      refine c_condS hf rfl (fun hc2 => ?_) (fun hc2 => ?_)
      · try simp only [decide_eq_true_eq, decide_eq_false_iff_not] at hc2
        have hrm9 := getD_mem (l := b.rules) (i := k) (by omega)
        refine c_skip (q_thenN ?_)
        refine c_blockS ?_
        refine c_reg ?_
        (first | (refine gL hf (g_ixE hf hs (.tail _ (.tail _ (.head _))) SL23 rfl rfl (by omega)) (by decide) ?_) | (refine gL hf (g_ixD hf hs (.tail _ (.tail _ (.head _))) SL23 rfl rfl (by omega)) (by decide) ?_)); clear hf a; intro a hf
        refine gL hf (g_ldEW hf hs (.tail _ (.tail _ (.head _))) T51 rfl rfl (by omega)) (by decide) ?_; clear hf a; intro a hf
        refine vL hf (v_alloc hs T51 rfl) (by decide) ?_; clear hs hf a; rintro _ w ⟨b3, rfl, hs⟩ a hf
        refine uL (u_stW hf hs T51 rfl rfl rfl (k := 0) rfl rfl rfl) ?_; clear hs; intro w hs; dsimp only [List.set] at hs
        refine e_nil ?_
        refine c_draw _ 9 Mx rfl hs (fun _ h => h) ?_; intro w hs hS
        refine gA hf hS (i := 0) rfl (by kernel_rfl) (fun w hs => g_mv hf rfl) (by decide) ?_; clear hf a; intro a hf
        refine gA hf hS (i := 1) rfl (by kernel_rfl) (fun w hs => g_fa (off' := 1) hf F51_1 rfl rfl) (by decide) ?_; clear hf a; intro a hf
        refine gA hf hS (i := 2) rfl (by kernel_rfl) (fun w hs => g_ld hf hs T3 rfl (k := 0) rfl rfl) (by decide) ?_; clear hf a; intro a hf
        refine gA hf hS (i := 4) rfl (by kernel_rfl) (fun w hs => g_mv hf rfl) (by decide) ?_; clear hf a; intro a hf
        refine gA hf hS (i := 5) rfl (by kernel_rfl) (fun w hs => g_fa (off' := 0) hf F51_0 rfl rfl) (by decide) ?_; clear hf a; intro a hf
        refine gA hf hS (i := 6) rfl (by kernel_rfl) (fun w hs => g_ld hf hs T3 rfl (k := 0) rfl rfl) (by decide) ?_; clear hf a; intro a hf
        refine one (i := 3) (by kernel_rfl) ?_
        refine oCall hf hs rfl (c_Index _ _ _ l _ _ (hs.rd (.tail _ (.tail _ (.tail _ (.head _)))))) rfl rfl rfl E96 (by decide) (fun _ h => h.sub (.refl _)) ?_; clear hs hf hS a; intro w a hs hS hf
        refine one (i := 7) (by kernel_rfl) ?_
        refine oCall hf hs rfl (c_Index _ _ _ l _ _ (hs.rd (.tail _ (.tail _ (.tail _ (.head _)))))) rfl rfl rfl E96 (by decide) (fun _ h => h.sub (.refl _)) ?_; clear hs hf hS a; intro w a hs hS hf
        refine gA hf hS (i := 8) rfl (by kernel_rfl) (fun w hs => g_gtr hf rfl rfl) (by decide) ?_; clear hf a; intro a hf
        refine e_done (by kernel_rfl) ?_
        refine c_cond hf rfl (fun hc3 => ?_) (fun hc3 => ?_)
        · try simp only [decide_eq_true_eq, decide_eq_false_iff_not] at hc3
          have e9 : worst b l (k + 1) = max (worst b l k) (mget mp (b.rules.getD k default).over (b.rules.getD k default).under) := by rw [worst_succ (by omega), stepW, if_pos hc3, meets_rule hv hmo hrm9]
          refine c_reg1 ?_
          refine gL hf (g_mv hf rfl) (by decide) ?_; clear hf a; intro a hf
          refine gL hf (g_fa (off' := 4) hf F80_1 rfl rfl) (by decide) ?_; clear hf a; intro a hf
          refine gL hf (g_ld hf hs T78 rfl (k := 1) rfl rfl) (by decide) ?_; clear hf a; intro a hf
          refine gL hf (g_fa (off' := 0) hf F51_0 rfl rfl) (by decide) ?_; clear hf a; intro a hf
          refine gL hf (g_ld hf hs T3 rfl (k := 0) rfl rfl) (by decide) ?_; clear hf a; intro a hf
          refine gL hf (g_fa (off' := 1) hf F51_1 rfl rfl) (by decide) ?_; clear hf a; intro a hf
          refine gL hf (g_ld hf hs T3 rfl (k := 0) rfl rfl) (by decide) ?_; clear hf a; intro a hf
          refine gL hf (g_bld hf [[.int .i64 0], [.int .i64 0]] (.cons rfl (.cons rfl .nil)) (fun _ => by kernel_rfl)) (by decide) ?_; clear hf a; intro a hf
          refine gL hf (g_lookD hf hs (.head _) MT78 rfl rfl) (by decide) ?_; clear hf a; intro a hf
          refine vL hf (v_lits (len := 1) hf hs SL31 T3 (.cons rfl .nil) rfl rfl rfl rfl (by decide) rfl) (by decide) ?_; clear hs hf a; rintro _ w ⟨b4, rfl, hs⟩ a hf
          refine callL hf hs (c_greatest _ _ [_] (worst b l k) _ (rd_one rfl (hs.own _ _ (.head _)).2)) rfl rfl rfl E97 (by decide) ?_; clear hs hf a; intro w a hs hf
          refine gL hf (g_as hf rfl) (by decide) ?_; clear hf a; intro a hf
          refine e_nil1 (q_blkN (q_thenN ?_))
          refine c_reg1 ?_
          refine gL hf (g_addI hf rfl rfl (by omega)) (by decide) ?_; clear hf a; intro a hf
          refine gL hf (g_mv hf rfl) (by decide) ?_; clear hf a; intro a hf
          refine e_nil1 (q_thenN ?_)
          first | rw [show maxL (worst b l k) [mget mp (b.rules.getD k default).over (b.rules.getD k default).under] = worst b l (k + 1) from e9.symm] at hf | rw [← e9] at hf
          exact ⟨k + 1, (by omega), (by omega), hf.back (by repeat (first | (with_reducible exact Ext.base) | ((with_reducible refine Ext.cons ?_ ?_); (· rfl)) | ((with_reducible refine Ext.over ?_ ?_ ?_); (· rfl); (· rfl)))) (allKeys rfl) (.cons rfl (.cons rfl .nil)), hs.dropN 2⟩
        · try simp only [decide_eq_true_eq, decide_eq_false_iff_not] at hc3
          have e9 : worst b l (k + 1) = worst b l k := by rw [worst_succ (by omega), stepW, if_neg hc3]
          refine c_skip (q_blkN (q_thenN ?_))
          refine c_reg1 ?_
          refine gL hf (g_addI hf rfl rfl (by omega)) (by decide) ?_; clear hf a; intro a hf
          refine gL hf (g_mv hf rfl) (by decide) ?_; clear hf a; intro a hf
          refine e_nil1 (q_thenN ?_)
          first | rw [show maxL (worst b l k) [mget mp (b.rules.getD k default).over (b.rules.getD k default).under] = worst b l (k + 1) from e9.symm] at hf | rw [← e9] at hf
          exact ⟨k + 1, (by omega), (by omega), hf.back (by repeat (first | (with_reducible exact Ext.base) | ((with_reducible refine Ext.cons ?_ ?_); (· rfl)) | ((with_reducible refine Ext.over ?_ ?_ ?_); (· rfl); (· rfl)))) (allKeys rfl) (.cons rfl (.cons rfl .nil)), hs.dropN 1⟩
      · try simp only [decide_eq_true_eq, decide_eq_false_iff_not] at hc2
        refine c_exit (q_thenX (q_thenX (q_blkX (q_thenN ?_))))
        refine c_reg ?_
        refine gL hf (g_mv hf rfl) (by decide) ?_; clear hf a; intro a hf
        refine gL hf (g_subI hf rfl rfl (by have := worst_le b l k; omega)) (by decide) ?_; clear hf a; intro a hf
        refine gL hf (g_as hf rfl) (by decide) ?_; clear hf a; intro a hf
        refine gL hf (g_as hf rfl) (by decide) ?_; clear hf a; intro a hf
        refine e_nil ?_
        refine c_ret ?_
        refine e_ret2 hf rfl rfl rfl ?_
        have hk9 : k = b.rules.length := by omega
        subst hk9
        exact ⟨by simp only [doesP, he, if_true], hs.below⟩

end Go.Proofs.YtjjcopeedcdokaaDoor

set_option linter.unusedVariables false
set_option linter.unusedSimpArgs false
namespace Go.Proofs.YtjjcopeedcdokaaDoor
open Go.RowKit
theorem c_on_step (c : OnCtx) (k : Nat) (ih : ∀ k1, k1 < k → OnSpec c k1) (w0 : World) (pre : List (List Int)) (p : List Int) (d : List Bool) (A : Option Addr) (cp : Nat) (hl3 : Later c.X c.w3 w0) (hJ0 : (c.J pre).1 w0) (hpre : pre ++ ordsF c.b c.mp k p d <+: allOrds c.b c.mp) (hpk : p.length + k = c.b.flaps.length) (hd : d.length = 7) (hp : Rd encI 1 A p.length p w0) (hA : ∀ b o, A = some ⟨b, o, none⟩ → c.M0 ≤ b) (hcp : p.length ≤ cp) :
    Calls Tryd.prog 107 #[.slice A p.length cp, .agg (dnA d), .pointer (some ⟨c.bs, 0, none⟩), .pointer (some ⟨c.yb, 0, none⟩), .pointer (some ⟨c.tb, 0, none⟩), .pointer (some ⟨c.nb, 0, none⟩)] w0 (RetR (OnR c k pre p d w0)) := by
  have hM : c.M0 ≤ w0.heap.size := by have := c.hW.1; have := hl3.1; have := c.hM; omega
  have hA0 : A = none → p.length = 0 := fun e => by
    rcases Nat.eq_zero_or_pos p.length with h | h
    · exact h
    · have := hp.isSome h; rw [e] at this; cases this
  refine c_enter (n := 54) Tryd.func107 rfl rfl (Nat.le_of_ble_eq_true rfl) ?_; intro a hf; simp only [zipR] at hf
  have hs := c.start hM hl3 (c.J pre) hJ0 hp hA
  have hmany := c.hv.many; have hlm := hp.2.1
  refine c_reg ?_
  refine vL hf (v_boxA hf hs rfl) (by decide) ?_; clear hs hf a; rintro _ w ⟨b1, rfl, hs⟩ a hf
  refine gL hf (g_as hf rfl) (by decide) ?_; clear hf a; intro a hf
  refine e_nil ?_
  refine wp_scope_straight ?_
  refine c_reg ?_
  refine gL hf (g_mv hf rfl) (by decide) ?_; clear hf a; intro a hf
  refine gL hf (g_len hf SL31 rfl) (by decide) ?_; clear hf a; intro a hf
  refine gL hf (g_as hf rfl) (by decide) ?_; clear hf a; intro a hf
  refine e_nil ?_
  refine wp_seq ?_
  refine c_reg ?_
  refine gL hf (g_mv hf rfl) (by decide) ?_; clear hf a; intro a hf
  refine gL hf (g_fa (off' := 0) hf F80_0 rfl rfl) (by decide) ?_; clear hf a; intro a hf
  refine gL hf (g_fa (off' := 2) hf F25_2 rfl rfl) (by decide) ?_; clear hf a; intro a hf
  refine gL hf (g_ldB hf hs (.tail _ (.tail _ (.tail _ (.tail _ (.head _))))) T22 rfl rfl) (by decide) ?_; clear hf a; intro a hf
  refine gL hf (g_len hf SL22 rfl) (by decide) ?_; clear hf a; intro a hf
  refine gL hf (g_eql hf rfl rfl) (by decide) ?_; clear hf a; intro a hf
  refine e_nil ?_
  refine c_cond hf rfl (fun hc1 => ?_) (fun hc1 => ?_)
  · skip
    have hk0 : k = 0 := by simp at hc1; omega
    subst hk0
    refine (wpIn_wide (n := 0)).1 (i_reg (r := none) (m := 0) ?_)
    refine gI hf (g_ldB hf hs (.tail _ (.tail _ (.tail _ (.tail _ (.tail _ (.head _)))))) T122 rfl rfl) (by intro c; simp) (by decide) ?_; clear hf a; intro a hf
    refine gI hf (g_mv hf rfl) (by intro c; simp) (by decide) ?_; clear hf a; intro a hf
    refine yieldI (m := 0) hf (c.hY pre p A cp w hs.kept (c.hW.trans (hl3.trans hs.later)) hpre (hs.rd (.head _)) hcp hA) rfl rfl (by decide) (fun e w' h => by rcases h.2 with h | h <;> exact ⟨_, h.1⟩) ?_
    clear hf a; intro u w1 a hR1 hf
    obtain ⟨r, rfl, hl1, ht1, hf1⟩ : ∃ r, u = .bool r ∧ Later c.X w w1 ∧ (r = true → (c.J (pre ++ [p])).1 w1) ∧ (r = false → c.Jx (pre ++ [p]) w1) := by
      rcases hR1.2 with ⟨e1, hj⟩ | ⟨e1, hj⟩
      · cases e1; exact ⟨true, rfl, hR1.1, fun _ => hj, fun h => (by cases h)⟩
      · cases e1; exact ⟨false, rfl, hR1.1, fun h => (by cases h), fun _ => hj⟩
    refine gI hf (g_as hf rfl) (by intro c; simp) (by decide) ?_; clear hf a; intro a hf
    refine i_nil ((wpIn_wide (n := 0)).2 ?_)
    refine c_ret (q_thenR (q_scopeR ?_))
    refine e_ret1 hf rfl rfl ?_
    exact ⟨_, rfl, r, rfl, hs.later.trans hl1, ht1, fun h => ⟨[p], by simp, List.prefix_refl _, hf1 h⟩⟩
  · skip
    obtain ⟨k1, rfl⟩ : ∃ k1, k = k1 + 1 := ⟨k - 1, by simp at hc1; omega⟩
    refine c_skip (q_thenN ?_)
    refine wp_seq ?_
    refine c_label (q_thenN ?_)
    refine wp_seq ?_
    refine c_reg ?_
    refine gL hf (g_fa (off' := 0) hf F80_0 rfl rfl) (by decide) ?_; clear hf a; intro a hf
    refine gL hf (g_fa (off' := 2) hf F25_2 rfl rfl) (by decide) ?_; clear hf a; intro a hf
    refine gL hf (g_ldB hf hs (.tail _ (.tail _ (.tail _ (.tail _ (.head _))))) T22 rfl rfl) (by decide) ?_; clear hf a; intro a hf
    refine gL hf (g_len hf SL22 rfl) (by decide) ?_; clear hf a; intro a hf
    refine gL hf (g_mv hf rfl) (by decide) ?_; clear hf a; intro a hf
    refine e_nil ?_
    refine c_block ?_
    have e0 : pre = pre ++ (List.range 0).flatMap (ordStep c.b c.mp p d (ordsF c.b c.mp k1)) := by simp
    rw [e0] at hs
    refine c_loopB (fun i => Base.it w0 c.X c.M0 c.hX hM (c.J (pre ++ (List.range i).flatMap (ordStep c.b c.mp p d (ordsF c.b c.mp k1))))) hf (List.range' 8 1 ++ List.range' 10 2 ++ List.range' 27 27) (σ := Nat) (fun i => [(27, .int .i64 (i : Nat))]) (fun i => [(b1, .cells (dnA d) 126 (0, 0))]) (fun i => i ≤ c.b.flaps.length) (fun i => c.b.flaps.length - i) 0 hs (by omega) (.cons rfl .nil) ?_
    intro i a w hJ hf hs
    refine c_reg ?_
    refine gL hf (g_lss hf rfl rfl) (by decide) ?_; clear hf a; intro a hf
    refine e_nil ?_
    refine c_condS hf rfl (fun hc2 => ?_) (fun hc2 => ?_)
    · try simp only [decide_eq_true_eq, decide_eq_false_iff_not] at hc2
      refine c_skip (q_thenN ?_)
      refine c_blockS ?_
      refine c_reg ?_
      refine gL hf (g_mv hf rfl) (by decide) ?_; clear hf a; intro a hf
      refine gL hf (g_as hf rfl) (by decide) ?_; clear hf a; intro a hf
      refine e_nil ?_
      refine wp_seq ?_
      refine c_reg ?_
      refine gL hf (g_mv hf rfl) (by decide) ?_; clear hf a; intro a hf
      refine gL hf (g_ixA hf AR126 rfl rfl (by omega)) (by decide) ?_; clear hf a; intro a hf
      refine gL hf (g_ld hf hs T4 rfl (k := 0) rfl (dn_get hd (by omega))) (by decide) ?_; clear hf a; intro a hf
      refine gL hf (g_mv hf rfl) (by decide) ?_; clear hf a; intro a hf
      refine ggL hf rfl rfl (gyes_f _) (fun hg => g_ldB hf hs (.tail _ (.tail _ (.tail _ (.tail _ (.tail _ (.tail _ (.head _))))))) T123 rfl rfl) (by decide) ?_; clear hf a; intro a hf
      refine ggL hf rfl rfl (gyes_f _) (fun hg => g_ldW hf hs T126 rfl (k := 0) rfl (by rw [dn_size]; exact hd)) (by decide) ?_; clear hf a; intro a hf
      refine ggL hf rfl rfl (gyes_f _) (fun hg => g_mv hf rfl) (by decide) ?_; clear hf a; intro a hf
      refine callG hf hs rfl rfl (gyes_f _) (fun hg => ⟨_, _, _, _, c_stopped c.b _ _ _ _ _ _ d _ c.hv hd _ ⟨hs.rd (.tail _ (.head _)), hs.rd (.tail _ (.tail _ (.head _))), c.hfc, c.hrc⟩ (hs.rd (.tail _ (.tail _ (.tail _ (.head _))))), (ev_gv rfl hg), evs_cons (ev_gv rfl hg) (evs_cons (ev_gv rfl hg) evs_nil), rfl⟩) E106 (by decide) ?_; clear hs hf a; intro w a hs hf
      refine gL hf (g_or hf rfl rfl) (by decide) ?_; clear hf a; intro a hf
      refine e_nil ?_
      refine c_cond hf rfl (fun hc3 => ?_) (fun hc3 => ?_)
      · skip
        have hgi : (ordStep c.b c.mp p d (ordsF c.b c.mp k1)) i = [] := by unfold ordStep; rw [if_pos (by simpa using hc3)]
        have hsn : St (Base.it w0 c.X c.M0 c.hX hM (c.J (pre ++ (List.range (i + 1)).flatMap (ordStep c.b c.mp p d (ordsF c.b c.mp k1))))) (Rd encI 1 A p.length p :: c.Ds) [(b1, .cells (dnA d) 126 (0, 0))] w := by rw [fm_succ, hgi, List.append_nil]; exact hs
        refine c_exit (q_thenX (q_blkX (q_thenN ?_)))
        refine c_reg1 ?_
        refine gL hf (g_addI hf rfl rfl (by omega)) (by decide) ?_; clear hf a; intro a hf
        refine gL hf (g_mv hf rfl) (by decide) ?_; clear hf a; intro a hf
        refine e_nil1 (q_thenN ?_)
        exact ⟨i + 1, (by omega), (by omega), hf.back (by repeat (first | (with_reducible exact Ext.base) | ((with_reducible refine Ext.cons ?_ ?_); (· rfl)) | ((with_reducible refine Ext.over ?_ ?_ ?_); (· rfl); (· rfl)))) (allKeys rfl) (.cons rfl .nil), hsn⟩
      · skip
        have hgi : (ordStep c.b c.mp p d (ordsF c.b c.mp k1)) i = ordsF c.b c.mp k1 (p ++ [((i : Nat) : Int)]) (d.set i true) := by unfold ordStep; rw [if_neg (by rw [Bool.not_eq_true]; simpa using hc3)]
        have hpre2 : (pre ++ (List.range i).flatMap (ordStep c.b c.mp p d (ordsF c.b c.mp k1))) ++ ordsF c.b c.mp k1 (p ++ [((i : Nat) : Int)]) (d.set i true) <+: allOrds c.b c.mp := by rw [List.append_assoc, ← hgi, ← fm_succ]; exact ((List.prefix_append_right_inj _).2 (fm_prefix _ (by omega))).trans hpre
        refine c_skip (q_thenN ?_)
        refine c_reg ?_
        refine gL hf (g_ldW hf hs T126 rfl (k := 0) rfl (by rw [dn_size]; exact hd)) (by decide) ?_; clear hf a; intro a hf
        refine vL hf (v_alloc hs T126 rfl) (by decide) ?_; clear hs hf a; rintro _ w ⟨b2, rfl, hs⟩ a hf
        refine uL (u_stW hf hs T126 rfl rfl (dn_plain d) (k := 0) rfl (by simpa using hd) (by rw [List.length_map, hd]; rfl)) ?_; clear hs; intro w hs; dsimp only [List.set] at hs
        replace hs : St _ _ [(b2, .cells (dnA d) 126 (0, 0)), (b1, .cells (dnA d) 126 (0, 0))] w := hs
        refine e_nil ?_
        refine c_reg ?_
        refine gL hf (g_mv hf rfl) (by decide) ?_; clear hf a; intro a hf
        refine gL hf (g_ixA hf AR126 rfl rfl (by omega)) (by decide) ?_; clear hf a; intro a hf
        refine uL (u_st hf hs T4 rfl rfl rfl (k := 0) rfl (by rw [dn_size, hd]; omega)) ?_; clear hs; intro w hs; dsimp only [List.set] at hs
        rw [dn_set, Int.toNat_natCast] at hs
        refine e_nil ?_
        refine c_draw (fun w => ∃ B, St B _ _ w) 11 Mx rfl hs (fun _ h => ⟨_, h⟩) ?_; intro w hs hS
        refine gA hf hS (i := 0) rfl (by kernel_rfl) (fun w ⟨_, hs⟩ => g_ldB hf hs (.tail _ (.tail _ (.tail _ (.tail _ (.tail _ (.tail _ (.tail _ (.head _)))))))) T124 rfl rfl) (by decide) ?_; clear hf a; intro a hf
        refine gA hf hS (i := 1) rfl (by kernel_rfl) (fun w ⟨_, hs⟩ => g_mv hf rfl) (by decide) ?_; clear hf a; intro a hf
        refine gA hf hS (i := 2) rfl (by kernel_rfl) (fun w ⟨_, hs⟩ => g_mv hf rfl) (by decide) ?_; clear hf a; intro a hf
        refine gA hf hS (i := 3) rfl (by kernel_rfl) (fun w ⟨_, hs⟩ => g_mv hf rfl) (by decide) ?_; clear hf a; intro a hf
        refine gA hf hS (i := 4) rfl (by kernel_rfl) (fun w ⟨_, hs⟩ => g_slHM hf SL31 rfl rfl rfl (by omega) (by omega)) (by decide) ?_; clear hf a; intro a hf
        refine gA hf hS (i := 5) rfl (by kernel_rfl) (fun w ⟨_, hs⟩ => g_mv hf rfl) (by decide) ?_; clear hf a; intro a hf
        refine gA hf hS (i := 8) rfl (by kernel_rfl) (fun w ⟨_, hs⟩ => g_ldW hf hs T126 rfl (k := 0) rfl (by rw [dn_size]; exact (by simp [hd]))) (by decide) ?_; clear hf a; intro a hf
        refine one (i := 6) (by kernel_rfl) ?_
        refine oV hf rfl (v_lits (len := 1) hf hs SL31 T3 (.cons rfl .nil) rfl rfl rfl rfl (by decide) rfl) (by decide) (fun _ _ ⟨_, _, h⟩ => ⟨_, h.sub (.cons _ (.refl _))⟩) ?_; clear hs hf hS a; rintro _ w ⟨b3, rfl, hs⟩ hS a hf
        refine one (i := 7) (by kernel_rfl) ?_
        refine oV hf rfl (v_app hf hs AP31 (fun _ => rfl) (by decide) rfl rfl (l := p) (by simpa using hs.rd (.head _)) (rd_one (enc := encI) (x := ((i : Nat) : Int)) rfl (hs.own _ _ (.head _)).2) (by omega) (Nat.le_refl _) (fun e => by have h9 := hA0 e; omega) (by omega) (by decide)) (by decide) (fun _ _ ⟨_, _, _, _, h⟩ => ⟨_, h.sub (.cons _ (.cons _ (.refl _)))⟩) ?_; clear hs hf hS a; rintro _ w ⟨b4, cs4, rfl, hok, hs⟩ hS a hf
        rw [show ((p.length : Nat) : Int).toNat + 1 = (p ++ [((i : Nat) : Int)]).length by simp] at hf
        refine one (i := 9) (by kernel_rfl) ?_
        refine oCallB hf rfl (ih k1 (by omega) w (pre ++ (List.range i).flatMap (ordStep c.b c.mp p d (ordsF c.b c.mp k1))) (p ++ [((i : Nat) : Int)]) (d.set i true) (some ⟨b4, 0, none⟩) _ (hl3.trans hs.later) hs.kept hpre2 (by simp; omega) (by simp [hd]) (hok.rdb (sz := 1) (fun _ => rfl) (by decide) (hs.own _ _ (.head _)).2) (fun b o e => by cases e; exact Nat.le_trans hM (hs.own _ _ (.head _)).1) (hok.cap (sz := 1) (by decide))) rfl rfl rfl E107 (by decide)
          (fun v w2 hR2 => by obtain ⟨r, rfl, hl2, ht2, hf2⟩ := hR2; exact ⟨_, (hs.sub (.cons _ (.cons _ (.refl _)))).yielded (K' := ⟨fun _ => True, fun _ _ _ _ => trivial⟩) hl2 trivial⟩) ?_; clear hf hS a; intro v w2 a hR2 hS hf; obtain ⟨r, rfl, hl2, ht2, hf2⟩ := hR2
        refine gA hf hS (i := 10) rfl (by kernel_rfl) (fun w ⟨_, hs⟩ => g_not hf rfl) (by decide) ?_; clear hf a; intro a hf
        refine e_done (by kernel_rfl) ?_
        refine c_cond hf rfl (fun hc4 => ?_) (fun hc4 => ?_)
        · skip
          have hr : r = false := by simpa using hc4
          obtain ⟨q, hq, hqp, hqj⟩ := hf2 hr
          have hq2 : (List.range i).flatMap (ordStep c.b c.mp p d (ordsF c.b c.mp k1)) ++ q <+: ordsF c.b c.mp (k1 + 1) p d := ((List.prefix_append_right_inj _).2 hqp).trans (by rw [← hgi, ← fm_succ]; exact fm_prefix _ (by omega))
          refine c_reg ?_
          refine gL hf (g_as hf rfl) (by decide) ?_; clear hf a; intro a hf
          refine e_nil ?_
          refine c_ret (q_blkR (q_thenR (q_thenR (q_blkR (q_thenR (q_scopeR ?_))))))
          refine e_ret1 hf rfl rfl ?_
          exact ⟨_, rfl, false, rfl, hs.later.trans hl2, fun h => (by cases h), fun _ => ⟨_, by simp [hq], hq2, by rw [← List.append_assoc]; exact hqj⟩⟩
        · skip
          have hr : r = true := by simpa using hc4
          have hsn : St (Base.it w0 c.X c.M0 c.hX hM (c.J (pre ++ (List.range (i + 1)).flatMap (ordStep c.b c.mp p d (ordsF c.b c.mp k1))))) (Rd encI 1 A p.length p :: c.Ds) [(b1, .cells (dnA d) 126 (0, 0))] w2 := by rw [fm_succ, hgi, ← List.append_assoc]; exact (hs.dropN 3).yielded hl2 (ht2 hr)
          refine c_skip (q_blkN (q_thenN ?_))
          refine c_reg1 ?_
          refine gL hf (g_addI hf rfl rfl (by omega)) (by decide) ?_; clear hf a; intro a hf
          refine gL hf (g_mv hf rfl) (by decide) ?_; clear hf a; intro a hf
          refine e_nil1 (q_thenN ?_)
          exact ⟨i + 1, (by omega), (by omega), hf.back (by repeat (first | (with_reducible exact Ext.base) | ((with_reducible refine Ext.cons ?_ ?_); (· rfl)) | ((with_reducible refine Ext.over ?_ ?_ ?_); (· rfl); (· rfl)))) (allKeys rfl) (.cons rfl .nil), hsn⟩
    · try simp only [decide_eq_true_eq, decide_eq_false_iff_not] at hc2
      obtain rfl : i = c.b.flaps.length := by omega
      refine c_exit (q_thenX (q_thenX (q_blkX (q_thenN ?_))))
      refine c_reg ?_
      refine gL hf (g_as hf rfl) (by decide) ?_; clear hf a; intro a hf
      refine e_nil ?_
      refine c_ret (q_scopeR ?_)
      refine e_ret1 hf rfl rfl ?_
      exact ⟨_, rfl, true, rfl, hs.later, fun _ => hs.kept, fun h => (by cases h)⟩

end Go.Proofs.YtjjcopeedcdokaaDoor

set_option linter.unusedVariables false
namespace Go.Proofs.YtjjcopeedcdokaaDoor
open Go.RowKit
theorem c_on (c : OnCtx) : ∀ k, OnSpec c k := by
  intro k
  induction k using Nat.strongRecOn with
  | _ k ih => exact fun w pre p d A cp h1 h2 h3 h4 h5 h6 h7 h8 => c_on_step c k ih w pre p d A cp h1 h2 h3 h4 h5 h6 h7 h8
end Go.Proofs.YtjjcopeedcdokaaDoor

set_option linter.unusedVariables false
set_option linter.unusedSimpArgs false
namespace Go.Proofs.YtjjcopeedcdokaaDoor
open Go.RowKit
theorem c_seq (b : Sheet) (fA : Option Addr) (fc : Nat) (rA : Option Addr) (rc : Nat) (mb : Nat) (mp : MP) (hv : Valid b) (bs l : Nat) (X : List Nat) (J Jx : List (List Int) → World → Prop) (w0 : World) (hXl : ∀ i ∈ X, i < w0.heap.size) (hJ : ∀ pre A B, J pre A → Below w0.heap.size A B → J pre B) (hY : ∀ pre x A c W1, J pre W1 → Later X w0 W1 → pre ++ [x] <+: allOrds b mp → Rd encI 1 A x.length x W1 → x.length ≤ c → (∀ b o, A = some ⟨b, o, none⟩ → w0.heap.size ≤ b) → YieldAt Fence.wide 0 Tryd.prog l #[.slice A x.length c] W1 fun e W' => Later X W1 W' ∧ ((e = .returned (.bool true) ∧ J (pre ++ [x]) W') ∨ (e = .returned (.bool false) ∧ Jx (pre ++ [x]) W'))) (h0 : J [] w0) (hF : Stable X w0 (Rd encF 5 fA b.flaps.length b.flaps)) (hR : Stable X w0 (Rd encR 2 rA b.rules.length b.rules)) (hM : Stable X w0 (MapIs mb mp)) (hfc : b.flaps.length ≤ fc) (hrc : b.rules.length ≤ rc) (hS : Stable X w0 (BlkIs bs (sh5 b fA fc rA rc mb).toArray 80 (0, 0))) :
    Calls Tryd.prog 105 #[.func (.yield l) #[] #[], .pointer (some ⟨bs, 0, none⟩)] w0 (RetR (fun _ w0' => Later X w0 w0' ∧ (J (allOrds b mp) w0' ∨ ∃ pre, pre ≠ [] ∧ pre <+: allOrds b mp ∧ Jx pre w0'))) := by
  refine c_enter (n := 11) Tryd.func105 rfl rfl (Nat.le_of_ble_eq_true rfl) ?_; intro a hf; simp only [zipR] at hf
  have hs := St.startI (M0 := w0.heap.size) (Ds := [Rd encF 5 fA b.flaps.length b.flaps, Rd encR 2 rA b.rules.length b.rules, MapIs mb mp, BlkIs bs (sh5 b fA fc rA rc mb).toArray 80 (0, 0)]) hXl (Nat.le_refl _) ⟨J [], hJ []⟩ h0 (by intro D hD; simp only [List.mem_cons, List.not_mem_nil, or_false] at hD; rcases hD with rfl | rfl | rfl | rfl <;> assumption)
  refine c_reg ?_
  refine vL hf (v_box hf hs rfl rfl) (by decide) ?_; clear hs hf a; rintro _ w ⟨b1, rfl, hs⟩ a hf
  refine e_nil ?_
  refine c_reg ?_
  refine gL hf (g_ldBW hf hs (.tail _ (.tail _ (.tail _ (.head _)))) T80 rfl rfl) (by decide) ?_; clear hf a; intro a hf
  refine gL hf (g_fn hf rfl rfl) (by decide) ?_; clear hf a; intro a hf
  refine vL hf (v_alloc hs T123 rfl) (by decide) ?_; clear hs hf a; rintro _ w ⟨b2, rfl, hs⟩ a hf
  refine uL (u_st hf hs T123 rfl rfl rfl (k := 0) rfl (Nat.le_of_ble_eq_true rfl)) ?_; clear hs; intro w hs; dsimp only [List.set] at hs
  refine e_nil ?_
  refine c_reg ?_
  refine vL hf (v_alloc hs T124 rfl) (by decide) ?_; clear hs hf a; rintro _ w ⟨b3, rfl, hs⟩ a hf
  refine e_nil ?_
  refine c_reg ?_
  refine gL hf (g_fn hf rfl rfl) (by decide) ?_; clear hf a; intro a hf
  refine uL (u_st hf hs T124 rfl rfl rfl (k := 0) rfl (Nat.le_of_ble_eq_true rfl)) ?_; clear hs; intro w hs; dsimp only [List.set] at hs
  refine e_nil ?_
  refine c_draw1 (fun w => ∃ B, St B _ _ w) 3 Mx rfl hs (fun _ h => ⟨_, h⟩) ?_; intro w hs hS
  refine gA hf hS (i := 0) rfl (by kernel_rfl) (fun w ⟨_, hs⟩ => g_ld hf hs T124 rfl (k := 0) rfl rfl) (by decide) ?_; clear hf a; intro a hf
  refine one (i := 1) (by kernel_rfl) ?_
  refine oCall hf hs rfl (c_none _) rfl rfl rfl E108 (by decide) (fun _ h => ⟨_, h.sub (.refl _)⟩) ?_; clear hs hf hS a; intro w a hs hS hf
  refine one (i := 2) (by kernel_rfl) ?_
  refine oCallB hf rfl (c_on (OnCtx.mk b fA fc rA rc mb mp l X w0.heap.size hXl (fun pre => ⟨J pre, hJ pre⟩) Jx w0 w bs b1 b2 b3 hv rfl hs.later ((hs.data _ (.head _)).sub (fun i hi => List.mem_append_left _ hi)) ((hs.data _ (.tail _ (.head _))).sub (fun i hi => List.mem_append_left _ hi)) ((hs.data _ (.tail _ (.tail _ (.head _)))).sub (fun i hi => List.mem_append_left _ hi)) hfc hrc ((hs.data _ (.tail _ (.tail _ (.tail _ (.head _))))).sub (fun i hi => List.mem_append_left _ hi)) (BlkIs.stable (hs.own _ _ (.tail _ (.tail _ (.head _)))).2 (fun hx => by have h8 := hXl _ hx; have h9 : w0.heap.size ≤ _ := (hs.own _ _ (.tail _ (.tail _ (.head _)))).1; omega)) (BlkIs.stable (hs.own _ _ (.tail _ (.head _))).2 (fun hx => by have h8 := hXl _ hx; have h9 : w0.heap.size ≤ _ := (hs.own _ _ (.tail _ (.head _))).1; omega)) (BlkIs.stable (hs.own _ _ (.head _)).2 (fun hx => by have h8 := hXl _ hx; have h9 : w0.heap.size ≤ _ := (hs.own _ _ (.head _)).1; omega)) hY) b.flaps.length w [] [] (List.replicate 7 false) none 0 (Later.refl _ _) hs.kept (List.prefix_refl _) (by simp) (by simp) rd_nil (fun b o e => by cases e) (Nat.le_refl _)) rfl rfl rfl E107 (by decide)
    (fun v w2 hR2 => by obtain ⟨r, rfl, hl2, ht2, hf2⟩ := hR2; exact ⟨_, (hs.sub (.refl _)).yielded (K' := ⟨fun _ => True, fun _ _ _ _ => trivial⟩) hl2 trivial⟩) ?_; clear hf hS a; intro v w2 a hR2 hS hf; obtain ⟨r, rfl, hl2, ht2, hf2⟩ := hR2
  refine e_done1 (by kernel_rfl) ?_
  refine e_end0 hf rfl ?_
  exact ⟨_, rfl, hs.later.trans hl2, by cases r; exact (by obtain ⟨q, h1, h2, h3⟩ := hf2 rfl; exact .inr ⟨q, h1, h2, h3⟩); exact .inl (ht2 rfl)⟩

theorem c_orders (b : Sheet) (fA : Option Addr) (fc : Nat) (rA : Option Addr) (rc : Nat) (mb : Nat) (w0 : World) :
    Calls Tryd.prog 69 #[.agg (sh5 b fA fc rA rc mb).toArray] w0 (RetX w0 (fun v w0' => ∃ bs, v = .func (.func 105) #[] #[.pointer (some ⟨bs, 0, none⟩)] ∧ w0.heap.size ≤ bs ∧ BlkIs bs (sh5 b fA fc rA rc mb).toArray 80 (0, 0) w0')) := by
  refine c_enter (n := 4) Tryd.func69 rfl rfl (Nat.le_of_ble_eq_true rfl) ?_; intro a hf; simp only [zipR] at hf
  have hs := St.start w0 [] (by simp)
  refine c_reg ?_
  refine vL hf (v_boxA hf hs rfl) (by decide) ?_; clear hs hf a; rintro _ w ⟨b1, rfl, hs⟩ a hf
  refine gL hf (g_as hf rfl) (by decide) ?_; clear hf a; intro a hf
  refine e_nil ?_
  refine c_reg ?_
  refine gL hf (g_fn hf rfl rfl) (by decide) ?_; clear hf a; intro a hf
  refine gL hf (g_as hf rfl) (by decide) ?_; clear hf a; intro a hf
  refine e_nil ?_
  refine c_ret ?_
  refine e_ret1 hf rfl rfl ?_
  exact ⟨_, rfl, hs.below, b1, rfl, (hs.own _ _ (.head _)).1, (hs.own _ _ (.head _)).2⟩

end Go.Proofs.YtjjcopeedcdokaaDoor

set_option linter.unusedVariables false
namespace Go.Proofs.YtjjcopeedcdokaaDoor
open Go.RowKit
theorem blkFresh {w w' : World} {b : Nat} {cs : Array Value} {e : TypeId} {fz : Nat × Nat} (h1 : w.heap.size ≤ b) (h2 : BlkIs b cs e fz w') : Fresh w w' (BlkIs b cs e fz) := fun w'' _ h => (h b h1 (Array.getElem?_eq_some_iff.1 h2).1).trans h2
theorem stab_seq {Xs X : List Nat} {w W : World} {D : World → Prop} (h : Stable Xs w D) (hl : Later Xs w W) (hX : ∀ i ∈ X, i < w.heap.size → i ∈ Xs) : Stable X W D := fun w' hw => h w' ⟨Nat.le_trans hl.1 hw.1, fun i hi hn => (hw.2 i (Nat.lt_of_lt_of_le hi hl.1) (fun hx => hn (hX i hx hi))).trans (hl.2 i hi hn)⟩
theorem seqL_of {b : Sheet} {fA : Option Addr} {fc : Nat} {rA : Option Addr} {rc mb bs : Nat} {mp : MP} {w0 : Base} {Ds : List (World → Prop)} {H : Own} {w : World} (hv : Valid b) (hs : St w0 Ds H w) (hF : Rd encF 5 fA b.flaps.length b.flaps ∈ Ds) (hR : Rd encR 2 rA b.rules.length b.rules ∈ Ds) (hM : MapIs mb mp ∈ Ds)
    (hS : BlkIs bs (sh5 b fA fc rA rc mb).toArray 80 (0, 0) ∈ Ds) (hfc : b.flaps.length ≤ fc) (hrc : b.rules.length ≤ rc) : SeqL Tryd.prog 105 [.pointer (some ⟨bs, 0, none⟩)] (allOrds b mp) (w0.ex ++ ids H) w := by
  intro l X J Jx W hlat hX1 hXl hJ hY h0
  have st := fun D hD => stab_seq (hs.data D hD) hlat hX1
  refine Calls.mono (c_seq b fA fc rA rc mb mp hv bs l X J Jx W hXl hJ hY h0 (st _ hF) (st _ hR) (st _ hM) hfc hrc (st _ hS)) ?_
  rintro e w' ⟨v, rfl, h1, h2⟩
  exact ⟨⟨v, rfl⟩, h1, h2⟩
end Go.Proofs.YtjjcopeedcdokaaDoor

set_option linter.unusedVariables false
set_option linter.unusedSimpArgs false
namespace Go.Proofs.YtjjcopeedcdokaaDoor
open Go.RowKit
end Go.Proofs.YtjjcopeedcdokaaDoor

set_option linter.unusedVariables false
set_option linter.unusedSimpArgs false
namespace Go.Proofs.YtjjcopeedcdokaaDoor
open Go.RowKit
end Go.Proofs.YtjjcopeedcdokaaDoor

set_option linter.unusedVariables false
set_option linter.unusedSimpArgs false
namespace Go.Proofs.YtjjcopeedcdokaaDoor
open Go.RowKit
theorem c_Order (b : Sheet) (fA : Option Addr) (fc : Nat) (rA : Option Addr) (rc : Nat) (ge : TypeId) (gz : Nat × Nat)  (w0 : World) (h : ShIn b fA fc rA rc w0) (hG : BlkIs 1 sidesA ge gz w0) :
    Calls Tryd.prog 19 #[.agg #[.int .i64 b.wide, .int .i64 b.high, .slice fA b.flaps.length fc, .slice rA b.rules.length rc]] w0 (RetX w0 (fun v w0' => ∃ A c, v = .tuple #[.slice A (orderP b).1.length c, .int .i64 (orderP b).2] ∧ Out (orderP b).1 A c w0 w0')) := by
  refine c_enterM (n := 24) Tryd.func19 rfl rfl (Nat.le_of_ble_eq_true rfl) ?_; intro a hf; simp only [zipR] at hf
  have hs := St.start w0 [Rd encF 5 fA b.flaps.length b.flaps, Rd encR 2 rA b.rules.length b.rules, BlkIs 1 sidesA ge gz] (stab_app h.stab hG.st1)
  have hfm := h.F.2.1; have hrm := h.R.2.1
  refine c_reg ?_
  refine vL hf (v_boxA hf hs rfl) (by decide) ?_; clear hs hf a; rintro _ w ⟨b1, rfl, hs⟩ a hf
  refine vL hf (v_alloc hs T31 rfl) (by decide) ?_; clear hs hf a; rintro _ w ⟨b2, rfl, hs⟩ a hf
  refine vL hf (v_alloc hs T32 rfl) (by decide) ?_; clear hs hf a; rintro _ w ⟨b3, rfl, hs⟩ a hf
  refine e_nil ?_
  refine c_reg ?_
  refine gL hf (g_ldW hf hs T25 rfl (k := 2) rfl rfl) (by decide) ?_; clear hf a; intro a hf
  refine callX hf hs (c_asked b _ _ _ _ _ _ true _ ⟨hs.rd (.head _), hs.rd (.tail _ (.head _)), h.fc_, h.rc_⟩ (hs.rd (.tail _ (.tail _ (.head _))))) rfl rfl rfl E65 (by decide) ?_; intro v w1 a hR hb hs1 hf; obtain ⟨cs, mb, mp, rfl, hcl, hcp, hcm⟩ := hR; replace hs := hs.fresh hs1 (condFresh fun he => (hcm he).2.2); clear hs1 hb
  refine gL hf (g_mv hf rfl) (by decide) ?_; clear hf a; intro a hf
  refine gL hf (g_ext hf rfl rfl) (by decide) ?_; clear hf a; intro a hf
  refine gL hf (g_ext hf rfl rfl) (by decide) ?_; clear hf a; intro a hf
  refine vL hf (v_alloc hs T80 rfl) (by decide) ?_; clear hs hf a; rintro _ w ⟨b4, rfl, hs⟩ a hf
  refine uL (u_stW hf hs T80 rfl rfl hcp (k := 0) rfl hcl hcl) ?_; clear hs; intro w hs; dsimp only [List.set] at hs
  refine gL hf (g_as hf rfl) (by decide) ?_; clear hf a; intro a hf
  refine e_nil ?_
  refine wp_seq ?_
  refine c_reg ?_
  refine gL hf (g_mv hf rfl) (by decide) ?_; clear hf a; intro a hf
  refine gL hf (g_neq hf rfl rfl) (by decide) ?_; clear hf a; intro a hf
  refine e_nil ?_
  refine c_cond hf rfl (fun hc1 => ?_) (fun hc1 => ?_)
  · try simp only [decide_eq_true_eq, decide_eq_false_iff_not] at hc1
    have he : ¬ askE b true = 0 := by simpa using hc1
    refine c_reg ?_
    refine gL hf (g_mv hf rfl) (by decide) ?_; clear hf a; intro a hf
    refine uL (u_st hf hs T31 rfl rfl rfl (k := 2) rfl (Nat.le_of_ble_eq_true rfl)) ?_; clear hs; intro w hs; dsimp only [List.set] at hs
    refine uL (u_st hf hs T32 rfl rfl rfl (k := 1) rfl (Nat.le_of_ble_eq_true rfl)) ?_; clear hs; intro w hs; dsimp only [List.set] at hs
    refine e_nil ?_
    refine c_ret (q_thenR ?_)
    refine outM0 hf hs rfl (.cell1 T31 rfl (k := 2) rfl rfl (.cell1 T32 rfl (k := 1) rfl rfl .nil)) rfl ?_
    have hor : orderP b = ([], askE b true) := by simp only [orderP, if_neg he]
    exact ⟨_, rfl, hs.below, none, 0, by rw [hor]; rfl, by rw [hor]; exact ⟨Nat.le_refl _, rd_nil, fun b o e => by cases e⟩⟩
  · try simp only [decide_eq_true_eq, decide_eq_false_iff_not] at hc1
    have he : askE b true = 0 := by simpa using hc1
    obtain ⟨rfl, hmo, _, _⟩ := hcm he
    replace hs := hs.un (fun w h => h he)
    have hok := askE_zero he
    have hv := valid_of hok.1
    have hall := allOrds_eq hv hmo
    have hmany := hv.many
    refine c_skip (q_thenN ?_)
    refine wp_seq ?_
    refine c_reg ?_
    refine gL hf (g_ldW hf hs T80 rfl (k := 0) rfl rfl) (by decide) ?_; clear hf a; intro a hf
    refine callX hf hs (c_orders b fA fc rA rc mb _) rfl rfl rfl E69 (by decide) ?_; intro v w1 a hR hb hs1 hf; obtain ⟨bs, rfl, hbs, hbi⟩ := hR; replace hs := hs.fresh hs1 (blkFresh hbs hbi); clear hs1 hb
    refine e_nil ?_
    refine c_block ?_
    have hsz0 := hs.below.size
    refine c_rangeA (τ := (Option Addr × List Int)) (by decide) hf hs rfl E105 (by decide) (seqL_of (b := b) (mp := mp) hv hs (.tail _ (.tail _ (.head _))) (.tail _ (.tail _ (.tail _ (.head _)))) (.tail _ (.head _)) (.head _) h.fc_ h.rc_) rfl (fun pre => pre = []) (fun pre => [(b4, .cells (sh5 b fA fc rA rc mb).toArray 80 (0, 0)), (b3, .cells #[.int .i64 0] 32 (0, 0)), (b2, .cells #[.slice none 0 0] 31 (0, 0)), (b1, .cells #[.int .i64 b.wide, .int .i64 b.high, .slice fA b.flaps.length fc, .slice rA b.rules.length rc] 25 (0, 0))]) (fun t pre => pre = [t.2] ∧ ∀ b o, t.1 = some ⟨b, o, none⟩ → w0.heap.size ≤ b) (fun t pre => [Rd encI 1 t.1 t.2.length t.2]) (fun t pre => [(b4, .cells (sh5 b fA fc rA rc mb).toArray 80 (0, 0)), (b3, .cells #[.int .i64 0] 32 (0, 0)), (b2, .cells #[.slice t.1 t.2.length t.2.length] 31 (0, 0)), (b1, .cells #[.int .i64 b.wide, .int .i64 b.high, .slice fA b.flaps.length fc, .slice rA b.rules.length rc] 25 (0, 0))]) rfl rfl (fun _ => rfl) (fun _ _ => rfl) ?body ?done ?stop
    case body =>
      clear hf hs; intro l pre x A c W a E hE hpre hIp hxc hA hf hs
      refine r_block ?_
      refine r_reg rfl ?_
      refine gL hf (g_mv hf rfl) (by decide) ?_; clear hf a; intro a hf
      refine gL hf (g_mv hf rfl) (by decide) ?_; clear hf a; intro a hf
      refine gL hf (g_len hf SL31 rfl) (by decide) ?_; clear hf a; intro a hf
      refine gL hf (g_mv hf rfl) (by decide) ?_; clear hf a; intro a hf
      refine gL hf (g_len hf SL31 rfl) (by decide) ?_; clear hf a; intro a hf
      refine gL hf (g_slHM hf SL31 rfl rfl rfl (by omega) (by omega)) (by decide) ?_; clear hf a; intro a hf
      refine uL (u_st hf hs T31 rfl rfl rfl (k := 2) rfl (Nat.le_of_ble_eq_true rfl)) ?_; clear hs; intro w hs; dsimp only [List.set] at hs
      refine uL (u_st hf hs T32 rfl rfl rfl (k := 1) rfl (Nat.le_of_ble_eq_true rfl)) ?_; clear hs; intro w hs; dsimp only [List.set] at hs
      refine e_nilJ ?_
      refine r_ret (q_blkR ?_)
      simp only [Int.toNat_natCast] at hs
      exact ⟨(A, x), (hs.dropN 0).subD (fun _ h => by rcases List.mem_singleton.1 h with rfl; exact .head _), ⟨by rw [hIp]; rfl, fun b o e => Nat.le_trans hsz0 (hA b o e)⟩⟩
    case done =>
      clear hf hs; intro D a w hf hIp hs; dsimp only [List.cons_append, List.nil_append] at hs
      refine q_blkN (q_thenN ?_)
      refine c_reg ?_
      refine uL (u_st hf hs T31 rfl rfl rfl (k := 2) rfl (Nat.le_of_ble_eq_true rfl)) ?_; clear hs; intro w hs; dsimp only [List.set] at hs
      refine uL (u_st hf hs T32 rfl rfl rfl (k := 1) rfl (Nat.le_of_ble_eq_true rfl)) ?_; clear hs; intro w hs; dsimp only [List.set] at hs
      refine e_nil ?_
      refine c_ret ?_
      refine outMR 4 hf hs rfl rfl (.cell1 T31 rfl (k := 2) rfl rfl (.cell1 T32 rfl (k := 1) rfl rfl .nil)) rfl ?_; clear hs; intro w hs
      have hor : orderP b = ([], 4) := by simp only [orderP, he, if_true, ← hall, hIp]
      exact ⟨_, rfl, hs.below, none, 0, by rw [hor]; rfl, by rw [hor]; exact ⟨Nat.le_refl _, rd_nil, fun b o e => by cases e⟩⟩
    case stop =>
      clear hf hs; intro D t pre a w hne hpre hIx hf hs; dsimp only [List.cons_append, List.nil_append] at hs
      obtain ⟨A, x⟩ := t
      dsimp only at hIx hs
      obtain ⟨rfl, hAx⟩ := hIx
      obtain ⟨rest, hrest⟩ := hpre
      refine q_blkR (q_thenR ?_)
      refine outMR 4 hf hs rfl rfl (.cell1 T31 rfl (k := 2) rfl rfl (.cell1 T32 rfl (k := 1) rfl rfl .nil)) rfl ?_; clear hs; intro w hs
      have hor : orderP b = (x, 0) := by simp only [orderP, he, if_true, ← hall, ← hrest]; rfl
      exact ⟨_, rfl, hs.below, A, x.length, by rw [hor]; rfl, by rw [hor]; exact ⟨Nat.le_refl _, hs.rd (.head _), hAx⟩⟩

end Go.Proofs.YtjjcopeedcdokaaDoor

set_option linter.unusedVariables false
set_option linter.unusedSimpArgs false
namespace Go.Proofs.YtjjcopeedcdokaaDoor
open Go.RowKit
end Go.Proofs.YtjjcopeedcdokaaDoor

set_option linter.unusedVariables false
set_option linter.unusedSimpArgs false
namespace Go.Proofs.YtjjcopeedcdokaaDoor
open Go.RowKit
end Go.Proofs.YtjjcopeedcdokaaDoor

set_option linter.unusedVariables false
set_option linter.unusedSimpArgs false
namespace Go.Proofs.YtjjcopeedcdokaaDoor
open Go.RowKit
end Go.Proofs.YtjjcopeedcdokaaDoor

set_option linter.unusedVariables false
set_option linter.unusedSimpArgs false
namespace Go.Proofs.YtjjcopeedcdokaaDoor
open Go.RowKit
end Go.Proofs.YtjjcopeedcdokaaDoor

set_option linter.unusedVariables false
set_option linter.unusedSimpArgs false
namespace Go.Proofs.YtjjcopeedcdokaaDoor
open Go.RowKit
end Go.Proofs.YtjjcopeedcdokaaDoor

set_option linter.unusedVariables false
namespace Go.Proofs.YtjjcopeedcdokaaDoor
open Go.RowKit
/-- One own block, and it has been turned by a call. -/
theorem St.turned {w0 : Base} {Ds : List (World → Prop)} {b : Nat} {o o' : Obj} {w w' : World} (hs : St w0 Ds [(b, o)] w) (hos : w'.os = w.os) (ht : w'.tape = w.tape) (hu : w'.output = w.output) (hl : Later [b] w w') (hb : w'.heap[b]? = some o') : St w0 Ds [(b, o')] w' := by
  have hm := (hs.own b o (.head _)).1
  refine ⟨w0.closed _ _ hs.below ⟨hos, ht, hu, hl.1, fun i hi hn => hl.2 i hi fun h => hn (by rw [List.mem_singleton.1 h]; exact hm)⟩, fun c u hc => ?_, by simp, fun D hD => ?_⟩
  · rcases List.mem_singleton.1 hc with e
    cases e
    exact ⟨hm, hb⟩
  · have h1 := hs.data D hD
    exact h1.later ⟨hl.1, fun i hi hn => hl.2 i hi fun h => hn (by rw [List.mem_singleton.1 h]; simp)⟩
end Go.Proofs.YtjjcopeedcdokaaDoor

set_option linter.unusedVariables false
set_option linter.unusedSimpArgs false
namespace Go.Proofs.YtjjcopeedcdokaaDoor
open Go.RowKit
end Go.Proofs.YtjjcopeedcdokaaDoor

set_option linter.unusedVariables false
set_option linter.unusedSimpArgs false
namespace Go.Proofs.YtjjcopeedcdokaaDoor
open Go.RowKit
end Go.Proofs.YtjjcopeedcdokaaDoor

set_option linter.unusedVariables false
set_option linter.unusedSimpArgs false
namespace Go.Proofs.YtjjcopeedcdokaaDoor
open Go.RowKit
end Go.Proofs.YtjjcopeedcdokaaDoor

set_option linter.unusedVariables false
set_option linter.unusedSimpArgs false
namespace Go.Proofs.YtjjcopeedcdokaaDoor
open Go.RowKit
end Go.Proofs.YtjjcopeedcdokaaDoor

set_option linter.unusedVariables false
set_option linter.unusedSimpArgs false
namespace Go.Proofs.YtjjcopeedcdokaaDoor
open Go.RowKit
end Go.Proofs.YtjjcopeedcdokaaDoor

set_option linter.unusedVariables false
set_option linter.unusedSimpArgs false
namespace Go.Proofs.YtjjcopeedcdokaaDoor
open Go.RowKit
end Go.Proofs.YtjjcopeedcdokaaDoor

set_option linter.unusedVariables false
set_option linter.unusedSimpArgs false
namespace Go.Proofs.YtjjcopeedcdokaaDoor
open Go.RowKit
end Go.Proofs.YtjjcopeedcdokaaDoor

set_option linter.unusedVariables false
set_option linter.unusedSimpArgs false
namespace Go.Proofs.YtjjcopeedcdokaaDoor
open Go.RowKit
end Go.Proofs.YtjjcopeedcdokaaDoor

set_option linter.unusedVariables false
set_option linter.unusedSimpArgs false
namespace Go.Proofs.YtjjcopeedcdokaaDoor
open Go.RowKit
end Go.Proofs.YtjjcopeedcdokaaDoor

set_option linter.unusedVariables false
set_option linter.unusedSimpArgs false
namespace Go.Proofs.YtjjcopeedcdokaaDoor
open Go.RowKit
end Go.Proofs.YtjjcopeedcdokaaDoor

set_option linter.unusedVariables false
set_option linter.unusedSimpArgs false
namespace Go.Proofs.YtjjcopeedcdokaaDoor
open Go.RowKit
end Go.Proofs.YtjjcopeedcdokaaDoor

set_option linter.unusedVariables false
set_option linter.unusedSimpArgs false
namespace Go.Proofs.YtjjcopeedcdokaaDoor
open Go.RowKit
end Go.Proofs.YtjjcopeedcdokaaDoor

set_option linter.unusedVariables false
set_option linter.unusedSimpArgs false
namespace Go.Proofs.YtjjcopeedcdokaaDoor
open Go.RowKit
end Go.Proofs.YtjjcopeedcdokaaDoor

set_option linter.unusedVariables false
set_option linter.unusedSimpArgs false
namespace Go.Proofs.YtjjcopeedcdokaaDoor
open Go.RowKit
end Go.Proofs.YtjjcopeedcdokaaDoor

set_option linter.unusedVariables false
set_option linter.unusedSimpArgs false
namespace Go.Proofs.YtjjcopeedcdokaaDoor
open Go.RowKit
section
variable {P : Program} {ds : List Deferred} {a : Act} {n : Nat} {L : Regs} {w w' : World} {t : TypeId} {w0 : Base} {Ds : List (World → Prop)} {H : Own}
end
section
variable {b : Sheet} (h : checkB b = false)
include h
end
def kF (f0 f1 f2 : Flap) : List Flap := [f0, f1, f2, ⟨3, 2, 2, 8, 9⟩]
def kSheets : List Sheet := [⟨0, 0, [], []⟩, { chapB 5 6 with wide := 100 }, { chapB 5 6 with flaps := kF ⟨4, 5, 6, 0, 7⟩ ⟨1, 4, 5, 0, 7⟩ ⟨2, 3, 3, 2, 7⟩ }, chapB 5 11,
  { chapB 5 6 with flaps := kF ⟨0, 5, 6, 0, 7⟩ ⟨1, 4, 5, 0, 7⟩ ⟨2, 3, 9, 2, 7⟩ }, { chapB 5 6 with flaps := kF ⟨0, 5, 6, 0, 7⟩ ⟨1, 4, 5, 0, 8⟩ ⟨2, 3, 3, 2, 7⟩ }, { chapB 5 6 with flaps := kF ⟨0, 5, 6, 0, 7⟩ ⟨1, 0, 5, 0, 7⟩ ⟨2, 3, 3, 2, 7⟩ },
  { chapB 5 6 with rules := [⟨0, 0⟩, ⟨2, 1⟩, ⟨0, 2⟩, ⟨3, 1⟩] }, { chapB 5 6 with rules := [⟨1, 4⟩, ⟨2, 1⟩, ⟨0, 2⟩, ⟨3, 1⟩] }, { chapB 5 6 with rules := (chapB 5 6).rules ++ [⟨2, 1⟩] }, { chapB 5 6 with flaps := (chapB 5 6).flaps ++ (chapB 5 6).flaps }]
def kB (i : Nat) : Sheet := kSheets.getD i default
def KSh (fA : Nat → Option Addr) (fc : Nat → Nat) (rA : Nat → Option Addr) (rc : Nat → Nat) : World → Prop := fun w => ∀ i, i < 11 → ShIn (kB i) (fA i) (fc i) (rA i) (rc i) w
theorem KSh.stable {fA : Nat → Option Addr} {fc : Nat → Nat} {rA : Nat → Option Addr} {rc : Nat → Nat} {w : World} (h : KSh fA fc rA rc w) : Stable [] w (KSh fA fc rA rc) := fun w' hw i hi =>
  ⟨(h i hi).F.stable (by simp) w' hw, (h i hi).R.stable (by simp) w' hw, (h i hi).fc_, (h i hi).rc_⟩
theorem k1 : meetP (chapB 5 6) 0 0 = (0, 41) := by decide +kernel
theorem k2 : meetP (chapB 5 6) 4 0 = (0, 41) := by decide +kernel
theorem k3 : doesP (chapB 5 6) [0, 1, 2] = (0, 41) := by decide +kernel
theorem k4 : doesP (chapB 5 6) [0, 1, 2, 2] = (0, 41) := by decide +kernel
end Go.Proofs.YtjjcopeedcdokaaDoor

set_option linter.unusedVariables false
set_option linter.unusedSimpArgs false
namespace Go.Proofs.YtjjcopeedcdokaaDoor
open Go.RowKit
end Go.Proofs.YtjjcopeedcdokaaDoor

set_option linter.unusedVariables false
set_option linter.unusedSimpArgs false
namespace Go.Proofs.YtjjcopeedcdokaaDoor
end Go.Proofs.YtjjcopeedcdokaaDoor

set_option linter.unusedVariables false
set_option linter.unusedSimpArgs false
namespace Go.Proofs.YtjjcopeedcdokaaDoor
open Go.RowKit
abbrev Tr := Option Addr × Nat × List Int
/-- Each row of a row of rows lies in memory. -/
def TSD (ts : List Tr) : World → Prop := fun w => ∀ t ∈ ts, t.2.2.length ≤ t.2.1 ∧ Rd encI 1 t.1 t.2.2.length t.2.2 w
theorem TSD.stab {ts : List Tr} {w : World} {is : List Nat} (h : TSD ts w) (hd : ∀ t ∈ ts, ∀ bk off, t.1 = some ⟨bk, off, none⟩ → bk ∉ is) : Stable is w (TSD ts) :=
  fun w' hw t ht => ⟨(h t ht).1, (h t ht).2.stable (hd t ht) w' hw⟩
section
variable {w0 : Base} {Ds : List (World → Prop)} {H : Own} {w : World}
theorem St.one {A : Option Addr} {cp : Nat} {r : List Int} (hs : St w0 Ds H w) (hD : Rd encI 1 A r.length r ∈ Ds) (hc : r.length ≤ cp) : Stable (w0.ex ++ ids H) w (TSD [(A, cp, r)]) := fun w' hw t ht => by
  rw [List.mem_singleton.1 ht]
  exact ⟨hc, hs.data _ hD w' hw⟩
end
end Go.Proofs.YtjjcopeedcdokaaDoor

set_option linter.unusedVariables false
set_option linter.unusedSimpArgs false
namespace Go.Proofs.YtjjcopeedcdokaaDoor
open Go.RowKit
end Go.Proofs.YtjjcopeedcdokaaDoor

set_option linter.unusedVariables false
set_option linter.unusedSimpArgs false
namespace Go.Proofs.YtjjcopeedcdokaaDoor
open Go.RowKit
def tA : Option Tr → Option Addr
  | none => none
  | some t => t.1
def tL : Option Tr → List Int
  | none => []
  | some t => t.2.2
def tC : Option Tr → Nat
  | none => 0
  | some t => t.2.1
/-- A row, or none, as it lies in memory. -/
def tOK (o : Option Tr) (m : Nat) (w : World) : Prop := (tL o).length ≤ tC o ∧ Rd encI 1 (tA o) (tL o).length (tL o) w ∧ (∀ bk off, tA o = some ⟨bk, off, none⟩ → m ≤ bk) ∧ (o.isSome = true → tL o ≠ [])
theorem tOK.isNone {o : Option Tr} {m : Nat} {w : World} (h : tOK o m w) : (tA o).isNone = o.isNone := by
  cases o with
  | none => rfl
  | some t =>
    have h1 := h.2.2.2 rfl
    have h2 := h.2.1.isSome (List.length_pos_iff.2 h1)
    obtain ⟨ad, ha⟩ := Option.isSome_iff_exists.1 h2
    rw [ha]; rfl
end Go.Proofs.YtjjcopeedcdokaaDoor

set_option linter.unusedVariables false
set_option linter.unusedSimpArgs false
namespace Go.Proofs.YtjjcopeedcdokaaDoor
open Go.RowKit
end Go.Proofs.YtjjcopeedcdokaaDoor

set_option linter.unusedVariables false
set_option linter.unusedSimpArgs false
namespace Go.Proofs.YtjjcopeedcdokaaDoor
open Go.RowKit
end Go.Proofs.YtjjcopeedcdokaaDoor

set_option linter.unusedVariables false
set_option linter.unusedSimpArgs false
namespace Go.Proofs.YtjjcopeedcdokaaDoor
open Go.RowKit
end Go.Proofs.YtjjcopeedcdokaaDoor

set_option linter.unusedVariables false
set_option linter.unusedSimpArgs false
namespace Go.Proofs.YtjjcopeedcdokaaDoor
open Go.RowKit
end Go.Proofs.YtjjcopeedcdokaaDoor

set_option linter.unusedVariables false
set_option linter.unusedSimpArgs false
namespace Go.Proofs.YtjjcopeedcdokaaDoor
open Go.RowKit
end Go.Proofs.YtjjcopeedcdokaaDoor

set_option linter.unusedVariables false
set_option linter.unusedSimpArgs false
namespace Go.Proofs.YtjjcopeedcdokaaDoor
open Go.RowKit
def encW (x : Wkr) : List Value := [.int .i64 x.sheets, .slice x.oA x.order.length x.oc, .int .i64 x.bl, .int .i64 x.bh, .int .i64 x.tl, .int .i64 x.th]
/-- The orders of the workers lie where they are said to. -/
def OrdD (ws : List Wkr) (w : World) : Prop := ∀ x ∈ ws, x.order.length ≤ x.oc ∧ Rd encI 1 x.oA x.order.length x.order w
theorem OrdD.stable {ws : List Wkr} {w : World} {is : List Nat} (h : OrdD ws w) (hn : ∀ x ∈ ws, ∀ b o, x.oA = some ⟨b, o, none⟩ → b ∉ is) : Stable is w (OrdD ws) :=
  fun w' hl x hx => ⟨(h x hx).1, ((h x hx).2.stable (hn x hx)) w' hl⟩
structure BkIn (k : Bk) (fA : Option Addr) (fc : Nat) (rA : Option Addr) (rc : Nat) (wA : Option Addr) (wc : Nat) (w : World) : Prop where
  sh : ShIn k.sh fA fc rA rc w
  W : Rd encW 6 wA k.ws.length k.ws w
  wc_ : k.ws.length ≤ wc
  O : OrdD k.ws w
theorem BkIn.stab {k : Bk} {fA : Option Addr} {fc : Nat} {rA : Option Addr} {rc : Nat} {wA : Option Addr} {wc : Nat} {w : World} (h : BkIn k fA fc rA rc wA wc w) : ∀ D ∈ [Rd encF 5 fA k.sh.flaps.length k.sh.flaps, Rd encR 2 rA k.sh.rules.length k.sh.rules, Rd encW 6 wA k.ws.length k.ws, OrdD k.ws], Stable [] w D := by
  intro D hD
  simp only [List.mem_cons, List.not_mem_nil, or_false] at hD
  rcases hD with rfl | rfl | rfl | rfl
  · exact h.sh.F.stable (by simp)
  · exact h.sh.R.stable (by simp)
  · exact h.W.stable (by simp)
  · exact h.O.stable (by simp)
def baseK (k : Bk) : Bool := checkB k.sh && fitsB k.gross 1 144 && fitsB k.pay 0 999 && fitsB k.fine 0 99 && decide ((k.ws.length : Int) ≤ 4)
def okW (k : Bk) (i : Nat) : Bool := (k.ws.take i).all (wkrOK k.sh)
theorem hck_eq (k : Bk) : hckB k = (baseK k && okW k k.ws.length) := by unfold hckB baseK okW; rw [List.take_length]
theorem base_cond (k : Bk) : ((((((if checkB k.sh = true then (0 : Int) else 40) != 0) || !fitsB k.gross 1 144) || !fitsB k.pay 0 999) || !fitsB k.fine 0 99) || decide (4 < ((k.ws.length : Nat) : Int))) = !baseK k := by
  unfold baseK
  rw [show decide (4 < ((k.ws.length : Nat) : Int)) = !decide (((k.ws.length : Nat) : Int) ≤ 4) by rw [Bool.eq_iff_iff]; simp]
  cases checkB k.sh <;> simp
theorem base_true {k : Bk} (h : baseK k = true) : checkB k.sh = true ∧ k.ws.length ≤ 4 := by
  simp only [baseK, Bool.and_eq_true, decide_eq_true_eq] at h
  exact ⟨h.1.1.1.1, by omega⟩
theorem okW_succ {k : Bk} {i : Nat} (h : i < k.ws.length) : okW k (i + 1) = (okW k i && wkrOK k.sh (k.ws.getD i default)) := by
  unfold okW
  rw [List.take_add_one, List.getElem?_eq_getElem h, List.all_append, List.getD_eq_getElem?_getD, List.getElem?_eq_getElem h]
  simp
theorem okW_no {k : Bk} {i : Nat} (h : i < k.ws.length) (h1 : wkrOK k.sh (k.ws.getD i default) = false) : hckB k = false := by
  rw [hck_eq, Bool.and_eq_false_iff]
  right
  rw [Bool.eq_false_iff]; intro h2
  unfold okW at h2
  rw [List.take_length, List.all_eq_true] at h2
  rw [h2 _ (getD_mem h)] at h1; cases h1
theorem wkr_cond (b : Sheet) (x : Wkr) : (((((doesP b x.order).2 != 0) || !fitsB x.sheets 0 600) || !spanS x.bl x.bh) || !spanS x.tl x.th) = !wkrOK b x := by
  unfold wkrOK
  rw [show ((doesP b x.order).2 != 0) = !decide ((doesP b x.order).2 = 0) by rw [Bool.eq_iff_iff]; simp]
  simp only [Bool.not_and]
def sumZ : List Int → Int
  | [] => 0
  | x :: l => x + sumZ l
theorem sumZ_snoc (l : List Int) (x : Int) : sumZ (l ++ [x]) = sumZ l + x := by
  induction l with
  | nil => simp [sumZ]
  | cons y l ih => simp only [List.cons_append, sumZ, ih]; omega
theorem sumZ_take {l : List Int} {i : Nat} (h : i < l.length) : sumZ (l.take (i + 1)) = sumZ (l.take i) + l.getD i default := by
  rw [List.take_add_one, List.getElem?_eq_getElem h, Option.toList_some, sumZ_snoc, List.getD_eq_getElem?_getD, List.getElem?_eq_getElem h]; rfl
theorem sumZ_bound {l : List Int} (h : ∀ x ∈ l, -1000000000 ≤ x ∧ x ≤ 1000000000) : -1000000000 * (l.length : Int) ≤ sumZ l ∧ sumZ l ≤ 1000000000 * (l.length : Int) := by
  induction l with
  | nil => simp [sumZ]
  | cons y l ih =>
    have h1 := h y (.head _)
    have h2 := ih fun x hx => h x (.tail _ hx)
    simp only [sumZ, List.length_cons]
    omega
end Go.Proofs.YtjjcopeedcdokaaDoor

set_option linter.unusedVariables false
set_option linter.unusedSimpArgs false
namespace Go.Proofs.YtjjcopeedcdokaaDoor
open Go.RowKit
section
variable {P : Program} {ds : List Deferred} {a : Act} {n : Nat} {L : Regs} {w : World} {t : TypeId} {x y : Operand} {i j : Int} {ty ty' : TypeId}
theorem g_mulI (hf : Fr ds a n L) (hx : ev L x = some (.int .i64 i)) (hy : ev L y = some (.int .i64 j)) (h : -9223372036854775808 ≤ i * j ∧ i * j ≤ 9223372036854775807) : Gets P (.binOp .mul ty x y ty') t a w (.int .i64 (i * j)) := by
  have := g_mul (P := P) (t := t) (w := w) (ty := ty) (ty' := ty') hf hx hy; rwa [wrap_in h] at this
theorem g_quoI (hf : Fr ds a n L) (hx : ev L x = some (.int .i64 i)) (hy : ev L y = some (.int .i64 j)) (h : j ≠ 0 ∧ -9223372036854775808 ≤ i.tdiv j ∧ i.tdiv j ≤ 9223372036854775807) : Gets P (.binOp .quo ty x y ty') t a w (.int .i64 (i.tdiv j)) := by
  have := g_quo (P := P) (t := t) (w := w) (ty := ty) (ty' := ty') hf hx hy h.1; rwa [wrap_in h.2] at this
theorem g_negI (hf : Fr ds a n L) (hx : ev L x = some (.int .i64 i)) (h : -9223372036854775808 ≤ -i ∧ -i ≤ 9223372036854775807) : Gets P (.unOp .neg ty x) t a w (.int .i64 (-i)) := by
  have := g_neg (P := P) (t := t) (w := w) (ty := ty) hf hx; rwa [Int.zero_sub, wrap_in h] at this
end
theorem tdiv_rng {p g : Int} (hg : 1 ≤ g) (h0 : 0 ≤ p) : 0 ≤ p.tdiv g ∧ p.tdiv g ≤ p :=
  ⟨tdiv_nonneg' hg h0, by rw [Int.tdiv_eq_ediv_of_nonneg h0]; exact Int.ediv_le_self _ h0⟩
theorem mul_rng {a b A B : Int} (ha : 0 ≤ a ∧ a ≤ A) (hb : 0 ≤ b ∧ b ≤ B) : 0 ≤ a * b ∧ a * b ≤ A * B :=
  ⟨Int.mul_nonneg ha.1 hb.1, Int.mul_le_mul ha.2 hb.2 hb.1 (by omega)⟩
/-- What a truth may be. -/
structure TrIn (x : Wkr) (n t : Int) : Prop where
  n0 : 0 ≤ n
  t0 : 0 ≤ t
  s : n + t ≤ x.sheets
  m : x.sheets ≤ 600
theorem trues_in {b : Sheet} {x : Wkr} (h : WkrV b x) {n t : Int} (hm : (n, t) ∈ trues x) : TrIn x n t := by
  have := mem_trues.1 hm; have := h.b0; have := h.t0
  exact ⟨by omega, by omega, by omega, h.s1⟩
theorem TrIn.hm {x : Wkr} {n t : Int} (h : TrIn x n t) : 0 ≤ hm x (n, t) ∧ hm x (n, t) ≤ 600 := by
  have := h.n0; have := h.t0; have := h.s; have := h.m
  simp only [Go.Proofs.YtjjcopeedcdokaaDoor.hm]; omega
theorem BkV.wk {k : Bk} (h : BkV k) {i : Nat} (hi : i < k.ws.length) : WkrV k.sh (k.ws.getD i default) := h.w _ (getD_mem hi)
theorem take_snoc {α : Type} [Inhabited α] {l : List α} {i : Nat} (h : i < l.length) : l.take (i + 1) = l.take i ++ [l.getD i default] := by
  rw [List.take_add_one, List.getElem?_eq_getElem h, List.getD_eq_getElem?_getD, List.getElem?_eq_getElem h]; rfl
theorem nat_is {a : Nat} (c : Nat) (h : (((a : Nat) : Int) == ((c : Nat) : Int)) = true) : a = c := by
  have : ((a : Nat) : Int) = ((c : Nat) : Int) := by simpa using h
  omega
theorem nat_not {a : Nat} (c : Nat) (h : (((a : Nat) : Int) == ((c : Nat) : Int)) = false) : a ≠ c := fun e => by
  subst e; simp at h
end Go.Proofs.YtjjcopeedcdokaaDoor

set_option linter.unusedVariables false
set_option linter.unusedSimpArgs false
namespace Go.Proofs.YtjjcopeedcdokaaDoor
open Go.RowKit
def askQ (k : Bk) (w : Int) : Int := if hckB k = true then (if wkrB k w = true then (if rightB (wkA k w) = true then 0 else 92) else 91) else 90
theorem askQ_tell (k : Bk) (w : Int) (what : Nat) : tellP k w what = if askQ k w = 0 then (ofZ k what (wkA k w), 0) else ((0, 0), askQ k w) := by
  unfold tellP askQ askH
  generalize wkA k w = x
  cases hckB k with
  | false => simp
  | true =>
    cases wkrB k w with
    | false => simp
    | true =>
      cases hr : rightB x with
      | false => simp [right_none what hr]
      | true =>
        obtain ⟨s, hs, _⟩ := right_some (k := k) what hr
        simp [hs, ofZ]
theorem wkr_nat {k : Bk} {w : Int} (h : wkrB k w = true) : ∃ i : Nat, w = ((i : Nat) : Int) ∧ i < k.ws.length := by
  simp only [wkrB, fitsB, Bool.and_eq_true, decide_eq_true_eq] at h
  exact ⟨w.toNat, by omega, by omega⟩
theorem wkr_of {k : Bk} {i : Nat} (h : i < k.ws.length) : wkrB k ((i : Nat) : Int) = true := by
  simp only [wkrB, fitsB, Bool.and_eq_true, decide_eq_true_eq]; omega
theorem wkA_nat (k : Bk) (i : Nat) : wkA k ((i : Nat) : Int) = k.ws.getD i default := rfl
theorem hspan_rng {k : Bk} (hv : BkV k) {x : Wkr} (hx : WkrV k.sh x) {what : Nat} (hw : what < 3) {c : Int × Int} (hc : c ∈ trues x) :
    -60000 ≤ (hspan k x what c).1 ∧ (hspan k x what c).1 ≤ (hspan k x what c).2 ∧ (hspan k x what c).2 ≤ 600000 ∧ (what < 2 → 0 ≤ (hspan k x what c).1) := by
  have ht := trues_in hx (n := c.1) (t := c.2) hc
  have h1 := ht.n0; have h2 := ht.t0; have h3 := ht.s; have h4 := ht.m
  have hmr : 0 ≤ hm x c ∧ hm x c ≤ 600 := ht.hm
  have hpb : 0 ≤ (hp (doesK k x) c.1).1 ∧ (hp (doesK k x) c.1).1 ≤ (hp (doesK k x) c.1).2 ∧ (hp (doesK k x) c.1).2 ≤ 600 := by
    unfold hp
    split
    · simp only; omega
    · split <;> simp only <;> omega
  rcases (show what = 0 ∨ what = 1 ∨ what = 2 by omega) with rfl | rfl | rfl
  · rw [hspan0]; omega
  · rw [hspan1]; simp only; omega
  · rw [hspan2]
    have b1 := tdiv_rng hv.g1 hpb.1
    have b2 := tdiv_rng hv.g1 (Int.le_trans hpb.1 hpb.2.1)
    have b3 := mul_rng (a := (hp (doesK k x) c.1).1.tdiv k.gross) (A := 600) (b := k.pay) (B := 999) ⟨b1.1, by omega⟩ ⟨hv.p1, hv.p2⟩
    have b4 := mul_rng (a := (hp (doesK k x) c.1).2.tdiv k.gross) (A := 600) (b := k.pay) (B := 999) ⟨b2.1, by omega⟩ ⟨hv.p1, hv.p2⟩
    have b5 := mul_rng (a := hm x c) (A := 600) (b := k.fine) (B := 99) hmr ⟨hv.f1, hv.f2⟩
    have b6 := hgv_mono hv hpb.1 hpb.2.1 (m := hm x c)
    simp only
    refine ⟨?_, b6, ?_, fun h => absurd h (by omega)⟩
    · show -60000 ≤ hgv k _ (hm x c); unfold hgv; rw [Int.neg_mul]; omega
    · show hgv k _ (hm x c) ≤ 600000; unfold hgv; rw [Int.neg_mul]; omega
theorem ofZ_rng {k : Bk} (hv : BkV k) {x : Wkr} (hx : WkrV k.sh x) {what : Nat} (hw : what < 3) :
    -60000 ≤ (ofZ k what x).1 ∧ (ofZ k what x).1 ≤ (ofZ k what x).2 ∧ (ofZ k what x).2 ≤ 600000 ∧ (what < 2 → 0 ≤ (ofZ k what x).1) := by
  unfold ofZ
  rcases ofP_cases k x what with ⟨_, h⟩ | ⟨s, h, he⟩
  · rw [h]; simp
  · rw [h]
    obtain ⟨c, hc, e⟩ := he.lo1
    obtain ⟨d, hd, e'⟩ := he.hi1
    have h1 := hspan_rng hv hx hw hc
    have h2 := hspan_rng hv hx hw hd
    have h3 := he.hi c hc
    simp only [Option.getD_some]
    exact ⟨by omega, by omega, by omega, fun h9 => by have := h1.2.2.2 h9; omega⟩
theorem allP_snoc (k : Bk) (what : Nat) (x : Wkr) : ∀ l : List Wkr, allP k what (l ++ [x]) = ((allP k what l).1 + (ofZ k what x).1, (allP k what l).2 + (ofZ k what x).2)
  | [] => by simp [allP]
  | y :: l => by
    simp only [List.cons_append, allP, allP_snoc k what x l]
    exact Prod.ext (by simp only; omega) (by simp only; omega)
theorem allP_take {k : Bk} {what i : Nat} (h : i < k.ws.length) : allP k what (k.ws.take (i + 1)) = ((allP k what (k.ws.take i)).1 + (ofZ k what (k.ws.getD i default)).1, (allP k what (k.ws.take i)).2 + (ofZ k what (k.ws.getD i default)).2) := by
  rw [take_snoc h, allP_snoc]
theorem allP_rng {k : Bk} (hv : BkV k) {what : Nat} (hw : what < 3) : ∀ l : List Wkr, (∀ x ∈ l, WkrV k.sh x) → -600000 * (l.length : Int) ≤ (allP k what l).1 ∧ (allP k what l).1 ≤ (allP k what l).2 ∧ (allP k what l).2 ≤ 600000 * (l.length : Int) ∧ (what < 2 → 0 ≤ (allP k what l).1)
  | [], _ => by simp [allP]
  | x :: l, h => by
    have h1 := ofZ_rng hv (h x (.head _)) hw
    have h2 := allP_rng hv hw l fun y hy => h y (.tail _ hy)
    simp only [allP, List.length_cons]
    exact ⟨by omega, by omega, by omega, fun h9 => by have := h1.2.2.2 h9; have := h2.2.2.2 h9; omega⟩
theorem allP_upto {k : Bk} (hv : BkV k) {what : Nat} (hw : what < 3) (i : Nat) : -2400000 ≤ (allP k what (k.ws.take i)).1 ∧ (allP k what (k.ws.take i)).1 ≤ (allP k what (k.ws.take i)).2 ∧ (allP k what (k.ws.take i)).2 ≤ 2400000 ∧ (what < 2 → 0 ≤ (allP k what (k.ws.take i)).1) := by
  have h := allP_rng hv hw (k.ws.take i) fun x hx => hv.w x (List.mem_of_mem_take hx)
  have hl : (k.ws.take i).length ≤ 4 := by have := hv.n; rw [List.length_take]; omega
  exact ⟨by omega, h.2.1, by omega, h.2.2.2⟩
theorem wrong_succ (k : Bk) (i : Nat) : wrongTo k (i + 1) = wrongTo k i ++ if rightB (k.ws.getD i default) = true then [] else [((i : Nat) : Int)] := by
  unfold wrongTo
  have h1 : [i].filter (fun w => !rightB (k.ws.getD w default)) = if rightB (k.ws.getD i default) = true then [] else [i] := by
    cases hr : rightB (k.ws.getD i default) with
    | true => rw [List.filter_cons_of_neg (by rw [hr]; decide), if_pos rfl]; rfl
    | false => rw [List.filter_cons_of_pos (by rw [hr]; decide), if_neg (by decide)]; rfl
  rw [List.range_succ, List.filter_append, List.map_append, h1]
  split <;> rfl
theorem wrong_len (k : Bk) (i : Nat) : (wrongTo k i).length ≤ i := by
  unfold wrongTo
  rw [List.length_map]
  exact Nat.le_trans (List.length_filter_le _ _) (by simp)
theorem most_yes {f : Nat → Int} {n : Nat} (h : (mostTo f n).2 < f n) : mostTo f (n + 1) = (((n : Nat) : Int), f n) := by
  rw [show mostTo f (n + 1) = if (mostTo f n).2 < f n then (((n : Nat) : Int), f n) else mostTo f n from rfl, if_pos h]
theorem most_no {f : Nat → Int} {n : Nat} (h : ¬ (mostTo f n).2 < f n) : mostTo f (n + 1) = mostTo f n := by
  rw [show mostTo f (n + 1) = if (mostTo f n).2 < f n then (((n : Nat) : Int), f n) else mostTo f n from rfl, if_neg h]
theorem reO_v {b : Sheet} {x : Wkr} (h : WkrV b x) {l : List Int} (ho : ordB b l = true) (A : Option Addr) (c : Nat) : WkrV b (reO x l A c) := ⟨ho, h.s0, h.s1, h.b0, h.b1, h.b2, h.b3, h.t0, h.t1, h.t2, h.t3⟩
theorem setW_len (k : Bk) (w : Nat) (l : List Int) (A : Option Addr) (c : Nat) : (setW k w l A c).ws.length = k.ws.length := by simp [setW]
theorem setW_v {k : Bk} (hv : BkV k) {w : Nat} (hw : w < k.ws.length) {l : List Int} (ho : ordB k.sh l = true) (A : Option Addr) (c : Nat) : BkV (setW k w l A c) :=
  ⟨hv.ck, hv.g1, hv.g2, hv.p1, hv.p2, hv.f1, hv.f2, by rw [setW_len]; exact hv.n, fun x hx => by
    rcases List.mem_or_eq_of_mem_set hx with h | h
    · exact hv.w x h
    · rw [h]; exact reO_v (hv.wk hw) ho A c⟩
theorem setW_get {k : Bk} {w : Nat} (hw : w < k.ws.length) (l : List Int) (A : Option Addr) (c : Nat) : (setW k w l A c).ws.getD w default = reO (k.ws.getD w default) l A c := by
  unfold setW
  rw [List.getD_eq_getElem?_getD, List.getElem?_set_self hw]; rfl
theorem ofZ_setW (k : Bk) (what : Nat) (x : Wkr) (w : Nat) (l : List Int) (A : Option Addr) (c : Nat) : ofZ (setW k w l A c) what x = ofZ k what x := rfl
theorem more_setW {k : Bk} {w : Nat} (hw : w < k.ws.length) (l : List Int) (A : Option Addr) (c : Nat) : (ofZ (setW k w l A c) 0 ((setW k w l A c).ws.getD w default)).1 - (ofZ k 0 (k.ws.getD w default)).1 = moreZ k l w := by
  rw [setW_get hw, ofZ_setW]; rfl
theorem order_ord {b : Sheet} (hck : checkB b = true) (h : (orderP b).2 = 0) : ordB b (orderP b).1 = true ∧ Ok b (orderP b).1 := by
  rcases told_cases hck with ⟨h1, _⟩ | ⟨l, rest, h1, _, _, _, h2, h3, _⟩
  · rw [h1] at h; cases h
  · rw [h1]; exact ⟨ok_ord h2 h3, h2⟩
theorem order_err {b : Sheet} (hck : checkB b = true) : (orderP b).2 = 0 ∨ (orderP b).2 = 4 := by
  rcases told_cases hck with ⟨h1, _⟩ | ⟨l, rest, h1, _⟩
  · rw [h1]; exact .inr rfl
  · rw [h1]; exact .inl rfl
/-- One cell of a row of workers turned. -/
theorem accW_set {l : List Wkr} {x' : Wkr} {i r q : Nat} {v : Value} {bc : Nat} {cs : Array Value} (hi : i < l.length) (hr : r < 6) (hq : q = i * 6 + r) (he : encW x' = (encW (l.getD i default)).set r v) (h : AccOK encW 6 l (some (bc, cs))) :
    q < cs.size ∧ AccOK encW 6 (l.set i x') (some (bc, cs.setIfInBounds q v)) := by
  subst hq
  obtain ⟨cap, h1, h2, h3, h4⟩ := h
  have hE : ∀ x : Wkr, (encW x).length = 6 := fun _ => rfl
  have hcell : ∀ j r, j < l.length → r < 6 → cs.toList[j * 6 + r]? = (l[j]?).bind fun x => (encW x)[r]? := fun j r hj hr => by
    have h5 := flat_get hE l j r hr
    rw [← h4, List.getElem?_take] at h5
    rw [if_pos (by omega)] at h5
    exact h5
  have hget : l[i]? = some (l.getD i default) := by rw [List.getD_eq_getElem?_getD, List.getElem?_eq_getElem hi]; rfl
  refine ⟨by omega, cap, by simpa using h1, by rw [List.length_set]; exact h2, h3, ?_⟩
  rw [List.length_set]
  apply List.ext_getElem?
  intro p
  by_cases hp : p < l.length * 6
  · have hpp : p = p / 6 * 6 + p % 6 := by omega
    have hr2 : p % 6 < 6 := Nat.mod_lt _ (by omega)
    have hj : p / 6 < l.length := by omega
    rw [List.getElem?_take, if_pos hp]
    have e2 : ((l.set i x').flatMap encW)[p]? = ((l.set i x')[p / 6]?).bind fun x => (encW x)[p % 6]? := by
      have := flat_get hE (l.set i x') (p / 6) (p % 6) hr2
      rwa [← hpp] at this
    rw [e2]
    have e3 := hcell (p / 6) (p % 6) hj hr2
    rw [← hpp] at e3
    rw [Array.toList_setIfInBounds, List.getElem?_set]
    simp only [List.getElem?_set]
    by_cases hij : i = p / 6
    · by_cases h2' : r = p % 6
      · rw [if_pos (show i * 6 + r = p by omega), if_pos (show i * 6 + r < cs.toList.length by rw [Array.length_toList]; omega), if_pos hij, if_pos hi]
        show some v = (encW x')[p % 6]?
        rw [he, ← h2', List.getElem?_set_self (by rw [hE]; exact hr)]
      · rw [if_neg (show ¬ i * 6 + r = p by omega), e3, if_pos hij, if_pos hi, ← hij, hget]
        show (encW (l.getD i default))[p % 6]? = (encW x')[p % 6]?
        rw [he, List.getElem?_set_ne h2']
    · rw [if_neg (show ¬ i * 6 + r = p by omega), e3, if_neg hij]
  · rw [List.getElem?_eq_none (by rw [List.length_take]; omega), List.getElem?_eq_none]
    have hfl : ∀ m : List Wkr, (m.flatMap encW).length = m.length * 6 := fun m => by
      induction m with
      | nil => rfl
      | cons x m ih => rw [List.flatMap_cons, List.length_append, ih, hE, List.length_cons]; omega
    rw [hfl, List.length_set]; omega
theorem OrdD.setW {k : Bk} {w : World} (h : OrdD k.ws w) {i : Nat} {l : List Int} {A : Option Addr} {c : Nat} (hlc : l.length ≤ c) (hl : Rd encI 1 A l.length l w) : OrdD (setW k i l A c).ws w := fun x hx => by
  rcases List.mem_or_eq_of_mem_set hx with h1 | h1
  · exact h x h1
  · rw [h1]; exact ⟨hlc, hl⟩
theorem togE_zero {k : Bk} (h : togE k = 0) : hckB k = true ∧ wrongL k = [] := by
  unfold togE at h
  cases h1 : hckB k with
  | false => rw [h1] at h; cases h
  | true =>
    rw [h1, if_pos rfl] at h
    by_cases h2 : wrongL k = []
    · exact ⟨rfl, h2⟩
    · rw [if_neg h2] at h; cases h
end Go.Proofs.YtjjcopeedcdokaaDoor

set_option linter.unusedVariables false
set_option linter.unusedSimpArgs false
namespace Go.Proofs.YtjjcopeedcdokaaDoor
open Go.RowKit
section
variable {P : Program} {ds : List Deferred} {a : Act} {n : Nat} {L : Regs} {w : World} {t : TypeId} {w0 : Base} {Ds : List (World → Prop)} {H : Own}
/-- A field of one cell of a value. -/
def FvT (P : Program) (s : TypeId) (f off : Nat) : Prop := ∀ (cs : Array Value) (v : Value) (w : World), cs[off]? = some v → (Instr.field s (.agg cs) f).run P w = .ok v w
theorem FvT.mk {s : TypeId} {f off : Nat} {fs : Array Field} {x : Field} (h1 : P.underlying s = some (.struct fs)) (h2 : fs[f]? = some x) (h3 : ∀ w, (isAgg x.type).run P w = .ok false w) (h4 : x.offset = off) : FvT P s f off := by
  intro cs v w hv
  subst h4
  simp [Instr.field, run_underlying h1, h2, part, h3 w, asAgg, hv]
/-- A struct type of three numbers that '==' compares field by field. -/
structure Eq3 (P : Program) (ty : TypeId) : Prop where
  eql : ∀ (i j k i' j' k' : Int) (w : World), (Op.equal ty (.agg #[.int .i64 i, .int .i64 j, .int .i64 k]) (.agg #[.int .i64 i', .int .i64 j', .int .i64 k'])).run P w = .ok (i == i' && j == j' && k == k') w
  guard : P.eqGuardType P.depth ty = false
theorem Eq3.mk' {ty : TypeId} {f0 f1 f2 : Field} (hu : P.underlying ty = some (.struct #[f0, f1, f2])) (hh : P.stoodInHeld ty = false) (hg : P.eqGuardType P.depth ty = false) (n0 : f0.name ≠ "_") (n1 : f1.name ≠ "_") (n2 : f2.name ≠ "_") (o0 : f0.offset = 0) (o1 : f1.offset = 1) (o2 : f2.offset = 2) (u0 : P.underlying f0.type = some (.int .i64)) (u1 : P.underlying f1.type = some (.int .i64)) (u2 : P.underlying f2.type = some (.int .i64)) : Eq3 P ty := by
  refine ⟨fun i j k i' j' k' w => ?_, hg⟩
  have a0 : ∀ w, (isAgg f0.type).run P w = .ok false w := fun w => by simp [isAgg, run_underlying u0]
  have a1 : ∀ w, (isAgg f1.type).run P w = .ok false w := fun w => by simp [isAgg, run_underlying u1]
  have a2 : ∀ w, (isAgg f2.type).run P w = .ok false w := fun w => by simp [isAgg, run_underlying u2]
  have q : ∀ (d : Nat) (x y : Int) (ty : TypeId), P.underlying ty = some (.int .i64) → ∀ w, (Op.equalIn (d + 1) ty (.int .i64 x) (.int .i64 y)).run P w = .ok (x == y) w := fun d x y ty hu w => by simp [Op.equalIn, run_underlying hu]
  have key : ∀ d, (Op.equalIn (d + 2) ty (.agg #[.int .i64 i, .int .i64 j, .int .i64 k]) (.agg #[.int .i64 i', .int .i64 j', .int .i64 k'])).run P w = .ok (i == i' && j == j' && k == k') w := by
    intro d
    have e2 : (program).run P w = .ok P w := rfl
    unfold Op.equalIn
    simp only [Sem.run_bind, run_underlying hu, Result.andThen_ok, e2, hh]
    by_cases h0 : i = i' <;> by_cases h1 : j = j' <;> by_cases h2 : k = k' <;> simp [n0, n1, n2, part, o0, o1, o2, a0, a1, a2, q d _ _ _ u0, q d _ _ _ u1, q d _ _ _ u2, h0, h1, h2]
  exact key 9998
theorem g_eq3 (hf : Fr ds a n L) {ty ty' : TypeId} (hT : Eq3 P ty) {x y : Operand} {i j k i' j' k' : Int} (hx : ev L x = some (.agg #[.int .i64 i, .int .i64 j, .int .i64 k])) (hy : ev L y = some (.agg #[.int .i64 i', .int .i64 j', .int .i64 k'])) : Gets P (.binOp .eql ty x y ty') t a w (.bool (i == i' && j == j' && k == k')) := by
  intro d p af g
  have e1 := hT.eql i j k i' j' k' w
  have e2 : (program).run P w = .ok P w := rfl
  simp only [execOp, Sem.run_bind, hf.eval hx, hf.eval hy, eqGuard, Bool.not_eq_true, Sem.run_ite]
  simp [binOp, e1, e2, hT.guard]
/-- An array of seven numbers. -/
def ints7 (l : List Int) : Array Value := (l.map fun x => Value.int .i64 x).toArray
structure EqA (P : Program) (ty : TypeId) : Prop where
  eql : ∀ (l m : List Int) (w : World), l.length = 7 → m.length = 7 → (Op.equal ty (.agg (ints7 l)) (.agg (ints7 m))).run P w = .ok (l == m) w
  guard : P.eqGuardType P.depth ty = false
theorem EqA.mk' {ty e : TypeId} (hu : P.underlying ty = some (.array 7 e)) (hg : P.eqGuardType P.depth ty = false) (ue : P.underlying e = some (.int .i64)) (hsz : ∀ w, (sizeOf e).run P w = .ok 1 w) : EqA P ty := by
  refine ⟨fun l m w hl hm => ?_, hg⟩
  have ae : ∀ w, (isAgg e).run P w = .ok false w := fun w => by simp [isAgg, run_underlying ue]
  have q : ∀ (d : Nat) (x y : Int) (w : World), (Op.equalIn (d + 1) e (.int .i64 x) (.int .i64 y)).run P w = .ok (x == y) w := fun d x y w => by simp [Op.equalIn, run_underlying ue]
  match l, hl, m, hm with
  | [a0, a1, a2, a3, a4, a5, a6], _, [b0, b1, b2, b3, b4, b5, b6], _ =>
    have key : ∀ d, (Op.equalIn (d + 2) ty (.agg (ints7 [a0, a1, a2, a3, a4, a5, a6])) (.agg (ints7 [b0, b1, b2, b3, b4, b5, b6]))).run P w = .ok ([a0, a1, a2, a3, a4, a5, a6] == [b0, b1, b2, b3, b4, b5, b6]) w := by
      intro d
      have e2 : (program).run P w = .ok P w := rfl
      unfold Op.equalIn
      simp only [Sem.run_bind, run_underlying hu, Result.andThen_ok, e2, hsz, ints7]
      by_cases h0 : a0 = b0
      · by_cases h1 : a1 = b1
        · by_cases h2 : a2 = b2
          · by_cases h3 : a3 = b3
            · by_cases h4 : a4 = b4
              · by_cases h5 : a5 = b5
                · by_cases h6 : a6 = b6 <;> simp [Std.Legacy.Range.forIn_eq_forIn_range', Std.Legacy.Range.size, List.range', part, ae, q, h0, h1, h2, h3, h4, h5, h6]
                · simp [Std.Legacy.Range.forIn_eq_forIn_range', Std.Legacy.Range.size, List.range', part, ae, q, h0, h1, h2, h3, h4, h5]
              · simp [Std.Legacy.Range.forIn_eq_forIn_range', Std.Legacy.Range.size, List.range', part, ae, q, h0, h1, h2, h3, h4]
            · simp [Std.Legacy.Range.forIn_eq_forIn_range', Std.Legacy.Range.size, List.range', part, ae, q, h0, h1, h2, h3]
          · simp [Std.Legacy.Range.forIn_eq_forIn_range', Std.Legacy.Range.size, List.range', part, ae, q, h0, h1, h2]
        · simp [Std.Legacy.Range.forIn_eq_forIn_range', Std.Legacy.Range.size, List.range', part, ae, q, h0, h1]
      · simp [Std.Legacy.Range.forIn_eq_forIn_range', Std.Legacy.Range.size, List.range', part, ae, q, h0]
    exact key 9998
theorem g_eqA (hf : Fr ds a n L) {ty ty' : TypeId} (hT : EqA P ty) {x y : Operand} {l m : List Int} (hl : l.length = 7) (hm : m.length = 7) (hx : ev L x = some (.agg (ints7 l))) (hy : ev L y = some (.agg (ints7 m))) : Gets P (.binOp .eql ty x y ty') t a w (.bool (l == m)) := by
  intro d p af g
  have e1 := hT.eql l m w hl hm
  have e2 : (program).run P w = .ok P w := rfl
  simp only [execOp, Sem.run_bind, hf.eval hx, hf.eval hy, eqGuard, Bool.not_eq_true, Sem.run_ite]
  simp [binOp, e1, e2, hT.guard]
theorem g_neA (hf : Fr ds a n L) {ty ty' : TypeId} (hT : EqA P ty) {x y : Operand} {l m : List Int} (hl : l.length = 7) (hm : m.length = 7) (hx : ev L x = some (.agg (ints7 l))) (hy : ev L y = some (.agg (ints7 m))) : Gets P (.binOp .neq ty x y ty') t a w (.bool (!(l == m))) := by
  intro d p af g
  have e1 := hT.eql l m w hl hm
  have e2 : (program).run P w = .ok P w := rfl
  simp only [execOp, Sem.run_bind, hf.eval hx, hf.eval hy, eqGuard, Bool.not_eq_true, Sem.run_ite]
  simp [binOp, e1, e2, hT.guard]
abbrev KM := List ((Int × Int × Int) × Int)
def kt3 (c : Int × Int × Int) : Value := .agg #[.int .i64 c.1, .int .i64 c.2.1, .int .i64 c.2.2]
def entsK : KM → Nat → List MapEntry
  | [], _ => []
  | (p, v) :: l, n => { key := kt3 p, val := .int .i64 v, born := n } :: entsK l (n + 1)
def mapK (m : KM) : Obj := .map (entsK m 0).toArray m.length
def kfind (c : Int × Int × Int) : KM → Nat → Option (Nat × Int)
  | [], _ => none
  | (p, v) :: l, n => if c = p then some (n, v) else kfind c l (n + 1)
theorem kfind_mem {c : Int × Int × Int} : ∀ {m : KM} {n q : Nat} {v : Int}, kfind c m n = some (q, v) → (c, v) ∈ m
  | [], n, q, v, h => by simp [kfind] at h
  | (p, u) :: l, n, q, v, h => by
    unfold kfind at h
    split at h
    · rename_i e; cases h; rw [e]; exact .head _
    · exact .tail _ (kfind_mem h)
theorem entsK_app : ∀ (m : KM) (n : Nat) (p : Int × Int × Int) (v : Int), entsK (m ++ [(p, v)]) n = entsK m n ++ [{ key := kt3 p, val := .int .i64 v, born := n + m.length }]
  | [], n, p, v => by simp [entsK]
  | x :: l, n, p, v => by simp [entsK, entsK_app l]; omega
structure MapT3 (P : Program) (mt kt et : TypeId) : Prop where
  under : ∀ w, (underlying mt).run P w = .ok (.map kt et) w
  kunder : ∃ fs, ∀ w, (underlying kt).run P w = .ok (.struct fs) w
  check : ∀ e c w, (Instr.checkKey e 10000 kt (kt3 c)).run P w = .ok () w
  eq : Eq3 P kt
  zero : ∀ w, (zeroValue et).run P w = .ok (.int .i64 0) w
variable {mt kt et : TypeId}
theorem run_findAsking3 (hT : MapT3 P mt kt et) (c : Int × Int × Int) : ∀ (m : KM) (b n : Nat), (Instr.findAsking kt (kt3 c) (entsK m b) n).run P w = .ok ((kfind c m n).map fun e => (e.1, .int .i64 e.2)) w
  | [], b, n => by simp [entsK, Instr.findAsking, kfind]
  | (p, v) :: l, b, n => by
    have h1 := hT.eq.eql c.1 c.2.1 c.2.2 p.1 p.2.1 p.2.2 w
    simp only [entsK, Instr.findAsking, Sem.run_bind]
    rw [show (Op.equal kt (kt3 c) (kt3 p)).run P w = _ from h1]
    simp only [Result.andThen_ok, Sem.run_ite, kfind]
    by_cases hc : c = p
    · subst hc; simp
    · have : (c.1 == p.1 && c.2.1 == p.2.1 && c.2.2 == p.2.2) = false := by
        rw [Bool.eq_false_iff]; intro h; simp at h; exact hc (Prod.ext h.1.1 (Prod.ext h.1.2 h.2))
      rw [this, if_neg hc]
      simp only [Bool.false_eq_true, if_false]
      exact run_findAsking3 hT c l (b + 1) (n + 1)
theorem run_findKey3 (hT : MapT3 P mt kt et) (c : Int × Int × Int) (m : KM) (b : Nat) : (Instr.findKey kt (kt3 c) (entsK m b)).run P w = .ok ((kfind c m 0).map fun e => (e.1, .int .i64 e.2)) w := by
  obtain ⟨fs, hk⟩ := hT.kunder
  have h1 := run_findAsking3 (w := w) hT c m b 0
  unfold Instr.findKey
  simp only [Sem.run_bind, hk w, Result.andThen_ok]
  cases m with
  | nil => simp [entsK, Instr.findNow, kfind]
  | cons x l => simp only [entsK, Instr.findNow, Instr.sameNow, kt3] at h1 ⊢; exact h1
def kget (m : KM) (c : Int × Int × Int) : Int := match kfind c m 0 with
  | some (_, v) => v
  | none => 0
def khas (m : KM) (c : Int × Int × Int) : Bool := (kfind c m 0).isSome
theorem khas_mem {m : KM} {c : Int × Int × Int} (h : khas m c = true) : (c, kget m c) ∈ m := by
  unfold khas at h; unfold kget
  cases hf : kfind c m 0 with
  | none => rw [hf] at h; cases h
  | some e => obtain ⟨q, v⟩ := e; exact kfind_mem hf
theorem g_look3 (hf : Fr ds a n L) (hs : St w0 Ds H w) {b k : Nat} {m : KM} (hk : H[k]? = some (b, mapK m)) (hT : MapT3 P mt kt et) {x y : Operand} {c0 c1 c2 : Int} (hx : ev L x = some (.map (some b))) (hy : ev L y = some (.agg #[.int .i64 c0, .int .i64 c1, .int .i64 c2])) :
    Gets P (.lookup mt x y true) t a w (.tuple #[.int .i64 (kget m (c0, c1, c2)), .bool (khas m (c0, c1, c2))]) := by
  intro d p af g
  have hb := (hs.own _ _ (List.mem_of_getElem? hk)).2
  have h1 : (getObj b).run P w = .ok (mapK m) w := by simp [getObj, Sem.run, hb]; rfl
  have h2 := hT.check (entsK m 0).toArray.isEmpty (c0, c1, c2) w
  have h3 := run_findKey3 (w := w) hT (c0, c1, c2) m 0
  simp only [kt3] at h2 h3
  simp only [execOp, hf.eval hx, hf.eval hy, Instr.lookup, Sem.run_bind, hT.under w, Result.andThen_ok, h1, mapK, Sem.run_pure, h2, h3]
  unfold kget khas
  cases kfind (c0, c1, c2) m 0 with
  | some e => obtain ⟨k, v⟩ := e; simp
  | none => simp [hT.zero w]
/-- A new key. -/
theorem u_upd3 (hf : Fr ds a n L) (hs : St w0 Ds H w) {b k : Nat} {m : KM} (hk : H[k]? = some (b, mapK m)) (hT : MapT3 P mt kt et) {x y z : Operand} {c0 c1 c2 v : Int} (hx : ev L x = some (.map (some b))) (hy : ev L y = some (.agg #[.int .i64 c0, .int .i64 c1, .int .i64 c2])) (hz : ev L z = some (.int .i64 v)) (hn : khas m (c0, c1, c2) = false) :
    GoesU P (.mapUpdate mt x y z) t a w fun w' => St w0 Ds (H.set k (b, mapK (m ++ [((c0, c1, c2), v)]))) w' := by
  intro d p af g
  have hb := (hs.own b _ (List.mem_of_getElem? hk)).2
  have h1 : (getObj b).run P w = .ok (mapK m) w := by simp [getObj, Sem.run, hb]; rfl
  have h2 := hT.check false (c0, c1, c2) w
  have h3 := run_findKey3 (w := w) hT (c0, c1, c2) m 0
  simp only [kt3] at h2 h3
  refine ⟨_, ?_, hs.putM hk⟩
  have hn' : kfind (c0, c1, c2) m 0 = none := by
    unfold khas at hn
    cases h : kfind (c0, c1, c2) m 0 with
    | none => rfl
    | some e => rw [h] at hn; cases hn
  rw [hn'] at h3
  simp only [execOp, hf.eval hx, hf.eval hy, hf.eval hz, Instr.mapUpdate, Sem.run_bind, hT.under w, Result.andThen_ok, h1, mapK, Sem.run_pure, h2, h3, Option.map_none]
  have : (entsK m 0).toArray.push { key := .agg #[.int .i64 c0, .int .i64 c1, .int .i64 c2], val := .int .i64 v, born := m.length } = (entsK (m ++ [((c0, c1, c2), v)]) 0).toArray := by
    rw [entsK_app]; simp [kt3]
  rw [run_setObjM _ hb]
  simp only [Result.andThen_ok]
  rw [this]; simp
end
end Go.Proofs.YtjjcopeedcdokaaDoor

set_option linter.unusedVariables false
set_option linter.unusedSimpArgs false
namespace Go.Proofs.YtjjcopeedcdokaaDoor
open Go.RowKit
theorem T26 : Ty Tryd.prog 26 false 1 (.slice none 0 0) := ⟨fun _ => by kernel_rfl, fun _ => by kernel_rfl, fun _ => by kernel_rfl⟩
theorem T28 : Ty Tryd.prog 28 true 8 (.agg #[.int .i64 0, .int .i64 0, .slice none 0 0, .slice none 0 0, .int .i64 0, .int .i64 0, .int .i64 0, .slice none 0 0]) := ⟨fun _ => by kernel_rfl, fun _ => by kernel_rfl, fun _ => by kernel_rfl⟩
theorem T47 : Ty Tryd.prog 47 true 6 (.agg #[.int .i64 0, .slice none 0 0, .int .i64 0, .int .i64 0, .int .i64 0, .int .i64 0]) := ⟨fun _ => by kernel_rfl, fun _ => by kernel_rfl, fun _ => by kernel_rfl⟩
theorem T58 : Ty Tryd.prog 58 true 3 (.agg #[.int .i64 0, .int .i64 0, .int .i64 0]) := ⟨fun _ => by kernel_rfl, fun _ => by kernel_rfl, fun _ => by kernel_rfl⟩
theorem T74 : Ty Tryd.prog 74 false 1 (.nilFunc) := ⟨fun _ => by kernel_rfl, fun _ => by kernel_rfl, fun _ => by kernel_rfl⟩
theorem T87 : Ty Tryd.prog 87 false 1 (.map none) := ⟨fun _ => by kernel_rfl, fun _ => by kernel_rfl, fun _ => by kernel_rfl⟩
theorem T89 : Ty Tryd.prog 89 true 10 (.agg #[.int .i64 0, .int .i64 0, .slice none 0 0, .slice none 0 0, .int .i64 0, .int .i64 0, .int .i64 0, .slice none 0 0, .slice none 0 0, .map none]) := ⟨fun _ => by kernel_rfl, fun _ => by kernel_rfl, fun _ => by kernel_rfl⟩
theorem T96 : Ty Tryd.prog 96 false 1 (.nilFunc) := ⟨fun _ => by kernel_rfl, fun _ => by kernel_rfl, fun _ => by kernel_rfl⟩
theorem T129 : Ty Tryd.prog 129 true 7 (.agg #[.int .i64 0, .int .i64 0, .int .i64 0, .int .i64 0, .int .i64 0, .int .i64 0, .int .i64 0]) := ⟨fun _ => by kernel_rfl, fun _ => by kernel_rfl, fun _ => by kernel_rfl⟩
theorem T134 : Ty Tryd.prog 134 true 3 (.agg #[.int .i64 0, .int .i64 0, .int .i64 0]) := ⟨fun _ => by kernel_rfl, fun _ => by kernel_rfl, fun _ => by kernel_rfl⟩
theorem T135 : Ty Tryd.prog 135 false 1 (.nilFunc) := ⟨fun _ => by kernel_rfl, fun _ => by kernel_rfl, fun _ => by kernel_rfl⟩
theorem F28_0 : FdT Tryd.prog 28 0 0 := fun _ _ => by kernel_rfl
theorem F28_1 : FdT Tryd.prog 28 1 4 := fun _ _ => by kernel_rfl
theorem F28_2 : FdT Tryd.prog 28 2 5 := fun _ _ => by kernel_rfl
theorem F28_3 : FdT Tryd.prog 28 3 6 := fun _ _ => by kernel_rfl
theorem F28_4 : FdT Tryd.prog 28 4 7 := fun _ _ => by kernel_rfl
theorem F47_0 : FdT Tryd.prog 47 0 0 := fun _ _ => by kernel_rfl
theorem F47_1 : FdT Tryd.prog 47 1 1 := fun _ _ => by kernel_rfl
theorem F47_2 : FdT Tryd.prog 47 2 2 := fun _ _ => by kernel_rfl
theorem F47_3 : FdT Tryd.prog 47 3 4 := fun _ _ => by kernel_rfl
theorem F58_0 : FdT Tryd.prog 58 0 0 := fun _ _ => by kernel_rfl
theorem F58_1 : FdT Tryd.prog 58 1 1 := fun _ _ => by kernel_rfl
theorem F58_2 : FdT Tryd.prog 58 2 2 := fun _ _ => by kernel_rfl
theorem F89_0 : FdT Tryd.prog 89 0 0 := fun _ _ => by kernel_rfl
theorem F89_1 : FdT Tryd.prog 89 1 8 := fun _ _ => by kernel_rfl
theorem F89_2 : FdT Tryd.prog 89 2 9 := fun _ _ => by kernel_rfl
theorem F98_0 : FdT Tryd.prog 98 0 0 := fun _ _ => by kernel_rfl
theorem F134_0 : FdT Tryd.prog 134 0 0 := fun _ _ => by kernel_rfl
theorem F134_1 : FdT Tryd.prog 134 1 1 := fun _ _ => by kernel_rfl
theorem F134_2 : FdT Tryd.prog 134 2 2 := fun _ _ => by kernel_rfl
theorem SL26 : SlT Tryd.prog 26 47 6 := ⟨fun _ => by kernel_rfl, fun _ => by kernel_rfl⟩
theorem AR65 : ArT Tryd.prog 65 3 5 1 := ⟨fun _ => by kernel_rfl, fun _ => by kernel_rfl⟩
theorem AR129 : ArT Tryd.prog 129 3 7 1 := ⟨fun _ => by kernel_rfl, fun _ => by kernel_rfl⟩
theorem AR136 : ArT Tryd.prog 136 135 3 1 := ⟨fun _ => by kernel_rfl, fun _ => by kernel_rfl⟩
theorem Q40 : Eq2 Tryd.prog 40 := Eq2.mk' (t0 := 0) (t1 := 0) Tryd.underlying40 (by kernel_rfl) (by kernel_rfl) (by decide) (by decide) rfl rfl (by kernel_rfl) (by kernel_rfl) rfl
theorem AP26 : ApT Tryd.prog 26 47 6 64 := ApT.mk' (z := (.agg #[.int .i64 0, .slice none 0 0, .int .i64 0, .int .i64 0, .int .i64 0, .int .i64 0])) (by kernel_rfl) (by kernel_rfl) (by kernel_rfl)
theorem QT134 : Eq3 Tryd.prog 134 := Eq3.mk' Tryd.underlying134 (by kernel_rfl) (by kernel_rfl) (by decide) (by decide) (by decide) rfl rfl rfl (by kernel_rfl) (by kernel_rfl) (by kernel_rfl)
theorem QA129 : EqA Tryd.prog 129 := EqA.mk' (e := 3) (by kernel_rfl) (by kernel_rfl) (by kernel_rfl) (fun w => by kernel_rfl)
theorem MP87 : MapT3 Tryd.prog 87 134 3 := ⟨fun _ => by kernel_rfl, ⟨_, fun _ => run_underlying Tryd.underlying134 _⟩, fun _ _ _ => by kernel_rfl, QT134, fun _ => by kernel_rfl⟩
theorem E20 : Enters Tryd.prog 20 := fun _ _ => by kernel_rfl
theorem E21 : Enters Tryd.prog 21 := fun _ _ => by kernel_rfl
theorem E23 : Enters Tryd.prog 23 := fun _ _ => by kernel_rfl
theorem E25 : Enters Tryd.prog 25 := fun _ _ => by kernel_rfl
theorem E27 : Enters Tryd.prog 27 := fun _ _ => by kernel_rfl
theorem E31 : Enters Tryd.prog 31 := fun _ _ => by kernel_rfl
theorem E33 : Enters Tryd.prog 33 := fun _ _ => by kernel_rfl
theorem E36 : Enters Tryd.prog 36 := fun _ _ => by kernel_rfl
theorem E38 : Enters Tryd.prog 38 := fun _ _ => by kernel_rfl
theorem E40 : Enters Tryd.prog 40 := fun _ _ => by kernel_rfl
theorem E46 : Enters Tryd.prog 46 := fun _ _ => by kernel_rfl
theorem E48 : Enters Tryd.prog 48 := fun _ _ => by kernel_rfl
theorem E49 : Enters Tryd.prog 49 := fun _ _ => by kernel_rfl
theorem E54 : Enters Tryd.prog 54 := fun _ _ => by kernel_rfl
theorem E55 : Enters Tryd.prog 55 := fun _ _ => by kernel_rfl
theorem E56 : Enters Tryd.prog 56 := fun _ _ => by kernel_rfl
theorem E57 : Enters Tryd.prog 57 := fun _ _ => by kernel_rfl
theorem E58 : Enters Tryd.prog 58 := fun _ _ => by kernel_rfl
theorem E70 : Enters Tryd.prog 70 := fun _ _ => by kernel_rfl
theorem E71 : Enters Tryd.prog 71 := fun _ _ => by kernel_rfl
theorem E72 : Enters Tryd.prog 72 := fun _ _ => by kernel_rfl
theorem E73 : Enters Tryd.prog 73 := fun _ _ => by kernel_rfl
theorem E74 : Enters Tryd.prog 74 := fun _ _ => by kernel_rfl
theorem E75 : Enters Tryd.prog 75 := fun _ _ => by kernel_rfl
theorem E76 : Enters Tryd.prog 76 := fun _ _ => by kernel_rfl
theorem E77 : Enters Tryd.prog 77 := fun _ _ => by kernel_rfl
theorem E80 : Enters Tryd.prog 80 := fun _ _ => by kernel_rfl
theorem E81 : Enters Tryd.prog 81 := fun _ _ => by kernel_rfl
theorem E83 : Enters Tryd.prog 83 := fun _ _ => by kernel_rfl
theorem E84 : Enters Tryd.prog 84 := fun _ _ => by kernel_rfl
theorem E94 : Enters Tryd.prog 94 := fun _ _ => by kernel_rfl
theorem E98 : Enters Tryd.prog 98 := fun _ _ => by kernel_rfl
theorem E109 : Enters Tryd.prog 109 := fun _ _ => by kernel_rfl
theorem E110 : Enters Tryd.prog 110 := fun _ _ => by kernel_rfl
theorem E111 : Enters Tryd.prog 111 := fun _ _ => by kernel_rfl
theorem E112 : Enters Tryd.prog 112 := fun _ _ => by kernel_rfl
theorem E128 : Enters Tryd.prog 128 := fun _ _ => by kernel_rfl
theorem E159 : Enters Tryd.prog 159 := fun _ _ => by kernel_rfl
theorem E160 : Enters Tryd.prog 160 := fun _ _ => by kernel_rfl
theorem E162 : Enters Tryd.prog 162 := fun _ _ => by kernel_rfl
end Go.Proofs.YtjjcopeedcdokaaDoor

set_option linter.unusedVariables false
set_option linter.unusedSimpArgs false
namespace Go.Proofs.YtjjcopeedcdokaaDoor
open Go.RowKit
theorem c_inH (n lo hi : Int) (w0 : World) :
    Calls Tryd.prog 83 #[.int .i64 n, .int .i64 lo, .int .i64 hi] w0 (Ret w0 (.bool (fitsB n lo hi))) := by
  refine c_enter (n := 15) Tryd.func83 rfl rfl (Nat.le_of_ble_eq_true rfl) ?_; intro a hf; simp only [zipR] at hf
  have hs := St.start w0 [] (by simp)
  refine c_reg ?_
  refine gL hf (g_as hf rfl) (by decide) ?_; clear hf a; intro a hf
  refine e_nil ?_
  refine c_reg ?_
  refine gL hf (g_mv hf rfl) (by decide) ?_; clear hf a; intro a hf
  refine gL hf (g_mv hf rfl) (by decide) ?_; clear hf a; intro a hf
  refine gL hf (g_leq hf rfl rfl) (by decide) ?_; clear hf a; intro a hf
  refine gL hf (g_mv hf rfl) (by decide) ?_; clear hf a; intro a hf
  refine ggL hf rfl rfl (gyes_t _) (fun hg => g_mv hf rfl) (by decide) ?_; clear hf a; intro a hf
  refine ggL hf rfl rfl (gyes_t _) (fun hg => g_mv hf rfl) (by decide) ?_; clear hf a; intro a hf
  refine ggL hf rfl rfl (gyes_t _) (fun hg => g_leq hf (ev_gv rfl hg) (ev_gv rfl hg)) (by decide) ?_; clear hf a; intro a hf
  refine gL hf (g_and hf rfl rfl) (by decide) ?_; clear hf a; intro a hf
  refine gL hf (g_as hf rfl) (by decide) ?_; clear hf a; intro a hf
  refine e_nil ?_
  refine c_ret ?_
  refine e_ret1 hf rfl rfl ?_
  exact ⟨rfl, hs.below⟩

theorem c_spans (lo hi : Int) (w0 : World) :
    Calls Tryd.prog 84 #[.agg #[.int .i64 lo, .int .i64 hi]] w0 (Ret w0 (.bool (spanS lo hi))) := by
  refine c_enter (n := 21) Tryd.func84 rfl rfl (Nat.le_of_ble_eq_true rfl) ?_; intro a hf; simp only [zipR] at hf
  have hs := St.start w0 [] (by simp)
  refine c_reg ?_
  refine vL hf (v_boxA hf hs rfl) (by decide) ?_; clear hs hf a; rintro _ w ⟨b1, rfl, hs⟩ a hf
  refine gL hf (g_as hf rfl) (by decide) ?_; clear hf a; intro a hf
  refine e_nil ?_
  refine c_reg ?_
  refine gL hf (g_fa (off' := 0) hf F40_0 rfl rfl) (by decide) ?_; clear hf a; intro a hf
  refine gL hf (g_ld hf hs T3 rfl (k := 0) rfl rfl) (by decide) ?_; clear hf a; intro a hf
  refine gL hf (g_fa (off' := 1) hf F40_1 rfl rfl) (by decide) ?_; clear hf a; intro a hf
  refine gL hf (g_ld hf hs T3 rfl (k := 0) rfl rfl) (by decide) ?_; clear hf a; intro a hf
  refine callL hf hs (c_inH _ _ _ _) rfl rfl rfl E83 (by decide) ?_; clear hs hf a; intro w a hs hf
  refine gL hf (g_mv hf rfl) (by decide) ?_; clear hf a; intro a hf
  refine ggL hf rfl rfl (gyes_t _) (fun hg => g_fa (off' := 1) hf F40_1 rfl rfl) (by decide) ?_; clear hf a; intro a hf
  refine ggL hf rfl rfl (gyes_t _) (fun hg => g_ld hf hs T3 (ev_gv rfl hg) (k := 0) rfl rfl) (by decide) ?_; clear hf a; intro a hf
  refine ggL hf rfl rfl (gyes_t _) (fun hg => g_leq hf (ev_gv rfl hg) rfl) (by decide) ?_; clear hf a; intro a hf
  refine gL hf (g_and hf rfl rfl) (by decide) ?_; clear hf a; intro a hf
  refine gL hf (g_mv hf rfl) (by decide) ?_; clear hf a; intro a hf
  refine ggL hf rfl rfl (gyes_t _) (fun hg => g_fa (off' := 1) hf F40_1 rfl rfl) (by decide) ?_; clear hf a; intro a hf
  refine ggL hf rfl rfl (gyes_t _) (fun hg => g_ld hf hs T3 (ev_gv rfl hg) (k := 0) rfl rfl) (by decide) ?_; clear hf a; intro a hf
  refine ggL hf rfl rfl (gyes_t _) (fun hg => g_fa (off' := 0) hf F40_0 rfl rfl) (by decide) ?_; clear hf a; intro a hf
  refine ggL hf rfl rfl (gyes_t _) (fun hg => g_ld hf hs T3 (ev_gv rfl hg) (k := 0) rfl rfl) (by decide) ?_; clear hf a; intro a hf
  refine ggL hf rfl rfl (gyes_t _) (fun hg => g_subI hf (ev_gv rfl hg) (ev_gv rfl hg) (by simp only [fitsB, Bool.and_eq_true, decide_eq_true_eq] at hg; omega)) (by decide) ?_; clear hf a; intro a hf
  refine ggL hf rfl rfl (gyes_t _) (fun hg => g_leq hf (ev_gv rfl hg) rfl) (by decide) ?_; clear hf a; intro a hf
  refine gL hf (g_and hf rfl rfl) (by decide) ?_; clear hf a; intro a hf
  refine gL hf (g_as hf rfl) (by decide) ?_; clear hf a; intro a hf
  refine e_nil ?_
  refine c_ret ?_
  refine e_ret1 hf rfl rfl ?_
  exact ⟨rfl, hs.below⟩

theorem c_noneH (w0 : World) :
    Calls Tryd.prog 109 #[] w0 (Ret w0 (.agg #[.int .i64 0, .int .i64 0, .int .i64 0, .int .i64 0, .int .i64 0, .int .i64 0, .int .i64 0])) := by
  refine c_enter (n := 3) Tryd.func109 rfl rfl (Nat.le_of_ble_eq_true rfl) ?_; intro a hf; simp only [zipR] at hf
  have hs := St.start w0 [] (by simp)
  refine c_reg ?_
  refine vL hf (v_alloc hs T129 rfl) (by decide) ?_; clear hs hf a; rintro _ w ⟨b1, rfl, hs⟩ a hf
  refine e_nil ?_
  refine c_reg ?_
  refine vL hf (v_alloc hs T129 rfl) (by decide) ?_; clear hs hf a; rintro _ w ⟨b2, rfl, hs⟩ a hf
  refine e_nil ?_
  refine c_reg ?_
  refine gL hf (g_ldW hf hs T129 rfl (k := 0) rfl rfl) (by decide) ?_; clear hf a; intro a hf
  refine uL (u_stW hf hs T129 rfl rfl rfl (k := 1) rfl rfl rfl) ?_; clear hs; intro w hs; dsimp only [List.set] at hs
  refine e_nil ?_
  refine c_ret ?_
  refine e_res hf hs rfl (.cellA T129 rfl (k := 1) rfl rfl .nil) rfl ?_
  exact ⟨rfl, hs.below⟩

theorem c_nothing (w0 : World) :
    Calls Tryd.prog 162 #[] w0 (Ret w0 (.agg #[.int .i64 0, .int .i64 0, .int .i64 0])) := by
  refine c_enter (n := 3) Tryd.func162 rfl rfl (Nat.le_of_ble_eq_true rfl) ?_; intro a hf; simp only [zipR] at hf
  have hs := St.start w0 [] (by simp)
  refine c_reg ?_
  refine vL hf (v_alloc hs T134 rfl) (by decide) ?_; clear hs hf a; rintro _ w ⟨b1, rfl, hs⟩ a hf
  refine e_nil ?_
  refine c_reg ?_
  refine vL hf (v_alloc hs T134 rfl) (by decide) ?_; clear hs hf a; rintro _ w ⟨b2, rfl, hs⟩ a hf
  refine e_nil ?_
  refine c_reg ?_
  refine gL hf (g_ldW hf hs T134 rfl (k := 0) rfl rfl) (by decide) ?_; clear hf a; intro a hf
  refine uL (u_stW hf hs T134 rfl rfl rfl (k := 1) rfl rfl rfl) ?_; clear hs; intro w hs; dsimp only [List.set] at hs
  refine e_nil ?_
  refine c_ret ?_
  refine e_res hf hs rfl (.cellA T134 rfl (k := 1) rfl rfl .nil) rfl ?_
  exact ⟨rfl, hs.below⟩

theorem c_sum (A : Option Addr) (c : Nat) (l : List Int) (hb : l.length ≤ 100 ∧ ∀ x ∈ l, -1000000000 ≤ x ∧ x ≤ 1000000000) (w0 : World) (h : Rd encI 1 A l.length l w0) :
    Calls Tryd.prog 112 #[.slice A l.length c] w0 (Ret w0 (.int .i64 (sumZ l))) := by
  refine c_enter (n := 17) Tryd.func112 rfl rfl (Nat.le_of_ble_eq_true rfl) ?_; intro a hf; simp only [zipR] at hf
  have hs := St.start w0 [Rd encI 1 A l.length l] h.st1
  have hlm := h.2.1
  refine c_reg ?_
  refine gL hf (g_as hf rfl) (by decide) ?_; clear hf a; intro a hf
  refine e_nil ?_
  refine c_reg ?_
  refine gL hf (g_as hf rfl) (by decide) ?_; clear hf a; intro a hf
  refine e_nil ?_
  refine wp_seq ?_
  refine c_reg ?_
  refine gL hf (g_mv hf rfl) (by decide) ?_; clear hf a; intro a hf
  refine gL hf (g_len hf SL31 rfl) (by decide) ?_; clear hf a; intro a hf
  refine gL hf (g_mv hf rfl) (by decide) ?_; clear hf a; intro a hf
  refine e_nil ?_
  refine c_block ?_
  refine c_loop hf hs [3, 5, 8, 9, 10, 11, 12, 13, 14, 15] (σ := Nat) (fun i => [(3, .int .i64 (sumZ (l.take i))), (8, .int .i64 (i : Nat))]) (fun i => _) (fun i => i ≤ l.length) (fun i => l.length - i) 0 (by omega) (.cons rfl (.cons rfl .nil)) rfl ?_
  intro i a w hJ hf hs
  refine c_reg ?_
  refine gL hf (g_lss hf rfl rfl) (by decide) ?_; clear hf a; intro a hf
  refine e_nil ?_
  refine c_condS hf rfl (fun hc1 => ?_) (fun hc1 => ?_)
  · try simp only [decide_eq_true_eq, decide_eq_false_iff_not] at hc1
    replace hc1 : i < l.length := by omega
    have hsb := sumZ_bound (l := l.take i) fun x hx => hb.2 x (List.mem_of_mem_take hx)
    have hsx := hb.2 _ (getD_mem hc1)
    have htl : (l.take i).length ≤ 100 := by rw [List.length_take]; omega
    refine c_skip (q_thenN ?_)
    refine c_blockS ?_
    refine c_reg ?_
    (first | (refine gL hf (g_ixE hf hs (.head _) SL31 rfl rfl (by omega)) (by decide) ?_) | (refine gL hf (g_ixD hf hs (.head _) SL31 rfl rfl (by omega)) (by decide) ?_)); clear hf a; intro a hf
    refine gL hf (g_ldE hf hs (.head _) T3 rfl rfl (by omega)) (by decide) ?_; clear hf a; intro a hf
    refine gL hf (g_as hf rfl) (by decide) ?_; clear hf a; intro a hf
    refine e_nil ?_
    refine c_reg1 ?_
    refine gL hf (g_mv hf rfl) (by decide) ?_; clear hf a; intro a hf
    refine gL hf (g_mv hf rfl) (by decide) ?_; clear hf a; intro a hf
    refine gL hf (g_addI hf rfl rfl (by omega)) (by decide) ?_; clear hf a; intro a hf
    refine gL hf (g_as hf rfl) (by decide) ?_; clear hf a; intro a hf
    refine e_nil1 (q_blkN (q_thenN ?_))
    refine c_reg1 ?_
    refine gL hf (g_addI hf rfl rfl (by omega)) (by decide) ?_; clear hf a; intro a hf
    refine gL hf (g_mv hf rfl) (by decide) ?_; clear hf a; intro a hf
    refine e_nil1 (q_thenN ?_)
    rw [← sumZ_take hc1] at hf
    exact ⟨i + 1, (by omega), (by omega), hf.back (by repeat (first | (with_reducible exact Ext.base) | ((with_reducible refine Ext.cons ?_ ?_); (· rfl)) | ((with_reducible refine Ext.over ?_ ?_ ?_); (· rfl); (· rfl)))) (allKeys rfl) (.cons rfl (.cons rfl .nil)), hs.dropN 0⟩
  · try simp only [decide_eq_true_eq, decide_eq_false_iff_not] at hc1
    have hix : i = l.length := by omega
    subst hix
    rw [List.take_length] at hf
    refine c_exit (q_thenX (q_thenX (q_blkX (q_thenN ?_))))
    refine c_reg ?_
    refine gL hf (g_mv hf rfl) (by decide) ?_; clear hf a; intro a hf
    refine gL hf (g_as hf rfl) (by decide) ?_; clear hf a; intro a hf
    refine e_nil ?_
    refine c_ret ?_
    refine e_ret1 hf rfl rfl ?_
    exact ⟨rfl, hs.below⟩

end Go.Proofs.YtjjcopeedcdokaaDoor

set_option linter.unusedVariables false
set_option linter.unusedSimpArgs false
namespace Go.Proofs.YtjjcopeedcdokaaDoor
open Go.RowKit
theorem c_CheckH (k : Bk) (fA : Option Addr) (fc : Nat) (rA : Option Addr) (rc : Nat) (wA : Option Addr) (wc : Nat) (ge : TypeId) (gz : Nat × Nat)  (w0 : World) (h : BkIn k fA fc rA rc wA wc w0) (hG : BlkIs 1 sidesA ge gz w0) :
    Calls Tryd.prog 33 #[.agg #[.int .i64 k.sh.wide, .int .i64 k.sh.high, .slice fA k.sh.flaps.length fc, .slice rA k.sh.rules.length rc, .int .i64 k.gross, .int .i64 k.pay, .int .i64 k.fine, .slice wA k.ws.length wc]] w0 (Ret w0 (.int .i64 (bookE k))) := by
  refine c_enter (n := 71) Tryd.func33 rfl rfl (Nat.le_of_ble_eq_true rfl) ?_; intro a hf; simp only [zipR] at hf
  have hs := St.start w0 [Rd encF 5 fA k.sh.flaps.length k.sh.flaps, Rd encR 2 rA k.sh.rules.length k.sh.rules, Rd encW 6 wA k.ws.length k.ws, OrdD k.ws, BlkIs 1 sidesA ge gz] (stab_app h.stab hG.st1)
  have hwm := h.W.2.1
  refine c_reg ?_
  refine vL hf (v_boxA hf hs rfl) (by decide) ?_; clear hs hf a; rintro _ w ⟨b1, rfl, hs⟩ a hf
  refine gL hf (g_as hf rfl) (by decide) ?_; clear hf a; intro a hf
  refine e_nil ?_
  refine wp_seq ?_
  refine c_reg ?_
  refine gL hf (g_fa (off' := 0) hf F28_0 rfl rfl) (by decide) ?_; clear hf a; intro a hf
  refine gL hf (g_ldP hf hs T25 rfl (k := 0) rfl rfl) (by decide) ?_; clear hf a; intro a hf
  refine callL hf hs (c_Check k.sh _ _ _ _ _ ⟨hs.rd (.head _), hs.rd (.tail _ (.head _)), h.sh.fc_, h.sh.rc_⟩) rfl rfl rfl E61 (by decide) ?_; clear hs hf a; intro w a hs hf
  refine gL hf (g_neq hf rfl rfl) (by decide) ?_; clear hf a; intro a hf
  refine gL hf (g_mv hf rfl) (by decide) ?_; clear hf a; intro a hf
  refine ggL hf rfl rfl (gyes_f _) (fun hg => g_fa (off' := 4) hf F28_1 rfl rfl) (by decide) ?_; clear hf a; intro a hf
  refine ggL hf rfl rfl (gyes_f _) (fun hg => g_ld hf hs T3 (ev_gv rfl hg) (k := 0) rfl rfl) (by decide) ?_; clear hf a; intro a hf
  refine callG hf hs rfl rfl (gyes_f _) (fun hg => ⟨_, _, _, _, c_inH _ _ _ _, rfl, evs_cons (ev_gv rfl hg) (evs_cons rfl (evs_cons rfl evs_nil)), rfl⟩) E83 (by decide) ?_; clear hs hf a; intro w a hs hf
  refine ggL hf rfl rfl (gyes_f _) (fun hg => g_not hf (ev_gv rfl hg)) (by decide) ?_; clear hf a; intro a hf
  refine gL hf (g_or hf rfl rfl) (by decide) ?_; clear hf a; intro a hf
  refine gL hf (g_mv hf rfl) (by decide) ?_; clear hf a; intro a hf
  refine ggL hf rfl rfl (gyes_f _) (fun hg => g_fa (off' := 5) hf F28_2 rfl rfl) (by decide) ?_; clear hf a; intro a hf
  refine ggL hf rfl rfl (gyes_f _) (fun hg => g_ld hf hs T3 (ev_gv rfl hg) (k := 0) rfl rfl) (by decide) ?_; clear hf a; intro a hf
  refine callG hf hs rfl rfl (gyes_f _) (fun hg => ⟨_, _, _, _, c_inH _ _ _ _, rfl, evs_cons (ev_gv rfl hg) (evs_cons rfl (evs_cons rfl evs_nil)), rfl⟩) E83 (by decide) ?_; clear hs hf a; intro w a hs hf
  refine ggL hf rfl rfl (gyes_f _) (fun hg => g_not hf (ev_gv rfl hg)) (by decide) ?_; clear hf a; intro a hf
  refine gL hf (g_or hf rfl rfl) (by decide) ?_; clear hf a; intro a hf
  refine gL hf (g_mv hf rfl) (by decide) ?_; clear hf a; intro a hf
  refine ggL hf rfl rfl (gyes_f _) (fun hg => g_fa (off' := 6) hf F28_3 rfl rfl) (by decide) ?_; clear hf a; intro a hf
  refine ggL hf rfl rfl (gyes_f _) (fun hg => g_ld hf hs T3 (ev_gv rfl hg) (k := 0) rfl rfl) (by decide) ?_; clear hf a; intro a hf
  refine callG hf hs rfl rfl (gyes_f _) (fun hg => ⟨_, _, _, _, c_inH _ _ _ _, rfl, evs_cons (ev_gv rfl hg) (evs_cons rfl (evs_cons rfl evs_nil)), rfl⟩) E83 (by decide) ?_; clear hs hf a; intro w a hs hf
  refine ggL hf rfl rfl (gyes_f _) (fun hg => g_not hf (ev_gv rfl hg)) (by decide) ?_; clear hf a; intro a hf
  refine gL hf (g_or hf rfl rfl) (by decide) ?_; clear hf a; intro a hf
  refine gL hf (g_mv hf rfl) (by decide) ?_; clear hf a; intro a hf
  refine ggL hf rfl rfl (gyes_f _) (fun hg => g_fa (off' := 7) hf F28_4 rfl rfl) (by decide) ?_; clear hf a; intro a hf
  refine ggL hf rfl rfl (gyes_f _) (fun hg => g_ld hf hs T26 (ev_gv rfl hg) (k := 0) rfl rfl) (by decide) ?_; clear hf a; intro a hf
  refine ggL hf rfl rfl (gyes_f _) (fun hg => g_len hf SL26 (ev_gv rfl hg)) (by decide) ?_; clear hf a; intro a hf
  refine ggL hf rfl rfl (gyes_f _) (fun hg => g_gtr hf (ev_gv rfl hg) rfl) (by decide) ?_; clear hf a; intro a hf
  refine gL hf (g_or hf rfl rfl) (by decide) ?_; clear hf a; intro a hf
  refine e_nil ?_
  refine c_cond hf rfl (fun hc1 => ?_) (fun hc1 => ?_)
  · skip
    rw [base_cond] at hc1
    have hbk : hckB k = false := by rw [hck_eq, show baseK k = false by simpa using hc1]; rfl
    refine c_reg ?_
    refine gL hf (g_as hf rfl) (by decide) ?_; clear hf a; intro a hf
    refine e_nil ?_
    refine c_ret (q_thenR ?_)
    refine e_ret1 hf rfl rfl ?_
    exact ⟨by rw [bookE, hbk]; rfl, hs.below⟩
  · skip
    rw [base_cond] at hc1
    have hbk : baseK k = true := by simpa using hc1
    have hbt := base_true hbk; have hckS := hbt.1; have hwl := hbt.2
    refine c_skip (q_thenN ?_)
    refine wp_seq ?_
    refine c_reg ?_
    refine gL hf (g_fa (off' := 7) hf F28_4 rfl rfl) (by decide) ?_; clear hf a; intro a hf
    refine gL hf (g_ld hf hs T26 rfl (k := 0) rfl rfl) (by decide) ?_; clear hf a; intro a hf
    refine gL hf (g_len hf SL26 rfl) (by decide) ?_; clear hf a; intro a hf
    refine gL hf (g_mv hf rfl) (by decide) ?_; clear hf a; intro a hf
    refine e_nil ?_
    refine c_block ?_
    refine c_loop hf hs (List.range' 2 1 ++ List.range' 4 3 ++ List.range' 38 33) (σ := Nat) (fun i => [(38, .int .i64 (i : Nat))]) (fun i => _) (fun i => i ≤ k.ws.length ∧ okW k i = true) (fun i => k.ws.length - i) 0 ⟨Nat.zero_le _, rfl⟩ (.cons rfl .nil) rfl ?_
    intro i a w hJ hf hs
    obtain ⟨hile, hok⟩ := hJ
    refine c_reg ?_
    refine gL hf (g_lss hf rfl rfl) (by decide) ?_; clear hf a; intro a hf
    refine e_nil ?_
    refine c_condS hf rfl (fun hc2 => ?_) (fun hc2 => ?_)
    · try simp only [decide_eq_true_eq, decide_eq_false_iff_not] at hc2
      have hi : i < k.ws.length := by omega
      refine c_skip (q_thenN ?_)
      refine c_blockS ?_
      refine c_reg ?_
      (first | (refine gL hf (g_ixE hf hs (.tail _ (.tail _ (.head _))) SL26 rfl rfl (by omega)) (by decide) ?_) | (refine gL hf (g_ixD hf hs (.tail _ (.tail _ (.head _))) SL26 rfl rfl (by omega)) (by decide) ?_)); clear hf a; intro a hf
      refine gL hf (g_ldEW hf hs (.tail _ (.tail _ (.head _))) T47 rfl rfl (by omega)) (by decide) ?_; clear hf a; intro a hf
      refine vL hf (v_alloc hs T47 rfl) (by decide) ?_; clear hs hf a; rintro _ w ⟨b2, rfl, hs⟩ a hf
      refine uL (u_stW hf hs T47 rfl rfl rfl (k := 0) rfl rfl rfl) ?_; clear hs; intro w hs; dsimp only [List.set] at hs
      refine e_nil ?_
      refine c_reg ?_
      refine gL hf (g_fa (off' := 0) hf F28_0 rfl rfl) (by decide) ?_; clear hf a; intro a hf
      refine gL hf (g_ldP hf hs T25 rfl (k := 1) rfl rfl) (by decide) ?_; clear hf a; intro a hf
      refine gL hf (g_fa (off' := 1) hf F47_1 rfl rfl) (by decide) ?_; clear hf a; intro a hf
      refine gL hf (g_ld hf hs T31 rfl (k := 0) rfl rfl) (by decide) ?_; clear hf a; intro a hf
      refine callL hf hs (c_Does k.sh _ _ _ _ _ _ (k.ws.getD i default).order ge gz hckS _ ⟨hs.rd (.head _), hs.rd (.tail _ (.head _)), h.sh.fc_, h.sh.rc_⟩ ((hs.rd (.tail _ (.tail _ (.tail _ (.head _))))) _ (getD_mem hi)).2 (hs.rd (.tail _ (.tail _ (.tail _ (.tail _ (.head _))))))) rfl rfl rfl E51 (by decide) ?_; clear hs hf a; intro w a hs hf
      refine gL hf (g_mv hf rfl) (by decide) ?_; clear hf a; intro a hf
      refine gL hf (g_ext hf rfl rfl) (by decide) ?_; clear hf a; intro a hf
      refine gL hf (g_ext hf rfl rfl) (by decide) ?_; clear hf a; intro a hf
      refine gL hf (g_as hf rfl) (by decide) ?_; clear hf a; intro a hf
      refine gL hf (g_as hf rfl) (by decide) ?_; clear hf a; intro a hf
      refine e_nil ?_
      refine c_reg ?_
      refine gL hf (g_mv hf rfl) (by decide) ?_; clear hf a; intro a hf
      refine gL hf (g_neq hf rfl rfl) (by decide) ?_; clear hf a; intro a hf
      refine gL hf (g_mv hf rfl) (by decide) ?_; clear hf a; intro a hf
      refine ggL hf rfl rfl (gyes_f _) (fun hg => g_fa (off' := 0) hf F47_0 rfl rfl) (by decide) ?_; clear hf a; intro a hf
      refine ggL hf rfl rfl (gyes_f _) (fun hg => g_ld hf hs T3 (ev_gv rfl hg) (k := 0) rfl rfl) (by decide) ?_; clear hf a; intro a hf
      refine callG hf hs rfl rfl (gyes_f _) (fun hg => ⟨_, _, _, _, c_inH _ _ _ _, rfl, evs_cons (ev_gv rfl hg) (evs_cons rfl (evs_cons rfl evs_nil)), rfl⟩) E83 (by decide) ?_; clear hs hf a; intro w a hs hf
      refine ggL hf rfl rfl (gyes_f _) (fun hg => g_not hf (ev_gv rfl hg)) (by decide) ?_; clear hf a; intro a hf
      refine gL hf (g_or hf rfl rfl) (by decide) ?_; clear hf a; intro a hf
      refine gL hf (g_mv hf rfl) (by decide) ?_; clear hf a; intro a hf
      refine ggL hf rfl rfl (gyes_f _) (fun hg => g_fa (off' := 2) hf F47_2 rfl rfl) (by decide) ?_; clear hf a; intro a hf
      refine ggL hf rfl rfl (gyes_f _) (fun hg => g_ldP hf hs T40 (ev_gv rfl hg) (k := 0) rfl rfl) (by decide) ?_; clear hf a; intro a hf
      refine callG hf hs rfl rfl (gyes_f _) (fun hg => ⟨_, _, _, _, c_spans _ _ _, rfl, evs_cons (ev_gv rfl hg) evs_nil, rfl⟩) E84 (by decide) ?_; clear hs hf a; intro w a hs hf
      refine ggL hf rfl rfl (gyes_f _) (fun hg => g_not hf (ev_gv rfl hg)) (by decide) ?_; clear hf a; intro a hf
      refine gL hf (g_or hf rfl rfl) (by decide) ?_; clear hf a; intro a hf
      refine gL hf (g_mv hf rfl) (by decide) ?_; clear hf a; intro a hf
      refine ggL hf rfl rfl (gyes_f _) (fun hg => g_fa (off' := 4) hf F47_3 rfl rfl) (by decide) ?_; clear hf a; intro a hf
      refine ggL hf rfl rfl (gyes_f _) (fun hg => g_ldP hf hs T40 (ev_gv rfl hg) (k := 0) rfl rfl) (by decide) ?_; clear hf a; intro a hf
      refine callG hf hs rfl rfl (gyes_f _) (fun hg => ⟨_, _, _, _, c_spans _ _ _, rfl, evs_cons (ev_gv rfl hg) evs_nil, rfl⟩) E84 (by decide) ?_; clear hs hf a; intro w a hs hf
      refine ggL hf rfl rfl (gyes_f _) (fun hg => g_not hf (ev_gv rfl hg)) (by decide) ?_; clear hf a; intro a hf
      refine gL hf (g_or hf rfl rfl) (by decide) ?_; clear hf a; intro a hf
      refine e_nil ?_
      refine c_cond hf rfl (fun hc3 => ?_) (fun hc3 => ?_)
      · skip
        rw [wkr_cond] at hc3
        have hbk2 : hckB k = false := okW_no hi (by simpa using hc3)
        refine c_reg ?_
        refine gL hf (g_as hf rfl) (by decide) ?_; clear hf a; intro a hf
        refine e_nil ?_
        refine c_ret (q_blkR (q_thenR (q_thenR (q_blkR (q_thenR ?_)))))
        refine e_ret1 hf rfl rfl ?_
        exact ⟨by rw [bookE, hbk2]; rfl, hs.below⟩
      · skip
        rw [wkr_cond] at hc3
        have hok2 : okW k (i + 1) = true := by rw [okW_succ hi, hok, show wkrOK k.sh (k.ws.getD i default) = true by simpa using hc3]; rfl
        refine c_skip (q_blkN (q_thenN ?_))
        refine c_reg1 ?_
        refine gL hf (g_addI hf rfl rfl (by omega)) (by decide) ?_; clear hf a; intro a hf
        refine gL hf (g_mv hf rfl) (by decide) ?_; clear hf a; intro a hf
        refine e_nil1 (q_thenN ?_)
        exact ⟨i + 1, ⟨by omega, hok2⟩, (by omega), hf.back (by repeat (first | (with_reducible exact Ext.base) | ((with_reducible refine Ext.cons ?_ ?_); (· rfl)) | ((with_reducible refine Ext.over ?_ ?_ ?_); (· rfl); (· rfl)))) (allKeys rfl) (.cons rfl .nil), hs.dropN 1⟩
    · try simp only [decide_eq_true_eq, decide_eq_false_iff_not] at hc2
      have hix : i = k.ws.length := by omega
      subst hix
      have hbk2 : hckB k = true := by rw [hck_eq, hbk, hok]; rfl
      refine c_exit (q_thenX (q_thenX (q_blkX (q_thenN ?_))))
      refine c_reg ?_
      refine gL hf (g_as hf rfl) (by decide) ?_; clear hf a; intro a hf
      refine e_nil ?_
      refine c_ret ?_
      refine e_ret1 hf rfl rfl ?_
      exact ⟨by rw [bookE, hbk2]; rfl, hs.below⟩

end Go.Proofs.YtjjcopeedcdokaaDoor

set_option linter.unusedVariables false
set_option linter.unusedSimpArgs false
namespace Go.Proofs.YtjjcopeedcdokaaDoor
open Go.RowKit
end Go.Proofs.YtjjcopeedcdokaaDoor

set_option linter.unusedVariables false
set_option linter.unusedSimpArgs false
namespace Go.Proofs.YtjjcopeedcdokaaDoor
open Go.RowKit
end Go.Proofs.YtjjcopeedcdokaaDoor

set_option linter.unusedVariables false
set_option linter.unusedSimpArgs false
namespace Go.Proofs.YtjjcopeedcdokaaDoor
open Go.RowKit
end Go.Proofs.YtjjcopeedcdokaaDoor

set_option linter.unusedVariables false
set_option linter.unusedSimpArgs false
namespace Go.Proofs.YtjjcopeedcdokaaDoor
open Go.RowKit
end Go.Proofs.YtjjcopeedcdokaaDoor

set_option linter.unusedVariables false
set_option linter.unusedSimpArgs false
namespace Go.Proofs.YtjjcopeedcdokaaDoor
open Go.RowKit
end Go.Proofs.YtjjcopeedcdokaaDoor

set_option linter.unusedVariables false
set_option linter.unusedSimpArgs false
namespace Go.Proofs.YtjjcopeedcdokaaDoor
open Go.RowKit
end Go.Proofs.YtjjcopeedcdokaaDoor

set_option linter.unusedVariables false
set_option linter.unusedSimpArgs false
namespace Go.Proofs.YtjjcopeedcdokaaDoor
open Go.RowKit
end Go.Proofs.YtjjcopeedcdokaaDoor

set_option linter.unusedVariables false
set_option linter.unusedSimpArgs false
namespace Go.Proofs.YtjjcopeedcdokaaDoor
open Go.RowKit
end Go.Proofs.YtjjcopeedcdokaaDoor

set_option linter.unusedVariables false
set_option linter.unusedSimpArgs false
namespace Go.Proofs.YtjjcopeedcdokaaDoor
open Go.RowKit

/-- The function value (gf, lb) hands out the values of 'all', one behind the other, unless it is told to stop. -/
def SeqV (P : Program) (gf : Nat) (lb : List Value) {α : Type} (V : α → Value) (all : List α) (Xs : List Nat) (w : World) : Prop :=
  ∀ (l : Nat) (X : List Nat) (J Jx : List α → World → Prop) (W : World),
    Later Xs w W → (∀ i ∈ X, i < w.heap.size → i ∈ Xs) → (∀ i ∈ X, i < W.heap.size) →
    (∀ pre A B, J pre A → Below W.heap.size A B → J pre B) →
    (∀ pre x W1, J pre W1 → Later X W W1 → pre ++ [x] <+: all →
      YieldAt Fence.wide 0 P l #[V x] W1 fun e W' => Later X W1 W' ∧ ((e = .returned (.bool true) ∧ J (pre ++ [x]) W') ∨ (e = .returned (.bool false) ∧ Jx (pre ++ [x]) W'))) →
    J [] W →
    Calls P gf (.func (.yield l) #[] #[] :: lb).toArray W fun e W' => (∃ v, e = .returned v) ∧ Later X W W' ∧ (J all W' ∨ ∃ pre, pre ≠ [] ∧ pre <+: all ∧ Jx pre W')
section
variable {P : Program} {Q : Exit → Act → World → Prop} {a : Act} {n : Nat} {L : Regs} {w : World} {w0 : Base} {Ds : List (World → Prop)} {H : Own}
theorem c_rangeV {α : Type} {V : α → Value} {g : Operand} {p : Nat} {assign body : Code} (hf : Fr [] a n L) (hs : St w0 Ds H w) {gf : Nat} {lb : List Value} (hg : ev L g = some (.func (.func gf) #[] lb.toArray)) (hk : Enters P gf) (hp : p < n)
    {all : List α} (hc : SeqV P gf lb V all (w0.ex ++ ids H) w) {σ τ : Type} (hex : w0.ex = []) (Ip : σ → List α → Prop) (G : σ → List α → Own) (Ix : τ → List α → Prop) (Dx : τ → List α → List (World → Prop)) (Gx : τ → List α → Own) (s0 : σ) (hI0 : Ip s0 []) (hG0 : G s0 [] = H) (hGi : ∀ s pre, ids (G s pre) = ids H) (hGxi : ∀ t pre, ids (Gx t pre) = ids H) (L1 : Value → Regs)
    (hassign : ∀ l v a' W, Fr [] a' n ((p, v) :: L) → assign.wpIn (fen (some l)) 0 P (Exit.then (fun a1 W1 => W1 = W ∧ Fr [] a1 n (L1 v)) (fun _ _ _ => False)) a' W)
    (hbody : ∀ l s pre x W a1 E hE, pre ++ [x] <+: all → Ip s pre → Fr [] a1 n (L1 (V x)) → St (Base.rnd W (ids H) E hE) Ds (G s pre) W →
      body.wpIn (fen (some l)) 0 P (rndQ (fun W' => ∃ s' Ds', St (Base.rnd W (ids H) E hE) Ds' (G s' (pre ++ [x])) W' ∧ Ip s' (pre ++ [x])) (fun W' => ∃ t, St (Base.rnd W (ids H) E hE) (Dx t (pre ++ [x])) (Gx t (pre ++ [x])) W' ∧ Ix t (pre ++ [x]))) a1 W)
    (hdone : ∀ D s a' w', Fr [coll D] a' n L → Ip s all → St w0 Ds (G s all ++ [(D, .deferred (some []))]) w' → Q .normal a' w')
    (hstop : ∀ D t pre a' w', pre ≠ [] → pre <+: all → Ix t pre → Fr [coll D] a' n L → St w0 (Dx t pre ++ Ds) (Gx t pre ++ [(D, .deferred (some []))]) w' → Q .ret a' w') :
    (Code.rangeFunc g #[p] assign body).wp P Q a w := by
  refine (wpIn_wide (n := 0)).1 (wpIn_rangeFunc ?_)
  intro fn _
  have hro : Fence.wide.round = none := rfl
  rw [hro]
  obtain ⟨rec, hrec⟩ : ∃ rec : LoopState → Option Code → Loop, rec = fun st pe => { state := st, pending := pe, fn, tmps := a.tmps, params := #[p], assign, body, defers := w.heap.size } := ⟨_, rfl⟩
  obtain ⟨W1, hW1⟩ : ∃ W1, (w.alloc (.deferred (some []))).alloc (.loop (rec .ready none)) = W1 := ⟨_, rfl⟩
  have hsz : W1.heap.size = w.heap.size + 2 := by rw [← hW1]; simp
  have hL1 : W1.heap[w.heap.size + 1]? = some (.loop (rec .ready none)) := by
    rw [← hW1]; have := World.alloc_heap_new (w.alloc (.deferred (some []))) (.loop (rec .ready none)); rwa [World.size_alloc] at this
  have hK1 : W1.heap[w.heap.size]? = some (.deferred (some [])) := by
    rw [← hW1]; exact (Below.heap_alloc _ _ _ (by simp)).trans (World.alloc_heap_new w _)
  have hb1 : Below w.heap.size w W1 := by rw [← hW1]; exact ((Below.refl _ w).alloc (Nat.le_refl _) _).alloc (by simp) _
  have hlt : ∀ i ∈ ids H, i < w.heap.size := fun i hi => hs.lt' hi
  have hmine : ∀ i ∈ ids H, w0.mine i := fun i hi => by obtain ⟨o, ho⟩ := mem_ids hi; exact (hs.own _ _ ho).1
  have hnd : ∀ G' : Own, ids G' = ids H → (ids G').Nodup := fun G' h => h ▸ hs.nodup
  -- what holds between two rounds
  obtain ⟨JJ, hJJ⟩ : ∃ JJ : Own → Loop → World → Prop, JJ = fun G' r A => w0.rel A ∧ (∀ b o, (b, o) ∈ G' → A.heap[b]? = some o) ∧ Later (w0.ex ++ ids H) w A ∧ A.heap[w.heap.size + 1]? = some (.loop r) ∧ A.heap[w.heap.size]? = some (.deferred (some [])) := ⟨_, rfl⟩
  have hJst : ∀ {G' r A}, ids G' = ids H → JJ G' r A → St w0 Ds G' A := fun {G' r A} hi h => by
    rw [hJJ] at h
    refine ⟨h.1, fun b o hm => ⟨hmine b (hi ▸ ids_mem hm), h.2.1 b o hm⟩, hnd _ hi, fun D hD => ?_⟩
    rw [hi]; exact (hs.data D hD).later h.2.2.1
  have hJB : ∀ {G' r A B}, ids G' = ids H → JJ G' r A → Below W1.heap.size A B → JJ G' r B := fun {G' r A B} hi h hb => by
    rw [hJJ] at h ⊢
    have hle : w.heap.size + 2 ≤ A.heap.size := by
      have := (Array.getElem?_eq_some_iff.1 h.2.2.2.1).1; omega
    refine ⟨w0.closed _ _ h.1 ⟨hb.os, hb.tape, hb.output, hb.size, fun i hi hn => hb.block i ?_⟩, fun b o hm => (hb.block b ?_).trans (h.2.1 b o hm), ⟨Nat.le_trans h.2.2.1.1 hb.size, fun i hi hn => (hb.block i (by omega)).trans (h.2.2.1.2 i hi hn)⟩, (hb.block _ (by omega)).trans h.2.2.2.1, (hb.block _ (by omega)).trans h.2.2.2.2⟩
    · rcases Nat.lt_or_ge i w.heap.size with h1 | h1
      · omega
      · exact absurd (w0.new _ hs.below i h1) hn
    · have := hlt b (hi ▸ ids_mem hm); omega
  refine ⟨w.heap.size + 1, [coll w.heap.size], W1, { target := .fn (.func gf) lb.toArray, args := #[.func (.yield (w.heap.size + 1)) #[] #[]] }, W1, gf,
    (.func (.yield (w.heap.size + 1)) #[] #[] :: lb).toArray, W1, ?_, ?_, fun _ _ => trivial, ?_, fun h => (by cases h), ?_⟩
  · rw [← hW1, hrec]; exact run_enterLoop_outer _ _ _ _ _
  · have := hf.eval hg
    simp [resolve, this, Sem.run_bind, Sem.run_pure, Result.andThen_ok, Deferred.ofValue]
    rfl
  · have := hk (.func (.yield (w.heap.size + 1)) #[] #[] :: lb).toArray W1
    simp only [invoke]
    simpa using this
  · refine callsIn_wide.2 ((hc (w.heap.size + 1) (ids H ++ [w.heap.size, w.heap.size + 1]) (fun pre A => ∃ s, JJ (G s pre) (rec .ready none) A ∧ Ip s pre) (fun pre A => ∃ t, Ix t pre ∧ JJ (Gx t pre) (rec .done (some .ret)) A ∧ ∀ D ∈ Dx t pre, Stable (w.heap.size :: (w.heap.size + 1) :: ids H) A D) W1 (later_of_below hb1 _) ?_ ?_ (fun pre A B h hb => h.elim fun s h => ⟨s, hJB (hGi s pre) h.1 hb, h.2⟩) ?_ ?_).mono ?_)
    · intro i hi hl
      simp only [List.mem_append, List.mem_cons, List.not_mem_nil, or_false] at hi ⊢
      rcases hi with h | h | h
      · exact .inr h
      · omega
      · omega
    · intro i hi
      simp only [List.mem_append, List.mem_cons, List.not_mem_nil, or_false] at hi
      rcases hi with h | h | h
      · have := hlt i h; omega
      · omega
      · omega
    · -- one round
      rintro pre x W ⟨s, hJ, hIp⟩ hlat hpre
      have hst := hJst (hGi s pre) hJ
      have hJ0 := hJ
      rw [hJJ] at hJ
      obtain ⟨j1, j2, j3, j4, j5⟩ := hJ
      have hWl : w.heap.size + 1 < W.heap.size := (Array.getElem?_eq_some_iff.1 j4).1
      have hy : (Instr.yield (w.heap.size + 1) #[V x]).run P W = .ok (.round (w.heap.size + 1) fn (a.tmps.setIfInBounds p (V x)) assign body) W := by
        have := run_yield (P := P) (args := #[V x]) j4 (by rw [hrec]; rfl)
        rw [hrec] at this
        simpa using this
      refine ⟨fn, _, assign, body, hy, roundIn_of_wpIn (F := Fence.wide) trivial ?_⟩
      have hfr : Fr [] { tmps := a.tmps.setIfInBounds p (V x), defers := [] } n ((p, V x) :: L) := ⟨rfl, (hf.put hp (V x)).size, (hf.put hp (V x)).at_⟩
      refine Go.wpIn_mono (F := Fence.wide.inRound (w.heap.size + 1)) (hassign (w.heap.size + 1) _ _ W hfr) ?_
      intro e a1 W' he
      cases e with
      | normal =>
        obtain ⟨hWW, hfa⟩ := he
        subst hWW
        refine ⟨_, run_beginRound j4 (by rw [hrec]), ?_⟩
        obtain ⟨W2, hW2⟩ : ∃ W2, W'.putObj (w.heap.size + 1) (.loop { rec .ready none with state := .busy }) = W2 := ⟨_, rfl⟩
        rw [hW2]
        have hp2 := putObj_eq W' (w.heap.size + 1) (.loop { rec .ready none with state := .busy })
        rw [hW2] at hp2
        have hl2 : W2.heap[w.heap.size + 1]? = some (.loop { rec .ready none with state := .busy }) := by rw [← hW2]; exact World.putObj_heap_same hWl
        have hk2 : W2.heap[w.heap.size]? = some (.deferred (some [])) := (hp2.2 _ (by omega)).trans j5
        have hos2 : W2.os = W'.os ∧ W2.tape = W'.tape ∧ W2.output = W'.output := by rw [← hW2]; exact ⟨rfl, rfl, rfl⟩
        have hlat2 : Later [w.heap.size + 1] W' W2 := ⟨Nat.le_of_eq hp2.1.symm, fun i hi hn => hp2.2 i (fun e => hn (by simp [e]))⟩
        have hE : ∀ i ∈ [w.heap.size, w.heap.size + 1], i < W2.heap.size ∧ i ∉ ids H := fun i hi => by
          simp only [List.mem_cons, List.not_mem_nil, or_false] at hi
          exact ⟨by omega, fun h => by have := hlt i h; omega⟩
        have hst2 : St (Base.rnd W2 (ids H) [w.heap.size, w.heap.size + 1] hE) Ds (G s pre) W2 := by
          refine ⟨⟨rfl, rfl, rfl, Later.refl _ _⟩, fun b o hm => ⟨.inl (hGi s pre ▸ ids_mem hm), (hp2.2 b ?_).trans (j2 b o hm)⟩, hnd _ (hGi s pre), fun D hD => ?_⟩
          · have := hlt b (hGi s pre ▸ ids_mem hm); omega
          · rw [hGi]
            · skip
              have h0 := (hs.data D hD).more (ids' := w0.ex ++ (w.heap.size :: (w.heap.size + 1) :: ids H)) fun i hi hl => by
                simp only [List.mem_append, List.mem_cons] at hi ⊢
                rcases hi with h | h | h | h
                · exact .inl h
                · omega
                · omega
                · exact .inr h
              have h1 := h0.later (b := W2) ⟨Nat.le_trans j3.1 hlat2.1, fun i hi hn => (hp2.2 i (by omega)).trans (j3.2 i hi fun h => hn (by
                rcases List.mem_append.1 h with h | h
                · exact List.mem_append_left _ h
                · simp [h]))⟩
              exact h1.sub fun i hi => List.mem_append_right _ (by simpa [Base.rnd] using hi)
        refine Go.wpIn_mono (F := Fence.wide.inRound (w.heap.size + 1)) (hbody (w.heap.size + 1) s pre x W2 a1 _ hE hpre hIp hfa hst2) ?_
        have fin : ∀ (jump : Option Code) (G' : Own) (Ds' : List (World → Prop)) (W3 : World), ids G' = ids H → St (Base.rnd W2 (ids H) [w.heap.size, w.heap.size + 1] hE) Ds' G' W3 →
            (Instr.endRound (w.heap.size + 1) jump).run P W3 = .ok (.bool jump.isNone) (W3.putObj (w.heap.size + 1) (.loop (rec (if jump.isNone then .ready else .done) jump))) ∧
            Later (ids H ++ [w.heap.size, w.heap.size + 1]) W' (W3.putObj (w.heap.size + 1) (.loop (rec (if jump.isNone then .ready else .done) jump))) ∧
            JJ G' (rec (if jump.isNone then .ready else .done) jump) (W3.putObj (w.heap.size + 1) (.loop (rec (if jump.isNone then .ready else .done) jump))) := by
          intro jump G' Ds' W3 hi h3
          obtain ⟨k1, k2, k3, k4⟩ := h3.below
          have hl3 : W3.heap[w.heap.size + 1]? = some (.loop { rec .ready none with state := .busy }) := (k4.2 _ (by omega) (fun h => by have := hlt _ h; omega)).trans hl2
          have hk3 : W3.heap[w.heap.size]? = some (.deferred (some [])) := (k4.2 _ (by omega) (fun h => by have := hlt _ h; omega)).trans hk2
          have h4 := run_endRound (P := P) jump hl3
          rw [hrec] at h4
          obtain ⟨W4, hW4⟩ : ∃ W4, W3.putObj (w.heap.size + 1) (.loop (rec (if jump.isNone then .ready else .done) jump)) = W4 := ⟨_, rfl⟩
          have hp4 := putObj_eq W3 (w.heap.size + 1) (.loop (rec (if jump.isNone then .ready else .done) jump))
          have hl4 : (W3.putObj (w.heap.size + 1) (.loop (rec (if jump.isNone then .ready else .done) jump))).heap[w.heap.size + 1]? = some (.loop (rec (if jump.isNone then .ready else .done) jump)) := World.putObj_heap_same (Array.getElem?_eq_some_iff.1 hl3).1
          have hos4 : W4.os = W3.os ∧ W4.tape = W3.tape ∧ W4.output = W3.output := by rw [← hW4]; exact ⟨rfl, rfl, rfl⟩
          have hsz3 : W2.heap.size ≤ W3.heap.size := k4.1
          rw [hW4] at hp4 hl4 ⊢
          have hall : ∀ i, i < W'.heap.size → i ∉ ids H → i ≠ w.heap.size + 1 → W4.heap[i]? = W'.heap[i]? := fun i hi hn hne => (hp4.2 i hne).trans ((k4.2 i (by omega) hn).trans (hp2.2 i hne))
          refine ⟨by rw [← hW4, hrec]; exact h4, ⟨by omega, fun i hi hn => hall i hi (fun h => hn (by simp [h])) (fun h => hn (by simp [h]))⟩, ?_⟩
          rw [hJJ]
          refine ⟨w0.closed _ _ j1 ⟨hos4.1.trans (k1.trans hos2.1), hos4.2.1.trans (k2.trans hos2.2.1), hos4.2.2.trans (k3.trans hos2.2.2), by omega, fun i hi hn => hall i hi (fun h => hn (hmine i h)) (fun h => hn (w0.new _ hs.below i (by omega)))⟩, fun b o hm => (hp4.2 b ?_).trans (h3.own b o hm).2, ⟨by have := j3.1; omega, fun i hi hn => (hall i (by have := j3.1; omega) (fun h => hn (List.mem_append_right _ h)) (by omega)).trans (j3.2 i hi hn)⟩, hl4, (hp4.2 _ (by omega)).trans hk3⟩
          have := hlt b (hi ▸ ids_mem hm); omega
        intro e a3 W3 he
        cases e with
        | normal =>
          obtain ⟨s', Ds', h3, h3I⟩ := he
          obtain ⟨h4, h5, h6⟩ := fin none _ Ds' W3 (hGi _ _) h3
          exact ⟨_, _, h4, h5, .inl ⟨rfl, s', h6, h3I⟩⟩
        | ret =>
          obtain ⟨t, h3, h3I⟩ := he
          obtain ⟨h4, h5, h6⟩ := fin (some .ret) _ _ W3 (hGxi _ _) h3
          refine ⟨_, _, h4, h5, .inr ⟨rfl, t, h3I, h6, fun D hD => ?_⟩⟩
          have h7 := h3.data D hD
          rw [hGxi] at h7
          have hp4 := putObj_eq W3 (w.heap.size + 1) (.loop (rec (if (some Code.ret).isNone then .ready else .done) (some .ret)))
          exact h7.later ⟨by omega, fun i hi hn => hp4.2 i fun e => hn (by simp [Base.rnd, e])⟩
        | _ => exact he.elim
      | _ => exact he.elim
    · refine ⟨s0, ?_, hI0⟩
      show JJ (G s0 []) _ W1
      rw [hJJ, hG0]
      exact ⟨w0.closed _ _ hs.below (turns_of_below hb1), fun b o hm => (hb1.block b (hs.lt hm)).trans (hs.own b o hm).2, later_of_below hb1 _, hL1, hK1⟩
    · -- behind the iterator
      rintro e W2 ⟨⟨v, rfl⟩, hlat, hj⟩
      have endl : ∀ (G' : Own) (r : Loop) (pe : Option Code), ids G' = ids H → r.state ≠ .busy → r.pending = pe → JJ G' r W2 → ∃ W3, (Instr.endLoop (w.heap.size + 1)).run P W2 = .ok pe W3 ∧ Later [w.heap.size + 1] W2 W3 ∧ St w0 Ds (G' ++ [(w.heap.size, .deferred (some []))]) W3 := by
        intro G' r pe hi hb hpe h
        have hst := hJst hi h
        rw [hJJ] at h
        obtain ⟨j1, j2, j3, j4, j5⟩ := h
        have h1 := run_endLoop (P := P) j4 hb
        subst hpe
        refine ⟨_, h1, ⟨by rw [(putObj_eq _ _ _).1]; exact Nat.le_refl _, fun i _ hn => (putObj_eq W2 (w.heap.size + 1) _).2 i (fun e => hn (by simp [e]))⟩, ?_⟩
        obtain ⟨W3, hW3⟩ : ∃ W3, W2.putObj (w.heap.size + 1) (.loop { r with state := .exhausted }) = W3 := ⟨_, rfl⟩
        have hp3 := putObj_eq W2 (w.heap.size + 1) (.loop { r with state := .exhausted })
        rw [hW3] at hp3 ⊢
        have hos3 : W3.os = W2.os ∧ W3.tape = W2.tape ∧ W3.output = W2.output := by rw [← hW3]; exact ⟨rfl, rfl, rfl⟩
        have hids : ids (G' ++ [(w.heap.size, Obj.deferred (some []))]) = ids H ++ [w.heap.size] := by simp [ids, ← hi]
        have hW2l : w.heap.size + 1 < W2.heap.size := (Array.getElem?_eq_some_iff.1 j4).1
        refine ⟨w0.closed _ _ j1 ⟨hos3.1, hos3.2.1, hos3.2.2, by omega, fun i hi' hn => hp3.2 i fun e => hn (w0.new _ hs.below i (by omega))⟩, fun b o hm => ?_, ?_, fun D hD => ?_⟩
        · rcases List.mem_append.1 hm with hm | hm
          · have := hlt b (hi ▸ ids_mem hm)
            exact ⟨hmine b (hi ▸ ids_mem hm), (hp3.2 b (by omega)).trans (j2 b o hm)⟩
          · rcases List.mem_singleton.1 hm with e
            cases e
            exact ⟨w0.new _ hs.below _ (Nat.le_refl _), (hp3.2 _ (by omega)).trans j5⟩
        · rw [hids, List.nodup_append]
          refine ⟨hs.nodup, by simp, fun x hx y hy e => ?_⟩
          have := hlt x hx
          simp at hy; omega
        · rw [hids]
          have h2 := ((hs.data D hD).more (ids' := w0.ex ++ (ids H ++ [w.heap.size])) fun i hi' hl => ?_).later (b := W3) ⟨by have := j3.1; omega, fun i hi' hn => (hp3.2 i (by omega)).trans (j3.2 i hi' fun h => hn ?_)⟩
          · exact h2
          · simp only [List.mem_append, List.mem_singleton] at hi' ⊢
            rcases hi' with h | h | h
            · exact .inl h
            · exact .inr h
            · omega
          · simp only [List.mem_append, List.mem_singleton] at h ⊢
            rcases h with h | h
            · exact .inl h
            · exact .inr (.inl h)
      have hfD : Fr [coll w.heap.size] { a with defers := [coll w.heap.size] ++ a.defers } n L := ⟨by simp [hf.defers], hf.size, hf.at_⟩
      rcases hj with ⟨s, hj, hIp⟩ | ⟨pre, hne, hpre, t, hIx, hj, hjD⟩
      · obtain ⟨W3, h1, _, h2⟩ := endl _ _ none (hGi _ _) (by rw [hrec]; simp) (by rw [hrec]) hj
        exact ⟨none, W3, h1, hdone _ _ _ _ hfD hIp h2⟩
      · obtain ⟨W3, h1, hL3, h2⟩ := endl _ _ (some .ret) (hGxi _ _) (by rw [hrec]; simp) (by rw [hrec]) hj
        refine ⟨some .ret, W3, h1, wpIn_ret (hstop _ t pre _ _ hne hpre hIx hfD ⟨h2.below, h2.own, h2.nodup, fun D hD => ?_⟩)⟩
        rcases List.mem_append.1 hD with hD | hD
        · have h7 := (hjD D hD).later (b := W3) ⟨hL3.1, fun i hi hn => hL3.2 i hi fun h => hn (by rw [List.mem_singleton.1 h]; simp)⟩
          refine h7.sub fun i hi => ?_
          rw [hex] at hi
          simp only [List.nil_append, ids, List.map_append, List.map_cons, List.map_nil, List.mem_append, List.mem_singleton] at hi
          rcases hi with h | h
          · have : i ∈ ids H := by rw [← hGxi t pre]; exact h
            simp [this]
          · simp [h]
        · exact h2.data D hD
theorem c_rangeVS {α : Type} {V : α → Value} {g : Operand} {p : Nat} {body : Code} (hf : Fr [] a n L) (hs : St w0 Ds H w) {gf : Nat} {lb : List Value} (hg : ev L g = some (.func (.func gf) #[] lb.toArray)) (hk : Enters P gf) (hp : p < n)
    {all : List α} (hc : SeqV P gf lb V all (w0.ex ++ ids H) w) {σ τ : Type} (hex : w0.ex = []) (Ip : σ → List α → Prop) (G : σ → List α → Own) (Ix : τ → List α → Prop) (Dx : τ → List α → List (World → Prop)) (Gx : τ → List α → Own) (s0 : σ) (hI0 : Ip s0 []) (hG0 : G s0 [] = H) (hGi : ∀ s pre, ids (G s pre) = ids H) (hGxi : ∀ t pre, ids (Gx t pre) = ids H)
    (hbody : ∀ l s pre x W a1 E hE, pre ++ [x] <+: all → Ip s pre → Fr [] a1 n ((p, V x) :: L) → St (Base.rnd W (ids H) E hE) Ds (G s pre) W →
      body.wpIn (fen (some l)) 0 P (rndQ (fun W' => ∃ s' Ds', St (Base.rnd W (ids H) E hE) Ds' (G s' (pre ++ [x])) W' ∧ Ip s' (pre ++ [x])) (fun W' => ∃ t, St (Base.rnd W (ids H) E hE) (Dx t (pre ++ [x])) (Gx t (pre ++ [x])) W' ∧ Ix t (pre ++ [x]))) a1 W)
    (hdone : ∀ D s a' w', Fr [coll D] a' n L → Ip s all → St w0 Ds (G s all ++ [(D, .deferred (some []))]) w' → Q .normal a' w')
    (hstop : ∀ D t pre a' w', pre ≠ [] → pre <+: all → Ix t pre → Fr [coll D] a' n L → St w0 (Dx t pre ++ Ds) (Gx t pre ++ [(D, .deferred (some []))]) w' → Q .ret a' w') :
    (Code.rangeFunc g #[p] .skip body).wp P Q a w :=
  c_rangeV hf hs hg hk hp hc hex Ip G Ix Dx Gx s0 hI0 hG0 hGi hGxi (fun v => (p, v) :: L) (fun l v a W hf => r_skip ⟨rfl, hf⟩) hbody hdone hstop
theorem c_rangeVW {α : Type} {V : α → Value} {g : Operand} {p : Nat} {assign body : Code} (hf : Fr [] a n L) (hs : St w0 Ds H w) {gf : Nat} {lb : List Value} (hg : ev L g = some (.func (.func gf) #[] lb.toArray)) (hk : Enters P gf) (hp : p < n)
    {all : List α} (hc : SeqV P gf lb V all (w0.ex ++ ids H) w) {σ τ : Type} (hex : w0.ex = []) (Ip : σ → List α → Prop) (G : σ → List α → Own) (Ix : τ → List α → Prop) (Dx : τ → List α → List (World → Prop)) (Gx : τ → List α → Own) (s0 : σ) (hI0 : Ip s0 []) (hG0 : G s0 [] = H) (hGi : ∀ s pre, ids (G s pre) = ids H) (hGxi : ∀ t pre, ids (Gx t pre) = ids H) (L1 : Nat → α → Regs) (O : α → Obj)
    (hassign : ∀ l x a' W, Fr [] a' n ((p, V x) :: L) → assign.wpIn (fen (some l)) 0 P (Exit.then (fun a1 W1 => ∃ b, Below W.heap.size W W1 ∧ W.heap.size ≤ b ∧ W1.heap[b]? = some (O x) ∧ Fr [] a1 n (L1 b x)) (fun _ _ _ => False)) a' W)
    (hbody : ∀ l s pre x W W2 b a1 E hE, pre ++ [x] <+: all → Ip s pre → Fr [] a1 n (L1 b x) → St (Base.rnd W (ids H) E hE) Ds ((b, O x) :: G s pre) W2 →
      body.wpIn (fen (some l)) 0 P (rndQ (fun W' => ∃ s' Ds', St (Base.rnd W (ids H) E hE) Ds' (G s' (pre ++ [x])) W' ∧ Ip s' (pre ++ [x])) (fun W' => ∃ t, St (Base.rnd W (ids H) E hE) (Dx t (pre ++ [x])) (Gx t (pre ++ [x])) W' ∧ Ix t (pre ++ [x]))) a1 W2)
    (hdone : ∀ D s a' w', Fr [coll D] a' n L → Ip s all → St w0 Ds (G s all ++ [(D, .deferred (some []))]) w' → Q .normal a' w')
    (hstop : ∀ D t pre a' w', pre ≠ [] → pre <+: all → Ix t pre → Fr [coll D] a' n L → St w0 (Dx t pre ++ Ds) (Gx t pre ++ [(D, .deferred (some []))]) w' → Q .ret a' w') :
    (Code.rangeFunc g #[p] assign body).wp P Q a w := by
  refine (wpIn_wide (n := 0)).1 (wpIn_rangeFunc ?_)
  intro fn _
  have hro : Fence.wide.round = none := rfl
  rw [hro]
  obtain ⟨rec, hrec⟩ : ∃ rec : LoopState → Option Code → Loop, rec = fun st pe => { state := st, pending := pe, fn, tmps := a.tmps, params := #[p], assign, body, defers := w.heap.size } := ⟨_, rfl⟩
  obtain ⟨W1, hW1⟩ : ∃ W1, (w.alloc (.deferred (some []))).alloc (.loop (rec .ready none)) = W1 := ⟨_, rfl⟩
  have hsz : W1.heap.size = w.heap.size + 2 := by rw [← hW1]; simp
  have hL1 : W1.heap[w.heap.size + 1]? = some (.loop (rec .ready none)) := by
    rw [← hW1]; have := World.alloc_heap_new (w.alloc (.deferred (some []))) (.loop (rec .ready none)); rwa [World.size_alloc] at this
  have hK1 : W1.heap[w.heap.size]? = some (.deferred (some [])) := by
    rw [← hW1]; exact (Below.heap_alloc _ _ _ (by simp)).trans (World.alloc_heap_new w _)
  have hb1 : Below w.heap.size w W1 := by rw [← hW1]; exact ((Below.refl _ w).alloc (Nat.le_refl _) _).alloc (by simp) _
  have hlt : ∀ i ∈ ids H, i < w.heap.size := fun i hi => hs.lt' hi
  have hmine : ∀ i ∈ ids H, w0.mine i := fun i hi => by obtain ⟨o, ho⟩ := mem_ids hi; exact (hs.own _ _ ho).1
  have hnd : ∀ G' : Own, ids G' = ids H → (ids G').Nodup := fun G' h => h ▸ hs.nodup
  -- what holds between two rounds
  obtain ⟨JJ, hJJ⟩ : ∃ JJ : Own → Loop → World → Prop, JJ = fun G' r A => w0.rel A ∧ (∀ b o, (b, o) ∈ G' → A.heap[b]? = some o) ∧ Later (w0.ex ++ ids H) w A ∧ A.heap[w.heap.size + 1]? = some (.loop r) ∧ A.heap[w.heap.size]? = some (.deferred (some [])) := ⟨_, rfl⟩
  have hJst : ∀ {G' r A}, ids G' = ids H → JJ G' r A → St w0 Ds G' A := fun {G' r A} hi h => by
    rw [hJJ] at h
    refine ⟨h.1, fun b o hm => ⟨hmine b (hi ▸ ids_mem hm), h.2.1 b o hm⟩, hnd _ hi, fun D hD => ?_⟩
    rw [hi]; exact (hs.data D hD).later h.2.2.1
  have hJB : ∀ {G' r A B}, ids G' = ids H → JJ G' r A → Below W1.heap.size A B → JJ G' r B := fun {G' r A B} hi h hb => by
    rw [hJJ] at h ⊢
    have hle : w.heap.size + 2 ≤ A.heap.size := by
      have := (Array.getElem?_eq_some_iff.1 h.2.2.2.1).1; omega
    refine ⟨w0.closed _ _ h.1 ⟨hb.os, hb.tape, hb.output, hb.size, fun i hi hn => hb.block i ?_⟩, fun b o hm => (hb.block b ?_).trans (h.2.1 b o hm), ⟨Nat.le_trans h.2.2.1.1 hb.size, fun i hi hn => (hb.block i (by omega)).trans (h.2.2.1.2 i hi hn)⟩, (hb.block _ (by omega)).trans h.2.2.2.1, (hb.block _ (by omega)).trans h.2.2.2.2⟩
    · rcases Nat.lt_or_ge i w.heap.size with h1 | h1
      · omega
      · exact absurd (w0.new _ hs.below i h1) hn
    · have := hlt b (hi ▸ ids_mem hm); omega
  refine ⟨w.heap.size + 1, [coll w.heap.size], W1, { target := .fn (.func gf) lb.toArray, args := #[.func (.yield (w.heap.size + 1)) #[] #[]] }, W1, gf,
    (.func (.yield (w.heap.size + 1)) #[] #[] :: lb).toArray, W1, ?_, ?_, fun _ _ => trivial, ?_, fun h => (by cases h), ?_⟩
  · rw [← hW1, hrec]; exact run_enterLoop_outer _ _ _ _ _
  · have := hf.eval hg
    simp [resolve, this, Sem.run_bind, Sem.run_pure, Result.andThen_ok, Deferred.ofValue]
    rfl
  · have := hk (.func (.yield (w.heap.size + 1)) #[] #[] :: lb).toArray W1
    simp only [invoke]
    simpa using this
  · refine callsIn_wide.2 ((hc (w.heap.size + 1) (ids H ++ [w.heap.size, w.heap.size + 1]) (fun pre A => ∃ s, JJ (G s pre) (rec .ready none) A ∧ Ip s pre) (fun pre A => ∃ t, Ix t pre ∧ JJ (Gx t pre) (rec .done (some .ret)) A ∧ ∀ D ∈ Dx t pre, Stable (w.heap.size :: (w.heap.size + 1) :: ids H) A D) W1 (later_of_below hb1 _) ?_ ?_ (fun pre A B h hb => h.elim fun s h => ⟨s, hJB (hGi s pre) h.1 hb, h.2⟩) ?_ ?_).mono ?_)
    · intro i hi hl
      simp only [List.mem_append, List.mem_cons, List.not_mem_nil, or_false] at hi ⊢
      rcases hi with h | h | h
      · exact .inr h
      · omega
      · omega
    · intro i hi
      simp only [List.mem_append, List.mem_cons, List.not_mem_nil, or_false] at hi
      rcases hi with h | h | h
      · have := hlt i h; omega
      · omega
      · omega
    · -- one round
      rintro pre x W ⟨s, hJ, hIp⟩ hlat hpre
      have hst := hJst (hGi s pre) hJ
      have hJ0 := hJ
      rw [hJJ] at hJ
      obtain ⟨j1, j2, j3, j4, j5⟩ := hJ
      have hWl : w.heap.size + 1 < W.heap.size := (Array.getElem?_eq_some_iff.1 j4).1
      have hy : (Instr.yield (w.heap.size + 1) #[V x]).run P W = .ok (.round (w.heap.size + 1) fn (a.tmps.setIfInBounds p (V x)) assign body) W := by
        have := run_yield (P := P) (args := #[V x]) j4 (by rw [hrec]; rfl)
        rw [hrec] at this
        simpa using this
      refine ⟨fn, _, assign, body, hy, roundIn_of_wpIn (F := Fence.wide) trivial ?_⟩
      have hfr : Fr [] { tmps := a.tmps.setIfInBounds p (V x), defers := [] } n ((p, V x) :: L) := ⟨rfl, (hf.put hp (V x)).size, (hf.put hp (V x)).at_⟩
      refine Go.wpIn_mono (F := Fence.wide.inRound (w.heap.size + 1)) (hassign (w.heap.size + 1) x _ W hfr) ?_
      intro e a1 W' he
      cases e with
      | normal =>
        obtain ⟨bn, hbw, hbn, hbo, hfa⟩ := he
        have hloop1 : W'.heap[w.heap.size + 1]? = some (.loop (rec .ready none)) := (hbw.block _ hWl).trans j4
        refine ⟨_, run_beginRound hloop1 (by rw [hrec]), ?_⟩
        have hWl' : w.heap.size + 1 < W'.heap.size := (Array.getElem?_eq_some_iff.1 hloop1).1
        obtain ⟨W2, hW2⟩ : ∃ W2, W.putObj (w.heap.size + 1) (.loop { rec .ready none with state := .busy }) = W2 := ⟨_, rfl⟩
        obtain ⟨W2a, hW2a⟩ : ∃ W2a, W'.putObj (w.heap.size + 1) (.loop { rec .ready none with state := .busy }) = W2a := ⟨_, rfl⟩
        rw [hW2a]
        have hp2 := putObj_eq W (w.heap.size + 1) (.loop { rec .ready none with state := .busy })
        rw [hW2] at hp2
        have hp2a := putObj_eq W' (w.heap.size + 1) (.loop { rec .ready none with state := .busy })
        rw [hW2a] at hp2a
        have hl2 : W2.heap[w.heap.size + 1]? = some (.loop { rec .ready none with state := .busy }) := by rw [← hW2]; exact World.putObj_heap_same hWl
        have hl2a : W2a.heap[w.heap.size + 1]? = some (.loop { rec .ready none with state := .busy }) := by rw [← hW2a]; exact World.putObj_heap_same hWl'
        have hk2 : W2.heap[w.heap.size]? = some (.deferred (some [])) := (hp2.2 _ (by omega)).trans j5
        have hos2 : W2.os = W.os ∧ W2.tape = W.tape ∧ W2.output = W.output := by rw [← hW2]; exact ⟨rfl, rfl, rfl⟩
        have hos2a : W2a.os = W'.os ∧ W2a.tape = W'.tape ∧ W2a.output = W'.output := by rw [← hW2a]; exact ⟨rfl, rfl, rfl⟩
        have hszb : W.heap.size ≤ W'.heap.size := hbw.size
        have hE : ∀ i ∈ [w.heap.size, w.heap.size + 1], i < W2.heap.size ∧ i ∉ ids H := fun i hi => by
          simp only [List.mem_cons, List.not_mem_nil, or_false] at hi
          exact ⟨by omega, fun h => by have := hlt i h; omega⟩
        have hold : ∀ i, i < W.heap.size → i ≠ w.heap.size + 1 → W2a.heap[i]? = W.heap[i]? := fun i hi hne => (hp2a.2 i hne).trans (hbw.block i hi)
        have hst2 : St (Base.rnd W2 (ids H) [w.heap.size, w.heap.size + 1] hE) Ds ((bn, O x) :: G s pre) W2a := by
          refine ⟨⟨hos2a.1.trans (hbw.os.trans hos2.1.symm), hos2a.2.1.trans (hbw.tape.trans hos2.2.1.symm), hos2a.2.2.trans (hbw.output.trans hos2.2.2.symm), by omega, fun i hi hn => ?_⟩, fun b o hm => ?_, ?_, fun D hD => ?_⟩
          · by_cases hil : i = w.heap.size + 1
            · subst hil; rw [hl2, hl2a]
            · exact (hold i (by omega) hil).trans (hp2.2 i hil).symm
          · rcases List.mem_cons.1 hm with e | hm
            · cases e
              exact ⟨.inr (by omega), (hp2a.2 _ (by omega)).trans hbo⟩
            · have hb1 := hlt b (hGi s pre ▸ ids_mem hm)
              exact ⟨.inl (hGi s pre ▸ ids_mem hm), (hold b (by omega) (by omega)).trans (j2 b o hm)⟩
          · simp only [ids, List.map_cons, List.nodup_cons]
            refine ⟨fun h => ?_, hnd _ (hGi s pre)⟩
            have h9 : bn ∈ ids H := hGi s pre ▸ h
            have := hlt bn h9; omega
          · have h0 := (hs.data D hD).more (ids' := w0.ex ++ (w.heap.size :: (w.heap.size + 1) :: bn :: ids H)) fun i hi hl => by
              simp only [List.mem_append, List.mem_cons] at hi ⊢
              rcases hi with h | h | h | h | h
              · exact .inl h
              · omega
              · omega
              · omega
              · exact .inr h
            have h1 := h0.later (b := W2a) ⟨by have := j3.1; omega, fun i hi hn => (hold i (by have := j3.1; omega) (by omega)).trans (j3.2 i hi fun h => hn (by
              rcases List.mem_append.1 h with h | h
              · exact List.mem_append_left _ h
              · simp [h]))⟩
            refine h1.sub fun i hi => List.mem_append_right _ ?_
            have hG9 : ids ((bn, O x) :: G s pre) = bn :: ids H := by rw [← hGi s pre]; rfl
            rw [hG9] at hi
            simpa [Base.rnd] using hi
        refine Go.wpIn_mono (F := Fence.wide.inRound (w.heap.size + 1)) (hbody (w.heap.size + 1) s pre x W2 W2a bn a1 _ hE hpre hIp hfa hst2) ?_
        have fin : ∀ (jump : Option Code) (G' : Own) (Ds' : List (World → Prop)) (W3 : World), ids G' = ids H → St (Base.rnd W2 (ids H) [w.heap.size, w.heap.size + 1] hE) Ds' G' W3 →
            (Instr.endRound (w.heap.size + 1) jump).run P W3 = .ok (.bool jump.isNone) (W3.putObj (w.heap.size + 1) (.loop (rec (if jump.isNone then .ready else .done) jump))) ∧
            Later (ids H ++ [w.heap.size, w.heap.size + 1]) W (W3.putObj (w.heap.size + 1) (.loop (rec (if jump.isNone then .ready else .done) jump))) ∧
            JJ G' (rec (if jump.isNone then .ready else .done) jump) (W3.putObj (w.heap.size + 1) (.loop (rec (if jump.isNone then .ready else .done) jump))) := by
          intro jump G' Ds' W3 hi h3
          obtain ⟨k1, k2, k3, k4⟩ := h3.below
          have hl3 : W3.heap[w.heap.size + 1]? = some (.loop { rec .ready none with state := .busy }) := (k4.2 _ (by omega) (fun h => by have := hlt _ h; omega)).trans hl2
          have hk3 : W3.heap[w.heap.size]? = some (.deferred (some [])) := (k4.2 _ (by omega) (fun h => by have := hlt _ h; omega)).trans hk2
          have h4 := run_endRound (P := P) jump hl3
          rw [hrec] at h4
          obtain ⟨W4, hW4⟩ : ∃ W4, W3.putObj (w.heap.size + 1) (.loop (rec (if jump.isNone then .ready else .done) jump)) = W4 := ⟨_, rfl⟩
          have hp4 := putObj_eq W3 (w.heap.size + 1) (.loop (rec (if jump.isNone then .ready else .done) jump))
          have hl4 : (W3.putObj (w.heap.size + 1) (.loop (rec (if jump.isNone then .ready else .done) jump))).heap[w.heap.size + 1]? = some (.loop (rec (if jump.isNone then .ready else .done) jump)) := World.putObj_heap_same (Array.getElem?_eq_some_iff.1 hl3).1
          have hos4 : W4.os = W3.os ∧ W4.tape = W3.tape ∧ W4.output = W3.output := by rw [← hW4]; exact ⟨rfl, rfl, rfl⟩
          have hsz3 : W2.heap.size ≤ W3.heap.size := k4.1
          rw [hW4] at hp4 hl4 ⊢
          have hall : ∀ i, i < W.heap.size → i ∉ ids H → i ≠ w.heap.size + 1 → W4.heap[i]? = W.heap[i]? := fun i hi hn hne => (hp4.2 i hne).trans ((k4.2 i (by omega) hn).trans (hp2.2 i hne))
          refine ⟨by rw [← hW4, hrec]; exact h4, ⟨by omega, fun i hi hn => hall i hi (fun h => hn (by simp [h])) (fun h => hn (by simp [h]))⟩, ?_⟩
          rw [hJJ]
          refine ⟨w0.closed _ _ j1 ⟨hos4.1.trans (k1.trans hos2.1), hos4.2.1.trans (k2.trans hos2.2.1), hos4.2.2.trans (k3.trans hos2.2.2), by omega, fun i hi hn => hall i hi (fun h => hn (hmine i h)) (fun h => hn (w0.new _ hs.below i (by omega)))⟩, fun b o hm => (hp4.2 b ?_).trans (h3.own b o hm).2, ⟨by have := j3.1; omega, fun i hi hn => (hall i (by have := j3.1; omega) (fun h => hn (List.mem_append_right _ h)) (by omega)).trans (j3.2 i hi hn)⟩, hl4, (hp4.2 _ (by omega)).trans hk3⟩
          have := hlt b (hi ▸ ids_mem hm); omega
        intro e a3 W3 he
        cases e with
        | normal =>
          obtain ⟨s', Ds', h3, h3I⟩ := he
          obtain ⟨h4, h5, h6⟩ := fin none _ Ds' W3 (hGi _ _) h3
          exact ⟨_, _, h4, h5, .inl ⟨rfl, s', h6, h3I⟩⟩
        | ret =>
          obtain ⟨t, h3, h3I⟩ := he
          obtain ⟨h4, h5, h6⟩ := fin (some .ret) _ _ W3 (hGxi _ _) h3
          refine ⟨_, _, h4, h5, .inr ⟨rfl, t, h3I, h6, fun D hD => ?_⟩⟩
          have h7 := h3.data D hD
          rw [hGxi] at h7
          have hp4 := putObj_eq W3 (w.heap.size + 1) (.loop (rec (if (some Code.ret).isNone then .ready else .done) (some .ret)))
          exact h7.later ⟨by omega, fun i hi hn => hp4.2 i fun e => hn (by simp [Base.rnd, e])⟩
        | _ => exact he.elim
      | _ => exact he.elim
    · refine ⟨s0, ?_, hI0⟩
      show JJ (G s0 []) _ W1
      rw [hJJ, hG0]
      exact ⟨w0.closed _ _ hs.below (turns_of_below hb1), fun b o hm => (hb1.block b (hs.lt hm)).trans (hs.own b o hm).2, later_of_below hb1 _, hL1, hK1⟩
    · -- behind the iterator
      rintro e W2 ⟨⟨v, rfl⟩, hlat, hj⟩
      have endl : ∀ (G' : Own) (r : Loop) (pe : Option Code), ids G' = ids H → r.state ≠ .busy → r.pending = pe → JJ G' r W2 → ∃ W3, (Instr.endLoop (w.heap.size + 1)).run P W2 = .ok pe W3 ∧ Later [w.heap.size + 1] W2 W3 ∧ St w0 Ds (G' ++ [(w.heap.size, .deferred (some []))]) W3 := by
        intro G' r pe hi hb hpe h
        have hst := hJst hi h
        rw [hJJ] at h
        obtain ⟨j1, j2, j3, j4, j5⟩ := h
        have h1 := run_endLoop (P := P) j4 hb
        subst hpe
        refine ⟨_, h1, ⟨by rw [(putObj_eq _ _ _).1]; exact Nat.le_refl _, fun i _ hn => (putObj_eq W2 (w.heap.size + 1) _).2 i (fun e => hn (by simp [e]))⟩, ?_⟩
        obtain ⟨W3, hW3⟩ : ∃ W3, W2.putObj (w.heap.size + 1) (.loop { r with state := .exhausted }) = W3 := ⟨_, rfl⟩
        have hp3 := putObj_eq W2 (w.heap.size + 1) (.loop { r with state := .exhausted })
        rw [hW3] at hp3 ⊢
        have hos3 : W3.os = W2.os ∧ W3.tape = W2.tape ∧ W3.output = W2.output := by rw [← hW3]; exact ⟨rfl, rfl, rfl⟩
        have hids : ids (G' ++ [(w.heap.size, Obj.deferred (some []))]) = ids H ++ [w.heap.size] := by simp [ids, ← hi]
        have hW2l : w.heap.size + 1 < W2.heap.size := (Array.getElem?_eq_some_iff.1 j4).1
        refine ⟨w0.closed _ _ j1 ⟨hos3.1, hos3.2.1, hos3.2.2, by omega, fun i hi' hn => hp3.2 i fun e => hn (w0.new _ hs.below i (by omega))⟩, fun b o hm => ?_, ?_, fun D hD => ?_⟩
        · rcases List.mem_append.1 hm with hm | hm
          · have := hlt b (hi ▸ ids_mem hm)
            exact ⟨hmine b (hi ▸ ids_mem hm), (hp3.2 b (by omega)).trans (j2 b o hm)⟩
          · rcases List.mem_singleton.1 hm with e
            cases e
            exact ⟨w0.new _ hs.below _ (Nat.le_refl _), (hp3.2 _ (by omega)).trans j5⟩
        · rw [hids, List.nodup_append]
          refine ⟨hs.nodup, by simp, fun x hx y hy e => ?_⟩
          have := hlt x hx
          simp at hy; omega
        · rw [hids]
          have h2 := ((hs.data D hD).more (ids' := w0.ex ++ (ids H ++ [w.heap.size])) fun i hi' hl => ?_).later (b := W3) ⟨by have := j3.1; omega, fun i hi' hn => (hp3.2 i (by omega)).trans (j3.2 i hi' fun h => hn ?_)⟩
          · exact h2
          · simp only [List.mem_append, List.mem_singleton] at hi' ⊢
            rcases hi' with h | h | h
            · exact .inl h
            · exact .inr h
            · omega
          · simp only [List.mem_append, List.mem_singleton] at h ⊢
            rcases h with h | h
            · exact .inl h
            · exact .inr (.inl h)
      have hfD : Fr [coll w.heap.size] { a with defers := [coll w.heap.size] ++ a.defers } n L := ⟨by simp [hf.defers], hf.size, hf.at_⟩
      rcases hj with ⟨s, hj, hIp⟩ | ⟨pre, hne, hpre, t, hIx, hj, hjD⟩
      · obtain ⟨W3, h1, _, h2⟩ := endl _ _ none (hGi _ _) (by rw [hrec]; simp) (by rw [hrec]) hj
        exact ⟨none, W3, h1, hdone _ _ _ _ hfD hIp h2⟩
      · obtain ⟨W3, h1, hL3, h2⟩ := endl _ _ (some .ret) (hGxi _ _) (by rw [hrec]; simp) (by rw [hrec]) hj
        refine ⟨some .ret, W3, h1, wpIn_ret (hstop _ t pre _ _ hne hpre hIx hfD ⟨h2.below, h2.own, h2.nodup, fun D hD => ?_⟩)⟩
        rcases List.mem_append.1 hD with hD | hD
        · have h7 := (hjD D hD).later (b := W3) ⟨hL3.1, fun i hi hn => hL3.2 i hi fun h => hn (by rw [List.mem_singleton.1 h]; simp)⟩
          refine h7.sub fun i hi => ?_
          rw [hex] at hi
          simp only [List.nil_append, ids, List.map_append, List.map_cons, List.map_nil, List.mem_append, List.mem_singleton] at hi
          rcases hi with h | h
          · have : i ∈ ids H := by rw [← hGxi t pre]; exact h
            simp [this]
          · simp [h]
        · exact h2.data D hD
/-- The assignment makes a new variable of the value's type. -/
theorem c_rangeVWA {α : Type} {V : α → List Value} {g : Operand} {p : Nat} {q id : Nat} {ty : TypeId} {ps : String} {af : Array Edge} {ps' : String} {tt tt' : TypeId} {af' : Array Edge} {sz : Nat} {z : Value} (hT : Ty P ty true sz z) (hz : ∀ x, (V x).length = sz) (hzz : z.cells.size = sz) (hp9 : ∀ x, (V x).all plain = true) (hq : q < n) (hqp : q ≠ p) {body : Code} (hf : Fr [] a n L) (hs : St w0 Ds H w) {gf : Nat} {lb : List Value} (hg : ev L g = some (.func (.func gf) #[] lb.toArray)) (hk : Enters P gf) (hp : p < n)
    {all : List α} (hc : SeqV P gf lb (fun x => .agg (V x).toArray) all (w0.ex ++ ids H) w) {σ τ : Type} (hex : w0.ex = []) (Ip : σ → List α → Prop) (G : σ → List α → Own) (Ix : τ → List α → Prop) (Dx : τ → List α → List (World → Prop)) (Gx : τ → List α → Own) (s0 : σ) (hI0 : Ip s0 []) (hG0 : G s0 [] = H) (hGi : ∀ s pre, ids (G s pre) = ids H) (hGxi : ∀ t pre, ids (Gx t pre) = ids H)
    (hbody : ∀ l s pre x W W2 b a1 E hE, pre ++ [x] <+: all → Ip s pre → Fr [] a1 n ((q, .pointer (some ⟨b, 0, none⟩)) :: (p, .agg (V x).toArray) :: L) → St (Base.rnd W (ids H) E hE) Ds ((b, .cells (V x).toArray ty (0, 0)) :: G s pre) W2 →
      body.wpIn (fen (some l)) 0 P (rndQ (fun W' => ∃ s' Ds', St (Base.rnd W (ids H) E hE) Ds' (G s' (pre ++ [x])) W' ∧ Ip s' (pre ++ [x])) (fun W' => ∃ t, St (Base.rnd W (ids H) E hE) (Dx t (pre ++ [x])) (Gx t (pre ++ [x])) W' ∧ Ix t (pre ++ [x]))) a1 W2)
    (hdone : ∀ D s a' w', Fr [coll D] a' n L → Ip s all → St w0 Ds (G s all ++ [(D, .deferred (some []))]) w' → Q .normal a' w')
    (hstop : ∀ D t pre a' w', pre ≠ [] → pre <+: all → Ix t pre → Fr [coll D] a' n L → St w0 (Dx t pre ++ Ds) (Gx t pre ++ [(D, .deferred (some []))]) w' → Q .ret a' w') :
    (Code.rangeFunc g #[p] (.region id [⟨some q, .alloc ty, tt, ps, af, none⟩, ⟨none, .store ty (.tmp q) (.tmp p), tt', ps', af', none⟩].toArray false) body).wp P Q a w :=
  c_rangeVW (V := fun x => .agg (V x).toArray) hf hs hg hk hp hc hex Ip G Ix Dx Gx s0 hI0 hG0 hGi hGxi (fun b x => (q, .pointer (some ⟨b, 0, none⟩)) :: (p, .agg (V x).toArray) :: L) (fun x => .cells (V x).toArray ty (0, 0))
    (fun l x a W hf => r_reg1 rfl (vL hf (v_alloc (St.start W [] (by simp)) hT rfl) hq fun v w' hR a hf => by
      obtain ⟨b, rfl, hs⟩ := hR
      have h9 : (p == q) = false := by simpa using fun e => hqp e.symm
      have hx1 : ev ((q, .pointer (some ⟨b, 0, none⟩)) :: (p, .agg (V x).toArray) :: L) (.tmp q) = some (.pointer (some ⟨b, 0, none⟩)) := by simp [ev, List.lookup]
      have hx2 : ev ((q, .pointer (some ⟨b, 0, none⟩)) :: (p, .agg (V x).toArray) :: L) (.tmp p) = some (.agg (V x).toArray) := by simp [ev, List.lookup, h9]
      refine uL (u_stW hf hs hT hx1 hx2 (hp9 x) (k := 0) rfl (hz x) (by rw [hz x, hzz])) fun w' hs => e_nilJ ?_
      exact ⟨b, hs.below, (hs.own b _ (.head _)).1, (hs.own b _ (.head _)).2, hf⟩)) hbody hdone hstop
end
end Go.Proofs.YtjjcopeedcdokaaDoor

set_option linter.unusedVariables false
set_option linter.unusedSimpArgs false
namespace Go.Proofs.YtjjcopeedcdokaaDoor
open Go.RowKit
section
variable {P : Program} {Q : Exit → Act → World → Prop} {ds : List Deferred} {a : Act} {n : Nat} {L : Regs} {w w' : World} {t : TypeId} {w0 : Base} {Ds : List (World → Prop)} {H : Own} {ops : Array Oper} {d : Nat} {p : String} {af : Array Edge}
/-- An own block that a call has turned. -/
theorem St.turnedAt {j b : Nat} {o o' : Obj} (hs : St w0 Ds H w) (hj : H[j]? = some (b, o)) (hos : w'.os = w.os) (ht : w'.tape = w.tape) (hu : w'.output = w.output) (hl : Later [b] w w') (hb : w'.heap[b]? = some o') : St w0 Ds (H.set j (b, o')) w' := by
  have hm : (b, o) ∈ H := List.mem_of_getElem? hj
  have hmine := (hs.own b o hm).1
  refine ⟨w0.closed _ _ hs.below ⟨hos, ht, hu, hl.1, fun i hi hn => hl.2 i hi fun h => hn (by rw [List.mem_singleton.1 h]; exact hmine)⟩, fun c u hc => ?_, by rw [ids_set hj]; exact hs.nodup, fun D hD => ?_⟩
  · rcases mem_set hs.nodup hj hc with ⟨rfl, rfl⟩ | ⟨hne, hm'⟩
    · exact ⟨hmine, hb⟩
    · exact ⟨(hs.own _ _ hm').1, (hl.2 c (hs.lt hm') (by simpa using hne)).trans (hs.own _ _ hm').2⟩
  · rw [ids_set hj]
    exact (hs.data D hD).later ⟨hl.1, fun i hi hn => hl.2 i hi fun h => hn (by rw [List.mem_singleton.1 h]; exact List.mem_append_right _ (ids_mem hm))⟩
/-- What is known of the sheets that are missing is right. -/
def kOK (k : Bk) (m : KM) : Prop := ∀ c v, (c, v) ∈ m → ∃ i : Nat, i < k.ws.length ∧ c.1 = ((i : Nat) : Int) ∧ v = hm (k.ws.getD i default) c.2
theorem kOK_nil (k : Bk) : kOK k [] := fun c v h => by cases h
theorem kOK_get {k : Bk} {m : KM} (h : kOK k m) {i : Nat} {n t : Int} (hh : khas m (((i : Nat) : Int), n, t) = true) : kget m (((i : Nat) : Int), n, t) = hm (k.ws.getD i default) (n, t) := by
  obtain ⟨j, _, h2, h3⟩ := h _ _ (khas_mem hh)
  have : i = j := by simp only at h2; omega
  subst this; exact h3
theorem kOK_add {k : Bk} {m : KM} (h : kOK k m) {i : Nat} (hi : i < k.ws.length) {n t v : Int} (hv : v = hm (k.ws.getD i default) (n, t)) : kOK k (m ++ [((((i : Nat) : Int), n, t), v)]) := fun c u hc => by
  rcases List.mem_append.1 hc with hc | hc
  · exact h c u hc
  · have e := List.mem_singleton.1 hc
    cases e
    exact ⟨i, hi, rfl, hv⟩
def MapAt (k : Bk) (mb : Nat) (w : World) : Prop := ∃ m, kOK k m ∧ w.heap[mb]? = some (mapK m)
/-- What a call leaves that may write the map of a book. -/
abbrev MRet (k : Bk) (mb : Nat) (w : World) (v0 : Value) : Ending → World → Prop :=
  RetR fun v w' => v = v0 ∧ w'.os = w.os ∧ w'.tape = w.tape ∧ w'.output = w.output ∧ Later [mb] w w' ∧ MapAt k mb w'
theorem mret_of {k : Bk} {mb : Nat} {v : Value} {f : FuncId} {xs : Array Value} (h : Calls P f xs w (Ret w v)) (hm : MapAt k mb w) : Calls P f xs w (MRet k mb w v) :=
  Calls.mono h fun e w' ⟨he, hb⟩ => by
    obtain ⟨m, h1, h2⟩ := hm
    exact ⟨v, he, rfl, hb.os, hb.tape, hb.output, later_of_below hb _, m, h1, (hb.block mb (Array.getElem?_eq_some_iff.1 h2).1).trans h2⟩
theorem callM {rest : List Oper} {kb : Bk} {mb j : Nat} {m : KM} (hf : Fr ds a n L) (hs : St w0 Ds H w) (hj : H[j]? = some (mb, mapK m)) {f : Operand} {args : List Operand} {ats : Array TypeId} {k : FuncId} {us caps vs vs' : List Value} {v0 : Value}
    (hc : Calls P k vs'.toArray w (MRet kb mb w v0)) (hfn : ev L f = some (.func (.func k) us.toArray caps.toArray)) (hargs : evs L args = some vs) (hv : us ++ vs ++ caps = vs') (hk : Enters P k) (hd : d < n)
    (h : ∀ m' w' a', kOK kb m' → St w0 Ds (H.set j (mb, mapK m')) w' → Fr ds a' n ((d, v0) :: L) → wpList P ops Q rest a' w') : wpList P ops Q (⟨some d, .call { callee := .value f, args := args.toArray, argTypes := ats }, t, p, af, none⟩ :: rest) a w :=
  callB hf hc hfn hargs hv hk hd fun v w' a' hR hf' => by
    obtain ⟨rfl, h1, h2, h3, h4, m', h5, h6⟩ := hR
    exact h m' w' a' h5 (hs.turnedAt hj h1 h2 h3 h4 h6) hf'
theorem oCallM {S : World → Prop} {i : Nat} {KK : Act → World → Prop} {kb : Bk} {mb j : Nat} {m : KM} (hf : Fr ds a n L) (hs : St w0 Ds H w) (hj : H[j]? = some (mb, mapK m)) {f : Operand} {args : List Operand} {ats : Array TypeId} {k : FuncId} {us caps vs vs' : List Value} {v0 : Value} (hi : ops[i]? = some ⟨some d, .call { callee := .value f, args := args.toArray, argTypes := ats }, t, p, af, none⟩)
    (hc : Calls P k vs'.toArray w (MRet kb mb w v0)) (hfn : ev L f = some (.func (.func k) us.toArray caps.toArray)) (hargs : evs L args = some vs) (hv : us ++ vs ++ caps = vs') (hk : Enters P k) (hd : d < n)
    (hS : ∀ m' w', St w0 Ds (H.set j (mb, mapK m')) w' → S w')
    (h : ∀ m' w' a', kOK kb m' → St w0 Ds (H.set j (mb, mapK m')) w' → S w' → Fr ds a' n ((d, v0) :: L) → KK a' w') : wpOp P ops Q i (fun a' w' => S w' ∧ KK a' w') a w :=
  oCallB hf hi hc hfn hargs hv hk hd (fun v w' hR => by
    obtain ⟨rfl, h1, h2, h3, h4, m', h5, h6⟩ := hR
    exact hS m' w' (hs.turnedAt hj h1 h2 h3 h4 h6)) fun v w' a' hR hS' hf' => by
    obtain ⟨rfl, h1, h2, h3, h4, m', h5, h6⟩ := hR
    exact h m' w' a' h5 (hs.turnedAt hj h1 h2 h3 h4 h6) hS' hf'
end
/-- How often the orders of all workers do. -/
def doesL (k : Bk) : List Int := k.ws.map (doesK k)
theorem doesL_get {k : Bk} {i : Nat} (h : i < k.ws.length) : (doesL k).getD i default = doesK k (k.ws.getD i default) := by
  unfold doesL
  rw [List.getD_eq_getElem?_getD, List.getElem?_map, List.getD_eq_getElem?_getD, List.getElem?_eq_getElem h]; rfl
/-- A book in the calculation lies in memory, and its map. -/
structure BkO (k : Bk) (fA : Option Addr) (fc : Nat) (rA : Option Addr) (rc : Nat) (wA : Option Addr) (wc : Nat) (dA : Option Addr) (mb : Nat) (w : World) : Prop where
  F : Stable [mb] w (Rd encF 5 fA k.sh.flaps.length k.sh.flaps)
  R : Stable [mb] w (Rd encR 2 rA k.sh.rules.length k.sh.rules)
  W : Stable [mb] w (Rd encW 6 wA k.ws.length k.ws)
  O : Stable [mb] w (OrdD k.ws)
  D : Stable [mb] w (Rd encI 1 dA k.ws.length (doesL k))
  map : MapAt k mb w
theorem BkO.at_ {k : Bk} {fA : Option Addr} {fc : Nat} {rA : Option Addr} {rc : Nat} {wA : Option Addr} {wc : Nat} {dA : Option Addr} {mb : Nat} {w : World} (h : BkO k fA fc rA rc wA wc dA mb w) {m : KM} (hm : w.heap[mb]? = some (mapK m)) (X : List (World → Prop)) (hX : ∀ D ∈ X, Stable [mb] w D) :
    St (Base.rnd w [mb] [] noE) (X ++ [Rd encF 5 fA k.sh.flaps.length k.sh.flaps, Rd encR 2 rA k.sh.rules.length k.sh.rules, Rd encW 6 wA k.ws.length k.ws, OrdD k.ws, Rd encI 1 dA k.ws.length (doesL k)]) [(mb, mapK m)] w := by
  refine ⟨⟨rfl, rfl, rfl, Later.refl _ _⟩, fun b o hb => ?_, by simp, fun D hD => ?_⟩
  · rcases List.mem_singleton.1 hb with e
    cases e
    exact ⟨.inl (by simp), hm⟩
  · show Stable ([] ++ [mb]) w D
    rcases List.mem_append.1 hD with hD | hD
    · exact hX D hD
    · simp only [List.mem_cons, List.not_mem_nil, or_false] at hD
      rcases hD with rfl | rfl | rfl | rfl | rfl
      · exact h.F
      · exact h.R
      · exact h.W
      · exact h.O
      · exact h.D
theorem bkO_of {k : Bk} {fA : Option Addr} {rA : Option Addr} {wA : Option Addr} {dA : Option Addr} {mb : Nat} {w : World} {w0 : Base} {Ds : List (World → Prop)} {H : Own} {m : KM} (fc rc wc : Nat) (hs : St w0 Ds H w) (j : Nat) (hj : H[j]? = some (mb, mapK m)) (hk : kOK k m)
    (h1 : Rd encF 5 fA k.sh.flaps.length k.sh.flaps ∈ Ds) (h2 : Rd encR 2 rA k.sh.rules.length k.sh.rules ∈ Ds) (h3 : Rd encW 6 wA k.ws.length k.ws ∈ Ds) (h4 : OrdD k.ws ∈ Ds) (h5 : Rd encI 1 dA k.ws.length (doesL k) ∈ Ds) : BkO k fA fc rA rc wA wc dA mb w := by
  have hm : (mb, mapK m) ∈ H := List.mem_of_getElem? hj
  have hsub : ∀ D ∈ Ds, Stable [mb] w D := fun D hD => (hs.data D hD).sub fun i hi => by rw [List.mem_singleton.1 hi]; exact List.mem_append_right _ (ids_mem hm)
  exact ⟨hsub _ h1, hsub _ h2, hsub _ h3, hsub _ h4, hsub _ h5, m, hk, (hs.own _ _ hm).2⟩
def fo (k : Bk) (x : Wkr) (what : Nat) (pre : List (Int × Int)) : Option (Int × Int) := pre.foldl (fun o c => mrg o (hspan k x what c)) none
def outZ (k : Bk) (x : Wkr) (what : Nat) (pre : List (Int × Int)) : Int × Int := (fo k x what pre).getD (0, 0)
theorem fo_snoc (k : Bk) (x : Wkr) (what : Nat) (pre : List (Int × Int)) (c : Int × Int) : fo k x what (pre ++ [c]) = mrg (fo k x what pre) (hspan k x what c) := by unfold fo; rw [List.foldl_append]; rfl
theorem fo_some (k : Bk) (x : Wkr) (what : Nat) (pre : List (Int × Int)) : (fo k x what pre).isSome = !pre.isEmpty := by
  refine snocInd (Q := fun pre => (fo k x what pre).isSome = !pre.isEmpty) rfl (fun l c ih => ?_) pre
  rw [fo_snoc]
  cases fo k x what l <;> cases l <;> rfl
theorem outZ_snoc_no {k : Bk} {x : Wkr} {what : Nat} {pre : List (Int × Int)} (c : Int × Int) (h : (fo k x what pre).isSome = false) : outZ k x what (pre ++ [c]) = hspan k x what c := by
  unfold outZ; rw [fo_snoc]
  cases he : fo k x what pre with
  | none => rfl
  | some s => rw [he] at h; cases h
theorem outZ_snoc_yes {k : Bk} {x : Wkr} {what : Nat} {pre : List (Int × Int)} (c : Int × Int) (h : (fo k x what pre).isSome = true) : outZ k x what (pre ++ [c]) = (min (outZ k x what pre).1 (hspan k x what c).1, max (outZ k x what pre).2 (hspan k x what c).2) := by
  unfold outZ; rw [fo_snoc]
  cases he : fo k x what pre with
  | none => rw [he] at h; cases h
  | some s => rfl
theorem fo_snoc_some (k : Bk) (x : Wkr) (what : Nat) (pre : List (Int × Int)) (c : Int × Int) : (fo k x what (pre ++ [c])).isSome = true := by
  rw [fo_snoc]; cases fo k x what pre <;> rfl
theorem fo_all (k : Bk) (x : Wkr) (what : Nat) : (fo k x what (trues x)).isSome = rightB x := fo_some _ _ _ _
theorem outZ_all (k : Bk) (x : Wkr) (what : Nat) : outZ k x what (trues x) = ofZ k what x := rfl
section
variable {P : Program} {Q : Exit → Act → World → Prop} {ds : List Deferred} {a : Act} {n : Nat} {L : Regs} {w : World} {t : TypeId} {w0 : Base} {Ds : List (World → Prop)} {H : Own} {ops : Array Oper} {S : World → Prop} {fuel : Nat} {listed : Array Bool} {i : Nat}
/-- One of three may come up. -/
theorem three {j l : Nat} (hr : Region.ready .any ops listed = [i, j, l]) (h : wpOp P ops Q i (fun a' w' => S w' ∧ wpAnyH P .any ops Q S fuel (listed.setIfInBounds i true) a' w') a w)
    (h' : wpOp P ops Q j (fun a' w' => S w' ∧ wpAnyH P .any ops Q S fuel (listed.setIfInBounds j true) a' w') a w) (h'' : wpOp P ops Q l (fun a' w' => S w' ∧ wpAnyH P .any ops Q S fuel (listed.setIfInBounds l true) a' w') a w) : wpAnyH P .any ops Q S (fuel + 1) listed a w :=
  wpAnyH_all hr (by simp) fun m hm => by
    rcases List.mem_cons.1 hm with rfl | hm
    · exact h
    · rcases List.mem_cons.1 hm with rfl | hm
      · exact h'
      · rcases List.mem_singleton.1 hm with rfl; exact h''
theorem v_mapK (hs : St w0 Ds H w) {ty : TypeId} : GoesV P (.makeMap ty none) t a w fun u w' => ∃ b, u = .map (some b) ∧ St w0 Ds ((b, mapK []) :: H) w' := v_map hs
end
theorem fresh_own {w0 w : World} {Ds : List (World → Prop)} {H : Own} {b : Nat} {cs : Array Value} {e : TypeId} {fz : Nat × Nat} (hs : St (Base.of w0) Ds H w) (hm : (b, .cells cs e fz) ∈ H) : Fresh w0 w (BlkIs b cs e fz) :=
  fun w'' _ h => (h b (hs.own b _ hm).1 (hs.lt hm)).trans (hs.own b _ hm).2
theorem stab3 {X : List Nat} {w : World} {A B C : World → Prop} (h1 : Stable X w A) (h2 : Stable X w B) (h3 : Stable X w C) : ∀ D ∈ [A, B, C], Stable X w D := fun D hD => by
  simp only [List.mem_cons, List.not_mem_nil, or_false] at hD
  rcases hD with rfl | rfl | rfl
  · exact h1
  · exact h2
  · exact h3
/-- A truth, as it is handed out. -/
abbrev cameV (i : Nat) (c : Int × Int) : List Value := [.int .i64 ((i : Nat) : Int), .int .i64 c.1, .int .i64 c.2]
section
variable {P : Program} {ds : List Deferred} {a : Act} {n : Nat} {L : Regs} {w : World} {t : TypeId} {w0 : Base} {Ds : List (World → Prop)} {H : Own}
theorem g_slArr (hf : Fr ds a n L) {ta e : TypeId} {len sz : Nat} (hT : ArT P ta e len sz) {x : Operand} {b : Nat} (hx : ev L x = some (.pointer (some ⟨b, 0, none⟩))) : Gets P (.slice ta x none none none) t a w (.slice (some ⟨b, 0, none⟩) len len) := by
  intro d p af g
  simp [execOp, Instr.sliceAt, hT.under w, hT.size w, Instr.sureAddr, Instr.sliceBounds, hf.eval hx, Addr.add]
/-- What an array of seven zeros holds behind a copy. -/
def pad7 (l : List Int) : List Int := l.take 7 ++ List.replicate (7 - l.length) 0
theorem pad7_len (l : List Int) : (pad7 l).length = 7 := by simp [pad7]; omega
theorem pad7_inj {l m : List Int} (h : l.length = m.length) (h1 : l.length ≤ 7) (he : pad7 l = pad7 m) : l = m := by
  unfold pad7 at he
  rw [List.take_of_length_le h1, List.take_of_length_le (by omega)] at he
  exact List.append_inj_left he h
theorem v_copy7 (hf : Fr ds a n L) (hs : St w0 Ds H w) {ts ts' et : TypeId} (hT : SlT P ts et 1) {x y : Operand} {b k len c : Nat} {A : Option Addr} {l : List Int} {e : TypeId} (hx : ev L x = some (.slice (some ⟨b, 0, none⟩) 7 7)) (hy : ev L y = some (.slice A len c)) (hk : H[k]? = some (b, .cells (ints7 (List.replicate 7 0)) e (0, 0))) (hR : Rd encI 1 A len l w) :
    GoesV P (.call { callee := .builtin .copy, args := #[x, y], argTypes := #[ts, ts'] }) t a w fun v w' => v = .int .i64 ((min len 7 : Nat) : Int) ∧ St w0 Ds (H.set k (b, .cells (ints7 (pad7 l)) e (0, 0))) w' := by
  intro d p af g
  have hl := hR.1
  obtain ⟨vs, hvs⟩ : ∃ vs : List Value, vs = (l.take 7).map fun x => Value.int .i64 x := ⟨_, rfl⟩
  have hvl : vs.length = min len 7 := by rw [hvs, List.length_map, List.length_take, hl]; omega
  have hcells : (Builtin.firstCells 1 (min len 7) (.slice A len c)).run P w = .ok vs.toArray w := by
    cases A with
    | none =>
      have h0 : len = 0 := by
        rcases Nat.eq_zero_or_pos len with h | h
        · exact h
        · have := hR.isSome h; cases this
      subst h0
      have : vs = [] := List.eq_nil_of_length_eq_zero (by rw [hvl]; omega)
      simp [Builtin.firstCells, this]
    | some ad =>
      have h1 := Rd.flat (enc := encI) (sz := 1) (fun _ => rfl) (by decide) hR
      have h2 := run_loadCells (P := P) (w := w) (ad := ad) vs 0 #[] fun j v hj => by
        rw [Nat.zero_add]
        refine h1 j v ?_
        have e1 : l.flatMap encI = l.map fun x => Value.int .i64 x := by
          clear h1 hj hvl hvs hl hR
          induction l with
          | nil => rfl
          | cons x l ih => rw [List.flatMap_cons, ih]; rfl
        rw [e1]
        rw [hvs, List.getElem?_map, List.getElem?_take] at hj
        split at hj
        · rw [List.getElem?_map]; exact hj
        · cases hj
      rw [hvl] at h2
      simpa [Builtin.firstCells, loadCells] using h2
  have hsz : (ints7 (List.replicate 7 0)).size = 7 := rfl
  obtain ⟨w', hr, hs'⟩ := run_storeCells (P := P) vs 0 (off := 0) (k := k) (fun v hv => by rw [hvs] at hv; obtain ⟨x, _, rfl⟩ := List.mem_map.1 hv; rfl) (by rw [hsz, hvl]; omega) hs hk
  have hcs : splat (ints7 (List.replicate 7 0)) (0 + 0) vs = ints7 (pad7 l) := by
    apply Array.toList_inj.1
    rw [splat_toList _ _ _ (by rw [hsz, hvl]; omega)]
    have hlen7 : (l.take 7).length = min len 7 := by rw [List.length_take, hl]; omega
    simp only [ints7, pad7, List.map_append, hvs, List.length_map, List.map_replicate, Nat.zero_add, List.take_zero, List.nil_append, List.drop_replicate]
    congr 2
    rw [hlen7, hl]; omega
  rw [hcs] at hs'
  refine ⟨_, w', ?_, rfl, hs'⟩
  simp [execOp, resolve, invoke, builtin, hf.eval hx, hf.eval hy, Builtin.copy_, hT.under w, Builtin.lenOf, hT.size w]
  rw [show Nat.min len 7 = min len 7 from rfl, hcells]
  simp [hr, goInt]
end
end Go.Proofs.YtjjcopeedcdokaaDoor

set_option linter.unusedVariables false
set_option linter.unusedSimpArgs false
namespace Go.Proofs.YtjjcopeedcdokaaDoor
open Go.RowKit
theorem c_truths1 (k : Bk) (fA : Option Addr) (fc : Nat) (rA : Option Addr) (rc : Nat) (wA : Option Addr) (wc : Nat) (dA : Option Addr) (dc mb : Nat) (i : Nat) (hi : i < k.ws.length) (hx : WkrV k.sh (k.ws.getD i default)) (bb bw l : Nat) (X : List Nat) (J Jx : List (Int × Int) → World → Prop) (w0 : World) (hXl : ∀ j ∈ X, j < w0.heap.size) (hJB : ∀ pre A B, J pre A → Below w0.heap.size A B → J pre B) (hY : ∀ pre c W1, J pre W1 → Later X w0 W1 → pre ++ [c] <+: trues (k.ws.getD i default) → YieldAt Fence.wide 0 Tryd.prog l #[.agg (cameV i c).toArray] W1 fun e W' => Later X W1 W' ∧ ((e = .returned (.bool true) ∧ J (pre ++ [c]) W') ∨ (e = .returned (.bool false) ∧ Jx (pre ++ [c]) W'))) (hJ0 : J [] w0) (hB : Stable X w0 (BlkIs bb #[.int .i64 k.sh.wide, .int .i64 k.sh.high, .slice fA k.sh.flaps.length fc, .slice rA k.sh.rules.length rc, .int .i64 k.gross, .int .i64 k.pay, .int .i64 k.fine, .slice wA k.ws.length wc, .slice dA k.ws.length dc, .map (some mb)] 89 (0, 0))) (hW : Stable X w0 (BlkIs bw #[.int .i64 ((i : Nat) : Int)] 3 (0, 0))) (hR : Stable X w0 (Rd encW 6 wA k.ws.length k.ws)) :
    Calls Tryd.prog 128 #[.func (.yield l) #[] #[], .pointer (some ⟨bb, 0, none⟩), .pointer (some ⟨bw, 0, none⟩)] w0 ((fun e W' => (∃ v, e = .returned v) ∧ Later X w0 W' ∧ (J (trues (k.ws.getD i default)) W' ∨ ∃ pre, pre ≠ [] ∧ pre <+: trues (k.ws.getD i default) ∧ Jx pre W'))) := by
  refine c_enter (n := 62) Tryd.func128 rfl rfl (Nat.le_of_ble_eq_true rfl) ?_; intro a hf; simp only [zipR] at hf
  have hs := St.startI hXl (Nat.le_refl _) ⟨J [], hJB []⟩ hJ0 (stab3 hB hW hR)
  have hb0 := hx.b0; have hb1 := hx.b1; have hb2 := hx.b2; have ht0 := hx.t0; have ht1_ := hx.t1; have ht2 := hx.t2; have hs0_ := hx.s0; have hs1_ := hx.s1
  have hwm := (hR.now).2.1
  refine wp_scope_straight ?_
  refine c_reg ?_
  refine gL hf (g_fa (off' := 0) hf F89_0 rfl rfl) (by decide) ?_; clear hf a; intro a hf
  refine gL hf (g_fa (off' := 7) hf F28_4 rfl rfl) (by decide) ?_; clear hf a; intro a hf
  refine gL hf (g_ldB hf hs (.head _) T26 rfl rfl) (by decide) ?_; clear hf a; intro a hf
  refine gL hf (g_ldB hf hs (.tail _ (.head _)) T3 rfl rfl) (by decide) ?_; clear hf a; intro a hf
  (first | (refine gL hf (g_ixE hf hs (.tail _ (.tail _ (.head _))) SL26 rfl rfl (by omega)) (by decide) ?_) | (refine gL hf (g_ixD hf hs (.tail _ (.tail _ (.head _))) SL26 rfl rfl (by omega)) (by decide) ?_)); clear hf a; intro a hf
  refine gL hf (g_ldEW hf hs (.tail _ (.tail _ (.head _))) T47 rfl rfl (by omega)) (by decide) ?_; clear hf a; intro a hf
  refine vL hf (v_alloc hs T47 rfl) (by decide) ?_; clear hs hf a; rintro _ w ⟨b1, rfl, hs⟩ a hf
  refine uL (u_stW hf hs T47 rfl rfl rfl (k := 0) rfl rfl rfl) ?_; clear hs; intro w hs; dsimp only [List.set] at hs
  refine e_nil ?_
  refine wp_seq ?_
  refine c_label (q_thenN ?_)
  refine c_reg ?_
  refine gL hf (g_fa (off' := 2) hf F47_2 rfl rfl) (by decide) ?_; clear hf a; intro a hf
  refine gL hf (g_fa (off' := 3) hf F40_1 rfl rfl) (by decide) ?_; clear hf a; intro a hf
  refine gL hf (g_ld hf hs T3 rfl (k := 0) rfl rfl) (by decide) ?_; clear hf a; intro a hf
  refine gL hf (g_fa (off' := 2) hf F47_2 rfl rfl) (by decide) ?_; clear hf a; intro a hf
  refine gL hf (g_fa (off' := 2) hf F40_0 rfl rfl) (by decide) ?_; clear hf a; intro a hf
  refine gL hf (g_ld hf hs T3 rfl (k := 0) rfl rfl) (by decide) ?_; clear hf a; intro a hf
  refine gL hf (g_subI hf rfl rfl (by omega)) (by decide) ?_; clear hf a; intro a hf
  refine gL hf (g_addI hf rfl rfl (by omega)) (by decide) ?_; clear hf a; intro a hf
  refine gL hf (g_mv hf rfl) (by decide) ?_; clear hf a; intro a hf
  refine e_nil ?_
  refine c_block ?_
  have e0 : ([] : List (Int × Int)) = truesTo (k.ws.getD i default) ((k.ws.getD i default).bl + ((0 : Nat) : Int)) := by rw [show (k.ws.getD i default).bl + ((0 : Nat) : Int) = (k.ws.getD i default).bl by omega, trues_start]
  rw [e0] at hs
  refine c_loopB (fun u => Base.it w0 X w0.heap.size hXl (Nat.le_refl _) ⟨J (truesTo (k.ws.getD i default) ((k.ws.getD i default).bl + ((u : Nat) : Int))), hJB _⟩) hf (List.range' 5 3 ++ List.range' 22 40) (σ := Nat) (fun u => [(22, .int .i64 (u : Nat))]) (fun u => [(b1, .cells (encW (k.ws.getD i default)).toArray 47 (0, 0))]) (fun u => ((u : Nat) : Int) ≤ (k.ws.getD i default).bh - (k.ws.getD i default).bl + 1) (fun u => ((k.ws.getD i default).bh - (k.ws.getD i default).bl + 1).toNat - u) 0 hs (by omega) (.cons rfl .nil) ?_
  intro u a w hJ hf hs
  refine c_reg ?_
  refine gL hf (g_lss hf rfl rfl) (by decide) ?_; clear hf a; intro a hf
  refine e_nil ?_
  refine c_condS hf rfl (fun hc1 => ?_) (fun hc1 => ?_)
  · try simp only [decide_eq_true_eq, decide_eq_false_iff_not] at hc1
    refine c_skip (q_thenN ?_)
    refine c_blockS ?_
    refine c_reg ?_
    refine gL hf (g_mv hf rfl) (by decide) ?_; clear hf a; intro a hf
    refine gL hf (g_as hf rfl) (by decide) ?_; clear hf a; intro a hf
    refine e_nil ?_
    refine c_reg ?_
    refine gL hf (g_fa (off' := 4) hf F47_3 rfl rfl) (by decide) ?_; clear hf a; intro a hf
    refine gL hf (g_fa (off' := 5) hf F40_1 rfl rfl) (by decide) ?_; clear hf a; intro a hf
    refine gL hf (g_ld hf hs T3 rfl (k := 0) rfl rfl) (by decide) ?_; clear hf a; intro a hf
    refine gL hf (g_fa (off' := 4) hf F47_3 rfl rfl) (by decide) ?_; clear hf a; intro a hf
    refine gL hf (g_fa (off' := 4) hf F40_0 rfl rfl) (by decide) ?_; clear hf a; intro a hf
    refine gL hf (g_ld hf hs T3 rfl (k := 0) rfl rfl) (by decide) ?_; clear hf a; intro a hf
    refine gL hf (g_subI hf rfl rfl (by omega)) (by decide) ?_; clear hf a; intro a hf
    refine gL hf (g_addI hf rfl rfl (by omega)) (by decide) ?_; clear hf a; intro a hf
    refine gL hf (g_mv hf rfl) (by decide) ?_; clear hf a; intro a hf
    refine e_nil ?_
    refine c_block ?_
    have e0 : truesTo (k.ws.getD i default) ((k.ws.getD i default).bl + ((u : Nat) : Int)) = truesTo (k.ws.getD i default) ((k.ws.getD i default).bl + ((u : Nat) : Int)) ++ rowTo (k.ws.getD i default) ((k.ws.getD i default).bl + ((u : Nat) : Int)) ((k.ws.getD i default).tl + ((0 : Nat) : Int) - 1) := by rw [show (k.ws.getD i default).tl + ((0 : Nat) : Int) - 1 = (k.ws.getD i default).tl - 1 by omega, rowTo_start, List.append_nil]
    rw [e0] at hs
    refine c_loopB (fun c => Base.it w0 X w0.heap.size hXl (Nat.le_refl _) ⟨J (truesTo (k.ws.getD i default) ((k.ws.getD i default).bl + ((u : Nat) : Int)) ++ rowTo (k.ws.getD i default) ((k.ws.getD i default).bl + ((u : Nat) : Int)) ((k.ws.getD i default).tl + ((c : Nat) : Int) - 1)), hJB _⟩) hf (List.range' 6 2 ++ List.range' 33 28) (σ := Nat) (fun c => [(33, .int .i64 (c : Nat))]) (fun c => [(b1, .cells (encW (k.ws.getD i default)).toArray 47 (0, 0))]) (fun c => ((c : Nat) : Int) ≤ (k.ws.getD i default).th - (k.ws.getD i default).tl + 1 ∧ (0 < c → (k.ws.getD i default).bl + ((u : Nat) : Int) + ((k.ws.getD i default).tl + ((c : Nat) : Int) - 1) ≤ (k.ws.getD i default).sheets)) (fun c => ((k.ws.getD i default).th - (k.ws.getD i default).tl + 1).toNat - c) 0 hs ⟨by omega, fun h => absurd h (by omega)⟩ (.cons rfl .nil) ?_
    intro c a w hJ hf hs
    obtain ⟨hc9, hc0⟩ := hJ
    refine c_reg ?_
    refine gL hf (g_lss hf rfl rfl) (by decide) ?_; clear hf a; intro a hf
    refine e_nil ?_
    refine c_condS hf rfl (fun hc2 => ?_) (fun hc2 => ?_)
    · try simp only [decide_eq_true_eq, decide_eq_false_iff_not] at hc2
      refine c_skip (q_thenN ?_)
      refine c_blockS ?_
      refine c_reg ?_
      refine gL hf (g_mv hf rfl) (by decide) ?_; clear hf a; intro a hf
      refine gL hf (g_as hf rfl) (by decide) ?_; clear hf a; intro a hf
      refine e_nil ?_
      refine c_reg ?_
      refine gL hf (g_ldB hf hs (.tail _ (.head _)) T3 rfl rfl) (by decide) ?_; clear hf a; intro a hf
      refine gL hf (g_fa (off' := 2) hf F47_2 rfl rfl) (by decide) ?_; clear hf a; intro a hf
      refine gL hf (g_fa (off' := 2) hf F40_0 rfl rfl) (by decide) ?_; clear hf a; intro a hf
      refine gL hf (g_ld hf hs T3 rfl (k := 0) rfl rfl) (by decide) ?_; clear hf a; intro a hf
      refine gL hf (g_mv hf rfl) (by decide) ?_; clear hf a; intro a hf
      refine gL hf (g_addI hf rfl rfl (by omega)) (by decide) ?_; clear hf a; intro a hf
      refine gL hf (g_fa (off' := 4) hf F47_3 rfl rfl) (by decide) ?_; clear hf a; intro a hf
      refine gL hf (g_fa (off' := 4) hf F40_0 rfl rfl) (by decide) ?_; clear hf a; intro a hf
      refine gL hf (g_ld hf hs T3 rfl (k := 0) rfl rfl) (by decide) ?_; clear hf a; intro a hf
      refine gL hf (g_mv hf rfl) (by decide) ?_; clear hf a; intro a hf
      refine gL hf (g_addI hf rfl rfl (by omega)) (by decide) ?_; clear hf a; intro a hf
      refine gL hf (g_bld hf [[.int .i64 0], [.int .i64 0], [.int .i64 0]] (.cons rfl (.cons rfl (.cons rfl .nil))) (fun _ => by kernel_rfl)) (by decide) ?_; clear hf a; intro a hf
      refine vL hf (v_alloc hs T134 rfl) (by decide) ?_; clear hs hf a; rintro _ w ⟨b2, rfl, hs⟩ a hf
      refine uL (u_stW hf hs T134 rfl rfl rfl (k := 0) rfl rfl rfl) ?_; clear hs; intro w hs; dsimp only [List.set] at hs
      refine e_nil ?_
      refine wp_seq ?_
      refine c_reg ?_
      refine gL hf (g_fa (off' := 1) hf F134_1 rfl rfl) (by decide) ?_; clear hf a; intro a hf
      refine gL hf (g_ld hf hs T3 rfl (k := 0) rfl rfl) (by decide) ?_; clear hf a; intro a hf
      refine gL hf (g_fa (off' := 2) hf F134_2 rfl rfl) (by decide) ?_; clear hf a; intro a hf
      refine gL hf (g_ld hf hs T3 rfl (k := 0) rfl rfl) (by decide) ?_; clear hf a; intro a hf
      refine gL hf (g_addI hf rfl rfl (by omega)) (by decide) ?_; clear hf a; intro a hf
      refine gL hf (g_fa (off' := 0) hf F47_0 rfl rfl) (by decide) ?_; clear hf a; intro a hf
      refine gL hf (g_ld hf hs T3 rfl (k := 1) rfl rfl) (by decide) ?_; clear hf a; intro a hf
      refine gL hf (g_gtr hf rfl rfl) (by decide) ?_; clear hf a; intro a hf
      refine e_nil ?_
      refine c_cond hf rfl (fun hc3 => ?_) (fun hc3 => ?_)
      · try simp only [decide_eq_true_eq, decide_eq_false_iff_not] at hc3
        have hsn : St (Base.it w0 X w0.heap.size hXl (Nat.le_refl _) ⟨J (truesTo (k.ws.getD i default) ((k.ws.getD i default).bl + ((u + 1 : Nat) : Int))), hJB _⟩) [BlkIs bb #[.int .i64 k.sh.wide, .int .i64 k.sh.high, .slice fA k.sh.flaps.length fc, .slice rA k.sh.rules.length rc, .int .i64 k.gross, .int .i64 k.pay, .int .i64 k.fine, .slice wA k.ws.length wc, .slice dA k.ws.length dc, .map (some mb)] 89 (0, 0), BlkIs bw #[.int .i64 ((i : Nat) : Int)] 3 (0, 0), Rd encW 6 wA k.ws.length k.ws] [(b1, .cells (encW (k.ws.getD i default)).toArray 47 (0, 0))] w := by rw [show (k.ws.getD i default).bl + ((u + 1 : Nat) : Int) = (k.ws.getD i default).bl + ((u : Nat) : Int) + 1 by omega, trues_succ (by omega), row_stop (t := (k.ws.getD i default).tl + ((c : Nat) : Int)) (by omega) (by omega) (fun h9 => by have := hc0 (by omega); omega) (.inr (by omega))]; exact hs.dropN 1
        refine c_exit (q_thenX (q_blkY (by decide) (q_thenX (q_thenX (q_blkY (by decide) (q_blkX (q_thenN ?_)))))))
        refine c_reg1 ?_
        refine gL hf (g_addI hf rfl rfl (by omega)) (by decide) ?_; clear hf a; intro a hf
        refine gL hf (g_mv hf rfl) (by decide) ?_; clear hf a; intro a hf
        refine e_nil1 (q_thenN ?_)
        exact ⟨u + 1, (by omega), (by omega), hf.back (by repeat (first | (with_reducible exact Ext.base) | ((with_reducible refine Ext.cons ?_ ?_); (· rfl)) | ((with_reducible refine Ext.over ?_ ?_ ?_); (· rfl); (· rfl)))) (allKeys rfl) (.cons rfl .nil), hsn⟩
      · try simp only [decide_eq_true_eq, decide_eq_false_iff_not] at hc3
        have hnext : truesTo (k.ws.getD i default) ((k.ws.getD i default).bl + ((u : Nat) : Int)) ++ rowTo (k.ws.getD i default) ((k.ws.getD i default).bl + ((u : Nat) : Int)) ((k.ws.getD i default).tl + ((c + 1 : Nat) : Int) - 1) = (truesTo (k.ws.getD i default) ((k.ws.getD i default).bl + ((u : Nat) : Int)) ++ rowTo (k.ws.getD i default) ((k.ws.getD i default).bl + ((u : Nat) : Int)) ((k.ws.getD i default).tl + ((c : Nat) : Int) - 1)) ++ [((k.ws.getD i default).bl + ((u : Nat) : Int), (k.ws.getD i default).tl + ((c : Nat) : Int))] := by rw [show (k.ws.getD i default).tl + ((c + 1 : Nat) : Int) - 1 = (k.ws.getD i default).tl + ((c : Nat) : Int) by omega, rowTo_succ (by omega), ← List.append_assoc]
        have hpre : (truesTo (k.ws.getD i default) ((k.ws.getD i default).bl + ((u : Nat) : Int)) ++ rowTo (k.ws.getD i default) ((k.ws.getD i default).bl + ((u : Nat) : Int)) ((k.ws.getD i default).tl + ((c : Nat) : Int) - 1)) ++ [((k.ws.getD i default).bl + ((u : Nat) : Int), (k.ws.getD i default).tl + ((c : Nat) : Int))] <+: trues (k.ws.getD i default) := by rw [← hnext, show (k.ws.getD i default).tl + ((c + 1 : Nat) : Int) - 1 = (k.ws.getD i default).tl + ((c : Nat) : Int) by omega]; exact all_prefix (by omega) (by omega) (by omega) (by omega) (by omega)
        refine c_skip (q_thenN ?_)
        refine (wpIn_wide (n := 0)).1 (i_reg (r := none) (m := 0) ?_)
        refine gI hf (g_mv hf rfl) (by intro c; simp) (by decide) ?_; clear hf a; intro a hf
        refine gI hf (g_ldW hf hs T134 rfl (k := 0) rfl rfl) (by intro c; simp) (by decide) ?_; clear hf a; intro a hf
        refine yieldI (m := 0) hf (hY (truesTo (k.ws.getD i default) ((k.ws.getD i default).bl + ((u : Nat) : Int)) ++ rowTo (k.ws.getD i default) ((k.ws.getD i default).bl + ((u : Nat) : Int)) ((k.ws.getD i default).tl + ((c : Nat) : Int) - 1)) ((k.ws.getD i default).bl + ((u : Nat) : Int), (k.ws.getD i default).tl + ((c : Nat) : Int)) w hs.kept hs.later hpre) rfl rfl (by decide) (fun e w' h => by rcases h.2 with h | h <;> exact ⟨_, h.1⟩) ?_
        clear hf a; intro y w1 a hR1 hf
        obtain ⟨r, rfl, hl1, ht1, hf1⟩ : ∃ r, y = .bool r ∧ Later X w w1 ∧ (r = true → J (truesTo (k.ws.getD i default) ((k.ws.getD i default).bl + ((u : Nat) : Int)) ++ rowTo (k.ws.getD i default) ((k.ws.getD i default).bl + ((u : Nat) : Int)) ((k.ws.getD i default).tl + ((c + 1 : Nat) : Int) - 1)) w1) ∧ (r = false → Jx ((truesTo (k.ws.getD i default) ((k.ws.getD i default).bl + ((u : Nat) : Int)) ++ rowTo (k.ws.getD i default) ((k.ws.getD i default).bl + ((u : Nat) : Int)) ((k.ws.getD i default).tl + ((c : Nat) : Int) - 1)) ++ [((k.ws.getD i default).bl + ((u : Nat) : Int), (k.ws.getD i default).tl + ((c : Nat) : Int))]) w1) := by
          rcases hR1.2 with ⟨e1, hj⟩ | ⟨e1, hj⟩
          · cases e1; exact ⟨true, rfl, hR1.1, fun _ => (by rw [hnext]; exact hj), fun h => (by cases h)⟩
          · cases e1; exact ⟨false, rfl, hR1.1, fun h => (by cases h), fun _ => hj⟩
        refine gI hf (g_not hf rfl) (by intro c; simp) (by decide) ?_; clear hf a; intro a hf
        refine i_nil ((wpIn_wide (n := 0)).2 ?_)
        refine c_cond hf rfl (fun hc4 => ?_) (fun hc4 => ?_)
        · skip
          have hr : r = false := by simpa using hc4
          refine c_ret (q_blkR (q_thenR (q_thenR (q_blkR (q_blkR (q_thenR (q_thenR (q_blkR (q_scopeR ?_)))))))))
          refine e_ret0 hf rfl ?_
          exact ⟨⟨_, rfl⟩, hs.later.trans hl1, .inr ⟨_, by simp, hpre, hf1 hr⟩⟩
        · skip
          have hr : r = true := by simpa using hc4
          have hsn : St (Base.it w0 X w0.heap.size hXl (Nat.le_refl _) ⟨J (truesTo (k.ws.getD i default) ((k.ws.getD i default).bl + ((u : Nat) : Int)) ++ rowTo (k.ws.getD i default) ((k.ws.getD i default).bl + ((u : Nat) : Int)) ((k.ws.getD i default).tl + ((c + 1 : Nat) : Int) - 1)), hJB _⟩) _ [(b1, .cells (encW (k.ws.getD i default)).toArray 47 (0, 0))] w1 := (hs.dropN 1).yielded (K' := ⟨J (truesTo (k.ws.getD i default) ((k.ws.getD i default).bl + ((u : Nat) : Int)) ++ rowTo (k.ws.getD i default) ((k.ws.getD i default).bl + ((u : Nat) : Int)) ((k.ws.getD i default).tl + ((c + 1 : Nat) : Int) - 1)), hJB _⟩) hl1 (ht1 hr)
          refine c_skip (q_blkN (q_thenN ?_))
          refine c_reg1 ?_
          refine gL hf (g_addI hf rfl rfl (by omega)) (by decide) ?_; clear hf a; intro a hf
          refine gL hf (g_mv hf rfl) (by decide) ?_; clear hf a; intro a hf
          refine e_nil1 (q_thenN ?_)
          exact ⟨c + 1, ⟨by omega, fun _ => by omega⟩, (by omega), hf.back (by repeat (first | (with_reducible exact Ext.base) | ((with_reducible refine Ext.cons ?_ ?_); (· rfl)) | ((with_reducible refine Ext.over ?_ ?_ ?_); (· rfl); (· rfl)))) (allKeys rfl) (.cons rfl .nil), hsn⟩
    · try simp only [decide_eq_true_eq, decide_eq_false_iff_not] at hc2
      have hsn : St (Base.it w0 X w0.heap.size hXl (Nat.le_refl _) ⟨J (truesTo (k.ws.getD i default) ((k.ws.getD i default).bl + ((u + 1 : Nat) : Int))), hJB _⟩) [BlkIs bb #[.int .i64 k.sh.wide, .int .i64 k.sh.high, .slice fA k.sh.flaps.length fc, .slice rA k.sh.rules.length rc, .int .i64 k.gross, .int .i64 k.pay, .int .i64 k.fine, .slice wA k.ws.length wc, .slice dA k.ws.length dc, .map (some mb)] 89 (0, 0), BlkIs bw #[.int .i64 ((i : Nat) : Int)] 3 (0, 0), Rd encW 6 wA k.ws.length k.ws] [(b1, .cells (encW (k.ws.getD i default)).toArray 47 (0, 0))] w := by rw [show (k.ws.getD i default).bl + ((u + 1 : Nat) : Int) = (k.ws.getD i default).bl + ((u : Nat) : Int) + 1 by omega, trues_succ (by omega), row_stop (t := (k.ws.getD i default).tl + ((c : Nat) : Int)) (by omega) (by omega) (fun h9 => by have := hc0 (by omega); omega) (.inl (by omega))]; exact hs
      refine c_exit (q_thenX (q_thenX (q_blkX (q_blkN (q_thenN ?_)))))
      refine c_reg1 ?_
      refine gL hf (g_addI hf rfl rfl (by omega)) (by decide) ?_; clear hf a; intro a hf
      refine gL hf (g_mv hf rfl) (by decide) ?_; clear hf a; intro a hf
      refine e_nil1 (q_thenN ?_)
      exact ⟨u + 1, (by omega), (by omega), hf.back (by repeat (first | (with_reducible exact Ext.base) | ((with_reducible refine Ext.cons ?_ ?_); (· rfl)) | ((with_reducible refine Ext.over ?_ ?_ ?_); (· rfl); (· rfl)))) (allKeys rfl) (.cons rfl .nil), hsn⟩
  · try simp only [decide_eq_true_eq, decide_eq_false_iff_not] at hc1
    have hue : ((u : Nat) : Int) = (k.ws.getD i default).bh - (k.ws.getD i default).bl + 1 := by omega
    have hfin : truesTo (k.ws.getD i default) ((k.ws.getD i default).bl + ((u : Nat) : Int)) = trues (k.ws.getD i default) := by rw [trues_eq, hue]; congr 1; omega
    refine c_exit (q_thenX (q_thenX (q_blkX (q_scopeN ?_))))
    refine e_end0 hf rfl ?_
    exact ⟨⟨_, rfl⟩, hs.later, .inl (by rw [← hfin]; exact hs.kept)⟩

theorem c_truths (k : Bk) (fA : Option Addr) (fc : Nat) (rA : Option Addr) (rc : Nat) (wA : Option Addr) (wc : Nat) (dA : Option Addr) (dc mb : Nat) (i : Nat) (w0 : World) :
    Calls Tryd.prog 110 #[.agg #[.int .i64 k.sh.wide, .int .i64 k.sh.high, .slice fA k.sh.flaps.length fc, .slice rA k.sh.rules.length rc, .int .i64 k.gross, .int .i64 k.pay, .int .i64 k.fine, .slice wA k.ws.length wc, .slice dA k.ws.length dc, .map (some mb)], .int .i64 ((i : Nat) : Int)] w0 (RetX w0 fun v w0' => ∃ b2 b3, v = .func (.func 128) #[] #[.pointer (some ⟨b2, 0, none⟩), .pointer (some ⟨b3, 0, none⟩)] ∧ Fresh w0 w0' (BlkIs b2 #[.int .i64 k.sh.wide, .int .i64 k.sh.high, .slice fA k.sh.flaps.length fc, .slice rA k.sh.rules.length rc, .int .i64 k.gross, .int .i64 k.pay, .int .i64 k.fine, .slice wA k.ws.length wc, .slice dA k.ws.length dc, .map (some mb)] 89 (0, 0)) ∧ Fresh w0 w0' (BlkIs b3 #[.int .i64 ((i : Nat) : Int)] 3 (0, 0))) := by
  refine c_enter (n := 6) Tryd.func110 rfl rfl (Nat.le_of_ble_eq_true rfl) ?_; intro a hf; simp only [zipR] at hf
  have hs := St.start w0 [] (by simp)
  refine c_reg ?_
  refine vL hf (v_boxA hf hs rfl) (by decide) ?_; clear hs hf a; rintro _ w ⟨b1, rfl, hs⟩ a hf
  refine vL hf (v_box hf hs rfl rfl) (by decide) ?_; clear hs hf a; rintro _ w ⟨b2, rfl, hs⟩ a hf
  refine gL hf (g_as hf rfl) (by decide) ?_; clear hf a; intro a hf
  refine e_nil ?_
  refine c_reg ?_
  refine gL hf (g_fn hf rfl rfl) (by decide) ?_; clear hf a; intro a hf
  refine gL hf (g_as hf rfl) (by decide) ?_; clear hf a; intro a hf
  refine e_nil ?_
  refine c_ret ?_
  refine e_ret1 hf rfl rfl ?_
  exact ⟨_, rfl, hs.below, _, _, rfl, fresh_own hs (.tail _ (.head _)), fresh_own hs (.head _)⟩

end Go.Proofs.YtjjcopeedcdokaaDoor

set_option linter.unusedVariables false
set_option linter.unusedSimpArgs false
namespace Go.Proofs.YtjjcopeedcdokaaDoor
open Go.RowKit
theorem Stable.seq {Xs X : List Nat} {w W : World} {D : World → Prop} (h : Stable Xs w D) (h1 : Later Xs w W) (h2 : ∀ i ∈ X, i < w.heap.size → i ∈ Xs) : Stable X W D := fun W' hl =>
  h W' ⟨Nat.le_trans h1.1 hl.1, fun i hi hn => (hl.2 i (by have := h1.1; omega) (fun hx => hn (h2 i hx hi))).trans (h1.2 i hi hn)⟩
theorem seq_truths (k : Bk) (fA : Option Addr) (fc : Nat) (rA : Option Addr) (rc : Nat) (wA : Option Addr) (wc : Nat) (dA : Option Addr) (dc mb : Nat) (i : Nat) (hi : i < k.ws.length) (hx : WkrV k.sh (k.ws.getD i default)) (bb bw : Nat) {Xs : List Nat} {w : World}
    (hB : Stable Xs w (BlkIs bb #[.int .i64 k.sh.wide, .int .i64 k.sh.high, .slice fA k.sh.flaps.length fc, .slice rA k.sh.rules.length rc, .int .i64 k.gross, .int .i64 k.pay, .int .i64 k.fine, .slice wA k.ws.length wc, .slice dA k.ws.length dc, .map (some mb)] 89 (0, 0)))
    (hW : Stable Xs w (BlkIs bw #[.int .i64 ((i : Nat) : Int)] 3 (0, 0))) (hR : Stable Xs w (Rd encW 6 wA k.ws.length k.ws)) :
    SeqV Tryd.prog 128 [.pointer (some ⟨bb, 0, none⟩), .pointer (some ⟨bw, 0, none⟩)] (fun c => .agg (cameV i c).toArray) (trues (k.ws.getD i default)) Xs w :=
  fun l X J Jx W h1 h2 h3 h4 h5 h6 => c_truths1 k fA fc rA rc wA wc dA dc mb i hi hx bb bw l X J Jx W h3 h4 h5 h6 (hB.seq h1 h2) (hW.seq h1 h2) (hR.seq h1 h2)
/-- The table of what is told of a truth. -/
abbrev toldA : Array Value := #[.func (.func 159) #[] #[], .func (.func 160) #[] #[], .func (.func 161) #[] #[]]
abbrev toldF (what : Nat) : Nat := 159 + what
theorem told_get {what : Nat} (h : what < 3) : toldA[what]? = some (.func (.func (toldF what)) #[] #[]) := by
  rcases (show what = 0 ∨ what = 1 ∨ what = 2 by omega) with rfl | rfl | rfl <;> rfl
theorem hp_rng {d n : Int} (h : 0 ≤ n ∧ n ≤ 600) : (0 ≤ (hp d n).1 ∧ (hp d n).1 ≤ 600) ∧ 0 ≤ (hp d n).2 ∧ (hp d n).2 ≤ 600 := by
  unfold hp
  split
  · exact ⟨h, h⟩
  · split
    · exact ⟨⟨by simp, by simp⟩, h⟩
    · exact ⟨⟨by simp, by simp⟩, by simp, by simp⟩
/-- What is paid, part by part, fits. -/
theorem pay_rng {k : Bk} (hv : BkV k) {p m : Int} (hp : 0 ≤ p ∧ p ≤ 600) (hm : 0 ≤ m ∧ m ≤ 600) : (0 ≤ p.tdiv k.gross ∧ p.tdiv k.gross ≤ 600) ∧ (0 ≤ p.tdiv k.gross * k.pay ∧ p.tdiv k.gross * k.pay ≤ 600 * 999) ∧ -(600 * 99) ≤ -m * k.fine ∧ -m * k.fine ≤ 0 := by
  have h1 := tdiv_rng hv.g1 hp.1
  have h2 := mul_rng (a := p.tdiv k.gross) (A := 600) (b := k.pay) (B := 999) ⟨h1.1, by omega⟩ ⟨hv.p1, hv.p2⟩
  have h3 := mul_rng (a := m) (A := 600) (b := k.fine) (B := 99) hm ⟨hv.f1, hv.f2⟩
  refine ⟨⟨h1.1, by omega⟩, h2, ?_, ?_⟩ <;> rw [Int.neg_mul] <;> omega
theorem rd_two {x y : Int} {b : Nat} {e : TypeId} {fz : Nat × Nat} {w : World} (hb : w.heap[b]? = some (.cells #[.int .i64 x, .int .i64 y] e fz)) : Rd encI 1 (some ⟨b, 0, none⟩) 2 [x, y] w :=
  rd_of_block hb rfl (by decide) fun i u hi j v hj => by
    match i, hi with
    | 0, hi => cases hi; match j, hj with | 0, hj => cases hj; rfl
    | 1, hi => cases hi; match j, hj with | 0, hj => cases hj; rfl
theorem sum2 (a b : Int) : sumZ [a, b] = a + b := by simp [sumZ]
end Go.Proofs.YtjjcopeedcdokaaDoor

