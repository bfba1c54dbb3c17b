/- Part 6 of the proof of FoldDrops: laws of the engine, plain facts and contracts of the functions that the law reaches. Conditions: none beyond those of each theorem. -/
import Derived.Test.YtpjhffockmnjbaaDoorFoldDropsE
set_option linter.unusedVariables false
set_option linter.unusedSimpArgs false
namespace Go.Proofs.YtpjhffockmnjbaaDoor
open Go.RowKit
theorem c_orders_step (b : Sheet) (k : Nat) (hv : Valid b) (ih : ∀ k2, k = k2 + 1 → OrdsSpec b k2) (fA : Option Addr) (fc : Nat) (rA : Option Addr) (rc : Nat) (A : Option Addr) (cp : Nat) (r : List Int) (w0 : World) (h : ShIn b fA fc rA rc w0) (hrk : r.length + k = b.flaps.length) (hcp : r.length ≤ cp) (hr : Rd encI 1 A r.length r w0) :
    Calls Tryd.prog 68 #[.agg #[.int .i64 b.wide, .int .i64 b.high, .slice fA b.flaps.length fc, .slice rA b.rules.length rc], .slice A r.length cp] w0 (RetX w0 (RowsOut (ordsR b k r) A w0)) := by
  refine c_enter (n := 41) Tryd.func68 rfl rfl (Nat.le_of_ble_eq_true rfl) ?_; intro a hf; simp only [zipR] at hf
  have hs := St.start w0 [Rd encF 5 fA b.flaps.length b.flaps, Rd encR 2 rA b.rules.length b.rules, Rd encI 1 A r.length r] (stab_app h.stab hr.st1)
  have hfm := h.F.2.1; have hrm := h.R.2.1; have hmany := hv.many; have hrlm := hr.2.1
  refine c_reg ?_
  refine vL hf (v_boxA hf hs rfl) (by decide) ?_; clear hs hf a; rintro _ w ⟨b1, rfl, hs⟩ a hf
  refine gL hf (g_as hf rfl) (by decide) ?_; clear hf a; intro a hf
  refine e_nil ?_
  refine wp_seq ?_
  refine c_reg ?_
  refine gL hf (g_mv hf rfl) (by decide) ?_; clear hf a; intro a hf
  refine gL hf (g_len hf SL27 rfl) (by decide) ?_; clear hf a; intro a hf
  refine gL hf (g_fa (off' := 2) hf F25_2 rfl rfl) (by decide) ?_; clear hf a; intro a hf
  refine gL hf (g_ld hf hs T22 rfl (k := 0) rfl rfl) (by decide) ?_; clear hf a; intro a hf
  refine gL hf (g_len hf SL22 rfl) (by decide) ?_; clear hf a; intro a hf
  refine gL hf (g_eql hf rfl rfl) (by decide) ?_; clear hf a; intro a hf
  refine e_nil ?_
  refine c_cond hf rfl (fun hc1 => ?_) (fun hc1 => ?_)
  · try simp only [decide_eq_true_eq, decide_eq_false_iff_not] at hc1
    have hfull : r.length = b.flaps.length := by simp at hc1; omega
    refine c_reg ?_
    refine gL hf (g_mv hf rfl) (by decide) ?_; clear hf a; intro a hf
    refine vL hf (v_lits (len := 1) hf hs SL82 T27 (.cons rfl .nil) rfl rfl rfl rfl (by decide) rfl) (by decide) ?_; clear hs hf a; rintro _ w ⟨b2, rfl, hs⟩ a hf
    refine gL hf (g_as hf rfl) (by decide) ?_; clear hf a; intro a hf
    refine e_nil ?_
    refine c_ret (q_thenR ?_)
    refine e_ret1 hf rfl rfl ?_
    exact ⟨_, rfl, hs.below, some ⟨b2, 0, none⟩, 1, [(A, cp, r)], rfl, by rw [ords_full hfull]; rfl, ⟨Nat.le_refl _, rd_one (enc := encT) (x := (A, cp, r)) rfl (hs.own _ _ (.head _)).2, fun bk off e => by cases e; exact (hs.own _ _ (.head _)).1⟩, fun t ht => by rw [List.mem_singleton.1 ht]; exact ⟨hcp, hs.rd (.tail _ (.tail _ (.head _)))⟩, fun t ht => by rw [List.mem_singleton.1 ht]; exact .inr rfl⟩
  · try simp only [decide_eq_true_eq, decide_eq_false_iff_not] at hc1
    have hnf : r.length ≠ b.flaps.length := by simp at hc1; omega
    obtain ⟨k2, hk2⟩ : ∃ k2, k = k2 + 1 := ⟨k - 1, by omega⟩
    have hform : ordsR b k r = (List.range b.flaps.length).flatMap (ordN b k2 r) := by rw [hk2]; exact ords_more hnf
    refine c_skip (q_thenN ?_)
    refine c_reg ?_
    refine gL hf (g_as hf rfl) (by decide) ?_; clear hf a; intro a hf
    refine e_nil ?_
    refine wp_seq ?_
    refine c_reg ?_
    refine gL hf (g_as hf rfl) (by decide) ?_; clear hf a; intro a hf
    refine e_nil ?_
    refine c_block ?_
    replace hs := hs.addD (D := TSD []) ((tsd_nil _).stab (fun t ht => by cases ht))
    refine c_loopD (fun s => Base.of w0) (fun s => TSD s.2.2 :: Rd encF 5 fA b.flaps.length b.flaps :: Rd encR 2 rA b.rules.length b.rules :: Rd encI 1 A r.length r :: []) hf (List.range' 5 3 ++ List.range' 16 24) (σ := (Nat × Acc × List Tr)) (fun s => [(5, accV 1 s.2.2.length s.2.1), (6, .int .i64 (s.1 : Nat))]) (fun s => (b1, .cells #[.int .i64 b.wide, .int .i64 b.high, .slice fA b.flaps.length fc, .slice rA b.rules.length rc] 25 (0, 0)) :: accH 27 s.2.1) (fun s => s.1 ≤ b.flaps.length ∧ AccOK encT 1 s.2.2 s.2.1 ∧ rowsT s.2.2 = (List.range s.1).flatMap (ordN b k2 r) ∧ ∀ t ∈ s.2.2, (∀ bk off, t.1 = some ⟨bk, off, none⟩ → w0.heap.size ≤ bk) ∨ t.1 = A) (fun s => b.flaps.length - s.1) (0, none, []) hs ⟨Nat.zero_le _, rfl, rfl, (fun t ht => by cases ht)⟩ (.cons rfl (.cons rfl .nil)) ?_
    intro ⟨i, oa, ts⟩ a w hJ hf hs
    dsimp only at hJ hf hs
    obtain ⟨hi2, hoa, hrws, hfrs⟩ := hJ
    refine wp_seq ?_
    refine c_reg ?_
    refine gL hf (g_mv hf rfl) (by decide) ?_; clear hf a; intro a hf
    refine gL hf (g_fa (off' := 2) hf F25_2 rfl rfl) (by decide) ?_; clear hf a; intro a hf
    refine gL hf (g_ld hf hs T22 rfl (k := 0) rfl rfl) (by decide) ?_; clear hf a; intro a hf
    refine gL hf (g_len hf SL22 rfl) (by decide) ?_; clear hf a; intro a hf
    refine gL hf (g_lss hf rfl rfl) (by decide) ?_; clear hf a; intro a hf
    refine e_nil ?_
    refine c_cond hf rfl (fun hc2 => ?_) (fun hc2 => ?_)
    · try simp only [decide_eq_true_eq, decide_eq_false_iff_not] at hc2
      have hii : i < b.flaps.length := by omega
      refine c_skip (q_thenN ?_)
      refine c_blockS ?_
      refine c_reg ?_
      refine gL hf (g_mv hf rfl) (by decide) ?_; clear hf a; intro a hf
      refine gL hf (g_mv hf rfl) (by decide) ?_; clear hf a; intro a hf
      refine callX hf hs (c_Plus _ _ r ((i : Nat) : Int) (by omega) _ (hs.rd (.tail _ (.tail _ (.tail _ (.head _)))))) rfl rfl rfl E99 (by decide) ?_; have hsz9 := fun bk hbk => hs.lt' (b := bk) hbk; have hsz0 := hs.below.size; intro v w1 a hR hb hs1 hf; obtain ⟨Ap, cp9, rfl, hou⟩ := hR; have hsz7 := hb.size; replace hs := hs.fresh hs1 (outFresh hou); clear hs1 hb
      refine gL hf (g_as hf rfl) (by decide) ?_; clear hf a; intro a hf
      refine e_nil ?_
      refine c_reg ?_
      refine gL hf (g_mv hf rfl) (by decide) ?_; clear hf a; intro a hf
      refine gL hf (g_mv hf rfl) (by decide) ?_; clear hf a; intro a hf
      refine callL hf hs (c_IndexR _ _ _ r _ _ (hs.rd (.tail _ (.tail _ (.tail _ (.tail _ (.head _))))))) rfl rfl rfl E44 (by decide) ?_; clear hs hf a; intro w a hs hf
      refine gL hf (g_lss hf rfl rfl) (by decide) ?_; clear hf a; intro a hf
      refine gL hf (g_mv hf rfl) (by decide) ?_; clear hf a; intro a hf
      refine ggL hf rfl rfl (gyes_t _) (fun hg => g_ldW hf hs T25 rfl (k := 0) rfl rfl) (by decide) ?_; clear hf a; intro a hf
      refine ggL hf rfl rfl (gyes_t _) (fun hg => g_mv hf rfl) (by decide) ?_; clear hf a; intro a hf
      refine callG hf hs rfl rfl (gyes_t _) (fun hg => ⟨_, _, _, _, c_doesR b _ _ _ _ _ _ (r ++ [((i : Nat) : Int)]) true hv _ ⟨hs.rd (.tail _ (.tail _ (.head _))), hs.rd (.tail _ (.tail _ (.tail _ (.head _)))), h.fc_, h.rc_⟩ (hs.rd (.head _)), rfl, evs_cons (ev_gv rfl hg) (evs_cons (ev_gv rfl hg) (evs_cons rfl evs_nil)), rfl⟩) E66 (by decide) ?_; clear hs hf a; intro w a hs hf
      refine gL hf (g_and hf rfl rfl) (by decide) ?_; clear hf a; intro a hf
      refine e_nil ?_
      refine c_cond hf rfl (fun hc3 => ?_) (fun hc3 => ?_)
      · skip
        rw [index_neg_iff] at hc3
        have hrn : ordN b k2 r i = ordsR b k2 (r ++ [((i : Nat) : Int)]) := by unfold ordN; rw [if_pos hc3]
        have hpb := ordPart_bound hmany.2 r (k := k2) (i := i + 1) (by omega) (by omega)
        rw [fm_snoc, hrn, ← hrws, List.length_append, rowsT_len] at hpb
        refine c_reg1 ?_
        refine gL hf (g_mv hf rfl) (by decide) ?_; clear hf a; intro a hf
        refine gL hf (g_ldW hf hs T25 rfl (k := 0) rfl rfl) (by decide) ?_; clear hf a; intro a hf
        refine gL hf (g_mv hf rfl) (by decide) ?_; clear hf a; intro a hf
        refine callX hf hs (ih k2 hk2 _ (r ++ [((i : Nat) : Int)]) Ap cp9 _ _ _ _ ⟨hs.rd (.tail _ (.tail _ (.head _))), hs.rd (.tail _ (.tail _ (.tail _ (.head _)))), h.fc_, h.rc_⟩ (by rw [List.length_append]; simp only [List.length_cons, List.length_nil]; omega) hou.1 (hs.rd (.head _))) rfl rfl rfl E68 (by decide) ?_; have hsz6 := hs.below.size; have hsz8 := fun bk hbk => hs.lt' (b := bk) hbk; intro v w1 a hR hb hs1 hf; obtain ⟨A5, c5, us, rfl, hus, houu, htu, hfu⟩ := hR; have hdis := dis_of hsz9 hsz8 hfu hou.2.2; replace hs := (hs.fresh hs1 houu.fresh).addD (D := TSD us) (htu.stab hdis); clear hs1 hb
        have hul : us.length = (ordsR b k2 (r ++ [((i : Nat) : Int)])).length := by rw [← hus, rowsT_len]
        refine vL hf (v_accN (e := 27) (R := []) (o := oa) (l := ts) (l' := us) hf 1 hs (by simp) hoa AP82 (enc := encT) (fun _ => rfl) (by decide) (by intro x v hv9; rw [List.mem_singleton.1 hv9]; rfl) rfl rfl rfl (hs.rd (.tail _ (.head _))) (by omega) (by decide)) (by decide) ?_; clear hs hf a; rintro _ w ⟨oa2, rfl, hoa2, hs⟩ a hf; dsimp only [List.take, List.cons_append, List.nil_append] at hs; rw [List.append_nil] at hs
        replace hs := hs.addD (tsd_app (hs.data _ (.tail _ (.tail _ (.tail _ (.head _))))) (hs.data _ (.head _)))
        rw [← List.length_append] at hf
        refine gL hf (g_as hf rfl) (by decide) ?_; clear hf a; intro a hf
        refine e_nil1 (q_blkN (q_thenN ?_))
        refine c_reg1 ?_
        refine gL hf (g_mv hf rfl) (by decide) ?_; clear hf a; intro a hf
        refine gL hf (g_addI hf rfl rfl (by omega)) (by decide) ?_; clear hf a; intro a hf
        refine gL hf (g_as hf rfl) (by decide) ?_; clear hf a; intro a hf
        refine e_nil1 (q_thenN ?_)
        first | exact ⟨(i + 1, oa2, ts ++ us), ⟨by dsimp only; omega, hoa2, by dsimp only; rw [rowsT_app, hrws, hus, fm_snoc, hrn], fun t ht => by rcases List.mem_append.1 ht with ht | ht; exact hfrs t ht; exact .inl (new_of2 hsz0 hou.2.2 hfu hsz6 t ht)⟩, (by dsimp only; omega), hf.back (by repeat (first | (with_reducible exact Ext.base) | ((with_reducible refine Ext.cons ?_ ?_); (· rfl)) | ((with_reducible refine Ext.over ?_ ?_ ?_); (· rfl); (· rfl)))) (allKeys rfl) (.cons rfl (.cons rfl .nil)), (by first | exact hs.subD (fun _ h => by rcases List.mem_cons.1 h with rfl | h; exact .head _; exact .tail _ (.tail _ (.tail _ (.tail _ (.tail _ h))))) | exact hs.subD (fun _ h => .tail _ h))⟩ | exact ⟨(i + 1, oa, ts), ⟨by dsimp only; omega, hoa, by dsimp only; rw [fm_snoc, hrn, List.append_nil]; exact hrws, hfrs⟩, (by dsimp only; omega), hf.back (by repeat (first | (with_reducible exact Ext.base) | ((with_reducible refine Ext.cons ?_ ?_); (· rfl)) | ((with_reducible refine Ext.over ?_ ?_ ?_); (· rfl); (· rfl)))) (allKeys rfl) (.cons rfl (.cons rfl .nil)), (by first | exact hs.subD (fun _ h => by rcases List.mem_cons.1 h with rfl | h; exact .head _; exact .tail _ (.tail _ (.tail _ (.tail _ (.tail _ h))))) | exact hs.subD (fun _ h => .tail _ h))⟩
      · skip
        rw [index_neg_iff] at hc3
        have hrn : ordN b k2 r i = [] := by unfold ordN; rw [hc3]; simp
        refine c_skip (q_blkN (q_thenN ?_))
        refine c_reg1 ?_
        refine gL hf (g_mv hf rfl) (by decide) ?_; clear hf a; intro a hf
        refine gL hf (g_addI hf rfl rfl (by omega)) (by decide) ?_; clear hf a; intro a hf
        refine gL hf (g_as hf rfl) (by decide) ?_; clear hf a; intro a hf
        refine e_nil1 (q_thenN ?_)
        first | exact ⟨(i + 1, oa2, ts ++ us), ⟨by dsimp only; omega, hoa2, by dsimp only; rw [rowsT_app, hrws, hus, fm_snoc, hrn], fun t ht => by rcases List.mem_append.1 ht with ht | ht; exact hfrs t ht; exact .inl (new_of2 hsz0 hou.2.2 hfu hsz6 t ht)⟩, (by dsimp only; omega), hf.back (by repeat (first | (with_reducible exact Ext.base) | ((with_reducible refine Ext.cons ?_ ?_); (· rfl)) | ((with_reducible refine Ext.over ?_ ?_ ?_); (· rfl); (· rfl)))) (allKeys rfl) (.cons rfl (.cons rfl .nil)), (by first | exact hs.subD (fun _ h => by rcases List.mem_cons.1 h with rfl | h; exact .head _; exact .tail _ (.tail _ (.tail _ (.tail _ (.tail _ h))))) | exact hs.subD (fun _ h => .tail _ h))⟩ | exact ⟨(i + 1, oa, ts), ⟨by dsimp only; omega, hoa, by dsimp only; rw [fm_snoc, hrn, List.append_nil]; exact hrws, hfrs⟩, (by dsimp only; omega), hf.back (by repeat (first | (with_reducible exact Ext.base) | ((with_reducible refine Ext.cons ?_ ?_); (· rfl)) | ((with_reducible refine Ext.over ?_ ?_ ?_); (· rfl); (· rfl)))) (allKeys rfl) (.cons rfl (.cons rfl .nil)), (by first | exact hs.subD (fun _ h => by rcases List.mem_cons.1 h with rfl | h; exact .head _; exact .tail _ (.tail _ (.tail _ (.tail _ (.tail _ h))))) | exact hs.subD (fun _ h => .tail _ h))⟩
    · try simp only [decide_eq_true_eq, decide_eq_false_iff_not] at hc2
      obtain rfl : i = b.flaps.length := by omega
      have hn1 : ∀ q, oa = some q → w0.heap.size ≤ q.1 := fun q e => by subst e; exact (hs.own _ _ (.tail _ (.head _))).1
      obtain ⟨A3, c3, e3, hl3, hs⟩ := hs.freeze (R := []) (e := 27) (o := oa) (enc := encT) (sz := 1) 1 (by simp) hoa (fun _ => rfl) (by decide)
      have hA3 := acc_new hn1 e3
      rw [e3] at hf
      refine c_exit (q_thenX (q_thenX (q_blkX (q_thenN ?_))))
      refine c_reg ?_
      refine gL hf (g_mv hf rfl) (by decide) ?_; clear hf a; intro a hf
      refine gL hf (g_as hf rfl) (by decide) ?_; clear hf a; intro a hf
      refine e_nil ?_
      refine c_ret ?_
      refine e_ret1 hf rfl rfl ?_
      exact ⟨_, rfl, hs.below, A3, c3, ts, rfl, by rw [hform]; exact hrws, ⟨hl3, hs.rd (.head _), hA3⟩, hs.rd (.tail _ (.head _)), hfrs⟩

theorem c_chain_step (b : Sheet) (l : List Int) (k : Nat) (hv : Valid b) (hok : Ok b l) (hl : l.length = b.flaps.length) (hk8 : k ≤ 100) (ih : ChainSpec b l k) (fA : Option Addr) (fc : Nat) (rA : Option Addr) (rc : Nat) (g : Int) (w0 : World) (h : ShIn b fA fc rA rc w0) (hg : inN b g) (hidx : l.idxOf g < k + 1) :
    Calls Tryd.prog 73 #[.agg #[.int .i64 b.wide, .int .i64 b.high, .slice fA b.flaps.length fc, .slice rA b.rules.length rc], .int .i64 g] w0 (Ret w0 (.int .i64 (chainR b (k + 1) g))) := by
  refine c_enter (n := 25) Tryd.func73 rfl rfl (Nat.le_of_ble_eq_true rfl) ?_; intro a hf; simp only [zipR] at hf
  have hs := St.start w0 [Rd encF 5 fA b.flaps.length b.flaps, Rd encR 2 rA b.rules.length b.rules] h.stab
  have hfm := h.F.2.1; have hrm := h.R.2.1; have hmany := hv.many
  refine c_reg ?_
  refine vL hf (v_boxA hf hs rfl) (by decide) ?_; clear hs hf a; rintro _ w ⟨b1, rfl, hs⟩ a hf
  refine gL hf (g_as hf rfl) (by decide) ?_; clear hf a; intro a hf
  refine e_nil ?_
  refine c_reg ?_
  refine gL hf (g_as hf rfl) (by decide) ?_; clear hf a; intro a hf
  refine e_nil ?_
  refine wp_seq ?_
  refine c_reg ?_
  refine gL hf (g_as hf rfl) (by decide) ?_; clear hf a; intro a hf
  refine e_nil ?_
  refine c_block ?_
  refine c_loop hf hs [5, 6, 7, 8, 9, 10, 11, 12, 13, 14, 15, 16, 17, 18, 19, 20, 21, 22] (σ := Nat) (fun i => [(5, .int .i64 (maxTo (chF1 b k g) i)), (6, .int .i64 (i : Nat))]) (fun i => _) (fun i => i ≤ b.flaps.length) (fun i => b.flaps.length - i) 0 (by omega) (.cons rfl (.cons rfl .nil)) rfl ?_
  intro i a w hJ hf hs
  refine wp_seq ?_
  refine c_reg ?_
  refine gL hf (g_mv hf rfl) (by decide) ?_; clear hf a; intro a hf
  refine gL hf (g_fa (off' := 2) hf F25_2 rfl rfl) (by decide) ?_; clear hf a; intro a hf
  refine gL hf (g_ld hf hs T22 rfl (k := 0) rfl rfl) (by decide) ?_; clear hf a; intro a hf
  refine gL hf (g_len hf SL22 rfl) (by decide) ?_; clear hf a; intro a hf
  refine gL hf (g_lss hf rfl rfl) (by decide) ?_; clear hf a; intro a hf
  refine e_nil ?_
  refine c_cond hf rfl (fun hc1 => ?_) (fun hc1 => ?_)
  · try simp only [decide_eq_true_eq, decide_eq_false_iff_not] at hc1
    refine c_skip (q_thenN ?_)
    refine c_blockS ?_
    refine c_reg ?_
    refine gL hf (g_ldW hf hs T25 rfl (k := 0) rfl rfl) (by decide) ?_; clear hf a; intro a hf
    refine gL hf (g_mv hf rfl) (by decide) ?_; clear hf a; intro a hf
    refine gL hf (g_mv hf rfl) (by decide) ?_; clear hf a; intro a hf
    refine callL hf hs (c_over b _ _ _ _ _ _ true hv _ ⟨hs.rd (.head _), hs.rd (.tail _ (.head _)), h.fc_, h.rc_⟩) rfl rfl rfl E95 (by decide) ?_; clear hs hf a; intro w a hs hf
    rw [overB_overP hv] at hf
    refine e_nil ?_
    refine c_cond hf rfl (fun hc2 => ?_) (fun hc2 => ?_)
    · skip
      have hidx2 : l.idxOf ((i : Nat) : Int) < k := by have := ok_over hok (ord_mem (ok_ord hok hl) hg) hc2; omega
      have hst : maxTo (chF1 b k g) (i + 1) = max (maxTo (chF1 b k g) i) (chainR b k ((i : Nat) : Int)) := by simp only [maxTo, chF1]; rw [if_pos hc2]
      refine c_reg1 ?_
      refine gL hf (g_mv hf rfl) (by decide) ?_; clear hf a; intro a hf
      refine gL hf (g_ldW hf hs T25 rfl (k := 0) rfl rfl) (by decide) ?_; clear hf a; intro a hf
      refine gL hf (g_mv hf rfl) (by decide) ?_; clear hf a; intro a hf
      refine callL hf hs (ih _ ((i : Nat) : Int) _ _ _ _ ⟨hs.rd (.head _), hs.rd (.tail _ (.head _)), h.fc_, h.rc_⟩ ⟨by omega, by omega⟩ hidx2) rfl rfl rfl E73 (by decide) ?_; clear hs hf a; intro w a hs hf
      refine gL hf (g_max hf rfl rfl) (by decide) ?_; clear hf a; intro a hf
      refine gL hf (g_as hf rfl) (by decide) ?_; clear hf a; intro a hf
      refine e_nil1 (q_blkN (q_thenN ?_))
      refine c_reg1 ?_
      refine gL hf (g_mv hf rfl) (by decide) ?_; clear hf a; intro a hf
      refine gL hf (g_addI hf rfl rfl (by omega)) (by decide) ?_; clear hf a; intro a hf
      refine gL hf (g_as hf rfl) (by decide) ?_; clear hf a; intro a hf
      refine e_nil1 (q_thenN ?_)
      rw [← hst] at hf
      exact ⟨i + 1, (by omega), (by omega), hf.back (by repeat (first | (with_reducible exact Ext.base) | ((with_reducible refine Ext.cons ?_ ?_); (· rfl)) | ((with_reducible refine Ext.over ?_ ?_ ?_); (· rfl); (· rfl)))) (allKeys rfl) (.cons rfl (.cons rfl .nil)), hs.dropN 0⟩
    · skip
      have hst : maxTo (chF1 b k g) (i + 1) = maxTo (chF1 b k g) i := by have h0 := (chain_part (b := b) (k := k) (f := g) (i := i)).1; simp only [maxTo]; rw [show chF1 b k g i = 0 by unfold chF1; rw [if_neg (by rw [hc2]; decide)]]; omega
      refine c_skip (q_blkN (q_thenN ?_))
      refine c_reg1 ?_
      refine gL hf (g_mv hf rfl) (by decide) ?_; clear hf a; intro a hf
      refine gL hf (g_addI hf rfl rfl (by omega)) (by decide) ?_; clear hf a; intro a hf
      refine gL hf (g_as hf rfl) (by decide) ?_; clear hf a; intro a hf
      refine e_nil1 (q_thenN ?_)
      rw [← hst] at hf
      exact ⟨i + 1, (by omega), (by omega), hf.back (by repeat (first | (with_reducible exact Ext.base) | ((with_reducible refine Ext.cons ?_ ?_); (· rfl)) | ((with_reducible refine Ext.over ?_ ?_ ?_); (· rfl); (· rfl)))) (allKeys rfl) (.cons rfl (.cons rfl .nil)), hs.dropN 0⟩
  · try simp only [decide_eq_true_eq, decide_eq_false_iff_not] at hc1
    obtain rfl : i = b.flaps.length := by omega
    have hcp9 := chain_part (b := b) (k := k) (f := g) (i := b.flaps.length)
    refine c_exit (q_thenX (q_thenX (q_blkX (q_thenN ?_))))
    refine c_reg ?_
    refine gL hf (g_mv hf rfl) (by decide) ?_; clear hf a; intro a hf
    refine gL hf (g_addI hf rfl rfl (by omega)) (by decide) ?_; clear hf a; intro a hf
    refine gL hf (g_as hf rfl) (by decide) ?_; clear hf a; intro a hf
    refine e_nil ?_
    refine c_ret ?_
    refine e_ret1 hf rfl rfl ?_
    exact ⟨rfl, hs.below⟩

end Go.Proofs.YtpjhffockmnjbaaDoor
set_option linter.unusedVariables false
set_option linter.unusedSimpArgs false
namespace Go.Proofs.YtpjhffockmnjbaaDoor
open Go.RowKit
theorem c_ordersR {b : Sheet} (hv : Valid b) : ∀ k, OrdsSpec b k
  | 0 => fun w r A cp fA fc rA rc h1 h2 h3 h4 => c_orders_step b 0 hv (fun k2 e => by cases e) fA fc rA rc A cp r w h1 h2 h3 h4
  | k + 1 => fun w r A cp fA fc rA rc h1 h2 h3 h4 => c_orders_step b (k + 1) hv (fun k2 e => by cases e; exact c_ordersR hv k) fA fc rA rc A cp r w h1 h2 h3 h4
theorem c_chain {b : Sheet} {l : List Int} (hv : Valid b) (hok : Ok b l) (hl : l.length = b.flaps.length) : ∀ k, k ≤ 100 → ChainSpec b l k
  | 0, _ => fun w f fA fc rA rc h1 h2 h3 => absurd h3 (by omega)
  | k + 1, hk => fun w f fA fc rA rc h1 h2 h3 => c_chain_step b l k hv hok hl (by omega) (c_chain hv hok hl k (by omega)) fA fc rA rc f w h1 h2 h3
abbrev chM (b : Sheet) : Nat → Int := fun i => chainR b 8 ((i : Nat) : Int)
theorem chM_part {b : Sheet} {i : Nat} : 0 ≤ maxTo (chM b) i ∧ maxTo (chM b) i ≤ 9 := maxTo_le (by omega) i fun j _ => by have := (chain_rng b 8 ((j : Nat) : Int)).2; simp only [chM]; omega
end Go.Proofs.YtpjhffockmnjbaaDoor
set_option linter.unusedVariables false
set_option linter.unusedSimpArgs false
namespace Go.Proofs.YtpjhffockmnjbaaDoor
open Go.RowKit
theorem c_OrderR (b : Sheet) (fA : Option Addr) (fc : Nat) (rA : Option Addr) (rc : Nat)  (w0 : World) (h : ShIn b fA fc rA rc w0) :
    Calls Tryd.prog 23 #[.agg #[.int .i64 b.wide, .int .i64 b.high, .slice fA b.flaps.length fc, .slice rA b.rules.length rc]] w0 (RetX w0 (fun v w0' => ∃ A c, v = .tuple #[.slice A (orderP b).1.length c, .int .i64 (orderP b).2] ∧ Out (orderP b).1 A c w0 w0')) := by
  refine c_enter (n := 19) Tryd.func23 rfl rfl (Nat.le_of_ble_eq_true rfl) ?_; intro a hf; simp only [zipR] at hf
  have hs := St.start w0 [Rd encF 5 fA b.flaps.length b.flaps, Rd encR 2 rA b.rules.length b.rules] h.stab
  have hfm := h.F.2.1; have hrm := h.R.2.1
  refine c_reg ?_
  refine vL hf (v_boxA hf hs rfl) (by decide) ?_; clear hs hf a; rintro _ w ⟨b1, rfl, hs⟩ a hf
  refine gL hf (g_as hf rfl) (by decide) ?_; clear hf a; intro a hf
  refine gL hf (g_as hf rfl) (by decide) ?_; clear hf a; intro a hf
  refine e_nil ?_
  refine wp_seq ?_
  refine c_reg ?_
  refine gL hf (g_ldW hf hs T25 rfl (k := 0) rfl rfl) (by decide) ?_; clear hf a; intro a hf
  refine callL hf hs (c_CheckR b _ _ _ _ _ ⟨hs.rd (.head _), hs.rd (.tail _ (.head _)), h.fc_, h.rc_⟩) rfl rfl rfl E18 (by decide) ?_; clear hs hf a; intro w a hs hf
  refine gL hf (g_as hf rfl) (by decide) ?_; clear hf a; intro a hf
  refine e_nil ?_
  refine c_reg ?_
  refine gL hf (g_mv hf rfl) (by decide) ?_; clear hf a; intro a hf
  refine gL hf (g_neq hf rfl rfl) (by decide) ?_; clear hf a; intro a hf
  refine e_nil ?_
  refine c_cond hf rfl (fun hc1 => ?_) (fun hc1 => ?_)
  · skip
    have hck : checkB b = false := by cases h9 : checkB b with
            | false => rfl
            | true => rw [h9] at hc1; cases hc1
    have hb40 := bad_ask hck true
    refine c_reg ?_
    refine gL hf (g_mv hf rfl) (by decide) ?_; clear hf a; intro a hf
    refine gL hf (g_as hf rfl) (by decide) ?_; clear hf a; intro a hf
    refine gL hf (g_as hf rfl) (by decide) ?_; clear hf a; intro a hf
    refine e_nil ?_
    refine c_ret (q_thenR ?_)
    refine e_ret2 hf rfl rfl rfl ?_
    have hor : orderP b = ([], 40) := bad_order hck
    have e40 : (if checkB b = true then (0 : Int) else 40) = 40 := by rw [hck]; rfl
    exact ⟨_, rfl, hs.below, none, 0, by rw [hor, e40]; rfl, by rw [hor]; exact ⟨Nat.le_refl _, rd_nil, fun b o e => by cases e⟩⟩
  · skip
    have hck : checkB b = true := by cases h9 : checkB b with
            | true => rfl
            | false => rw [h9] at hc1; cases hc1
    have hv := valid_of hck
    have hmany := hv.many
    have hrl := hv.rules
    refine c_skip (q_thenN ?_)
    have hsz28 := hs.below.size
    have ha0 : askE b true = 0 := by simp [askE, hck]
    refine c_reg ?_
    refine gL hf (g_ldW hf hs T25 rfl (k := 0) rfl rfl) (by decide) ?_; clear hf a; intro a hf
    refine callX hf hs (c_ordersR hv b.flaps.length _ [] none 0 _ _ _ _ ⟨hs.rd (.head _), hs.rd (.tail _ (.head _)), h.fc_, h.rc_⟩ (by simp) (Nat.le_refl _) rd_nil) rfl rfl rfl E68 (by decide) ?_; have hsz8 := fun bk hbk => hs.lt' (b := bk) hbk; intro v w1 a hR hb hs1 hf; obtain ⟨A5, c5, us, rfl, hus, houu, htu, hfu⟩ := hR; rw [ordsR_all hv] at hus; replace hs := (hs.fresh hs1 houu.fresh).addD (D := TSD us) (htu.stab (dis_of hsz8 hsz8 hfu (fun bk off e => by cases e))); clear hs1 hb
    refine gL hf (g_as hf rfl) (by decide) ?_; clear hf a; intro a hf
    refine e_nil ?_
    refine wp_seq ?_
    refine c_reg ?_
    refine gL hf (g_mv hf rfl) (by decide) ?_; clear hf a; intro a hf
    refine gL hf (g_len hf SL82 rfl) (by decide) ?_; clear hf a; intro a hf
    refine gL hf (g_eql hf rfl rfl) (by decide) ?_; clear hf a; intro a hf
    refine e_nil ?_
    refine c_cond hf rfl (fun hc2 => ?_) (fun hc2 => ?_)
    · try simp only [decide_eq_true_eq, decide_eq_false_iff_not] at hc2
      have hu0 : us = [] := by simpa using hc2
      refine c_reg ?_
      refine gL hf (g_as hf rfl) (by decide) ?_; clear hf a; intro a hf
      refine gL hf (g_as hf rfl) (by decide) ?_; clear hf a; intro a hf
      refine e_nil ?_
      refine c_ret (q_thenR ?_)
      refine e_ret2 hf rfl rfl rfl ?_
      have hor : orderP b = ([], 4) := by rw [hu0] at hus; simp only [orderP, ha0, ← hus]; rfl
      exact ⟨_, rfl, hs.below, none, 0, by rw [hor]; rfl, by rw [hor]; exact ⟨Nat.le_refl _, rd_nil, fun b o e => by cases e⟩⟩
    · try simp only [decide_eq_true_eq, decide_eq_false_iff_not] at hc2
      have hu1 : 0 < us.length := by cases us with | nil => simp at hc2 | cons u us => simp
      refine c_skip (q_thenN ?_)
      refine c_reg ?_
      refine gL hf (g_mv hf rfl) (by decide) ?_; clear hf a; intro a hf
      (first | (refine gL hf (g_ixE hf hs (.tail _ (.head _)) SL82 rfl rfl (by omega)) (by decide) ?_) | (refine gL hf (g_ixD hf hs (.tail _ (.head _)) SL82 rfl rfl (by omega)) (by decide) ?_)); clear hf a; intro a hf
      refine gL hf (g_ldE hf hs (.tail _ (.head _)) T27 rfl rfl (by omega)) (by decide) ?_; clear hf a; intro a hf
      refine gL hf (g_as hf rfl) (by decide) ?_; clear hf a; intro a hf
      refine gL hf (g_as hf rfl) (by decide) ?_; clear hf a; intro a hf
      refine e_nil ?_
      refine c_ret ?_
      refine e_ret2 hf rfl rfl rfl ?_
      have htj := (hs.rd (.head _)) _ (getD_mem (l := us) (i := 0) hu1)
      have hor : orderP b = ((us.getD 0 default).2.2, 0) := by
          cases us with
          | nil => simp at hu1
          | cons u us => simp only [orderP, ha0, ← hus]; rfl
      exact ⟨_, rfl, hs.below, (us.getD 0 default).1, (us.getD 0 default).2.1, by rw [hor], by rw [hor]; exact ⟨htj.1, htj.2, fun bk off e => by rcases hfu _ (getD_mem (l := us) (i := 0) hu1) with h7 | h7; (exact Nat.le_trans hsz28 (h7 bk off e)); (rw [h7] at e; cases e)⟩⟩

theorem c_OrdersR (b : Sheet) (fA : Option Addr) (fc : Nat) (rA : Option Addr) (rc : Nat)  (w0 : World) (h : ShIn b fA fc rA rc w0) :
    Calls Tryd.prog 26 #[.agg #[.int .i64 b.wide, .int .i64 b.high, .slice fA b.flaps.length fc, .slice rA b.rules.length rc]] w0 (Ret w0 (.tuple #[.int .i64 (countP b).1, .int .i64 (countP b).2])) := by
  refine c_enter (n := 13) Tryd.func26 rfl rfl (Nat.le_of_ble_eq_true rfl) ?_; intro a hf; simp only [zipR] at hf
  have hs := St.start w0 [Rd encF 5 fA b.flaps.length b.flaps, Rd encR 2 rA b.rules.length b.rules] h.stab
  have hfm := h.F.2.1; have hrm := h.R.2.1
  refine c_reg ?_
  refine vL hf (v_boxA hf hs rfl) (by decide) ?_; clear hs hf a; rintro _ w ⟨b1, rfl, hs⟩ a hf
  refine gL hf (g_as hf rfl) (by decide) ?_; clear hf a; intro a hf
  refine gL hf (g_as hf rfl) (by decide) ?_; clear hf a; intro a hf
  refine e_nil ?_
  refine wp_seq ?_
  refine c_reg ?_
  refine gL hf (g_ldW hf hs T25 rfl (k := 0) rfl rfl) (by decide) ?_; clear hf a; intro a hf
  refine callL hf hs (c_CheckR b _ _ _ _ _ ⟨hs.rd (.head _), hs.rd (.tail _ (.head _)), h.fc_, h.rc_⟩) rfl rfl rfl E18 (by decide) ?_; clear hs hf a; intro w a hs hf
  refine gL hf (g_as hf rfl) (by decide) ?_; clear hf a; intro a hf
  refine e_nil ?_
  refine c_reg ?_
  refine gL hf (g_mv hf rfl) (by decide) ?_; clear hf a; intro a hf
  refine gL hf (g_neq hf rfl rfl) (by decide) ?_; clear hf a; intro a hf
  refine e_nil ?_
  refine c_cond hf rfl (fun hc1 => ?_) (fun hc1 => ?_)
  · skip
    have hck : checkB b = false := by cases h9 : checkB b with
            | false => rfl
            | true => rw [h9] at hc1; cases hc1
    have hb40 := bad_ask hck true
    refine c_reg ?_
    refine gL hf (g_mv hf rfl) (by decide) ?_; clear hf a; intro a hf
    refine gL hf (g_as hf rfl) (by decide) ?_; clear hf a; intro a hf
    refine gL hf (g_as hf rfl) (by decide) ?_; clear hf a; intro a hf
    refine e_nil ?_
    refine c_ret (q_thenR ?_)
    refine e_ret2 hf rfl rfl rfl ?_
    exact ⟨by rw [bad_count hck, hck]; rfl, hs.below⟩
  · skip
    have hck : checkB b = true := by cases h9 : checkB b with
            | true => rfl
            | false => rw [h9] at hc1; cases hc1
    have hv := valid_of hck
    have hmany := hv.many
    have hrl := hv.rules
    refine c_skip (q_thenN ?_)
    refine c_reg ?_
    refine gL hf (g_ldW hf hs T25 rfl (k := 0) rfl rfl) (by decide) ?_; clear hf a; intro a hf
    refine callX hf hs (c_ordersR hv b.flaps.length _ [] none 0 _ _ _ _ ⟨hs.rd (.head _), hs.rd (.tail _ (.head _)), h.fc_, h.rc_⟩ (by simp) (Nat.le_refl _) rd_nil) rfl rfl rfl E68 (by decide) ?_; have hsz8 := fun bk hbk => hs.lt' (b := bk) hbk; intro v w1 a hR hb hs1 hf; obtain ⟨A5, c5, us, rfl, hus, houu, htu, hfu⟩ := hR; rw [ordsR_all hv] at hus; replace hs := (hs.fresh hs1 houu.fresh).addD (D := TSD us) (htu.stab (dis_of hsz8 hsz8 hfu (fun bk off e => by cases e))); clear hs1 hb
    refine gL hf (g_len hf SL82 rfl) (by decide) ?_; clear hf a; intro a hf
    refine gL hf (g_as hf rfl) (by decide) ?_; clear hf a; intro a hf
    refine gL hf (g_as hf rfl) (by decide) ?_; clear hf a; intro a hf
    refine e_nil ?_
    refine c_ret ?_
    refine e_ret2 hf rfl rfl rfl ?_
    have hln : us.length = (allO b).length := by rw [← hus, rowsT_len]
    exact ⟨by rw [count_valid hv, hln], hs.below⟩

theorem c_RoundsR (b : Sheet) (fA : Option Addr) (fc : Nat) (rA : Option Addr) (rc : Nat)  (w0 : World) (h : ShIn b fA fc rA rc w0) :
    Calls Tryd.prog 30 #[.agg #[.int .i64 b.wide, .int .i64 b.high, .slice fA b.flaps.length fc, .slice rA b.rules.length rc]] w0 (Ret w0 (.tuple #[.int .i64 (roundP b).1, .int .i64 (roundP b).2])) := by
  refine c_enter (n := 28) Tryd.func30 rfl rfl (Nat.le_of_ble_eq_true rfl) ?_; intro a hf; simp only [zipR] at hf
  have hs := St.start w0 [Rd encF 5 fA b.flaps.length b.flaps, Rd encR 2 rA b.rules.length b.rules] h.stab
  have hfm := h.F.2.1; have hrm := h.R.2.1
  refine c_reg ?_
  refine vL hf (v_boxA hf hs rfl) (by decide) ?_; clear hs hf a; rintro _ w ⟨b1, rfl, hs⟩ a hf
  refine gL hf (g_as hf rfl) (by decide) ?_; clear hf a; intro a hf
  refine gL hf (g_as hf rfl) (by decide) ?_; clear hf a; intro a hf
  refine e_nil ?_
  refine wp_seq ?_
  refine c_reg ?_
  refine gL hf (g_ldW hf hs T25 rfl (k := 0) rfl rfl) (by decide) ?_; clear hf a; intro a hf
  refine callL hf hs (c_CheckR b _ _ _ _ _ ⟨hs.rd (.head _), hs.rd (.tail _ (.head _)), h.fc_, h.rc_⟩) rfl rfl rfl E18 (by decide) ?_; clear hs hf a; intro w a hs hf
  refine gL hf (g_as hf rfl) (by decide) ?_; clear hf a; intro a hf
  refine e_nil ?_
  refine c_reg ?_
  refine gL hf (g_mv hf rfl) (by decide) ?_; clear hf a; intro a hf
  refine gL hf (g_neq hf rfl rfl) (by decide) ?_; clear hf a; intro a hf
  refine e_nil ?_
  refine c_cond hf rfl (fun hc1 => ?_) (fun hc1 => ?_)
  · skip
    have hck : checkB b = false := by cases h9 : checkB b with
            | false => rfl
            | true => rw [h9] at hc1; cases hc1
    have hb40 := bad_ask hck true
    refine c_reg ?_
    refine gL hf (g_mv hf rfl) (by decide) ?_; clear hf a; intro a hf
    refine gL hf (g_as hf rfl) (by decide) ?_; clear hf a; intro a hf
    refine gL hf (g_as hf rfl) (by decide) ?_; clear hf a; intro a hf
    refine e_nil ?_
    refine c_ret (q_thenR ?_)
    refine e_ret2 hf rfl rfl rfl ?_
    exact ⟨by rw [bad_round hck, hck]; rfl, hs.below⟩
  · skip
    have hck : checkB b = true := by cases h9 : checkB b with
            | true => rfl
            | false => rw [h9] at hc1; cases hc1
    have hv := valid_of hck
    have hmany := hv.many
    have hrl := hv.rules
    refine c_skip (q_thenN ?_)
    refine wp_seq ?_
    have ha0 : askE b true = 0 := by simp [askE, hck]
    refine c_reg ?_
    refine gL hf (g_ldW hf hs T25 rfl (k := 0) rfl rfl) (by decide) ?_; clear hf a; intro a hf
    refine callX hf hs (c_ringR b _ _ _ _ hv _ ⟨hs.rd (.head _), hs.rd (.tail _ (.head _)), h.fc_, h.rc_⟩) rfl rfl rfl E72 (by decide) ?_; intro v w1 a hR hb hs1 hf; obtain ⟨o9, rfl, hm9, hok9⟩ := hR; replace hs := hs.fresh hs1 (fresh_of (hok9.2.1.stable fun bk off e hm => by have h1 := hok9.2.2.1 bk off e; simp at hm; omega)); clear hs1 hb
    refine gL hf (g_neNil hf SE27 rfl rfl) (by decide) ?_; clear hf a; intro a hf
    refine e_nil ?_
    refine c_cond hf rfl (fun hc2 => ?_) (fun hc2 => ?_)
    · skip
      rw [hok9.isNone] at hc2
      refine c_reg ?_
      refine gL hf (g_as hf rfl) (by decide) ?_; clear hf a; intro a hf
      refine gL hf (g_as hf rfl) (by decide) ?_; clear hf a; intro a hf
      refine e_nil ?_
      refine c_ret (q_thenR ?_)
      refine e_ret2 hf rfl rfl rfl ?_
      have hrp9 : roundP b = (0, 4) := by
          rcases told_cases hck with ⟨_, _, h2, _⟩ | ⟨lo, rest, _, _, _, h3, _⟩
          · simp only [roundP, ha0, h2, if_true]
          · rw [ringO_ring hck, ← hm9] at h3; cases o9 with
            | none => cases hc2
            | some t => (have h0 : (0 : Int) = 4 := congrArg Prod.snd h3); exact absurd h0 (by decide)
      exact ⟨by rw [hrp9], hs.below⟩
    · skip
      rw [hok9.isNone] at hc2
      obtain ⟨lo, hoko, hlo, hrp9⟩ : ∃ lo, Ok b lo ∧ lo.length = b.flaps.length ∧ roundP b = (roundN b lo, 0) := by
        rcases told_cases hck with ⟨_, _, _, r, hr9, _⟩ | ⟨lo, rest, _, h2, _, _, h3, h4, _⟩
        · rw [ringO_ring hck, ← hm9] at hr9; cases o9 with
          | none => cases hr9
          | some t => cases hc2
        · exact ⟨lo, h3, h4, by simp only [roundP, ha0, h2, if_true]⟩
      refine c_skip (q_thenN ?_)
      refine c_reg ?_
      refine gL hf (g_as hf rfl) (by decide) ?_; clear hf a; intro a hf
      refine e_nil ?_
      refine wp_seq ?_
      refine c_reg ?_
      refine gL hf (g_as hf rfl) (by decide) ?_; clear hf a; intro a hf
      refine e_nil ?_
      refine c_block ?_
      refine c_loop hf hs [5, 6, 15, 16, 17, 18, 19, 20, 21, 22, 23, 24, 25, 26] (σ := Nat) (fun i => [(5, .int .i64 (maxTo (chM b) i)), (6, .int .i64 (i : Nat))]) (fun i => _) (fun i => i ≤ b.flaps.length) (fun i => b.flaps.length - i) 0 (by omega) (.cons rfl (.cons rfl .nil)) rfl ?_
      intro i a w hJ hf hs
      refine wp_seq ?_
      refine c_reg ?_
      refine gL hf (g_mv hf rfl) (by decide) ?_; clear hf a; intro a hf
      refine gL hf (g_fa (off' := 2) hf F25_2 rfl rfl) (by decide) ?_; clear hf a; intro a hf
      refine gL hf (g_ld hf hs T22 rfl (k := 0) rfl rfl) (by decide) ?_; clear hf a; intro a hf
      refine gL hf (g_len hf SL22 rfl) (by decide) ?_; clear hf a; intro a hf
      refine gL hf (g_lss hf rfl rfl) (by decide) ?_; clear hf a; intro a hf
      refine e_nil ?_
      refine c_cond hf rfl (fun hc3 => ?_) (fun hc3 => ?_)
      · try simp only [decide_eq_true_eq, decide_eq_false_iff_not] at hc3
        refine c_skip (q_thenN ?_)
        refine c_blockS ?_
        refine c_reg1 ?_
        refine gL hf (g_mv hf rfl) (by decide) ?_; clear hf a; intro a hf
        refine gL hf (g_ldW hf hs T25 rfl (k := 0) rfl rfl) (by decide) ?_; clear hf a; intro a hf
        refine gL hf (g_mv hf rfl) (by decide) ?_; clear hf a; intro a hf
        refine callL hf hs (c_chain hv hoko hlo 8 (by omega) _ ((i : Nat) : Int) _ _ _ _ ⟨hs.rd (.tail _ (.head _)), hs.rd (.tail _ (.tail _ (.head _))), h.fc_, h.rc_⟩ ⟨by omega, by omega⟩ (by have := List.idxOf_le_length (a := ((i : Nat) : Int)) (l := lo); omega)) rfl rfl rfl E73 (by decide) ?_; clear hs hf a; intro w a hs hf
        refine gL hf (g_max hf rfl rfl) (by decide) ?_; clear hf a; intro a hf
        refine gL hf (g_as hf rfl) (by decide) ?_; clear hf a; intro a hf
        refine e_nil1 (q_blkN (q_thenN ?_))
        refine c_reg1 ?_
        refine gL hf (g_mv hf rfl) (by decide) ?_; clear hf a; intro a hf
        refine gL hf (g_addI hf rfl rfl (by omega)) (by decide) ?_; clear hf a; intro a hf
        refine gL hf (g_as hf rfl) (by decide) ?_; clear hf a; intro a hf
        refine e_nil1 (q_thenN ?_)
        exact ⟨i + 1, (by omega), (by omega), hf.back (by repeat (first | (with_reducible exact Ext.base) | ((with_reducible refine Ext.cons ?_ ?_); (· rfl)) | ((with_reducible refine Ext.over ?_ ?_ ?_); (· rfl); (· rfl)))) (allKeys rfl) (.cons rfl (.cons rfl .nil)), hs.dropN 0⟩
      · try simp only [decide_eq_true_eq, decide_eq_false_iff_not] at hc3
        obtain rfl : i = b.flaps.length := by omega
        refine c_exit (q_thenX (q_thenX (q_blkX (q_thenN ?_))))
        refine c_reg ?_
        refine gL hf (g_mv hf rfl) (by decide) ?_; clear hf a; intro a hf
        refine gL hf (g_as hf rfl) (by decide) ?_; clear hf a; intro a hf
        refine gL hf (g_as hf rfl) (by decide) ?_; clear hf a; intro a hf
        refine e_nil ?_
        refine c_ret ?_
        refine e_ret2 hf rfl rfl rfl ?_
        exact ⟨by rw [hrp9, rounds_eq hv hoko hlo], hs.below⟩

end Go.Proofs.YtpjhffockmnjbaaDoor
set_option linter.unusedVariables false
set_option linter.unusedSimpArgs false
namespace Go.Proofs.YtpjhffockmnjbaaDoor
theorem andI_one {i : Int} (h : 0 ≤ i ∧ i ≤ 9223372036854775807) : andI i 1 = i % 2 := by
  unfold andI
  have e : (BitVec.ofInt 64 i &&& BitVec.ofInt 64 1).toNat = i.toNat % 2 := by
    rw [BitVec.toNat_and, BitVec.toNat_ofInt, BitVec.toNat_ofInt]
    rw [show ((1 : Int) % ((2 ^ 64 : Nat) : Int)).toNat = 1 by decide, Nat.and_one_is_mod]
    congr 2
    exact Int.emod_eq_of_lt h.1 (by have : ((2 ^ 64 : Nat) : Int) = 18446744073709551616 := by decide
                                    omega)
  rw [e]
  rw [wrap_in (by omega)]
  omega
theorem mem_out {s : Int} {n : Nat} {x : Int} : x ∈ outL s n ↔ ∃ k, k < n ∧ bitI s k = true ∧ x = ((k : Nat) : Int) := by
  simp only [outL, List.mem_map, List.mem_filter, List.mem_range]
  constructor
  · rintro ⟨k, ⟨h1, h2⟩, rfl⟩; exact ⟨k, h1, h2, rfl⟩
  · rintro ⟨k, h1, h2, rfl⟩; exact ⟨k, ⟨h1, h2⟩, rfl⟩
theorem un_out (b : Sheet) (s : Int) : unB b (outL s b.rules.length) = dropB b s := by
  unfold unB dropB unR keepR
  congr 2
  apply List.filter_congr
  intro k hk
  have hk' := List.mem_range.1 hk
  congr 1
  rw [Bool.eq_iff_iff, decide_eq_true_eq, mem_out]
  constructor
  · rintro ⟨j, h1, h2, h3⟩
    obtain rfl : k = j := by omega
    exact h2
  · intro h; exact ⟨k, hk', h, rfl⟩
theorem out_grows (s : Int) (n : Nat) : growsB (outL s n) n = true := by
  have hs : (outL s n).Pairwise (· < ·) := by
    unfold outL
    rw [List.pairwise_map]
    exact (List.pairwise_lt_range.filter _).imp fun h => by omega
  refine grows_yes fun i hi => ?_
  obtain ⟨k, hk, _, he⟩ := mem_out.1 (getD_mem hi)
  simp only [growsAt, Bool.and_eq_true, fitsB_iff, Bool.or_eq_true, decide_eq_true_eq]
  refine ⟨by rw [he]; omega, ?_⟩
  by_cases e : i = 0
  · exact .inl e
  · right
    have := List.pairwise_iff_getElem.1 hs (i - 1) i (by omega) hi (by omega)
    rw [List.getD_eq_getElem?_getD, List.getD_eq_getElem?_getD, List.getElem?_eq_getElem hi, List.getElem?_eq_getElem (by omega)]
    exact this
def better (x y : List Int) : Bool := decide (x.length < y.length) || (decide (x.length = y.length) && earlierB x y)
theorem better_self (x : List Int) : better x x = false := by simp [better, earlier_self]
theorem better_trans {x y z : List Int} (h1 : better x y = true) (h2 : better y z = true) : better x z = true := by
  simp only [better, Bool.or_eq_true, Bool.and_eq_true, decide_eq_true_eq] at h1 h2 ⊢
  rcases h1 with h1 | ⟨h1, h3⟩ <;> rcases h2 with h2 | ⟨h2, h4⟩
  · left; omega
  · left; omega
  · left; omega
  · right; exact ⟨by omega, earlier_trans h3 h4⟩
theorem not_later {x y : List Int} (h : (decide (((y.length : Nat) : Int) < ((x.length : Nat) : Int)) || ((((x.length : Nat) : Int) == ((y.length : Nat) : Int)) && !earlierB x y)) = false) : better x y = true := by
  obtain ⟨e1, e3⟩ := Bool.or_eq_false_iff.1 h
  have e2 := of_decide_eq_false e1
  unfold better
  by_cases h : x.length < y.length
  · simp [h]
  · have h5 : x.length = y.length := by omega
    rw [h5] at e3 ⊢
    simpa using e3
theorem bad_some (l out : List Int) : dropBad (some l) out = !better out l := by
  simp only [dropBad, better, Option.isSome_some, Option.getD_some, Bool.true_and, cmpZ]
  have e1 : decide (((l.length : Nat) : Int) < ((out.length : Nat) : Int)) = decide (l.length < out.length) := by
    rw [Bool.eq_iff_iff]; simp
  have e2 : (((out.length : Nat) : Int) == ((l.length : Nat) : Int)) = decide (out.length = l.length) := by
    rw [Bool.eq_iff_iff]; simp; omega
  rw [e1, e2]
  cases he : earlierB out l with
  | true =>
    rw [if_pos rfl]
    rcases Nat.lt_trichotomy out.length l.length with h | h | h
    · simp [h, show ¬ l.length < out.length by omega]
    · simp [h]
    · simp [h, show ¬ out.length < l.length by omega, show ¬ out.length = l.length by omega]
  | false =>
    rw [if_neg (by decide)]
    have e3 : decide (0 ≤ (if out = l then (0 : Int) else 1)) = true := by split <;> rfl
    rw [e3]
    rcases Nat.lt_trichotomy out.length l.length with h | h | h
    · simp [h, show ¬ l.length < out.length by omega, show ¬ out.length = l.length by omega]
    · simp [h]
    · simp [h, show ¬ out.length < l.length by omega]
theorem drop_inv (b : Sheet) : ∀ n, (dropF b n = none ∧ ∀ s, s < n → foldsP (dropB b ((s : Nat) : Int)) = false) ∨
    ∃ t, t < n ∧ dropF b n = some (outL ((t : Nat) : Int) b.rules.length) ∧ foldsP (dropB b ((t : Nat) : Int)) = true ∧ ∀ s, s < n → foldsP (dropB b ((s : Nat) : Int)) = true → better (outL ((s : Nat) : Int) b.rules.length) (outL ((t : Nat) : Int) b.rules.length) = false
  | 0 => .inl ⟨rfl, fun s hs => absurd hs (by omega)⟩
  | n + 1 => by
    rw [dropF_succ]
    rcases drop_inv b n with ⟨h1, h2⟩ | ⟨t, ht, h1, h2, h3⟩
    · rw [h1]
      have e : dropBad none (outL ((n : Nat) : Int) b.rules.length) = false := rfl
      unfold dropStep
      rw [if_neg (by rw [e]; decide)]
      by_cases hf : foldsP (dropB b ((n : Nat) : Int)) = true
      · right
        rw [if_pos hf]
        refine ⟨n, by omega, rfl, hf, fun s hs hsf => ?_⟩
        by_cases e : s = n
        · subst e; exact better_self _
        · rw [h2 s (by omega)] at hsf; cases hsf
      · left
        rw [if_neg hf]
        refine ⟨rfl, fun s hs => ?_⟩
        by_cases e : s = n
        · subst e; simpa using hf
        · exact h2 s (by omega)
    · rw [h1]
      unfold dropStep
      rw [bad_some]
      cases hb : better (outL ((n : Nat) : Int) b.rules.length) (outL ((t : Nat) : Int) b.rules.length) with
      | false =>
        right
        rw [if_pos (show (!false) = true from rfl)]
        refine ⟨t, by omega, rfl, h2, fun s hs hsf => ?_⟩
        by_cases e : s = n
        · subst e; exact hb
        · exact h3 s (by omega) hsf
      | true =>
        right
        rw [if_neg (by decide)]
        by_cases hf : foldsP (dropB b ((n : Nat) : Int)) = true
        · rw [if_pos hf]
          refine ⟨n, by omega, rfl, hf, fun s hs hsf => ?_⟩
          by_cases e : s = n
          · subst e; exact better_self _
          · cases hbb : better (outL ((s : Nat) : Int) b.rules.length) (outL ((n : Nat) : Int) b.rules.length) with
            | false => rfl
            | true => have := h3 s (by omega) hsf; rw [better_trans hbb hb] at this; cases this
        · rw [if_neg hf]
          refine ⟨t, by omega, rfl, h2, fun s hs hsf => ?_⟩
          by_cases e : s = n
          · subst e; exact absurd hsf hf
          · exact h3 s (by omega) hsf
theorem all_bits : ∀ n, n ≤ 10 → ∀ k, k < n → bitI ((2 ^ n - 1 : Nat) : Int) k = true := by decide +kernel
theorem no_bits : ∀ k, k < 10 → bitI 0 k = false := by decide +kernel
theorem drop_zero {b : Sheet} (hv : Valid b) : dropB b 0 = b := by
  have hr := hv.rules
  unfold dropB keepR
  have : (List.range b.rules.length).filter (fun k => !bitI 0 k) = List.range b.rules.length := by
    rw [List.filter_eq_self]
    intro k hk
    rw [no_bits k (by have := List.mem_range.1 hk; omega)]; rfl
  rw [this, map_getD]
theorem out_zero0 {n : Nat} (h : n ≤ 10) : outL 0 n = [] := by
  unfold outL
  have : (List.range n).filter (bitI 0) = [] := by
    rw [List.filter_eq_nil_iff]
    intro k hk
    rw [no_bits k (by have := List.mem_range.1 hk; omega)]; decide
  rw [this]; rfl
theorem folds_true {b : Sheet} (hv : Valid b) : foldsP b = true ↔ (ringP b).2 = 4 := by
  have hck := valid_check hv
  unfold foldsP
  rw [decide_eq_true_eq]
  rcases told_cases hck with ⟨_, _, ha, r, hr, _⟩ | ⟨l, rest, _, ha, _, hr, _⟩
  · rw [ha, hr]; simp
  · rw [ha, hr]; simp
theorem ring_ends {b : Sheet} (hv : Valid b) : (ringP b).2 = 4 ∨ (ringP b).2 = 0 := by
  rcases ring_cases (valid_check hv) with ⟨h, _⟩ | ⟨l, h, _⟩ <;> rw [h] <;> simp
/-- What the rules are that must go. -/
theorem drop_spec {b : Sheet} (hck : checkB b = true) : ∃ t, t < 2 ^ b.rules.length ∧ dropP b = (outL ((t : Nat) : Int) b.rules.length, 0) ∧ (ringP (dropB b ((t : Nat) : Int))).2 = 4 ∧ (∀ s, s < 2 ^ b.rules.length → better (outL ((s : Nat) : Int) b.rules.length) (outL ((t : Nat) : Int) b.rules.length) = true → (ringP (dropB b ((s : Nat) : Int))).2 = 0) ∧ (((outL ((t : Nat) : Int) b.rules.length).length : Nat) = 0 ↔ (ringP b).2 = 4) := by
  have hv := valid_of hck
  have hr := hv.rules
  have hpos : 0 < 2 ^ b.rules.length := Nat.two_pow_pos _
  have ha : askE b true = 0 := by simp [askE, hck]
  rcases drop_inv b (2 ^ b.rules.length) with ⟨_, h2⟩ | ⟨t, ht, h1, h2, h3⟩
  · exfalso
    have h4 := h2 (2 ^ b.rules.length - 1) (by omega)
    have hvd := valid_drop hv ((2 ^ b.rules.length - 1 : Nat) : Int)
    have hnone : (dropB b ((2 ^ b.rules.length - 1 : Nat) : Int)).rules = [] := by
      unfold dropB keepR
      have : (List.range b.rules.length).filter (fun k => !bitI ((2 ^ b.rules.length - 1 : Nat) : Int) k) = [] := by
        rw [List.filter_eq_nil_iff]
        intro k hk
        rw [all_bits _ hr k (List.mem_range.1 hk)]; decide
      rw [this]; rfl
    have hno : ∀ s, ¬ Ring (dropB b ((2 ^ b.rules.length - 1 : Nat) : Int)) s := by
      intro s hs
      obtain ⟨_, r, hr, _⟩ := overP_iff.1 hs.round
      rw [hnone] at hr; cases hr
    have := (folds_iff hvd).2 hno
    simp [foldsP, this] at h4
  · refine ⟨t, ht, by simp [dropP, ha, h1], (folds_true (valid_drop hv _)).1 h2, fun s hs hb => ?_, ?_⟩
    · rcases ring_ends (valid_drop hv ((s : Nat) : Int)) with h | h
      · have := h3 s hs ((folds_true (valid_drop hv _)).2 h)
        rw [hb] at this; cases this
      · exact h
    · constructor
      · intro h
        have e1 : outL ((t : Nat) : Int) b.rules.length = [] := List.eq_nil_of_length_eq_zero h
        have e2 : dropB b ((t : Nat) : Int) = b := by
          rw [← un_out, e1, ← out_zero0 hr, un_out, drop_zero hv]
        have := (folds_true (valid_drop hv _)).1 h2
        rwa [e2] at this
      · intro h
        have h5 := h3 0 hpos (by
          rw [show (((0 : Nat) : Nat) : Int) = 0 from rfl, drop_zero hv]; exact (folds_true hv).2 h)
        rw [show (((0 : Nat) : Nat) : Int) = 0 from rfl, out_zero0 hr] at h5
        simp only [better, Bool.or_eq_false_iff, decide_eq_false_iff_not, List.length_nil] at h5
        omega
end Go.Proofs.YtpjhffockmnjbaaDoor
set_option linter.unusedVariables false
set_option linter.unusedSimpArgs false
namespace Go.Proofs.YtpjhffockmnjbaaDoor
open Go.RowKit
theorem better_tri (x y : List Int) : better x y = true ∨ x = y ∨ better y x = true := by
  simp only [better, Bool.or_eq_true, Bool.and_eq_true, decide_eq_true_eq]
  rcases Nat.lt_trichotomy x.length y.length with h | h | h
  · left; left; exact h
  · rcases earlier_tri x y with h1 | h1 | h1
    · left; right; exact ⟨h, h1⟩
    · right; left; exact h1
    · right; right; right; exact ⟨h.symm, h1⟩
  · right; right; left; exact h
theorem drop_ref {b : Sheet} (hck : checkB b = true) {t : Nat} (ht : t < 2 ^ b.rules.length) (h1 : foldsP (dropB b ((t : Nat) : Int)) = true) (h2 : ∀ s, s < 2 ^ b.rules.length → foldsP (dropB b ((s : Nat) : Int)) = true → better (outL ((s : Nat) : Int) b.rules.length) (outL ((t : Nat) : Int) b.rules.length) = false) : dropP b = (outL ((t : Nat) : Int) b.rules.length, 0) := by
  have ha : askE b true = 0 := by simp [askE, hck]
  rcases drop_inv b (2 ^ b.rules.length) with ⟨_, h3⟩ | ⟨u, hu, h3, h4, h5⟩
  · rw [h3 t ht] at h1; cases h1
  · have e : outL ((u : Nat) : Int) b.rules.length = outL ((t : Nat) : Int) b.rules.length := by
      rcases better_tri (outL ((u : Nat) : Int) b.rules.length) (outL ((t : Nat) : Int) b.rules.length) with h | h | h
      · rw [h2 u hu h4] at h; cases h
      · exact h
      · rw [h5 t ht h1] at h; cases h
    simp [dropP, ha, h3, e]
theorem folds_all {b : Sheet} (hv : Valid b) : foldsP (dropB b ((2 ^ b.rules.length - 1 : Nat) : Int)) = true := by
  have hr := hv.rules
  have hvd := valid_drop hv ((2 ^ b.rules.length - 1 : Nat) : Int)
  have hnone : (dropB b ((2 ^ b.rules.length - 1 : Nat) : Int)).rules = [] := by
    unfold dropB keepR
    have : (List.range b.rules.length).filter (fun k => !bitI ((2 ^ b.rules.length - 1 : Nat) : Int) k) = [] := by
      rw [List.filter_eq_nil_iff]
      intro k hk
      rw [all_bits _ hr k (List.mem_range.1 hk)]; decide
    rw [this]; rfl
  have hno : ∀ s, ¬ Ring (dropB b ((2 ^ b.rules.length - 1 : Nat) : Int)) s := by
    intro s hs
    obtain ⟨_, r, hr, _⟩ := overP_iff.1 hs.round
    rw [hnone] at hr; cases hr
  have := (folds_iff hvd).2 hno
  simp [foldsP, this]
theorem better_eq (x y : List Int) : (decide (((x.length : Nat) : Int) < ((y.length : Nat) : Int)) || ((((x.length : Nat) : Int) == ((y.length : Nat) : Int)) && earlierB x y)) = better x y := by
  unfold better
  have e1 : decide (((x.length : Nat) : Int) < ((y.length : Nat) : Int)) = decide (x.length < y.length) := by rw [Bool.eq_iff_iff]; simp
  have e2 : (((x.length : Nat) : Int) == ((y.length : Nat) : Int)) = decide (x.length = y.length) := by rw [Bool.eq_iff_iff]; simp; omega
  rw [e1, e2]
section
variable {P : Program} {ops : Array Oper} {Q : Exit → Act → World → Prop} {rest : List Oper} {ds : List Deferred} {a : Act} {n : Nat} {L : Regs} {w : World} {t : TypeId} {p : String} {af : Array Edge} {o : Op} {d : Nat}
theorem gSkip (hf : Fr ds a n L) {j r : Nat} {want : Bool} {u : Value} (hj : (ops[j]?).bind (·.dst) = some r) (hu : ev L (.tmp r) = some u) (hG : gyes u want = false) (hd : d < n) (h : ∀ a', Fr ds a' n ((d, undef) :: L) → wpList P ops Q rest a' w) : wpList P ops Q (⟨some d, o, t, p, af, some (j, want)⟩ :: rest) a w := by
  unfold wpList
  rw [wanted_of hf rfl hj hu, hG, if_neg (by simp)]
  exact h _ (hf.put hd undef)
end
end Go.Proofs.YtpjhffockmnjbaaDoor
set_option linter.unusedVariables false
set_option linter.unusedSimpArgs false
namespace Go.Proofs.YtpjhffockmnjbaaDoor
/-- b1 asks no more than b2. -/
structure Less (b1 b2 : Sheet) : Prop where
  len : b1.flaps.length = b2.flaps.length
  sub : b1.rules.Sublist b2.rules
  cell : ∀ x y, inN b1 x → inN b1 y → cellN b1 2 x y ≤ cellN b2 2 x y
theorem Less.over {b1 b2 : Sheet} (h : Less b1 b2) (hv : Valid b1) {x y : Int} (ho : overP b1 x y = true) : overP b2 x y = true := by
  obtain ⟨hc, r, hr, rfl, rfl⟩ := overP_iff.1 ho
  have hi := rule_in hv hr
  have := h.cell _ _ hi.1 hi.2
  exact overP_iff.2 ⟨by omega, r, h.sub.subset hr, rfl, rfl⟩
theorem Less.ok {b1 b2 : Sheet} (h : Less b1 b2) (hv : Valid b1) {l : List Int} (hk : Ok b2 l) : Ok b1 l := fun k hl => by
  obtain ⟨⟨h1, h2⟩, h3, h4⟩ := hk k hl
  exact ⟨⟨h1, by rw [h.len]; exact h2⟩, h3, fun u hu => h4 u (h.over hv hu)⟩
theorem Less.count {b1 b2 : Sheet} (h : Less b1 b2) (h1 : Valid b1) (h2 : Valid b2) : (allO b2).length ≤ (allO b1).length :=
  (allO_nodup b2).length_le_of_subset fun l hl => by
    obtain ⟨h3, h4⟩ := (mem_allO h2).1 hl
    exact (mem_allO h1).2 ⟨h.ok h1 h3, by rw [h.len]; exact h4⟩
theorem fold_less {b1 b2 : Sheet} (l : List Int) : ∀ {rs ss : List Rule}, rs.Sublist ss → (∀ r ∈ rs, cellN b1 2 r.over r.under ≤ cellN b2 2 r.over r.under) → ∀ x y : Int, x ≤ y → rs.foldl (stepW b1 l) x ≤ ss.foldl (stepW b2 l) y := by
  intro rs ss hs
  induction hs with
  | slnil => intro _ x y h; exact h
  | @cons rs ss s hs ih =>
    intro hc x y h
    rw [List.foldl_cons]
    refine ih hc x _ ?_
    unfold stepW
    split
    · omega
    · exact h
  | @cons_cons rs ss s hs ih =>
    intro hc x y h
    rw [List.foldl_cons, List.foldl_cons]
    refine ih (fun r hr => hc r (.tail _ hr)) _ _ ?_
    have := hc s (.head _)
    unfold stepW
    split <;> omega
theorem Less.worst {b1 b2 : Sheet} (h : Less b1 b2) (hv : Valid b1) (l : List Int) : worst b1 l b1.rules.length ≤ worst b2 l b2.rules.length := by
  unfold Proofs.YtpjhffockmnjbaaDoor.worst
  rw [List.take_length, List.take_length]
  exact fold_less l h.sub (fun r hr => h.cell _ _ (rule_in hv hr).1 (rule_in hv hr).2) 0 0 (Int.le_refl _)
theorem ordB_len {b1 b2 : Sheet} (h : b1.flaps.length = b2.flaps.length) (l : List Int) : ordB b1 l = ordB b2 l := by
  unfold ordB; rw [h]
/-! ### A flap that reaches less far -/
theorem short_flap {b : Sheet} {i k x : Int} (hi : inN b i) (hx : inN b x) : flapA (shortB b i k) x = if x = i then shortF (flapA b i) k else flapA b x := by
  have h0 := hi.1; have h1 := hi.2; have h2 := hx.1; have h3 := hx.2
  unfold flapA shortB
  simp only
  rw [List.getD_eq_getElem?_getD, List.getElem?_set]
  by_cases e : x = i
  · subst e; rw [if_pos rfl, if_pos (by omega), if_pos rfl]; rfl
  · rw [if_neg (by omega), if_neg e, List.getD_eq_getElem?_getD]
theorem hit_short (b : Sheet) (i k : Int) (x y : Flap) (r s : Int) : hitB (shortB b i k) x y r s = hitB b x y r s := rfl
theorem hit_geo (b : Sheet) (x y : Flap) (k : Int) (r s : Int) : hitB b (shortF x k) y r s = hitB b x y r s ∧ hitB b x (shortF y k) r s = hitB b x y r s := ⟨rfl, rfl⟩
theorem less_short {b : Sheet} (hv : Valid b) {i k : Int} (hi : inN b i) (hk : 0 ≤ k ∧ k ≤ (flapA b i).rh - (flapA b i).rl) : Less (shortB b i k) b := by
  have hv' := valid_short hv hi hk
  refine ⟨short_len b i k, List.Sublist.refl _, fun x y hx hy => ?_⟩
  have hx' : inN b x := ⟨hx.1, by have := hx.2; rw [short_len] at this; exact this⟩
  have hy' : inN b y := ⟨hy.1, by have := hy.2; rw [short_len] at this; exact this⟩
  have hlow : touchB (shortB b i k) x y false = touchB b x y false := by
    rw [touch_hit, touch_hit, short_flap hi hx', short_flap hi hy', hit_short]
    by_cases e1 : x = i <;> by_cases e2 : y = i <;> simp only [e1, e2, if_true, if_false] <;> rfl
  have hhigh : touchB (shortB b i k) x y true = true → touchB b x y true = true := by
    rw [touch_hit, touch_hit, short_flap hi hx', short_flap hi hy', hit_short]
    intro h
    refine hit_mono (r := farF (if x = i then shortF (flapA b i) k else flapA b x) true) (s := farF (if y = i then shortF (flapA b i) k else flapA b y) true) ?_ ?_ ?_
    · by_cases e1 : x = i
      · subst e1; simp only [if_true, farF, shortF]; omega
      · simp only [if_neg e1]; exact Int.le_refl _
    · by_cases e1 : y = i
      · subst e1; simp only [if_true, farF, shortF]; omega
      · simp only [if_neg e1]; exact Int.le_refl _
    · by_cases e1 : x = i <;> by_cases e2 : y = i
      · subst e1; subst e2; simp only [if_true] at h ⊢; exact h
      · subst e1; simp only [if_true, if_neg e2] at h ⊢; exact h
      · subst e2; simp only [if_true, if_neg e1] at h ⊢; exact h
      · simp only [if_neg e1, if_neg e2] at h ⊢; exact h
  by_cases e : x = y
  · subst e; unfold cellN; simp
  · rw [cell_eq hv' hx hy e, cell_eq hv hx' hy' e, hlow]
    by_cases h1 : touchB b x y false = true
    · rw [if_pos h1, if_pos h1]; omega
    · rw [if_neg h1, if_neg h1]
      by_cases h2 : touchB (shortB b i k) x y true = true
      · rw [if_pos h2, if_pos (hhigh h2)]; omega
      · rw [if_neg h2]; split <;> omega
/-! ### A rule less -/
def rmB (b : Sheet) (i : Int) : Sheet := { b with rules := b.rules.take i.toNat ++ b.rules.drop (i + 1).toNat }
theorem rm_sub (b : Sheet) {i : Int} (h : 0 ≤ i) : (b.rules.take i.toNat ++ b.rules.drop (i + 1).toNat).Sublist b.rules := by
  have e : b.rules = b.rules.take i.toNat ++ b.rules.drop i.toNat := (List.take_append_drop _ _).symm
  conv => rhs; rw [e]
  refine List.Sublist.append_left ?_ _
  rw [show (i + 1).toNat = i.toNat + 1 by omega]
  exact List.drop_sublist_drop_left _ (by omega)
theorem less_rm {b : Sheet} {i : Int} (h : 0 ≤ i) : Less (rmB b i) b := ⟨rfl, rm_sub b h, fun x y _ _ => Int.le_refl _⟩
theorem valid_rm {b : Sheet} (hv : Valid b) {i : Int} (h : 0 ≤ i) : Valid (rmB b i) := valid_sub hv (rm_sub b h)
theorem less_refl (b : Sheet) : Less b b := ⟨rfl, List.Sublist.refl _, fun x y _ _ => Int.le_refl _⟩
/-! ### By how much a flap must be shorter -/
theorem shorter_cases {b : Sheet} (hck : checkB b = true) {i : Int} (hi : inN b i) : (shorterP b i = (0, 4) ∧ ∀ j : Int, 0 ≤ j → j ≤ (flapA b i).rh - (flapA b i).rl → allO (shortB b i j) = []) ∨
    ∃ j : Int, shorterP b i = (j, 0) ∧ 0 ≤ j ∧ j ≤ (flapA b i).rh - (flapA b i).rl ∧ allO (shortB b i j) ≠ [] ∧ ∀ k, 0 ≤ k → k < j → allO (shortB b i k) = [] := by
  have hv := valid_of hck
  have hf := flap_far hv hi
  have hfl : flapB b.flaps.length i = true := fitsB_iff.2 ⟨hi.1, by have := hi.2; omega⟩
  have ha : askE b (flapB b.flaps.length i) = 0 := by rw [hfl]; simp [askE, hck]
  unfold shorterP
  rw [if_pos ha]
  cases h : (List.range (shortN b i)).find? fun k => foldsP (shortB b i ((k : Nat) : Int)) with
  | none =>
    left
    refine ⟨rfl, fun j h0 h1 => ?_⟩
    have := List.find?_eq_none.1 h j.toNat (List.mem_range.2 (by unfold shortN; omega))
    rw [show ((j.toNat : Nat) : Int) = j by omega] at this
    simpa [foldsP] using this
  | some k =>
    right
    obtain ⟨h1, h2, h3⟩ := List.find?_range_eq_some.1 h
    have hk := List.mem_range.1 h2
    refine ⟨((k : Nat) : Int), rfl, by omega, by unfold shortN at hk; omega, by simpa [foldsP] using h1, fun j h0 hlt => ?_⟩
    have := h3 j.toNat (by omega)
    rw [show ((j.toNat : Nat) : Int) = j by omega] at this
    simpa [foldsP] using this
theorem acc_some {α : Type} {enc : α → List Value} {sz : Nat} {l : List α} {o : Acc} (h : AccOK enc sz l o) (hl : 0 < l.length) : ∃ bc cs, o = some (bc, cs) := by
  cases o with
  | none =>
    have h9 : l = [] := h
    rw [h9] at hl; simp at hl
  | some q => exact ⟨q.1, q.2, rfl⟩
theorem set_twice {cs : Array Value} {i : Nat} {u v : Value} : (cs.setIfInBounds i u).setIfInBounds i v = cs.setIfInBounds i v := by
  apply Array.ext_getElem?
  intro j
  simp only [Array.getElem?_setIfInBounds, Array.size_setIfInBounds]
  split <;> rfl
end Go.Proofs.YtpjhffockmnjbaaDoor
set_option linter.unusedVariables false
set_option linter.unusedSimpArgs false
namespace Go.Proofs.YtpjhffockmnjbaaDoor
open Go.RowKit
theorem c_Shortened (b : Sheet) (fA : Option Addr) (fc : Nat) (rA : Option Addr) (rc : Nat) (i k : Int) (hv : Valid b) (hi : inN b i) (hk : 0 ≤ k ∧ k ≤ (flapA b i).rh - (flapA b i).rl) (w0 : World) (h : ShIn b fA fc rA rc w0) :
    Calls Tryd.prog 77 #[.agg #[.int .i64 b.wide, .int .i64 b.high, .slice fA b.flaps.length fc, .slice rA b.rules.length rc], .int .i64 i, .int .i64 k] w0 (RetX w0 (fun v w0' => ∃ fA2 fc2, v = .agg #[.int .i64 b.wide, .int .i64 b.high, .slice fA2 b.flaps.length fc2, .slice rA b.rules.length rc] ∧ OutG encF 5 (shortB b i k).flaps fA2 fc2 w0 w0')) := by
  refine c_enter (n := 27) Tryd.func77 rfl rfl (Nat.le_of_ble_eq_true rfl) ?_; intro a hf; simp only [zipR] at hf
  have hs := St.start w0 [Rd encF 5 fA b.flaps.length b.flaps, Rd encR 2 rA b.rules.length b.rules] h.stab
  have hfm := h.F.2.1; have hrm := h.R.2.1
  have hmany := hv.many; have hi1 := hi.1; have hi2 := hi.2; have hff := flap_far hv hi
  have hkk := hk
  simp only [flapA] at hff hkk
  refine c_reg ?_
  refine vL hf (v_boxA hf hs rfl) (by decide) ?_; clear hs hf a; rintro _ w ⟨b1, rfl, hs⟩ a hf
  refine vL hf (v_alloc hs T25 rfl) (by decide) ?_; clear hs hf a; rintro _ w ⟨b2, rfl, hs⟩ a hf
  refine e_nil ?_
  refine c_reg ?_
  refine gL hf (g_ldW hf hs T25 rfl (k := 1) rfl rfl) (by decide) ?_; clear hf a; intro a hf
  refine vL hf (v_alloc hs T25 rfl) (by decide) ?_; clear hs hf a; rintro _ w ⟨b3, rfl, hs⟩ a hf
  refine uL (u_stW hf hs T25 rfl rfl rfl (k := 0) rfl rfl rfl) ?_; clear hs; intro w hs; dsimp only [List.set] at hs
  refine e_nil ?_
  refine c_reg ?_
  refine vL hf (v_lits (len := 0) hf hs SL22 T49 .nil rfl rfl rfl rfl (by decide) rfl) (by decide) ?_; clear hs hf a; rintro _ w ⟨b4, rfl, hs⟩ a hf
  refine gL hf (g_fa (off' := 2) hf F25_2 rfl rfl) (by decide) ?_; clear hf a; intro a hf
  refine gL hf (g_ld hf hs T22 rfl (k := 3) rfl rfl) (by decide) ?_; clear hf a; intro a hf
  refine vL hf (v_accN (e := 49) (o := some (b4, #[])) (l := []) (l' := b.flaps) (len := 0) hf 0 hs rfl ⟨0, rfl, Nat.le_refl _, by omega, rfl⟩ AP22 (enc := encF) (fun _ => rfl) (by decide) (by intro x v hv9; simp only [encF, List.mem_cons, List.not_mem_nil, or_false] at hv9; rcases hv9 with rfl | rfl | rfl | rfl | rfl <;> rfl) rfl rfl rfl (hs.rd (.head _)) (by omega) (by decide)) (by decide) ?_; clear hs hf a; rintro _ w ⟨ox, rfl, hox, hs⟩ a hf; dsimp only [List.take, List.nil_append] at hs
  rw [List.nil_append] at hox
  obtain ⟨bcx, csx, rfl⟩ : ∃ bc cs, ox = some (bc, cs) := acc_some hox (by omega)
  simp only [Nat.zero_add] at hf; dsimp only [accV] at hf; dsimp only [accH, List.cons_append, List.nil_append] at hs
  have hcapx := hox.cap (sz := 5) (by decide)
  refine gL hf (g_fa (off' := 2) hf F25_2 rfl rfl) (by decide) ?_; clear hf a; intro a hf
  refine uL (u_st hf hs T22 rfl rfl rfl (k := 1) rfl (Nat.le_of_ble_eq_true rfl)) ?_; clear hs; intro w hs; dsimp only [List.set] at hs
  refine e_nil ?_
  refine c_reg ?_
  refine gL hf (g_fa (off' := 2) hf F25_2 rfl rfl) (by decide) ?_; clear hf a; intro a hf
  refine gL hf (g_ld hf hs T22 rfl (k := 1) rfl rfl) (by decide) ?_; clear hf a; intro a hf
  refine gL hf (g_mv hf rfl) (by decide) ?_; clear hf a; intro a hf
  refine gL hf (g_ixO hf SL22 rfl rfl (by omega)) (by decide) ?_; clear hf a; intro a hf
  refine gL hf (g_fa hf F49_1 rfl rfl) (by decide) ?_; clear hf a; intro a hf
  refine gL hf (g_fa hf F47_1 rfl rfl) (by decide) ?_; clear hf a; intro a hf
  refine gL hf (g_ld hf hs T3 rfl (k := 0) rfl (acc_short (k := 0) hi hox).1) (by decide) ?_; clear hf a; intro a hf
  refine gL hf (g_mv hf rfl) (by decide) ?_; clear hf a; intro a hf
  refine gL hf (g_subI hf rfl rfl (by simp only [flapA]; omega)) (by decide) ?_; clear hf a; intro a hf
  refine gL hf (g_ixO hf SL22 rfl rfl (by omega)) (by decide) ?_; clear hf a; intro a hf
  refine gL hf (g_fa hf F49_1 rfl rfl) (by decide) ?_; clear hf a; intro a hf
  refine gL hf (g_fa hf F47_1 rfl rfl) (by decide) ?_; clear hf a; intro a hf
  refine uL (u_st hf hs T3 rfl rfl rfl (k := 0) rfl (acc_short (k := 0) hi hox).2.1) ?_; clear hs; intro w hs; dsimp only [List.set] at hs
  have hox2 := (acc_short (k := k) hi hox).2.2
  refine e_nil ?_
  refine c_reg ?_
  refine gL hf (g_ldW hf hs T25 rfl (k := 1) rfl rfl) (by decide) ?_; clear hf a; intro a hf
  refine uL (u_stW hf hs T25 rfl rfl rfl (k := 2) rfl rfl rfl) ?_; clear hs; intro w hs; dsimp only [List.set] at hs
  refine e_nil ?_
  refine c_ret ?_
  refine e_res hf hs rfl (.cellA T25 rfl (k := 2) rfl rfl .nil) rfl ?_
  exact ⟨_, rfl, hs.below, some ⟨bcx, 0, none⟩, csx.size / 5, rfl, by rw [short_len]; exact hcapx, hox2.rdb (sz := 5) (fun _ => rfl) (by decide) (hs.own _ _ (.head _)).2, fun bk off e => by cases e; exact (hs.own _ _ (.head _)).1⟩

theorem c_WithoutR (b : Sheet) (fA : Option Addr) (fc : Nat) (rA : Option Addr) (rc : Nat) (s9 : Int) (hv : Valid b) (w0 : World) (h : ShIn b fA fc rA rc w0) :
    Calls Tryd.prog 79 #[.agg #[.int .i64 b.wide, .int .i64 b.high, .slice fA b.flaps.length fc, .slice rA b.rules.length rc], .int .i64 s9] w0 (RetX w0 (fun v w0' => ∃ rA2 rc2, v = .agg #[.int .i64 b.wide, .int .i64 b.high, .slice fA b.flaps.length fc, .slice rA2 (dropB b s9).rules.length rc2] ∧ OutG encR 2 (dropB b s9).rules rA2 rc2 w0 w0')) := by
  refine c_enter (n := 31) Tryd.func79 rfl rfl (Nat.le_of_ble_eq_true rfl) ?_; intro a hf; simp only [zipR] at hf
  have hs := St.start w0 [Rd encF 5 fA b.flaps.length b.flaps, Rd encR 2 rA b.rules.length b.rules] h.stab
  have hfm := h.F.2.1; have hrm := h.R.2.1
  have hmany := hv.many; have hrl := hv.rules
  refine c_reg ?_
  refine vL hf (v_boxA hf hs rfl) (by decide) ?_; clear hs hf a; rintro _ w ⟨b1, rfl, hs⟩ a hf
  refine vL hf (v_alloc hs T25 rfl) (by decide) ?_; clear hs hf a; rintro _ w ⟨b2, rfl, hs⟩ a hf
  refine e_nil ?_
  refine c_reg ?_
  refine gL hf (g_ldW hf hs T25 rfl (k := 1) rfl rfl) (by decide) ?_; clear hf a; intro a hf
  refine vL hf (v_alloc hs T25 rfl) (by decide) ?_; clear hs hf a; rintro _ w ⟨b3, rfl, hs⟩ a hf
  refine uL (u_stW hf hs T25 rfl rfl rfl (k := 0) rfl rfl rfl) ?_; clear hs; intro w hs; dsimp only [List.set] at hs
  refine e_nil ?_
  refine c_reg ?_
  refine gL hf (g_fa (off' := 3) hf F25_3 rfl rfl) (by decide) ?_; clear hf a; intro a hf
  refine uL (u_st hf hs T23 rfl rfl rfl (k := 0) rfl (Nat.le_of_ble_eq_true rfl)) ?_; clear hs; intro w hs; dsimp only [List.set] at hs
  refine e_nil ?_
  refine wp_seq ?_
  refine c_reg ?_
  refine gL hf (g_as hf rfl) (by decide) ?_; clear hf a; intro a hf
  refine e_nil ?_
  refine c_block ?_
  refine c_loop hf hs [6, 9, 10, 11, 12, 13, 14, 15, 16, 17, 18, 19, 20, 21, 22, 23, 24, 25, 26, 27, 28, 29] (σ := (Nat × Acc)) (fun s => [(6, .int .i64 (s.1 : Nat))]) (fun s => (b3, .cells #[.int .i64 b.wide, .int .i64 b.high, .slice fA b.flaps.length fc, accV 2 (keepR b s9 s.1).length s.2] 25 (0, 0)) :: (b2, .cells #[.int .i64 0, .int .i64 0, .slice none 0 0, .slice none 0 0] 25 (0, 0)) :: (b1, .cells #[.int .i64 b.wide, .int .i64 b.high, .slice fA b.flaps.length fc, .slice rA b.rules.length rc] 25 (0, 0)) :: accH 64 s.2) (fun s => s.1 ≤ b.rules.length ∧ AccOK encR 2 (keepR b s9 s.1) s.2) (fun s => b.rules.length - s.1) (0, none) ⟨Nat.zero_le _, rfl⟩ (.cons rfl .nil) rfl ?_
  intro ⟨k, oy⟩ a w hJ hf hs
  dsimp only at hJ hf hs
  obtain ⟨hk, hoy⟩ := hJ
  have hul := keep_le b s9 k
  refine wp_seq ?_
  refine c_reg ?_
  refine gL hf (g_mv hf rfl) (by decide) ?_; clear hf a; intro a hf
  refine gL hf (g_fa (off' := 3) hf F25_3 rfl rfl) (by decide) ?_; clear hf a; intro a hf
  refine gL hf (g_ld hf hs T23 rfl (k := 2) rfl rfl) (by decide) ?_; clear hf a; intro a hf
  refine gL hf (g_len hf SL23 rfl) (by decide) ?_; clear hf a; intro a hf
  refine gL hf (g_lss hf rfl rfl) (by decide) ?_; clear hf a; intro a hf
  refine e_nil ?_
  refine c_cond hf rfl (fun hc1 => ?_) (fun hc1 => ?_)
  · try simp only [decide_eq_true_eq, decide_eq_false_iff_not] at hc1
    refine c_skip (q_thenN ?_)
    refine c_blockS ?_
    refine c_reg ?_
    refine gL hf (g_mv hf rfl) (by decide) ?_; clear hf a; intro a hf
    refine gL hf (g_mv hf rfl) (by decide) ?_; clear hf a; intro a hf
    refine callL hf hs (c_In _ _ (by omega) _) rfl rfl rfl E84 (by decide) ?_; clear hs hf a; intro w a hs hf
    refine gL hf (g_not hf rfl) (by decide) ?_; clear hf a; intro a hf
    refine e_nil ?_
    refine c_cond hf rfl (fun hc2 => ?_) (fun hc2 => ?_)
    · skip
      have hni : bitI s9 k = false := by have h9 : (!bitI s9 k) = true := hc2; simpa using h9
      refine c_draw1 _ 11 Mx rfl hs (fun _ h => h.sub (.cons _ (.cons_cons _ (.cons_cons _ (List.nil_sublist _))))) ?_; intro w hs hS
      refine gA hf hS (i := 0) rfl (by kernel_rfl) (fun w hs => g_fa (off' := 3) hf F25_3 rfl rfl) (by decide) ?_; clear hf a; intro a hf
      refine gA hf hS (i := 2) rfl (by kernel_rfl) (fun w hs => g_fa (off' := 3) hf F25_3 rfl rfl) (by decide) ?_; clear hf a; intro a hf
      refine gA hf hS (i := 3) rfl (by kernel_rfl) (fun w hs => g_ld hf hs T23 rfl (k := 1) rfl rfl) (by decide) ?_; clear hf a; intro a hf
      refine gA hf hS (i := 4) rfl (by kernel_rfl) (fun w hs => g_mv hf rfl) (by decide) ?_; clear hf a; intro a hf
      (first | (refine gA hf hS (i := 5) rfl (by kernel_rfl) (fun w hs => g_ixE hf hs (.tail _ (.head _)) SL23 rfl rfl (by omega)) (by decide) ?_) | (refine gA hf hS (i := 5) rfl (by kernel_rfl) (fun w hs => g_ixD hf hs (.tail _ (.head _)) SL23 rfl rfl (by omega)) (by decide) ?_)); clear hf a; intro a hf
      refine gA hf hS (i := 6) rfl (by kernel_rfl) (fun w hs => g_ldEW hf hs (.tail _ (.head _)) T64 rfl rfl (by omega)) (by decide) ?_; clear hf a; intro a hf
      refine two (i := 1) (j := 7) (by kernel_rfl) ?_ ?_
      · skip
        refine oV hf rfl (goesV_of_gets (g_ld hf hs T23 rfl (k := 0) rfl rfl)) (by decide) (fun _ _ h => by rw [h.2]; exact hS) ?_; rintro _ w ⟨rfl, rfl⟩ hS a hf
        refine one (i := 7) (by kernel_rfl) ?_
        refine oV hf rfl (v_lits (len := 1) hf hs SL23 T64 (.cons rfl .nil) rfl rfl rfl rfl (by decide) rfl) (by decide) (fun _ _ ⟨_, _, h⟩ => h.sub (.cons _ (.cons _ (.cons_cons _ (.cons_cons _ (List.nil_sublist _)))))) ?_; clear hs hf hS a; rintro _ w ⟨b4, rfl, hs⟩ hS a hf
        refine one (i := 8) (by kernel_rfl) ?_
        refine oV hf rfl (v_accN (e := 64) (R := []) (o := oy) hf 4 hs (by simp) hoy AP23 (enc := encR) (l := keepR b s9 k) (l' := [b.rules.getD k default]) (fun _ => rfl) (by decide) (by intro x v hv9; simp only [encR, List.mem_cons, List.not_mem_nil, or_false] at hv9; rcases hv9 with rfl | rfl <;> rfl) rfl rfl rfl (rd_single (enc := encR) rfl (hs.own _ _ (.head _)).2) (by omega) (by decide)) (by decide) (fun _ _ ⟨_, _, _, h⟩ => h.sub (.cons _ (.cons _ (.cons_cons _ (.cons_cons _ (List.nil_sublist _)))))) ?_; clear hs hf hS a; rintro _ w ⟨oy2, rfl, hoy2, hs⟩ hS a hf; dsimp only [List.take, List.cons_append, List.nil_append] at hs; rw [List.append_nil] at hs
        rw [show (keepR b s9 k).length + 1 = (keepR b s9 (k + 1)).length by rw [keep_no hni, List.length_append]; rfl] at hf; rw [← keep_no hni] at hoy2
        refine gA hf hS (i := 9) rfl (by kernel_rfl) (fun w hs => g_fa (off' := 3) hf F25_3 rfl rfl) (by decide) ?_; clear hf a; intro a hf
        refine one (i := 10) (by kernel_rfl) ?_
        refine oU rfl (u_st hf hs T23 rfl rfl (plain_acc _ _ _) (k := 1) rfl (Nat.le_of_ble_eq_true rfl)) (fun _ h => h.sub (.cons _ (.cons _ (.cons_cons _ (.cons_cons _ (List.nil_sublist _)))))) ?_; clear hs hS; intro w hs hS; dsimp only [List.set] at hs
        refine e_done1 (by kernel_rfl) ?_
        refine q_blkN (q_thenN ?_)
        refine c_reg1 ?_
        refine gL hf (g_mv hf rfl) (by decide) ?_; clear hf a; intro a hf
        refine gL hf (g_addI hf rfl rfl (by omega)) (by decide) ?_; clear hf a; intro a hf
        refine gL hf (g_as hf rfl) (by decide) ?_; clear hf a; intro a hf
        refine e_nil1 (q_thenN ?_)
        first | exact ⟨(k + 1, oy2), ⟨by dsimp only; omega, hoy2⟩, (by dsimp only; omega), hf.back (by repeat (first | (with_reducible exact Ext.base) | ((with_reducible refine Ext.cons ?_ ?_); (· rfl)) | ((with_reducible refine Ext.over ?_ ?_ ?_); (· rfl); (· rfl)))) (allKeys rfl) (.cons rfl .nil), (by first | exact hs.dropN 1 | (rw [← keep_yes (b := b) hyi] at hs; exact hs.dropN 0))⟩ | exact ⟨(k + 1, oy), ⟨by dsimp only; omega, by dsimp only; rw [keep_yes hyi]; exact hoy⟩, (by dsimp only; omega), hf.back (by repeat (first | (with_reducible exact Ext.base) | ((with_reducible refine Ext.cons ?_ ?_); (· rfl)) | ((with_reducible refine Ext.over ?_ ?_ ?_); (· rfl); (· rfl)))) (allKeys rfl) (.cons rfl .nil), (by first | exact hs.dropN 1 | (rw [← keep_yes (b := b) hyi] at hs; exact hs.dropN 0))⟩
      · skip
        refine oV hf rfl (v_lits (len := 1) hf hs SL23 T64 (.cons rfl .nil) rfl rfl rfl rfl (by decide) rfl) (by decide) (fun _ _ ⟨_, _, h⟩ => h.sub (.cons _ (.cons _ (.cons_cons _ (.cons_cons _ (List.nil_sublist _)))))) ?_; clear hs hf hS a; rintro _ w ⟨b4, rfl, hs⟩ hS a hf
        refine one (i := 1) (by kernel_rfl) ?_
        refine oV hf rfl (goesV_of_gets (g_ld hf hs T23 rfl (k := 1) rfl rfl)) (by decide) (fun _ _ h => by rw [h.2]; exact hS) ?_; rintro _ w ⟨rfl, rfl⟩ hS a hf
        refine one (i := 8) (by kernel_rfl) ?_
        refine oV hf rfl (v_accN (e := 64) (R := []) (o := oy) hf 4 hs (by simp) hoy AP23 (enc := encR) (l := keepR b s9 k) (l' := [b.rules.getD k default]) (fun _ => rfl) (by decide) (by intro x v hv9; simp only [encR, List.mem_cons, List.not_mem_nil, or_false] at hv9; rcases hv9 with rfl | rfl <;> rfl) rfl rfl rfl (rd_single (enc := encR) rfl (hs.own _ _ (.head _)).2) (by omega) (by decide)) (by decide) (fun _ _ ⟨_, _, _, h⟩ => h.sub (.cons _ (.cons _ (.cons_cons _ (.cons_cons _ (List.nil_sublist _)))))) ?_; clear hs hf hS a; rintro _ w ⟨oy2, rfl, hoy2, hs⟩ hS a hf; dsimp only [List.take, List.cons_append, List.nil_append] at hs; rw [List.append_nil] at hs
        rw [show (keepR b s9 k).length + 1 = (keepR b s9 (k + 1)).length by rw [keep_no hni, List.length_append]; rfl] at hf; rw [← keep_no hni] at hoy2
        refine gA hf hS (i := 9) rfl (by kernel_rfl) (fun w hs => g_fa (off' := 3) hf F25_3 rfl rfl) (by decide) ?_; clear hf a; intro a hf
        refine one (i := 10) (by kernel_rfl) ?_
        refine oU rfl (u_st hf hs T23 rfl rfl (plain_acc _ _ _) (k := 1) rfl (Nat.le_of_ble_eq_true rfl)) (fun _ h => h.sub (.cons _ (.cons _ (.cons_cons _ (.cons_cons _ (List.nil_sublist _)))))) ?_; clear hs hS; intro w hs hS; dsimp only [List.set] at hs
        refine e_done1 (by kernel_rfl) ?_
        refine q_blkN (q_thenN ?_)
        refine c_reg1 ?_
        refine gL hf (g_mv hf rfl) (by decide) ?_; clear hf a; intro a hf
        refine gL hf (g_addI hf rfl rfl (by omega)) (by decide) ?_; clear hf a; intro a hf
        refine gL hf (g_as hf rfl) (by decide) ?_; clear hf a; intro a hf
        refine e_nil1 (q_thenN ?_)
        first | exact ⟨(k + 1, oy2), ⟨by dsimp only; omega, hoy2⟩, (by dsimp only; omega), hf.back (by repeat (first | (with_reducible exact Ext.base) | ((with_reducible refine Ext.cons ?_ ?_); (· rfl)) | ((with_reducible refine Ext.over ?_ ?_ ?_); (· rfl); (· rfl)))) (allKeys rfl) (.cons rfl .nil), (by first | exact hs.dropN 1 | (rw [← keep_yes (b := b) hyi] at hs; exact hs.dropN 0))⟩ | exact ⟨(k + 1, oy), ⟨by dsimp only; omega, by dsimp only; rw [keep_yes hyi]; exact hoy⟩, (by dsimp only; omega), hf.back (by repeat (first | (with_reducible exact Ext.base) | ((with_reducible refine Ext.cons ?_ ?_); (· rfl)) | ((with_reducible refine Ext.over ?_ ?_ ?_); (· rfl); (· rfl)))) (allKeys rfl) (.cons rfl .nil), (by first | exact hs.dropN 1 | (rw [← keep_yes (b := b) hyi] at hs; exact hs.dropN 0))⟩
    · skip
      have hyi : bitI s9 k = true := by have h9 : (!bitI s9 k) = false := hc2; simpa using h9
      refine c_skip (q_blkN (q_thenN ?_))
      refine c_reg1 ?_
      refine gL hf (g_mv hf rfl) (by decide) ?_; clear hf a; intro a hf
      refine gL hf (g_addI hf rfl rfl (by omega)) (by decide) ?_; clear hf a; intro a hf
      refine gL hf (g_as hf rfl) (by decide) ?_; clear hf a; intro a hf
      refine e_nil1 (q_thenN ?_)
      first | exact ⟨(k + 1, oy2), ⟨by dsimp only; omega, hoy2⟩, (by dsimp only; omega), hf.back (by repeat (first | (with_reducible exact Ext.base) | ((with_reducible refine Ext.cons ?_ ?_); (· rfl)) | ((with_reducible refine Ext.over ?_ ?_ ?_); (· rfl); (· rfl)))) (allKeys rfl) (.cons rfl .nil), (by first | exact hs.dropN 1 | (rw [← keep_yes (b := b) hyi] at hs; exact hs.dropN 0))⟩ | exact ⟨(k + 1, oy), ⟨by dsimp only; omega, by dsimp only; rw [keep_yes hyi]; exact hoy⟩, (by dsimp only; omega), hf.back (by repeat (first | (with_reducible exact Ext.base) | ((with_reducible refine Ext.cons ?_ ?_); (· rfl)) | ((with_reducible refine Ext.over ?_ ?_ ?_); (· rfl); (· rfl)))) (allKeys rfl) (.cons rfl .nil), (by first | exact hs.dropN 1 | (rw [← keep_yes (b := b) hyi] at hs; exact hs.dropN 0))⟩
  · try simp only [decide_eq_true_eq, decide_eq_false_iff_not] at hc1
    obtain rfl : k = b.rules.length := by omega
    have hn2 : ∀ q, oy = some q → w0.heap.size ≤ q.1 := fun q e => by subst e; exact (hs.own _ _ (.tail _ (.tail _ (.tail _ (.head _))))).1
    obtain ⟨A3, c3, e3, hl3, hs⟩ := hs.freeze (R := []) (e := 64) (o := oy) (enc := encR) (sz := 2) 3 (by simp) hoy (fun _ => rfl) (by decide)
    have hA3 := acc_new hn2 e3
    dsimp only [List.take, List.cons_append, List.nil_append, List.append_nil] at hs
    rw [e3] at hs
    refine c_exit (q_thenX (q_thenX (q_blkX (q_thenN ?_))))
    refine c_reg ?_
    refine gL hf (g_ldW hf hs T25 rfl (k := 0) rfl rfl) (by decide) ?_; clear hf a; intro a hf
    refine uL (u_stW hf hs T25 rfl rfl rfl (k := 1) rfl rfl rfl) ?_; clear hs; intro w hs; dsimp only [List.set] at hs
    refine e_nil ?_
    refine c_ret ?_
    refine e_res hf hs rfl (.cellA T25 rfl (k := 1) rfl rfl .nil) rfl ?_
    exact ⟨_, rfl, hs.below, A3, c3, rfl, ⟨hl3, hs.rd (.head _), hA3⟩⟩

theorem c_ShorterR (b : Sheet) (fA : Option Addr) (fc : Nat) (rA : Option Addr) (rc : Nat) (i : Int) (w0 : World) (h : ShIn b fA fc rA rc w0) :
    Calls Tryd.prog 32 #[.agg #[.int .i64 b.wide, .int .i64 b.high, .slice fA b.flaps.length fc, .slice rA b.rules.length rc], .int .i64 i] w0 (Ret w0 (.tuple #[.int .i64 (shorterP b i).1, .int .i64 (shorterP b i).2])) := by
  refine c_enter (n := 40) Tryd.func32 rfl rfl (Nat.le_of_ble_eq_true rfl) ?_; intro a hf; simp only [zipR] at hf
  have hs := St.start w0 [Rd encF 5 fA b.flaps.length b.flaps, Rd encR 2 rA b.rules.length b.rules] h.stab
  have hfm := h.F.2.1; have hrm := h.R.2.1
  refine c_reg ?_
  refine vL hf (v_boxA hf hs rfl) (by decide) ?_; clear hs hf a; rintro _ w ⟨b1, rfl, hs⟩ a hf
  refine gL hf (g_as hf rfl) (by decide) ?_; clear hf a; intro a hf
  refine gL hf (g_as hf rfl) (by decide) ?_; clear hf a; intro a hf
  refine e_nil ?_
  refine wp_seq ?_
  refine c_reg ?_
  refine gL hf (g_ldW hf hs T25 rfl (k := 0) rfl rfl) (by decide) ?_; clear hf a; intro a hf
  refine callL hf hs (c_CheckR b _ _ _ _ _ ⟨hs.rd (.head _), hs.rd (.tail _ (.head _)), h.fc_, h.rc_⟩) rfl rfl rfl E18 (by decide) ?_; clear hs hf a; intro w a hs hf
  refine gL hf (g_as hf rfl) (by decide) ?_; clear hf a; intro a hf
  refine e_nil ?_
  refine c_reg ?_
  refine gL hf (g_mv hf rfl) (by decide) ?_; clear hf a; intro a hf
  refine gL hf (g_neq hf rfl rfl) (by decide) ?_; clear hf a; intro a hf
  refine e_nil ?_
  refine c_cond hf rfl (fun hc1 => ?_) (fun hc1 => ?_)
  · skip
    have hck : checkB b = false := by cases h9 : checkB b with
            | false => rfl
            | true => rw [h9] at hc1; cases hc1
    have hb40 := bad_ask hck true
    refine c_reg ?_
    refine gL hf (g_mv hf rfl) (by decide) ?_; clear hf a; intro a hf
    refine gL hf (g_as hf rfl) (by decide) ?_; clear hf a; intro a hf
    refine gL hf (g_as hf rfl) (by decide) ?_; clear hf a; intro a hf
    refine e_nil ?_
    refine c_ret (q_thenR ?_)
    refine e_ret2 hf rfl rfl rfl ?_
    exact ⟨by rw [bad_short hck, hck]; rfl, hs.below⟩
  · skip
    have hck : checkB b = true := by cases h9 : checkB b with
            | true => rfl
            | false => rw [h9] at hc1; cases hc1
    have hv := valid_of hck
    have hmany := hv.many
    have hrl := hv.rules
    refine c_skip (q_thenN ?_)
    refine wp_seq ?_
    refine c_reg ?_
    refine gL hf (g_ldW hf hs T25 rfl (k := 0) rfl rfl) (by decide) ?_; clear hf a; intro a hf
    refine gL hf (g_mv hf rfl) (by decide) ?_; clear hf a; intro a hf
    refine callL hf hs (c_isFlapR _ _ _ _ _ _ _ _ _ (by omega) _) rfl rfl rfl E56 (by decide) ?_; clear hs hf a; intro w a hs hf
    refine gL hf (g_not hf rfl) (by decide) ?_; clear hf a; intro a hf
    refine e_nil ?_
    refine c_cond hf rfl (fun hc2 => ?_) (fun hc2 => ?_)
    · skip
      have hfl : flapB b.flaps.length i = false := by have h9 : (!flapB b.flaps.length i) = true := hc2; simpa using h9
      refine c_reg ?_
      refine gL hf (g_as hf rfl) (by decide) ?_; clear hf a; intro a hf
      refine gL hf (g_as hf rfl) (by decide) ?_; clear hf a; intro a hf
      refine e_nil ?_
      refine c_ret (q_thenR ?_)
      refine e_ret2 hf rfl rfl rfl ?_
      have hsp : shorterP b i = (0, 41) := by simp [shorterP, askE, hck, hfl]
      exact ⟨by rw [hsp], hs.below⟩
    · skip
      have hfl : flapB b.flaps.length i = true := by have h9 : (!flapB b.flaps.length i) = false := hc2; simpa using h9
      have hin := flapB_in hfl; have hin1 := hin.1; have hin2 := hin.2; have hff := flap_far hv hin
      simp only [flapA] at hff
      have he : askE b (flapB b.flaps.length i) = 0 := by rw [hfl]; simp [askE, hck]
      refine c_skip (q_thenN ?_)
      refine c_reg ?_
      refine gL hf (g_fa (off' := 2) hf F25_2 rfl rfl) (by decide) ?_; clear hf a; intro a hf
      refine gL hf (g_ld hf hs T22 rfl (k := 0) rfl rfl) (by decide) ?_; clear hf a; intro a hf
      refine gL hf (g_mv hf rfl) (by decide) ?_; clear hf a; intro a hf
      (first | (refine gL hf (g_ixE hf hs (.head _) SL22 rfl rfl (by omega)) (by decide) ?_) | (refine gL hf (g_ixD hf hs (.head _) SL22 rfl rfl (by omega)) (by decide) ?_)); clear hf a; intro a hf
      refine gL hf (g_faD (j' := 1) hf hs (.head _) F49_1 rfl (by omega) rfl) (by decide) ?_; clear hf a; intro a hf
      refine gL hf (g_ldEP hf hs (.head _) T47 rfl rfl (by omega)) (by decide) ?_; clear hf a; intro a hf
      refine vL hf (v_alloc hs T47 rfl) (by decide) ?_; clear hs hf a; rintro _ w ⟨b2, rfl, hs⟩ a hf
      refine uL (u_stW hf hs T47 rfl rfl rfl (k := 0) rfl rfl rfl) ?_; clear hs; intro w hs; dsimp only [List.set] at hs
      refine e_nil ?_
      refine wp_seq ?_
      refine c_reg ?_
      refine gL hf (g_as hf rfl) (by decide) ?_; clear hf a; intro a hf
      refine e_nil ?_
      refine c_block ?_
      refine c_loop hf hs [4, 5, 8, 24, 25, 26, 27, 28, 29, 30, 31, 32, 33, 34, 35, 36, 37, 38, 39] (σ := Nat) (fun k => [(8, .int .i64 (k : Nat))]) (fun k => _) (fun k => k ≤ shortN b i ∧ ∀ j, j < k → foldsP (shortB b i ((j : Nat) : Int)) = false) (fun k => shortN b i - k) 0 ⟨Nat.zero_le _, fun z hz => absurd hz (by omega)⟩ (.cons rfl .nil) rfl ?_
      intro k a w hJ hf hs
      obtain ⟨hk, hp⟩ := hJ
      simp only [shortN, flapA] at hk
      refine wp_seq ?_
      refine c_reg ?_
      refine gL hf (g_mv hf rfl) (by decide) ?_; clear hf a; intro a hf
      refine gL hf (g_fa (off' := 1) hf F47_1 rfl rfl) (by decide) ?_; clear hf a; intro a hf
      refine gL hf (g_ld hf hs T3 rfl (k := 0) rfl rfl) (by decide) ?_; clear hf a; intro a hf
      refine gL hf (g_fa (off' := 0) hf F47_0 rfl rfl) (by decide) ?_; clear hf a; intro a hf
      refine gL hf (g_ld hf hs T3 rfl (k := 0) rfl rfl) (by decide) ?_; clear hf a; intro a hf
      refine gL hf (g_subI hf rfl rfl (by omega)) (by decide) ?_; clear hf a; intro a hf
      refine gL hf (g_leq hf rfl rfl) (by decide) ?_; clear hf a; intro a hf
      refine e_nil ?_
      refine c_cond hf rfl (fun hc3 => ?_) (fun hc3 => ?_)
      · try simp only [decide_eq_true_eq, decide_eq_false_iff_not] at hc3
        have hkf : ((k : Nat) : Int) ≤ (flapA b i).rh - (flapA b i).rl := by show _ ≤ (b.flaps.getD i.toNat default).rh - (b.flaps.getD i.toNat default).rl; omega
        refine c_skip (q_thenN ?_)
        refine c_blockS ?_
        refine c_reg ?_
        refine gL hf (g_ldW hf hs T25 rfl (k := 1) rfl rfl) (by decide) ?_; clear hf a; intro a hf
        refine gL hf (g_mv hf rfl) (by decide) ?_; clear hf a; intro a hf
        refine gL hf (g_mv hf rfl) (by decide) ?_; clear hf a; intro a hf
        refine callX hf hs (c_Shortened b _ _ _ _ i ((k : Nat) : Int) hv hin ⟨by omega, hkf⟩ _ ⟨hs.rd (.head _), hs.rd (.tail _ (.head _)), h.fc_, h.rc_⟩) rfl rfl rfl E77 (by decide) ?_; intro v w1 a hR hb hs1 hf; obtain ⟨fA2, fc2, rfl, ho2⟩ := hR; replace hs := hs.fresh hs1 ho2.fresh; clear hs1 hb
        have hv2 := valid_short hv hin (k := ((k : Nat) : Int)) ⟨by omega, hkf⟩
        have h9 := c_ringR (shortB b i ((k : Nat) : Int)) _ _ _ _ hv2 _ ⟨hs.rd (.head _), hs.rd (.tail _ (.tail _ (.head _))), ho2.1, h.rc_⟩
        simp only [short_len] at h9
        refine callX hf hs (h9) rfl rfl rfl E72 (by decide) ?_; intro v w1 a hR hb hs1 hf; obtain ⟨o9, rfl, hm9, hok9⟩ := hR; replace hs := hs.fresh hs1 (fresh_of (hok9.2.1.stable fun bk off e hm => by have h1 := hok9.2.2.1 bk off e; simp at hm; omega)); clear hs1 hb
        refine gL hf (g_eqNil hf SE27 rfl rfl) (by decide) ?_; clear hf a; intro a hf
        refine e_nil ?_
        refine c_cond hf rfl (fun hc4 => ?_) (fun hc4 => ?_)
        · skip
          have hfo : foldsP (shortB b i ((k : Nat) : Int)) = true := by rw [← ringO_folds hv2, ← hm9, tM_none, ← hok9.isNone]; exact hc4
          refine c_reg ?_
          refine gL hf (g_mv hf rfl) (by decide) ?_; clear hf a; intro a hf
          refine gL hf (g_as hf rfl) (by decide) ?_; clear hf a; intro a hf
          refine gL hf (g_as hf rfl) (by decide) ?_; clear hf a; intro a hf
          refine e_nil ?_
          refine c_ret (q_blkR (q_thenR (q_thenR (q_blkR (q_thenR ?_)))))
          refine e_ret2 hf rfl rfl rfl ?_
          exact ⟨by rw [shorter_hit he (by simp only [shortN, flapA]; omega) hp hfo], hs.below⟩
        · skip
          have hfo : foldsP (shortB b i ((k : Nat) : Int)) = false := by rw [← ringO_folds hv2, ← hm9, tM_none, ← hok9.isNone]; exact hc4
          refine c_skip (q_blkN (q_thenN ?_))
          refine c_reg1 ?_
          refine gL hf (g_mv hf rfl) (by decide) ?_; clear hf a; intro a hf
          refine gL hf (g_addI hf rfl rfl (by omega)) (by decide) ?_; clear hf a; intro a hf
          refine gL hf (g_as hf rfl) (by decide) ?_; clear hf a; intro a hf
          refine e_nil1 (q_thenN ?_)
          exact ⟨k + 1, ⟨by simp only [shortN, flapA]; omega, lt_succ hp hfo⟩, (by simp only [shortN, flapA]; omega), hf.back (by repeat (first | (with_reducible exact Ext.base) | ((with_reducible refine Ext.cons ?_ ?_); (· rfl)) | ((with_reducible refine Ext.over ?_ ?_ ?_); (· rfl); (· rfl)))) (allKeys rfl) (.cons rfl .nil), (hs.dropN 0).subD (fun _ h => (.tail _ (.tail _ h)))⟩
      · try simp only [decide_eq_true_eq, decide_eq_false_iff_not] at hc3
        refine c_exit (q_thenX (q_thenX (q_blkX (q_thenN ?_))))
        refine c_reg ?_
        refine gL hf (g_as hf rfl) (by decide) ?_; clear hf a; intro a hf
        refine gL hf (g_as hf rfl) (by decide) ?_; clear hf a; intro a hf
        refine e_nil ?_
        refine c_ret ?_
        refine e_ret2 hf rfl rfl rfl ?_
        exact ⟨by rw [shorter_none he (fun j hj => hp j (by simp only [shortN, flapA] at hj; omega))], hs.below⟩

theorem c_DropR (b : Sheet) (fA : Option Addr) (fc : Nat) (rA : Option Addr) (rc : Nat)  (w0 : World) (h : ShIn b fA fc rA rc w0) :
    Calls Tryd.prog 34 #[.agg #[.int .i64 b.wide, .int .i64 b.high, .slice fA b.flaps.length fc, .slice rA b.rules.length rc]] w0 (RetX w0 (fun v w0' => ∃ A c, v = .tuple #[.slice A (dropP b).1.length c, .int .i64 (dropP b).2] ∧ Out (dropP b).1 A c w0 w0')) := by
  refine c_enter (n := 57) Tryd.func34 rfl rfl (Nat.le_of_ble_eq_true rfl) ?_; intro a hf; simp only [zipR] at hf
  have hs := St.start w0 [Rd encF 5 fA b.flaps.length b.flaps, Rd encR 2 rA b.rules.length b.rules] h.stab
  have hfm := h.F.2.1; have hrm := h.R.2.1
  refine c_reg ?_
  refine vL hf (v_boxA hf hs rfl) (by decide) ?_; clear hs hf a; rintro _ w ⟨b1, rfl, hs⟩ a hf
  refine gL hf (g_as hf rfl) (by decide) ?_; clear hf a; intro a hf
  refine gL hf (g_as hf rfl) (by decide) ?_; clear hf a; intro a hf
  refine e_nil ?_
  refine wp_seq ?_
  refine c_reg ?_
  refine gL hf (g_ldW hf hs T25 rfl (k := 0) rfl rfl) (by decide) ?_; clear hf a; intro a hf
  refine callL hf hs (c_CheckR b _ _ _ _ _ ⟨hs.rd (.head _), hs.rd (.tail _ (.head _)), h.fc_, h.rc_⟩) rfl rfl rfl E18 (by decide) ?_; clear hs hf a; intro w a hs hf
  refine gL hf (g_as hf rfl) (by decide) ?_; clear hf a; intro a hf
  refine e_nil ?_
  refine c_reg ?_
  refine gL hf (g_mv hf rfl) (by decide) ?_; clear hf a; intro a hf
  refine gL hf (g_neq hf rfl rfl) (by decide) ?_; clear hf a; intro a hf
  refine e_nil ?_
  refine c_cond hf rfl (fun hc1 => ?_) (fun hc1 => ?_)
  · skip
    have hck : checkB b = false := by cases h9 : checkB b with
            | false => rfl
            | true => rw [h9] at hc1; cases hc1
    have hb40 := bad_ask hck true
    refine c_reg ?_
    refine gL hf (g_mv hf rfl) (by decide) ?_; clear hf a; intro a hf
    refine gL hf (g_as hf rfl) (by decide) ?_; clear hf a; intro a hf
    refine gL hf (g_as hf rfl) (by decide) ?_; clear hf a; intro a hf
    refine e_nil ?_
    refine c_ret (q_thenR ?_)
    refine e_ret2 hf rfl rfl rfl ?_
    have hor : dropP b = ([], 40) := bad_drop hck
    have e40 : (if checkB b = true then (0 : Int) else 40) = 40 := by rw [hck]; rfl
    exact ⟨_, rfl, hs.below, none, 0, by rw [hor, e40]; rfl, by rw [hor]; exact ⟨Nat.le_refl _, rd_nil, fun b o e => by cases e⟩⟩
  · skip
    have hck : checkB b = true := by cases h9 : checkB b with
            | true => rfl
            | false => rw [h9] at hc1; cases hc1
    have hv := valid_of hck
    have hmany := hv.many
    have hrl := hv.rules
    refine c_skip (q_thenN ?_)
    have hpos : 0 < 2 ^ b.rules.length := Nat.two_pow_pos _
    have hpw : 2 ^ b.rules.length ≤ 1024 := Nat.pow_le_pow_right (n := 2) (by decide) hrl
    have hsz28 := hs.below.size
    refine c_reg ?_
    refine gL hf (g_fa (off' := 3) hf F25_3 rfl rfl) (by decide) ?_; clear hf a; intro a hf
    refine gL hf (g_ld hf hs T23 rfl (k := 0) rfl rfl) (by decide) ?_; clear hf a; intro a hf
    refine gL hf (g_len hf SL23 rfl) (by decide) ?_; clear hf a; intro a hf
    refine gL hf (g_as hf rfl) (by decide) ?_; clear hf a; intro a hf
    refine e_nil ?_
    refine c_reg ?_
    refine gL hf (g_mv hf rfl) (by decide) ?_; clear hf a; intro a hf
    refine gL hf (g_shl hf rfl rfl (by omega)) (by decide) ?_; clear hf a; intro a hf
    refine gL hf (g_subI hf rfl rfl (by rw [pow_wrap hrl]; omega)) (by decide) ?_; clear hf a; intro a hf
    refine gL hf (g_mv hf rfl) (by decide) ?_; clear hf a; intro a hf
    rw [pow_wrap hrl, show ((2 ^ b.rules.length : Nat) : Int) - 1 = ((2 ^ b.rules.length - 1 : Nat) : Int) by omega] at hf
    refine callX hf hs (c_Marks ((2 ^ b.rules.length - 1 : Nat) : Int) b.rules.length (by omega) _) rfl rfl rfl E50 (by decide) ?_; intro v w1 a hR hb hs1 hf; obtain ⟨Am, cm, rfl, houm⟩ := hR; replace hs := hs.fresh hs1 (outFresh houm); clear hs1 hb
    refine gL hf (g_as hf rfl) (by decide) ?_; clear hf a; intro a hf
    refine e_nil ?_
    refine wp_seq ?_
    refine c_reg ?_
    refine gL hf (g_as hf rfl) (by decide) ?_; clear hf a; intro a hf
    refine e_nil ?_
    refine c_block ?_
    have hoB : (outL ((2 ^ b.rules.length - 1 : Nat) : Int) b.rules.length).length ≤ cm := houm.1
    refine c_loopD (fun s => Base.of w0) (fun s => Rd encI 1 s.2.1 (outL ((s.2.2.2 : Nat) : Int) b.rules.length).length (outL ((s.2.2.2 : Nat) : Int) b.rules.length) :: Rd encF 5 fA b.flaps.length b.flaps :: Rd encR 2 rA b.rules.length b.rules :: []) hf (List.range' 6 3 ++ List.range' 22 34) (σ := (Nat × Option Addr × Nat × Nat)) (fun s => [(6, .slice s.2.1 (outL ((s.2.2.2 : Nat) : Int) b.rules.length).length s.2.2.1), (7, .int .i64 (s.1 : Nat))]) (fun s => _) (fun s => s.1 ≤ 2 ^ b.rules.length ∧ s.2.2.2 < 2 ^ b.rules.length ∧ foldsP (dropB b ((s.2.2.2 : Nat) : Int)) = true ∧ (∀ z, z < s.1 → foldsP (dropB b ((z : Nat) : Int)) = true → better (outL ((z : Nat) : Int) b.rules.length) (outL ((s.2.2.2 : Nat) : Int) b.rules.length) = false) ∧ (outL ((s.2.2.2 : Nat) : Int) b.rules.length).length ≤ s.2.2.1 ∧ ∀ bk off, s.2.1 = some ⟨bk, off, none⟩ → w0.heap.size ≤ bk) (fun s => 2 ^ b.rules.length - s.1) (0, Am, cm, 2 ^ b.rules.length - 1) hs ⟨Nat.zero_le _, by dsimp only; omega, folds_all hv, (fun z hz => absurd hz (by dsimp only; omega)), houm.1, fun bk off e => Nat.le_trans hsz28 (houm.2.2 bk off e)⟩ (.cons rfl (.cons rfl .nil)) ?_
    intro ⟨k, Ab, cb, t9⟩ a w hJ hf hs
    dsimp only at hJ hf hs
    obtain ⟨hk9, ht9, hft, hmin, hcb, hAb⟩ := hJ
    refine wp_seq ?_
    refine c_reg ?_
    refine gL hf (g_mv hf rfl) (by decide) ?_; clear hf a; intro a hf
    refine gL hf (g_mv hf rfl) (by decide) ?_; clear hf a; intro a hf
    refine gL hf (g_shl hf rfl rfl (by omega)) (by decide) ?_; clear hf a; intro a hf
    refine gL hf (g_lss hf rfl rfl) (by decide) ?_; clear hf a; intro a hf
    refine e_nil ?_
    refine c_cond hf rfl (fun hc2 => ?_) (fun hc2 => ?_)
    · skip
      rw [pow_wrap hrl] at hc2
      have hk8 : k < 2 ^ b.rules.length := by have := of_decide_eq_true hc2; omega
      refine c_skip (q_thenN ?_)
      refine c_blockS ?_
      refine c_reg ?_
      refine gL hf (g_mv hf rfl) (by decide) ?_; clear hf a; intro a hf
      refine gL hf (g_mv hf rfl) (by decide) ?_; clear hf a; intro a hf
      have hszk := hs.below.size
      refine callX hf hs (c_Marks ((k : Nat) : Int) b.rules.length (by omega) _) rfl rfl rfl E50 (by decide) ?_; intro v w1 a hR hb hs1 hf; obtain ⟨An, cn, rfl, houn⟩ := hR; replace hs := hs.fresh hs1 (outFresh houn); clear hs1 hb
      refine gL hf (g_as hf rfl) (by decide) ?_; clear hf a; intro a hf
      refine e_nil ?_
      refine c_reg ?_
      refine gL hf (g_mv hf rfl) (by decide) ?_; clear hf a; intro a hf
      refine gL hf (g_len hf SL27 rfl) (by decide) ?_; clear hf a; intro a hf
      refine gL hf (g_mv hf rfl) (by decide) ?_; clear hf a; intro a hf
      refine gL hf (g_len hf SL27 rfl) (by decide) ?_; clear hf a; intro a hf
      refine gL hf (g_lss hf rfl rfl) (by decide) ?_; clear hf a; intro a hf
      refine gL hf (g_mv hf rfl) (by decide) ?_; clear hf a; intro a hf
      refine ggL hf rfl rfl (gyes_f _) (fun hg => g_mv hf rfl) (by decide) ?_; clear hf a; intro a hf
      refine ggL hf rfl rfl (gyes_f _) (fun hg => g_len hf SL27 (ev_gv rfl hg)) (by decide) ?_; clear hf a; intro a hf
      refine ggL hf rfl rfl (gyes_f _) (fun hg => g_mv hf rfl) (by decide) ?_; clear hf a; intro a hf
      refine ggL hf rfl rfl (gyes_f _) (fun hg => g_len hf SL27 (ev_gv rfl hg)) (by decide) ?_; clear hf a; intro a hf
      refine ggL hf rfl rfl (gyes_f _) (fun hg => g_eql hf (ev_gv rfl hg) (ev_gv rfl hg)) (by decide) ?_; clear hf a; intro a hf
      refine ggL hf rfl rfl (gyes_f _) (fun hg => g_mv hf (ev_gv rfl hg)) (by decide) ?_; clear hf a; intro a hf
      refine ggL hf rfl rfl (gyes_gt _ _) (fun hg => g_mv hf rfl) (by decide) ?_; clear hf a; intro a hf
      refine ggL hf rfl rfl (gyes_gt _ _) (fun hg => g_mv hf rfl) (by decide) ?_; clear hf a; intro a hf
      refine callG hf hs rfl rfl (gyes_gt _ _) (fun hg => ⟨_, _, _, _, c_Earlier _ _ _ _ _ _ _ (hs.rd (.head _)) (hs.rd (.tail _ (.head _))), rfl, evs_cons (ev_gv rfl hg) (evs_cons (ev_gv rfl hg) evs_nil), rfl⟩) E43 (by decide) ?_; clear hs hf a; intro w a hs hf
      refine ggL hf rfl rfl (gyes_f _) (fun hg => g_and hf (ev_gv rfl hg) (ev_gvand rfl hg)) (by decide) ?_; clear hf a; intro a hf
      refine gL hf (g_or hf rfl rfl) (by decide) ?_; clear hf a; intro a hf
      refine gL hf (g_mv hf rfl) (by decide) ?_; clear hf a; intro a hf
      generalize hX : (decide ((((outL ((k : Nat) : Int) b.rules.length).length : Nat) : Int) < (((outL ((t9 : Nat) : Int) b.rules.length).length : Nat) : Int)) || (((((outL ((k : Nat) : Int) b.rules.length).length : Nat) : Int) == (((outL ((t9 : Nat) : Int) b.rules.length).length : Nat) : Int)) && earlierB (outL ((k : Nat) : Int) b.rules.length) (outL ((t9 : Nat) : Int) b.rules.length))) = xb at hf
      rw [better_eq] at hX
      cases xb
      · skip
        refine gSkip hf rfl rfl rfl (by decide) ?_; clear hf a; intro a hf
        refine gSkip hf rfl rfl rfl (by decide) ?_; clear hf a; intro a hf
        refine gSkip hf rfl rfl rfl (by decide) ?_; clear hf a; intro a hf
        refine gSkip hf rfl rfl rfl (by decide) ?_; clear hf a; intro a hf
        refine gSkip hf rfl rfl rfl (by decide) ?_; clear hf a; intro a hf
        refine gL hf (g_pick hf rfl rfl rfl) (by decide) ?_; clear hf a; intro a hf
        refine e_nil ?_
        refine c_cond hf rfl (fun hc3 => ?_) (fun hc3 => ?_)
        · skip
          cases hc3
        · skip
          refine c_skip (q_blkN (q_thenN ?_))
          refine c_reg1 ?_
          refine gL hf (g_mv hf rfl) (by decide) ?_; clear hf a; intro a hf
          refine gL hf (g_addI hf rfl rfl (by omega)) (by decide) ?_; clear hf a; intro a hf
          refine gL hf (g_as hf rfl) (by decide) ?_; clear hf a; intro a hf
          refine e_nil1 (q_thenN ?_)
          first | exact ⟨(k + 1, An, cn, k), ⟨by dsimp only; omega, hk8, hfo, (fun z hz hfz => by dsimp only at hz ⊢; by_cases e : z = k; (subst e; exact better_self _); (cases hbb : better (outL ((z : Nat) : Int) b.rules.length) (outL ((k : Nat) : Int) b.rules.length) with | false => rfl | true => have h7 := hmin z (by omega) hfz; rw [better_trans hbb hX] at h7; cases h7)), houn.1, fun bk off e => Nat.le_trans hszk (houn.2.2 bk off e)⟩, (by dsimp only; omega), hf.back (by repeat (first | (with_reducible exact Ext.base) | ((with_reducible refine Ext.cons ?_ ?_); (· rfl)) | ((with_reducible refine Ext.over ?_ ?_ ?_); (· rfl); (· rfl)))) (allKeys rfl) (.cons rfl (.cons rfl .nil)), (by first | exact (hs.dropN 0).subD (fun _ h => .tail _ h) | exact (hs.dropN 0).subD (fun _ h => .tail _ (.tail _ (.tail _ h))) | exact (hs.dropN 0).subD (fun _ h => by rcases List.mem_cons.1 h with rfl | h; exact .tail _ (.tail _ (.head _)); exact .tail _ (.tail _ (.tail _ (.tail _ h)))))⟩ | exact ⟨(k + 1, Ab, cb, t9), ⟨by dsimp only; omega, ht9, hft, (fun z hz hfz => by dsimp only at hz; by_cases e : z = k; (subst e; first | exact hX | (rw [hfo] at hfz; cases hfz)); exact hmin z (by omega) hfz), hcb, hAb⟩, (by dsimp only; omega), hf.back (by repeat (first | (with_reducible exact Ext.base) | ((with_reducible refine Ext.cons ?_ ?_); (· rfl)) | ((with_reducible refine Ext.over ?_ ?_ ?_); (· rfl); (· rfl)))) (allKeys rfl) (.cons rfl (.cons rfl .nil)), (by first | exact (hs.dropN 0).subD (fun _ h => .tail _ h) | exact (hs.dropN 0).subD (fun _ h => .tail _ (.tail _ (.tail _ h))) | exact (hs.dropN 0).subD (fun _ h => by rcases List.mem_cons.1 h with rfl | h; exact .tail _ (.tail _ (.head _)); exact .tail _ (.tail _ (.tail _ (.tail _ h)))))⟩
      · skip
        refine gKnown hf rfl rfl rfl ?_
        refine gL hf (g_ldW hf hs T25 rfl (k := 0) rfl rfl) (by decide) ?_; clear hf a; intro a hf
        refine gKnown hf rfl rfl rfl ?_
        refine gL hf (g_mv hf rfl) (by decide) ?_; clear hf a; intro a hf
        refine gKnown hf rfl rfl rfl ?_
        refine callX hf hs (c_WithoutR b _ _ _ _ ((k : Nat) : Int) hv _ ⟨hs.rd (.tail _ (.tail _ (.head _))), hs.rd (.tail _ (.tail _ (.tail _ (.head _)))), h.fc_, h.rc_⟩) rfl rfl rfl E79 (by decide) ?_; intro v w1 a hR hb hs1 hf; obtain ⟨rA2, rc2, rfl, ho2⟩ := hR; replace hs := hs.fresh hs1 ho2.fresh; clear hs1 hb
        refine gKnown hf rfl rfl rfl ?_
        refine callX hf hs (c_ringR (dropB b ((k : Nat) : Int)) fA fc rA2 rc2 (valid_drop hv _) _ ⟨hs.rd (.tail _ (.tail _ (.tail _ (.head _)))), hs.rd (.head _), h.fc_, ho2.1⟩) rfl rfl rfl E72 (by decide) ?_; intro v w1 a hR hb hs1 hf; obtain ⟨o9, rfl, hm9, hok9⟩ := hR; replace hs := hs.fresh hs1 (fresh_of (hok9.2.1.stable fun bk off e hm => by have h1 := hok9.2.2.1 bk off e; simp at hm; omega)); clear hs1 hb
        refine gKnown hf rfl rfl rfl ?_
        refine gL hf (g_eqNil hf SE27 rfl rfl) (by decide) ?_; clear hf a; intro a hf
        refine gL hf (g_pick hf rfl rfl rfl) (by decide) ?_; clear hf a; intro a hf
        refine e_nil ?_
        refine c_cond hf rfl (fun hc3 => ?_) (fun hc3 => ?_)
        · skip
          have hfo : foldsP (dropB b ((k : Nat) : Int)) = true := by rw [← ringO_folds (valid_drop hv _), ← hm9, tM_none, ← hok9.isNone]; exact hc3
          refine c_reg1 ?_
          refine gL hf (g_mv hf rfl) (by decide) ?_; clear hf a; intro a hf
          refine gL hf (g_as hf rfl) (by decide) ?_; clear hf a; intro a hf
          refine e_nil1 (q_blkN (q_thenN ?_))
          refine c_reg1 ?_
          refine gL hf (g_mv hf rfl) (by decide) ?_; clear hf a; intro a hf
          refine gL hf (g_addI hf rfl rfl (by omega)) (by decide) ?_; clear hf a; intro a hf
          refine gL hf (g_as hf rfl) (by decide) ?_; clear hf a; intro a hf
          refine e_nil1 (q_thenN ?_)
          first | exact ⟨(k + 1, An, cn, k), ⟨by dsimp only; omega, hk8, hfo, (fun z hz hfz => by dsimp only at hz ⊢; by_cases e : z = k; (subst e; exact better_self _); (cases hbb : better (outL ((z : Nat) : Int) b.rules.length) (outL ((k : Nat) : Int) b.rules.length) with | false => rfl | true => have h7 := hmin z (by omega) hfz; rw [better_trans hbb hX] at h7; cases h7)), houn.1, fun bk off e => Nat.le_trans hszk (houn.2.2 bk off e)⟩, (by dsimp only; omega), hf.back (by repeat (first | (with_reducible exact Ext.base) | ((with_reducible refine Ext.cons ?_ ?_); (· rfl)) | ((with_reducible refine Ext.over ?_ ?_ ?_); (· rfl); (· rfl)))) (allKeys rfl) (.cons rfl (.cons rfl .nil)), (by first | exact (hs.dropN 0).subD (fun _ h => .tail _ h) | exact (hs.dropN 0).subD (fun _ h => .tail _ (.tail _ (.tail _ h))) | exact (hs.dropN 0).subD (fun _ h => by rcases List.mem_cons.1 h with rfl | h; exact .tail _ (.tail _ (.head _)); exact .tail _ (.tail _ (.tail _ (.tail _ h)))))⟩ | exact ⟨(k + 1, Ab, cb, t9), ⟨by dsimp only; omega, ht9, hft, (fun z hz hfz => by dsimp only at hz; by_cases e : z = k; (subst e; first | exact hX | (rw [hfo] at hfz; cases hfz)); exact hmin z (by omega) hfz), hcb, hAb⟩, (by dsimp only; omega), hf.back (by repeat (first | (with_reducible exact Ext.base) | ((with_reducible refine Ext.cons ?_ ?_); (· rfl)) | ((with_reducible refine Ext.over ?_ ?_ ?_); (· rfl); (· rfl)))) (allKeys rfl) (.cons rfl (.cons rfl .nil)), (by first | exact (hs.dropN 0).subD (fun _ h => .tail _ h) | exact (hs.dropN 0).subD (fun _ h => .tail _ (.tail _ (.tail _ h))) | exact (hs.dropN 0).subD (fun _ h => by rcases List.mem_cons.1 h with rfl | h; exact .tail _ (.tail _ (.head _)); exact .tail _ (.tail _ (.tail _ (.tail _ h)))))⟩
        · skip
          have hfo : foldsP (dropB b ((k : Nat) : Int)) = false := by rw [← ringO_folds (valid_drop hv _), ← hm9, tM_none, ← hok9.isNone]; exact hc3
          refine c_skip (q_blkN (q_thenN ?_))
          refine c_reg1 ?_
          refine gL hf (g_mv hf rfl) (by decide) ?_; clear hf a; intro a hf
          refine gL hf (g_addI hf rfl rfl (by omega)) (by decide) ?_; clear hf a; intro a hf
          refine gL hf (g_as hf rfl) (by decide) ?_; clear hf a; intro a hf
          refine e_nil1 (q_thenN ?_)
          first | exact ⟨(k + 1, An, cn, k), ⟨by dsimp only; omega, hk8, hfo, (fun z hz hfz => by dsimp only at hz ⊢; by_cases e : z = k; (subst e; exact better_self _); (cases hbb : better (outL ((z : Nat) : Int) b.rules.length) (outL ((k : Nat) : Int) b.rules.length) with | false => rfl | true => have h7 := hmin z (by omega) hfz; rw [better_trans hbb hX] at h7; cases h7)), houn.1, fun bk off e => Nat.le_trans hszk (houn.2.2 bk off e)⟩, (by dsimp only; omega), hf.back (by repeat (first | (with_reducible exact Ext.base) | ((with_reducible refine Ext.cons ?_ ?_); (· rfl)) | ((with_reducible refine Ext.over ?_ ?_ ?_); (· rfl); (· rfl)))) (allKeys rfl) (.cons rfl (.cons rfl .nil)), (by first | exact (hs.dropN 0).subD (fun _ h => .tail _ h) | exact (hs.dropN 0).subD (fun _ h => .tail _ (.tail _ (.tail _ h))) | exact (hs.dropN 0).subD (fun _ h => by rcases List.mem_cons.1 h with rfl | h; exact .tail _ (.tail _ (.head _)); exact .tail _ (.tail _ (.tail _ (.tail _ h)))))⟩ | exact ⟨(k + 1, Ab, cb, t9), ⟨by dsimp only; omega, ht9, hft, (fun z hz hfz => by dsimp only at hz; by_cases e : z = k; (subst e; first | exact hX | (rw [hfo] at hfz; cases hfz)); exact hmin z (by omega) hfz), hcb, hAb⟩, (by dsimp only; omega), hf.back (by repeat (first | (with_reducible exact Ext.base) | ((with_reducible refine Ext.cons ?_ ?_); (· rfl)) | ((with_reducible refine Ext.over ?_ ?_ ?_); (· rfl); (· rfl)))) (allKeys rfl) (.cons rfl (.cons rfl .nil)), (by first | exact (hs.dropN 0).subD (fun _ h => .tail _ h) | exact (hs.dropN 0).subD (fun _ h => .tail _ (.tail _ (.tail _ h))) | exact (hs.dropN 0).subD (fun _ h => by rcases List.mem_cons.1 h with rfl | h; exact .tail _ (.tail _ (.head _)); exact .tail _ (.tail _ (.tail _ (.tail _ h)))))⟩
    · skip
      rw [pow_wrap hrl] at hc2
      obtain rfl : k = 2 ^ b.rules.length := by have := of_decide_eq_false hc2; omega
      refine c_exit (q_thenX (q_thenX (q_blkX (q_thenN ?_))))
      refine c_reg ?_
      refine gL hf (g_mv hf rfl) (by decide) ?_; clear hf a; intro a hf
      refine gL hf (g_as hf rfl) (by decide) ?_; clear hf a; intro a hf
      refine gL hf (g_as hf rfl) (by decide) ?_; clear hf a; intro a hf
      refine e_nil ?_
      refine c_ret ?_
      refine e_ret2 hf rfl rfl rfl ?_
      have hor := drop_ref hck ht9 hft hmin
      exact ⟨_, rfl, hs.below, Ab, cb, by rw [hor], by rw [hor]; exact ⟨hcb, hs.rd (.head _), hAb⟩⟩

end Go.Proofs.YtpjhffockmnjbaaDoor
set_option linter.unusedVariables false
set_option linter.unusedSimpArgs false
namespace Go.Proofs.YtpjhffockmnjbaaDoor
open Go.RowKit
theorem c_FoldDrops (b : Sheet) (fA : Option Addr) (fc : Nat) (rA : Option Addr) (rc : Nat) (ge : TypeId) (gz : Nat × Nat) (i : Int) (w0 : World) (h : ShIn b fA fc rA rc w0) (hG : BlkIs 0 sidesA ge gz w0) :
    Calls Tryd.prog 5 #[.agg #[.int .i64 b.wide, .int .i64 b.high, .slice fA b.flaps.length fc, .slice rA b.rules.length rc], .int .i64 i] w0 (Ret w0 (.bool true)) := by
  refine c_enter (n := 52) Tryd.func5 rfl rfl (Nat.le_of_ble_eq_true rfl) ?_; intro a hf; simp only [zipR] at hf
  have hs := St.start w0 [Rd encF 5 fA b.flaps.length b.flaps, Rd encR 2 rA b.rules.length b.rules, BlkIs 0 sidesA ge gz] (stab_app h.stab hG.st1)
  have hfm := h.F.2.1; have hrm := h.R.2.1
  refine c_reg ?_
  refine vL hf (v_boxA hf hs rfl) (by decide) ?_; clear hs hf a; rintro _ w ⟨b1, rfl, hs⟩ a hf
  refine gL hf (g_as hf rfl) (by decide) ?_; clear hf a; intro a hf
  refine e_nil ?_
  refine c_reg ?_
  refine gL hf (g_ldW hf hs T25 rfl (k := 0) rfl rfl) (by decide) ?_; clear hf a; intro a hf
  refine gL hf (g_mv hf rfl) (by decide) ?_; clear hf a; intro a hf
  refine callL hf hs (c_Shorter b _ _ _ _ _ _ i _ ⟨hs.rd (.head _), hs.rd (.tail _ (.head _)), h.fc_, h.rc_⟩ (hs.rd (.tail _ (.tail _ (.head _))))) rfl rfl rfl E31 (by decide) ?_; clear hs hf a; intro w a hs hf
  refine gL hf (g_mv hf rfl) (by decide) ?_; clear hf a; intro a hf
  refine gL hf (g_ext hf rfl rfl) (by decide) ?_; clear hf a; intro a hf
  refine gL hf (g_ext hf rfl rfl) (by decide) ?_; clear hf a; intro a hf
  refine gL hf (g_as hf rfl) (by decide) ?_; clear hf a; intro a hf
  refine gL hf (g_as hf rfl) (by decide) ?_; clear hf a; intro a hf
  refine e_nil ?_
  refine c_reg ?_
  refine gL hf (g_ldW hf hs T25 rfl (k := 0) rfl rfl) (by decide) ?_; clear hf a; intro a hf
  refine gL hf (g_mv hf rfl) (by decide) ?_; clear hf a; intro a hf
  refine callL hf hs (c_ShorterR b _ _ _ _ i _ ⟨hs.rd (.head _), hs.rd (.tail _ (.head _)), h.fc_, h.rc_⟩) rfl rfl rfl E32 (by decide) ?_; clear hs hf a; intro w a hs hf
  refine gL hf (g_mv hf rfl) (by decide) ?_; clear hf a; intro a hf
  refine gL hf (g_ext hf rfl rfl) (by decide) ?_; clear hf a; intro a hf
  refine gL hf (g_ext hf rfl rfl) (by decide) ?_; clear hf a; intro a hf
  refine gL hf (g_as hf rfl) (by decide) ?_; clear hf a; intro a hf
  refine gL hf (g_as hf rfl) (by decide) ?_; clear hf a; intro a hf
  refine e_nil ?_
  refine wp_seq ?_
  refine c_reg ?_
  refine gL hf (g_mv hf rfl) (by decide) ?_; clear hf a; intro a hf
  refine gL hf (g_mv hf rfl) (by decide) ?_; clear hf a; intro a hf
  refine gL hf (g_neq hf rfl rfl) (by decide) ?_; clear hf a; intro a hf
  refine gL hf (g_mv hf rfl) (by decide) ?_; clear hf a; intro a hf
  refine ggL hf rfl rfl (gyes_f _) (fun hg => g_mv hf rfl) (by decide) ?_; clear hf a; intro a hf
  refine ggL hf rfl rfl (gyes_f _) (fun hg => g_mv hf rfl) (by decide) ?_; clear hf a; intro a hf
  refine ggL hf rfl rfl (gyes_f _) (fun hg => g_neq hf (ev_gv rfl hg) (ev_gv rfl hg)) (by decide) ?_; clear hf a; intro a hf
  refine gL hf (g_or hf rfl rfl) (by decide) ?_; clear hf a; intro a hf
  refine e_nil ?_
  refine c_cond hf rfl (fun hc1 => ?_) (fun hc1 => ?_)
  · skip
    simp at hc1
  · skip
    refine c_skip (q_thenN ?_)
    refine c_reg ?_
    refine gL hf (g_ldW hf hs T25 rfl (k := 0) rfl rfl) (by decide) ?_; clear hf a; intro a hf
    refine callX hf hs (c_Drop b _ _ _ _ _ _ _ ⟨hs.rd (.head _), hs.rd (.tail _ (.head _)), h.fc_, h.rc_⟩ (hs.rd (.tail _ (.tail _ (.head _))))) rfl rfl rfl E33 (by decide) ?_; intro v w1 a hR hb hs1 hf; obtain ⟨Ad, cd, rfl, hou⟩ := hR; replace hs := hs.fresh hs1 (outFresh hou); clear hs1 hb
    refine gL hf (g_mv hf rfl) (by decide) ?_; clear hf a; intro a hf
    refine gL hf (g_ext hf rfl rfl) (by decide) ?_; clear hf a; intro a hf
    refine gL hf (g_ext hf rfl rfl) (by decide) ?_; clear hf a; intro a hf
    refine gL hf (g_as hf rfl) (by decide) ?_; clear hf a; intro a hf
    refine gL hf (g_as hf rfl) (by decide) ?_; clear hf a; intro a hf
    refine e_nil ?_
    refine c_reg ?_
    refine gL hf (g_ldW hf hs T25 rfl (k := 0) rfl rfl) (by decide) ?_; clear hf a; intro a hf
    refine callX hf hs (c_DropR b _ _ _ _ _ ⟨hs.rd (.tail _ (.head _)), hs.rd (.tail _ (.tail _ (.head _))), h.fc_, h.rc_⟩) rfl rfl rfl E34 (by decide) ?_; intro v w1 a hR hb hs1 hf; obtain ⟨Ae, ce, rfl, hou⟩ := hR; replace hs := hs.fresh hs1 (outFresh hou); clear hs1 hb
    refine gL hf (g_mv hf rfl) (by decide) ?_; clear hf a; intro a hf
    refine gL hf (g_ext hf rfl rfl) (by decide) ?_; clear hf a; intro a hf
    refine gL hf (g_ext hf rfl rfl) (by decide) ?_; clear hf a; intro a hf
    refine gL hf (g_as hf rfl) (by decide) ?_; clear hf a; intro a hf
    refine gL hf (g_as hf rfl) (by decide) ?_; clear hf a; intro a hf
    refine e_nil ?_
    refine c_reg ?_
    refine gL hf (g_mv hf rfl) (by decide) ?_; clear hf a; intro a hf
    refine gL hf (g_mv hf rfl) (by decide) ?_; clear hf a; intro a hf
    refine callL hf hs (c_Alike _ _ (dropP b).1 _ _ (dropP b).1 _ (hs.rd (.tail _ (.head _))) (hs.rd (.head _))) rfl rfl rfl E24 (by decide) ?_; clear hs hf a; intro w a hs hf
    refine gL hf (g_mv hf rfl) (by decide) ?_; clear hf a; intro a hf
    refine ggL hf rfl rfl (gyes_t _) (fun hg => g_mv hf rfl) (by decide) ?_; clear hf a; intro a hf
    refine ggL hf rfl rfl (gyes_t _) (fun hg => g_mv hf rfl) (by decide) ?_; clear hf a; intro a hf
    refine ggL hf rfl rfl (gyes_t _) (fun hg => g_eql hf (ev_gv rfl hg) (ev_gv rfl hg)) (by decide) ?_; clear hf a; intro a hf
    refine gL hf (g_and hf rfl rfl) (by decide) ?_; clear hf a; intro a hf
    refine gL hf (g_mv hf rfl) (by decide) ?_; clear hf a; intro a hf
    refine callG hf hs rfl rfl (gyes_t _) (fun hg => ⟨_, _, _, _, c_folded ge gz _ (hs.rd (.tail _ (.tail _ (.tail _ (.tail _ (.head _)))))), rfl, evs_nil, rfl⟩) E21 (by decide) ?_; clear hs hf a; intro w a hs hf
    refine gL hf (g_and hf rfl rfl) (by decide) ?_; clear hf a; intro a hf
    refine gL hf (g_as hf rfl) (by decide) ?_; clear hf a; intro a hf
    refine e_nil ?_
    refine c_ret ?_
    refine e_ret1 hf rfl rfl ?_
    exact ⟨by simp, hs.below⟩

end Go.Proofs.YtpjhffockmnjbaaDoor
