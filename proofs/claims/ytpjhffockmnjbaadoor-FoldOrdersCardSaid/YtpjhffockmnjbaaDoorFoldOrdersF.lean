/- Part 6 of the proof of FoldOrders: laws of the engine, plain facts and contracts of the functions that the law reaches. Conditions: none beyond those of each theorem. -/
import Derived.Test.YtpjhffockmnjbaaDoorFoldOrdersE
set_option linter.unusedVariables false
set_option linter.unusedSimpArgs false
namespace Go.Proofs.YtpjhffockmnjbaaDoor
open Go.RowKit
theorem c_orders_step (b : Sheet) (k : Nat) (hv : Valid b) (ih : ∀ k2, k = k2 + 1 → OrdsSpec b k2) (fA : Option Addr) (fc : Nat) (rA : Option Addr) (rc : Nat) (A : Option Addr) (cp : Nat) (r : List Int) (w0 : World) (h : ShIn b fA fc rA rc w0) (hrk : r.length + k = b.flaps.length) (hcp : r.length ≤ cp) (hr : Rd encI 1 A r.length r w0) :
    Calls Tryd.prog 68 #[.agg #[.int .i64 b.wide, .int .i64 b.high, .slice fA b.flaps.length fc, .slice rA b.rules.length rc], .slice A r.length cp] w0 (RetX w0 (RowsOut (ordsR b k r) A w0)) := by
  refine c_enter (n := 41) Tryd.func68 rfl rfl (Nat.le_of_ble_eq_true rfl) ?_; intro a hf; simp only [zipR] at hf
  have hs := St.start w0 [Rd encF 5 fA b.flaps.length b.flaps, Rd encR 2 rA b.rules.length b.rules, Rd encI 1 A r.length r] (stab_app h.stab hr.st1)
  have hfm := h.F.2.1; have hrm := h.R.2.1; have hmany := hv.many; have hrlm := hr.2.1
  refine c_reg ?_
  refine vL hf (v_boxA hf hs rfl) (by decide) ?_; clear hs hf a; rintro _ w ⟨b1, rfl, hs⟩ a hf
  refine gL hf (g_as hf rfl) (by decide) ?_; clear hf a; intro a hf
  refine e_nil ?_
  refine wp_seq ?_
  refine c_reg ?_
  refine gL hf (g_mv hf rfl) (by decide) ?_; clear hf a; intro a hf
  refine gL hf (g_len hf SL27 rfl) (by decide) ?_; clear hf a; intro a hf
  refine gL hf (g_fa (off' := 2) hf F25_2 rfl rfl) (by decide) ?_; clear hf a; intro a hf
  refine gL hf (g_ld hf hs T22 rfl (k := 0) rfl rfl) (by decide) ?_; clear hf a; intro a hf
  refine gL hf (g_len hf SL22 rfl) (by decide) ?_; clear hf a; intro a hf
  refine gL hf (g_eql hf rfl rfl) (by decide) ?_; clear hf a; intro a hf
  refine e_nil ?_
  refine c_cond hf rfl (fun hc1 => ?_) (fun hc1 => ?_)
  · try simp only [decide_eq_true_eq, decide_eq_false_iff_not] at hc1
    have hfull : r.length = b.flaps.length := by simp at hc1; omega
    refine c_reg ?_
    refine gL hf (g_mv hf rfl) (by decide) ?_; clear hf a; intro a hf
    refine vL hf (v_lits (len := 1) hf hs SL82 T27 (.cons rfl .nil) rfl rfl rfl rfl (by decide) rfl) (by decide) ?_; clear hs hf a; rintro _ w ⟨b2, rfl, hs⟩ a hf
    refine gL hf (g_as hf rfl) (by decide) ?_; clear hf a; intro a hf
    refine e_nil ?_
    refine c_ret (q_thenR ?_)
    refine e_ret1 hf rfl rfl ?_
    exact ⟨_, rfl, hs.below, some ⟨b2, 0, none⟩, 1, [(A, cp, r)], rfl, by rw [ords_full hfull]; rfl, ⟨Nat.le_refl _, rd_one (enc := encT) (x := (A, cp, r)) rfl (hs.own _ _ (.head _)).2, fun bk off e => by cases e; exact (hs.own _ _ (.head _)).1⟩, fun t ht => by rw [List.mem_singleton.1 ht]; exact ⟨hcp, hs.rd (.tail _ (.tail _ (.head _)))⟩, fun t ht => by rw [List.mem_singleton.1 ht]; exact .inr rfl⟩
  · try simp only [decide_eq_true_eq, decide_eq_false_iff_not] at hc1
    have hnf : r.length ≠ b.flaps.length := by simp at hc1; omega
    obtain ⟨k2, hk2⟩ : ∃ k2, k = k2 + 1 := ⟨k - 1, by omega⟩
    have hform : ordsR b k r = (List.range b.flaps.length).flatMap (ordN b k2 r) := by rw [hk2]; exact ords_more hnf
    refine c_skip (q_thenN ?_)
    refine c_reg ?_
    refine gL hf (g_as hf rfl) (by decide) ?_; clear hf a; intro a hf
    refine e_nil ?_
    refine wp_seq ?_
    refine c_reg ?_
    refine gL hf (g_as hf rfl) (by decide) ?_; clear hf a; intro a hf
    refine e_nil ?_
    refine c_block ?_
    replace hs := hs.addD (D := TSD []) ((tsd_nil _).stab (fun t ht => by cases ht))
    refine c_loopD (fun s => Base.of w0) (fun s => TSD s.2.2 :: Rd encF 5 fA b.flaps.length b.flaps :: Rd encR 2 rA b.rules.length b.rules :: Rd encI 1 A r.length r :: []) hf (List.range' 5 3 ++ List.range' 16 24) (σ := (Nat × Acc × List Tr)) (fun s => [(5, accV 1 s.2.2.length s.2.1), (6, .int .i64 (s.1 : Nat))]) (fun s => (b1, .cells #[.int .i64 b.wide, .int .i64 b.high, .slice fA b.flaps.length fc, .slice rA b.rules.length rc] 25 (0, 0)) :: accH 27 s.2.1) (fun s => s.1 ≤ b.flaps.length ∧ AccOK encT 1 s.2.2 s.2.1 ∧ rowsT s.2.2 = (List.range s.1).flatMap (ordN b k2 r) ∧ ∀ t ∈ s.2.2, (∀ bk off, t.1 = some ⟨bk, off, none⟩ → w0.heap.size ≤ bk) ∨ t.1 = A) (fun s => b.flaps.length - s.1) (0, none, []) hs ⟨Nat.zero_le _, rfl, rfl, (fun t ht => by cases ht)⟩ (.cons rfl (.cons rfl .nil)) ?_
    intro ⟨i, oa, ts⟩ a w hJ hf hs
    dsimp only at hJ hf hs
    obtain ⟨hi2, hoa, hrws, hfrs⟩ := hJ
    refine wp_seq ?_
    refine c_reg ?_
    refine gL hf (g_mv hf rfl) (by decide) ?_; clear hf a; intro a hf
    refine gL hf (g_fa (off' := 2) hf F25_2 rfl rfl) (by decide) ?_; clear hf a; intro a hf
    refine gL hf (g_ld hf hs T22 rfl (k := 0) rfl rfl) (by decide) ?_; clear hf a; intro a hf
    refine gL hf (g_len hf SL22 rfl) (by decide) ?_; clear hf a; intro a hf
    refine gL hf (g_lss hf rfl rfl) (by decide) ?_; clear hf a; intro a hf
    refine e_nil ?_
    refine c_cond hf rfl (fun hc2 => ?_) (fun hc2 => ?_)
    · try simp only [decide_eq_true_eq, decide_eq_false_iff_not] at hc2
      have hii : i < b.flaps.length := by omega
      refine c_skip (q_thenN ?_)
      refine c_blockS ?_
      refine c_reg ?_
      refine gL hf (g_mv hf rfl) (by decide) ?_; clear hf a; intro a hf
      refine gL hf (g_mv hf rfl) (by decide) ?_; clear hf a; intro a hf
      refine callX hf hs (c_Plus _ _ r ((i : Nat) : Int) (by omega) _ (hs.rd (.tail _ (.tail _ (.tail _ (.head _)))))) rfl rfl rfl E99 (by decide) ?_; have hsz9 := fun bk hbk => hs.lt' (b := bk) hbk; have hsz0 := hs.below.size; intro v w1 a hR hb hs1 hf; obtain ⟨Ap, cp9, rfl, hou⟩ := hR; have hsz7 := hb.size; replace hs := hs.fresh hs1 (outFresh hou); clear hs1 hb
      refine gL hf (g_as hf rfl) (by decide) ?_; clear hf a; intro a hf
      refine e_nil ?_
      refine c_reg ?_
      refine gL hf (g_mv hf rfl) (by decide) ?_; clear hf a; intro a hf
      refine gL hf (g_mv hf rfl) (by decide) ?_; clear hf a; intro a hf
      refine callL hf hs (c_IndexR _ _ _ r _ _ (hs.rd (.tail _ (.tail _ (.tail _ (.tail _ (.head _))))))) rfl rfl rfl E44 (by decide) ?_; clear hs hf a; intro w a hs hf
      refine gL hf (g_lss hf rfl rfl) (by decide) ?_; clear hf a; intro a hf
      refine gL hf (g_mv hf rfl) (by decide) ?_; clear hf a; intro a hf
      refine ggL hf rfl rfl (gyes_t _) (fun hg => g_ldW hf hs T25 rfl (k := 0) rfl rfl) (by decide) ?_; clear hf a; intro a hf
      refine ggL hf rfl rfl (gyes_t _) (fun hg => g_mv hf rfl) (by decide) ?_; clear hf a; intro a hf
      refine callG hf hs rfl rfl (gyes_t _) (fun hg => ⟨_, _, _, _, c_doesR b _ _ _ _ _ _ (r ++ [((i : Nat) : Int)]) true hv _ ⟨hs.rd (.tail _ (.tail _ (.head _))), hs.rd (.tail _ (.tail _ (.tail _ (.head _)))), h.fc_, h.rc_⟩ (hs.rd (.head _)), rfl, evs_cons (ev_gv rfl hg) (evs_cons (ev_gv rfl hg) (evs_cons rfl evs_nil)), rfl⟩) E66 (by decide) ?_; clear hs hf a; intro w a hs hf
      refine gL hf (g_and hf rfl rfl) (by decide) ?_; clear hf a; intro a hf
      refine e_nil ?_
      refine c_cond hf rfl (fun hc3 => ?_) (fun hc3 => ?_)
      · skip
        rw [index_neg_iff] at hc3
        have hrn : ordN b k2 r i = ordsR b k2 (r ++ [((i : Nat) : Int)]) := by unfold ordN; rw [if_pos hc3]
        have hpb := ordPart_bound hmany.2 r (k := k2) (i := i + 1) (by omega) (by omega)
        rw [fm_snoc, hrn, ← hrws, List.length_append, rowsT_len] at hpb
        refine c_reg1 ?_
        refine gL hf (g_mv hf rfl) (by decide) ?_; clear hf a; intro a hf
        refine gL hf (g_ldW hf hs T25 rfl (k := 0) rfl rfl) (by decide) ?_; clear hf a; intro a hf
        refine gL hf (g_mv hf rfl) (by decide) ?_; clear hf a; intro a hf
        refine callX hf hs (ih k2 hk2 _ (r ++ [((i : Nat) : Int)]) Ap cp9 _ _ _ _ ⟨hs.rd (.tail _ (.tail _ (.head _))), hs.rd (.tail _ (.tail _ (.tail _ (.head _)))), h.fc_, h.rc_⟩ (by rw [List.length_append]; simp only [List.length_cons, List.length_nil]; omega) hou.1 (hs.rd (.head _))) rfl rfl rfl E68 (by decide) ?_; have hsz6 := hs.below.size; have hsz8 := fun bk hbk => hs.lt' (b := bk) hbk; intro v w1 a hR hb hs1 hf; obtain ⟨A5, c5, us, rfl, hus, houu, htu, hfu⟩ := hR; have hdis := dis_of hsz9 hsz8 hfu hou.2.2; replace hs := (hs.fresh hs1 houu.fresh).addD (D := TSD us) (htu.stab hdis); clear hs1 hb
        have hul : us.length = (ordsR b k2 (r ++ [((i : Nat) : Int)])).length := by rw [← hus, rowsT_len]
        refine vL hf (v_accN (e := 27) (R := []) (o := oa) (l := ts) (l' := us) hf 1 hs (by simp) hoa AP82 (enc := encT) (fun _ => rfl) (by decide) (by intro x v hv9; rw [List.mem_singleton.1 hv9]; rfl) rfl rfl rfl (hs.rd (.tail _ (.head _))) (by omega) (by decide)) (by decide) ?_; clear hs hf a; rintro _ w ⟨oa2, rfl, hoa2, hs⟩ a hf; dsimp only [List.take, List.cons_append, List.nil_append] at hs; rw [List.append_nil] at hs
        replace hs := hs.addD (tsd_app (hs.data _ (.tail _ (.tail _ (.tail _ (.head _))))) (hs.data _ (.head _)))
        rw [← List.length_append] at hf
        refine gL hf (g_as hf rfl) (by decide) ?_; clear hf a; intro a hf
        refine e_nil1 (q_blkN (q_thenN ?_))
        refine c_reg1 ?_
        refine gL hf (g_mv hf rfl) (by decide) ?_; clear hf a; intro a hf
        refine gL hf (g_addI hf rfl rfl (by omega)) (by decide) ?_; clear hf a; intro a hf
        refine gL hf (g_as hf rfl) (by decide) ?_; clear hf a; intro a hf
        refine e_nil1 (q_thenN ?_)
        first | exact ⟨(i + 1, oa2, ts ++ us), ⟨by dsimp only; omega, hoa2, by dsimp only; rw [rowsT_app, hrws, hus, fm_snoc, hrn], fun t ht => by rcases List.mem_append.1 ht with ht | ht; exact hfrs t ht; exact .inl (new_of2 hsz0 hou.2.2 hfu hsz6 t ht)⟩, (by dsimp only; omega), hf.back (by repeat (first | (with_reducible exact Ext.base) | ((with_reducible refine Ext.cons ?_ ?_); (· rfl)) | ((with_reducible refine Ext.over ?_ ?_ ?_); (· rfl); (· rfl)))) (allKeys rfl) (.cons rfl (.cons rfl .nil)), (by first | exact hs.subD (fun _ h => by rcases List.mem_cons.1 h with rfl | h; exact .head _; exact .tail _ (.tail _ (.tail _ (.tail _ (.tail _ h))))) | exact hs.subD (fun _ h => .tail _ h))⟩ | exact ⟨(i + 1, oa, ts), ⟨by dsimp only; omega, hoa, by dsimp only; rw [fm_snoc, hrn, List.append_nil]; exact hrws, hfrs⟩, (by dsimp only; omega), hf.back (by repeat (first | (with_reducible exact Ext.base) | ((with_reducible refine Ext.cons ?_ ?_); (· rfl)) | ((with_reducible refine Ext.over ?_ ?_ ?_); (· rfl); (· rfl)))) (allKeys rfl) (.cons rfl (.cons rfl .nil)), (by first | exact hs.subD (fun _ h => by rcases List.mem_cons.1 h with rfl | h; exact .head _; exact .tail _ (.tail _ (.tail _ (.tail _ (.tail _ h))))) | exact hs.subD (fun _ h => .tail _ h))⟩
      · skip
        rw [index_neg_iff] at hc3
        have hrn : ordN b k2 r i = [] := by unfold ordN; rw [hc3]; simp
        refine c_skip (q_blkN (q_thenN ?_))
        refine c_reg1 ?_
        refine gL hf (g_mv hf rfl) (by decide) ?_; clear hf a; intro a hf
        refine gL hf (g_addI hf rfl rfl (by omega)) (by decide) ?_; clear hf a; intro a hf
        refine gL hf (g_as hf rfl) (by decide) ?_; clear hf a; intro a hf
        refine e_nil1 (q_thenN ?_)
        first | exact ⟨(i + 1, oa2, ts ++ us), ⟨by dsimp only; omega, hoa2, by dsimp only; rw [rowsT_app, hrws, hus, fm_snoc, hrn], fun t ht => by rcases List.mem_append.1 ht with ht | ht; exact hfrs t ht; exact .inl (new_of2 hsz0 hou.2.2 hfu hsz6 t ht)⟩, (by dsimp only; omega), hf.back (by repeat (first | (with_reducible exact Ext.base) | ((with_reducible refine Ext.cons ?_ ?_); (· rfl)) | ((with_reducible refine Ext.over ?_ ?_ ?_); (· rfl); (· rfl)))) (allKeys rfl) (.cons rfl (.cons rfl .nil)), (by first | exact hs.subD (fun _ h => by rcases List.mem_cons.1 h with rfl | h; exact .head _; exact .tail _ (.tail _ (.tail _ (.tail _ (.tail _ h))))) | exact hs.subD (fun _ h => .tail _ h))⟩ | exact ⟨(i + 1, oa, ts), ⟨by dsimp only; omega, hoa, by dsimp only; rw [fm_snoc, hrn, List.append_nil]; exact hrws, hfrs⟩, (by dsimp only; omega), hf.back (by repeat (first | (with_reducible exact Ext.base) | ((with_reducible refine Ext.cons ?_ ?_); (· rfl)) | ((with_reducible refine Ext.over ?_ ?_ ?_); (· rfl); (· rfl)))) (allKeys rfl) (.cons rfl (.cons rfl .nil)), (by first | exact hs.subD (fun _ h => by rcases List.mem_cons.1 h with rfl | h; exact .head _; exact .tail _ (.tail _ (.tail _ (.tail _ (.tail _ h))))) | exact hs.subD (fun _ h => .tail _ h))⟩
    · try simp only [decide_eq_true_eq, decide_eq_false_iff_not] at hc2
      obtain rfl : i = b.flaps.length := by omega
      have hn1 : ∀ q, oa = some q → w0.heap.size ≤ q.1 := fun q e => by subst e; exact (hs.own _ _ (.tail _ (.head _))).1
      obtain ⟨A3, c3, e3, hl3, hs⟩ := hs.freeze (R := []) (e := 27) (o := oa) (enc := encT) (sz := 1) 1 (by simp) hoa (fun _ => rfl) (by decide)
      have hA3 := acc_new hn1 e3
      rw [e3] at hf
      refine c_exit (q_thenX (q_thenX (q_blkX (q_thenN ?_))))
      refine c_reg ?_
      refine gL hf (g_mv hf rfl) (by decide) ?_; clear hf a; intro a hf
      refine gL hf (g_as hf rfl) (by decide) ?_; clear hf a; intro a hf
      refine e_nil ?_
      refine c_ret ?_
      refine e_ret1 hf rfl rfl ?_
      exact ⟨_, rfl, hs.below, A3, c3, ts, rfl, by rw [hform]; exact hrws, ⟨hl3, hs.rd (.head _), hA3⟩, hs.rd (.tail _ (.head _)), hfrs⟩

theorem c_chain_step (b : Sheet) (l : List Int) (k : Nat) (hv : Valid b) (hok : Ok b l) (hl : l.length = b.flaps.length) (hk8 : k ≤ 100) (ih : ChainSpec b l k) (fA : Option Addr) (fc : Nat) (rA : Option Addr) (rc : Nat) (g : Int) (w0 : World) (h : ShIn b fA fc rA rc w0) (hg : inN b g) (hidx : l.idxOf g < k + 1) :
    Calls Tryd.prog 73 #[.agg #[.int .i64 b.wide, .int .i64 b.high, .slice fA b.flaps.length fc, .slice rA b.rules.length rc], .int .i64 g] w0 (Ret w0 (.int .i64 (chainR b (k + 1) g))) := by
  refine c_enter (n := 25) Tryd.func73 rfl rfl (Nat.le_of_ble_eq_true rfl) ?_; intro a hf; simp only [zipR] at hf
  have hs := St.start w0 [Rd encF 5 fA b.flaps.length b.flaps, Rd encR 2 rA b.rules.length b.rules] h.stab
  have hfm := h.F.2.1; have hrm := h.R.2.1; have hmany := hv.many
  refine c_reg ?_
  refine vL hf (v_boxA hf hs rfl) (by decide) ?_; clear hs hf a; rintro _ w ⟨b1, rfl, hs⟩ a hf
  refine gL hf (g_as hf rfl) (by decide) ?_; clear hf a; intro a hf
  refine e_nil ?_
  refine c_reg ?_
  refine gL hf (g_as hf rfl) (by decide) ?_; clear hf a; intro a hf
  refine e_nil ?_
  refine wp_seq ?_
  refine c_reg ?_
  refine gL hf (g_as hf rfl) (by decide) ?_; clear hf a; intro a hf
  refine e_nil ?_
  refine c_block ?_
  refine c_loop hf hs [5, 6, 7, 8, 9, 10, 11, 12, 13, 14, 15, 16, 17, 18, 19, 20, 21, 22] (σ := Nat) (fun i => [(5, .int .i64 (maxTo (chF1 b k g) i)), (6, .int .i64 (i : Nat))]) (fun i => _) (fun i => i ≤ b.flaps.length) (fun i => b.flaps.length - i) 0 (by omega) (.cons rfl (.cons rfl .nil)) rfl ?_
  intro i a w hJ hf hs
  refine wp_seq ?_
  refine c_reg ?_
  refine gL hf (g_mv hf rfl) (by decide) ?_; clear hf a; intro a hf
  refine gL hf (g_fa (off' := 2) hf F25_2 rfl rfl) (by decide) ?_; clear hf a; intro a hf
  refine gL hf (g_ld hf hs T22 rfl (k := 0) rfl rfl) (by decide) ?_; clear hf a; intro a hf
  refine gL hf (g_len hf SL22 rfl) (by decide) ?_; clear hf a; intro a hf
  refine gL hf (g_lss hf rfl rfl) (by decide) ?_; clear hf a; intro a hf
  refine e_nil ?_
  refine c_cond hf rfl (fun hc1 => ?_) (fun hc1 => ?_)
  · try simp only [decide_eq_true_eq, decide_eq_false_iff_not] at hc1
    refine c_skip (q_thenN ?_)
    refine c_blockS ?_
    refine c_reg ?_
    refine gL hf (g_ldW hf hs T25 rfl (k := 0) rfl rfl) (by decide) ?_; clear hf a; intro a hf
    refine gL hf (g_mv hf rfl) (by decide) ?_; clear hf a; intro a hf
    refine gL hf (g_mv hf rfl) (by decide) ?_; clear hf a; intro a hf
    refine callL hf hs (c_over b _ _ _ _ _ _ true hv _ ⟨hs.rd (.head _), hs.rd (.tail _ (.head _)), h.fc_, h.rc_⟩) rfl rfl rfl E95 (by decide) ?_; clear hs hf a; intro w a hs hf
    rw [overB_overP hv] at hf
    refine e_nil ?_
    refine c_cond hf rfl (fun hc2 => ?_) (fun hc2 => ?_)
    · skip
      have hidx2 : l.idxOf ((i : Nat) : Int) < k := by have := ok_over hok (ord_mem (ok_ord hok hl) hg) hc2; omega
      have hst : maxTo (chF1 b k g) (i + 1) = max (maxTo (chF1 b k g) i) (chainR b k ((i : Nat) : Int)) := by simp only [maxTo, chF1]; rw [if_pos hc2]
      refine c_reg1 ?_
      refine gL hf (g_mv hf rfl) (by decide) ?_; clear hf a; intro a hf
      refine gL hf (g_ldW hf hs T25 rfl (k := 0) rfl rfl) (by decide) ?_; clear hf a; intro a hf
      refine gL hf (g_mv hf rfl) (by decide) ?_; clear hf a; intro a hf
      refine callL hf hs (ih _ ((i : Nat) : Int) _ _ _ _ ⟨hs.rd (.head _), hs.rd (.tail _ (.head _)), h.fc_, h.rc_⟩ ⟨by omega, by omega⟩ hidx2) rfl rfl rfl E73 (by decide) ?_; clear hs hf a; intro w a hs hf
      refine gL hf (g_max hf rfl rfl) (by decide) ?_; clear hf a; intro a hf
      refine gL hf (g_as hf rfl) (by decide) ?_; clear hf a; intro a hf
      refine e_nil1 (q_blkN (q_thenN ?_))
      refine c_reg1 ?_
      refine gL hf (g_mv hf rfl) (by decide) ?_; clear hf a; intro a hf
      refine gL hf (g_addI hf rfl rfl (by omega)) (by decide) ?_; clear hf a; intro a hf
      refine gL hf (g_as hf rfl) (by decide) ?_; clear hf a; intro a hf
      refine e_nil1 (q_thenN ?_)
      rw [← hst] at hf
      exact ⟨i + 1, (by omega), (by omega), hf.back (by repeat (first | (with_reducible exact Ext.base) | ((with_reducible refine Ext.cons ?_ ?_); (· rfl)) | ((with_reducible refine Ext.over ?_ ?_ ?_); (· rfl); (· rfl)))) (allKeys rfl) (.cons rfl (.cons rfl .nil)), hs.dropN 0⟩
    · skip
      have hst : maxTo (chF1 b k g) (i + 1) = maxTo (chF1 b k g) i := by have h0 := (chain_part (b := b) (k := k) (f := g) (i := i)).1; simp only [maxTo]; rw [show chF1 b k g i = 0 by unfold chF1; rw [if_neg (by rw [hc2]; decide)]]; omega
      refine c_skip (q_blkN (q_thenN ?_))
      refine c_reg1 ?_
      refine gL hf (g_mv hf rfl) (by decide) ?_; clear hf a; intro a hf
      refine gL hf (g_addI hf rfl rfl (by omega)) (by decide) ?_; clear hf a; intro a hf
      refine gL hf (g_as hf rfl) (by decide) ?_; clear hf a; intro a hf
      refine e_nil1 (q_thenN ?_)
      rw [← hst] at hf
      exact ⟨i + 1, (by omega), (by omega), hf.back (by repeat (first | (with_reducible exact Ext.base) | ((with_reducible refine Ext.cons ?_ ?_); (· rfl)) | ((with_reducible refine Ext.over ?_ ?_ ?_); (· rfl); (· rfl)))) (allKeys rfl) (.cons rfl (.cons rfl .nil)), hs.dropN 0⟩
  · try simp only [decide_eq_true_eq, decide_eq_false_iff_not] at hc1
    obtain rfl : i = b.flaps.length := by omega
    have hcp9 := chain_part (b := b) (k := k) (f := g) (i := b.flaps.length)
    refine c_exit (q_thenX (q_thenX (q_blkX (q_thenN ?_))))
    refine c_reg ?_
    refine gL hf (g_mv hf rfl) (by decide) ?_; clear hf a; intro a hf
    refine gL hf (g_addI hf rfl rfl (by omega)) (by decide) ?_; clear hf a; intro a hf
    refine gL hf (g_as hf rfl) (by decide) ?_; clear hf a; intro a hf
    refine e_nil ?_
    refine c_ret ?_
    refine e_ret1 hf rfl rfl ?_
    exact ⟨rfl, hs.below⟩

end Go.Proofs.YtpjhffockmnjbaaDoor
set_option linter.unusedVariables false
set_option linter.unusedSimpArgs false
namespace Go.Proofs.YtpjhffockmnjbaaDoor
open Go.RowKit
theorem c_ordersR {b : Sheet} (hv : Valid b) : ∀ k, OrdsSpec b k
  | 0 => fun w r A cp fA fc rA rc h1 h2 h3 h4 => c_orders_step b 0 hv (fun k2 e => by cases e) fA fc rA rc A cp r w h1 h2 h3 h4
  | k + 1 => fun w r A cp fA fc rA rc h1 h2 h3 h4 => c_orders_step b (k + 1) hv (fun k2 e => by cases e; exact c_ordersR hv k) fA fc rA rc A cp r w h1 h2 h3 h4
theorem c_chain {b : Sheet} {l : List Int} (hv : Valid b) (hok : Ok b l) (hl : l.length = b.flaps.length) : ∀ k, k ≤ 100 → ChainSpec b l k
  | 0, _ => fun w f fA fc rA rc h1 h2 h3 => absurd h3 (by omega)
  | k + 1, hk => fun w f fA fc rA rc h1 h2 h3 => c_chain_step b l k hv hok hl (by omega) (c_chain hv hok hl k (by omega)) fA fc rA rc f w h1 h2 h3
abbrev chM (b : Sheet) : Nat → Int := fun i => chainR b 8 ((i : Nat) : Int)
theorem chM_part {b : Sheet} {i : Nat} : 0 ≤ maxTo (chM b) i ∧ maxTo (chM b) i ≤ 9 := maxTo_le (by omega) i fun j _ => by have := (chain_rng b 8 ((j : Nat) : Int)).2; simp only [chM]; omega
end Go.Proofs.YtpjhffockmnjbaaDoor
set_option linter.unusedVariables false
set_option linter.unusedSimpArgs false
namespace Go.Proofs.YtpjhffockmnjbaaDoor
open Go.RowKit
theorem c_OrderR (b : Sheet) (fA : Option Addr) (fc : Nat) (rA : Option Addr) (rc : Nat)  (w0 : World) (h : ShIn b fA fc rA rc w0) :
    Calls Tryd.prog 23 #[.agg #[.int .i64 b.wide, .int .i64 b.high, .slice fA b.flaps.length fc, .slice rA b.rules.length rc]] w0 (RetX w0 (fun v w0' => ∃ A c, v = .tuple #[.slice A (orderP b).1.length c, .int .i64 (orderP b).2] ∧ Out (orderP b).1 A c w0 w0')) := by
  refine c_enter (n := 19) Tryd.func23 rfl rfl (Nat.le_of_ble_eq_true rfl) ?_; intro a hf; simp only [zipR] at hf
  have hs := St.start w0 [Rd encF 5 fA b.flaps.length b.flaps, Rd encR 2 rA b.rules.length b.rules] h.stab
  have hfm := h.F.2.1; have hrm := h.R.2.1
  refine c_reg ?_
  refine vL hf (v_boxA hf hs rfl) (by decide) ?_; clear hs hf a; rintro _ w ⟨b1, rfl, hs⟩ a hf
  refine gL hf (g_as hf rfl) (by decide) ?_; clear hf a; intro a hf
  refine gL hf (g_as hf rfl) (by decide) ?_; clear hf a; intro a hf
  refine e_nil ?_
  refine wp_seq ?_
  refine c_reg ?_
  refine gL hf (g_ldW hf hs T25 rfl (k := 0) rfl rfl) (by decide) ?_; clear hf a; intro a hf
  refine callL hf hs (c_CheckR b _ _ _ _ _ ⟨hs.rd (.head _), hs.rd (.tail _ (.head _)), h.fc_, h.rc_⟩) rfl rfl rfl E18 (by decide) ?_; clear hs hf a; intro w a hs hf
  refine gL hf (g_as hf rfl) (by decide) ?_; clear hf a; intro a hf
  refine e_nil ?_
  refine c_reg ?_
  refine gL hf (g_mv hf rfl) (by decide) ?_; clear hf a; intro a hf
  refine gL hf (g_neq hf rfl rfl) (by decide) ?_; clear hf a; intro a hf
  refine e_nil ?_
  refine c_cond hf rfl (fun hc1 => ?_) (fun hc1 => ?_)
  · skip
    have hck : checkB b = false := by cases h9 : checkB b with
            | false => rfl
            | true => rw [h9] at hc1; cases hc1
    have hb40 := bad_ask hck true
    refine c_reg ?_
    refine gL hf (g_mv hf rfl) (by decide) ?_; clear hf a; intro a hf
    refine gL hf (g_as hf rfl) (by decide) ?_; clear hf a; intro a hf
    refine gL hf (g_as hf rfl) (by decide) ?_; clear hf a; intro a hf
    refine e_nil ?_
    refine c_ret (q_thenR ?_)
    refine e_ret2 hf rfl rfl rfl ?_
    have hor : orderP b = ([], 40) := bad_order hck
    have e40 : (if checkB b = true then (0 : Int) else 40) = 40 := by rw [hck]; rfl
    exact ⟨_, rfl, hs.below, none, 0, by rw [hor, e40]; rfl, by rw [hor]; exact ⟨Nat.le_refl _, rd_nil, fun b o e => by cases e⟩⟩
  · skip
    have hck : checkB b = true := by cases h9 : checkB b with
            | true => rfl
            | false => rw [h9] at hc1; cases hc1
    have hv := valid_of hck
    have hmany := hv.many
    have hrl := hv.rules
    refine c_skip (q_thenN ?_)
    have hsz28 := hs.below.size
    have ha0 : askE b true = 0 := by simp [askE, hck]
    refine c_reg ?_
    refine gL hf (g_ldW hf hs T25 rfl (k := 0) rfl rfl) (by decide) ?_; clear hf a; intro a hf
    refine callX hf hs (c_ordersR hv b.flaps.length _ [] none 0 _ _ _ _ ⟨hs.rd (.head _), hs.rd (.tail _ (.head _)), h.fc_, h.rc_⟩ (by simp) (Nat.le_refl _) rd_nil) rfl rfl rfl E68 (by decide) ?_; have hsz8 := fun bk hbk => hs.lt' (b := bk) hbk; intro v w1 a hR hb hs1 hf; obtain ⟨A5, c5, us, rfl, hus, houu, htu, hfu⟩ := hR; rw [ordsR_all hv] at hus; replace hs := (hs.fresh hs1 houu.fresh).addD (D := TSD us) (htu.stab (dis_of hsz8 hsz8 hfu (fun bk off e => by cases e))); clear hs1 hb
    refine gL hf (g_as hf rfl) (by decide) ?_; clear hf a; intro a hf
    refine e_nil ?_
    refine wp_seq ?_
    refine c_reg ?_
    refine gL hf (g_mv hf rfl) (by decide) ?_; clear hf a; intro a hf
    refine gL hf (g_len hf SL82 rfl) (by decide) ?_; clear hf a; intro a hf
    refine gL hf (g_eql hf rfl rfl) (by decide) ?_; clear hf a; intro a hf
    refine e_nil ?_
    refine c_cond hf rfl (fun hc2 => ?_) (fun hc2 => ?_)
    · try simp only [decide_eq_true_eq, decide_eq_false_iff_not] at hc2
      have hu0 : us = [] := by simpa using hc2
      refine c_reg ?_
      refine gL hf (g_as hf rfl) (by decide) ?_; clear hf a; intro a hf
      refine gL hf (g_as hf rfl) (by decide) ?_; clear hf a; intro a hf
      refine e_nil ?_
      refine c_ret (q_thenR ?_)
      refine e_ret2 hf rfl rfl rfl ?_
      have hor : orderP b = ([], 4) := by rw [hu0] at hus; simp only [orderP, ha0, ← hus]; rfl
      exact ⟨_, rfl, hs.below, none, 0, by rw [hor]; rfl, by rw [hor]; exact ⟨Nat.le_refl _, rd_nil, fun b o e => by cases e⟩⟩
    · try simp only [decide_eq_true_eq, decide_eq_false_iff_not] at hc2
      have hu1 : 0 < us.length := by cases us with | nil => simp at hc2 | cons u us => simp
      refine c_skip (q_thenN ?_)
      refine c_reg ?_
      refine gL hf (g_mv hf rfl) (by decide) ?_; clear hf a; intro a hf
      (first | (refine gL hf (g_ixE hf hs (.tail _ (.head _)) SL82 rfl rfl (by omega)) (by decide) ?_) | (refine gL hf (g_ixD hf hs (.tail _ (.head _)) SL82 rfl rfl (by omega)) (by decide) ?_)); clear hf a; intro a hf
      refine gL hf (g_ldE hf hs (.tail _ (.head _)) T27 rfl rfl (by omega)) (by decide) ?_; clear hf a; intro a hf
      refine gL hf (g_as hf rfl) (by decide) ?_; clear hf a; intro a hf
      refine gL hf (g_as hf rfl) (by decide) ?_; clear hf a; intro a hf
      refine e_nil ?_
      refine c_ret ?_
      refine e_ret2 hf rfl rfl rfl ?_
      have htj := (hs.rd (.head _)) _ (getD_mem (l := us) (i := 0) hu1)
      have hor : orderP b = ((us.getD 0 default).2.2, 0) := by
          cases us with
          | nil => simp at hu1
          | cons u us => simp only [orderP, ha0, ← hus]; rfl
      exact ⟨_, rfl, hs.below, (us.getD 0 default).1, (us.getD 0 default).2.1, by rw [hor], by rw [hor]; exact ⟨htj.1, htj.2, fun bk off e => by rcases hfu _ (getD_mem (l := us) (i := 0) hu1) with h7 | h7; (exact Nat.le_trans hsz28 (h7 bk off e)); (rw [h7] at e; cases e)⟩⟩

theorem c_OrdersR (b : Sheet) (fA : Option Addr) (fc : Nat) (rA : Option Addr) (rc : Nat)  (w0 : World) (h : ShIn b fA fc rA rc w0) :
    Calls Tryd.prog 26 #[.agg #[.int .i64 b.wide, .int .i64 b.high, .slice fA b.flaps.length fc, .slice rA b.rules.length rc]] w0 (Ret w0 (.tuple #[.int .i64 (countP b).1, .int .i64 (countP b).2])) := by
  refine c_enter (n := 13) Tryd.func26 rfl rfl (Nat.le_of_ble_eq_true rfl) ?_; intro a hf; simp only [zipR] at hf
  have hs := St.start w0 [Rd encF 5 fA b.flaps.length b.flaps, Rd encR 2 rA b.rules.length b.rules] h.stab
  have hfm := h.F.2.1; have hrm := h.R.2.1
  refine c_reg ?_
  refine vL hf (v_boxA hf hs rfl) (by decide) ?_; clear hs hf a; rintro _ w ⟨b1, rfl, hs⟩ a hf
  refine gL hf (g_as hf rfl) (by decide) ?_; clear hf a; intro a hf
  refine gL hf (g_as hf rfl) (by decide) ?_; clear hf a; intro a hf
  refine e_nil ?_
  refine wp_seq ?_
  refine c_reg ?_
  refine gL hf (g_ldW hf hs T25 rfl (k := 0) rfl rfl) (by decide) ?_; clear hf a; intro a hf
  refine callL hf hs (c_CheckR b _ _ _ _ _ ⟨hs.rd (.head _), hs.rd (.tail _ (.head _)), h.fc_, h.rc_⟩) rfl rfl rfl E18 (by decide) ?_; clear hs hf a; intro w a hs hf
  refine gL hf (g_as hf rfl) (by decide) ?_; clear hf a; intro a hf
  refine e_nil ?_
  refine c_reg ?_
  refine gL hf (g_mv hf rfl) (by decide) ?_; clear hf a; intro a hf
  refine gL hf (g_neq hf rfl rfl) (by decide) ?_; clear hf a; intro a hf
  refine e_nil ?_
  refine c_cond hf rfl (fun hc1 => ?_) (fun hc1 => ?_)
  · skip
    have hck : checkB b = false := by cases h9 : checkB b with
            | false => rfl
            | true => rw [h9] at hc1; cases hc1
    have hb40 := bad_ask hck true
    refine c_reg ?_
    refine gL hf (g_mv hf rfl) (by decide) ?_; clear hf a; intro a hf
    refine gL hf (g_as hf rfl) (by decide) ?_; clear hf a; intro a hf
    refine gL hf (g_as hf rfl) (by decide) ?_; clear hf a; intro a hf
    refine e_nil ?_
    refine c_ret (q_thenR ?_)
    refine e_ret2 hf rfl rfl rfl ?_
    exact ⟨by rw [bad_count hck, hck]; rfl, hs.below⟩
  · skip
    have hck : checkB b = true := by cases h9 : checkB b with
            | true => rfl
            | false => rw [h9] at hc1; cases hc1
    have hv := valid_of hck
    have hmany := hv.many
    have hrl := hv.rules
    refine c_skip (q_thenN ?_)
    refine c_reg ?_
    refine gL hf (g_ldW hf hs T25 rfl (k := 0) rfl rfl) (by decide) ?_; clear hf a; intro a hf
    refine callX hf hs (c_ordersR hv b.flaps.length _ [] none 0 _ _ _ _ ⟨hs.rd (.head _), hs.rd (.tail _ (.head _)), h.fc_, h.rc_⟩ (by simp) (Nat.le_refl _) rd_nil) rfl rfl rfl E68 (by decide) ?_; have hsz8 := fun bk hbk => hs.lt' (b := bk) hbk; intro v w1 a hR hb hs1 hf; obtain ⟨A5, c5, us, rfl, hus, houu, htu, hfu⟩ := hR; rw [ordsR_all hv] at hus; replace hs := (hs.fresh hs1 houu.fresh).addD (D := TSD us) (htu.stab (dis_of hsz8 hsz8 hfu (fun bk off e => by cases e))); clear hs1 hb
    refine gL hf (g_len hf SL82 rfl) (by decide) ?_; clear hf a; intro a hf
    refine gL hf (g_as hf rfl) (by decide) ?_; clear hf a; intro a hf
    refine gL hf (g_as hf rfl) (by decide) ?_; clear hf a; intro a hf
    refine e_nil ?_
    refine c_ret ?_
    refine e_ret2 hf rfl rfl rfl ?_
    have hln : us.length = (allO b).length := by rw [← hus, rowsT_len]
    exact ⟨by rw [count_valid hv, hln], hs.below⟩

theorem c_RoundsR (b : Sheet) (fA : Option Addr) (fc : Nat) (rA : Option Addr) (rc : Nat)  (w0 : World) (h : ShIn b fA fc rA rc w0) :
    Calls Tryd.prog 30 #[.agg #[.int .i64 b.wide, .int .i64 b.high, .slice fA b.flaps.length fc, .slice rA b.rules.length rc]] w0 (Ret w0 (.tuple #[.int .i64 (roundP b).1, .int .i64 (roundP b).2])) := by
  refine c_enter (n := 28) Tryd.func30 rfl rfl (Nat.le_of_ble_eq_true rfl) ?_; intro a hf; simp only [zipR] at hf
  have hs := St.start w0 [Rd encF 5 fA b.flaps.length b.flaps, Rd encR 2 rA b.rules.length b.rules] h.stab
  have hfm := h.F.2.1; have hrm := h.R.2.1
  refine c_reg ?_
  refine vL hf (v_boxA hf hs rfl) (by decide) ?_; clear hs hf a; rintro _ w ⟨b1, rfl, hs⟩ a hf
  refine gL hf (g_as hf rfl) (by decide) ?_; clear hf a; intro a hf
  refine gL hf (g_as hf rfl) (by decide) ?_; clear hf a; intro a hf
  refine e_nil ?_
  refine wp_seq ?_
  refine c_reg ?_
  refine gL hf (g_ldW hf hs T25 rfl (k := 0) rfl rfl) (by decide) ?_; clear hf a; intro a hf
  refine callL hf hs (c_CheckR b _ _ _ _ _ ⟨hs.rd (.head _), hs.rd (.tail _ (.head _)), h.fc_, h.rc_⟩) rfl rfl rfl E18 (by decide) ?_; clear hs hf a; intro w a hs hf
  refine gL hf (g_as hf rfl) (by decide) ?_; clear hf a; intro a hf
  refine e_nil ?_
  refine c_reg ?_
  refine gL hf (g_mv hf rfl) (by decide) ?_; clear hf a; intro a hf
  refine gL hf (g_neq hf rfl rfl) (by decide) ?_; clear hf a; intro a hf
  refine e_nil ?_
  refine c_cond hf rfl (fun hc1 => ?_) (fun hc1 => ?_)
  · skip
    have hck : checkB b = false := by cases h9 : checkB b with
            | false => rfl
            | true => rw [h9] at hc1; cases hc1
    have hb40 := bad_ask hck true
    refine c_reg ?_
    refine gL hf (g_mv hf rfl) (by decide) ?_; clear hf a; intro a hf
    refine gL hf (g_as hf rfl) (by decide) ?_; clear hf a; intro a hf
    refine gL hf (g_as hf rfl) (by decide) ?_; clear hf a; intro a hf
    refine e_nil ?_
    refine c_ret (q_thenR ?_)
    refine e_ret2 hf rfl rfl rfl ?_
    exact ⟨by rw [bad_round hck, hck]; rfl, hs.below⟩
  · skip
    have hck : checkB b = true := by cases h9 : checkB b with
            | true => rfl
            | false => rw [h9] at hc1; cases hc1
    have hv := valid_of hck
    have hmany := hv.many
    have hrl := hv.rules
    refine c_skip (q_thenN ?_)
    refine wp_seq ?_
    have ha0 : askE b true = 0 := by simp [askE, hck]
    refine c_reg ?_
    refine gL hf (g_ldW hf hs T25 rfl (k := 0) rfl rfl) (by decide) ?_; clear hf a; intro a hf
    refine callX hf hs (c_ringR b _ _ _ _ hv _ ⟨hs.rd (.head _), hs.rd (.tail _ (.head _)), h.fc_, h.rc_⟩) rfl rfl rfl E72 (by decide) ?_; intro v w1 a hR hb hs1 hf; obtain ⟨o9, rfl, hm9, hok9⟩ := hR; replace hs := hs.fresh hs1 (fresh_of (hok9.2.1.stable fun bk off e hm => by have h1 := hok9.2.2.1 bk off e; simp at hm; omega)); clear hs1 hb
    refine gL hf (g_neNil hf SE27 rfl rfl) (by decide) ?_; clear hf a; intro a hf
    refine e_nil ?_
    refine c_cond hf rfl (fun hc2 => ?_) (fun hc2 => ?_)
    · skip
      rw [hok9.isNone] at hc2
      refine c_reg ?_
      refine gL hf (g_as hf rfl) (by decide) ?_; clear hf a; intro a hf
      refine gL hf (g_as hf rfl) (by decide) ?_; clear hf a; intro a hf
      refine e_nil ?_
      refine c_ret (q_thenR ?_)
      refine e_ret2 hf rfl rfl rfl ?_
      have hrp9 : roundP b = (0, 4) := by
          rcases told_cases hck with ⟨_, _, h2, _⟩ | ⟨lo, rest, _, _, _, h3, _⟩
          · simp only [roundP, ha0, h2, if_true]
          · rw [ringO_ring hck, ← hm9] at h3; cases o9 with
            | none => cases hc2
            | some t => (have h0 : (0 : Int) = 4 := congrArg Prod.snd h3); exact absurd h0 (by decide)
      exact ⟨by rw [hrp9], hs.below⟩
    · skip
      rw [hok9.isNone] at hc2
      obtain ⟨lo, hoko, hlo, hrp9⟩ : ∃ lo, Ok b lo ∧ lo.length = b.flaps.length ∧ roundP b = (roundN b lo, 0) := by
        rcases told_cases hck with ⟨_, _, _, r, hr9, _⟩ | ⟨lo, rest, _, h2, _, _, h3, h4, _⟩
        · rw [ringO_ring hck, ← hm9] at hr9; cases o9 with
          | none => cases hr9
          | some t => cases hc2
        · exact ⟨lo, h3, h4, by simp only [roundP, ha0, h2, if_true]⟩
      refine c_skip (q_thenN ?_)
      refine c_reg ?_
      refine gL hf (g_as hf rfl) (by decide) ?_; clear hf a; intro a hf
      refine e_nil ?_
      refine wp_seq ?_
      refine c_reg ?_
      refine gL hf (g_as hf rfl) (by decide) ?_; clear hf a; intro a hf
      refine e_nil ?_
      refine c_block ?_
      refine c_loop hf hs [5, 6, 15, 16, 17, 18, 19, 20, 21, 22, 23, 24, 25, 26] (σ := Nat) (fun i => [(5, .int .i64 (maxTo (chM b) i)), (6, .int .i64 (i : Nat))]) (fun i => _) (fun i => i ≤ b.flaps.length) (fun i => b.flaps.length - i) 0 (by omega) (.cons rfl (.cons rfl .nil)) rfl ?_
      intro i a w hJ hf hs
      refine wp_seq ?_
      refine c_reg ?_
      refine gL hf (g_mv hf rfl) (by decide) ?_; clear hf a; intro a hf
      refine gL hf (g_fa (off' := 2) hf F25_2 rfl rfl) (by decide) ?_; clear hf a; intro a hf
      refine gL hf (g_ld hf hs T22 rfl (k := 0) rfl rfl) (by decide) ?_; clear hf a; intro a hf
      refine gL hf (g_len hf SL22 rfl) (by decide) ?_; clear hf a; intro a hf
      refine gL hf (g_lss hf rfl rfl) (by decide) ?_; clear hf a; intro a hf
      refine e_nil ?_
      refine c_cond hf rfl (fun hc3 => ?_) (fun hc3 => ?_)
      · try simp only [decide_eq_true_eq, decide_eq_false_iff_not] at hc3
        refine c_skip (q_thenN ?_)
        refine c_blockS ?_
        refine c_reg1 ?_
        refine gL hf (g_mv hf rfl) (by decide) ?_; clear hf a; intro a hf
        refine gL hf (g_ldW hf hs T25 rfl (k := 0) rfl rfl) (by decide) ?_; clear hf a; intro a hf
        refine gL hf (g_mv hf rfl) (by decide) ?_; clear hf a; intro a hf
        refine callL hf hs (c_chain hv hoko hlo 8 (by omega) _ ((i : Nat) : Int) _ _ _ _ ⟨hs.rd (.tail _ (.head _)), hs.rd (.tail _ (.tail _ (.head _))), h.fc_, h.rc_⟩ ⟨by omega, by omega⟩ (by have := List.idxOf_le_length (a := ((i : Nat) : Int)) (l := lo); omega)) rfl rfl rfl E73 (by decide) ?_; clear hs hf a; intro w a hs hf
        refine gL hf (g_max hf rfl rfl) (by decide) ?_; clear hf a; intro a hf
        refine gL hf (g_as hf rfl) (by decide) ?_; clear hf a; intro a hf
        refine e_nil1 (q_blkN (q_thenN ?_))
        refine c_reg1 ?_
        refine gL hf (g_mv hf rfl) (by decide) ?_; clear hf a; intro a hf
        refine gL hf (g_addI hf rfl rfl (by omega)) (by decide) ?_; clear hf a; intro a hf
        refine gL hf (g_as hf rfl) (by decide) ?_; clear hf a; intro a hf
        refine e_nil1 (q_thenN ?_)
        exact ⟨i + 1, (by omega), (by omega), hf.back (by repeat (first | (with_reducible exact Ext.base) | ((with_reducible refine Ext.cons ?_ ?_); (· rfl)) | ((with_reducible refine Ext.over ?_ ?_ ?_); (· rfl); (· rfl)))) (allKeys rfl) (.cons rfl (.cons rfl .nil)), hs.dropN 0⟩
      · try simp only [decide_eq_true_eq, decide_eq_false_iff_not] at hc3
        obtain rfl : i = b.flaps.length := by omega
        refine c_exit (q_thenX (q_thenX (q_blkX (q_thenN ?_))))
        refine c_reg ?_
        refine gL hf (g_mv hf rfl) (by decide) ?_; clear hf a; intro a hf
        refine gL hf (g_as hf rfl) (by decide) ?_; clear hf a; intro a hf
        refine gL hf (g_as hf rfl) (by decide) ?_; clear hf a; intro a hf
        refine e_nil ?_
        refine c_ret ?_
        refine e_ret2 hf rfl rfl rfl ?_
        exact ⟨by rw [hrp9, rounds_eq hv hoko hlo], hs.below⟩

end Go.Proofs.YtpjhffockmnjbaaDoor
set_option linter.unusedVariables false
set_option linter.unusedSimpArgs false
namespace Go.Proofs.YtpjhffockmnjbaaDoor
open Go.RowKit
theorem c_FoldOrders (b : Sheet) (fA : Option Addr) (fc : Nat) (rA : Option Addr) (rc : Nat) (ge : TypeId) (gz : Nat × Nat)  (w0 : World) (h : ShIn b fA fc rA rc w0) (hG : BlkIs 0 sidesA ge gz w0) :
    Calls Tryd.prog 4 #[.agg #[.int .i64 b.wide, .int .i64 b.high, .slice fA b.flaps.length fc, .slice rA b.rules.length rc]] w0 (Ret w0 (.bool true)) := by
  refine c_enter (n := 86) Tryd.func4 rfl rfl (Nat.le_of_ble_eq_true rfl) ?_; intro a hf; simp only [zipR] at hf
  have hs := St.start w0 [Rd encF 5 fA b.flaps.length b.flaps, Rd encR 2 rA b.rules.length b.rules, BlkIs 0 sidesA ge gz] (stab_app h.stab hG.st1)
  have hfm := h.F.2.1; have hrm := h.R.2.1
  refine c_reg ?_
  refine vL hf (v_boxA hf hs rfl) (by decide) ?_; clear hs hf a; rintro _ w ⟨b1, rfl, hs⟩ a hf
  refine gL hf (g_as hf rfl) (by decide) ?_; clear hf a; intro a hf
  refine e_nil ?_
  refine c_reg ?_
  refine gL hf (g_ldW hf hs T25 rfl (k := 0) rfl rfl) (by decide) ?_; clear hf a; intro a hf
  refine callX hf hs (c_Order b _ _ _ _ _ _ _ ⟨hs.rd (.head _), hs.rd (.tail _ (.head _)), h.fc_, h.rc_⟩ (hs.rd (.tail _ (.tail _ (.head _))))) rfl rfl rfl E22 (by decide) ?_; intro v w1 a hR hb hs1 hf; obtain ⟨Ao, co, rfl, hou⟩ := hR; replace hs := hs.fresh hs1 (outFresh hou); clear hs1 hb
  refine gL hf (g_mv hf rfl) (by decide) ?_; clear hf a; intro a hf
  refine gL hf (g_ext hf rfl rfl) (by decide) ?_; clear hf a; intro a hf
  refine gL hf (g_ext hf rfl rfl) (by decide) ?_; clear hf a; intro a hf
  refine gL hf (g_as hf rfl) (by decide) ?_; clear hf a; intro a hf
  refine gL hf (g_as hf rfl) (by decide) ?_; clear hf a; intro a hf
  refine e_nil ?_
  refine c_reg ?_
  refine gL hf (g_ldW hf hs T25 rfl (k := 0) rfl rfl) (by decide) ?_; clear hf a; intro a hf
  refine callX hf hs (c_OrderR b _ _ _ _ _ ⟨hs.rd (.tail _ (.head _)), hs.rd (.tail _ (.tail _ (.head _))), h.fc_, h.rc_⟩) rfl rfl rfl E23 (by decide) ?_; intro v w1 a hR hb hs1 hf; obtain ⟨Ap, cp, rfl, hou⟩ := hR; replace hs := hs.fresh hs1 (outFresh hou); clear hs1 hb
  refine gL hf (g_mv hf rfl) (by decide) ?_; clear hf a; intro a hf
  refine gL hf (g_ext hf rfl rfl) (by decide) ?_; clear hf a; intro a hf
  refine gL hf (g_ext hf rfl rfl) (by decide) ?_; clear hf a; intro a hf
  refine gL hf (g_as hf rfl) (by decide) ?_; clear hf a; intro a hf
  refine gL hf (g_as hf rfl) (by decide) ?_; clear hf a; intro a hf
  refine e_nil ?_
  refine wp_seq ?_
  refine c_reg ?_
  refine gL hf (g_mv hf rfl) (by decide) ?_; clear hf a; intro a hf
  refine gL hf (g_mv hf rfl) (by decide) ?_; clear hf a; intro a hf
  refine callL hf hs (c_Alike _ _ (orderP b).1 _ _ (orderP b).1 _ (hs.rd (.tail _ (.head _))) (hs.rd (.head _))) rfl rfl rfl E24 (by decide) ?_; clear hs hf a; intro w a hs hf
  refine gL hf (g_not hf rfl) (by decide) ?_; clear hf a; intro a hf
  refine gL hf (g_mv hf rfl) (by decide) ?_; clear hf a; intro a hf
  refine ggL hf rfl rfl (gyes_f _) (fun hg => g_mv hf rfl) (by decide) ?_; clear hf a; intro a hf
  refine ggL hf rfl rfl (gyes_f _) (fun hg => g_mv hf rfl) (by decide) ?_; clear hf a; intro a hf
  refine ggL hf rfl rfl (gyes_f _) (fun hg => g_neq hf (ev_gv rfl hg) (ev_gv rfl hg)) (by decide) ?_; clear hf a; intro a hf
  refine gL hf (g_or hf rfl rfl) (by decide) ?_; clear hf a; intro a hf
  refine e_nil ?_
  refine c_cond hf rfl (fun hc1 => ?_) (fun hc1 => ?_)
  · skip
    simp at hc1
  · skip
    refine c_skip (q_thenN ?_)
    refine c_reg ?_
    refine gL hf (g_ldW hf hs T25 rfl (k := 0) rfl rfl) (by decide) ?_; clear hf a; intro a hf
    refine callL hf hs (c_Orders b _ _ _ _ _ _ _ ⟨hs.rd (.tail _ (.tail _ (.head _))), hs.rd (.tail _ (.tail _ (.tail _ (.head _)))), h.fc_, h.rc_⟩ (hs.rd (.tail _ (.tail _ (.tail _ (.tail _ (.head _))))))) rfl rfl rfl E25 (by decide) ?_; clear hs hf a; intro w a hs hf
    refine gL hf (g_mv hf rfl) (by decide) ?_; clear hf a; intro a hf
    refine gL hf (g_ext hf rfl rfl) (by decide) ?_; clear hf a; intro a hf
    refine gL hf (g_ext hf rfl rfl) (by decide) ?_; clear hf a; intro a hf
    refine gL hf (g_as hf rfl) (by decide) ?_; clear hf a; intro a hf
    refine gL hf (g_as hf rfl) (by decide) ?_; clear hf a; intro a hf
    refine e_nil ?_
    refine c_reg ?_
    refine gL hf (g_ldW hf hs T25 rfl (k := 0) rfl rfl) (by decide) ?_; clear hf a; intro a hf
    refine callL hf hs (c_OrdersR b _ _ _ _ _ ⟨hs.rd (.tail _ (.tail _ (.head _))), hs.rd (.tail _ (.tail _ (.tail _ (.head _)))), h.fc_, h.rc_⟩) rfl rfl rfl E26 (by decide) ?_; clear hs hf a; intro w a hs hf
    refine gL hf (g_mv hf rfl) (by decide) ?_; clear hf a; intro a hf
    refine gL hf (g_ext hf rfl rfl) (by decide) ?_; clear hf a; intro a hf
    refine gL hf (g_ext hf rfl rfl) (by decide) ?_; clear hf a; intro a hf
    refine gL hf (g_as hf rfl) (by decide) ?_; clear hf a; intro a hf
    refine gL hf (g_as hf rfl) (by decide) ?_; clear hf a; intro a hf
    refine e_nil ?_
    refine wp_seq ?_
    refine c_reg ?_
    refine gL hf (g_mv hf rfl) (by decide) ?_; clear hf a; intro a hf
    refine gL hf (g_mv hf rfl) (by decide) ?_; clear hf a; intro a hf
    refine gL hf (g_neq hf rfl rfl) (by decide) ?_; clear hf a; intro a hf
    refine gL hf (g_mv hf rfl) (by decide) ?_; clear hf a; intro a hf
    refine ggL hf rfl rfl (gyes_f _) (fun hg => g_mv hf rfl) (by decide) ?_; clear hf a; intro a hf
    refine ggL hf rfl rfl (gyes_f _) (fun hg => g_mv hf rfl) (by decide) ?_; clear hf a; intro a hf
    refine ggL hf rfl rfl (gyes_f _) (fun hg => g_neq hf (ev_gv rfl hg) (ev_gv rfl hg)) (by decide) ?_; clear hf a; intro a hf
    refine gL hf (g_or hf rfl rfl) (by decide) ?_; clear hf a; intro a hf
    refine e_nil ?_
    refine c_cond hf rfl (fun hc2 => ?_) (fun hc2 => ?_)
    · skip
      simp at hc2
    · skip
      refine c_skip (q_thenN ?_)
      refine c_reg ?_
      refine gL hf (g_ldW hf hs T25 rfl (k := 0) rfl rfl) (by decide) ?_; clear hf a; intro a hf
      refine callX hf hs (c_Ring b _ _ _ _ _ _ _ ⟨hs.rd (.tail _ (.tail _ (.head _))), hs.rd (.tail _ (.tail _ (.tail _ (.head _)))), h.fc_, h.rc_⟩ (hs.rd (.tail _ (.tail _ (.tail _ (.tail _ (.head _))))))) rfl rfl rfl E27 (by decide) ?_; intro v w1 a hR hb hs1 hf; obtain ⟨Ar, cr, rfl, hou⟩ := hR; replace hs := hs.fresh hs1 (outFresh hou); clear hs1 hb
      refine gL hf (g_mv hf rfl) (by decide) ?_; clear hf a; intro a hf
      refine gL hf (g_ext hf rfl rfl) (by decide) ?_; clear hf a; intro a hf
      refine gL hf (g_ext hf rfl rfl) (by decide) ?_; clear hf a; intro a hf
      refine gL hf (g_as hf rfl) (by decide) ?_; clear hf a; intro a hf
      refine gL hf (g_as hf rfl) (by decide) ?_; clear hf a; intro a hf
      refine e_nil ?_
      refine c_reg ?_
      refine gL hf (g_ldW hf hs T25 rfl (k := 0) rfl rfl) (by decide) ?_; clear hf a; intro a hf
      refine callX hf hs (c_RingR b _ _ _ _ _ ⟨hs.rd (.tail _ (.tail _ (.tail _ (.head _)))), hs.rd (.tail _ (.tail _ (.tail _ (.tail _ (.head _))))), h.fc_, h.rc_⟩) rfl rfl rfl E28 (by decide) ?_; intro v w1 a hR hb hs1 hf; obtain ⟨Aq, cq, rfl, hou⟩ := hR; replace hs := hs.fresh hs1 (outFresh hou); clear hs1 hb
      refine gL hf (g_mv hf rfl) (by decide) ?_; clear hf a; intro a hf
      refine gL hf (g_ext hf rfl rfl) (by decide) ?_; clear hf a; intro a hf
      refine gL hf (g_ext hf rfl rfl) (by decide) ?_; clear hf a; intro a hf
      refine gL hf (g_as hf rfl) (by decide) ?_; clear hf a; intro a hf
      refine gL hf (g_as hf rfl) (by decide) ?_; clear hf a; intro a hf
      refine e_nil ?_
      refine wp_seq ?_
      refine c_reg ?_
      refine gL hf (g_mv hf rfl) (by decide) ?_; clear hf a; intro a hf
      refine gL hf (g_mv hf rfl) (by decide) ?_; clear hf a; intro a hf
      refine callL hf hs (c_Alike _ _ (ringP b).1 _ _ (ringP b).1 _ (hs.rd (.tail _ (.head _))) (hs.rd (.head _))) rfl rfl rfl E24 (by decide) ?_; clear hs hf a; intro w a hs hf
      refine gL hf (g_not hf rfl) (by decide) ?_; clear hf a; intro a hf
      refine gL hf (g_mv hf rfl) (by decide) ?_; clear hf a; intro a hf
      refine ggL hf rfl rfl (gyes_f _) (fun hg => g_mv hf rfl) (by decide) ?_; clear hf a; intro a hf
      refine ggL hf rfl rfl (gyes_f _) (fun hg => g_mv hf rfl) (by decide) ?_; clear hf a; intro a hf
      refine ggL hf rfl rfl (gyes_f _) (fun hg => g_neq hf (ev_gv rfl hg) (ev_gv rfl hg)) (by decide) ?_; clear hf a; intro a hf
      refine gL hf (g_or hf rfl rfl) (by decide) ?_; clear hf a; intro a hf
      refine e_nil ?_
      refine c_cond hf rfl (fun hc3 => ?_) (fun hc3 => ?_)
      · skip
        simp at hc3
      · skip
        refine c_skip (q_thenN ?_)
        refine c_reg ?_
        refine gL hf (g_ldW hf hs T25 rfl (k := 0) rfl rfl) (by decide) ?_; clear hf a; intro a hf
        refine callL hf hs (c_Rounds b _ _ _ _ _ _ _ ⟨hs.rd (.tail _ (.tail _ (.tail _ (.tail _ (.head _))))), hs.rd (.tail _ (.tail _ (.tail _ (.tail _ (.tail _ (.head _)))))), h.fc_, h.rc_⟩ (hs.rd (.tail _ (.tail _ (.tail _ (.tail _ (.tail _ (.tail _ (.head _))))))))) rfl rfl rfl E29 (by decide) ?_; clear hs hf a; intro w a hs hf
        refine gL hf (g_mv hf rfl) (by decide) ?_; clear hf a; intro a hf
        refine gL hf (g_ext hf rfl rfl) (by decide) ?_; clear hf a; intro a hf
        refine gL hf (g_ext hf rfl rfl) (by decide) ?_; clear hf a; intro a hf
        refine gL hf (g_as hf rfl) (by decide) ?_; clear hf a; intro a hf
        refine gL hf (g_as hf rfl) (by decide) ?_; clear hf a; intro a hf
        refine e_nil ?_
        refine c_reg ?_
        refine gL hf (g_ldW hf hs T25 rfl (k := 0) rfl rfl) (by decide) ?_; clear hf a; intro a hf
        refine callL hf hs (c_RoundsR b _ _ _ _ _ ⟨hs.rd (.tail _ (.tail _ (.tail _ (.tail _ (.head _))))), hs.rd (.tail _ (.tail _ (.tail _ (.tail _ (.tail _ (.head _)))))), h.fc_, h.rc_⟩) rfl rfl rfl E30 (by decide) ?_; clear hs hf a; intro w a hs hf
        refine gL hf (g_mv hf rfl) (by decide) ?_; clear hf a; intro a hf
        refine gL hf (g_ext hf rfl rfl) (by decide) ?_; clear hf a; intro a hf
        refine gL hf (g_ext hf rfl rfl) (by decide) ?_; clear hf a; intro a hf
        refine gL hf (g_as hf rfl) (by decide) ?_; clear hf a; intro a hf
        refine gL hf (g_as hf rfl) (by decide) ?_; clear hf a; intro a hf
        refine e_nil ?_
        refine c_reg ?_
        refine gL hf (g_mv hf rfl) (by decide) ?_; clear hf a; intro a hf
        refine gL hf (g_mv hf rfl) (by decide) ?_; clear hf a; intro a hf
        refine gL hf (g_eql hf rfl rfl) (by decide) ?_; clear hf a; intro a hf
        refine gL hf (g_mv hf rfl) (by decide) ?_; clear hf a; intro a hf
        refine ggL hf rfl rfl (gyes_t _) (fun hg => g_mv hf rfl) (by decide) ?_; clear hf a; intro a hf
        refine ggL hf rfl rfl (gyes_t _) (fun hg => g_mv hf rfl) (by decide) ?_; clear hf a; intro a hf
        refine ggL hf rfl rfl (gyes_t _) (fun hg => g_eql hf (ev_gv rfl hg) (ev_gv rfl hg)) (by decide) ?_; clear hf a; intro a hf
        refine gL hf (g_and hf rfl rfl) (by decide) ?_; clear hf a; intro a hf
        refine gL hf (g_mv hf rfl) (by decide) ?_; clear hf a; intro a hf
        refine callG hf hs rfl rfl (gyes_t _) (fun hg => ⟨_, _, _, _, c_folded ge gz _ (hs.rd (.tail _ (.tail _ (.tail _ (.tail _ (.tail _ (.tail _ (.head _)))))))), rfl, evs_nil, rfl⟩) E21 (by decide) ?_; clear hs hf a; intro w a hs hf
        refine gL hf (g_and hf rfl rfl) (by decide) ?_; clear hf a; intro a hf
        refine gL hf (g_as hf rfl) (by decide) ?_; clear hf a; intro a hf
        refine e_nil ?_
        refine c_ret ?_
        refine e_ret1 hf rfl rfl ?_
        exact ⟨by simp, hs.below⟩

end Go.Proofs.YtpjhffockmnjbaaDoor
