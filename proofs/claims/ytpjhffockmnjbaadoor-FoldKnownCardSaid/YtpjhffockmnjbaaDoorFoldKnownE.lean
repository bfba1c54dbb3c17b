/- Part 5 of the proof of FoldKnown: laws of the engine, plain facts and contracts of the functions that the law reaches. Conditions: none beyond those of each theorem. -/
import Derived.Test.YtpjhffockmnjbaaDoorFoldKnownD
set_option linter.unusedVariables false
set_option linter.unusedSimpArgs false
namespace Go.Proofs.YtpjhffockmnjbaaDoor
open Go.RowKit
theorem c_stoppedL (b : Sheet) (fA : Option Addr) (fc : Nat) (rA : Option Addr) (rc : Nat) (oA : Option Addr) (oc : Nat) (l : List Int) (mA : Option Addr) (mc : Nat) (bits : List Int) (hv : Valid b) (w0 : World) (h : ShIn b fA fc rA rc w0) (ho : Rd encI 1 oA l.length l w0) (hm : Rd encI 1 mA bits.length bits w0) :
    Calls Tryd.prog 37 #[.agg #[.int .i64 b.wide, .int .i64 b.high, .slice fA b.flaps.length fc, .slice rA b.rules.length rc], .slice oA l.length oc, .slice mA bits.length mc] w0 (Ret w0 (.bool (stoppedB b l bits))) := by
  refine c_enter (n := 48) Tryd.func37 rfl rfl (Nat.le_of_ble_eq_true rfl) ?_; intro a hf; simp only [zipR] at hf
  have hs := St.start w0 [Rd encF 5 fA b.flaps.length b.flaps, Rd encR 2 rA b.rules.length b.rules, Rd encI 1 oA l.length l, Rd encI 1 mA bits.length bits] (stab_app (stab_app h.stab ho.st1) hm.st1)
  have hfm := h.F.2.1; have hrm := h.R.2.1; have hlm := ho.2.1; have hmm := hm.2.1
  refine c_reg ?_
  refine vL hf (v_boxA hf hs rfl) (by decide) ?_; clear hs hf a; rintro _ w ⟨b1, rfl, hs⟩ a hf
  refine gL hf (g_as hf rfl) (by decide) ?_; clear hf a; intro a hf
  refine e_nil ?_
  refine wp_seq ?_
  refine c_reg ?_
  refine gL hf (g_as hf rfl) (by decide) ?_; clear hf a; intro a hf
  refine e_nil ?_
  refine c_block ?_
  refine c_loop hf hs (List.range' 6 42) (σ := Nat) (fun k => [(7, .int .i64 (k : Nat))]) (fun k => _) (fun k => k ≤ b.rules.length ∧ ∀ j, j < k → stAt b l bits (b.rules.getD j default) = false) (fun k => b.rules.length - k) 0 ⟨by omega, fun z hz => absurd hz (by omega)⟩ (.cons rfl .nil) rfl ?_
  intro k a w hJ hf hs
  obtain ⟨hk, hp⟩ := hJ
  refine wp_seq ?_
  refine c_reg ?_
  refine gL hf (g_mv hf rfl) (by decide) ?_; clear hf a; intro a hf
  refine gL hf (g_fa (off' := 3) hf F25_3 rfl rfl) (by decide) ?_; clear hf a; intro a hf
  refine gL hf (g_ld hf hs T23 rfl (k := 0) rfl rfl) (by decide) ?_; clear hf a; intro a hf
  refine gL hf (g_len hf SL23 rfl) (by decide) ?_; clear hf a; intro a hf
  refine gL hf (g_lss hf rfl rfl) (by decide) ?_; clear hf a; intro a hf
  refine e_nil ?_
  refine c_cond hf rfl (fun hc1 => ?_) (fun hc1 => ?_)
  · try simp only [decide_eq_true_eq, decide_eq_false_iff_not] at hc1
    have hri := rule_in hv (getD_mem (l := b.rules) (i := k) (by omega))
    refine c_skip (q_thenN ?_)
    refine c_blockS ?_
    refine c_reg ?_
    refine gL hf (g_fa (off' := 3) hf F25_3 rfl rfl) (by decide) ?_; clear hf a; intro a hf
    refine gL hf (g_ld hf hs T23 rfl (k := 0) rfl rfl) (by decide) ?_; clear hf a; intro a hf
    refine gL hf (g_mv hf rfl) (by decide) ?_; clear hf a; intro a hf
    (first | (refine gL hf (g_ixE hf hs (.tail _ (.head _)) SL23 rfl rfl (by omega)) (by decide) ?_) | (refine gL hf (g_ixD hf hs (.tail _ (.head _)) SL23 rfl rfl (by omega)) (by decide) ?_)); clear hf a; intro a hf
    refine gL hf (g_ldEW hf hs (.tail _ (.head _)) T64 rfl rfl (by omega)) (by decide) ?_; clear hf a; intro a hf
    refine vL hf (v_alloc hs T64 rfl) (by decide) ?_; clear hs hf a; rintro _ w ⟨b2, rfl, hs⟩ a hf
    refine uL (u_stW hf hs T64 rfl rfl rfl (k := 0) rfl rfl rfl) ?_; clear hs; intro w hs; dsimp only [List.set] at hs
    refine e_nil ?_
    refine c_draw _ 27 Mx rfl hs (fun _ h => h) ?_; intro w hs hS
    refine gA hf hS (i := 0) rfl (by kernel_rfl) (fun w hs => g_mv hf rfl) (by decide) ?_; clear hf a; intro a hf
    refine gA hf hS (i := 1) rfl (by kernel_rfl) (fun w hs => g_fa (off' := 0) hf F64_0 rfl rfl) (by decide) ?_; clear hf a; intro a hf
    refine gA hf hS (i := 2) rfl (by kernel_rfl) (fun w hs => g_ld hf hs T3 rfl (k := 0) rfl rfl) (by decide) ?_; clear hf a; intro a hf
    refine gA hf hS (i := 4) rfl (by kernel_rfl) (fun w hs => g_mv hf rfl) (by decide) ?_; clear hf a; intro a hf
    refine gA hf hS (i := 5) rfl (by kernel_rfl) (fun w hs => g_fa (off' := 1) hf F64_1 rfl rfl) (by decide) ?_; clear hf a; intro a hf
    refine gA hf hS (i := 6) rfl (by kernel_rfl) (fun w hs => g_ld hf hs T3 rfl (k := 0) rfl rfl) (by decide) ?_; clear hf a; intro a hf
    refine one (i := 3) (by kernel_rfl) ?_
    refine oCall hf hs rfl (c_place _ _ _ l _ _ (hs.rd (.tail _ (.tail _ (.head _))))) rfl rfl rfl E81 (by decide) (fun _ h => h.sub (.refl _)) ?_; clear hs hf hS a; intro w a hs hS hf
    refine one (i := 7) (by kernel_rfl) ?_
    refine oCall hf hs rfl (c_place _ _ _ l _ _ (hs.rd (.tail _ (.tail _ (.head _))))) rfl rfl rfl E81 (by decide) (fun _ h => h.sub (.refl _)) ?_; clear hs hf hS a; intro w a hs hS hf
    refine gA hf hS (i := 8) rfl (by kernel_rfl) (fun w hs => g_lss hf rfl rfl) (by decide) ?_; clear hf a; intro a hf
    refine gA hf hS (i := 9) rfl (by kernel_rfl) (fun w hs => g_mv hf rfl) (by decide) ?_; clear hf a; intro a hf
    refine ggA hf hS (i := 10) rfl (by kernel_rfl) rfl rfl (gyes_t _) (fun hg w hs => g_ldW hf hs T25 rfl (k := 1) rfl rfl) (by decide) ?_; clear hf a; intro a hf
    refine ggA hf hS (i := 11) rfl (by kernel_rfl) rfl rfl (gyes_t _) (fun hg w hs => g_fa (off' := 0) hf F64_0 rfl rfl) (by decide) ?_; clear hf a; intro a hf
    refine ggA hf hS (i := 12) rfl (by kernel_rfl) rfl rfl (gyes_t _) (fun hg w hs => g_ld hf hs T3 (ev_gv rfl hg) (k := 0) rfl rfl) (by decide) ?_; clear hf a; intro a hf
    refine ggA hf hS (i := 13) rfl (by kernel_rfl) rfl rfl (gyes_t _) (fun hg w hs => g_ldW hf hs T25 rfl (k := 1) rfl rfl) (by decide) ?_; clear hf a; intro a hf
    refine ggA hf hS (i := 14) rfl (by kernel_rfl) rfl rfl (gyes_t _) (fun hg w hs => g_fa (off' := 0) hf F64_0 rfl rfl) (by decide) ?_; clear hf a; intro a hf
    refine ggA hf hS (i := 15) rfl (by kernel_rfl) rfl rfl (gyes_t _) (fun hg w hs => g_ld hf hs T3 (ev_gv rfl hg) (k := 0) rfl rfl) (by decide) ?_; clear hf a; intro a hf
    refine ggA hf hS (i := 16) rfl (by kernel_rfl) rfl rfl (gyes_t _) (fun hg w hs => g_mv hf rfl) (by decide) ?_; clear hf a; intro a hf
    refine ggA hf hS (i := 18) rfl (by kernel_rfl) rfl rfl (gyes_t _) (fun hg w hs => g_fa (off' := 1) hf F64_1 rfl rfl) (by decide) ?_; clear hf a; intro a hf
    refine ggA hf hS (i := 19) rfl (by kernel_rfl) rfl rfl (gyes_t _) (fun hg w hs => g_ld hf hs T3 (ev_gv rfl hg) (k := 0) rfl rfl) (by decide) ?_; clear hf a; intro a hf
    refine ggA hf hS (i := 20) rfl (by kernel_rfl) rfl rfl (gyes_t _) (fun hg w hs => g_ldW hf hs T25 rfl (k := 1) rfl rfl) (by decide) ?_; clear hf a; intro a hf
    refine ggA hf hS (i := 21) rfl (by kernel_rfl) rfl rfl (gyes_t _) (fun hg w hs => g_fa (off' := 1) hf F64_1 rfl rfl) (by decide) ?_; clear hf a; intro a hf
    refine ggA hf hS (i := 22) rfl (by kernel_rfl) rfl rfl (gyes_t _) (fun hg w hs => g_ld hf hs T3 (ev_gv rfl hg) (k := 0) rfl rfl) (by decide) ?_; clear hf a; intro a hf
    refine ggA hf hS (i := 23) rfl (by kernel_rfl) rfl rfl (gyes_t _) (fun hg w hs => g_mv hf rfl) (by decide) ?_; clear hf a; intro a hf
    refine one (i := 17) (by kernel_rfl) ?_
    refine oCallG hf hs rfl rfl rfl (gyes_t _) (fun hg => ⟨_, _, _, _, c_reach b _ _ _ _ _ _ bits (b.rules.getD k default).over hv hri.1 _ ⟨hs.rd (.head _), hs.rd (.tail _ (.head _)), h.fc_, h.rc_⟩ (hs.rd (.tail _ (.tail _ (.tail _ (.head _))))), rfl, evs_cons (ev_gv rfl hg) (evs_cons (ev_gv rfl hg) (evs_cons (ev_gv rfl hg) evs_nil)), rfl⟩) E41 (by decide) (fun _ h => h.sub (.refl _)) ?_; clear hs hf hS a; intro w a hs hS hf
    refine one (i := 24) (by kernel_rfl) ?_
    refine oCallG hf hs rfl rfl rfl (gyes_t _) (fun hg => ⟨_, _, _, _, c_reach b _ _ _ _ _ _ bits (b.rules.getD k default).under hv hri.2 _ ⟨hs.rd (.head _), hs.rd (.tail _ (.head _)), h.fc_, h.rc_⟩ (hs.rd (.tail _ (.tail _ (.tail _ (.head _))))), rfl, evs_cons (ev_gv rfl hg) (evs_cons (ev_gv rfl hg) (evs_cons (ev_gv rfl hg) evs_nil)), rfl⟩) E41 (by decide) (fun _ h => h.sub (.refl _)) ?_; clear hs hf hS a; intro w a hs hS hf
    refine one (i := 25) (by kernel_rfl) ?_
    refine oCallG hf hs rfl rfl rfl (gyes_t _) (fun hg => ⟨_, _, _, _, c_meets b _ _ _ _ (b.rules.getD k default).over _ (b.rules.getD k default).under _ hv hri.1 hri.2 (reach_rng hv hri.1 bits).2.2 (reach_rng hv hri.2 bits).2.2 _ ⟨hs.rd (.head _), hs.rd (.tail _ (.head _)), h.fc_, h.rc_⟩, rfl, evs_cons (ev_gv rfl hg) (evs_cons (ev_gv rfl hg) (evs_cons (ev_gv rfl hg) (evs_cons (ev_gv rfl hg) (evs_cons (ev_gv rfl hg) evs_nil)))), rfl⟩) E40 (by decide) (fun _ h => h.sub (.refl _)) ?_; clear hs hf hS a; intro w a hs hS hf
    refine gA hf hS (i := 26) rfl (by kernel_rfl) (fun w hs => g_and hf rfl rfl) (by decide) ?_; clear hf a; intro a hf
    refine e_done (by kernel_rfl) ?_
    refine c_cond hf rfl (fun hc2 => ?_) (fun hc2 => ?_)
    · skip
      refine c_reg ?_
      refine gL hf (g_as hf rfl) (by decide) ?_; clear hf a; intro a hf
      refine e_nil ?_
      refine c_ret (q_blkR (q_thenR (q_thenR (q_blkR (q_thenR ?_)))))
      refine e_ret1 hf rfl rfl ?_
      exact ⟨by rw [stopped_yes (k := k) (by omega) hc2], hs.below⟩
    · skip
      refine c_skip (q_blkN (q_thenN ?_))
      refine c_reg1 ?_
      refine gL hf (g_mv hf rfl) (by decide) ?_; clear hf a; intro a hf
      refine gL hf (g_addI hf rfl rfl (by omega)) (by decide) ?_; clear hf a; intro a hf
      refine gL hf (g_as hf rfl) (by decide) ?_; clear hf a; intro a hf
      refine e_nil1 (q_thenN ?_)
      exact ⟨k + 1, ⟨by omega, lt_succ hp hc2⟩, (by omega), hf.back (by repeat (first | (with_reducible exact Ext.base) | ((with_reducible refine Ext.cons ?_ ?_); (· rfl)) | ((with_reducible refine Ext.over ?_ ?_ ?_); (· rfl); (· rfl)))) (allKeys rfl) (.cons rfl .nil), hs.dropN 1⟩
  · try simp only [decide_eq_true_eq, decide_eq_false_iff_not] at hc1
    refine c_exit (q_thenX (q_thenX (q_blkX (q_thenN ?_))))
    refine c_reg ?_
    refine gL hf (g_as hf rfl) (by decide) ?_; clear hf a; intro a hf
    refine e_nil ?_
    refine c_ret ?_
    refine e_ret1 hf rfl rfl ?_
    exact ⟨by rw [stopped_no (fun j hj => hp j (by omega))], hs.below⟩

end Go.Proofs.YtpjhffockmnjbaaDoor
set_option linter.unusedVariables false
set_option linter.unusedSimpArgs false
namespace Go.Proofs.YtpjhffockmnjbaaDoor
def iota (n : Nat) : List Int := (List.range n).map fun i => ((i : Nat) : Int)
theorem iota_succ (n : Nat) : iota (n + 1) = iota n ++ [((n : Nat) : Int)] := by simp [iota, List.range_succ]
theorem iota_len (n : Nat) : (iota n).length = n := by simp [iota]
theorem mem_iota {n : Nat} {x : Int} : x ∈ iota n ↔ 0 ≤ x ∧ x < n := by
  simp only [iota, List.mem_map, List.mem_range]
  constructor
  · rintro ⟨i, hi, rfl⟩; omega
  · intro h; exact ⟨x.toNat, by omega, by omega⟩
theorem iota_nodup (n : Nat) : (iota n).Nodup := by
  unfold iota
  rw [List.nodup_iff_pairwise_ne, List.pairwise_map, List.pairwise_iff_getElem]
  intro i j hi hj hij
  simp only [List.getElem_range]
  omega
def dStep (bits : List Int) (s : List Int × List Int) (i : Nat) : List Int × List Int :=
  (s.1.take (spin (itemZ bits (i : Nat)) (s.1.length : Nat)).toNat ++ s.1.drop (spin (itemZ bits (i : Nat)) (s.1.length : Nat) + 1).toNat, s.2 ++ [s.1.getD (spin (itemZ bits (i : Nat)) (s.1.length : Nat)).toNat default])
/-- What is left, and what is drawn, behind so many draws. -/
def dAt (bits : List Int) (n i : Nat) : List Int × List Int := (List.range i).foldl (dStep bits) (iota n, [])
/-- An order that numbers choose. -/
def drawnL (b : Sheet) (bits : List Int) : List Int := (dAt bits b.flaps.length b.flaps.length).2
theorem dAt_succ (bits : List Int) (n i : Nat) : dAt bits n (i + 1) = dStep bits (dAt bits n i) i := by simp [dAt, List.range_succ]
structure DInv (n : Nat) (s : List Int × List Int) : Prop where
  nodup : (s.1 ++ s.2).Nodup
  inb : ∀ x ∈ s.1 ++ s.2, 0 ≤ x ∧ x < n
  len : s.1.length + s.2.length = n
theorem split_at {l : List Int} {k : Nat} (h : k < l.length) : l = l.take k ++ l.getD k default :: l.drop (k + 1) := by
  rw [List.getD_eq_getElem?_getD, List.getElem?_eq_getElem h, Option.getD_some, ← List.drop_eq_getElem_cons h, List.take_append_drop]
theorem dInv_step {n : Nat} {s : List Int × List Int} (h : DInv n s) (h0 : 0 < s.1.length) (bits : List Int) (i : Nat) : DInv n (dStep bits s i) ∧ (dStep bits s i).1.length + 1 = s.1.length := by
  obtain ⟨l, o⟩ := s
  dsimp only at h0
  obtain ⟨h1, h2, h3⟩ := h
  dsimp only at h1 h2 h3
  have hs := spin_rng (itemZ bits (i : Nat)) (m := (l.length : Nat)) (by omega)
  simp only [dStep]
  generalize hk : spin (itemZ bits ((i : Nat) : Int)) ((l.length : Nat) : Int) = k at hs
  have hk1 : (k + 1).toNat = k.toNat + 1 := by omega
  have hlt : k.toNat < l.length := by omega
  rw [hk1]
  have he := split_at hlt
  generalize hx : l.getD k.toNat default = x at he
  generalize ht : l.take k.toNat = p at he
  generalize hd : l.drop (k.toNat + 1) = q at he
  have hp : (l ++ o).Perm ((p ++ q) ++ (o ++ [x])) := by
    rw [he]
    have e1 : (p ++ x :: q ++ o).Perm (x :: (p ++ q) ++ o) := (List.perm_middle).append_right o
    have e2 : (x :: (p ++ q) ++ o).Perm (((p ++ q) ++ o) ++ [x]) := by
      show (x :: ((p ++ q) ++ o)).Perm _
      exact (List.perm_append_singleton x _).symm
    have := e1.trans e2
    simpa using this
  refine ⟨⟨hp.nodup_iff.1 h1, fun y hy => h2 y (hp.mem_iff.2 hy), ?_⟩, ?_⟩
  · have := hp.length_eq
    simp only [List.length_append] at this ⊢
    omega
  · have := congrArg List.length he
    simp only [List.length_append, List.length_cons] at this ⊢
    omega
theorem dInv (bits : List Int) (n : Nat) : ∀ i, i ≤ n → DInv n (dAt bits n i) ∧ (dAt bits n i).1.length = n - i
  | 0, _ => ⟨⟨by simpa [dAt] using iota_nodup n, fun x hx => by rw [show (dAt bits n 0).1 ++ (dAt bits n 0).2 = iota n by simp [dAt]] at hx; exact mem_iota.1 hx, by simp [dAt, iota_len]⟩, by simp [dAt, iota_len]⟩
  | i + 1, h => by
    obtain ⟨h1, h2⟩ := dInv bits n i (by omega)
    rw [dAt_succ]
    have := dInv_step h1 (by omega) bits i
    exact ⟨this.1, by omega⟩
theorem drawn_ord (b : Sheet) (bits : List Int) : ordB b (drawnL b bits) = true := by
  obtain ⟨⟨h1, h2, h3⟩, h4⟩ := dInv bits b.flaps.length b.flaps.length (Nat.le_refl _)
  have e : (dAt bits b.flaps.length b.flaps.length).1 = [] := List.eq_nil_of_length_eq_zero (by omega)
  rw [e, List.nil_append] at h1 h2
  rw [e, List.length_nil, Nat.zero_add] at h3
  exact ordB_iff.2 ⟨h3, h1, h2⟩
theorem does_ends {b : Sheet} (hv : Valid b) {l : List Int} (ho : ordB b l = true) (bits : List Int) : (0 ≤ 2 - worst b l b.rules.length ∧ 2 - worst b l b.rules.length ≤ 2) ∧ (2 - worst b l b.rules.length = 2 → stoppedB b l bits = false) ∧ (2 - worst b l b.rules.length = 0 → stoppedB b l bits = true) := by
  have := worst_le b l b.rules.length
  exact ⟨by omega, fun h => not_stopped hv ho ((does_two hv ho).1 h) bits, fun h => is_stopped hv h bits⟩
theorem does_late {b : Sheet} (hck : checkB b = true) {l : List Int} (ho : ordB b l = true) (h : ¬ 2 - worst b l b.rules.length < 2) : (orderP b).2 = 0 ∧ (ringP b).2 = 4 ∧ earlierB l (orderP b).1 = false := by
  have hv := valid_of hck
  have h1 := worst_le b l b.rules.length
  have hok := (does_two hv ho).1 (by omega)
  have hm := (mem_allO hv).2 ⟨hok, (ordB_iff.1 ho).1⟩
  rcases told_cases hck with ⟨_, _, ha, _⟩ | ⟨lo, rest, h1, h2, _, h3, _⟩
  · rw [ha] at hm; cases hm
  · rw [h1, h3]
    exact ⟨rfl, rfl, allO_first h2 hm⟩
theorem asked_none {b : Sheet} {i j : Int} (h : ∀ k, k < b.rules.length → ((b.rules.getD k default).over == i && (b.rules.getD k default).under == j) = false) : overP b i j = false := by
  rw [Bool.eq_false_iff]
  intro ho
  obtain ⟨_, r, hr, h1, h2⟩ := overP_iff.1 ho
  obtain ⟨k, hk, rfl⟩ := List.getElem_of_mem hr
  have := h k hk
  rw [List.getD_eq_getElem?_getD, List.getElem?_eq_getElem hk] at this
  simp [h1, h2] at this
theorem asked_some {b : Sheet} {i j : Int} {k : Nat} (hk : k < b.rules.length) (h : ((b.rules.getD k default).over == i && (b.rules.getD k default).under == j) = true) : overP b i j = decide (0 < cellN b 2 i j) := by
  simp only [Bool.and_eq_true, beq_iff_eq] at h
  rw [Bool.eq_iff_iff, overP_iff, decide_eq_true_eq]
  exact ⟨fun h => h.1, fun hc => ⟨hc, _, getD_mem hk, h.1, h.2⟩⟩
end Go.Proofs.YtpjhffockmnjbaaDoor
set_option linter.unusedVariables false
set_option linter.unusedSimpArgs false
namespace Go.Proofs.YtpjhffockmnjbaaDoor
open Go.RowKit
theorem c_drawn (b : Sheet) (fA : Option Addr) (fc : Nat) (rA : Option Addr) (rc : Nat) (oA : Option Addr) (oc : Nat) (l : List Int) (hv : Valid b) (w0 : World) (h : ShIn b fA fc rA rc w0) (ho : Rd encI 1 oA l.length l w0) :
    Calls Tryd.prog 42 #[.agg #[.int .i64 b.wide, .int .i64 b.high, .slice fA b.flaps.length fc, .slice rA b.rules.length rc], .slice oA l.length oc] w0 (RetX w0 (fun v w0' => ∃ A c, v = .slice A (drawnL b l).length c ∧ Out (drawnL b l) A c w0 w0')) := by
  refine c_enter (n := 50) Tryd.func42 rfl rfl (Nat.le_of_ble_eq_true rfl) ?_; intro a hf; simp only [zipR] at hf
  have hs := St.start w0 [Rd encF 5 fA b.flaps.length b.flaps, Rd encR 2 rA b.rules.length b.rules, Rd encI 1 oA l.length l] (stab_app h.stab ho.st1)
  have hfm := h.F.2.1; have hrm := h.R.2.1; have hlm := ho.2.1
  have hmany := hv.many
  refine c_reg ?_
  refine vL hf (v_boxA hf hs rfl) (by decide) ?_; clear hs hf a; rintro _ w ⟨b1, rfl, hs⟩ a hf
  refine gL hf (g_as hf rfl) (by decide) ?_; clear hf a; intro a hf
  refine e_nil ?_
  refine c_reg ?_
  refine gL hf (g_as hf rfl) (by decide) ?_; clear hf a; intro a hf
  refine gL hf (g_as hf rfl) (by decide) ?_; clear hf a; intro a hf
  refine e_nil ?_
  refine wp_seq ?_
  refine c_reg ?_
  refine gL hf (g_as hf rfl) (by decide) ?_; clear hf a; intro a hf
  refine e_nil ?_
  refine c_block ?_
  refine c_loop hf hs [5, 7, 10, 11, 12, 13, 14, 15, 16, 17, 18, 19, 20] (σ := (Nat × Acc)) (fun s => [(5, accV 1 (iota s.1).length s.2), (7, .int .i64 (s.1 : Nat))]) (fun s => (b1, .cells #[.int .i64 b.wide, .int .i64 b.high, .slice fA b.flaps.length fc, .slice rA b.rules.length rc] 25 (0, 0)) :: accH 3 s.2) (fun s => s.1 ≤ b.flaps.length ∧ AccOK encI 1 (iota s.1) s.2) (fun s => b.flaps.length - s.1) (0, none) ⟨Nat.zero_le _, rfl⟩ (.cons rfl (.cons rfl .nil)) rfl ?_
  intro ⟨k, oa⟩ a w hJ hf hs
  dsimp only at hJ hf hs
  obtain ⟨hk, hoa⟩ := hJ
  refine wp_seq ?_
  refine c_reg ?_
  refine gL hf (g_mv hf rfl) (by decide) ?_; clear hf a; intro a hf
  refine gL hf (g_fa (off' := 2) hf F25_2 rfl rfl) (by decide) ?_; clear hf a; intro a hf
  refine gL hf (g_ld hf hs T22 rfl (k := 0) rfl rfl) (by decide) ?_; clear hf a; intro a hf
  refine gL hf (g_len hf SL22 rfl) (by decide) ?_; clear hf a; intro a hf
  refine gL hf (g_lss hf rfl rfl) (by decide) ?_; clear hf a; intro a hf
  refine e_nil ?_
  refine c_cond hf rfl (fun hc1 => ?_) (fun hc1 => ?_)
  · try simp only [decide_eq_true_eq, decide_eq_false_iff_not] at hc1
    refine c_skip (q_thenN ?_)
    refine c_blockS ?_
    refine c_reg1 ?_
    refine gL hf (g_mv hf rfl) (by decide) ?_; clear hf a; intro a hf
    refine gL hf (g_mv hf rfl) (by decide) ?_; clear hf a; intro a hf
    refine vL hf (v_lits (len := 1) hf hs SL27 T3 (.cons rfl .nil) rfl rfl rfl rfl (by decide) rfl) (by decide) ?_; clear hs hf a; rintro _ w ⟨b2, rfl, hs⟩ a hf
    refine vL hf (v_accN (e := 3) (R := []) (o := oa) hf 2 hs (by simp) hoa AP27 (enc := encI) (l := iota k) (l' := [((k : Nat) : Int)]) (fun _ => rfl) (by decide) (by intro x v hv9; rw [List.mem_singleton.1 hv9]; rfl) rfl rfl rfl (rd_one rfl (hs.own _ _ (.head _)).2) (by rw [iota_len]; omega) (by decide)) (by decide) ?_; clear hs hf a; rintro _ w ⟨oa2, rfl, hoa2, hs⟩ a hf; dsimp only [List.take, List.cons_append, List.nil_append] at hs; rw [List.append_nil] at hs
    rw [show (iota k).length + 1 = (iota (k + 1)).length by simp [iota_len]] at hf; rw [← iota_succ] at hoa2
    refine gL hf (g_as hf rfl) (by decide) ?_; clear hf a; intro a hf
    refine e_nil1 (q_blkN (q_thenN ?_))
    refine c_reg1 ?_
    refine gL hf (g_mv hf rfl) (by decide) ?_; clear hf a; intro a hf
    refine gL hf (g_addI hf rfl rfl (by omega)) (by decide) ?_; clear hf a; intro a hf
    refine gL hf (g_as hf rfl) (by decide) ?_; clear hf a; intro a hf
    refine e_nil1 (q_thenN ?_)
    exact ⟨(k + 1, oa2), ⟨by dsimp only; omega, hoa2⟩, (by dsimp only; omega), hf.back (by repeat (first | (with_reducible exact Ext.base) | ((with_reducible refine Ext.cons ?_ ?_); (· rfl)) | ((with_reducible refine Ext.over ?_ ?_ ?_); (· rfl); (· rfl)))) (allKeys rfl) (.cons rfl (.cons rfl .nil)), hs.dropN 1⟩
  · try simp only [decide_eq_true_eq, decide_eq_false_iff_not] at hc1
    obtain rfl : k = b.flaps.length := by omega
    obtain ⟨A1, c1, e1, hl1, hs⟩ := hs.freeze (R := []) (e := 3) (o := oa) (enc := encI) (sz := 1) 1 (by simp) hoa (fun _ => rfl) (by decide)
    dsimp only [List.take, List.cons_append, List.nil_append, List.append_nil] at hs
    rw [e1] at hf
    refine c_exit (q_thenX (q_thenX (q_blkX (q_thenN ?_))))
    refine wp_seq ?_
    refine c_reg ?_
    refine gL hf (g_as hf rfl) (by decide) ?_; clear hf a; intro a hf
    refine e_nil ?_
    refine c_block ?_
    refine c_loopD (fun s => Base.of w0) (fun s => Rd encI 1 s.2.1 (dAt l b.flaps.length s.1).1.length (dAt l b.flaps.length s.1).1 :: Rd encF 5 fA b.flaps.length b.flaps :: Rd encR 2 rA b.rules.length b.rules :: Rd encI 1 oA l.length l :: []) hf (List.range' 5 2 ++ List.range' 8 2 ++ List.range' 21 28) (σ := (Nat × Option Addr × Nat × Acc)) (fun s => [(5, .slice s.2.1 (dAt l b.flaps.length s.1).1.length s.2.2.1), (6, accV 1 (dAt l b.flaps.length s.1).2.length s.2.2.2), (8, .int .i64 (s.1 : Nat))]) (fun s => (b1, .cells #[.int .i64 b.wide, .int .i64 b.high, .slice fA b.flaps.length fc, .slice rA b.rules.length rc] 25 (0, 0)) :: accH 3 s.2.2.2) (fun s => s.1 ≤ b.flaps.length ∧ (dAt l b.flaps.length s.1).1.length ≤ s.2.2.1 ∧ AccOK encI 1 (dAt l b.flaps.length s.1).2 s.2.2.2) (fun s => b.flaps.length - s.1) (0, A1, c1, none) hs ⟨Nat.zero_le _, hl1, rfl⟩ (.cons rfl (.cons rfl (.cons rfl .nil))) ?_
    intro ⟨i, AL, cL, oo⟩ a w hJ hf hs
    dsimp only at hJ hf hs
    obtain ⟨hi9, hlc, hoo⟩ := hJ
    obtain ⟨hinv, hlen⟩ := dInv l b.flaps.length i hi9
    have hln := hinv.len
    refine wp_seq ?_
    refine c_reg ?_
    refine gL hf (g_mv hf rfl) (by decide) ?_; clear hf a; intro a hf
    refine gL hf (g_len hf SL27 rfl) (by decide) ?_; clear hf a; intro a hf
    refine gL hf (g_gtr hf rfl rfl) (by decide) ?_; clear hf a; intro a hf
    refine e_nil ?_
    refine c_cond hf rfl (fun hc2 => ?_) (fun hc2 => ?_)
    · try simp only [decide_eq_true_eq, decide_eq_false_iff_not] at hc2
      have hsp := spin_rng (itemZ l ((i : Nat) : Int)) (m := (((dAt l b.flaps.length i).1.length : Nat) : Int)) (by omega)
      refine c_skip (q_thenN ?_)
      refine c_blockS ?_
      refine c_reg ?_
      refine gL hf (g_mv hf rfl) (by decide) ?_; clear hf a; intro a hf
      refine gL hf (g_mv hf rfl) (by decide) ?_; clear hf a; intro a hf
      refine callL hf hs (c_Item _ _ l _ _ (hs.rd (.tail _ (.tail _ (.tail _ (.head _)))))) rfl rfl rfl E83 (by decide) ?_; clear hs hf a; intro w a hs hf
      refine gL hf (g_mv hf rfl) (by decide) ?_; clear hf a; intro a hf
      refine gL hf (g_len hf SL27 rfl) (by decide) ?_; clear hf a; intro a hf
      refine callL hf hs (c_Spin _ _ (by omega) _) rfl rfl rfl E38 (by decide) ?_; clear hs hf a; intro w a hs hf
      refine gL hf (g_as hf rfl) (by decide) ?_; clear hf a; intro a hf
      refine e_nil ?_
      refine c_reg ?_
      refine gL hf (g_mv hf rfl) (by decide) ?_; clear hf a; intro a hf
      refine gL hf (g_mv hf rfl) (by decide) ?_; clear hf a; intro a hf
      refine gL hf (g_mv hf rfl) (by decide) ?_; clear hf a; intro a hf
      (first | (refine gL hf (g_ixE hf hs (.head _) SL27 rfl rfl (by omega)) (by decide) ?_) | (refine gL hf (g_ixD hf hs (.head _) SL27 rfl rfl (by omega)) (by decide) ?_)); clear hf a; intro a hf
      refine gL hf (g_ldE hf hs (.head _) T3 rfl rfl (by omega)) (by decide) ?_; clear hf a; intro a hf
      refine vL hf (v_lits (len := 1) hf hs SL27 T3 (.cons rfl .nil) rfl rfl rfl rfl (by decide) rfl) (by decide) ?_; clear hs hf a; rintro _ w ⟨b2, rfl, hs⟩ a hf
      refine vL hf (v_accN (e := 3) (R := []) (o := oo) hf 2 hs (by simp) hoo AP27 (enc := encI) (l := (dAt l b.flaps.length i).2) (l' := [(dAt l b.flaps.length i).1.getD (spin (itemZ l ((i : Nat) : Int)) (((dAt l b.flaps.length i).1.length : Nat) : Int)).toNat default]) (fun _ => rfl) (by decide) (by intro x v hv9; rw [List.mem_singleton.1 hv9]; rfl) rfl rfl rfl (rd_one rfl (hs.own _ _ (.head _)).2) (by omega) (by decide)) (by decide) ?_; clear hs hf a; rintro _ w ⟨oo2, rfl, hoo2, hs⟩ a hf; dsimp only [List.take, List.cons_append, List.nil_append] at hs; rw [List.append_nil] at hs
      refine gL hf (g_as hf rfl) (by decide) ?_; clear hf a; intro a hf
      refine e_nil ?_
      refine c_draw1 _ 11 Mx rfl hs (fun _ h => h) ?_; intro w hs hS
      refine gA hf hS (i := 1) rfl (by kernel_rfl) (fun w hs => g_mv hf rfl) (by decide) ?_; clear hf a; intro a hf
      refine gA hf hS (i := 2) rfl (by kernel_rfl) (fun w hs => g_mv hf rfl) (by decide) ?_; clear hf a; intro a hf
      refine gA hf hS (i := 3) rfl (by kernel_rfl) (fun w hs => g_slH hf SL27 rfl rfl (by omega)) (by decide) ?_; clear hf a; intro a hf
      refine gA hf hS (i := 5) rfl (by kernel_rfl) (fun w hs => g_mv hf rfl) (by decide) ?_; clear hf a; intro a hf
      refine gA hf hS (i := 6) rfl (by kernel_rfl) (fun w hs => g_mv hf rfl) (by decide) ?_; clear hf a; intro a hf
      refine gA hf hS (i := 7) rfl (by kernel_rfl) (fun w hs => g_addI hf rfl rfl (by omega)) (by decide) ?_; clear hf a; intro a hf
      refine gA hf hS (i := 8) rfl (by kernel_rfl) (fun w hs => g_slL hf SL27 rfl rfl (by omega)) (by decide) ?_; clear hf a; intro a hf
      refine one (i := 0) (by kernel_rfl) ?_
      refine oV hf rfl (v_lits (len := 0) hf hs SL27 T3 .nil rfl rfl rfl rfl (by decide) rfl) (by decide) (fun _ _ ⟨_, _, h⟩ => h.sub (.cons _ (.refl _))) ?_; clear hs hf hS a; rintro _ w ⟨b3, rfl, hs⟩ hS a hf
      refine one (i := 4) (by kernel_rfl) ?_
      refine oV hf rfl (v_accN (e := 3) (o := some (b3, #[])) (l := []) (l' := (dAt l b.flaps.length i).1.take (spin (itemZ l ((i : Nat) : Int)) (((dAt l b.flaps.length i).1.length : Nat) : Int)).toNat) (len := 0) hf 0 hs rfl ⟨0, rfl, Nat.le_refl _, by omega, rfl⟩ AP27 (enc := encI) (fun _ => rfl) (by decide) (by intro x v hv9; rw [List.mem_singleton.1 hv9]; rfl) rfl rfl rfl ((hs.rd (.head _)).take _ (by omega)) (by omega) (by decide)) (by decide) (fun _ _ ⟨_, _, _, h⟩ => h.sub (List.sublist_append_right _ _)) ?_; clear hs hf hS a; rintro _ w ⟨o1, rfl, ho1, hs⟩ hS a hf; dsimp only [List.take, List.nil_append] at hs
      refine one (i := 9) (by kernel_rfl) ?_
      refine oV hf rfl (v_accN (e := 3) (o := o1) (l := [] ++ (dAt l b.flaps.length i).1.take (spin (itemZ l ((i : Nat) : Int)) (((dAt l b.flaps.length i).1.length : Nat) : Int)).toNat) (l' := (dAt l b.flaps.length i).1.drop ((spin (itemZ l ((i : Nat) : Int)) (((dAt l b.flaps.length i).1.length : Nat) : Int)) + 1).toNat) hf 0 hs rfl ho1 AP27 (enc := encI) (fun _ => rfl) (by decide) (by intro x v hv9; rw [List.mem_singleton.1 hv9]; rfl) (by simp; omega) rfl rfl ((hs.rd (.head _)).drop _ (by omega) hlc) (by omega) (by decide)) (by decide) (fun _ _ ⟨_, _, _, h⟩ => h.sub (List.sublist_append_right _ _)) ?_; clear hs hf hS a; rintro _ w ⟨o2, rfl, ho2, hs⟩ hS a hf; dsimp only [List.take, List.nil_append] at hs
      refine gA hf hS (i := 10) rfl (by kernel_rfl) (fun w hs => g_as hf rfl) (by decide) ?_; clear hf a; intro a hf
      refine e_done1 (by kernel_rfl) ?_
      refine q_blkN (q_thenN ?_)
      have hd8 : dAt l b.flaps.length (i + 1) = ([] ++ (dAt l b.flaps.length i).1.take (spin (itemZ l ((i : Nat) : Int)) (((dAt l b.flaps.length i).1.length : Nat) : Int)).toNat ++ (dAt l b.flaps.length i).1.drop ((spin (itemZ l ((i : Nat) : Int)) (((dAt l b.flaps.length i).1.length : Nat) : Int)) + 1).toNat, (dAt l b.flaps.length i).2 ++ [(dAt l b.flaps.length i).1.getD (spin (itemZ l ((i : Nat) : Int)) (((dAt l b.flaps.length i).1.length : Nat) : Int)).toNat default]) := by rw [dAt_succ]; rfl
      have ho3 : AccOK encI 1 (dAt l b.flaps.length (i + 1)).1 o2 := by rw [hd8]; exact ho2
      rw [show 0 + (spin (itemZ l ((i : Nat) : Int)) (((dAt l b.flaps.length i).1.length : Nat) : Int)).toNat + ((dAt l b.flaps.length i).1.length - ((spin (itemZ l ((i : Nat) : Int)) (((dAt l b.flaps.length i).1.length : Nat) : Int)) + 1).toNat) = (dAt l b.flaps.length (i + 1)).1.length by rw [hd8]; simp only [List.length_append, List.length_nil, List.length_take, List.length_drop]; omega] at hf
      obtain ⟨A2, c2, e2, hl2, hs⟩ := hs.freeze (e := 3) (o := o2) (enc := encI) (sz := 1) 0 rfl ho3 (fun _ => rfl) (by decide)
      dsimp only [List.take, List.nil_append] at hs
      rw [e2] at hf
      rw [show (dAt l b.flaps.length i).2.length + 1 = (dAt l b.flaps.length (i + 1)).2.length by rw [hd8]; simp] at hf
      rw [show (dAt l b.flaps.length i).2 ++ [(dAt l b.flaps.length i).1.getD (spin (itemZ l ((i : Nat) : Int)) (((dAt l b.flaps.length i).1.length : Nat) : Int)).toNat default] = (dAt l b.flaps.length (i + 1)).2 by rw [hd8]] at hoo2
      refine c_reg1 ?_
      refine gL hf (g_mv hf rfl) (by decide) ?_; clear hf a; intro a hf
      refine gL hf (g_addI hf rfl rfl (by omega)) (by decide) ?_; clear hf a; intro a hf
      refine gL hf (g_as hf rfl) (by decide) ?_; clear hf a; intro a hf
      refine e_nil1 (q_thenN ?_)
      exact ⟨(i + 1, A2, c2, oo2), ⟨by dsimp only; omega, hl2, hoo2⟩, (by dsimp only; omega), hf.back (by repeat (first | (with_reducible exact Ext.base) | ((with_reducible refine Ext.cons ?_ ?_); (· rfl)) | ((with_reducible refine Ext.over ?_ ?_ ?_); (· rfl); (· rfl)))) (allKeys rfl) (.cons rfl (.cons rfl (.cons rfl .nil))), (hs.dropN 1).subD (fun _ h => by rcases List.mem_cons.1 h with rfl | h; exact .head _; exact .tail _ (.tail _ h))⟩
    · try simp only [decide_eq_true_eq, decide_eq_false_iff_not] at hc2
      obtain rfl : i = b.flaps.length := by omega
      have hn1 : ∀ q, oo = some q → w0.heap.size ≤ q.1 := fun q e => by subst e; exact (hs.own _ _ (.tail _ (.head _))).1
      obtain ⟨A3, c3, e3, hl3, hs⟩ := hs.freeze (R := []) (e := 3) (o := oo) (enc := encI) (sz := 1) 1 (by simp) hoo (fun _ => rfl) (by decide)
      have hA3 := acc_new hn1 e3
      rw [e3] at hf
      refine c_exit (q_thenX (q_thenX (q_blkX (q_thenN ?_))))
      refine c_reg ?_
      refine gL hf (g_mv hf rfl) (by decide) ?_; clear hf a; intro a hf
      refine gL hf (g_as hf rfl) (by decide) ?_; clear hf a; intro a hf
      refine e_nil ?_
      refine c_ret ?_
      refine e_ret1 hf rfl rfl ?_
      exact ⟨_, rfl, hs.below, A3, c3, rfl, hl3, hs.rd (.head _), hA3⟩

end Go.Proofs.YtpjhffockmnjbaaDoor
set_option linter.unusedVariables false
set_option linter.unusedSimpArgs false
namespace Go.Proofs.YtpjhffockmnjbaaDoor
open Go.RowKit
theorem c_askedB (b : Sheet) (fA : Option Addr) (fc : Nat) (rA : Option Addr) (rc : Nat) (ge : TypeId) (gz : Nat × Nat) (i j : Int) (hck : checkB b = true) (w0 : World) (h : ShIn b fA fc rA rc w0) (hG : BlkIs 0 sidesA ge gz w0) :
    Calls Tryd.prog 45 #[.agg #[.int .i64 b.wide, .int .i64 b.high, .slice fA b.flaps.length fc, .slice rA b.rules.length rc], .int .i64 i, .int .i64 j] w0 (Ret w0 (.bool (overP b i j))) := by
  refine c_enter (n := 48) Tryd.func45 rfl rfl (Nat.le_of_ble_eq_true rfl) ?_; intro a hf; simp only [zipR] at hf
  have hs := St.start w0 [Rd encF 5 fA b.flaps.length b.flaps, Rd encR 2 rA b.rules.length b.rules, BlkIs 0 sidesA ge gz] (stab_app h.stab hG.st1)
  have hfm := h.F.2.1; have hrm := h.R.2.1
  have hv := valid_of hck
  refine c_reg ?_
  refine vL hf (v_boxA hf hs rfl) (by decide) ?_; clear hs hf a; rintro _ w ⟨b1, rfl, hs⟩ a hf
  refine gL hf (g_as hf rfl) (by decide) ?_; clear hf a; intro a hf
  refine e_nil ?_
  refine wp_seq ?_
  refine c_reg ?_
  refine gL hf (g_as hf rfl) (by decide) ?_; clear hf a; intro a hf
  refine e_nil ?_
  refine c_block ?_
  refine c_loop hf hs (List.range' 6 42) (σ := Nat) (fun k => [(7, .int .i64 (k : Nat))]) (fun k => _) (fun k => k ≤ b.rules.length ∧ ∀ q, q < k → ((b.rules.getD q default).over == i && (b.rules.getD q default).under == j) = false) (fun k => b.rules.length - k) 0 ⟨by omega, fun z hz => absurd hz (by omega)⟩ (.cons rfl .nil) rfl ?_
  intro k a w hJ hf hs
  obtain ⟨hk, hp⟩ := hJ
  refine wp_seq ?_
  refine c_reg ?_
  refine gL hf (g_mv hf rfl) (by decide) ?_; clear hf a; intro a hf
  refine gL hf (g_fa (off' := 3) hf F25_3 rfl rfl) (by decide) ?_; clear hf a; intro a hf
  refine gL hf (g_ld hf hs T23 rfl (k := 0) rfl rfl) (by decide) ?_; clear hf a; intro a hf
  refine gL hf (g_len hf SL23 rfl) (by decide) ?_; clear hf a; intro a hf
  refine gL hf (g_lss hf rfl rfl) (by decide) ?_; clear hf a; intro a hf
  refine e_nil ?_
  refine c_cond hf rfl (fun hc1 => ?_) (fun hc1 => ?_)
  · try simp only [decide_eq_true_eq, decide_eq_false_iff_not] at hc1
    refine c_skip (q_thenN ?_)
    refine c_blockS ?_
    refine c_reg ?_
    refine gL hf (g_fa (off' := 3) hf F25_3 rfl rfl) (by decide) ?_; clear hf a; intro a hf
    refine gL hf (g_ld hf hs T23 rfl (k := 0) rfl rfl) (by decide) ?_; clear hf a; intro a hf
    refine gL hf (g_mv hf rfl) (by decide) ?_; clear hf a; intro a hf
    (first | (refine gL hf (g_ixE hf hs (.tail _ (.head _)) SL23 rfl rfl (by omega)) (by decide) ?_) | (refine gL hf (g_ixD hf hs (.tail _ (.head _)) SL23 rfl rfl (by omega)) (by decide) ?_)); clear hf a; intro a hf
    refine gL hf (g_faD (j' := 0) hf hs (.tail _ (.head _)) F64_0 rfl (by omega) rfl) (by decide) ?_; clear hf a; intro a hf
    refine gL hf (g_ldE hf hs (.tail _ (.head _)) T3 rfl rfl (by omega)) (by decide) ?_; clear hf a; intro a hf
    refine gL hf (g_mv hf rfl) (by decide) ?_; clear hf a; intro a hf
    refine gL hf (g_eql hf rfl rfl) (by decide) ?_; clear hf a; intro a hf
    refine gL hf (g_mv hf rfl) (by decide) ?_; clear hf a; intro a hf
    refine ggL hf rfl rfl (gyes_t _) (fun hg => g_fa (off' := 3) hf F25_3 rfl rfl) (by decide) ?_; clear hf a; intro a hf
    refine ggL hf rfl rfl (gyes_t _) (fun hg => g_ld hf hs T23 (ev_gv rfl hg) (k := 0) rfl rfl) (by decide) ?_; clear hf a; intro a hf
    refine ggL hf rfl rfl (gyes_t _) (fun hg => g_mv hf rfl) (by decide) ?_; clear hf a; intro a hf
    (first | (refine ggL hf rfl rfl (gyes_t _) (fun hg => g_ixE hf hs (.tail _ (.head _)) SL23 (ev_gv rfl hg) (ev_gv rfl hg) (by omega)) (by decide) ?_) | (refine ggL hf rfl rfl (gyes_t _) (fun hg => g_ixD hf hs (.tail _ (.head _)) SL23 (ev_gv rfl hg) (ev_gv rfl hg) (by omega)) (by decide) ?_)); clear hf a; intro a hf
    refine ggL hf rfl rfl (gyes_t _) (fun hg => g_faD (j' := 1) hf hs (.tail _ (.head _)) F64_1 (ev_gv rfl hg) (by omega) rfl) (by decide) ?_; clear hf a; intro a hf
    refine ggL hf rfl rfl (gyes_t _) (fun hg => g_ldE hf hs (.tail _ (.head _)) T3 (ev_gv rfl hg) rfl (by omega)) (by decide) ?_; clear hf a; intro a hf
    refine ggL hf rfl rfl (gyes_t _) (fun hg => g_mv hf rfl) (by decide) ?_; clear hf a; intro a hf
    refine ggL hf rfl rfl (gyes_t _) (fun hg => g_eql hf (ev_gv rfl hg) (ev_gv rfl hg)) (by decide) ?_; clear hf a; intro a hf
    refine gL hf (g_and hf rfl rfl) (by decide) ?_; clear hf a; intro a hf
    refine e_nil ?_
    refine c_cond hf rfl (fun hc2 => ?_) (fun hc2 => ?_)
    · skip
      have hri := rule_in hv (getD_mem (l := b.rules) (i := k) (by omega)); have hru := hv.rule _ (getD_mem (l := b.rules) (i := k) (by omega))
      obtain ⟨ho1, ho2⟩ : (b.rules.getD k default).over = i ∧ (b.rules.getD k default).under = j := by simpa using hc2
      have hin : inN b i ∧ inN b j := ⟨ho1 ▸ hri.1, ho2 ▸ hri.2⟩
      have hne : i ≠ j := by rw [← ho1, ← ho2]; exact hru.2.2.2.2
      refine c_reg ?_
      refine gL hf (g_ldW hf hs T25 rfl (k := 0) rfl rfl) (by decide) ?_; clear hf a; intro a hf
      refine gL hf (g_mv hf rfl) (by decide) ?_; clear hf a; intro a hf
      refine gL hf (g_mv hf rfl) (by decide) ?_; clear hf a; intro a hf
      refine callL hf hs (c_Meet b _ _ _ _ _ _ i j _ ⟨hs.rd (.head _), hs.rd (.tail _ (.head _)), h.fc_, h.rc_⟩ (hs.rd (.tail _ (.tail _ (.head _))))) rfl rfl rfl E15 (by decide) ?_; clear hs hf a; intro w a hs hf
      rw [meetP_ok hck hin.1 hin.2 hne] at hf
      refine gL hf (g_mv hf rfl) (by decide) ?_; clear hf a; intro a hf
      refine gL hf (g_ext hf rfl rfl) (by decide) ?_; clear hf a; intro a hf
      refine gL hf (g_ext hf rfl rfl) (by decide) ?_; clear hf a; intro a hf
      refine gL hf (g_as hf rfl) (by decide) ?_; clear hf a; intro a hf
      refine gL hf (g_as hf rfl) (by decide) ?_; clear hf a; intro a hf
      refine e_nil ?_
      refine c_reg ?_
      refine gL hf (g_mv hf rfl) (by decide) ?_; clear hf a; intro a hf
      refine gL hf (g_eql hf rfl rfl) (by decide) ?_; clear hf a; intro a hf
      refine gL hf (g_mv hf rfl) (by decide) ?_; clear hf a; intro a hf
      refine ggL hf rfl rfl (gyes_t _) (fun hg => g_mv hf rfl) (by decide) ?_; clear hf a; intro a hf
      refine ggL hf rfl rfl (gyes_t _) (fun hg => g_gtr hf (ev_gv rfl hg) rfl) (by decide) ?_; clear hf a; intro a hf
      refine gL hf (g_and hf rfl rfl) (by decide) ?_; clear hf a; intro a hf
      refine gL hf (g_as hf rfl) (by decide) ?_; clear hf a; intro a hf
      refine e_nil ?_
      refine c_ret (q_blkR (q_thenR (q_thenR (q_blkR (q_thenR ?_)))))
      refine e_ret1 hf rfl rfl ?_
      exact ⟨by rw [asked_some (k := k) (by omega) hc2]; rfl, hs.below⟩
    · skip
      refine c_skip (q_blkN (q_thenN ?_))
      refine c_reg1 ?_
      refine gL hf (g_mv hf rfl) (by decide) ?_; clear hf a; intro a hf
      refine gL hf (g_addI hf rfl rfl (by omega)) (by decide) ?_; clear hf a; intro a hf
      refine gL hf (g_as hf rfl) (by decide) ?_; clear hf a; intro a hf
      refine e_nil1 (q_thenN ?_)
      exact ⟨k + 1, ⟨by omega, lt_succ hp hc2⟩, (by omega), hf.back (by repeat (first | (with_reducible exact Ext.base) | ((with_reducible refine Ext.cons ?_ ?_); (· rfl)) | ((with_reducible refine Ext.over ?_ ?_ ?_); (· rfl); (· rfl)))) (allKeys rfl) (.cons rfl .nil), hs.dropN 0⟩
  · try simp only [decide_eq_true_eq, decide_eq_false_iff_not] at hc1
    refine c_exit (q_thenX (q_thenX (q_blkX (q_thenN ?_))))
    refine c_reg ?_
    refine gL hf (g_as hf rfl) (by decide) ?_; clear hf a; intro a hf
    refine e_nil ?_
    refine c_ret ?_
    refine e_ret1 hf rfl rfl ?_
    exact ⟨by rw [asked_none (fun q hq => hp q (by omega))], hs.below⟩

end Go.Proofs.YtpjhffockmnjbaaDoor
set_option linter.unusedVariables false
set_option linter.unusedSimpArgs false
namespace Go.Proofs.YtpjhffockmnjbaaDoor
theorem spin_next {n i : Nat} (h : i < n) : spin (((i : Nat) : Int) + 1) ((n : Nat) : Int) = (((i + 1) % n : Nat) : Int) := by
  unfold spin
  rw [if_neg (by omega), Int.tmod_eq_emod_of_nonneg (by omega), if_neg (by have := Int.emod_nonneg (((i : Nat) : Int) + 1) (show ((n : Nat) : Int) ≠ 0 by omega); omega)]
  simp
theorem no_chord {b : Sheet} {l : List Int} (hr : Ring b l) (hmin : ∀ s, Ring b s → l.length ≤ s.length) {i k : Nat} (hi : i < l.length) (hk : k < l.length) (h1 : k ≠ (i + 1) % l.length) (h2 : k ≠ i) : overP b (l.getD k default) (l.getD i default) = false := by
  obtain ⟨n, hn⟩ : ∃ n, l.length = n := ⟨_, rfl⟩
  rw [hn] at hi hk h1 hmin
  cases ho : overP b (l.getD k default) (l.getD i default) with
  | false => rfl
  | true =>
    exfalso
    have hc := hr.cyc
    obtain ⟨m, hm⟩ : ∃ m, m = if k ≤ i then i - k + 1 else i + n - k + 1 := ⟨_, rfl⟩
    have hm2 : 2 ≤ m := by rw [hm]; split <;> omega
    have hmn : m < n := by
      rw [hm]
      by_cases e : i + 1 = n
      · rw [e, Nat.mod_self] at h1
        split <;> omega
      · rw [Nat.mod_eq_of_lt (by omega)] at h1
        split <;> omega
    have hlast : (k + (m - 1)) % n = i := by
      by_cases hki : k ≤ i
      · rw [if_pos hki] at hm
        rw [show k + (m - 1) = i by omega]; exact Nat.mod_eq_of_lt hi
      · rw [if_neg hki] at hm
        rw [show k + (m - 1) = i + n by omega, Nat.add_mod_right]; exact Nat.mod_eq_of_lt hi
    have hlt : ∀ t, (k + t) % n < n := fun t => Nat.mod_lt _ (by omega)
    have hinj : ∀ i j, i < n → j < n → (k + i) % n = (k + j) % n → i = j := by
      intro i j hi hj e
      have h1 : (k + i) % n = if k + i < n then k + i else k + i - n := by
        split
        · exact Nat.mod_eq_of_lt (by omega)
        · rw [Nat.mod_eq_sub_mod (by omega)]; exact Nat.mod_eq_of_lt (by omega)
      have h2 : (k + j) % n = if k + j < n then k + j else k + j - n := by
        split
        · exact Nat.mod_eq_of_lt (by omega)
        · rw [Nat.mod_eq_sub_mod (by omega)]; exact Nat.mod_eq_of_lt (by omega)
      rw [h1, h2] at e
      split at e <;> split at e <;> omega
    have hg : ∀ t, t < m → ((List.range m).map fun t => l.getD ((k + t) % n) default).getD t default = l.getD ((k + t) % n) default := fun t ht => getD_map_range ht
    have hcy : Cyc b ((List.range m).map fun t => l.getD ((k + t) % n) default) := by
      refine ⟨by simpa using hm2, ?_, ?_, ?_⟩
      · rw [List.nodup_iff_pairwise_ne, List.pairwise_map, List.pairwise_iff_getElem]
        intro i j hi hj hij
        simp only [List.getElem_range, List.length_range] at hi hj ⊢
        intro e
        have := getD_inj hc.nodup (by rw [hn]; exact hlt i) (by rw [hn]; exact hlt j) e
        have := hinj i j (by omega) (by omega) this
        omega
      · intro x hx
        obtain ⟨t, ht, rfl⟩ := List.mem_map.1 hx
        exact hc.inb _ (getD_mem (by rw [hn]; exact hlt t))
      · intro t ht
        simp only [List.length_map, List.length_range] at ht ⊢
        rw [hg t ht]
        by_cases e : t + 1 = m
        · rw [e, Nat.mod_self, hg 0 (by omega), show t = m - 1 by omega, hlast, Nat.add_zero, Nat.mod_eq_of_lt hk]
          exact ho
        · rw [Nat.mod_eq_of_lt (by omega), hg (t + 1) (by omega)]
          have := hc.round ((k + t) % n) (by rw [hn]; exact hlt t)
          rw [hn, Nat.mod_add_mod] at this
          exact this
    obtain ⟨s, hs, hl⟩ := ring_of_cyc hcy
    have := hmin s hs
    rw [hl] at this
    simp at this; omega
theorem ring_le {b : Sheet} {l : List Int} (h : Ring b l) : l.length ≤ b.flaps.length := by
  have := h.nodup.length_le_of_subset (l₂ := iota b.flaps.length) (fun x hx => mem_iota.2 (h.inb x hx))
  rwa [iota_len] at this
theorem ring_index {b : Sheet} {l : List Int} (h : Ring b l) {i : Nat} (hi : i < l.length) : indexZ (fun x => x == l.getD i default) l = ((i : Nat) : Int) := by
  rw [index_idx' (getD_mem hi), List.getD_eq_getElem?_getD, List.getElem?_eq_getElem hi, Option.getD_some, h.nodup.idxOf_getElem]
theorem ring_fits {b : Sheet} {l : List Int} (h : Ring b l) {i : Nat} (hi : i < l.length) : fitsB (l.getD i default) (l.getD 0 default) (((b.flaps.length : Nat) : Int) - 1) = true := by
  have h1 := h.inb _ (getD_mem hi)
  have h2 := h1.2
  rw [fitsB_iff]
  refine ⟨?_, by omega⟩
  by_cases e : i = 0
  · subst e; exact Int.le_refl _
  · have := h.least i (by omega) hi; omega
theorem ring_no_order {b : Sheet} (hv : Valid b) {r : List Int} (hr : Ring b r) {l : List Int} (ho : ordB b l = true) : 2 - worst b l b.rules.length < 2 := by
  have h1 := worst_le b l b.rules.length
  by_cases h : 2 - worst b l b.rules.length = 2
  · exact (no_ring ((does_two hv ho).1 h) (ordB_iff.1 ho).1 hr).elim
  · omega
/-! ### The longest row -/
def lwStep (b : Sheet) (f : Int) (r : List Int) (u : Int) : List Int := if overP b f u = true then r.set f.toNat (max (r.getD f.toNat 0) (r.getD u.toNat 0)) else r
def lwAt (b : Sheet) (l : List Int) (f : Int) (r : List Int) (m : Nat) : List Int := (l.take m).foldl (lwStep b f) r
theorem lw_succ {b : Sheet} {l : List Int} {f : Int} {r : List Int} {m : Nat} (h : m < l.length) : lwAt b l f r (m + 1) = lwStep b f (lwAt b l f r m) (l.getD m default) := by
  unfold lwAt; rw [take_succ_getD h, List.foldl_append]; rfl
theorem lwStep_len (b : Sheet) (f : Int) (r : List Int) (u : Int) : (lwStep b f r u).length = r.length := by unfold lwStep; split <;> simp
theorem lw_len (b : Sheet) (l : List Int) (f : Int) (r : List Int) (m : Nat) : (lwAt b l f r m).length = r.length := foldl_len (lwStep_len b f) _ _
theorem rbd_lw {b : Sheet} {f : Int} {r : List Int} {B : Int} (h : rbd r B) (u : Int) : rbd (lwStep b f r u) B := by
  unfold lwStep
  split
  · have h1 := h f.toNat; have h2 := h u.toNat
    exact rbd_set h (by omega) _
  · exact h
theorem rbd_lwAt {b : Sheet} {l : List Int} {f : Int} {r : List Int} {B : Int} (h : rbd r B) : ∀ m, m ≤ l.length → rbd (lwAt b l f r m) B
  | 0, _ => by simpa [lwAt] using h
  | m + 1, hm => by rw [lw_succ (by omega)]; exact rbd_lw (rbd_lwAt h m (by omega)) _
theorem set_getD {r : List Int} {i j : Nat} {x : Int} (h : i ≠ j) : (r.set i x).getD j 0 = r.getD j 0 := by
  rw [List.getD_eq_getElem?_getD, List.getD_eq_getElem?_getD, List.getElem?_set, if_neg h]
theorem set_self {r : List Int} {i : Nat} {x : Int} (h : i < r.length) : (r.set i x).getD i 0 = x := by
  rw [List.getD_eq_getElem?_getD, List.getElem?_set, if_pos rfl, if_pos h]; rfl
/-- What both loops hold of the flap's own round. -/
theorem in_form {b : Sheet} {l : List Int} {f : Int} {r : List Int} (hf : inN b f) (hl : ∀ x ∈ l, inN b x) (hr : r.length = b.flaps.length) (hself : ∀ u, overP b f u = true → u ≠ f) (hz : r.getD f.toNat 0 = 0) : ∀ m, m ≤ l.length →
    ∃ v : Int, 0 ≤ v ∧ lwAt b l f r m = r.set f.toNat v ∧ inAt b l f r m = r.set f.toNat (v + 1)
  | 0, _ => ⟨0, Int.le_refl _, by
      simp only [lwAt, List.take_zero, List.foldl_nil]
      rw [List.getD_eq_getElem?_getD] at hz
      have h0 := hf.1; have h1 := hf.2
      apply List.ext_getElem?
      intro i
      rw [List.getElem?_set]
      by_cases e : f.toNat = i
      · subst e
        rw [if_pos rfl, if_pos (by omega)]
        rw [List.getElem?_eq_getElem (by omega)] at hz ⊢
        simp at hz; rw [hz]
      · rw [if_neg e], by simp [inAt]⟩
  | m + 1, hm => by
    obtain ⟨v, h0, h1, h2⟩ := in_form hf hl hr hself hz m (by omega)
    have hf0 := hf.1; have hf1 := hf.2
    rw [lw_succ (by omega), inAt_succ (by omega), h1, h2]
    unfold lwStep inStep
    by_cases ho : overP b f (l.getD m default) = true
    · rw [if_pos ho, if_pos ho]
      have hu := hl _ (getD_mem (l := l) (i := m) (by omega))
      have hu0 := hu.1; have hu1 := hu.2
      have hne := hself _ ho
      have hne' : f.toNat ≠ (l.getD m default).toNat := by omega
      rw [set_self (by omega), set_self (by omega), set_getD hne', set_getD hne']
      refine ⟨max v (r.getD (l.getD m default).toNat 0), by omega, by simp, ?_⟩
      rw [List.set_set]
      congr 1
      omega
    · rw [if_neg ho, if_neg ho]
      exact ⟨v, h0, rfl, rfl⟩
theorem in_rest {b : Sheet} {l : List Int} (hok : Ok b l) {i : Nat} (hi : i < l.length) (r : List Int) : ∀ m, i ≤ m → m ≤ l.length → inAt b l (l.getD i default) r m = inAt b l (l.getD i default) r i
  | 0, h, _ => by rw [show i = 0 by omega]
  | m + 1, h, hm => by
    by_cases e : i = m + 1
    · rw [e]
    · rw [inAt_succ (by omega), in_rest hok hi r m (by omega) (by omega), inStep]
      rw [if_neg]
      intro ho
      have := ok_over hok (getD_mem hi) ho
      rw [List.getD_eq_getElem?_getD, List.getD_eq_getElem?_getD, List.getElem?_eq_getElem hi, List.getElem?_eq_getElem (show m < l.length by omega)] at this
      simp only [Option.getD_some] at this
      rw [hok.nodup.idxOf_getElem, hok.nodup.idxOf_getElem] at this
      omega
theorem out_zero {b : Sheet} (hv : Valid b) {l : List Int} (hok : Ok b l) (hl : l.length = b.flaps.length) : ∀ i, i ≤ l.length → ∀ x, inN b x → x ∉ l.take i → (outAt b l i).1.getD x.toNat 0 = 0
  | 0, _, x, hx, _ => by
    have h0 := hx.1; have h1 := hx.2
    simp only [outAt, List.take_zero, List.foldl_nil]
    rw [List.getD_eq_getElem?_getD, List.getElem?_replicate]
    split <;> rfl
  | i + 1, h, x, hx, hm => by
    have hi : i < l.length := by omega
    have hfi : inN b (l.getD i default) := hok.inN (getD_mem hi)
    rw [take_succ_getD hi] at hm
    simp only [List.mem_append, List.mem_singleton, not_or] at hm
    have ih := out_zero hv hok hl i (by omega) x hx hm.1
    have hz := out_zero hv hok hl i (by omega) _ hfi (hok i hi).2.1
    rw [outAt_succ hi]
    unfold outStep
    obtain ⟨v, _, _, h2⟩ := in_form hfi (fun y hy => hok.inN hy) (by rw [outAt_len _ _ _ (by omega), hl]) (fun u hu e => by
      obtain ⟨_, r, hr, h3, h4⟩ := overP_iff.1 hu
      exact (hv.rule r hr).2.2.2.2 (h3.trans (e ▸ h4.symm))) hz l.length (Nat.le_refl _)
    rw [h2]
    have h3 := hfi.1; have h4 := hx.1
    have : (l.getD i default).toNat ≠ x.toNat := fun e => hm.2 (by omega)
    rw [set_getD this, ih]
theorem lw_done {b : Sheet} (hv : Valid b) {l : List Int} (hok : Ok b l) (hl : l.length = b.flaps.length) {i : Nat} (hi : i < l.length) :
    (lwAt b l (l.getD i default) (outAt b l i).1 i).set (l.getD i default).toNat ((lwAt b l (l.getD i default) (outAt b l i).1 i).getD (l.getD i default).toNat 0 + 1) = (outAt b l (i + 1)).1 ∧ max (outAt b l i).2 ((outAt b l (i + 1)).1.getD (l.getD i default).toNat 0) = (outAt b l (i + 1)).2 := by
  have hfi : inN b (l.getD i default) := hok.inN (getD_mem hi)
  have hz := out_zero hv hok hl i (by omega) _ hfi (hok i hi).2.1
  have hlen : (outAt b l i).1.length = b.flaps.length := by rw [outAt_len _ _ _ (by omega), hl]
  obtain ⟨v, _, h1, h2⟩ := in_form hfi (fun y hy => hok.inN hy) hlen (fun u hu e => by
      obtain ⟨_, r, hr, h3, h4⟩ := overP_iff.1 hu
      exact (hv.rule r hr).2.2.2.2 (h3.trans (e ▸ h4.symm))) hz i (by omega)
  have h3 := in_rest hok hi (outAt b l i).1 l.length (by omega) (Nat.le_refl _)
  have h4 := hfi.1; have h5 := hfi.2
  rw [outAt_succ hi]
  refine ⟨?_, rfl⟩
  simp only [outStep]
  rw [h3, h2, h1, set_self (by omega), List.set_set]
end Go.Proofs.YtpjhffockmnjbaaDoor
set_option linter.unusedVariables false
set_option linter.unusedSimpArgs false
namespace Go.Proofs.YtpjhffockmnjbaaDoor
/-- A number of a flap without another one, and back. -/
def dn (g x : Int) : Int := if g < x then x - 1 else x
def up (g x : Int) : Int := if x < g then x else x + 1
def dnR (g : Int) (r : Rule) : Rule := ⟨dn g r.over, dn g r.under⟩
def touches (g : Int) (r : Rule) : Bool := (r.over == g) || (r.under == g)
/-- The rules that are left without a flap. -/
def woR (b : Sheet) (g : Int) (n : Nat) : List Rule := ((b.rules.take n).filter fun r => !touches g r).map (dnR g)
def woB (b : Sheet) (g : Int) : Sheet := { b with flaps := b.flaps.take g.toNat ++ b.flaps.drop (g + 1).toNat, rules := woR b g b.rules.length }
theorem wo_yes {b : Sheet} {g : Int} {k : Nat} (hk : k < b.rules.length) (h : touches g (b.rules.getD k default) = false) : woR b g (k + 1) = woR b g k ++ [dnR g (b.rules.getD k default)] := by
  simp only [woR, take_succ_getD hk, List.filter_append, List.map_append, List.filter_cons, h]; rfl
theorem wo_no {b : Sheet} {g : Int} {k : Nat} (hk : k < b.rules.length) (h : touches g (b.rules.getD k default) = true) : woR b g (k + 1) = woR b g k := by
  simp only [woR, take_succ_getD hk, List.filter_append, List.map_append, List.filter_cons, h]; simp
theorem wo_le (b : Sheet) (g : Int) (n : Nat) : (woR b g n).length ≤ n := by
  have h1 := List.length_filter_le (fun r => !touches g r) (b.rules.take n)
  simp only [woR, List.length_map]
  simp only [List.length_take] at h1
  omega
theorem up_dn {g x : Int} (h : x ≠ g) : up g (dn g x) = x := by unfold up dn; split <;> split <;> omega
theorem dn_up (g x : Int) : dn g (up g x) = x := by unfold up dn; split <;> split <;> omega
theorem up_ne (g x : Int) : up g x ≠ g := by unfold up; split <;> omega
section
variable {b : Sheet} {g : Int}
theorem wo_len (hg : inN b g) : (woB b g).flaps.length + 1 = b.flaps.length := by
  have h0 := hg.1; have h1 := hg.2
  simp only [woB, List.length_append, List.length_take, List.length_drop]; omega
theorem wo_flap (hg : inN b g) {i : Int} (hi : inN (woB b g) i) : flapA (woB b g) i = flapA b (up g i) := by
  have h0 := hg.1; have h1 := hg.2; have h2 := hi.1; have h3 := hi.2; have h4 := wo_len hg
  unfold flapA
  simp only [woB]
  rw [List.getD_eq_getElem?_getD, List.getD_eq_getElem?_getD]
  congr 1
  unfold up
  by_cases h : i < g
  · rw [if_pos h, List.getElem?_append_left (by rw [List.length_take]; omega), List.getElem?_take, if_pos (by omega)]
  · rw [if_neg h, List.getElem?_append_right (by rw [List.length_take]; omega), List.getElem?_drop]
    congr 1
    rw [List.length_take]; omega
theorem up_in (hg : inN b g) {i : Int} (hi : inN (woB b g) i) : inN b (up g i) := by
  have h0 := hg.1; have h1 := hg.2; have h2 := hi.1; have h3 := hi.2; have h4 := wo_len hg
  unfold up inN; split <;> omega
theorem dn_in (hg : inN b g) {i : Int} (hi : inN b i) (hne : i ≠ g) : inN (woB b g) (dn g i) := by
  have h0 := hg.1; have h1 := hg.2; have h2 := hi.1; have h3 := hi.2; have h4 := wo_len hg
  unfold dn inN; split <;> omega
theorem wo_cell (hg : inN b g) {i j : Int} (hi : inN (woB b g) i) (hj : inN (woB b g) j) : cellN (woB b g) 2 i j = cellN b 2 (up g i) (up g j) := by
  have t1 : ∀ m, touchB (woB b g) i j m = touchB b (up g i) (up g j) m := by
    intro m; unfold touchB; rw [wo_flap hg hi, wo_flap hg hj]; rfl
  unfold cellN
  rw [t1, t1]
  by_cases e : i = j
  · subst e; simp
  · have : up g i ≠ up g j := fun h => e (by rw [← dn_up g i, ← dn_up g j, h])
    simp [e, this]
theorem mem_woR (r : Rule) : r ∈ (woB b g).rules ↔ ∃ s ∈ b.rules, touches g s = false ∧ r = dnR g s := by
  simp only [woB, woR, List.take_length, List.mem_map, List.mem_filter, Bool.not_eq_true']
  constructor
  · rintro ⟨s, ⟨h1, h2⟩, rfl⟩; exact ⟨s, h1, h2, rfl⟩
  · rintro ⟨s, h1, h2, rfl⟩; exact ⟨s, ⟨h1, h2⟩, rfl⟩
theorem wo_over (hv : Valid b) (hg : inN b g) {i j : Int} (hi : inN (woB b g) i) (hj : inN (woB b g) j) : overP (woB b g) i j = overP b (up g i) (up g j) := by
  rw [Bool.eq_iff_iff, overP_iff, overP_iff, wo_cell hg hi hj]
  constructor
  · rintro ⟨h1, r, hr, rfl, rfl⟩
    obtain ⟨s, hs, ht, rfl⟩ := (mem_woR r).1 hr
    simp only [touches, Bool.or_eq_false_iff, beq_eq_false_iff_ne, ne_eq] at ht
    exact ⟨h1, s, hs, (up_dn ht.1).symm, (up_dn ht.2).symm⟩
  · rintro ⟨h1, s, hs, h2, h3⟩
    refine ⟨h1, dnR g s, (mem_woR _).2 ⟨s, hs, ?_, rfl⟩, ?_, ?_⟩
    · simp only [touches, Bool.or_eq_false_iff, beq_eq_false_iff_ne, ne_eq]
      exact ⟨by rw [h2]; exact up_ne g i, by rw [h3]; exact up_ne g j⟩
    · show dn g s.over = i; rw [h2, dn_up]
    · show dn g s.under = j; rw [h3, dn_up]
theorem valid_wo (hv : Valid b) (hg : inN b g) (h2 : 2 ≤ b.flaps.length) : Valid (woB b g) := by
  have hm := hv.many
  have hl := wo_len hg
  refine ⟨hv.wide, hv.high, by omega, Nat.le_trans (wo_le b g _) hv.rules, fun x hx => ?_, fun r hr => ?_, ?_⟩
  · refine hv.flap x ?_
    simp only [woB, List.mem_append] at hx
    rcases hx with hx | hx
    · exact List.mem_of_mem_take hx
    · exact List.mem_of_mem_drop hx
  · obtain ⟨s, hs, ht, rfl⟩ := (mem_woR r).1 hr
    simp only [touches, Bool.or_eq_false_iff, beq_eq_false_iff_ne, ne_eq] at ht
    have hi := rule_in hv hs
    have e1 := dn_in hg hi.1 ht.1; have e2 := dn_in hg hi.2 ht.2
    refine ⟨e1.1, e1.2, e2.1, e2.2, fun e => (hv.rule s hs).2.2.2.2 ?_⟩
    rw [← up_dn ht.1, ← up_dn ht.2]
    exact congrArg (up g) e
  · refine distinct_iff.2 ?_
    simp only [woB, woR, List.take_length]
    have hn := (distinct_iff.1 hv.distinct).filter fun r => !touches g r
    rw [List.nodup_iff_pairwise_ne, List.pairwise_map]
    refine List.Pairwise.imp_of_mem (fun {r s} hr hs hne e => ?_) (List.nodup_iff_pairwise_ne.1 hn)
    have hr' := (List.mem_filter.1 hr).2; have hs' := (List.mem_filter.1 hs).2
    simp only [touches, Bool.not_eq_true', Bool.or_eq_false_iff, beq_eq_false_iff_ne, ne_eq] at hr' hs'
    apply hne
    have h1 := congrArg (fun r => up g r.over) e
    have h2 := congrArg (fun r => up g r.under) e
    simp only [dnR] at h1 h2
    rw [up_dn hr'.1, up_dn hs'.1] at h1
    rw [up_dn hr'.2, up_dn hs'.2] at h2
    cases r; cases s; simp_all
end
theorem valid_check {b : Sheet} (hv : Valid b) : checkB b = true := by
  have h1 := hv.wide; have h2 := hv.high; have h3 := hv.many; have h4 := hv.rules
  simp only [checkB, baseOK, Bool.and_eq_true, fitsB_iff, decide_eq_true_eq, List.all_eq_true, List.mem_range]
  refine ⟨⟨⟨⟨⟨h1, h2⟩, by omega⟩, by omega⟩, fun x hx => ?_⟩, fun i hi => ?_⟩
  · obtain ⟨s1, s2, s3, s4, s5, s6, s7, s8⟩ := hv.flap x hx
    unfold flapOK
    split <;> simp only [Bool.and_eq_true, fitsB_iff, spanB_iff] <;> omega
  · have hr := hv.rule _ (getD_mem (l := b.rules) (i := i) hi)
    simp only [ruleOK, Bool.and_eq_true, fitsB_iff, bne_iff_ne, Bool.not_eq_true', List.any_eq_false]
    refine ⟨⟨⟨⟨hr.1, by omega⟩, ⟨hr.2.2.1, by omega⟩⟩, hr.2.2.2.2⟩, fun s hs he => ?_⟩
    obtain ⟨j, hj, rfl⟩ := List.mem_take_iff_getElem.1 hs
    have hne := hv.distinct j i (by omega) hi
    rw [List.getD_eq_getElem?_getD (i := j), List.getElem?_eq_getElem (by omega), Option.getD_some] at hne
    simp only [sameR, Bool.and_eq_true, beq_iff_eq] at he
    apply hne
    have e1 := he.1; have e2 := he.2
    generalize b.rules.getD i default = x at e1 e2
    generalize b.rules[j] = y at e1 e2
    cases x; cases y; simp_all
/-! ### Counting -/
theorem fm_congr {α : Type} {F G : Nat → List α} : ∀ {l : List Nat}, (∀ i ∈ l, F i = G i) → l.flatMap F = l.flatMap G
  | [], _ => rfl
  | x :: l, h => by rw [List.flatMap_cons, List.flatMap_cons, h x (.head _), fm_congr fun i hi => h i (.tail _ hi)]
theorem fm_skip {α : Type} {F : Nat → List α} {g m : Nat} (hg : g ≤ m) (h0 : F g = []) : (List.range (m + 1)).flatMap F = (List.range m).flatMap fun i => F (if i < g then i else i + 1) := by
  have e1 : List.range (m + 1) = List.range g ++ g :: (List.range (m - g)).map (fun i => g + 1 + i) := by
    rw [show m + 1 = g + (1 + (m - g)) by omega, List.range_add, List.range_add]
    simp [Function.comp_def, Nat.add_assoc]
  have e2 : List.range m = List.range g ++ (List.range (m - g)).map (fun i => g + i) := by
    rw [show m = g + (m - g) by omega, List.range_add]; simp
  rw [e1, e2, List.flatMap_append, List.flatMap_append, List.flatMap_cons, h0, List.nil_append, List.flatMap_map, List.flatMap_map]
  congr 1
  · apply fm_congr
    intro i hi
    rw [if_pos (List.mem_range.1 hi)]
  · apply fm_congr
    intro i _
    rw [if_neg (by omega), show g + 1 + i = g + i + 1 by omega]
theorem ords_wo {b : Sheet} (hv : Valid b) {g : Int} (hg : inN b g) (h2 : 2 ≤ b.flaps.length) : ∀ (k : Nat) (p d p' d' : _), Mk d p → Mk d' p' → (∀ x, inN b x → (x ∈ p ↔ x = g ∨ (x ≠ g ∧ dn g x ∈ p'))) → (ordsP b k p d).length = (ordsP (woB b g) k p' d').length
  | 0, p, d, p', d', _, _, _ => by simp [ordsP]
  | k + 1, p, d, p', d', hd, hd', hp => by
    have hm := hv.many; have hl := wo_len hg; have hv' := valid_wo hv hg h2
    have g0 := hg.1; have g1 := hg.2
    simp only [ordsP]
    rw [show b.flaps.length = (woB b g).flaps.length + 1 by omega, fm_skip (g := g.toNat) (by omega) (by
      have hgm : g ∈ p := (hp g hg).2 (.inl rfl)
      have := hd.2 g.toNat (by omega)
      rw [show ((g.toNat : Nat) : Int) = g by omega, decide_eq_true hgm] at this
      simp only [ordStepP, this, Bool.true_or, if_true])]
    rw [List.length_flatMap, List.length_flatMap]
    congr 1
    apply List.map_congr_left
    intro i hi
    have hi' := List.mem_range.1 hi
    have hin : inN (woB b g) ((i : Nat) : Int) := ⟨by omega, by omega⟩
    obtain ⟨j, hj⟩ : ∃ j, j = if i < g.toNat then i else i + 1 := ⟨_, rfl⟩
    rw [← hj]
    have hju : ((j : Nat) : Int) = up g ((i : Nat) : Int) := by
      unfold up; rw [hj]; split <;> split <;> omega
    have hjn : inN b ((j : Nat) : Int) := by rw [hju]; exact up_in hg hin
    have hjlt : j < b.flaps.length := by have := hjn.2; omega
    have hjg : ((j : Nat) : Int) ≠ g := by rw [hju]; exact up_ne g _
    have hnext : Next b p ((j : Nat) : Int) ↔ Next (woB b g) p' ((i : Nat) : Int) := by
      unfold Next
      constructor
      · rintro ⟨_, h1, h3⟩
        refine ⟨hin, fun hm => h1 ((hp _ hjn).2 (.inr ⟨hjg, by rw [hju, dn_up]; exact hm⟩)), fun u hu => ?_⟩
        have hun : inN (woB b g) u := by
          obtain ⟨_, r, hr, _, h5⟩ := overP_iff.1 hu
          exact h5 ▸ (rule_in hv' hr).2
        rw [wo_over hv hg hin hun, ← hju] at hu
        rcases (hp _ (up_in hg hun)).1 (h3 _ hu) with h | h
        · exact absurd h (up_ne g u)
        · rw [dn_up] at h; exact h.2
      · rintro ⟨_, h1, h3⟩
        refine ⟨hjn, fun hm => ?_, fun u hu => ?_⟩
        · rcases (hp _ hjn).1 hm with h | h
          · exact hjg h
          · rw [hju, dn_up] at h; exact h1 h.2
        · have hun : inN b u := by
            obtain ⟨_, r, hr, _, h5⟩ := overP_iff.1 hu
            exact h5 ▸ (rule_in hv hr).2
          by_cases e : u = g
          · exact (hp u hun).2 (.inl e)
          · refine (hp u hun).2 (.inr ⟨e, h3 _ ?_⟩)
            rw [wo_over hv hg hin (dn_in hg hun e), up_dn e, ← hju]; exact hu
    have s1 := step_iff hv hd hjlt
    have s2 := step_iff hv' hd' (i := i) hi'
    unfold ordStepP
    by_cases hn : Next b p ((j : Nat) : Int)
    · rw [if_neg (by rw [s1.2 hn]; decide), if_neg (by rw [s2.2 (hnext.1 hn)]; decide)]
      refine ords_wo hv hg h2 k _ _ _ _ (mk_snoc hd (by omega)) (mk_snoc hd' (by omega)) fun x hx => ?_
      simp only [List.mem_append, List.mem_singleton]
      rw [hp x hx]
      constructor
      · rintro ((h | h) | h)
        · exact .inl h
        · exact .inr ⟨h.1, .inl h.2⟩
        · exact .inr ⟨by rw [h]; exact hjg, .inr (by rw [h, hju, dn_up])⟩
      · rintro (h | ⟨h3, h4 | h4⟩)
        · exact .inl (.inl h)
        · exact .inl (.inr ⟨h3, h4⟩)
        · exact .inr (by rw [hju, ← h4, up_dn h3])
    · rw [if_pos (by cases hc : (d.getD j false || stopP b d ((j : Nat) : Int)) with | true => rfl | false => exact absurd (s1.1 hc) hn), if_pos (by cases hc : (d'.getD i false || stopP (woB b g) d' ((i : Nat) : Int)) with | true => rfl | false => exact absurd (hnext.2 (s2.1 hc)) hn)]
def firstB (b : Sheet) (i : Nat) : Bool := (List.range b.flaps.length).all fun k => !overP b (i : Nat) (k : Nat)
def cntAt (b : Sheet) (i : Nat) : Nat := if firstB b i = true then (allO (woB b (i : Nat))).length else 0
theorem sum_range_succ (f : Nat → Nat) (n : Nat) : ((List.range (n + 1)).map f).sum = ((List.range n).map f).sum + f n := by
  rw [List.range_succ, List.map_append, List.sum_append]; simp
theorem first_iff {b : Sheet} (hv : Valid b) {i : Nat} (hi : i < b.flaps.length) : firstB b i = true ↔ Next b [] ((i : Nat) : Int) := by
  simp only [firstB, List.all_eq_true, List.mem_range, Bool.not_eq_true', Next, List.not_mem_nil, not_false_eq_true, true_and]
  constructor
  · intro h
    refine ⟨⟨by omega, by omega⟩, fun u hu => ?_⟩
    obtain ⟨_, r, hr, _, h5⟩ := overP_iff.1 hu
    have hn := (rule_in hv hr).2
    rw [h5] at hn
    have h0 := hn.1; have h1 := hn.2
    have := h u.toNat (by omega)
    rw [show ((u.toNat : Nat) : Int) = u by omega, hu] at this; cases this
  · rintro ⟨_, h⟩ k hk
    cases ho : overP b ((i : Nat) : Int) ((k : Nat) : Int) with
    | false => rfl
    | true => exact (h _ ho).elim
theorem count_sum {b : Sheet} (hv : Valid b) (h2 : 2 ≤ b.flaps.length) : (allO b).length = ((List.range b.flaps.length).map (cntAt b)).sum := by
  have hm := hv.many
  unfold allO
  obtain ⟨m, hm'⟩ : ∃ m, b.flaps.length = m + 1 := ⟨b.flaps.length - 1, by omega⟩
  have e : ordsP b b.flaps.length [] (List.replicate 7 false) = (List.range b.flaps.length).flatMap (ordStepP b [] (List.replicate 7 false) (ordsP b m)) := by
    conv => lhs; rw [show ordsP b b.flaps.length = ordsP b (m + 1) by rw [hm']]
    rfl
  rw [e, List.length_flatMap]
  congr 1
  apply List.map_congr_left
  intro i hi
  have hi' := List.mem_range.1 hi
  have s1 := step_iff hv mk_nil hi'
  have hin : inN b ((i : Nat) : Int) := ⟨by omega, by omega⟩
  have hl := wo_len hin
  unfold ordStepP cntAt
  by_cases hf : firstB b i = true
  · rw [if_pos hf, if_neg (by rw [s1.2 ((first_iff hv hi').1 hf)]; decide)]
    unfold allO
    rw [show (woB b ((i : Nat) : Int)).flaps.length = m by omega]
    refine ords_wo hv hin h2 m _ _ _ _ (mk_snoc mk_nil (by omega)) mk_nil fun x hx => ?_
    simp
  · rw [if_neg hf, if_pos (by
      cases hc : ((List.replicate 7 false).getD i false || stopP b (List.replicate 7 false) ((i : Nat) : Int)) with
      | true => rfl
      | false => exact absurd ((first_iff hv hi').2 (s1.1 hc)) hf)]
    rfl
end Go.Proofs.YtpjhffockmnjbaaDoor
set_option linter.unusedVariables false
set_option linter.unusedSimpArgs false
namespace Go.Proofs.YtpjhffockmnjbaaDoor
/-- A row that is handed back: in new memory. -/
def OutG {α : Type} (enc : α → List Value) (sz : Nat) (l : List α) (A : Option Addr) (c : Nat) (w w' : World) : Prop := l.length ≤ c ∧ Rd enc sz A l.length l w' ∧ ∀ b o, A = some ⟨b, o, none⟩ → w.heap.size ≤ b
theorem OutG.fresh {α : Type} {enc : α → List Value} {sz : Nat} {l : List α} {A : Option Addr} {c : Nat} {w w' : World} (h : OutG enc sz l A c w w') : Fresh w w' (Rd enc sz A l.length l) :=
  fresh_of (h.2.1.stable fun bk off e hm => by
    have := h.2.2 bk off e
    simp at hm
    omega)
theorem shFresh {b : Sheet} {fA rA : Option Addr} {fc rc : Nat} {w w' : World} (h1 : OutG encF 5 b.flaps fA fc w w') (h2 : OutG encR 2 b.rules rA rc w w') : Fresh w w' (ShIn b fA fc rA rc) :=
  fun w'' hs hb => ⟨h1.fresh w'' hs hb, h2.fresh w'' hs hb, h1.1, h2.1⟩
/-- The rules that a list does not name. -/
def unR (b : Sheet) (l : List Int) (n : Nat) : List Rule := ((List.range n).filter fun k => !decide (((k : Nat) : Int) ∈ l)).map fun k => b.rules.getD k default
def unB (b : Sheet) (l : List Int) : Sheet := { b with rules := unR b l b.rules.length }
theorem un_yes {b : Sheet} {l : List Int} {k : Nat} (h : ((k : Nat) : Int) ∉ l) : unR b l (k + 1) = unR b l k ++ [b.rules.getD k default] := by
  simp [unR, List.range_succ, h]
theorem un_no {b : Sheet} {l : List Int} {k : Nat} (h : ((k : Nat) : Int) ∈ l) : unR b l (k + 1) = unR b l k := by
  simp [unR, List.range_succ, h]
theorem un_le (b : Sheet) (l : List Int) (n : Nat) : (unR b l n).length ≤ n := by
  have := List.length_filter_le (fun k : Nat => !decide (((k : Nat) : Int) ∈ l)) (List.range n)
  simpa [unR] using this
theorem un_sub (b : Sheet) (l : List Int) : (unR b l b.rules.length).Sublist b.rules := by
  have h := (List.filter_sublist (p := fun k : Nat => !decide (((k : Nat) : Int) ∈ l)) (l := List.range b.rules.length)).map fun k => b.rules.getD k default
  rwa [map_getD] at h
theorem valid_un {b : Sheet} (hv : Valid b) (l : List Int) : Valid (unB b l) := valid_sub hv (un_sub b l)
theorem first_succ (b : Sheet) (i k : Nat) : ((List.range k).all (fun q => !overP b ((i : Nat) : Int) ((q : Nat) : Int)) && !overP b ((i : Nat) : Int) ((k : Nat) : Int)) = (List.range (k + 1)).all fun q => !overP b ((i : Nat) : Int) ((q : Nat) : Int) := by
  rw [List.range_succ, List.all_append]; simp
theorem cntAt_le {b : Sheet} (hv : Valid b) (h2 : 2 ≤ b.flaps.length) {i : Nat} (hi : i < b.flaps.length) : cntAt b i ≤ 823543 := by
  unfold cntAt
  split
  · exact allO_le (valid_wo hv ⟨by omega, by omega⟩ h2)
  · omega
theorem sum_le {b : Sheet} (hv : Valid b) (h2 : 2 ≤ b.flaps.length) : ∀ i, i ≤ b.flaps.length → ((List.range i).map (cntAt b)).sum ≤ i * 823543
  | 0, _ => by simp
  | i + 1, h => by
    have h1 := sum_le hv h2 i (by omega)
    have h3 := cntAt_le hv h2 (i := i) (by omega)
    rw [sum_range_succ]; omega
theorem count_valid {b : Sheet} (hv : Valid b) : countP b = ((((allO b).length : Nat) : Int), 0) := by
  have : askE b true = 0 := by simp [askE, valid_check hv]
  simp [countP, this]
theorem count_one {b : Sheet} (hv : Valid b) (h : b.flaps.length = 1) : (allO b).length = 1 := by
  have hno : ∀ s, ¬ Ring b s := fun s hs => by have := ring_le hs; have := hs.two; omega
  have hne := (folds_iff hv).2 hno
  have h1 : (allO b).length ≤ 1 := by
    have := ordsP_len b b.flaps.length [] (List.replicate 7 false)
    rw [h] at this
    unfold allO
    rw [h]
    simpa using this
  have h2 := List.length_pos_iff.2 hne
  omega
end Go.Proofs.YtpjhffockmnjbaaDoor
set_option linter.unusedVariables false
set_option linter.unusedSimpArgs false
namespace Go.Proofs.YtpjhffockmnjbaaDoor
open Go.RowKit
theorem c_without (b : Sheet) (fA : Option Addr) (fc : Nat) (rA : Option Addr) (rc : Nat) (g : Int) (hv : Valid b) (hg : inN b g) (w0 : World) (h : ShIn b fA fc rA rc w0) :
    Calls Tryd.prog 46 #[.agg #[.int .i64 b.wide, .int .i64 b.high, .slice fA b.flaps.length fc, .slice rA b.rules.length rc], .int .i64 g] w0 (RetX w0 (fun v w0' => ∃ fA2 fc2 rA2 rc2, v = .agg #[.int .i64 b.wide, .int .i64 b.high, .slice fA2 (woB b g).flaps.length fc2, .slice rA2 (woB b g).rules.length rc2] ∧ OutG encF 5 (woB b g).flaps fA2 fc2 w0 w0' ∧ OutG encR 2 (woB b g).rules rA2 rc2 w0 w0')) := by
  refine c_enter (n := 68) Tryd.func46 rfl rfl (Nat.le_of_ble_eq_true rfl) ?_; intro a hf; simp only [zipR] at hf
  have hs := St.start w0 [Rd encF 5 fA b.flaps.length b.flaps, Rd encR 2 rA b.rules.length b.rules] h.stab
  have hfm := h.F.2.1; have hrm := h.R.2.1
  have hmany := hv.many; have hrl := hv.rules; have hg0 := hg.1; have hg1 := hg.2
  refine c_reg ?_
  refine vL hf (v_boxA hf hs rfl) (by decide) ?_; clear hs hf a; rintro _ w ⟨b1, rfl, hs⟩ a hf
  refine vL hf (v_alloc hs T25 rfl) (by decide) ?_; clear hs hf a; rintro _ w ⟨b2, rfl, hs⟩ a hf
  refine e_nil ?_
  refine c_reg ?_
  refine gL hf (g_ldW hf hs T25 rfl (k := 1) rfl rfl) (by decide) ?_; clear hf a; intro a hf
  refine vL hf (v_alloc hs T25 rfl) (by decide) ?_; clear hs hf a; rintro _ w ⟨b3, rfl, hs⟩ a hf
  refine uL (u_stW hf hs T25 rfl rfl rfl (k := 0) rfl rfl rfl) ?_; clear hs; intro w hs; dsimp only [List.set] at hs
  refine e_nil ?_
  refine c_draw _ 16 Mx rfl hs (fun _ h => h.sub (.cons _ (.refl _))) ?_; intro w hs hS
  refine gA hf hS (i := 1) rfl (by kernel_rfl) (fun w hs => g_fa (off' := 2) hf F25_2 rfl rfl) (by decide) ?_; clear hf a; intro a hf
  refine gA hf hS (i := 2) rfl (by kernel_rfl) (fun w hs => g_ld hf hs T22 rfl (k := 1) rfl rfl) (by decide) ?_; clear hf a; intro a hf
  refine gA hf hS (i := 3) rfl (by kernel_rfl) (fun w hs => g_mv hf rfl) (by decide) ?_; clear hf a; intro a hf
  refine gA hf hS (i := 4) rfl (by kernel_rfl) (fun w hs => g_slH hf SL22 rfl rfl (by have := h.fc_; omega)) (by decide) ?_; clear hf a; intro a hf
  refine gA hf hS (i := 6) rfl (by kernel_rfl) (fun w hs => g_fa (off' := 2) hf F25_2 rfl rfl) (by decide) ?_; clear hf a; intro a hf
  refine gA hf hS (i := 7) rfl (by kernel_rfl) (fun w hs => g_ld hf hs T22 rfl (k := 1) rfl rfl) (by decide) ?_; clear hf a; intro a hf
  refine gA hf hS (i := 8) rfl (by kernel_rfl) (fun w hs => g_mv hf rfl) (by decide) ?_; clear hf a; intro a hf
  refine gA hf hS (i := 9) rfl (by kernel_rfl) (fun w hs => g_addI hf rfl rfl (by omega)) (by decide) ?_; clear hf a; intro a hf
  refine gA hf hS (i := 10) rfl (by kernel_rfl) (fun w hs => g_slL hf SL22 rfl rfl (by omega)) (by decide) ?_; clear hf a; intro a hf
  refine one (i := 0) (by kernel_rfl) ?_
  refine oV hf rfl (v_lits (len := 0) hf hs SL22 T49 .nil rfl rfl rfl rfl (by decide) rfl) (by decide) (fun _ _ ⟨_, _, h⟩ => h.sub (.cons _ (.cons _ (.refl _)))) ?_; clear hs hf hS a; rintro _ w ⟨b4, rfl, hs⟩ hS a hf
  refine one (i := 5) (by kernel_rfl) ?_
  refine oV hf rfl (v_accN (e := 49) (o := some (b4, #[])) (l := []) (l' := b.flaps.take g.toNat) (len := 0) hf 0 hs rfl ⟨0, rfl, Nat.le_refl _, by omega, rfl⟩ AP22 (enc := encF) (fun _ => rfl) (by decide) (by intro x v hv9; simp only [encF, List.mem_cons, List.not_mem_nil, or_false] at hv9; rcases hv9 with rfl | rfl | rfl | rfl | rfl <;> rfl) rfl rfl rfl ((hs.rd (.head _)).take _ (by omega)) (by omega) (by decide)) (by decide) (fun _ _ ⟨_, _, _, h⟩ => h.sub ((List.Sublist.cons _ (.refl _)).trans (List.sublist_append_right _ _))) ?_; clear hs hf hS a; rintro _ w ⟨o1, rfl, ho1, hs⟩ hS a hf; dsimp only [List.take, List.nil_append] at hs
  refine one (i := 11) (by kernel_rfl) ?_
  refine oV hf rfl (v_accN (e := 49) (o := o1) (l := [] ++ b.flaps.take g.toNat) (l' := b.flaps.drop (g + 1).toNat) hf 0 hs rfl ho1 AP22 (enc := encF) (fun _ => rfl) (by decide) (by intro x v hv9; simp only [encF, List.mem_cons, List.not_mem_nil, or_false] at hv9; rcases hv9 with rfl | rfl | rfl | rfl | rfl <;> rfl) (by simp; omega) rfl rfl ((hs.rd (.head _)).drop _ (by omega) h.fc_) (by omega) (by decide)) (by decide) (fun _ _ ⟨_, _, _, h⟩ => h.sub ((List.Sublist.cons _ (.refl _)).trans (List.sublist_append_right _ _))) ?_; clear hs hf hS a; rintro _ w ⟨o2, rfl, ho2, hs⟩ hS a hf; dsimp only [List.take, List.nil_append] at hs
  replace hs := hs.swapN (X := accH 49 o2) 0 rfl; dsimp only [List.take, List.cons_append, List.nil_append] at hs
  refine gA hf hS (i := 12) rfl (by kernel_rfl) (fun w hs => g_fa (off' := 2) hf F25_2 rfl rfl) (by decide) ?_; clear hf a; intro a hf
  refine one (i := 13) (by kernel_rfl) ?_
  refine oU rfl (u_st hf hs T22 rfl rfl (plain_acc _ _ _) (k := 0) rfl (Nat.le_of_ble_eq_true rfl)) (fun _ h => h.sub (.cons _ (.cons_cons _ (.cons_cons _ (List.nil_sublist _))))) ?_; clear hs hS; intro w hs hS; dsimp only [List.set] at hs
  refine gA hf hS (i := 14) rfl (by kernel_rfl) (fun w hs => g_fa (off' := 3) hf F25_3 rfl rfl) (by decide) ?_; clear hf a; intro a hf
  refine one (i := 15) (by kernel_rfl) ?_
  refine oU rfl (u_st hf hs T23 rfl rfl rfl (k := 0) rfl (Nat.le_of_ble_eq_true rfl)) (fun _ h => h.sub (.cons _ (.cons_cons _ (.cons_cons _ (List.nil_sublist _))))) ?_; clear hs hS; intro w hs hS; dsimp only [List.set] at hs
  refine e_done (by kernel_rfl) ?_
  refine wp_seq ?_
  refine c_reg ?_
  refine gL hf (g_as hf rfl) (by decide) ?_; clear hf a; intro a hf
  refine e_nil ?_
  refine c_block ?_
  rw [show 0 + g.toNat + (b.flaps.length - (g + 1).toNat) = ([] ++ b.flaps.take g.toNat ++ b.flaps.drop (g + 1).toNat).length by simp only [List.length_append, List.length_nil, List.length_take, List.length_drop]; omega] at hs
  have hn1 : ∀ q, o2 = some q → w0.heap.size ≤ q.1 := fun q e => by subst e; exact (hs.own _ _ (.tail _ (.tail _ (.tail _ (.head _))))).1
  obtain ⟨A2, c2, e2, hl2, hs⟩ := hs.freeze (R := []) (e := 49) (o := o2) (enc := encF) (sz := 5) 3 (by simp) ho2 (fun _ => rfl) (by decide)
  have hA2 := acc_new hn1 e2
  dsimp only [List.take, List.cons_append, List.nil_append, List.append_nil] at hs e2 hl2
  rw [e2] at hs
  refine c_loop hf hs (List.range' 6 2 ++ List.range' 23 44) (σ := (Nat × Acc)) (fun s => [(6, .int .i64 (s.1 : Nat))]) (fun s => (b3, .cells #[.int .i64 b.wide, .int .i64 b.high, .slice A2 (b.flaps.take g.toNat ++ b.flaps.drop (g + 1).toNat).length c2, accV 2 (woR b g s.1).length s.2] 25 (0, 0)) :: (b2, .cells #[.int .i64 0, .int .i64 0, .slice none 0 0, .slice none 0 0] 25 (0, 0)) :: (b1, .cells #[.int .i64 b.wide, .int .i64 b.high, .slice fA b.flaps.length fc, .slice rA b.rules.length rc] 25 (0, 0)) :: accH 64 s.2) (fun s => s.1 ≤ b.rules.length ∧ AccOK encR 2 (woR b g s.1) s.2) (fun s => b.rules.length - s.1) (0, none) ⟨Nat.zero_le _, rfl⟩ (.cons rfl .nil) rfl ?_
  intro ⟨k, oy⟩ a w hJ hf hs
  dsimp only at hJ hf hs
  obtain ⟨hk, hoy⟩ := hJ
  have hwl := wo_le b g k
  refine wp_seq ?_
  refine c_reg ?_
  refine gL hf (g_mv hf rfl) (by decide) ?_; clear hf a; intro a hf
  refine gL hf (g_fa (off' := 3) hf F25_3 rfl rfl) (by decide) ?_; clear hf a; intro a hf
  refine gL hf (g_ld hf hs T23 rfl (k := 2) rfl rfl) (by decide) ?_; clear hf a; intro a hf
  refine gL hf (g_len hf SL23 rfl) (by decide) ?_; clear hf a; intro a hf
  refine gL hf (g_lss hf rfl rfl) (by decide) ?_; clear hf a; intro a hf
  refine e_nil ?_
  refine c_cond hf rfl (fun hc1 => ?_) (fun hc1 => ?_)
  · try simp only [decide_eq_true_eq, decide_eq_false_iff_not] at hc1
    have hru := hv.rule _ (getD_mem (l := b.rules) (i := k) (by omega))
    refine c_skip (q_thenN ?_)
    refine c_blockS ?_
    refine c_reg ?_
    refine gL hf (g_fa (off' := 3) hf F25_3 rfl rfl) (by decide) ?_; clear hf a; intro a hf
    refine gL hf (g_ld hf hs T23 rfl (k := 2) rfl rfl) (by decide) ?_; clear hf a; intro a hf
    refine gL hf (g_mv hf rfl) (by decide) ?_; clear hf a; intro a hf
    (first | (refine gL hf (g_ixE hf hs (.tail _ (.tail _ (.head _))) SL23 rfl rfl (by omega)) (by decide) ?_) | (refine gL hf (g_ixD hf hs (.tail _ (.tail _ (.head _))) SL23 rfl rfl (by omega)) (by decide) ?_)); clear hf a; intro a hf
    refine gL hf (g_ldEW hf hs (.tail _ (.tail _ (.head _))) T64 rfl rfl (by omega)) (by decide) ?_; clear hf a; intro a hf
    refine vL hf (v_alloc hs T64 rfl) (by decide) ?_; clear hs hf a; rintro _ w ⟨b5, rfl, hs⟩ a hf
    refine uL (u_stW hf hs T64 rfl rfl rfl (k := 0) rfl rfl rfl) ?_; clear hs; intro w hs; dsimp only [List.set] at hs
    refine e_nil ?_
    refine wp_seq ?_
    refine c_reg ?_
    refine gL hf (g_fa (off' := 0) hf F64_0 rfl rfl) (by decide) ?_; clear hf a; intro a hf
    refine gL hf (g_ld hf hs T3 rfl (k := 0) rfl rfl) (by decide) ?_; clear hf a; intro a hf
    refine gL hf (g_mv hf rfl) (by decide) ?_; clear hf a; intro a hf
    refine gL hf (g_eql hf rfl rfl) (by decide) ?_; clear hf a; intro a hf
    refine gL hf (g_mv hf rfl) (by decide) ?_; clear hf a; intro a hf
    refine ggL hf rfl rfl (gyes_f _) (fun hg => g_fa (off' := 1) hf F64_1 rfl rfl) (by decide) ?_; clear hf a; intro a hf
    refine ggL hf rfl rfl (gyes_f _) (fun hg => g_ld hf hs T3 (ev_gv rfl hg) (k := 0) rfl rfl) (by decide) ?_; clear hf a; intro a hf
    refine ggL hf rfl rfl (gyes_f _) (fun hg => g_mv hf rfl) (by decide) ?_; clear hf a; intro a hf
    refine ggL hf rfl rfl (gyes_f _) (fun hg => g_eql hf (ev_gv rfl hg) (ev_gv rfl hg)) (by decide) ?_; clear hf a; intro a hf
    refine gL hf (g_or hf rfl rfl) (by decide) ?_; clear hf a; intro a hf
    refine e_nil ?_
    refine c_cond hf rfl (fun hc2 => ?_) (fun hc2 => ?_)
    · skip
      have htc : (touches g (b.rules.getD k default)) = true := hc2
      refine c_exit (q_thenX (q_blkX (q_thenN ?_)))
      refine c_reg1 ?_
      refine gL hf (g_mv hf rfl) (by decide) ?_; clear hf a; intro a hf
      refine gL hf (g_addI hf rfl rfl (by omega)) (by decide) ?_; clear hf a; intro a hf
      refine gL hf (g_as hf rfl) (by decide) ?_; clear hf a; intro a hf
      refine e_nil1 (q_thenN ?_)
      first | exact ⟨(k + 1, oy2), ⟨by dsimp only; omega, hoy2⟩, (by dsimp only; omega), hf.back (by repeat (first | (with_reducible exact Ext.base) | ((with_reducible refine Ext.cons ?_ ?_); (· rfl)) | ((with_reducible refine Ext.over ?_ ?_ ?_); (· rfl); (· rfl)))) (allKeys rfl) (.cons rfl .nil), (by first | exact hs.dropN 2 | (rw [← wo_no (by omega) htc] at hs; exact hs.dropN 1))⟩ | exact ⟨(k + 1, oy), ⟨by dsimp only; omega, by dsimp only; rw [wo_no (by omega) htc]; exact hoy⟩, (by dsimp only; omega), hf.back (by repeat (first | (with_reducible exact Ext.base) | ((with_reducible refine Ext.cons ?_ ?_); (· rfl)) | ((with_reducible refine Ext.over ?_ ?_ ?_); (· rfl); (· rfl)))) (allKeys rfl) (.cons rfl .nil), (by first | exact hs.dropN 2 | (rw [← wo_no (by omega) htc] at hs; exact hs.dropN 1))⟩
    · skip
      have htc : (touches g (b.rules.getD k default)) = false := hc2
      refine c_skip (q_thenN ?_)
      refine wp_seq ?_
      refine c_reg ?_
      refine gL hf (g_fa (off' := 0) hf F64_0 rfl rfl) (by decide) ?_; clear hf a; intro a hf
      refine gL hf (g_ld hf hs T3 rfl (k := 0) rfl rfl) (by decide) ?_; clear hf a; intro a hf
      refine gL hf (g_mv hf rfl) (by decide) ?_; clear hf a; intro a hf
      refine gL hf (g_gtr hf rfl rfl) (by decide) ?_; clear hf a; intro a hf
      refine e_nil ?_
      refine c_cond hf rfl (fun hc3 => ?_) (fun hc3 => ?_)
      · try simp only [decide_eq_true_eq, decide_eq_false_iff_not] at hc3
        refine c_reg1 ?_
        refine gL hf (g_fa (off' := 0) hf F64_0 rfl rfl) (by decide) ?_; clear hf a; intro a hf
        refine gL hf (g_ld hf hs T3 rfl (k := 0) rfl rfl) (by decide) ?_; clear hf a; intro a hf
        refine gL hf (g_subI hf rfl rfl (by omega)) (by decide) ?_; clear hf a; intro a hf
        refine gL hf (g_fa (off' := 0) hf F64_0 rfl rfl) (by decide) ?_; clear hf a; intro a hf
        refine uL (u_st hf hs T3 rfl rfl rfl (k := 0) rfl (Nat.le_of_ble_eq_true rfl)) ?_; clear hs; intro w hs; dsimp only [List.set] at hs
        refine e_nil1 (q_thenN ?_)
        refine wp_seq ?_
        refine c_reg ?_
        refine gL hf (g_fa (off' := 1) hf F64_1 rfl rfl) (by decide) ?_; clear hf a; intro a hf
        refine gL hf (g_ld hf hs T3 rfl (k := 0) rfl rfl) (by decide) ?_; clear hf a; intro a hf
        refine gL hf (g_mv hf rfl) (by decide) ?_; clear hf a; intro a hf
        refine gL hf (g_gtr hf rfl rfl) (by decide) ?_; clear hf a; intro a hf
        refine e_nil ?_
        refine c_cond hf rfl (fun hc4 => ?_) (fun hc4 => ?_)
        · try simp only [decide_eq_true_eq, decide_eq_false_iff_not] at hc4
          refine c_reg1 ?_
          refine gL hf (g_fa (off' := 1) hf F64_1 rfl rfl) (by decide) ?_; clear hf a; intro a hf
          refine gL hf (g_ld hf hs T3 rfl (k := 0) rfl rfl) (by decide) ?_; clear hf a; intro a hf
          refine gL hf (g_subI hf rfl rfl (by omega)) (by decide) ?_; clear hf a; intro a hf
          refine gL hf (g_fa (off' := 1) hf F64_1 rfl rfl) (by decide) ?_; clear hf a; intro a hf
          refine uL (u_st hf hs T3 rfl rfl rfl (k := 0) rfl (Nat.le_of_ble_eq_true rfl)) ?_; clear hs; intro w hs; dsimp only [List.set] at hs
          refine e_nil1 (q_thenN ?_)
          refine c_reg1 ?_
          refine gL hf (g_fa (off' := 3) hf F25_3 rfl rfl) (by decide) ?_; clear hf a; intro a hf
          refine gL hf (g_ld hf hs T23 rfl (k := 1) rfl rfl) (by decide) ?_; clear hf a; intro a hf
          refine gL hf (g_ldW hf hs T64 rfl (k := 0) rfl rfl) (by decide) ?_; clear hf a; intro a hf
          refine vL hf (v_lits (len := 1) hf hs SL23 T64 (.cons rfl .nil) rfl rfl rfl rfl (by decide) rfl) (by decide) ?_; clear hs hf a; rintro _ w ⟨b6, rfl, hs⟩ a hf
          refine vL hf (v_accN (e := 64) (R := []) (o := oy) hf 5 hs (by simp) hoy AP23 (enc := encR) (l := woR b g k) (l' := [dnR g (b.rules.getD k default)]) (fun _ => rfl) (by decide) (by intro x v hv9; simp only [encR, List.mem_cons, List.not_mem_nil, or_false] at hv9; rcases hv9 with rfl | rfl <;> rfl) rfl rfl rfl (rd_single (enc := encR) (by simp only [encR, dnR, dn]; (repeat (first | rw [if_pos (by assumption)] | rw [if_neg (by assumption)])); rfl) (hs.own _ _ (.head _)).2) (by omega) (by decide)) (by decide) ?_; clear hs hf a; rintro _ w ⟨oy2, rfl, hoy2, hs⟩ a hf; dsimp only [List.take, List.cons_append, List.nil_append] at hs; rw [List.append_nil] at hs
          rw [show (woR b g k).length + 1 = (woR b g (k + 1)).length by rw [wo_yes (by omega) htc, List.length_append]; rfl] at hf; rw [← wo_yes (by omega) htc] at hoy2
          refine gL hf (g_fa (off' := 3) hf F25_3 rfl rfl) (by decide) ?_; clear hf a; intro a hf
          refine uL (u_st hf hs T23 rfl rfl (plain_acc _ _ _) (k := 2) rfl (Nat.le_of_ble_eq_true rfl)) ?_; clear hs; intro w hs; dsimp only [List.set] at hs
          refine e_nil1 (q_blkN (q_thenN ?_))
          refine c_reg1 ?_
          refine gL hf (g_mv hf rfl) (by decide) ?_; clear hf a; intro a hf
          refine gL hf (g_addI hf rfl rfl (by omega)) (by decide) ?_; clear hf a; intro a hf
          refine gL hf (g_as hf rfl) (by decide) ?_; clear hf a; intro a hf
          refine e_nil1 (q_thenN ?_)
          first | exact ⟨(k + 1, oy2), ⟨by dsimp only; omega, hoy2⟩, (by dsimp only; omega), hf.back (by repeat (first | (with_reducible exact Ext.base) | ((with_reducible refine Ext.cons ?_ ?_); (· rfl)) | ((with_reducible refine Ext.over ?_ ?_ ?_); (· rfl); (· rfl)))) (allKeys rfl) (.cons rfl .nil), (by first | exact hs.dropN 2 | (rw [← wo_no (by omega) htc] at hs; exact hs.dropN 1))⟩ | exact ⟨(k + 1, oy), ⟨by dsimp only; omega, by dsimp only; rw [wo_no (by omega) htc]; exact hoy⟩, (by dsimp only; omega), hf.back (by repeat (first | (with_reducible exact Ext.base) | ((with_reducible refine Ext.cons ?_ ?_); (· rfl)) | ((with_reducible refine Ext.over ?_ ?_ ?_); (· rfl); (· rfl)))) (allKeys rfl) (.cons rfl .nil), (by first | exact hs.dropN 2 | (rw [← wo_no (by omega) htc] at hs; exact hs.dropN 1))⟩
        · try simp only [decide_eq_true_eq, decide_eq_false_iff_not] at hc4
          refine c_skip (q_thenN ?_)
          refine c_reg1 ?_
          refine gL hf (g_fa (off' := 3) hf F25_3 rfl rfl) (by decide) ?_; clear hf a; intro a hf
          refine gL hf (g_ld hf hs T23 rfl (k := 1) rfl rfl) (by decide) ?_; clear hf a; intro a hf
          refine gL hf (g_ldW hf hs T64 rfl (k := 0) rfl rfl) (by decide) ?_; clear hf a; intro a hf
          refine vL hf (v_lits (len := 1) hf hs SL23 T64 (.cons rfl .nil) rfl rfl rfl rfl (by decide) rfl) (by decide) ?_; clear hs hf a; rintro _ w ⟨b6, rfl, hs⟩ a hf
          refine vL hf (v_accN (e := 64) (R := []) (o := oy) hf 5 hs (by simp) hoy AP23 (enc := encR) (l := woR b g k) (l' := [dnR g (b.rules.getD k default)]) (fun _ => rfl) (by decide) (by intro x v hv9; simp only [encR, List.mem_cons, List.not_mem_nil, or_false] at hv9; rcases hv9 with rfl | rfl <;> rfl) rfl rfl rfl (rd_single (enc := encR) (by simp only [encR, dnR, dn]; (repeat (first | rw [if_pos (by assumption)] | rw [if_neg (by assumption)])); rfl) (hs.own _ _ (.head _)).2) (by omega) (by decide)) (by decide) ?_; clear hs hf a; rintro _ w ⟨oy2, rfl, hoy2, hs⟩ a hf; dsimp only [List.take, List.cons_append, List.nil_append] at hs; rw [List.append_nil] at hs
          rw [show (woR b g k).length + 1 = (woR b g (k + 1)).length by rw [wo_yes (by omega) htc, List.length_append]; rfl] at hf; rw [← wo_yes (by omega) htc] at hoy2
          refine gL hf (g_fa (off' := 3) hf F25_3 rfl rfl) (by decide) ?_; clear hf a; intro a hf
          refine uL (u_st hf hs T23 rfl rfl (plain_acc _ _ _) (k := 2) rfl (Nat.le_of_ble_eq_true rfl)) ?_; clear hs; intro w hs; dsimp only [List.set] at hs
          refine e_nil1 (q_blkN (q_thenN ?_))
          refine c_reg1 ?_
          refine gL hf (g_mv hf rfl) (by decide) ?_; clear hf a; intro a hf
          refine gL hf (g_addI hf rfl rfl (by omega)) (by decide) ?_; clear hf a; intro a hf
          refine gL hf (g_as hf rfl) (by decide) ?_; clear hf a; intro a hf
          refine e_nil1 (q_thenN ?_)
          first | exact ⟨(k + 1, oy2), ⟨by dsimp only; omega, hoy2⟩, (by dsimp only; omega), hf.back (by repeat (first | (with_reducible exact Ext.base) | ((with_reducible refine Ext.cons ?_ ?_); (· rfl)) | ((with_reducible refine Ext.over ?_ ?_ ?_); (· rfl); (· rfl)))) (allKeys rfl) (.cons rfl .nil), (by first | exact hs.dropN 2 | (rw [← wo_no (by omega) htc] at hs; exact hs.dropN 1))⟩ | exact ⟨(k + 1, oy), ⟨by dsimp only; omega, by dsimp only; rw [wo_no (by omega) htc]; exact hoy⟩, (by dsimp only; omega), hf.back (by repeat (first | (with_reducible exact Ext.base) | ((with_reducible refine Ext.cons ?_ ?_); (· rfl)) | ((with_reducible refine Ext.over ?_ ?_ ?_); (· rfl); (· rfl)))) (allKeys rfl) (.cons rfl .nil), (by first | exact hs.dropN 2 | (rw [← wo_no (by omega) htc] at hs; exact hs.dropN 1))⟩
      · try simp only [decide_eq_true_eq, decide_eq_false_iff_not] at hc3
        refine c_skip (q_thenN ?_)
        refine wp_seq ?_
        refine c_reg ?_
        refine gL hf (g_fa (off' := 1) hf F64_1 rfl rfl) (by decide) ?_; clear hf a; intro a hf
        refine gL hf (g_ld hf hs T3 rfl (k := 0) rfl rfl) (by decide) ?_; clear hf a; intro a hf
        refine gL hf (g_mv hf rfl) (by decide) ?_; clear hf a; intro a hf
        refine gL hf (g_gtr hf rfl rfl) (by decide) ?_; clear hf a; intro a hf
        refine e_nil ?_
        refine c_cond hf rfl (fun hc5 => ?_) (fun hc5 => ?_)
        · try simp only [decide_eq_true_eq, decide_eq_false_iff_not] at hc5
          refine c_reg1 ?_
          refine gL hf (g_fa (off' := 1) hf F64_1 rfl rfl) (by decide) ?_; clear hf a; intro a hf
          refine gL hf (g_ld hf hs T3 rfl (k := 0) rfl rfl) (by decide) ?_; clear hf a; intro a hf
          refine gL hf (g_subI hf rfl rfl (by omega)) (by decide) ?_; clear hf a; intro a hf
          refine gL hf (g_fa (off' := 1) hf F64_1 rfl rfl) (by decide) ?_; clear hf a; intro a hf
          refine uL (u_st hf hs T3 rfl rfl rfl (k := 0) rfl (Nat.le_of_ble_eq_true rfl)) ?_; clear hs; intro w hs; dsimp only [List.set] at hs
          refine e_nil1 (q_thenN ?_)
          refine c_reg1 ?_
          refine gL hf (g_fa (off' := 3) hf F25_3 rfl rfl) (by decide) ?_; clear hf a; intro a hf
          refine gL hf (g_ld hf hs T23 rfl (k := 1) rfl rfl) (by decide) ?_; clear hf a; intro a hf
          refine gL hf (g_ldW hf hs T64 rfl (k := 0) rfl rfl) (by decide) ?_; clear hf a; intro a hf
          refine vL hf (v_lits (len := 1) hf hs SL23 T64 (.cons rfl .nil) rfl rfl rfl rfl (by decide) rfl) (by decide) ?_; clear hs hf a; rintro _ w ⟨b6, rfl, hs⟩ a hf
          refine vL hf (v_accN (e := 64) (R := []) (o := oy) hf 5 hs (by simp) hoy AP23 (enc := encR) (l := woR b g k) (l' := [dnR g (b.rules.getD k default)]) (fun _ => rfl) (by decide) (by intro x v hv9; simp only [encR, List.mem_cons, List.not_mem_nil, or_false] at hv9; rcases hv9 with rfl | rfl <;> rfl) rfl rfl rfl (rd_single (enc := encR) (by simp only [encR, dnR, dn]; (repeat (first | rw [if_pos (by assumption)] | rw [if_neg (by assumption)])); rfl) (hs.own _ _ (.head _)).2) (by omega) (by decide)) (by decide) ?_; clear hs hf a; rintro _ w ⟨oy2, rfl, hoy2, hs⟩ a hf; dsimp only [List.take, List.cons_append, List.nil_append] at hs; rw [List.append_nil] at hs
          rw [show (woR b g k).length + 1 = (woR b g (k + 1)).length by rw [wo_yes (by omega) htc, List.length_append]; rfl] at hf; rw [← wo_yes (by omega) htc] at hoy2
          refine gL hf (g_fa (off' := 3) hf F25_3 rfl rfl) (by decide) ?_; clear hf a; intro a hf
          refine uL (u_st hf hs T23 rfl rfl (plain_acc _ _ _) (k := 2) rfl (Nat.le_of_ble_eq_true rfl)) ?_; clear hs; intro w hs; dsimp only [List.set] at hs
          refine e_nil1 (q_blkN (q_thenN ?_))
          refine c_reg1 ?_
          refine gL hf (g_mv hf rfl) (by decide) ?_; clear hf a; intro a hf
          refine gL hf (g_addI hf rfl rfl (by omega)) (by decide) ?_; clear hf a; intro a hf
          refine gL hf (g_as hf rfl) (by decide) ?_; clear hf a; intro a hf
          refine e_nil1 (q_thenN ?_)
          first | exact ⟨(k + 1, oy2), ⟨by dsimp only; omega, hoy2⟩, (by dsimp only; omega), hf.back (by repeat (first | (with_reducible exact Ext.base) | ((with_reducible refine Ext.cons ?_ ?_); (· rfl)) | ((with_reducible refine Ext.over ?_ ?_ ?_); (· rfl); (· rfl)))) (allKeys rfl) (.cons rfl .nil), (by first | exact hs.dropN 2 | (rw [← wo_no (by omega) htc] at hs; exact hs.dropN 1))⟩ | exact ⟨(k + 1, oy), ⟨by dsimp only; omega, by dsimp only; rw [wo_no (by omega) htc]; exact hoy⟩, (by dsimp only; omega), hf.back (by repeat (first | (with_reducible exact Ext.base) | ((with_reducible refine Ext.cons ?_ ?_); (· rfl)) | ((with_reducible refine Ext.over ?_ ?_ ?_); (· rfl); (· rfl)))) (allKeys rfl) (.cons rfl .nil), (by first | exact hs.dropN 2 | (rw [← wo_no (by omega) htc] at hs; exact hs.dropN 1))⟩
        · try simp only [decide_eq_true_eq, decide_eq_false_iff_not] at hc5
          refine c_skip (q_thenN ?_)
          refine c_reg1 ?_
          refine gL hf (g_fa (off' := 3) hf F25_3 rfl rfl) (by decide) ?_; clear hf a; intro a hf
          refine gL hf (g_ld hf hs T23 rfl (k := 1) rfl rfl) (by decide) ?_; clear hf a; intro a hf
          refine gL hf (g_ldW hf hs T64 rfl (k := 0) rfl rfl) (by decide) ?_; clear hf a; intro a hf
          refine vL hf (v_lits (len := 1) hf hs SL23 T64 (.cons rfl .nil) rfl rfl rfl rfl (by decide) rfl) (by decide) ?_; clear hs hf a; rintro _ w ⟨b6, rfl, hs⟩ a hf
          refine vL hf (v_accN (e := 64) (R := []) (o := oy) hf 5 hs (by simp) hoy AP23 (enc := encR) (l := woR b g k) (l' := [dnR g (b.rules.getD k default)]) (fun _ => rfl) (by decide) (by intro x v hv9; simp only [encR, List.mem_cons, List.not_mem_nil, or_false] at hv9; rcases hv9 with rfl | rfl <;> rfl) rfl rfl rfl (rd_single (enc := encR) (by simp only [encR, dnR, dn]; (repeat (first | rw [if_pos (by assumption)] | rw [if_neg (by assumption)])); rfl) (hs.own _ _ (.head _)).2) (by omega) (by decide)) (by decide) ?_; clear hs hf a; rintro _ w ⟨oy2, rfl, hoy2, hs⟩ a hf; dsimp only [List.take, List.cons_append, List.nil_append] at hs; rw [List.append_nil] at hs
          rw [show (woR b g k).length + 1 = (woR b g (k + 1)).length by rw [wo_yes (by omega) htc, List.length_append]; rfl] at hf; rw [← wo_yes (by omega) htc] at hoy2
          refine gL hf (g_fa (off' := 3) hf F25_3 rfl rfl) (by decide) ?_; clear hf a; intro a hf
          refine uL (u_st hf hs T23 rfl rfl (plain_acc _ _ _) (k := 2) rfl (Nat.le_of_ble_eq_true rfl)) ?_; clear hs; intro w hs; dsimp only [List.set] at hs
          refine e_nil1 (q_blkN (q_thenN ?_))
          refine c_reg1 ?_
          refine gL hf (g_mv hf rfl) (by decide) ?_; clear hf a; intro a hf
          refine gL hf (g_addI hf rfl rfl (by omega)) (by decide) ?_; clear hf a; intro a hf
          refine gL hf (g_as hf rfl) (by decide) ?_; clear hf a; intro a hf
          refine e_nil1 (q_thenN ?_)
          first | exact ⟨(k + 1, oy2), ⟨by dsimp only; omega, hoy2⟩, (by dsimp only; omega), hf.back (by repeat (first | (with_reducible exact Ext.base) | ((with_reducible refine Ext.cons ?_ ?_); (· rfl)) | ((with_reducible refine Ext.over ?_ ?_ ?_); (· rfl); (· rfl)))) (allKeys rfl) (.cons rfl .nil), (by first | exact hs.dropN 2 | (rw [← wo_no (by omega) htc] at hs; exact hs.dropN 1))⟩ | exact ⟨(k + 1, oy), ⟨by dsimp only; omega, by dsimp only; rw [wo_no (by omega) htc]; exact hoy⟩, (by dsimp only; omega), hf.back (by repeat (first | (with_reducible exact Ext.base) | ((with_reducible refine Ext.cons ?_ ?_); (· rfl)) | ((with_reducible refine Ext.over ?_ ?_ ?_); (· rfl); (· rfl)))) (allKeys rfl) (.cons rfl .nil), (by first | exact hs.dropN 2 | (rw [← wo_no (by omega) htc] at hs; exact hs.dropN 1))⟩
  · try simp only [decide_eq_true_eq, decide_eq_false_iff_not] at hc1
    obtain rfl : k = b.rules.length := by omega
    have hn2 : ∀ q, oy = some q → w0.heap.size ≤ q.1 := fun q e => by subst e; exact (hs.own _ _ (.tail _ (.tail _ (.tail _ (.head _))))).1
    obtain ⟨A3, c3, e3, hl3, hs⟩ := hs.freeze (R := []) (e := 64) (o := oy) (enc := encR) (sz := 2) 3 (by simp) hoy (fun _ => rfl) (by decide)
    have hA3 := acc_new hn2 e3
    dsimp only [List.take, List.cons_append, List.nil_append, List.append_nil] at hs
    rw [e3] at hs
    refine c_exit (q_thenX (q_thenX (q_blkX (q_thenN ?_))))
    refine c_reg ?_
    refine gL hf (g_ldW hf hs T25 rfl (k := 0) rfl rfl) (by decide) ?_; clear hf a; intro a hf
    refine uL (u_stW hf hs T25 rfl rfl rfl (k := 1) rfl rfl rfl) ?_; clear hs; intro w hs; dsimp only [List.set] at hs
    refine e_nil ?_
    refine c_ret ?_
    refine e_res hf hs rfl (.cellA T25 rfl (k := 1) rfl rfl .nil) rfl ?_
    exact ⟨_, rfl, hs.below, A2, c2, A3, c3, rfl, ⟨hl2, hs.rd (.tail _ (.head _)), hA2⟩, ⟨hl3, hs.rd (.head _), hA3⟩⟩

end Go.Proofs.YtpjhffockmnjbaaDoor
set_option linter.unusedVariables false
set_option linter.unusedSimpArgs false
namespace Go.Proofs.YtpjhffockmnjbaaDoor
open Go.RowKit
theorem c_unruled (b : Sheet) (fA : Option Addr) (fc : Nat) (rA : Option Addr) (rc : Nat) (oA : Option Addr) (oc : Nat) (l : List Int) (hv : Valid b) (w0 : World) (h : ShIn b fA fc rA rc w0) (ho : Rd encI 1 oA l.length l w0) :
    Calls Tryd.prog 49 #[.agg #[.int .i64 b.wide, .int .i64 b.high, .slice fA b.flaps.length fc, .slice rA b.rules.length rc], .slice oA l.length oc] w0 (RetX w0 (fun v w0' => ∃ rA2 rc2, v = .agg #[.int .i64 b.wide, .int .i64 b.high, .slice fA b.flaps.length fc, .slice rA2 (unB b l).rules.length rc2] ∧ OutG encR 2 (unB b l).rules rA2 rc2 w0 w0')) := by
  refine c_enter (n := 31) Tryd.func49 rfl rfl (Nat.le_of_ble_eq_true rfl) ?_; intro a hf; simp only [zipR] at hf
  have hs := St.start w0 [Rd encF 5 fA b.flaps.length b.flaps, Rd encR 2 rA b.rules.length b.rules, Rd encI 1 oA l.length l] (stab_app h.stab ho.st1)
  have hfm := h.F.2.1; have hrm := h.R.2.1; have hlm := ho.2.1
  have hmany := hv.many; have hrl := hv.rules
  refine c_reg ?_
  refine vL hf (v_boxA hf hs rfl) (by decide) ?_; clear hs hf a; rintro _ w ⟨b1, rfl, hs⟩ a hf
  refine vL hf (v_alloc hs T25 rfl) (by decide) ?_; clear hs hf a; rintro _ w ⟨b2, rfl, hs⟩ a hf
  refine e_nil ?_
  refine c_reg ?_
  refine gL hf (g_ldW hf hs T25 rfl (k := 1) rfl rfl) (by decide) ?_; clear hf a; intro a hf
  refine vL hf (v_alloc hs T25 rfl) (by decide) ?_; clear hs hf a; rintro _ w ⟨b3, rfl, hs⟩ a hf
  refine uL (u_stW hf hs T25 rfl rfl rfl (k := 0) rfl rfl rfl) ?_; clear hs; intro w hs; dsimp only [List.set] at hs
  refine e_nil ?_
  refine c_reg ?_
  refine gL hf (g_fa (off' := 3) hf F25_3 rfl rfl) (by decide) ?_; clear hf a; intro a hf
  refine uL (u_st hf hs T23 rfl rfl rfl (k := 0) rfl (Nat.le_of_ble_eq_true rfl)) ?_; clear hs; intro w hs; dsimp only [List.set] at hs
  refine e_nil ?_
  refine wp_seq ?_
  refine c_reg ?_
  refine gL hf (g_as hf rfl) (by decide) ?_; clear hf a; intro a hf
  refine e_nil ?_
  refine c_block ?_
  refine c_loop hf hs [6, 9, 10, 11, 12, 13, 14, 15, 16, 17, 18, 19, 20, 21, 22, 23, 24, 25, 26, 27, 28, 29] (σ := (Nat × Acc)) (fun s => [(6, .int .i64 (s.1 : Nat))]) (fun s => (b3, .cells #[.int .i64 b.wide, .int .i64 b.high, .slice fA b.flaps.length fc, accV 2 (unR b l s.1).length s.2] 25 (0, 0)) :: (b2, .cells #[.int .i64 0, .int .i64 0, .slice none 0 0, .slice none 0 0] 25 (0, 0)) :: (b1, .cells #[.int .i64 b.wide, .int .i64 b.high, .slice fA b.flaps.length fc, .slice rA b.rules.length rc] 25 (0, 0)) :: accH 64 s.2) (fun s => s.1 ≤ b.rules.length ∧ AccOK encR 2 (unR b l s.1) s.2) (fun s => b.rules.length - s.1) (0, none) ⟨Nat.zero_le _, rfl⟩ (.cons rfl .nil) rfl ?_
  intro ⟨k, oy⟩ a w hJ hf hs
  dsimp only at hJ hf hs
  obtain ⟨hk, hoy⟩ := hJ
  have hul := un_le b l k
  refine wp_seq ?_
  refine c_reg ?_
  refine gL hf (g_mv hf rfl) (by decide) ?_; clear hf a; intro a hf
  refine gL hf (g_fa (off' := 3) hf F25_3 rfl rfl) (by decide) ?_; clear hf a; intro a hf
  refine gL hf (g_ld hf hs T23 rfl (k := 2) rfl rfl) (by decide) ?_; clear hf a; intro a hf
  refine gL hf (g_len hf SL23 rfl) (by decide) ?_; clear hf a; intro a hf
  refine gL hf (g_lss hf rfl rfl) (by decide) ?_; clear hf a; intro a hf
  refine e_nil ?_
  refine c_cond hf rfl (fun hc1 => ?_) (fun hc1 => ?_)
  · try simp only [decide_eq_true_eq, decide_eq_false_iff_not] at hc1
    refine c_skip (q_thenN ?_)
    refine c_blockS ?_
    refine c_reg ?_
    refine gL hf (g_mv hf rfl) (by decide) ?_; clear hf a; intro a hf
    refine gL hf (g_mv hf rfl) (by decide) ?_; clear hf a; intro a hf
    refine callL hf hs (c_IndexR _ _ _ l _ _ (hs.rd (.tail _ (.tail _ (.head _))))) rfl rfl rfl E44 (by decide) ?_; clear hs hf a; intro w a hs hf
    refine gL hf (g_lss hf rfl rfl) (by decide) ?_; clear hf a; intro a hf
    refine e_nil ?_
    refine c_cond hf rfl (fun hc2 => ?_) (fun hc2 => ?_)
    · try simp only [decide_eq_true_eq, decide_eq_false_iff_not] at hc2
      have hni : ((k : Nat) : Int) ∉ l := indexZ_neg hc2
      refine c_draw1 _ 11 Mx rfl hs (fun _ h => h.sub (.cons _ (.cons_cons _ (.cons_cons _ (List.nil_sublist _))))) ?_; intro w hs hS
      refine gA hf hS (i := 0) rfl (by kernel_rfl) (fun w hs => g_fa (off' := 3) hf F25_3 rfl rfl) (by decide) ?_; clear hf a; intro a hf
      refine gA hf hS (i := 2) rfl (by kernel_rfl) (fun w hs => g_fa (off' := 3) hf F25_3 rfl rfl) (by decide) ?_; clear hf a; intro a hf
      refine gA hf hS (i := 3) rfl (by kernel_rfl) (fun w hs => g_ld hf hs T23 rfl (k := 1) rfl rfl) (by decide) ?_; clear hf a; intro a hf
      refine gA hf hS (i := 4) rfl (by kernel_rfl) (fun w hs => g_mv hf rfl) (by decide) ?_; clear hf a; intro a hf
      (first | (refine gA hf hS (i := 5) rfl (by kernel_rfl) (fun w hs => g_ixE hf hs (.tail _ (.head _)) SL23 rfl rfl (by omega)) (by decide) ?_) | (refine gA hf hS (i := 5) rfl (by kernel_rfl) (fun w hs => g_ixD hf hs (.tail _ (.head _)) SL23 rfl rfl (by omega)) (by decide) ?_)); clear hf a; intro a hf
      refine gA hf hS (i := 6) rfl (by kernel_rfl) (fun w hs => g_ldEW hf hs (.tail _ (.head _)) T64 rfl rfl (by omega)) (by decide) ?_; clear hf a; intro a hf
      refine two (i := 1) (j := 7) (by kernel_rfl) ?_ ?_
      · skip
        refine oV hf rfl (goesV_of_gets (g_ld hf hs T23 rfl (k := 0) rfl rfl)) (by decide) (fun _ _ h => by rw [h.2]; exact hS) ?_; rintro _ w ⟨rfl, rfl⟩ hS a hf
        refine one (i := 7) (by kernel_rfl) ?_
        refine oV hf rfl (v_lits (len := 1) hf hs SL23 T64 (.cons rfl .nil) rfl rfl rfl rfl (by decide) rfl) (by decide) (fun _ _ ⟨_, _, h⟩ => h.sub (.cons _ (.cons _ (.cons_cons _ (.cons_cons _ (List.nil_sublist _)))))) ?_; clear hs hf hS a; rintro _ w ⟨b4, rfl, hs⟩ hS a hf
        refine one (i := 8) (by kernel_rfl) ?_
        refine oV hf rfl (v_accN (e := 64) (R := []) (o := oy) hf 4 hs (by simp) hoy AP23 (enc := encR) (l := unR b l k) (l' := [b.rules.getD k default]) (fun _ => rfl) (by decide) (by intro x v hv9; simp only [encR, List.mem_cons, List.not_mem_nil, or_false] at hv9; rcases hv9 with rfl | rfl <;> rfl) rfl rfl rfl (rd_single (enc := encR) rfl (hs.own _ _ (.head _)).2) (by omega) (by decide)) (by decide) (fun _ _ ⟨_, _, _, h⟩ => h.sub (.cons _ (.cons _ (.cons_cons _ (.cons_cons _ (List.nil_sublist _)))))) ?_; clear hs hf hS a; rintro _ w ⟨oy2, rfl, hoy2, hs⟩ hS a hf; dsimp only [List.take, List.cons_append, List.nil_append] at hs; rw [List.append_nil] at hs
        rw [show (unR b l k).length + 1 = (unR b l (k + 1)).length by rw [un_yes hni, List.length_append]; rfl] at hf; rw [← un_yes hni] at hoy2
        refine gA hf hS (i := 9) rfl (by kernel_rfl) (fun w hs => g_fa (off' := 3) hf F25_3 rfl rfl) (by decide) ?_; clear hf a; intro a hf
        refine one (i := 10) (by kernel_rfl) ?_
        refine oU rfl (u_st hf hs T23 rfl rfl (plain_acc _ _ _) (k := 1) rfl (Nat.le_of_ble_eq_true rfl)) (fun _ h => h.sub (.cons _ (.cons _ (.cons_cons _ (.cons_cons _ (List.nil_sublist _)))))) ?_; clear hs hS; intro w hs hS; dsimp only [List.set] at hs
        refine e_done1 (by kernel_rfl) ?_
        refine q_blkN (q_thenN ?_)
        refine c_reg1 ?_
        refine gL hf (g_mv hf rfl) (by decide) ?_; clear hf a; intro a hf
        refine gL hf (g_addI hf rfl rfl (by omega)) (by decide) ?_; clear hf a; intro a hf
        refine gL hf (g_as hf rfl) (by decide) ?_; clear hf a; intro a hf
        refine e_nil1 (q_thenN ?_)
        first | exact ⟨(k + 1, oy2), ⟨by dsimp only; omega, hoy2⟩, (by dsimp only; omega), hf.back (by repeat (first | (with_reducible exact Ext.base) | ((with_reducible refine Ext.cons ?_ ?_); (· rfl)) | ((with_reducible refine Ext.over ?_ ?_ ?_); (· rfl); (· rfl)))) (allKeys rfl) (.cons rfl .nil), (by first | exact hs.dropN 1 | (rw [← un_no hyi] at hs; exact hs.dropN 0))⟩ | exact ⟨(k + 1, oy), ⟨by dsimp only; omega, by dsimp only; rw [un_no hyi]; exact hoy⟩, (by dsimp only; omega), hf.back (by repeat (first | (with_reducible exact Ext.base) | ((with_reducible refine Ext.cons ?_ ?_); (· rfl)) | ((with_reducible refine Ext.over ?_ ?_ ?_); (· rfl); (· rfl)))) (allKeys rfl) (.cons rfl .nil), (by first | exact hs.dropN 1 | (rw [← un_no hyi] at hs; exact hs.dropN 0))⟩
      · skip
        refine oV hf rfl (v_lits (len := 1) hf hs SL23 T64 (.cons rfl .nil) rfl rfl rfl rfl (by decide) rfl) (by decide) (fun _ _ ⟨_, _, h⟩ => h.sub (.cons _ (.cons _ (.cons_cons _ (.cons_cons _ (List.nil_sublist _)))))) ?_; clear hs hf hS a; rintro _ w ⟨b4, rfl, hs⟩ hS a hf
        refine one (i := 1) (by kernel_rfl) ?_
        refine oV hf rfl (goesV_of_gets (g_ld hf hs T23 rfl (k := 1) rfl rfl)) (by decide) (fun _ _ h => by rw [h.2]; exact hS) ?_; rintro _ w ⟨rfl, rfl⟩ hS a hf
        refine one (i := 8) (by kernel_rfl) ?_
        refine oV hf rfl (v_accN (e := 64) (R := []) (o := oy) hf 4 hs (by simp) hoy AP23 (enc := encR) (l := unR b l k) (l' := [b.rules.getD k default]) (fun _ => rfl) (by decide) (by intro x v hv9; simp only [encR, List.mem_cons, List.not_mem_nil, or_false] at hv9; rcases hv9 with rfl | rfl <;> rfl) rfl rfl rfl (rd_single (enc := encR) rfl (hs.own _ _ (.head _)).2) (by omega) (by decide)) (by decide) (fun _ _ ⟨_, _, _, h⟩ => h.sub (.cons _ (.cons _ (.cons_cons _ (.cons_cons _ (List.nil_sublist _)))))) ?_; clear hs hf hS a; rintro _ w ⟨oy2, rfl, hoy2, hs⟩ hS a hf; dsimp only [List.take, List.cons_append, List.nil_append] at hs; rw [List.append_nil] at hs
        rw [show (unR b l k).length + 1 = (unR b l (k + 1)).length by rw [un_yes hni, List.length_append]; rfl] at hf; rw [← un_yes hni] at hoy2
        refine gA hf hS (i := 9) rfl (by kernel_rfl) (fun w hs => g_fa (off' := 3) hf F25_3 rfl rfl) (by decide) ?_; clear hf a; intro a hf
        refine one (i := 10) (by kernel_rfl) ?_
        refine oU rfl (u_st hf hs T23 rfl rfl (plain_acc _ _ _) (k := 1) rfl (Nat.le_of_ble_eq_true rfl)) (fun _ h => h.sub (.cons _ (.cons _ (.cons_cons _ (.cons_cons _ (List.nil_sublist _)))))) ?_; clear hs hS; intro w hs hS; dsimp only [List.set] at hs
        refine e_done1 (by kernel_rfl) ?_
        refine q_blkN (q_thenN ?_)
        refine c_reg1 ?_
        refine gL hf (g_mv hf rfl) (by decide) ?_; clear hf a; intro a hf
        refine gL hf (g_addI hf rfl rfl (by omega)) (by decide) ?_; clear hf a; intro a hf
        refine gL hf (g_as hf rfl) (by decide) ?_; clear hf a; intro a hf
        refine e_nil1 (q_thenN ?_)
        first | exact ⟨(k + 1, oy2), ⟨by dsimp only; omega, hoy2⟩, (by dsimp only; omega), hf.back (by repeat (first | (with_reducible exact Ext.base) | ((with_reducible refine Ext.cons ?_ ?_); (· rfl)) | ((with_reducible refine Ext.over ?_ ?_ ?_); (· rfl); (· rfl)))) (allKeys rfl) (.cons rfl .nil), (by first | exact hs.dropN 1 | (rw [← un_no hyi] at hs; exact hs.dropN 0))⟩ | exact ⟨(k + 1, oy), ⟨by dsimp only; omega, by dsimp only; rw [un_no hyi]; exact hoy⟩, (by dsimp only; omega), hf.back (by repeat (first | (with_reducible exact Ext.base) | ((with_reducible refine Ext.cons ?_ ?_); (· rfl)) | ((with_reducible refine Ext.over ?_ ?_ ?_); (· rfl); (· rfl)))) (allKeys rfl) (.cons rfl .nil), (by first | exact hs.dropN 1 | (rw [← un_no hyi] at hs; exact hs.dropN 0))⟩
    · try simp only [decide_eq_true_eq, decide_eq_false_iff_not] at hc2
      have hyi : ((k : Nat) : Int) ∈ l := indexZ_pos hc2
      refine c_skip (q_blkN (q_thenN ?_))
      refine c_reg1 ?_
      refine gL hf (g_mv hf rfl) (by decide) ?_; clear hf a; intro a hf
      refine gL hf (g_addI hf rfl rfl (by omega)) (by decide) ?_; clear hf a; intro a hf
      refine gL hf (g_as hf rfl) (by decide) ?_; clear hf a; intro a hf
      refine e_nil1 (q_thenN ?_)
      first | exact ⟨(k + 1, oy2), ⟨by dsimp only; omega, hoy2⟩, (by dsimp only; omega), hf.back (by repeat (first | (with_reducible exact Ext.base) | ((with_reducible refine Ext.cons ?_ ?_); (· rfl)) | ((with_reducible refine Ext.over ?_ ?_ ?_); (· rfl); (· rfl)))) (allKeys rfl) (.cons rfl .nil), (by first | exact hs.dropN 1 | (rw [← un_no hyi] at hs; exact hs.dropN 0))⟩ | exact ⟨(k + 1, oy), ⟨by dsimp only; omega, by dsimp only; rw [un_no hyi]; exact hoy⟩, (by dsimp only; omega), hf.back (by repeat (first | (with_reducible exact Ext.base) | ((with_reducible refine Ext.cons ?_ ?_); (· rfl)) | ((with_reducible refine Ext.over ?_ ?_ ?_); (· rfl); (· rfl)))) (allKeys rfl) (.cons rfl .nil), (by first | exact hs.dropN 1 | (rw [← un_no hyi] at hs; exact hs.dropN 0))⟩
  · try simp only [decide_eq_true_eq, decide_eq_false_iff_not] at hc1
    obtain rfl : k = b.rules.length := by omega
    have hn2 : ∀ q, oy = some q → w0.heap.size ≤ q.1 := fun q e => by subst e; exact (hs.own _ _ (.tail _ (.tail _ (.tail _ (.head _))))).1
    obtain ⟨A3, c3, e3, hl3, hs⟩ := hs.freeze (R := []) (e := 64) (o := oy) (enc := encR) (sz := 2) 3 (by simp) hoy (fun _ => rfl) (by decide)
    have hA3 := acc_new hn2 e3
    dsimp only [List.take, List.cons_append, List.nil_append, List.append_nil] at hs
    rw [e3] at hs
    refine c_exit (q_thenX (q_thenX (q_blkX (q_thenN ?_))))
    refine c_reg ?_
    refine gL hf (g_ldW hf hs T25 rfl (k := 0) rfl rfl) (by decide) ?_; clear hf a; intro a hf
    refine uL (u_stW hf hs T25 rfl rfl rfl (k := 1) rfl rfl rfl) ?_; clear hs; intro w hs; dsimp only [List.set] at hs
    refine e_nil ?_
    refine c_ret ?_
    refine e_res hf hs rfl (.cellA T25 rfl (k := 1) rfl rfl .nil) rfl ?_
    exact ⟨_, rfl, hs.below, A3, c3, rfl, ⟨hl3, hs.rd (.head _), hA3⟩⟩

theorem c_Marks (s9 : Int) (n : Nat) (hn : n ≤ 63) (w0 : World) :
    Calls Tryd.prog 50 #[.int .i64 s9, .int .i64 (n : Nat)] w0 (RetX w0 (fun v w0' => ∃ A c, v = .slice A (outL s9 n).length c ∧ Out (outL s9 n) A c w0 w0')) := by
  refine c_enter (n := 20) Tryd.func50 rfl rfl (Nat.le_of_ble_eq_true rfl) ?_; intro a hf; simp only [zipR] at hf
  have hs := St.start w0 [] (by simp)
  refine c_reg ?_
  refine gL hf (g_as hf rfl) (by decide) ?_; clear hf a; intro a hf
  refine e_nil ?_
  refine c_reg ?_
  refine gL hf (g_as hf rfl) (by decide) ?_; clear hf a; intro a hf
  refine e_nil ?_
  refine wp_seq ?_
  refine c_reg ?_
  refine gL hf (g_as hf rfl) (by decide) ?_; clear hf a; intro a hf
  refine e_nil ?_
  refine c_block ?_
  refine c_loop hf hs [5, 6, 7, 8, 9, 10, 11, 12, 13, 14, 15, 16, 17, 18] (σ := (Nat × Acc)) (fun s => [(5, accV 1 (outL s9 s.1).length s.2), (6, .int .i64 (s.1 : Nat))]) (fun s => accH 3 s.2) (fun s => s.1 ≤ n ∧ AccOK encI 1 (outL s9 s.1) s.2) (fun s => n - s.1) (0, none) ⟨Nat.zero_le _, rfl⟩ (.cons rfl (.cons rfl .nil)) rfl ?_
  intro ⟨k, oa⟩ a w hJ hf hs
  dsimp only at hJ hf hs
  obtain ⟨hk, hoa⟩ := hJ
  have hol := out_le s9 k
  refine wp_seq ?_
  refine c_reg ?_
  refine gL hf (g_mv hf rfl) (by decide) ?_; clear hf a; intro a hf
  refine gL hf (g_mv hf rfl) (by decide) ?_; clear hf a; intro a hf
  refine gL hf (g_lss hf rfl rfl) (by decide) ?_; clear hf a; intro a hf
  refine e_nil ?_
  refine c_cond hf rfl (fun hc1 => ?_) (fun hc1 => ?_)
  · try simp only [decide_eq_true_eq, decide_eq_false_iff_not] at hc1
    refine c_skip (q_thenN ?_)
    refine c_blockS ?_
    refine c_reg ?_
    refine gL hf (g_mv hf rfl) (by decide) ?_; clear hf a; intro a hf
    refine gL hf (g_mv hf rfl) (by decide) ?_; clear hf a; intro a hf
    refine callL hf hs (c_In _ _ (by omega) _) rfl rfl rfl E84 (by decide) ?_; clear hs hf a; intro w a hs hf
    refine e_nil ?_
    refine c_cond hf rfl (fun hc2 => ?_) (fun hc2 => ?_)
    · skip
      have hc2 : bitI s9 k = true := hc2
      refine c_reg1 ?_
      refine gL hf (g_mv hf rfl) (by decide) ?_; clear hf a; intro a hf
      refine gL hf (g_mv hf rfl) (by decide) ?_; clear hf a; intro a hf
      refine vL hf (v_lits (len := 1) hf hs SL27 T3 (.cons rfl .nil) rfl rfl rfl rfl (by decide) rfl) (by decide) ?_; clear hs hf a; rintro _ w ⟨b1, rfl, hs⟩ a hf
      refine vL hf (v_accN (e := 3) (R := []) (o := oa) hf 1 hs (by simp) hoa AP27 (enc := encI) (l := outL s9 k) (l' := [((k : Nat) : Int)]) (fun _ => rfl) (by decide) (by intro x v hv9; rw [List.mem_singleton.1 hv9]; rfl) rfl rfl rfl (rd_one rfl (hs.own _ _ (.head _)).2) (by omega) (by decide)) (by decide) ?_; clear hs hf a; rintro _ w ⟨oa2, rfl, hoa2, hs⟩ a hf; dsimp only [List.take, List.cons_append, List.nil_append] at hs; rw [List.append_nil] at hs
      rw [show (outL s9 k).length + 1 = (outL s9 (k + 1)).length by rw [out_yes hc2, List.length_append]; rfl] at hf; rw [← out_yes hc2] at hoa2
      refine gL hf (g_as hf rfl) (by decide) ?_; clear hf a; intro a hf
      refine e_nil1 (q_blkN (q_thenN ?_))
      refine c_reg1 ?_
      refine gL hf (g_mv hf rfl) (by decide) ?_; clear hf a; intro a hf
      refine gL hf (g_addI hf rfl rfl (by omega)) (by decide) ?_; clear hf a; intro a hf
      refine gL hf (g_as hf rfl) (by decide) ?_; clear hf a; intro a hf
      refine e_nil1 (q_thenN ?_)
      first | exact ⟨(k + 1, oa2), ⟨by dsimp only; omega, hoa2⟩, (by dsimp only; omega), hf.back (by repeat (first | (with_reducible exact Ext.base) | ((with_reducible refine Ext.cons ?_ ?_); (· rfl)) | ((with_reducible refine Ext.over ?_ ?_ ?_); (· rfl); (· rfl)))) (allKeys rfl) (.cons rfl (.cons rfl .nil)), (by first | exact hs.dropN 1 | exact hs.dropN 0)⟩ | exact ⟨(k + 1, oa), ⟨by dsimp only; omega, by dsimp only; rw [out_no hc2]; exact hoa⟩, (by dsimp only; omega), hf.back (by repeat (first | (with_reducible exact Ext.base) | ((with_reducible refine Ext.cons ?_ ?_); (· rfl)) | ((with_reducible refine Ext.over ?_ ?_ ?_); (· rfl); (· rfl)))) (allKeys rfl) (.cons rfl (.cons rfl .nil)), (by first | exact hs.dropN 1 | exact hs.dropN 0)⟩
    · skip
      have hc2 : bitI s9 k = false := hc2
      rw [← out_no hc2] at hf
      refine c_skip (q_blkN (q_thenN ?_))
      refine c_reg1 ?_
      refine gL hf (g_mv hf rfl) (by decide) ?_; clear hf a; intro a hf
      refine gL hf (g_addI hf rfl rfl (by omega)) (by decide) ?_; clear hf a; intro a hf
      refine gL hf (g_as hf rfl) (by decide) ?_; clear hf a; intro a hf
      refine e_nil1 (q_thenN ?_)
      first | exact ⟨(k + 1, oa2), ⟨by dsimp only; omega, hoa2⟩, (by dsimp only; omega), hf.back (by repeat (first | (with_reducible exact Ext.base) | ((with_reducible refine Ext.cons ?_ ?_); (· rfl)) | ((with_reducible refine Ext.over ?_ ?_ ?_); (· rfl); (· rfl)))) (allKeys rfl) (.cons rfl (.cons rfl .nil)), (by first | exact hs.dropN 1 | exact hs.dropN 0)⟩ | exact ⟨(k + 1, oa), ⟨by dsimp only; omega, by dsimp only; rw [out_no hc2]; exact hoa⟩, (by dsimp only; omega), hf.back (by repeat (first | (with_reducible exact Ext.base) | ((with_reducible refine Ext.cons ?_ ?_); (· rfl)) | ((with_reducible refine Ext.over ?_ ?_ ?_); (· rfl); (· rfl)))) (allKeys rfl) (.cons rfl (.cons rfl .nil)), (by first | exact hs.dropN 1 | exact hs.dropN 0)⟩
  · try simp only [decide_eq_true_eq, decide_eq_false_iff_not] at hc1
    obtain rfl : k = n := by omega
    have hn1 : ∀ q, oa = some q → w0.heap.size ≤ q.1 := fun q e => by subst e; exact (hs.own _ _ (.head _)).1
    obtain ⟨A3, c3, e3, hl3, hs⟩ := hs.freeze (R := []) (e := 3) (o := oa) (enc := encI) (sz := 1) 0 (by simp) hoa (fun _ => rfl) (by decide)
    have hA3 := acc_new hn1 e3
    rw [e3] at hf
    refine c_exit (q_thenX (q_thenX (q_blkX (q_thenN ?_))))
    refine c_reg ?_
    refine gL hf (g_mv hf rfl) (by decide) ?_; clear hf a; intro a hf
    refine gL hf (g_as hf rfl) (by decide) ?_; clear hf a; intro a hf
    refine e_nil ?_
    refine c_ret ?_
    refine e_ret1 hf rfl rfl ?_
    exact ⟨_, rfl, hs.below, A3, c3, rfl, hl3, hs.rd (.head _), hA3⟩

end Go.Proofs.YtpjhffockmnjbaaDoor
set_option linter.unusedVariables false
set_option linter.unusedSimpArgs false
namespace Go.Proofs.YtpjhffockmnjbaaDoor
open Go.RowKit
section
variable {P : Program} {ds : List Deferred} {a : Act} {n : Nat} {L : Regs} {w w' : World} {t : TypeId} {w0 : Base} {Ds : List (World → Prop)} {H : Own}
theorem St.adopt2 (hs : St w0 Ds H w) (hb : Below w.heap.size w w') {b c : Nat} {o u : Obj} (h1 : w.heap.size ≤ b) (h2 : w'.heap[b]? = some o) (k1 : w.heap.size ≤ c) (k2 : w'.heap[c]? = some u) (hne : b ≠ c) : St w0 Ds ((b, o) :: (c, u) :: H) w' := by
  have h3 := hs.call hb
  refine ⟨h3.below, fun d v hc => ?_, ?_, fun D hD => ?_⟩
  · rcases List.mem_cons.1 hc with e | hc
    · cases e; exact ⟨w0.new _ hs.below _ h1, h2⟩
    · rcases List.mem_cons.1 hc with e | hc
      · cases e; exact ⟨w0.new _ hs.below _ k1, k2⟩
      · exact h3.own d v hc
  · simp only [ids, List.map_cons, List.nodup_cons, List.mem_cons, not_or]
    exact ⟨⟨hne, fun h => absurd (hs.lt' h) (by omega)⟩, fun h => absurd (hs.lt' h) (by omega), hs.nodup⟩
  · refine ((hs.data D hD).more (ids' := w0.ex ++ b :: c :: ids H) fun i hi hl => ?_).later (later_of_below hb _)
    simp only [List.mem_append, List.mem_cons] at hi ⊢
    rcases hi with h | h | h | h
    · exact .inl h
    · omega
    · omega
    · exact .inr h
theorem g_ixOc (hf : Fr ds a n L) {ts e : TypeId} {sz : Nat} (hT : SlT P ts e sz) {x y : Operand} {b off off' len c : Nat} {k : IntKind} {i : Int} (hx : ev L x = some (.slice (some ⟨b, off, none⟩) len c)) (hy : ev L y = some (.int k i)) (h : 0 ≤ i ∧ i < len) (ho : off + i.toNat * sz = off') :
    Gets P (.indexAddr ts x y) t a w (.pointer (some ⟨b, off', none⟩)) := ho ▸ g_ixO hf hT hx hy h
theorem g_ixAD (hf : Fr ds a n L) (hs : St w0 Ds H w) {α : Type} {enc : α → List Value} {sz : Nat} {A : Option Addr} {len : Nat} {l : List α} (hD : Rd enc sz A len l ∈ Ds) {ts e : TypeId} {al es : Nat} (hT : ArT P ts e al es) {x y : Operand} {i j j' : Nat} {k : IntKind} {c : Int} (hx : ev L x = some (eptr A i sz j)) (hy : ev L y = some (.int k c)) (h : 0 ≤ c ∧ c < al) (hn : 0 < len) (ho : j + c.toNat * es = j') :
    Gets P (.indexAddr ts x y) t a w (eptr A i sz j') := by
  obtain ⟨b, o, rfl, _⟩ := (hs.rd hD).2.2 hn
  have hx' : ev L x = some (.pointer (some ⟨b, o + (i * sz + j), none⟩)) := by
    rw [hx]; simp [eptr, sptr, add_own]
  have := g_ixA (t := t) (w := w) hf hT hx' hy h
  have e2 : eptr (some ⟨b, o, none⟩) i sz j' = .pointer (some ⟨b, o + (i * sz + j) + c.toNat * es, none⟩) := by
    simp only [eptr, sptr, Option.map_some, add_own]
    rw [← ho]
    simp only [Nat.add_assoc]
  rw [e2]
  exact this
end
/-! ### Sheets that are not valid -/
section
variable {b : Sheet} (h : checkB b = false)
include h
theorem bad_ask (ok : Bool) : askE b ok = 40 := by simp [askE, h]
theorem bad_meet (i j : Int) : meetP b i j = (0, 40) := by simp [meetP, bad_ask h]
theorem bad_order : orderP b = ([], 40) := by simp [orderP, bad_ask h]
theorem bad_count : countP b = (0, 40) := by simp [countP, bad_ask h]
theorem bad_ring : ringP b = ([], 40) := by simp [ringP, bad_ask h]
theorem bad_round : roundP b = (0, 40) := by simp [roundP, bad_ask h]
theorem bad_short (i : Int) : shorterP b i = (0, 40) := by simp [shorterP, bad_ask h]
theorem bad_drop : dropP b = ([], 40) := by simp [dropP, bad_ask h]
end
def kF (f0 f1 f2 : Flap) : List Flap := [f0, f1, f2, ⟨3, 2, 2, 8, 9⟩]
def kSheets : List Sheet := [⟨0, 0, [], []⟩, { chapB 5 6 with wide := 100 }, { chapB 5 6 with flaps := kF ⟨4, 5, 6, 0, 7⟩ ⟨1, 4, 5, 0, 7⟩ ⟨2, 3, 3, 2, 7⟩ }, chapB 5 11,
  { chapB 5 6 with flaps := kF ⟨0, 5, 6, 0, 7⟩ ⟨1, 4, 5, 0, 7⟩ ⟨2, 3, 9, 2, 7⟩ }, { chapB 5 6 with flaps := kF ⟨0, 5, 6, 0, 7⟩ ⟨1, 4, 5, 0, 8⟩ ⟨2, 3, 3, 2, 7⟩ }, { chapB 5 6 with flaps := kF ⟨0, 5, 6, 0, 7⟩ ⟨1, 0, 5, 0, 7⟩ ⟨2, 3, 3, 2, 7⟩ },
  { chapB 5 6 with rules := [⟨0, 0⟩, ⟨2, 1⟩, ⟨0, 2⟩, ⟨3, 1⟩] }, { chapB 5 6 with rules := [⟨1, 4⟩, ⟨2, 1⟩, ⟨0, 2⟩, ⟨3, 1⟩] }, { chapB 5 6 with rules := (chapB 5 6).rules ++ [⟨2, 1⟩] }, { chapB 5 6 with flaps := (chapB 5 6).flaps ++ (chapB 5 6).flaps }]
def kB (i : Nat) : Sheet := kSheets.getD i default
theorem k_bad : ∀ i, i < 11 → checkB (kB i) = false := by decide +kernel
/-- A row of sheets, as it lies in memory. -/
def encS (fA : Nat → Option Addr) (fc : Nat → Nat) (rA : Nat → Option Addr) (rc : Nat → Nat) (i : Nat) : List Value := [.int .i64 (kB i).wide, .int .i64 (kB i).high, .slice (fA i) (kB i).flaps.length (fc i), .slice (rA i) (kB i).rules.length (rc i)]
def KSh (fA : Nat → Option Addr) (fc : Nat → Nat) (rA : Nat → Option Addr) (rc : Nat → Nat) : World → Prop := fun w => ∀ i, i < 11 → ShIn (kB i) (fA i) (fc i) (rA i) (rc i) w
theorem KSh.stable {fA : Nat → Option Addr} {fc : Nat → Nat} {rA : Nat → Option Addr} {rc : Nat → Nat} {w : World} (h : KSh fA fc rA rc w) : Stable [] w (KSh fA fc rA rc) := fun w' hw i hi =>
  ⟨(h i hi).F.stable (by simp) w' hw, (h i hi).R.stable (by simp) w' hw, (h i hi).fc_, (h i hi).rc_⟩
theorem range_get {i : Nat} (h : i < 11) : (List.range 11).getD i default = i := by
  rw [List.getD_eq_getElem?_getD, List.getElem?_range h]; rfl
def mtL : List (Int × Int × Int) := [(0, 1, 1), (0, 2, 2), (2, 1, 2), (3, 1, 2), (0, 3, 0), (2, 3, 0)]
def enc3 (t : Int × Int × Int) : List Value := [.int .i64 t.1, .int .i64 t.2.1, .int .i64 t.2.2]
theorem k_met : ∀ i, i < 6 → meetP (chapB 5 6) (mtL.getD i default).1 (mtL.getD i default).2.1 = ((mtL.getD i default).2.2, 0) := by decide +kernel
theorem k1 : meetP (chapB 5 6) 0 0 = (0, 41) := by decide +kernel
theorem k2 : meetP (chapB 5 6) 4 0 = (0, 41) := by decide +kernel
theorem k3 : doesP (chapB 5 6) [0, 1, 2] = (0, 41) := by decide +kernel
theorem k4 : doesP (chapB 5 6) [0, 1, 2, 2] = (0, 41) := by decide +kernel
theorem k5 : doesP (chapB 5 6) [0, 1, 2, 4] = (0, 41) := by decide +kernel
theorem k6 : shorterP (chapB 5 6) 4 = (0, 41) := by decide +kernel
theorem k7 : shorterP (chapB 5 6) 3 = (0, 4) := by decide +kernel
theorem k8 : roundP (chapB 5 6) = (0, 4) := by decide +kernel
theorem k9 : ringP (chapB 5 5) = ([], 4) := by decide +kernel
theorem k10 : doesP (chapB 5 6) [2, 0, 1, 3] = (0, 0) := by decide +kernel
theorem k11 : doesP (chapB 5 6) [0, 1, 2, 3] = (0, 0) := by decide +kernel
theorem k12 : doesP (chapB 5 5) [1, 3, 2, 0] = (2, 0) := by decide +kernel
theorem k13 : countP (chapB 5 6) = (0, 0) := by decide +kernel
theorem k14 : shorterP (chapB 5 6) 1 = (1, 0) := by decide +kernel
theorem k15 : shorterP (chapB 5 5) 1 = (0, 0) := by decide +kernel
theorem k16 : dropP (chapB 5 5) = ([], 0) := by decide +kernel
end Go.Proofs.YtpjhffockmnjbaaDoor
set_option linter.unusedVariables false
set_option linter.unusedSimpArgs false
namespace Go.Proofs.YtpjhffockmnjbaaDoor
open Go.RowKit
theorem c_isOrder0 (b : Sheet) (fA : Option Addr) (fc : Nat) (rA : Option Addr) (rc : Nat)  (w0 : World) (h : ShIn b fA fc rA rc w0) :
    Calls Tryd.prog 62 #[.agg #[.int .i64 b.wide, .int .i64 b.high, .slice fA b.flaps.length fc, .slice rA b.rules.length rc], .slice none 0 0] w0 (RetX w0 (fun v _ => ∃ t, v = .bool t)) := by
  refine c_enter (n := 36) Tryd.func62 rfl rfl (Nat.le_of_ble_eq_true rfl) ?_; intro a hf; simp only [zipR] at hf
  have hs := St.start w0 [Rd encF 5 fA b.flaps.length b.flaps, Rd encR 2 rA b.rules.length b.rules, Rd encI 1 none 0 []] (stab_app h.stab (show Rd encI 1 none 0 [] w0 from rd_nil).st1)
  have hfm := h.F.2.1; have hrm := h.R.2.1
  refine c_reg ?_
  refine vL hf (v_boxA hf hs rfl) (by decide) ?_; clear hs hf a; rintro _ w ⟨b1, rfl, hs⟩ a hf
  refine gL hf (g_as hf rfl) (by decide) ?_; clear hf a; intro a hf
  refine e_nil ?_
  refine wp_seq ?_
  refine c_reg ?_
  refine gL hf (g_mv hf rfl) (by decide) ?_; clear hf a; intro a hf
  refine gL hf (g_len hf SL27 rfl) (by decide) ?_; clear hf a; intro a hf
  refine gL hf (g_fa (off' := 2) hf F25_2 rfl rfl) (by decide) ?_; clear hf a; intro a hf
  refine gL hf (g_ld hf hs T22 rfl (k := 0) rfl rfl) (by decide) ?_; clear hf a; intro a hf
  refine gL hf (g_len hf SL22 rfl) (by decide) ?_; clear hf a; intro a hf
  refine gL hf (g_neq hf rfl rfl) (by decide) ?_; clear hf a; intro a hf
  refine e_nil ?_
  refine c_cond hf rfl (fun hc1 => ?_) (fun hc1 => ?_)
  · try simp only [decide_eq_true_eq, decide_eq_false_iff_not] at hc1
    refine c_reg ?_
    refine gL hf (g_as hf rfl) (by decide) ?_; clear hf a; intro a hf
    refine e_nil ?_
    refine c_ret (q_thenR ?_)
    refine e_ret1 hf rfl rfl ?_
    exact ⟨_, rfl, hs.below, _, rfl⟩
  · try simp only [decide_eq_true_eq, decide_eq_false_iff_not] at hc1
    refine c_skip (q_thenN ?_)
    refine c_reg ?_
    refine callL hf hs (c_none _) rfl rfl rfl E94 (by decide) ?_; clear hs hf a; intro w a hs hf
    refine vL hf (v_alloc hs T102 rfl) (by decide) ?_; clear hs hf a; rintro _ w ⟨b2, rfl, hs⟩ a hf
    refine uL (u_stW hf hs T102 rfl rfl rfl (k := 0) rfl rfl rfl) ?_; clear hs; intro w hs; dsimp only [List.set] at hs
    refine e_nil ?_
    refine wp_seq ?_
    refine c_reg ?_
    refine gL hf (g_mv hf rfl) (by decide) ?_; clear hf a; intro a hf
    refine gL hf (g_len hf SL27 rfl) (by decide) ?_; clear hf a; intro a hf
    refine gL hf (g_mv hf rfl) (by decide) ?_; clear hf a; intro a hf
    refine e_nil ?_
    refine c_block ?_
    refine c_loop hf hs [4, 7, 17, 18, 19, 20, 21, 22, 23, 24, 25, 26, 27, 28, 29, 30, 31, 32] (σ := Nat) (fun k => [(17, .int .i64 (k : Nat))]) (fun k => _) (fun k => k = 0) (fun k => 0) 0 rfl (.cons rfl .nil) rfl ?_
    intro k a w hJ hf hs
    subst hJ
    refine c_reg ?_
    refine gL hf (g_lss hf rfl rfl) (by decide) ?_; clear hf a; intro a hf
    refine e_nil ?_
    refine c_condS hf rfl (fun hc2 => ?_) (fun hc2 => ?_)
    · skip
      simp at hc2
    · skip
      refine c_exit (q_thenX (q_thenX (q_blkX (q_thenN ?_))))
      refine c_draw _ 4 Mx rfl hs (fun _ h => h) ?_; intro w hs hS
      refine gA hf hS (i := 0) rfl (by kernel_rfl) (fun w hs => g_ldW hf hs T102 rfl (k := 0) rfl rfl) (by decide) ?_; clear hf a; intro a hf
      refine one (i := 1) (by kernel_rfl) ?_
      refine oCall hf hs rfl (c_none _) rfl rfl rfl E94 (by decide) (fun _ h => h.sub (.refl _)) ?_; clear hs hf hS a; intro w a hs hS hf
      refine gA hf hS (i := 2) rfl (by kernel_rfl) (fun w hs => g_neN hf NN102 (show (List.replicate 7 false).length = 7 from rfl) rfl rfl) (by decide) ?_; clear hf a; intro a hf
      refine gA hf hS (i := 3) rfl (by kernel_rfl) (fun w hs => g_as hf rfl) (by decide) ?_; clear hf a; intro a hf
      refine e_done (by kernel_rfl) ?_
      refine c_ret ?_
      refine e_ret1 hf rfl rfl ?_
      exact ⟨_, rfl, hs.below, _, rfl⟩

theorem c_Does0 (b : Sheet) (fA : Option Addr) (fc : Nat) (rA : Option Addr) (rc : Nat) (ge : TypeId) (gz : Nat × Nat) (hck : checkB b = false) (w0 : World) (h : ShIn b fA fc rA rc w0) (hG : BlkIs 0 sidesA ge gz w0) :
    Calls Tryd.prog 19 #[.agg #[.int .i64 b.wide, .int .i64 b.high, .slice fA b.flaps.length fc, .slice rA b.rules.length rc], .slice none 0 0] w0 (Ret w0 (.tuple #[.int .i64 0, .int .i64 40])) := by
  refine c_enter (n := 53) Tryd.func19 rfl rfl (Nat.le_of_ble_eq_true rfl) ?_; intro a hf; simp only [zipR] at hf
  have hs := St.start w0 [Rd encF 5 fA b.flaps.length b.flaps, Rd encR 2 rA b.rules.length b.rules, BlkIs 0 sidesA ge gz] (stab_app h.stab hG.st1)
  have hfm := h.F.2.1; have hrm := h.R.2.1
  refine c_reg ?_
  refine vL hf (v_boxA hf hs rfl) (by decide) ?_; clear hs hf a; rintro _ w ⟨b1, rfl, hs⟩ a hf
  refine gL hf (g_as hf rfl) (by decide) ?_; clear hf a; intro a hf
  refine gL hf (g_as hf rfl) (by decide) ?_; clear hf a; intro a hf
  refine e_nil ?_
  refine c_draw _ 11 Mx rfl hs (fun _ h => h) ?_; intro w hs hS
  refine gA hf hS (i := 0) rfl (by kernel_rfl) (fun w hs => g_ldW hf hs T25 rfl (k := 0) rfl rfl) (by decide) ?_; clear hf a; intro a hf
  refine gA hf hS (i := 1) rfl (by kernel_rfl) (fun w hs => g_ldW hf hs T25 rfl (k := 0) rfl rfl) (by decide) ?_; clear hf a; intro a hf
  refine gA hf hS (i := 2) rfl (by kernel_rfl) (fun w hs => g_mv hf rfl) (by decide) ?_; clear hf a; intro a hf
  refine two (i := 3) (j := 8) (by kernel_rfl) ?_ ?_
  · skip
    refine oCallX hf hs rfl (c_isOrder0 b _ _ _ _ _ ⟨hs.rd (.head _), hs.rd (.tail _ (.head _)), h.fc_, h.rc_⟩) rfl rfl rfl E62 (by decide) (fun _ h => h.sub (.refl _)) ?_; intro v w1 a hR hb hs1 hS hf; obtain ⟨t9, rfl⟩ := hR; replace hs := hs1; clear hs1 hb
    refine two (i := 4) (j := 8) (by kernel_rfl) ?_ ?_
    · skip
      refine oCallX hf hs rfl (c_asked b _ _ _ _ _ _ t9 _ ⟨hs.rd (.head _), hs.rd (.tail _ (.head _)), h.fc_, h.rc_⟩ (hs.rd (.tail _ (.tail _ (.head _))))) rfl rfl rfl E54 (by decide) (fun _ h => h.sub (.refl _)) ?_; intro v w1 a hR hb hs1 hS hf; obtain ⟨cs, mb, mp, rfl, hcl, hcp, hcm⟩ := hR; replace hs := hs.fresh hs1 (condFresh fun he => (hcm he).2.2); clear hs1 hb
      refine gA hf hS (i := 5) rfl (by kernel_rfl) (fun w hs => g_mv hf rfl) (by decide) ?_; clear hf a; intro a hf
      refine gA hf hS (i := 6) rfl (by kernel_rfl) (fun w hs => g_ext hf rfl rfl) (by decide) ?_; clear hf a; intro a hf
      refine gA hf hS (i := 7) rfl (by kernel_rfl) (fun w hs => g_ext hf rfl rfl) (by decide) ?_; clear hf a; intro a hf
      refine one (i := 8) (by kernel_rfl) ?_
      refine oV hf rfl (v_alloc hs T69 rfl) (by decide) (fun _ _ ⟨_, _, h⟩ => (h.sub (.cons _ (.refl _))).subD (fun _ h => (.tail _ h))) ?_; clear hs hf hS a; rintro _ w ⟨b2, rfl, hs⟩ hS a hf
      refine one (i := 9) (by kernel_rfl) ?_
      refine oU rfl (u_stW hf hs T69 rfl rfl hcp (k := 0) rfl hcl hcl) (fun _ h => (h.sub (.cons _ (.refl _))).subD (fun _ h => (.tail _ h))) ?_; clear hs hS; intro w hs hS; dsimp only [List.set] at hs
      refine gA hf hS (i := 10) rfl (by kernel_rfl) (fun w hs => g_as hf rfl) (by decide) ?_; clear hf a; intro a hf
      refine e_done (by kernel_rfl) ?_
      refine wp_seq ?_
      refine c_reg ?_
      refine gL hf (g_mv hf rfl) (by decide) ?_; clear hf a; intro a hf
      refine gL hf (g_neq hf rfl rfl) (by decide) ?_; clear hf a; intro a hf
      refine e_nil ?_
      refine c_cond hf rfl (fun hc1 => ?_) (fun hc1 => ?_)
      · skip
        have hb40 := bad_ask hck t9
        refine c_reg ?_
        refine gL hf (g_mv hf rfl) (by decide) ?_; clear hf a; intro a hf
        refine gL hf (g_as hf rfl) (by decide) ?_; clear hf a; intro a hf
        refine gL hf (g_as hf rfl) (by decide) ?_; clear hf a; intro a hf
        refine e_nil ?_
        refine c_ret (q_thenR ?_)
        refine e_ret2 hf rfl rfl rfl ?_
        exact ⟨by rw [hb40]; rfl, hs.below⟩
      · skip
        rw [bad_ask hck] at hc1; cases hc1
    · skip
      refine oV hf rfl (v_alloc hs T69 rfl) (by decide) (fun _ _ ⟨_, _, h⟩ => h.sub (.cons _ (.refl _))) ?_; clear hs hf hS a; rintro _ w ⟨b2, rfl, hs⟩ hS a hf
      refine one (i := 4) (by kernel_rfl) ?_
      refine oCallX hf hs rfl (c_asked b _ _ _ _ _ _ t9 _ ⟨hs.rd (.head _), hs.rd (.tail _ (.head _)), h.fc_, h.rc_⟩ (hs.rd (.tail _ (.tail _ (.head _))))) rfl rfl rfl E54 (by decide) (fun _ h => h.sub (.cons _ (.refl _))) ?_; intro v w1 a hR hb hs1 hS hf; obtain ⟨cs, mb, mp, rfl, hcl, hcp, hcm⟩ := hR; replace hs := hs.fresh hs1 (condFresh fun he => (hcm he).2.2); clear hs1 hb
      refine gA hf hS (i := 5) rfl (by kernel_rfl) (fun w hs => g_mv hf rfl) (by decide) ?_; clear hf a; intro a hf
      refine gA hf hS (i := 6) rfl (by kernel_rfl) (fun w hs => g_ext hf rfl rfl) (by decide) ?_; clear hf a; intro a hf
      refine gA hf hS (i := 7) rfl (by kernel_rfl) (fun w hs => g_ext hf rfl rfl) (by decide) ?_; clear hf a; intro a hf
      refine one (i := 9) (by kernel_rfl) ?_
      refine oU rfl (u_stW hf hs T69 rfl rfl hcp (k := 0) rfl hcl hcl) (fun _ h => (h.sub (.cons _ (.refl _))).subD (fun _ h => (.tail _ h))) ?_; clear hs hS; intro w hs hS; dsimp only [List.set] at hs
      refine gA hf hS (i := 10) rfl (by kernel_rfl) (fun w hs => g_as hf rfl) (by decide) ?_; clear hf a; intro a hf
      refine e_done (by kernel_rfl) ?_
      refine wp_seq ?_
      refine c_reg ?_
      refine gL hf (g_mv hf rfl) (by decide) ?_; clear hf a; intro a hf
      refine gL hf (g_neq hf rfl rfl) (by decide) ?_; clear hf a; intro a hf
      refine e_nil ?_
      refine c_cond hf rfl (fun hc1 => ?_) (fun hc1 => ?_)
      · skip
        have hb40 := bad_ask hck t9
        refine c_reg ?_
        refine gL hf (g_mv hf rfl) (by decide) ?_; clear hf a; intro a hf
        refine gL hf (g_as hf rfl) (by decide) ?_; clear hf a; intro a hf
        refine gL hf (g_as hf rfl) (by decide) ?_; clear hf a; intro a hf
        refine e_nil ?_
        refine c_ret (q_thenR ?_)
        refine e_ret2 hf rfl rfl rfl ?_
        exact ⟨by rw [hb40]; rfl, hs.below⟩
      · skip
        rw [bad_ask hck] at hc1; cases hc1
  · skip
    refine oV hf rfl (v_alloc hs T69 rfl) (by decide) (fun _ _ ⟨_, _, h⟩ => h.sub (.cons _ (.refl _))) ?_; clear hs hf hS a; rintro _ w ⟨b2, rfl, hs⟩ hS a hf
    refine one (i := 3) (by kernel_rfl) ?_
    refine oCallX hf hs rfl (c_isOrder0 b _ _ _ _ _ ⟨hs.rd (.head _), hs.rd (.tail _ (.head _)), h.fc_, h.rc_⟩) rfl rfl rfl E62 (by decide) (fun _ h => h.sub (.cons _ (.refl _))) ?_; intro v w1 a hR hb hs1 hS hf; obtain ⟨t9, rfl⟩ := hR; replace hs := hs1; clear hs1 hb
    refine one (i := 4) (by kernel_rfl) ?_
    refine oCallX hf hs rfl (c_asked b _ _ _ _ _ _ t9 _ ⟨hs.rd (.head _), hs.rd (.tail _ (.head _)), h.fc_, h.rc_⟩ (hs.rd (.tail _ (.tail _ (.head _))))) rfl rfl rfl E54 (by decide) (fun _ h => h.sub (.cons _ (.refl _))) ?_; intro v w1 a hR hb hs1 hS hf; obtain ⟨cs, mb, mp, rfl, hcl, hcp, hcm⟩ := hR; replace hs := hs.fresh hs1 (condFresh fun he => (hcm he).2.2); clear hs1 hb
    refine gA hf hS (i := 5) rfl (by kernel_rfl) (fun w hs => g_mv hf rfl) (by decide) ?_; clear hf a; intro a hf
    refine gA hf hS (i := 6) rfl (by kernel_rfl) (fun w hs => g_ext hf rfl rfl) (by decide) ?_; clear hf a; intro a hf
    refine gA hf hS (i := 7) rfl (by kernel_rfl) (fun w hs => g_ext hf rfl rfl) (by decide) ?_; clear hf a; intro a hf
    refine one (i := 9) (by kernel_rfl) ?_
    refine oU rfl (u_stW hf hs T69 rfl rfl hcp (k := 0) rfl hcl hcl) (fun _ h => (h.sub (.cons _ (.refl _))).subD (fun _ h => (.tail _ h))) ?_; clear hs hS; intro w hs hS; dsimp only [List.set] at hs
    refine gA hf hS (i := 10) rfl (by kernel_rfl) (fun w hs => g_as hf rfl) (by decide) ?_; clear hf a; intro a hf
    refine e_done (by kernel_rfl) ?_
    refine wp_seq ?_
    refine c_reg ?_
    refine gL hf (g_mv hf rfl) (by decide) ?_; clear hf a; intro a hf
    refine gL hf (g_neq hf rfl rfl) (by decide) ?_; clear hf a; intro a hf
    refine e_nil ?_
    refine c_cond hf rfl (fun hc1 => ?_) (fun hc1 => ?_)
    · skip
      have hb40 := bad_ask hck t9
      refine c_reg ?_
      refine gL hf (g_mv hf rfl) (by decide) ?_; clear hf a; intro a hf
      refine gL hf (g_as hf rfl) (by decide) ?_; clear hf a; intro a hf
      refine gL hf (g_as hf rfl) (by decide) ?_; clear hf a; intro a hf
      refine e_nil ?_
      refine c_ret (q_thenR ?_)
      refine e_ret2 hf rfl rfl rfl ?_
      exact ⟨by rw [hb40]; rfl, hs.below⟩
    · skip
      rw [bad_ask hck] at hc1; cases hc1

end Go.Proofs.YtpjhffockmnjbaaDoor
set_option linter.unusedVariables false
set_option linter.unusedSimpArgs false
namespace Go.Proofs.YtpjhffockmnjbaaDoor
open Go.RowKit
set_option maxHeartbeats 8000000 in
set_option maxRecDepth 100000 in
theorem c_FoldKnown (ge : TypeId) (gz : Nat × Nat) (w0 : World) (hG : BlkIs 0 sidesA ge gz w0) :
    Calls Tryd.prog 14 #[] w0 (Ret w0 (.bool true)) := by
  refine c_enter (n := 463) Tryd.func14 rfl rfl (Nat.le_of_ble_eq_true rfl) ?_; intro a hf; simp only [zipR] at hf
  have hs := St.start w0 [BlkIs 0 sidesA ge gz] hG.st1
  refine c_reg ?_
  refine gL hf (g_as hf rfl) (by decide) ?_; clear hf a; intro a hf
  refine e_nil ?_
  refine c_reg ?_
  refine gL hf (g_bld hf [[.int .i64 0], [.int .i64 0], [.slice none 0 0], [.slice none 0 0]] .nil (fun _ => by kernel_rfl)) (by decide) ?_; clear hf a; intro a hf
  refine callX hf hs (c_ringed _) rfl rfl rfl E51 (by decide) ?_; intro v w1 a hR hb hs1 hf; obtain ⟨bf1, br1, rfl, q1, q2, q3, q4, q5⟩ := hR; replace hs := hs.adopt2 hb q1 q4 q2 q5 q3; clear hs1 hb
  refine callX hf hs (c_ringed _) rfl rfl rfl E51 (by decide) ?_; intro v w1 a hR hb hs1 hf; obtain ⟨bf2, br2, rfl, q1, q2, q3, q4, q5⟩ := hR; replace hs := hs.adopt2 hb q1 q4 q2 q5 q3; clear hs1 hb
  refine callX hf hs (c_ringed _) rfl rfl rfl E51 (by decide) ?_; intro v w1 a hR hb hs1 hf; obtain ⟨bf3, br3, rfl, q1, q2, q3, q4, q5⟩ := hR; replace hs := hs.adopt2 hb q1 q4 q2 q5 q3; clear hs1 hb
  refine callX hf hs (c_ringed _) rfl rfl rfl E51 (by decide) ?_; intro v w1 a hR hb hs1 hf; obtain ⟨bf4, br4, rfl, q1, q2, q3, q4, q5⟩ := hR; replace hs := hs.adopt2 hb q1 q4 q2 q5 q3; clear hs1 hb
  refine callX hf hs (c_ringed _) rfl rfl rfl E51 (by decide) ?_; intro v w1 a hR hb hs1 hf; obtain ⟨bf5, br5, rfl, q1, q2, q3, q4, q5⟩ := hR; replace hs := hs.adopt2 hb q1 q4 q2 q5 q3; clear hs1 hb
  refine callX hf hs (c_ringed _) rfl rfl rfl E51 (by decide) ?_; intro v w1 a hR hb hs1 hf; obtain ⟨bf6, br6, rfl, q1, q2, q3, q4, q5⟩ := hR; replace hs := hs.adopt2 hb q1 q4 q2 q5 q3; clear hs1 hb
  refine callX hf hs (c_ringed _) rfl rfl rfl E51 (by decide) ?_; intro v w1 a hR hb hs1 hf; obtain ⟨bf7, br7, rfl, q1, q2, q3, q4, q5⟩ := hR; replace hs := hs.adopt2 hb q1 q4 q2 q5 q3; clear hs1 hb
  refine callX hf hs (c_ringed _) rfl rfl rfl E51 (by decide) ?_; intro v w1 a hR hb hs1 hf; obtain ⟨bf8, br8, rfl, q1, q2, q3, q4, q5⟩ := hR; replace hs := hs.adopt2 hb q1 q4 q2 q5 q3; clear hs1 hb
  refine callX hf hs (c_ringed _) rfl rfl rfl E51 (by decide) ?_; intro v w1 a hR hb hs1 hf; obtain ⟨bf9, br9, rfl, q1, q2, q3, q4, q5⟩ := hR; replace hs := hs.adopt2 hb q1 q4 q2 q5 q3; clear hs1 hb
  refine callX hf hs (c_ringed _) rfl rfl rfl E51 (by decide) ?_; intro v w1 a hR hb hs1 hf; obtain ⟨bf10, br10, rfl, q1, q2, q3, q4, q5⟩ := hR; replace hs := hs.adopt2 hb q1 q4 q2 q5 q3; clear hs1 hb
  refine vL hf (v_lits (len := 11) hf hs SL61 T25 (.cons rfl (.cons rfl (.cons rfl (.cons rfl (.cons rfl (.cons rfl (.cons rfl (.cons rfl (.cons rfl (.cons rfl (.cons rfl .nil))))))))))) rfl rfl rfl rfl (by decide) rfl) (by decide) ?_; clear hs hf a; rintro _ w ⟨ba, rfl, hs⟩ a hf
  refine gL hf (g_as hf rfl) (by decide) ?_; clear hf a; intro a hf
  refine e_nil ?_
  refine c_reg ?_
  refine gL hf (g_mv hf rfl) (by decide) ?_; clear hf a; intro a hf
  refine gL hf (g_ixOc (off' := 4) hf SL61 rfl rfl (by omega) rfl) (by decide) ?_; clear hf a; intro a hf
  refine gL hf (g_fa (off' := 4) hf F25_0 rfl rfl) (by decide) ?_; clear hf a; intro a hf
  refine uL (u_st hf hs T3 rfl rfl rfl (k := 0) rfl (Nat.le_of_ble_eq_true rfl)) ?_; clear hs; intro w hs; dsimp only [List.set] at hs
  refine e_nil ?_
  refine c_reg ?_
  refine gL hf (g_mv hf rfl) (by decide) ?_; clear hf a; intro a hf
  refine gL hf (g_ixOc (off' := 8) hf SL61 rfl rfl (by omega) rfl) (by decide) ?_; clear hf a; intro a hf
  refine gL hf (g_fa (off' := 10) hf F25_2 rfl rfl) (by decide) ?_; clear hf a; intro a hf
  refine gL hf (g_ld hf hs T22 rfl (k := 0) rfl rfl) (by decide) ?_; clear hf a; intro a hf
  refine gL hf (g_ixOc (off' := 0) hf SL22 rfl rfl (by omega) rfl) (by decide) ?_; clear hf a; intro a hf
  refine gL hf (g_fa (off' := 0) hf F49_0 rfl rfl) (by decide) ?_; clear hf a; intro a hf
  refine uL (u_st hf hs T3 rfl rfl rfl (k := 17) rfl (Nat.le_of_ble_eq_true rfl)) ?_; clear hs; intro w hs; dsimp only [List.set] at hs
  refine e_nil ?_
  refine c_draw _ 8 Mx rfl hs (fun _ h => h.sub (.cons_cons _ (.cons_cons _ (.cons_cons _ (.cons_cons _ (.cons_cons _ (.cons_cons _ (.cons_cons _ (.cons_cons _ (.cons_cons _ (.cons_cons _ (.cons_cons _ (.cons_cons _ (.cons_cons _ (.cons_cons _ (.cons_cons _ (.cons _ (.refl _)))))))))))))))))) ?_; intro w hs hS
  refine gA hf hS (i := 0) rfl (by kernel_rfl) (fun w hs => g_mv hf rfl) (by decide) ?_; clear hf a; intro a hf
  refine gA hf hS (i := 1) rfl (by kernel_rfl) (fun w hs => g_ixOc (off' := 12) hf SL61 rfl rfl (by omega) rfl) (by decide) ?_; clear hf a; intro a hf
  refine gA hf hS (i := 2) rfl (by kernel_rfl) (fun w hs => g_fa (off' := 14) hf F25_2 rfl rfl) (by decide) ?_; clear hf a; intro a hf
  refine gA hf hS (i := 3) rfl (by kernel_rfl) (fun w hs => g_ld hf hs T22 rfl (k := 0) rfl rfl) (by decide) ?_; clear hf a; intro a hf
  refine one (i := 4) (by kernel_rfl) ?_
  refine oCall hf hs rfl (c_Sp _ _ _) rfl rfl rfl E52 (by decide) (fun _ h => h.sub (.cons_cons _ (.cons_cons _ (.cons_cons _ (.cons_cons _ (.cons_cons _ (.cons_cons _ (.cons_cons _ (.cons_cons _ (.cons_cons _ (.cons_cons _ (.cons_cons _ (.cons_cons _ (.cons_cons _ (.cons_cons _ (.cons_cons _ (.cons _ (.refl _)))))))))))))))))) ?_; clear hs hf hS a; intro w a hs hS hf
  refine gA hf hS (i := 5) rfl (by kernel_rfl) (fun w hs => g_ixOc (off' := 0) hf SL22 rfl rfl (by omega) rfl) (by decide) ?_; clear hf a; intro a hf
  refine gA hf hS (i := 6) rfl (by kernel_rfl) (fun w hs => g_fa (off' := 1) hf F49_1 rfl rfl) (by decide) ?_; clear hf a; intro a hf
  refine one (i := 7) (by kernel_rfl) ?_
  refine oU rfl (u_stA hf hs T47 rfl rfl rfl (k := 15) rfl rfl (by decide)) (fun _ h => h.sub (.cons_cons _ (.cons_cons _ (.cons_cons _ (.cons_cons _ (.cons_cons _ (.cons_cons _ (.cons_cons _ (.cons_cons _ (.cons_cons _ (.cons_cons _ (.cons_cons _ (.cons_cons _ (.cons_cons _ (.cons_cons _ (.cons_cons _ (.cons _ (.refl _)))))))))))))))))) ?_; clear hs hS; intro w hs hS; dsimp only [List.set, splat] at hs
  refine e_done (by kernel_rfl) ?_
  refine c_draw _ 8 Mx rfl hs (fun _ h => h.sub (.cons_cons _ (.cons_cons _ (.cons_cons _ (.cons_cons _ (.cons_cons _ (.cons_cons _ (.cons_cons _ (.cons_cons _ (.cons_cons _ (.cons_cons _ (.cons_cons _ (.cons_cons _ (.cons_cons _ (.cons _ (.refl _)))))))))))))))) ?_; intro w hs hS
  refine gA hf hS (i := 0) rfl (by kernel_rfl) (fun w hs => g_mv hf rfl) (by decide) ?_; clear hf a; intro a hf
  refine gA hf hS (i := 1) rfl (by kernel_rfl) (fun w hs => g_ixOc (off' := 16) hf SL61 rfl rfl (by omega) rfl) (by decide) ?_; clear hf a; intro a hf
  refine gA hf hS (i := 2) rfl (by kernel_rfl) (fun w hs => g_fa (off' := 18) hf F25_2 rfl rfl) (by decide) ?_; clear hf a; intro a hf
  refine gA hf hS (i := 3) rfl (by kernel_rfl) (fun w hs => g_ld hf hs T22 rfl (k := 0) rfl rfl) (by decide) ?_; clear hf a; intro a hf
  refine one (i := 4) (by kernel_rfl) ?_
  refine oCall hf hs rfl (c_Sp _ _ _) rfl rfl rfl E52 (by decide) (fun _ h => h.sub (.cons_cons _ (.cons_cons _ (.cons_cons _ (.cons_cons _ (.cons_cons _ (.cons_cons _ (.cons_cons _ (.cons_cons _ (.cons_cons _ (.cons_cons _ (.cons_cons _ (.cons_cons _ (.cons_cons _ (.cons _ (.refl _)))))))))))))))) ?_; clear hs hf hS a; intro w a hs hS hf
  refine gA hf hS (i := 5) rfl (by kernel_rfl) (fun w hs => g_ixOc (off' := 10) hf SL22 rfl rfl (by omega) rfl) (by decide) ?_; clear hf a; intro a hf
  refine gA hf hS (i := 6) rfl (by kernel_rfl) (fun w hs => g_fa (off' := 11) hf F49_1 rfl rfl) (by decide) ?_; clear hf a; intro a hf
  refine one (i := 7) (by kernel_rfl) ?_
  refine oU rfl (u_stA hf hs T47 rfl rfl rfl (k := 13) rfl rfl (by decide)) (fun _ h => h.sub (.cons_cons _ (.cons_cons _ (.cons_cons _ (.cons_cons _ (.cons_cons _ (.cons_cons _ (.cons_cons _ (.cons_cons _ (.cons_cons _ (.cons_cons _ (.cons_cons _ (.cons_cons _ (.cons_cons _ (.cons _ (.refl _)))))))))))))))) ?_; clear hs hS; intro w hs hS; dsimp only [List.set, splat] at hs
  refine e_done (by kernel_rfl) ?_
  refine c_draw _ 8 Mx rfl hs (fun _ h => h.sub (.cons_cons _ (.cons_cons _ (.cons_cons _ (.cons_cons _ (.cons_cons _ (.cons_cons _ (.cons_cons _ (.cons_cons _ (.cons_cons _ (.cons_cons _ (.cons_cons _ (.cons _ (.refl _)))))))))))))) ?_; intro w hs hS
  refine gA hf hS (i := 0) rfl (by kernel_rfl) (fun w hs => g_mv hf rfl) (by decide) ?_; clear hf a; intro a hf
  refine gA hf hS (i := 1) rfl (by kernel_rfl) (fun w hs => g_ixOc (off' := 20) hf SL61 rfl rfl (by omega) rfl) (by decide) ?_; clear hf a; intro a hf
  refine gA hf hS (i := 2) rfl (by kernel_rfl) (fun w hs => g_fa (off' := 22) hf F25_2 rfl rfl) (by decide) ?_; clear hf a; intro a hf
  refine gA hf hS (i := 3) rfl (by kernel_rfl) (fun w hs => g_ld hf hs T22 rfl (k := 0) rfl rfl) (by decide) ?_; clear hf a; intro a hf
  refine one (i := 4) (by kernel_rfl) ?_
  refine oCall hf hs rfl (c_Sp _ _ _) rfl rfl rfl E52 (by decide) (fun _ h => h.sub (.cons_cons _ (.cons_cons _ (.cons_cons _ (.cons_cons _ (.cons_cons _ (.cons_cons _ (.cons_cons _ (.cons_cons _ (.cons_cons _ (.cons_cons _ (.cons_cons _ (.cons _ (.refl _)))))))))))))) ?_; clear hs hf hS a; intro w a hs hS hf
  refine gA hf hS (i := 5) rfl (by kernel_rfl) (fun w hs => g_ixOc (off' := 5) hf SL22 rfl rfl (by omega) rfl) (by decide) ?_; clear hf a; intro a hf
  refine gA hf hS (i := 6) rfl (by kernel_rfl) (fun w hs => g_fa (off' := 8) hf F49_2 rfl rfl) (by decide) ?_; clear hf a; intro a hf
  refine one (i := 7) (by kernel_rfl) ?_
  refine oU rfl (u_stA hf hs T47 rfl rfl rfl (k := 11) rfl rfl (by decide)) (fun _ h => h.sub (.cons_cons _ (.cons_cons _ (.cons_cons _ (.cons_cons _ (.cons_cons _ (.cons_cons _ (.cons_cons _ (.cons_cons _ (.cons_cons _ (.cons_cons _ (.cons_cons _ (.cons _ (.refl _)))))))))))))) ?_; clear hs hS; intro w hs hS; dsimp only [List.set, splat] at hs
  refine e_done (by kernel_rfl) ?_
  refine c_draw _ 8 Mx rfl hs (fun _ h => h.sub (.cons_cons _ (.cons_cons _ (.cons_cons _ (.cons_cons _ (.cons_cons _ (.cons_cons _ (.cons_cons _ (.cons_cons _ (.cons_cons _ (.cons _ (.refl _)))))))))))) ?_; intro w hs hS
  refine gA hf hS (i := 0) rfl (by kernel_rfl) (fun w hs => g_mv hf rfl) (by decide) ?_; clear hf a; intro a hf
  refine gA hf hS (i := 1) rfl (by kernel_rfl) (fun w hs => g_ixOc (off' := 24) hf SL61 rfl rfl (by omega) rfl) (by decide) ?_; clear hf a; intro a hf
  refine gA hf hS (i := 2) rfl (by kernel_rfl) (fun w hs => g_fa (off' := 26) hf F25_2 rfl rfl) (by decide) ?_; clear hf a; intro a hf
  refine gA hf hS (i := 3) rfl (by kernel_rfl) (fun w hs => g_ld hf hs T22 rfl (k := 0) rfl rfl) (by decide) ?_; clear hf a; intro a hf
  refine one (i := 4) (by kernel_rfl) ?_
  refine oCall hf hs rfl (c_Sp _ _ _) rfl rfl rfl E52 (by decide) (fun _ h => h.sub (.cons_cons _ (.cons_cons _ (.cons_cons _ (.cons_cons _ (.cons_cons _ (.cons_cons _ (.cons_cons _ (.cons_cons _ (.cons_cons _ (.cons _ (.refl _)))))))))))) ?_; clear hs hf hS a; intro w a hs hS hf
  refine gA hf hS (i := 5) rfl (by kernel_rfl) (fun w hs => g_ixOc (off' := 5) hf SL22 rfl rfl (by omega) rfl) (by decide) ?_; clear hf a; intro a hf
  refine gA hf hS (i := 6) rfl (by kernel_rfl) (fun w hs => g_fa (off' := 6) hf F49_1 rfl rfl) (by decide) ?_; clear hf a; intro a hf
  refine one (i := 7) (by kernel_rfl) ?_
  refine oU rfl (u_stA hf hs T47 rfl rfl rfl (k := 9) rfl rfl (by decide)) (fun _ h => h.sub (.cons_cons _ (.cons_cons _ (.cons_cons _ (.cons_cons _ (.cons_cons _ (.cons_cons _ (.cons_cons _ (.cons_cons _ (.cons_cons _ (.cons _ (.refl _)))))))))))) ?_; clear hs hS; intro w hs hS; dsimp only [List.set, splat] at hs
  refine e_done (by kernel_rfl) ?_
  refine c_reg ?_
  refine gL hf (g_mv hf rfl) (by decide) ?_; clear hf a; intro a hf
  refine gL hf (g_ixOc (off' := 28) hf SL61 rfl rfl (by omega) rfl) (by decide) ?_; clear hf a; intro a hf
  refine gL hf (g_fa (off' := 31) hf F25_3 rfl rfl) (by decide) ?_; clear hf a; intro a hf
  refine gL hf (g_ld hf hs T23 rfl (k := 0) rfl rfl) (by decide) ?_; clear hf a; intro a hf
  refine gL hf (g_ixOc (off' := 0) hf SL23 rfl rfl (by omega) rfl) (by decide) ?_; clear hf a; intro a hf
  refine gL hf (g_fa (off' := 0) hf F64_0 rfl rfl) (by decide) ?_; clear hf a; intro a hf
  refine uL (u_st hf hs T3 rfl rfl rfl (k := 8) rfl (Nat.le_of_ble_eq_true rfl)) ?_; clear hs; intro w hs; dsimp only [List.set] at hs
  refine e_nil ?_
  refine c_reg ?_
  refine gL hf (g_mv hf rfl) (by decide) ?_; clear hf a; intro a hf
  refine gL hf (g_ixOc (off' := 32) hf SL61 rfl rfl (by omega) rfl) (by decide) ?_; clear hf a; intro a hf
  refine gL hf (g_fa (off' := 35) hf F25_3 rfl rfl) (by decide) ?_; clear hf a; intro a hf
  refine gL hf (g_ld hf hs T23 rfl (k := 0) rfl rfl) (by decide) ?_; clear hf a; intro a hf
  refine gL hf (g_ixOc (off' := 0) hf SL23 rfl rfl (by omega) rfl) (by decide) ?_; clear hf a; intro a hf
  refine gL hf (g_fa (off' := 1) hf F64_1 rfl rfl) (by decide) ?_; clear hf a; intro a hf
  refine uL (u_st hf hs T3 rfl rfl rfl (k := 6) rfl (Nat.le_of_ble_eq_true rfl)) ?_; clear hs; intro w hs; dsimp only [List.set] at hs
  refine e_nil ?_
  refine c_drawJ _ 16 (fun a w => ∃ b9x cs9x, AccOK encR 2 ((chapB 5 6).rules ++ [⟨2, 1⟩]) (some (b9x, cs9x)) ∧ Fr [] a 463 [(1, .slice (some ⟨ba, 0, none⟩) 11 11), (0, .bool false)] ∧ St (Base.of w0) [BlkIs 0 sidesA ge gz] [(b9x, .cells cs9x 64 (0, 0)), (ba, .cells #[.int .i64 0, .int .i64 0, .slice none 0 0, .slice none 0 0, .int .i64 100, .int .i64 8, .slice (some ⟨bf1, 0, none⟩) 4 4, .slice (some ⟨br1, 0, none⟩) 4 4, .int .i64 10, .int .i64 8, .slice (some ⟨bf2, 0, none⟩) 4 4, .slice (some ⟨br2, 0, none⟩) 4 4, .int .i64 10, .int .i64 8, .slice (some ⟨bf3, 0, none⟩) 4 4, .slice (some ⟨br3, 0, none⟩) 4 4, .int .i64 10, .int .i64 8, .slice (some ⟨bf4, 0, none⟩) 4 4, .slice (some ⟨br4, 0, none⟩) 4 4, .int .i64 10, .int .i64 8, .slice (some ⟨bf5, 0, none⟩) 4 4, .slice (some ⟨br5, 0, none⟩) 4 4, .int .i64 10, .int .i64 8, .slice (some ⟨bf6, 0, none⟩) 4 4, .slice (some ⟨br6, 0, none⟩) 4 4, .int .i64 10, .int .i64 8, .slice (some ⟨bf7, 0, none⟩) 4 4, .slice (some ⟨br7, 0, none⟩) 4 4, .int .i64 10, .int .i64 8, .slice (some ⟨bf8, 0, none⟩) 4 4, .slice (some ⟨br8, 0, none⟩) 4 4, .int .i64 10, .int .i64 8, .slice (some ⟨bf9, 0, none⟩) 4 4, .slice (some ⟨b9x, 0, none⟩) (4 + 1) (cs9x.size / 2), .int .i64 10, .int .i64 8, .slice (some ⟨bf10, 0, none⟩) 4 4, .slice (some ⟨br10, 0, none⟩) 4 4] 25 (0, 0)), (bf10, .cells ((chF 5 6)) 49 (0, 0)), (br10, .cells (chR) 64 (0, 0)), (bf9, .cells ((chF 5 6)) 49 (0, 0)), (br9, .cells (chR) 64 (0, 0)), (bf8, .cells ((chF 5 6)) 49 (0, 0)), (br8, .cells (chR.setIfInBounds 1 (.int .i64 4)) 64 (0, 0)), (bf7, .cells ((chF 5 6)) 49 (0, 0)), (br7, .cells (chR.setIfInBounds 0 (.int .i64 0)) 64 (0, 0)), (bf6, .cells (((chF 5 6).setIfInBounds 6 (.int .i64 0)).setIfInBounds 7 (.int .i64 5)) 49 (0, 0)), (br6, .cells (chR) 64 (0, 0)), (bf5, .cells (((chF 5 6).setIfInBounds 8 (.int .i64 0)).setIfInBounds 9 (.int .i64 8)) 49 (0, 0)), (br5, .cells (chR) 64 (0, 0)), (bf4, .cells (((chF 5 6).setIfInBounds 11 (.int .i64 3)).setIfInBounds 12 (.int .i64 9)) 49 (0, 0)), (br4, .cells (chR) 64 (0, 0)), (bf3, .cells (((chF 5 6).setIfInBounds 1 (.int .i64 5)).setIfInBounds 2 (.int .i64 11)) 49 (0, 0)), (br3, .cells (chR) 64 (0, 0)), (bf2, .cells ((chF 5 6).setIfInBounds 0 (.int .i64 4)) 49 (0, 0)), (br2, .cells (chR) 64 (0, 0)), (bf1, .cells ((chF 5 6)) 49 (0, 0)), (br1, .cells (chR) 64 (0, 0))] w) Mx rfl hs (fun _ h => h.sub (.cons _ (.refl _))) ?_ ?_
  · intro w hs hS
    refine gA hf hS (i := 0) rfl (by kernel_rfl) (fun w hs => g_mv hf rfl) (by decide) ?_; clear hf a; intro a hf
    refine gA hf hS (i := 1) rfl (by kernel_rfl) (fun w hs => g_mv hf rfl) (by decide) ?_; clear hf a; intro a hf
    refine gA hf hS (i := 2) rfl (by kernel_rfl) (fun w hs => g_ixOc (off' := 36) hf SL61 rfl rfl (by omega) rfl) (by decide) ?_; clear hf a; intro a hf
    refine gA hf hS (i := 3) rfl (by kernel_rfl) (fun w hs => g_fa (off' := 39) hf F25_3 rfl rfl) (by decide) ?_; clear hf a; intro a hf
    refine gA hf hS (i := 5) rfl (by kernel_rfl) (fun w hs => g_mv hf rfl) (by decide) ?_; clear hf a; intro a hf
    refine gA hf hS (i := 6) rfl (by kernel_rfl) (fun w hs => g_ixOc (off' := 36) hf SL61 rfl rfl (by omega) rfl) (by decide) ?_; clear hf a; intro a hf
    refine gA hf hS (i := 7) rfl (by kernel_rfl) (fun w hs => g_fa (off' := 39) hf F25_3 rfl rfl) (by decide) ?_; clear hf a; intro a hf
    refine two (i := 4) (j := 8) (by kernel_rfl) ?_ ?_
    · skip
      refine oV hf rfl (goesV_of_gets (g_ld hf hs T23 rfl (k := 0) rfl rfl)) (by decide) (fun _ _ h => by rw [h.2]; exact hS) ?_; rintro _ w ⟨rfl, rfl⟩ hS a hf
      refine one (i := 8) (by kernel_rfl) ?_
      refine oV hf rfl (goesV_of_gets (g_ld hf hs T23 rfl (k := 0) rfl rfl)) (by decide) (fun _ _ h => by rw [h.2]; exact hS) ?_; rintro _ w ⟨rfl, rfl⟩ hS a hf
      refine gA hf hS (i := 9) rfl (by kernel_rfl) (fun w hs => g_ixOc (off' := 2) hf SL23 rfl rfl (by omega) rfl) (by decide) ?_; clear hf a; intro a hf
      refine gA hf hS (i := 10) rfl (by kernel_rfl) (fun w hs => g_ldP hf hs T64 rfl (k := 3) rfl rfl) (by decide) ?_; clear hf a; intro a hf
      refine one (i := 11) (by kernel_rfl) ?_
      refine oV hf rfl (v_lits (len := 1) hf hs SL23 T64 (.cons rfl .nil) rfl rfl rfl rfl (by decide) rfl) (by decide) (fun _ _ ⟨_, _, h⟩ => h.sub (.cons _ (.cons _ (.refl _)))) ?_; clear hs hf hS a; rintro _ w ⟨b2, rfl, hs⟩ hS a hf
      refine one (i := 12) (by kernel_rfl) ?_
      refine oV hf rfl (v_app hf hs AP23 (enc := encR) (fun _ => rfl) (by decide) rfl rfl (l := (chapB 5 6).rules) (l' := [⟨2, 1⟩]) (rd_of_flat (sz := 2) (len := 4) (fun _ => rfl) (by decide) (hs.own _ _ (.tail _ (.tail _ (.tail _ (.tail _ (.tail _ (.head _))))))).2 rfl (by decide) rfl) (rd_single (enc := encR) rfl (hs.own _ _ (.head _)).2) (by omega) (Nat.le_refl _) (fun e => by cases e) (by omega) (by decide)) (by decide) (fun _ _ ⟨_, _, _, _, h⟩ => h.sub (.cons _ (.cons _ (.cons _ (.refl _))))) ?_; clear hs hf hS a; rintro _ w ⟨b9x, cs9x, rfl, hok9, hs⟩ hS a hf
      refine gA hf hS (i := 13) rfl (by kernel_rfl) (fun w hs => g_ixOc (off' := 36) hf SL61 rfl rfl (by omega) rfl) (by decide) ?_; clear hf a; intro a hf
      refine gA hf hS (i := 14) rfl (by kernel_rfl) (fun w hs => g_fa (off' := 39) hf F25_3 rfl rfl) (by decide) ?_; clear hf a; intro a hf
      refine one (i := 15) (by kernel_rfl) ?_
      refine oU rfl (u_st hf hs T23 rfl rfl rfl (k := 2) rfl (Nat.le_of_ble_eq_true rfl)) (fun _ h => h.sub (.cons _ (.cons _ (.cons _ (.refl _))))) ?_; clear hs hS; intro w hs hS; dsimp only [List.set] at hs
      refine e_doneJ (by kernel_rfl) ?_
      exact ⟨b9x, cs9x, hok9, hf.only (.cons rfl (.cons rfl .nil)), hs.sub (.cons_cons _ (.cons _ (.refl _)))⟩
    · skip
      refine oV hf rfl (goesV_of_gets (g_ld hf hs T23 rfl (k := 0) rfl rfl)) (by decide) (fun _ _ h => by rw [h.2]; exact hS) ?_; rintro _ w ⟨rfl, rfl⟩ hS a hf
      refine gA hf hS (i := 9) rfl (by kernel_rfl) (fun w hs => g_ixOc (off' := 2) hf SL23 rfl rfl (by omega) rfl) (by decide) ?_; clear hf a; intro a hf
      refine gA hf hS (i := 10) rfl (by kernel_rfl) (fun w hs => g_ldP hf hs T64 rfl (k := 3) rfl rfl) (by decide) ?_; clear hf a; intro a hf
      refine two (i := 4) (j := 11) (by kernel_rfl) ?_ ?_
      · skip
        refine oV hf rfl (goesV_of_gets (g_ld hf hs T23 rfl (k := 0) rfl rfl)) (by decide) (fun _ _ h => by rw [h.2]; exact hS) ?_; rintro _ w ⟨rfl, rfl⟩ hS a hf
        refine one (i := 11) (by kernel_rfl) ?_
        refine oV hf rfl (v_lits (len := 1) hf hs SL23 T64 (.cons rfl .nil) rfl rfl rfl rfl (by decide) rfl) (by decide) (fun _ _ ⟨_, _, h⟩ => h.sub (.cons _ (.cons _ (.refl _)))) ?_; clear hs hf hS a; rintro _ w ⟨b2, rfl, hs⟩ hS a hf
        refine one (i := 12) (by kernel_rfl) ?_
        refine oV hf rfl (v_app hf hs AP23 (enc := encR) (fun _ => rfl) (by decide) rfl rfl (l := (chapB 5 6).rules) (l' := [⟨2, 1⟩]) (rd_of_flat (sz := 2) (len := 4) (fun _ => rfl) (by decide) (hs.own _ _ (.tail _ (.tail _ (.tail _ (.tail _ (.tail _ (.head _))))))).2 rfl (by decide) rfl) (rd_single (enc := encR) rfl (hs.own _ _ (.head _)).2) (by omega) (Nat.le_refl _) (fun e => by cases e) (by omega) (by decide)) (by decide) (fun _ _ ⟨_, _, _, _, h⟩ => h.sub (.cons _ (.cons _ (.cons _ (.refl _))))) ?_; clear hs hf hS a; rintro _ w ⟨b9x, cs9x, rfl, hok9, hs⟩ hS a hf
        refine gA hf hS (i := 13) rfl (by kernel_rfl) (fun w hs => g_ixOc (off' := 36) hf SL61 rfl rfl (by omega) rfl) (by decide) ?_; clear hf a; intro a hf
        refine gA hf hS (i := 14) rfl (by kernel_rfl) (fun w hs => g_fa (off' := 39) hf F25_3 rfl rfl) (by decide) ?_; clear hf a; intro a hf
        refine one (i := 15) (by kernel_rfl) ?_
        refine oU rfl (u_st hf hs T23 rfl rfl rfl (k := 2) rfl (Nat.le_of_ble_eq_true rfl)) (fun _ h => h.sub (.cons _ (.cons _ (.cons _ (.refl _))))) ?_; clear hs hS; intro w hs hS; dsimp only [List.set] at hs
        refine e_doneJ (by kernel_rfl) ?_
        exact ⟨b9x, cs9x, hok9, hf.only (.cons rfl (.cons rfl .nil)), hs.sub (.cons_cons _ (.cons _ (.refl _)))⟩
      · skip
        refine oV hf rfl (v_lits (len := 1) hf hs SL23 T64 (.cons rfl .nil) rfl rfl rfl rfl (by decide) rfl) (by decide) (fun _ _ ⟨_, _, h⟩ => h.sub (.cons _ (.cons _ (.refl _)))) ?_; clear hs hf hS a; rintro _ w ⟨b2, rfl, hs⟩ hS a hf
        refine one (i := 4) (by kernel_rfl) ?_
        refine oV hf rfl (goesV_of_gets (g_ld hf hs T23 rfl (k := 1) rfl rfl)) (by decide) (fun _ _ h => by rw [h.2]; exact hS) ?_; rintro _ w ⟨rfl, rfl⟩ hS a hf
        refine one (i := 12) (by kernel_rfl) ?_
        refine oV hf rfl (v_app hf hs AP23 (enc := encR) (fun _ => rfl) (by decide) rfl rfl (l := (chapB 5 6).rules) (l' := [⟨2, 1⟩]) (rd_of_flat (sz := 2) (len := 4) (fun _ => rfl) (by decide) (hs.own _ _ (.tail _ (.tail _ (.tail _ (.tail _ (.tail _ (.head _))))))).2 rfl (by decide) rfl) (rd_single (enc := encR) rfl (hs.own _ _ (.head _)).2) (by omega) (Nat.le_refl _) (fun e => by cases e) (by omega) (by decide)) (by decide) (fun _ _ ⟨_, _, _, _, h⟩ => h.sub (.cons _ (.cons _ (.cons _ (.refl _))))) ?_; clear hs hf hS a; rintro _ w ⟨b9x, cs9x, rfl, hok9, hs⟩ hS a hf
        refine gA hf hS (i := 13) rfl (by kernel_rfl) (fun w hs => g_ixOc (off' := 36) hf SL61 rfl rfl (by omega) rfl) (by decide) ?_; clear hf a; intro a hf
        refine gA hf hS (i := 14) rfl (by kernel_rfl) (fun w hs => g_fa (off' := 39) hf F25_3 rfl rfl) (by decide) ?_; clear hf a; intro a hf
        refine one (i := 15) (by kernel_rfl) ?_
        refine oU rfl (u_st hf hs T23 rfl rfl rfl (k := 2) rfl (Nat.le_of_ble_eq_true rfl)) (fun _ h => h.sub (.cons _ (.cons _ (.cons _ (.refl _))))) ?_; clear hs hS; intro w hs hS; dsimp only [List.set] at hs
        refine e_doneJ (by kernel_rfl) ?_
        exact ⟨b9x, cs9x, hok9, hf.only (.cons rfl (.cons rfl .nil)), hs.sub (.cons_cons _ (.cons _ (.refl _)))⟩
  · intro a w hJ9; obtain ⟨b9x, cs9x, hok9, hf, hs⟩ := hJ9
    refine c_drawJ _ 13 (fun a w => ∃ b10x cs10x, AccOK encF 5 ((chapB 5 6).flaps ++ (chapB 5 6).flaps) (some (b10x, cs10x)) ∧ Fr [] a 463 [(1, .slice (some ⟨ba, 0, none⟩) 11 11), (0, .bool false)] ∧ St (Base.of w0) [BlkIs 0 sidesA ge gz] [(b10x, .cells cs10x 49 (0, 0)), (b9x, .cells cs9x 64 (0, 0)), (ba, .cells #[.int .i64 0, .int .i64 0, .slice none 0 0, .slice none 0 0, .int .i64 100, .int .i64 8, .slice (some ⟨bf1, 0, none⟩) 4 4, .slice (some ⟨br1, 0, none⟩) 4 4, .int .i64 10, .int .i64 8, .slice (some ⟨bf2, 0, none⟩) 4 4, .slice (some ⟨br2, 0, none⟩) 4 4, .int .i64 10, .int .i64 8, .slice (some ⟨bf3, 0, none⟩) 4 4, .slice (some ⟨br3, 0, none⟩) 4 4, .int .i64 10, .int .i64 8, .slice (some ⟨bf4, 0, none⟩) 4 4, .slice (some ⟨br4, 0, none⟩) 4 4, .int .i64 10, .int .i64 8, .slice (some ⟨bf5, 0, none⟩) 4 4, .slice (some ⟨br5, 0, none⟩) 4 4, .int .i64 10, .int .i64 8, .slice (some ⟨bf6, 0, none⟩) 4 4, .slice (some ⟨br6, 0, none⟩) 4 4, .int .i64 10, .int .i64 8, .slice (some ⟨bf7, 0, none⟩) 4 4, .slice (some ⟨br7, 0, none⟩) 4 4, .int .i64 10, .int .i64 8, .slice (some ⟨bf8, 0, none⟩) 4 4, .slice (some ⟨br8, 0, none⟩) 4 4, .int .i64 10, .int .i64 8, .slice (some ⟨bf9, 0, none⟩) 4 4, .slice (some ⟨b9x, 0, none⟩) (4 + 1) (cs9x.size / 2), .int .i64 10, .int .i64 8, .slice (some ⟨b10x, 0, none⟩) (4 + 4) (cs10x.size / 5), .slice (some ⟨br10, 0, none⟩) 4 4] 25 (0, 0)), (bf10, .cells ((chF 5 6)) 49 (0, 0)), (br10, .cells (chR) 64 (0, 0)), (bf9, .cells ((chF 5 6)) 49 (0, 0)), (br9, .cells (chR) 64 (0, 0)), (bf8, .cells ((chF 5 6)) 49 (0, 0)), (br8, .cells (chR.setIfInBounds 1 (.int .i64 4)) 64 (0, 0)), (bf7, .cells ((chF 5 6)) 49 (0, 0)), (br7, .cells (chR.setIfInBounds 0 (.int .i64 0)) 64 (0, 0)), (bf6, .cells (((chF 5 6).setIfInBounds 6 (.int .i64 0)).setIfInBounds 7 (.int .i64 5)) 49 (0, 0)), (br6, .cells (chR) 64 (0, 0)), (bf5, .cells (((chF 5 6).setIfInBounds 8 (.int .i64 0)).setIfInBounds 9 (.int .i64 8)) 49 (0, 0)), (br5, .cells (chR) 64 (0, 0)), (bf4, .cells (((chF 5 6).setIfInBounds 11 (.int .i64 3)).setIfInBounds 12 (.int .i64 9)) 49 (0, 0)), (br4, .cells (chR) 64 (0, 0)), (bf3, .cells (((chF 5 6).setIfInBounds 1 (.int .i64 5)).setIfInBounds 2 (.int .i64 11)) 49 (0, 0)), (br3, .cells (chR) 64 (0, 0)), (bf2, .cells ((chF 5 6).setIfInBounds 0 (.int .i64 4)) 49 (0, 0)), (br2, .cells (chR) 64 (0, 0)), (bf1, .cells ((chF 5 6)) 49 (0, 0)), (br1, .cells (chR) 64 (0, 0))] w) Mx rfl hs (fun _ h => h.sub (.cons_cons _ (.cons _ (.refl _)))) ?_ ?_
    · intro w hs hS
      refine gA hf hS (i := 0) rfl (by kernel_rfl) (fun w hs => g_mv hf rfl) (by decide) ?_; clear hf a; intro a hf
      refine gA hf hS (i := 1) rfl (by kernel_rfl) (fun w hs => g_mv hf rfl) (by decide) ?_; clear hf a; intro a hf
      refine gA hf hS (i := 2) rfl (by kernel_rfl) (fun w hs => g_ixOc (off' := 40) hf SL61 rfl rfl (by omega) rfl) (by decide) ?_; clear hf a; intro a hf
      refine gA hf hS (i := 3) rfl (by kernel_rfl) (fun w hs => g_fa (off' := 42) hf F25_2 rfl rfl) (by decide) ?_; clear hf a; intro a hf
      refine gA hf hS (i := 5) rfl (by kernel_rfl) (fun w hs => g_mv hf rfl) (by decide) ?_; clear hf a; intro a hf
      refine gA hf hS (i := 6) rfl (by kernel_rfl) (fun w hs => g_ixOc (off' := 40) hf SL61 rfl rfl (by omega) rfl) (by decide) ?_; clear hf a; intro a hf
      refine gA hf hS (i := 7) rfl (by kernel_rfl) (fun w hs => g_fa (off' := 42) hf F25_2 rfl rfl) (by decide) ?_; clear hf a; intro a hf
      refine two (i := 4) (j := 8) (by kernel_rfl) ?_ ?_
      · skip
        refine oV hf rfl (goesV_of_gets (g_ld hf hs T22 rfl (k := 1) rfl rfl)) (by decide) (fun _ _ h => by rw [h.2]; exact hS) ?_; rintro _ w ⟨rfl, rfl⟩ hS a hf
        refine one (i := 8) (by kernel_rfl) ?_
        refine oV hf rfl (goesV_of_gets (g_ld hf hs T22 rfl (k := 1) rfl rfl)) (by decide) (fun _ _ h => by rw [h.2]; exact hS) ?_; rintro _ w ⟨rfl, rfl⟩ hS a hf
        refine one (i := 9) (by kernel_rfl) ?_
        refine oV hf rfl (v_app hf hs AP22 (enc := encF) (fun _ => rfl) (by decide) rfl rfl (l := (chapB 5 6).flaps) (l' := (chapB 5 6).flaps) (rd_of_flat (sz := 5) (len := 4) (fun _ => rfl) (by decide) (hs.own _ _ (.tail _ (.tail _ (.head _)))).2 rfl (by decide) rfl) (rd_of_flat (sz := 5) (len := 4) (fun _ => rfl) (by decide) (hs.own _ _ (.tail _ (.tail _ (.head _)))).2 rfl (by decide) rfl) (by omega) (Nat.le_refl _) (fun e => by cases e) (by omega) (by decide)) (by decide) (fun _ _ ⟨_, _, _, _, h⟩ => h.sub (.cons _ (.cons_cons _ (.cons _ (.refl _))))) ?_; clear hs hf hS a; rintro _ w ⟨b10x, cs10x, rfl, hok10, hs⟩ hS a hf
        refine gA hf hS (i := 10) rfl (by kernel_rfl) (fun w hs => g_ixOc (off' := 40) hf SL61 rfl rfl (by omega) rfl) (by decide) ?_; clear hf a; intro a hf
        refine gA hf hS (i := 11) rfl (by kernel_rfl) (fun w hs => g_fa (off' := 42) hf F25_2 rfl rfl) (by decide) ?_; clear hf a; intro a hf
        refine one (i := 12) (by kernel_rfl) ?_
        refine oU rfl (u_st hf hs T22 rfl rfl rfl (k := 2) rfl (Nat.le_of_ble_eq_true rfl)) (fun _ h => h.sub (.cons _ (.cons_cons _ (.cons _ (.refl _))))) ?_; clear hs hS; intro w hs hS; dsimp only [List.set] at hs
        refine e_doneJ (by kernel_rfl) ?_
        exact ⟨b10x, cs10x, hok10, hf.only (.cons rfl (.cons rfl .nil)), hs⟩
      · skip
        refine oV hf rfl (goesV_of_gets (g_ld hf hs T22 rfl (k := 1) rfl rfl)) (by decide) (fun _ _ h => by rw [h.2]; exact hS) ?_; rintro _ w ⟨rfl, rfl⟩ hS a hf
        refine one (i := 4) (by kernel_rfl) ?_
        refine oV hf rfl (goesV_of_gets (g_ld hf hs T22 rfl (k := 1) rfl rfl)) (by decide) (fun _ _ h => by rw [h.2]; exact hS) ?_; rintro _ w ⟨rfl, rfl⟩ hS a hf
        refine one (i := 9) (by kernel_rfl) ?_
        refine oV hf rfl (v_app hf hs AP22 (enc := encF) (fun _ => rfl) (by decide) rfl rfl (l := (chapB 5 6).flaps) (l' := (chapB 5 6).flaps) (rd_of_flat (sz := 5) (len := 4) (fun _ => rfl) (by decide) (hs.own _ _ (.tail _ (.tail _ (.head _)))).2 rfl (by decide) rfl) (rd_of_flat (sz := 5) (len := 4) (fun _ => rfl) (by decide) (hs.own _ _ (.tail _ (.tail _ (.head _)))).2 rfl (by decide) rfl) (by omega) (Nat.le_refl _) (fun e => by cases e) (by omega) (by decide)) (by decide) (fun _ _ ⟨_, _, _, _, h⟩ => h.sub (.cons _ (.cons_cons _ (.cons _ (.refl _))))) ?_; clear hs hf hS a; rintro _ w ⟨b10x, cs10x, rfl, hok10, hs⟩ hS a hf
        refine gA hf hS (i := 10) rfl (by kernel_rfl) (fun w hs => g_ixOc (off' := 40) hf SL61 rfl rfl (by omega) rfl) (by decide) ?_; clear hf a; intro a hf
        refine gA hf hS (i := 11) rfl (by kernel_rfl) (fun w hs => g_fa (off' := 42) hf F25_2 rfl rfl) (by decide) ?_; clear hf a; intro a hf
        refine one (i := 12) (by kernel_rfl) ?_
        refine oU rfl (u_st hf hs T22 rfl rfl rfl (k := 2) rfl (Nat.le_of_ble_eq_true rfl)) (fun _ h => h.sub (.cons _ (.cons_cons _ (.cons _ (.refl _))))) ?_; clear hs hS; intro w hs hS; dsimp only [List.set] at hs
        refine e_doneJ (by kernel_rfl) ?_
        exact ⟨b10x, cs10x, hok10, hf.only (.cons rfl (.cons rfl .nil)), hs⟩
    · intro a w hJ10; obtain ⟨b10x, cs10x, hok10, hf, hs⟩ := hJ10
      refine wp_seq ?_
      have hcp10 := hok10.cap (sz := 5) (by decide)
      have hcp9 := hok9.cap (sz := 2) (by decide)
      have sh0 : ShIn (kB 0) ((fun i : Nat => ([none, some ⟨bf1, 0, none⟩, some ⟨bf2, 0, none⟩, some ⟨bf3, 0, none⟩, some ⟨bf4, 0, none⟩, some ⟨bf5, 0, none⟩, some ⟨bf6, 0, none⟩, some ⟨bf7, 0, none⟩, some ⟨bf8, 0, none⟩, some ⟨bf9, 0, none⟩, some ⟨b10x, 0, none⟩] : List (Option Addr)).getD i none) 0) ((fun i : Nat => ([0, 4, 4, 4, 4, 4, 4, 4, 4, 4, cs10x.size / 5] : List Nat).getD i 0) 0) ((fun i : Nat => ([none, some ⟨br1, 0, none⟩, some ⟨br2, 0, none⟩, some ⟨br3, 0, none⟩, some ⟨br4, 0, none⟩, some ⟨br5, 0, none⟩, some ⟨br6, 0, none⟩, some ⟨br7, 0, none⟩, some ⟨br8, 0, none⟩, some ⟨b9x, 0, none⟩, some ⟨br10, 0, none⟩] : List (Option Addr)).getD i none) 0) ((fun i : Nat => ([0, 4, 4, 4, 4, 4, 4, 4, 4, cs9x.size / 2, 4] : List Nat).getD i 0) 0) w := ⟨rd_nil, rd_nil, Nat.le_of_ble_eq_true rfl, Nat.le_of_ble_eq_true rfl⟩
      have sh1 : ShIn (kB 1) ((fun i : Nat => ([none, some ⟨bf1, 0, none⟩, some ⟨bf2, 0, none⟩, some ⟨bf3, 0, none⟩, some ⟨bf4, 0, none⟩, some ⟨bf5, 0, none⟩, some ⟨bf6, 0, none⟩, some ⟨bf7, 0, none⟩, some ⟨bf8, 0, none⟩, some ⟨bf9, 0, none⟩, some ⟨b10x, 0, none⟩] : List (Option Addr)).getD i none) 1) ((fun i : Nat => ([0, 4, 4, 4, 4, 4, 4, 4, 4, 4, cs10x.size / 5] : List Nat).getD i 0) 1) ((fun i : Nat => ([none, some ⟨br1, 0, none⟩, some ⟨br2, 0, none⟩, some ⟨br3, 0, none⟩, some ⟨br4, 0, none⟩, some ⟨br5, 0, none⟩, some ⟨br6, 0, none⟩, some ⟨br7, 0, none⟩, some ⟨br8, 0, none⟩, some ⟨b9x, 0, none⟩, some ⟨br10, 0, none⟩] : List (Option Addr)).getD i none) 1) ((fun i : Nat => ([0, 4, 4, 4, 4, 4, 4, 4, 4, cs9x.size / 2, 4] : List Nat).getD i 0) 1) w := ⟨rd_of_flat (sz := 5) (len := 4) (fun _ => rfl) (by decide) (hs.own _ _ (.tail _ (.tail _ (.tail _ (.tail _ (.tail _ (.tail _ (.tail _ (.tail _ (.tail _ (.tail _ (.tail _ (.tail _ (.tail _ (.tail _ (.tail _ (.tail _ (.tail _ (.tail _ (.tail _ (.tail _ (.tail _ (.head _))))))))))))))))))))))).2 rfl (by decide) rfl, rd_of_flat (sz := 2) (len := 4) (fun _ => rfl) (by decide) (hs.own _ _ (.tail _ (.tail _ (.tail _ (.tail _ (.tail _ (.tail _ (.tail _ (.tail _ (.tail _ (.tail _ (.tail _ (.tail _ (.tail _ (.tail _ (.tail _ (.tail _ (.tail _ (.tail _ (.tail _ (.tail _ (.tail _ (.tail _ (.head _)))))))))))))))))))))))).2 rfl (by decide) rfl, Nat.le_of_ble_eq_true rfl, Nat.le_of_ble_eq_true rfl⟩
      have sh2 : ShIn (kB 2) ((fun i : Nat => ([none, some ⟨bf1, 0, none⟩, some ⟨bf2, 0, none⟩, some ⟨bf3, 0, none⟩, some ⟨bf4, 0, none⟩, some ⟨bf5, 0, none⟩, some ⟨bf6, 0, none⟩, some ⟨bf7, 0, none⟩, some ⟨bf8, 0, none⟩, some ⟨bf9, 0, none⟩, some ⟨b10x, 0, none⟩] : List (Option Addr)).getD i none) 2) ((fun i : Nat => ([0, 4, 4, 4, 4, 4, 4, 4, 4, 4, cs10x.size / 5] : List Nat).getD i 0) 2) ((fun i : Nat => ([none, some ⟨br1, 0, none⟩, some ⟨br2, 0, none⟩, some ⟨br3, 0, none⟩, some ⟨br4, 0, none⟩, some ⟨br5, 0, none⟩, some ⟨br6, 0, none⟩, some ⟨br7, 0, none⟩, some ⟨br8, 0, none⟩, some ⟨b9x, 0, none⟩, some ⟨br10, 0, none⟩] : List (Option Addr)).getD i none) 2) ((fun i : Nat => ([0, 4, 4, 4, 4, 4, 4, 4, 4, cs9x.size / 2, 4] : List Nat).getD i 0) 2) w := ⟨rd_of_flat (sz := 5) (len := 4) (fun _ => rfl) (by decide) (hs.own _ _ (.tail _ (.tail _ (.tail _ (.tail _ (.tail _ (.tail _ (.tail _ (.tail _ (.tail _ (.tail _ (.tail _ (.tail _ (.tail _ (.tail _ (.tail _ (.tail _ (.tail _ (.tail _ (.tail _ (.head _))))))))))))))))))))).2 rfl (by decide) rfl, rd_of_flat (sz := 2) (len := 4) (fun _ => rfl) (by decide) (hs.own _ _ (.tail _ (.tail _ (.tail _ (.tail _ (.tail _ (.tail _ (.tail _ (.tail _ (.tail _ (.tail _ (.tail _ (.tail _ (.tail _ (.tail _ (.tail _ (.tail _ (.tail _ (.tail _ (.tail _ (.tail _ (.head _)))))))))))))))))))))).2 rfl (by decide) rfl, Nat.le_of_ble_eq_true rfl, Nat.le_of_ble_eq_true rfl⟩
      have sh3 : ShIn (kB 3) ((fun i : Nat => ([none, some ⟨bf1, 0, none⟩, some ⟨bf2, 0, none⟩, some ⟨bf3, 0, none⟩, some ⟨bf4, 0, none⟩, some ⟨bf5, 0, none⟩, some ⟨bf6, 0, none⟩, some ⟨bf7, 0, none⟩, some ⟨bf8, 0, none⟩, some ⟨bf9, 0, none⟩, some ⟨b10x, 0, none⟩] : List (Option Addr)).getD i none) 3) ((fun i : Nat => ([0, 4, 4, 4, 4, 4, 4, 4, 4, 4, cs10x.size / 5] : List Nat).getD i 0) 3) ((fun i : Nat => ([none, some ⟨br1, 0, none⟩, some ⟨br2, 0, none⟩, some ⟨br3, 0, none⟩, some ⟨br4, 0, none⟩, some ⟨br5, 0, none⟩, some ⟨br6, 0, none⟩, some ⟨br7, 0, none⟩, some ⟨br8, 0, none⟩, some ⟨b9x, 0, none⟩, some ⟨br10, 0, none⟩] : List (Option Addr)).getD i none) 3) ((fun i : Nat => ([0, 4, 4, 4, 4, 4, 4, 4, 4, cs9x.size / 2, 4] : List Nat).getD i 0) 3) w := ⟨rd_of_flat (sz := 5) (len := 4) (fun _ => rfl) (by decide) (hs.own _ _ (.tail _ (.tail _ (.tail _ (.tail _ (.tail _ (.tail _ (.tail _ (.tail _ (.tail _ (.tail _ (.tail _ (.tail _ (.tail _ (.tail _ (.tail _ (.tail _ (.tail _ (.head _))))))))))))))))))).2 rfl (by decide) rfl, rd_of_flat (sz := 2) (len := 4) (fun _ => rfl) (by decide) (hs.own _ _ (.tail _ (.tail _ (.tail _ (.tail _ (.tail _ (.tail _ (.tail _ (.tail _ (.tail _ (.tail _ (.tail _ (.tail _ (.tail _ (.tail _ (.tail _ (.tail _ (.tail _ (.tail _ (.head _)))))))))))))))))))).2 rfl (by decide) rfl, Nat.le_of_ble_eq_true rfl, Nat.le_of_ble_eq_true rfl⟩
      have sh4 : ShIn (kB 4) ((fun i : Nat => ([none, some ⟨bf1, 0, none⟩, some ⟨bf2, 0, none⟩, some ⟨bf3, 0, none⟩, some ⟨bf4, 0, none⟩, some ⟨bf5, 0, none⟩, some ⟨bf6, 0, none⟩, some ⟨bf7, 0, none⟩, some ⟨bf8, 0, none⟩, some ⟨bf9, 0, none⟩, some ⟨b10x, 0, none⟩] : List (Option Addr)).getD i none) 4) ((fun i : Nat => ([0, 4, 4, 4, 4, 4, 4, 4, 4, 4, cs10x.size / 5] : List Nat).getD i 0) 4) ((fun i : Nat => ([none, some ⟨br1, 0, none⟩, some ⟨br2, 0, none⟩, some ⟨br3, 0, none⟩, some ⟨br4, 0, none⟩, some ⟨br5, 0, none⟩, some ⟨br6, 0, none⟩, some ⟨br7, 0, none⟩, some ⟨br8, 0, none⟩, some ⟨b9x, 0, none⟩, some ⟨br10, 0, none⟩] : List (Option Addr)).getD i none) 4) ((fun i : Nat => ([0, 4, 4, 4, 4, 4, 4, 4, 4, cs9x.size / 2, 4] : List Nat).getD i 0) 4) w := ⟨rd_of_flat (sz := 5) (len := 4) (fun _ => rfl) (by decide) (hs.own _ _ (.tail _ (.tail _ (.tail _ (.tail _ (.tail _ (.tail _ (.tail _ (.tail _ (.tail _ (.tail _ (.tail _ (.tail _ (.tail _ (.tail _ (.tail _ (.head _))))))))))))))))).2 rfl (by decide) rfl, rd_of_flat (sz := 2) (len := 4) (fun _ => rfl) (by decide) (hs.own _ _ (.tail _ (.tail _ (.tail _ (.tail _ (.tail _ (.tail _ (.tail _ (.tail _ (.tail _ (.tail _ (.tail _ (.tail _ (.tail _ (.tail _ (.tail _ (.tail _ (.head _)))))))))))))))))).2 rfl (by decide) rfl, Nat.le_of_ble_eq_true rfl, Nat.le_of_ble_eq_true rfl⟩
      have sh5 : ShIn (kB 5) ((fun i : Nat => ([none, some ⟨bf1, 0, none⟩, some ⟨bf2, 0, none⟩, some ⟨bf3, 0, none⟩, some ⟨bf4, 0, none⟩, some ⟨bf5, 0, none⟩, some ⟨bf6, 0, none⟩, some ⟨bf7, 0, none⟩, some ⟨bf8, 0, none⟩, some ⟨bf9, 0, none⟩, some ⟨b10x, 0, none⟩] : List (Option Addr)).getD i none) 5) ((fun i : Nat => ([0, 4, 4, 4, 4, 4, 4, 4, 4, 4, cs10x.size / 5] : List Nat).getD i 0) 5) ((fun i : Nat => ([none, some ⟨br1, 0, none⟩, some ⟨br2, 0, none⟩, some ⟨br3, 0, none⟩, some ⟨br4, 0, none⟩, some ⟨br5, 0, none⟩, some ⟨br6, 0, none⟩, some ⟨br7, 0, none⟩, some ⟨br8, 0, none⟩, some ⟨b9x, 0, none⟩, some ⟨br10, 0, none⟩] : List (Option Addr)).getD i none) 5) ((fun i : Nat => ([0, 4, 4, 4, 4, 4, 4, 4, 4, cs9x.size / 2, 4] : List Nat).getD i 0) 5) w := ⟨rd_of_flat (sz := 5) (len := 4) (fun _ => rfl) (by decide) (hs.own _ _ (.tail _ (.tail _ (.tail _ (.tail _ (.tail _ (.tail _ (.tail _ (.tail _ (.tail _ (.tail _ (.tail _ (.tail _ (.tail _ (.head _))))))))))))))).2 rfl (by decide) rfl, rd_of_flat (sz := 2) (len := 4) (fun _ => rfl) (by decide) (hs.own _ _ (.tail _ (.tail _ (.tail _ (.tail _ (.tail _ (.tail _ (.tail _ (.tail _ (.tail _ (.tail _ (.tail _ (.tail _ (.tail _ (.tail _ (.head _)))))))))))))))).2 rfl (by decide) rfl, Nat.le_of_ble_eq_true rfl, Nat.le_of_ble_eq_true rfl⟩
      have sh6 : ShIn (kB 6) ((fun i : Nat => ([none, some ⟨bf1, 0, none⟩, some ⟨bf2, 0, none⟩, some ⟨bf3, 0, none⟩, some ⟨bf4, 0, none⟩, some ⟨bf5, 0, none⟩, some ⟨bf6, 0, none⟩, some ⟨bf7, 0, none⟩, some ⟨bf8, 0, none⟩, some ⟨bf9, 0, none⟩, some ⟨b10x, 0, none⟩] : List (Option Addr)).getD i none) 6) ((fun i : Nat => ([0, 4, 4, 4, 4, 4, 4, 4, 4, 4, cs10x.size / 5] : List Nat).getD i 0) 6) ((fun i : Nat => ([none, some ⟨br1, 0, none⟩, some ⟨br2, 0, none⟩, some ⟨br3, 0, none⟩, some ⟨br4, 0, none⟩, some ⟨br5, 0, none⟩, some ⟨br6, 0, none⟩, some ⟨br7, 0, none⟩, some ⟨br8, 0, none⟩, some ⟨b9x, 0, none⟩, some ⟨br10, 0, none⟩] : List (Option Addr)).getD i none) 6) ((fun i : Nat => ([0, 4, 4, 4, 4, 4, 4, 4, 4, cs9x.size / 2, 4] : List Nat).getD i 0) 6) w := ⟨rd_of_flat (sz := 5) (len := 4) (fun _ => rfl) (by decide) (hs.own _ _ (.tail _ (.tail _ (.tail _ (.tail _ (.tail _ (.tail _ (.tail _ (.tail _ (.tail _ (.tail _ (.tail _ (.head _))))))))))))).2 rfl (by decide) rfl, rd_of_flat (sz := 2) (len := 4) (fun _ => rfl) (by decide) (hs.own _ _ (.tail _ (.tail _ (.tail _ (.tail _ (.tail _ (.tail _ (.tail _ (.tail _ (.tail _ (.tail _ (.tail _ (.tail _ (.head _)))))))))))))).2 rfl (by decide) rfl, Nat.le_of_ble_eq_true rfl, Nat.le_of_ble_eq_true rfl⟩
      have sh7 : ShIn (kB 7) ((fun i : Nat => ([none, some ⟨bf1, 0, none⟩, some ⟨bf2, 0, none⟩, some ⟨bf3, 0, none⟩, some ⟨bf4, 0, none⟩, some ⟨bf5, 0, none⟩, some ⟨bf6, 0, none⟩, some ⟨bf7, 0, none⟩, some ⟨bf8, 0, none⟩, some ⟨bf9, 0, none⟩, some ⟨b10x, 0, none⟩] : List (Option Addr)).getD i none) 7) ((fun i : Nat => ([0, 4, 4, 4, 4, 4, 4, 4, 4, 4, cs10x.size / 5] : List Nat).getD i 0) 7) ((fun i : Nat => ([none, some ⟨br1, 0, none⟩, some ⟨br2, 0, none⟩, some ⟨br3, 0, none⟩, some ⟨br4, 0, none⟩, some ⟨br5, 0, none⟩, some ⟨br6, 0, none⟩, some ⟨br7, 0, none⟩, some ⟨br8, 0, none⟩, some ⟨b9x, 0, none⟩, some ⟨br10, 0, none⟩] : List (Option Addr)).getD i none) 7) ((fun i : Nat => ([0, 4, 4, 4, 4, 4, 4, 4, 4, cs9x.size / 2, 4] : List Nat).getD i 0) 7) w := ⟨rd_of_flat (sz := 5) (len := 4) (fun _ => rfl) (by decide) (hs.own _ _ (.tail _ (.tail _ (.tail _ (.tail _ (.tail _ (.tail _ (.tail _ (.tail _ (.tail _ (.head _))))))))))).2 rfl (by decide) rfl, rd_of_flat (sz := 2) (len := 4) (fun _ => rfl) (by decide) (hs.own _ _ (.tail _ (.tail _ (.tail _ (.tail _ (.tail _ (.tail _ (.tail _ (.tail _ (.tail _ (.tail _ (.head _)))))))))))).2 rfl (by decide) rfl, Nat.le_of_ble_eq_true rfl, Nat.le_of_ble_eq_true rfl⟩
      have sh8 : ShIn (kB 8) ((fun i : Nat => ([none, some ⟨bf1, 0, none⟩, some ⟨bf2, 0, none⟩, some ⟨bf3, 0, none⟩, some ⟨bf4, 0, none⟩, some ⟨bf5, 0, none⟩, some ⟨bf6, 0, none⟩, some ⟨bf7, 0, none⟩, some ⟨bf8, 0, none⟩, some ⟨bf9, 0, none⟩, some ⟨b10x, 0, none⟩] : List (Option Addr)).getD i none) 8) ((fun i : Nat => ([0, 4, 4, 4, 4, 4, 4, 4, 4, 4, cs10x.size / 5] : List Nat).getD i 0) 8) ((fun i : Nat => ([none, some ⟨br1, 0, none⟩, some ⟨br2, 0, none⟩, some ⟨br3, 0, none⟩, some ⟨br4, 0, none⟩, some ⟨br5, 0, none⟩, some ⟨br6, 0, none⟩, some ⟨br7, 0, none⟩, some ⟨br8, 0, none⟩, some ⟨b9x, 0, none⟩, some ⟨br10, 0, none⟩] : List (Option Addr)).getD i none) 8) ((fun i : Nat => ([0, 4, 4, 4, 4, 4, 4, 4, 4, cs9x.size / 2, 4] : List Nat).getD i 0) 8) w := ⟨rd_of_flat (sz := 5) (len := 4) (fun _ => rfl) (by decide) (hs.own _ _ (.tail _ (.tail _ (.tail _ (.tail _ (.tail _ (.tail _ (.tail _ (.head _))))))))).2 rfl (by decide) rfl, rd_of_flat (sz := 2) (len := 4) (fun _ => rfl) (by decide) (hs.own _ _ (.tail _ (.tail _ (.tail _ (.tail _ (.tail _ (.tail _ (.tail _ (.tail _ (.head _)))))))))).2 rfl (by decide) rfl, Nat.le_of_ble_eq_true rfl, Nat.le_of_ble_eq_true rfl⟩
      have sh9 : ShIn (kB 9) ((fun i : Nat => ([none, some ⟨bf1, 0, none⟩, some ⟨bf2, 0, none⟩, some ⟨bf3, 0, none⟩, some ⟨bf4, 0, none⟩, some ⟨bf5, 0, none⟩, some ⟨bf6, 0, none⟩, some ⟨bf7, 0, none⟩, some ⟨bf8, 0, none⟩, some ⟨bf9, 0, none⟩, some ⟨b10x, 0, none⟩] : List (Option Addr)).getD i none) 9) ((fun i : Nat => ([0, 4, 4, 4, 4, 4, 4, 4, 4, 4, cs10x.size / 5] : List Nat).getD i 0) 9) ((fun i : Nat => ([none, some ⟨br1, 0, none⟩, some ⟨br2, 0, none⟩, some ⟨br3, 0, none⟩, some ⟨br4, 0, none⟩, some ⟨br5, 0, none⟩, some ⟨br6, 0, none⟩, some ⟨br7, 0, none⟩, some ⟨br8, 0, none⟩, some ⟨b9x, 0, none⟩, some ⟨br10, 0, none⟩] : List (Option Addr)).getD i none) 9) ((fun i : Nat => ([0, 4, 4, 4, 4, 4, 4, 4, 4, cs9x.size / 2, 4] : List Nat).getD i 0) 9) w := ⟨rd_of_flat (sz := 5) (len := 4) (fun _ => rfl) (by decide) (hs.own _ _ (.tail _ (.tail _ (.tail _ (.tail _ (.tail _ (.head _))))))).2 rfl (by decide) rfl, hok9.rdb (sz := 2) (fun _ => rfl) (by decide) (hs.own _ _ (.tail _ (.head _))).2, Nat.le_of_ble_eq_true rfl, hcp9⟩
      have sh10 : ShIn (kB 10) ((fun i : Nat => ([none, some ⟨bf1, 0, none⟩, some ⟨bf2, 0, none⟩, some ⟨bf3, 0, none⟩, some ⟨bf4, 0, none⟩, some ⟨bf5, 0, none⟩, some ⟨bf6, 0, none⟩, some ⟨bf7, 0, none⟩, some ⟨bf8, 0, none⟩, some ⟨bf9, 0, none⟩, some ⟨b10x, 0, none⟩] : List (Option Addr)).getD i none) 10) ((fun i : Nat => ([0, 4, 4, 4, 4, 4, 4, 4, 4, 4, cs10x.size / 5] : List Nat).getD i 0) 10) ((fun i : Nat => ([none, some ⟨br1, 0, none⟩, some ⟨br2, 0, none⟩, some ⟨br3, 0, none⟩, some ⟨br4, 0, none⟩, some ⟨br5, 0, none⟩, some ⟨br6, 0, none⟩, some ⟨br7, 0, none⟩, some ⟨br8, 0, none⟩, some ⟨b9x, 0, none⟩, some ⟨br10, 0, none⟩] : List (Option Addr)).getD i none) 10) ((fun i : Nat => ([0, 4, 4, 4, 4, 4, 4, 4, 4, cs9x.size / 2, 4] : List Nat).getD i 0) 10) w := ⟨hok10.rdb (sz := 5) (fun _ => rfl) (by decide) (hs.own _ _ (.head _)).2, rd_of_flat (sz := 2) (len := 4) (fun _ => rfl) (by decide) (hs.own _ _ (.tail _ (.tail _ (.tail _ (.tail _ (.head _)))))).2 rfl (by decide) rfl, hcp10, Nat.le_of_ble_eq_true rfl⟩
      have hKS : KSh (fun i : Nat => ([none, some ⟨bf1, 0, none⟩, some ⟨bf2, 0, none⟩, some ⟨bf3, 0, none⟩, some ⟨bf4, 0, none⟩, some ⟨bf5, 0, none⟩, some ⟨bf6, 0, none⟩, some ⟨bf7, 0, none⟩, some ⟨bf8, 0, none⟩, some ⟨bf9, 0, none⟩, some ⟨b10x, 0, none⟩] : List (Option Addr)).getD i none) (fun i : Nat => ([0, 4, 4, 4, 4, 4, 4, 4, 4, 4, cs10x.size / 5] : List Nat).getD i 0) (fun i : Nat => ([none, some ⟨br1, 0, none⟩, some ⟨br2, 0, none⟩, some ⟨br3, 0, none⟩, some ⟨br4, 0, none⟩, some ⟨br5, 0, none⟩, some ⟨br6, 0, none⟩, some ⟨br7, 0, none⟩, some ⟨br8, 0, none⟩, some ⟨b9x, 0, none⟩, some ⟨br10, 0, none⟩] : List (Option Addr)).getD i none) (fun i : Nat => ([0, 4, 4, 4, 4, 4, 4, 4, 4, cs9x.size / 2, 4] : List Nat).getD i 0) w := fun i hi => by
        match i, hi with
        | 0, _ => exact sh0
        | 1, _ => exact sh1
        | 2, _ => exact sh2
        | 3, _ => exact sh3
        | 4, _ => exact sh4
        | 5, _ => exact sh5
        | 6, _ => exact sh6
        | 7, _ => exact sh7
        | 8, _ => exact sh8
        | 9, _ => exact sh9
        | 10, _ => exact sh10
      have hKR : Rd (encS (fun i : Nat => ([none, some ⟨bf1, 0, none⟩, some ⟨bf2, 0, none⟩, some ⟨bf3, 0, none⟩, some ⟨bf4, 0, none⟩, some ⟨bf5, 0, none⟩, some ⟨bf6, 0, none⟩, some ⟨bf7, 0, none⟩, some ⟨bf8, 0, none⟩, some ⟨bf9, 0, none⟩, some ⟨b10x, 0, none⟩] : List (Option Addr)).getD i none) (fun i : Nat => ([0, 4, 4, 4, 4, 4, 4, 4, 4, 4, cs10x.size / 5] : List Nat).getD i 0) (fun i : Nat => ([none, some ⟨br1, 0, none⟩, some ⟨br2, 0, none⟩, some ⟨br3, 0, none⟩, some ⟨br4, 0, none⟩, some ⟨br5, 0, none⟩, some ⟨br6, 0, none⟩, some ⟨br7, 0, none⟩, some ⟨br8, 0, none⟩, some ⟨b9x, 0, none⟩, some ⟨br10, 0, none⟩] : List (Option Addr)).getD i none) (fun i : Nat => ([0, 4, 4, 4, 4, 4, 4, 4, 4, cs9x.size / 2, 4] : List Nat).getD i 0)) 4 (some ⟨ba, 0, none⟩) 11 (List.range 11) w := rd_of_flat (sz := 4) (len := 11) (fun _ => rfl) (by decide) (hs.own _ _ (.tail _ (.tail _ (.head _)))).2 rfl (by decide) rfl
      clear sh0 sh1 sh2 sh3 sh4 sh5 sh6 sh7 sh8 sh9 sh10
      obtain ⟨fAk, hfAk⟩ : ∃ x, x = (fun i : Nat => ([none, some ⟨bf1, 0, none⟩, some ⟨bf2, 0, none⟩, some ⟨bf3, 0, none⟩, some ⟨bf4, 0, none⟩, some ⟨bf5, 0, none⟩, some ⟨bf6, 0, none⟩, some ⟨bf7, 0, none⟩, some ⟨bf8, 0, none⟩, some ⟨bf9, 0, none⟩, some ⟨b10x, 0, none⟩] : List (Option Addr)).getD i none) := ⟨_, rfl⟩; obtain ⟨fck, hfck⟩ : ∃ x, x = (fun i : Nat => ([0, 4, 4, 4, 4, 4, 4, 4, 4, 4, cs10x.size / 5] : List Nat).getD i 0) := ⟨_, rfl⟩; obtain ⟨rAk, hrAk⟩ : ∃ x, x = (fun i : Nat => ([none, some ⟨br1, 0, none⟩, some ⟨br2, 0, none⟩, some ⟨br3, 0, none⟩, some ⟨br4, 0, none⟩, some ⟨br5, 0, none⟩, some ⟨br6, 0, none⟩, some ⟨br7, 0, none⟩, some ⟨br8, 0, none⟩, some ⟨b9x, 0, none⟩, some ⟨br10, 0, none⟩] : List (Option Addr)).getD i none) := ⟨_, rfl⟩; obtain ⟨rck, hrck⟩ : ∃ x, x = (fun i : Nat => ([0, 4, 4, 4, 4, 4, 4, 4, 4, cs9x.size / 2, 4] : List Nat).getD i 0) := ⟨_, rfl⟩
      rw [← hfAk, ← hfck, ← hrAk, ← hrck] at hKS hKR
      replace hs : St (Base.of w0) [Rd (encS fAk fck rAk rck) 4 (some ⟨ba, 0, none⟩) 11 (List.range 11), KSh fAk fck rAk rck, BlkIs 0 sidesA ge gz] [] w := ((hs.sub (List.nil_sublist _)).addD hKS.stable).addD (hKR.stable (by simp))
      refine c_reg ?_
      refine gL hf (g_as hf rfl) (by decide) ?_; clear hf a; intro a hf
      refine e_nil ?_
      refine c_block ?_
      refine c_loop hf hs (List.range' 0 1 ++ List.range' 2 17 ++ List.range' 136 108) (σ := Nat) (fun i => [(2, .int .i64 (i : Nat))]) (fun i => _) (fun i => i ≤ 11) (fun i => 11 - i) 0 (by omega) (.cons rfl .nil) rfl ?_
      intro i a w hJ hf hs
      refine wp_seq ?_
      refine c_reg ?_
      refine gL hf (g_mv hf rfl) (by decide) ?_; clear hf a; intro a hf
      refine gL hf (g_mv hf rfl) (by decide) ?_; clear hf a; intro a hf
      refine gL hf (g_len hf SL61 rfl) (by decide) ?_; clear hf a; intro a hf
      refine gL hf (g_lss hf rfl rfl) (by decide) ?_; clear hf a; intro a hf
      refine e_nil ?_
      refine c_cond hf rfl (fun hc1 => ?_) (fun hc1 => ?_)
      · try simp only [decide_eq_true_eq, decide_eq_false_iff_not] at hc1
        have hi9 : i < 11 := by omega
        have hbi := k_bad i hi9
        refine c_skip (q_thenN ?_)
        refine c_blockS ?_
        refine c_reg ?_
        refine gL hf (g_mv hf rfl) (by decide) ?_; clear hf a; intro a hf
        refine gL hf (g_mv hf rfl) (by decide) ?_; clear hf a; intro a hf
        (first | (refine gL hf (g_ixE hf hs (.head _) SL61 rfl rfl (by omega)) (by decide) ?_) | (refine gL hf (g_ixD hf hs (.head _) SL61 rfl rfl (by omega)) (by decide) ?_)); clear hf a; intro a hf
        refine gL hf (g_ldEW hf hs (.head _) T25 rfl rfl (by omega)) (by decide) ?_; clear hf a; intro a hf
        rw [range_get hi9] at hf
        refine callL hf hs (c_Meet (kB i) (fAk i) (fck i) (rAk i) (rck i) ge gz (-1) (-1) _ (hs.rd (.tail _ (.head _)) i hi9) (hs.rd (.tail _ (.tail _ (.head _))))) rfl rfl rfl E15 (by decide) ?_; clear hs hf a; intro w a hs hf
        rw [bad_meet hbi] at hf
        refine gL hf (g_mv hf rfl) (by decide) ?_; clear hf a; intro a hf
        refine gL hf (g_ext hf rfl rfl) (by decide) ?_; clear hf a; intro a hf
        refine gL hf (g_ext hf rfl rfl) (by decide) ?_; clear hf a; intro a hf
        refine gL hf (g_as hf rfl) (by decide) ?_; clear hf a; intro a hf
        refine gL hf (g_as hf rfl) (by decide) ?_; clear hf a; intro a hf
        refine e_nil ?_
        refine c_reg ?_
        refine gL hf (g_mv hf rfl) (by decide) ?_; clear hf a; intro a hf
        refine gL hf (g_mv hf rfl) (by decide) ?_; clear hf a; intro a hf
        (first | (refine gL hf (g_ixE hf hs (.head _) SL61 rfl rfl (by omega)) (by decide) ?_) | (refine gL hf (g_ixD hf hs (.head _) SL61 rfl rfl (by omega)) (by decide) ?_)); clear hf a; intro a hf
        refine gL hf (g_ldEW hf hs (.head _) T25 rfl rfl (by omega)) (by decide) ?_; clear hf a; intro a hf
        rw [range_get hi9] at hf
        refine callL hf hs (c_Does0 (kB i) (fAk i) (fck i) (rAk i) (rck i) ge gz hbi _ (hs.rd (.tail _ (.head _)) i hi9) (hs.rd (.tail _ (.tail _ (.head _))))) rfl rfl rfl E19 (by decide) ?_; clear hs hf a; intro w a hs hf
        refine gL hf (g_mv hf rfl) (by decide) ?_; clear hf a; intro a hf
        refine gL hf (g_ext hf rfl rfl) (by decide) ?_; clear hf a; intro a hf
        refine gL hf (g_ext hf rfl rfl) (by decide) ?_; clear hf a; intro a hf
        refine gL hf (g_as hf rfl) (by decide) ?_; clear hf a; intro a hf
        refine gL hf (g_as hf rfl) (by decide) ?_; clear hf a; intro a hf
        refine e_nil ?_
        refine c_reg ?_
        refine gL hf (g_mv hf rfl) (by decide) ?_; clear hf a; intro a hf
        refine gL hf (g_mv hf rfl) (by decide) ?_; clear hf a; intro a hf
        (first | (refine gL hf (g_ixE hf hs (.head _) SL61 rfl rfl (by omega)) (by decide) ?_) | (refine gL hf (g_ixD hf hs (.head _) SL61 rfl rfl (by omega)) (by decide) ?_)); clear hf a; intro a hf
        refine gL hf (g_ldEW hf hs (.head _) T25 rfl rfl (by omega)) (by decide) ?_; clear hf a; intro a hf
        rw [range_get hi9] at hf
        refine callX hf hs (c_Order (kB i) (fAk i) (fck i) (rAk i) (rck i) ge gz  _ (hs.rd (.tail _ (.head _)) i hi9) (hs.rd (.tail _ (.tail _ (.head _))))) rfl rfl rfl E22 (by decide) ?_; intro v w1 a hR hb hs1 hf; obtain ⟨A9, c9, rfl, _⟩ := hR; rw [bad_order hbi] at hf; replace hs := hs1; clear hs1 hb
        refine gL hf (g_mv hf rfl) (by decide) ?_; clear hf a; intro a hf
        refine gL hf (g_ext hf rfl rfl) (by decide) ?_; clear hf a; intro a hf
        refine gL hf (g_ext hf rfl rfl) (by decide) ?_; clear hf a; intro a hf
        refine gL hf (g_as hf rfl) (by decide) ?_; clear hf a; intro a hf
        refine gL hf (g_as hf rfl) (by decide) ?_; clear hf a; intro a hf
        refine e_nil ?_
        refine c_reg ?_
        refine gL hf (g_mv hf rfl) (by decide) ?_; clear hf a; intro a hf
        refine gL hf (g_mv hf rfl) (by decide) ?_; clear hf a; intro a hf
        (first | (refine gL hf (g_ixE hf hs (.head _) SL61 rfl rfl (by omega)) (by decide) ?_) | (refine gL hf (g_ixD hf hs (.head _) SL61 rfl rfl (by omega)) (by decide) ?_)); clear hf a; intro a hf
        refine gL hf (g_ldEW hf hs (.head _) T25 rfl rfl (by omega)) (by decide) ?_; clear hf a; intro a hf
        rw [range_get hi9] at hf
        refine callL hf hs (c_Orders (kB i) (fAk i) (fck i) (rAk i) (rck i) ge gz  _ (hs.rd (.tail _ (.head _)) i hi9) (hs.rd (.tail _ (.tail _ (.head _))))) rfl rfl rfl E25 (by decide) ?_; clear hs hf a; intro w a hs hf
        rw [bad_count hbi] at hf
        refine gL hf (g_mv hf rfl) (by decide) ?_; clear hf a; intro a hf
        refine gL hf (g_ext hf rfl rfl) (by decide) ?_; clear hf a; intro a hf
        refine gL hf (g_ext hf rfl rfl) (by decide) ?_; clear hf a; intro a hf
        refine gL hf (g_as hf rfl) (by decide) ?_; clear hf a; intro a hf
        refine gL hf (g_as hf rfl) (by decide) ?_; clear hf a; intro a hf
        refine e_nil ?_
        refine c_reg ?_
        refine gL hf (g_mv hf rfl) (by decide) ?_; clear hf a; intro a hf
        refine gL hf (g_mv hf rfl) (by decide) ?_; clear hf a; intro a hf
        (first | (refine gL hf (g_ixE hf hs (.head _) SL61 rfl rfl (by omega)) (by decide) ?_) | (refine gL hf (g_ixD hf hs (.head _) SL61 rfl rfl (by omega)) (by decide) ?_)); clear hf a; intro a hf
        refine gL hf (g_ldEW hf hs (.head _) T25 rfl rfl (by omega)) (by decide) ?_; clear hf a; intro a hf
        rw [range_get hi9] at hf
        refine callX hf hs (c_Ring (kB i) (fAk i) (fck i) (rAk i) (rck i) ge gz  _ (hs.rd (.tail _ (.head _)) i hi9) (hs.rd (.tail _ (.tail _ (.head _))))) rfl rfl rfl E27 (by decide) ?_; intro v w1 a hR hb hs1 hf; obtain ⟨A9, c9, rfl, _⟩ := hR; rw [bad_ring hbi] at hf; replace hs := hs1; clear hs1 hb
        refine gL hf (g_mv hf rfl) (by decide) ?_; clear hf a; intro a hf
        refine gL hf (g_ext hf rfl rfl) (by decide) ?_; clear hf a; intro a hf
        refine gL hf (g_ext hf rfl rfl) (by decide) ?_; clear hf a; intro a hf
        refine gL hf (g_as hf rfl) (by decide) ?_; clear hf a; intro a hf
        refine gL hf (g_as hf rfl) (by decide) ?_; clear hf a; intro a hf
        refine e_nil ?_
        refine c_reg ?_
        refine gL hf (g_mv hf rfl) (by decide) ?_; clear hf a; intro a hf
        refine gL hf (g_mv hf rfl) (by decide) ?_; clear hf a; intro a hf
        (first | (refine gL hf (g_ixE hf hs (.head _) SL61 rfl rfl (by omega)) (by decide) ?_) | (refine gL hf (g_ixD hf hs (.head _) SL61 rfl rfl (by omega)) (by decide) ?_)); clear hf a; intro a hf
        refine gL hf (g_ldEW hf hs (.head _) T25 rfl rfl (by omega)) (by decide) ?_; clear hf a; intro a hf
        rw [range_get hi9] at hf
        refine callL hf hs (c_Rounds (kB i) (fAk i) (fck i) (rAk i) (rck i) ge gz  _ (hs.rd (.tail _ (.head _)) i hi9) (hs.rd (.tail _ (.tail _ (.head _))))) rfl rfl rfl E29 (by decide) ?_; clear hs hf a; intro w a hs hf
        rw [bad_round hbi] at hf
        refine gL hf (g_mv hf rfl) (by decide) ?_; clear hf a; intro a hf
        refine gL hf (g_ext hf rfl rfl) (by decide) ?_; clear hf a; intro a hf
        refine gL hf (g_ext hf rfl rfl) (by decide) ?_; clear hf a; intro a hf
        refine gL hf (g_as hf rfl) (by decide) ?_; clear hf a; intro a hf
        refine gL hf (g_as hf rfl) (by decide) ?_; clear hf a; intro a hf
        refine e_nil ?_
        refine c_reg ?_
        refine gL hf (g_mv hf rfl) (by decide) ?_; clear hf a; intro a hf
        refine gL hf (g_mv hf rfl) (by decide) ?_; clear hf a; intro a hf
        (first | (refine gL hf (g_ixE hf hs (.head _) SL61 rfl rfl (by omega)) (by decide) ?_) | (refine gL hf (g_ixD hf hs (.head _) SL61 rfl rfl (by omega)) (by decide) ?_)); clear hf a; intro a hf
        refine gL hf (g_ldEW hf hs (.head _) T25 rfl rfl (by omega)) (by decide) ?_; clear hf a; intro a hf
        rw [range_get hi9] at hf
        refine callL hf hs (c_Shorter (kB i) (fAk i) (fck i) (rAk i) (rck i) ge gz (-1) _ (hs.rd (.tail _ (.head _)) i hi9) (hs.rd (.tail _ (.tail _ (.head _))))) rfl rfl rfl E31 (by decide) ?_; clear hs hf a; intro w a hs hf
        rw [bad_short hbi] at hf
        refine gL hf (g_mv hf rfl) (by decide) ?_; clear hf a; intro a hf
        refine gL hf (g_ext hf rfl rfl) (by decide) ?_; clear hf a; intro a hf
        refine gL hf (g_ext hf rfl rfl) (by decide) ?_; clear hf a; intro a hf
        refine gL hf (g_as hf rfl) (by decide) ?_; clear hf a; intro a hf
        refine gL hf (g_as hf rfl) (by decide) ?_; clear hf a; intro a hf
        refine e_nil ?_
        refine c_reg ?_
        refine gL hf (g_mv hf rfl) (by decide) ?_; clear hf a; intro a hf
        refine gL hf (g_mv hf rfl) (by decide) ?_; clear hf a; intro a hf
        (first | (refine gL hf (g_ixE hf hs (.head _) SL61 rfl rfl (by omega)) (by decide) ?_) | (refine gL hf (g_ixD hf hs (.head _) SL61 rfl rfl (by omega)) (by decide) ?_)); clear hf a; intro a hf
        refine gL hf (g_ldEW hf hs (.head _) T25 rfl rfl (by omega)) (by decide) ?_; clear hf a; intro a hf
        rw [range_get hi9] at hf
        refine callX hf hs (c_Drop (kB i) (fAk i) (fck i) (rAk i) (rck i) ge gz  _ (hs.rd (.tail _ (.head _)) i hi9) (hs.rd (.tail _ (.tail _ (.head _))))) rfl rfl rfl E33 (by decide) ?_; intro v w1 a hR hb hs1 hf; obtain ⟨A9, c9, rfl, _⟩ := hR; rw [bad_drop hbi] at hf; replace hs := hs1; clear hs1 hb
        refine gL hf (g_mv hf rfl) (by decide) ?_; clear hf a; intro a hf
        refine gL hf (g_ext hf rfl rfl) (by decide) ?_; clear hf a; intro a hf
        refine gL hf (g_ext hf rfl rfl) (by decide) ?_; clear hf a; intro a hf
        refine gL hf (g_as hf rfl) (by decide) ?_; clear hf a; intro a hf
        refine gL hf (g_as hf rfl) (by decide) ?_; clear hf a; intro a hf
        refine e_nil ?_
        refine c_reg ?_
        refine gL hf (g_mv hf rfl) (by decide) ?_; clear hf a; intro a hf
        refine gL hf (g_mv hf rfl) (by decide) ?_; clear hf a; intro a hf
        (first | (refine gL hf (g_ixE hf hs (.head _) SL61 rfl rfl (by omega)) (by decide) ?_) | (refine gL hf (g_ixD hf hs (.head _) SL61 rfl rfl (by omega)) (by decide) ?_)); clear hf a; intro a hf
        refine gL hf (g_ldEW hf hs (.head _) T25 rfl rfl (by omega)) (by decide) ?_; clear hf a; intro a hf
        rw [range_get hi9] at hf
        refine callL hf hs (c_Check (kB i) (fAk i) (fck i) (rAk i) (rck i) _ (hs.rd (.tail _ (.head _)) i hi9)) rfl rfl rfl E17 (by decide) ?_; clear hs hf a; intro w a hs hf
        rw [hbi] at hf
        refine gL hf (g_neq hf rfl rfl) (by decide) ?_; clear hf a; intro a hf
        refine gL hf (g_mv hf rfl) (by decide) ?_; clear hf a; intro a hf
        refine gKnown hf rfl rfl rfl ?_
        refine gL hf (g_mv hf rfl) (by decide) ?_; clear hf a; intro a hf
        refine gKnown hf rfl rfl rfl ?_
        refine gL hf (g_neq hf rfl rfl) (by decide) ?_; clear hf a; intro a hf
        refine gL hf (g_pick hf rfl rfl rfl) (by decide) ?_; clear hf a; intro a hf
        refine gL hf (g_mv hf rfl) (by decide) ?_; clear hf a; intro a hf
        refine gKnown hf rfl rfl rfl ?_
        refine gL hf (g_mv hf rfl) (by decide) ?_; clear hf a; intro a hf
        refine gKnown hf rfl rfl rfl ?_
        refine gL hf (g_neq hf rfl rfl) (by decide) ?_; clear hf a; intro a hf
        refine gL hf (g_pick hf rfl rfl rfl) (by decide) ?_; clear hf a; intro a hf
        refine gL hf (g_mv hf rfl) (by decide) ?_; clear hf a; intro a hf
        refine gKnown hf rfl rfl rfl ?_
        refine gL hf (g_mv hf rfl) (by decide) ?_; clear hf a; intro a hf
        refine gKnown hf rfl rfl rfl ?_
        refine gL hf (g_neq hf rfl rfl) (by decide) ?_; clear hf a; intro a hf
        refine gL hf (g_pick hf rfl rfl rfl) (by decide) ?_; clear hf a; intro a hf
        refine gL hf (g_mv hf rfl) (by decide) ?_; clear hf a; intro a hf
        refine gKnown hf rfl rfl rfl ?_
        refine gL hf (g_mv hf rfl) (by decide) ?_; clear hf a; intro a hf
        refine gKnown hf rfl rfl rfl ?_
        refine gL hf (g_neq hf rfl rfl) (by decide) ?_; clear hf a; intro a hf
        refine gL hf (g_pick hf rfl rfl rfl) (by decide) ?_; clear hf a; intro a hf
        refine gL hf (g_mv hf rfl) (by decide) ?_; clear hf a; intro a hf
        refine gKnown hf rfl rfl rfl ?_
        refine gL hf (g_mv hf rfl) (by decide) ?_; clear hf a; intro a hf
        refine gKnown hf rfl rfl rfl ?_
        refine gL hf (g_neq hf rfl rfl) (by decide) ?_; clear hf a; intro a hf
        refine gL hf (g_pick hf rfl rfl rfl) (by decide) ?_; clear hf a; intro a hf
        refine gL hf (g_mv hf rfl) (by decide) ?_; clear hf a; intro a hf
        refine gKnown hf rfl rfl rfl ?_
        refine gL hf (g_mv hf rfl) (by decide) ?_; clear hf a; intro a hf
        refine gKnown hf rfl rfl rfl ?_
        refine gL hf (g_neq hf rfl rfl) (by decide) ?_; clear hf a; intro a hf
        refine gL hf (g_pick hf rfl rfl rfl) (by decide) ?_; clear hf a; intro a hf
        refine gL hf (g_mv hf rfl) (by decide) ?_; clear hf a; intro a hf
        refine gKnown hf rfl rfl rfl ?_
        refine gL hf (g_mv hf rfl) (by decide) ?_; clear hf a; intro a hf
        refine gKnown hf rfl rfl rfl ?_
        refine gL hf (g_neq hf rfl rfl) (by decide) ?_; clear hf a; intro a hf
        refine gL hf (g_pick hf rfl rfl rfl) (by decide) ?_; clear hf a; intro a hf
        refine gL hf (g_mv hf rfl) (by decide) ?_; clear hf a; intro a hf
        refine gKnown hf rfl rfl rfl ?_
        refine gL hf (g_mv hf rfl) (by decide) ?_; clear hf a; intro a hf
        refine gKnown hf rfl rfl rfl ?_
        refine gL hf (g_neq hf rfl rfl) (by decide) ?_; clear hf a; intro a hf
        refine gL hf (g_pick hf rfl rfl rfl) (by decide) ?_; clear hf a; intro a hf
        refine e_nil ?_
        refine c_cond hf rfl (fun hc2 => ?_) (fun hc2 => ?_)
        · skip
          cases hc2
        · skip
          refine c_skip (q_blkN (q_thenN ?_))
          refine c_reg1 ?_
          refine gL hf (g_mv hf rfl) (by decide) ?_; clear hf a; intro a hf
          refine gL hf (g_addI hf rfl rfl (by omega)) (by decide) ?_; clear hf a; intro a hf
          refine gL hf (g_as hf rfl) (by decide) ?_; clear hf a; intro a hf
          refine e_nil1 (q_thenN ?_)
          exact ⟨i + 1, (by omega), (by omega), hf.back (by repeat (first | (with_reducible exact Ext.base) | ((with_reducible refine Ext.cons ?_ ?_); (· rfl)) | ((with_reducible refine Ext.over ?_ ?_ ?_); (· rfl); (· rfl)))) (allKeys rfl) (.cons rfl .nil), hs.dropN 0⟩
      · try simp only [decide_eq_true_eq, decide_eq_false_iff_not] at hc1
        obtain rfl : i = 11 := by omega
        refine c_exit (q_thenX (q_thenX (q_blkX (q_thenN ?_))))
        refine c_reg ?_
        refine callX hf hs (c_ringed _) rfl rfl rfl E51 (by decide) ?_; intro v w1 a hR hb hs1 hf; obtain ⟨bf111, br111, rfl, hch⟩ := hR; replace hs := hs.fresh hs1 (chFresh (m := w0.heap.size) hch hs.below.size); clear hs1 hb
        refine callL hf hs (c_Meet (chapB 5 6) (some ⟨bf111, 0, none⟩) 4 (some ⟨br111, 0, none⟩) 4 ge gz 0 0 _ (hs.rd (.head _)).sh (hs.rd (.tail _ (.tail _ (.tail _ (.head _)))))) rfl rfl rfl E15 (by decide) ?_; clear hs hf a; intro w a hs hf
        rw [k1] at hf
        refine gL hf (g_mv hf rfl) (by decide) ?_; clear hf a; intro a hf
        refine gL hf (g_ext hf rfl rfl) (by decide) ?_; clear hf a; intro a hf
        refine gL hf (g_ext hf rfl rfl) (by decide) ?_; clear hf a; intro a hf
        refine gL hf (g_as hf rfl) (by decide) ?_; clear hf a; intro a hf
        refine gL hf (g_as hf rfl) (by decide) ?_; clear hf a; intro a hf
        refine e_nil ?_
        refine c_reg ?_
        refine callX hf hs (c_ringed _) rfl rfl rfl E51 (by decide) ?_; intro v w1 a hR hb hs1 hf; obtain ⟨bf112, br112, rfl, hch⟩ := hR; replace hs := hs.fresh hs1 (chFresh (m := w0.heap.size) hch hs.below.size); clear hs1 hb
        refine callL hf hs (c_Meet (chapB 5 6) (some ⟨bf112, 0, none⟩) 4 (some ⟨br112, 0, none⟩) 4 ge gz 4 0 _ (hs.rd (.head _)).sh (hs.rd (.tail _ (.tail _ (.tail _ (.tail _ (.head _))))))) rfl rfl rfl E15 (by decide) ?_; clear hs hf a; intro w a hs hf
        rw [k2] at hf
        refine gL hf (g_mv hf rfl) (by decide) ?_; clear hf a; intro a hf
        refine gL hf (g_ext hf rfl rfl) (by decide) ?_; clear hf a; intro a hf
        refine gL hf (g_ext hf rfl rfl) (by decide) ?_; clear hf a; intro a hf
        refine gL hf (g_as hf rfl) (by decide) ?_; clear hf a; intro a hf
        refine gL hf (g_as hf rfl) (by decide) ?_; clear hf a; intro a hf
        refine e_nil ?_
        refine c_reg ?_
        refine callX hf hs (c_ringed _) rfl rfl rfl E51 (by decide) ?_; intro v w1 a hR hb hs1 hf; obtain ⟨bf113, br113, rfl, hch⟩ := hR; replace hs := hs.fresh hs1 (chFresh (m := w0.heap.size) hch hs.below.size); clear hs1 hb
        refine vL hf (v_lits (len := 3) hf hs SL27 T3 (.cons rfl (.cons rfl (.cons rfl .nil))) rfl rfl rfl rfl (by decide) rfl) (by decide) ?_; clear hs hf a; rintro _ w ⟨b2, rfl, hs⟩ a hf
        refine callL hf hs (c_Does (chapB 5 6) (some ⟨bf113, 0, none⟩) 4 (some ⟨br113, 0, none⟩) 4 _ _ [0, 1, 2] ge gz (by decide) _ (hs.rd (.head _)).sh (show Rd encI 1 (some ⟨b2, 0, none⟩) 3 [0, 1, 2] w from rd_of_flat (sz := 1) (fun _ => rfl) (by decide) (hs.own _ _ (.head _)).2 rfl (by decide) rfl) (hs.rd (.tail _ (.tail _ (.tail _ (.tail _ (.tail _ (.head _)))))))) rfl rfl rfl E19 (by decide) ?_; clear hs hf a; intro w a hs hf
        rw [k3] at hf
        refine gL hf (g_mv hf rfl) (by decide) ?_; clear hf a; intro a hf
        refine gL hf (g_ext hf rfl rfl) (by decide) ?_; clear hf a; intro a hf
        refine gL hf (g_ext hf rfl rfl) (by decide) ?_; clear hf a; intro a hf
        refine gL hf (g_as hf rfl) (by decide) ?_; clear hf a; intro a hf
        refine gL hf (g_as hf rfl) (by decide) ?_; clear hf a; intro a hf
        refine e_nil ?_
        refine c_reg ?_
        refine callX hf hs (c_ringed _) rfl rfl rfl E51 (by decide) ?_; intro v w1 a hR hb hs1 hf; obtain ⟨bf114, br114, rfl, hch⟩ := hR; replace hs := hs.fresh hs1 (chFresh (m := w0.heap.size) hch hs.below.size); clear hs1 hb
        refine vL hf (v_lits (len := 4) hf hs SL27 T3 (.cons rfl (.cons rfl (.cons rfl (.cons rfl .nil)))) rfl rfl rfl rfl (by decide) rfl) (by decide) ?_; clear hs hf a; rintro _ w ⟨b3, rfl, hs⟩ a hf
        refine callL hf hs (c_Does (chapB 5 6) (some ⟨bf114, 0, none⟩) 4 (some ⟨br114, 0, none⟩) 4 _ _ [0, 1, 2, 2] ge gz (by decide) _ (hs.rd (.head _)).sh (show Rd encI 1 (some ⟨b3, 0, none⟩) 4 [0, 1, 2, 2] w from rd_of_flat (sz := 1) (fun _ => rfl) (by decide) (hs.own _ _ (.head _)).2 rfl (by decide) rfl) (hs.rd (.tail _ (.tail _ (.tail _ (.tail _ (.tail _ (.tail _ (.head _))))))))) rfl rfl rfl E19 (by decide) ?_; clear hs hf a; intro w a hs hf
        rw [k4] at hf
        refine gL hf (g_mv hf rfl) (by decide) ?_; clear hf a; intro a hf
        refine gL hf (g_ext hf rfl rfl) (by decide) ?_; clear hf a; intro a hf
        refine gL hf (g_ext hf rfl rfl) (by decide) ?_; clear hf a; intro a hf
        refine gL hf (g_as hf rfl) (by decide) ?_; clear hf a; intro a hf
        refine gL hf (g_as hf rfl) (by decide) ?_; clear hf a; intro a hf
        refine e_nil ?_
        refine c_reg ?_
        refine callX hf hs (c_ringed _) rfl rfl rfl E51 (by decide) ?_; intro v w1 a hR hb hs1 hf; obtain ⟨bf115, br115, rfl, hch⟩ := hR; replace hs := hs.fresh hs1 (chFresh (m := w0.heap.size) hch hs.below.size); clear hs1 hb
        refine vL hf (v_lits (len := 4) hf hs SL27 T3 (.cons rfl (.cons rfl (.cons rfl (.cons rfl .nil)))) rfl rfl rfl rfl (by decide) rfl) (by decide) ?_; clear hs hf a; rintro _ w ⟨b4, rfl, hs⟩ a hf
        refine callL hf hs (c_Does (chapB 5 6) (some ⟨bf115, 0, none⟩) 4 (some ⟨br115, 0, none⟩) 4 _ _ [0, 1, 2, 4] ge gz (by decide) _ (hs.rd (.head _)).sh (show Rd encI 1 (some ⟨b4, 0, none⟩) 4 [0, 1, 2, 4] w from rd_of_flat (sz := 1) (fun _ => rfl) (by decide) (hs.own _ _ (.head _)).2 rfl (by decide) rfl) (hs.rd (.tail _ (.tail _ (.tail _ (.tail _ (.tail _ (.tail _ (.tail _ (.head _)))))))))) rfl rfl rfl E19 (by decide) ?_; clear hs hf a; intro w a hs hf
        rw [k5] at hf
        refine gL hf (g_mv hf rfl) (by decide) ?_; clear hf a; intro a hf
        refine gL hf (g_ext hf rfl rfl) (by decide) ?_; clear hf a; intro a hf
        refine gL hf (g_ext hf rfl rfl) (by decide) ?_; clear hf a; intro a hf
        refine gL hf (g_as hf rfl) (by decide) ?_; clear hf a; intro a hf
        refine gL hf (g_as hf rfl) (by decide) ?_; clear hf a; intro a hf
        refine e_nil ?_
        refine c_reg ?_
        refine callX hf hs (c_ringed _) rfl rfl rfl E51 (by decide) ?_; intro v w1 a hR hb hs1 hf; obtain ⟨bf116, br116, rfl, hch⟩ := hR; replace hs := hs.fresh hs1 (chFresh (m := w0.heap.size) hch hs.below.size); clear hs1 hb
        refine callL hf hs (c_Shorter (chapB 5 6) (some ⟨bf116, 0, none⟩) 4 (some ⟨br116, 0, none⟩) 4 ge gz 4 _ (hs.rd (.head _)).sh (hs.rd (.tail _ (.tail _ (.tail _ (.tail _ (.tail _ (.tail _ (.tail _ (.tail _ (.head _))))))))))) rfl rfl rfl E31 (by decide) ?_; clear hs hf a; intro w a hs hf
        rw [k6] at hf
        refine gL hf (g_mv hf rfl) (by decide) ?_; clear hf a; intro a hf
        refine gL hf (g_ext hf rfl rfl) (by decide) ?_; clear hf a; intro a hf
        refine gL hf (g_ext hf rfl rfl) (by decide) ?_; clear hf a; intro a hf
        refine gL hf (g_as hf rfl) (by decide) ?_; clear hf a; intro a hf
        refine gL hf (g_as hf rfl) (by decide) ?_; clear hf a; intro a hf
        refine e_nil ?_
        refine c_reg ?_
        refine callX hf hs (c_ringed _) rfl rfl rfl E51 (by decide) ?_; intro v w1 a hR hb hs1 hf; obtain ⟨bf117, br117, rfl, hch⟩ := hR; replace hs := hs.fresh hs1 (chFresh (m := w0.heap.size) hch hs.below.size); clear hs1 hb
        refine callL hf hs (c_Shorter (chapB 5 6) (some ⟨bf117, 0, none⟩) 4 (some ⟨br117, 0, none⟩) 4 ge gz 3 _ (hs.rd (.head _)).sh (hs.rd (.tail _ (.tail _ (.tail _ (.tail _ (.tail _ (.tail _ (.tail _ (.tail _ (.tail _ (.head _)))))))))))) rfl rfl rfl E31 (by decide) ?_; clear hs hf a; intro w a hs hf
        rw [k7] at hf
        refine gL hf (g_mv hf rfl) (by decide) ?_; clear hf a; intro a hf
        refine gL hf (g_ext hf rfl rfl) (by decide) ?_; clear hf a; intro a hf
        refine gL hf (g_ext hf rfl rfl) (by decide) ?_; clear hf a; intro a hf
        refine gL hf (g_as hf rfl) (by decide) ?_; clear hf a; intro a hf
        refine gL hf (g_as hf rfl) (by decide) ?_; clear hf a; intro a hf
        refine e_nil ?_
        refine c_reg ?_
        refine callX hf hs (c_ringed _) rfl rfl rfl E51 (by decide) ?_; intro v w1 a hR hb hs1 hf; obtain ⟨bf118, br118, rfl, hch⟩ := hR; replace hs := hs.fresh hs1 (chFresh (m := w0.heap.size) hch hs.below.size); clear hs1 hb
        refine callL hf hs (c_Rounds (chapB 5 6) (some ⟨bf118, 0, none⟩) 4 (some ⟨br118, 0, none⟩) 4 ge gz _ (hs.rd (.head _)).sh (hs.rd (.tail _ (.tail _ (.tail _ (.tail _ (.tail _ (.tail _ (.tail _ (.tail _ (.tail _ (.tail _ (.head _))))))))))))) rfl rfl rfl E29 (by decide) ?_; clear hs hf a; intro w a hs hf
        rw [k8] at hf
        refine gL hf (g_mv hf rfl) (by decide) ?_; clear hf a; intro a hf
        refine gL hf (g_ext hf rfl rfl) (by decide) ?_; clear hf a; intro a hf
        refine gL hf (g_ext hf rfl rfl) (by decide) ?_; clear hf a; intro a hf
        refine gL hf (g_as hf rfl) (by decide) ?_; clear hf a; intro a hf
        refine gL hf (g_as hf rfl) (by decide) ?_; clear hf a; intro a hf
        refine e_nil ?_
        refine c_reg ?_
        refine callX hf hs (c_short _) rfl rfl rfl E53 (by decide) ?_; intro v w1 a hR hb hs1 hf; obtain ⟨bf201, br201, rfl, hch⟩ := hR; replace hs := hs.fresh hs1 (chFresh (m := w0.heap.size) hch hs.below.size); clear hs1 hb
        refine callX hf hs (c_Ring (chapB 5 5) (some ⟨bf201, 0, none⟩) 4 (some ⟨br201, 0, none⟩) 4 ge gz _ (hs.rd (.head _)).sh (hs.rd (.tail _ (.tail _ (.tail _ (.tail _ (.tail _ (.tail _ (.tail _ (.tail _ (.tail _ (.tail _ (.tail _ (.head _)))))))))))))) rfl rfl rfl E27 (by decide) ?_; intro v w1 a hR hb hs1 hf; obtain ⟨A201, c201, rfl, hou⟩ := hR; rw [k9] at hou hf; replace hs := hs.fresh hs1 (outFresh hou); clear hs1 hb
        refine gL hf (g_mv hf rfl) (by decide) ?_; clear hf a; intro a hf
        refine gL hf (g_ext hf rfl rfl) (by decide) ?_; clear hf a; intro a hf
        refine gL hf (g_ext hf rfl rfl) (by decide) ?_; clear hf a; intro a hf
        refine gL hf (g_as hf rfl) (by decide) ?_; clear hf a; intro a hf
        refine gL hf (g_as hf rfl) (by decide) ?_; clear hf a; intro a hf
        refine e_nil ?_
        refine wp_seq ?_
        refine c_reg ?_
        refine gL hf (g_mv hf rfl) (by decide) ?_; clear hf a; intro a hf
        refine gL hf (g_neq hf rfl rfl) (by decide) ?_; clear hf a; intro a hf
        refine gL hf (g_mv hf rfl) (by decide) ?_; clear hf a; intro a hf
        refine gKnown hf rfl rfl rfl ?_
        refine gL hf (g_mv hf rfl) (by decide) ?_; clear hf a; intro a hf
        refine gKnown hf rfl rfl rfl ?_
        refine gL hf (g_neq hf rfl rfl) (by decide) ?_; clear hf a; intro a hf
        refine gL hf (g_pick hf rfl rfl rfl) (by decide) ?_; clear hf a; intro a hf
        refine gL hf (g_mv hf rfl) (by decide) ?_; clear hf a; intro a hf
        refine gKnown hf rfl rfl rfl ?_
        refine gL hf (g_mv hf rfl) (by decide) ?_; clear hf a; intro a hf
        refine gKnown hf rfl rfl rfl ?_
        refine gL hf (g_neq hf rfl rfl) (by decide) ?_; clear hf a; intro a hf
        refine gL hf (g_pick hf rfl rfl rfl) (by decide) ?_; clear hf a; intro a hf
        refine gL hf (g_mv hf rfl) (by decide) ?_; clear hf a; intro a hf
        refine gKnown hf rfl rfl rfl ?_
        refine gL hf (g_mv hf rfl) (by decide) ?_; clear hf a; intro a hf
        refine gKnown hf rfl rfl rfl ?_
        refine gL hf (g_neq hf rfl rfl) (by decide) ?_; clear hf a; intro a hf
        refine gL hf (g_pick hf rfl rfl rfl) (by decide) ?_; clear hf a; intro a hf
        refine gL hf (g_mv hf rfl) (by decide) ?_; clear hf a; intro a hf
        refine gKnown hf rfl rfl rfl ?_
        refine gL hf (g_mv hf rfl) (by decide) ?_; clear hf a; intro a hf
        refine gKnown hf rfl rfl rfl ?_
        refine gL hf (g_neq hf rfl rfl) (by decide) ?_; clear hf a; intro a hf
        refine gL hf (g_pick hf rfl rfl rfl) (by decide) ?_; clear hf a; intro a hf
        refine gL hf (g_mv hf rfl) (by decide) ?_; clear hf a; intro a hf
        refine gKnown hf rfl rfl rfl ?_
        refine gL hf (g_mv hf rfl) (by decide) ?_; clear hf a; intro a hf
        refine gKnown hf rfl rfl rfl ?_
        refine gL hf (g_neq hf rfl rfl) (by decide) ?_; clear hf a; intro a hf
        refine gL hf (g_pick hf rfl rfl rfl) (by decide) ?_; clear hf a; intro a hf
        refine gL hf (g_mv hf rfl) (by decide) ?_; clear hf a; intro a hf
        refine gKnown hf rfl rfl rfl ?_
        refine gL hf (g_mv hf rfl) (by decide) ?_; clear hf a; intro a hf
        refine gKnown hf rfl rfl rfl ?_
        refine gL hf (g_neq hf rfl rfl) (by decide) ?_; clear hf a; intro a hf
        refine gL hf (g_pick hf rfl rfl rfl) (by decide) ?_; clear hf a; intro a hf
        refine gL hf (g_mv hf rfl) (by decide) ?_; clear hf a; intro a hf
        refine gKnown hf rfl rfl rfl ?_
        refine gL hf (g_mv hf rfl) (by decide) ?_; clear hf a; intro a hf
        refine gKnown hf rfl rfl rfl ?_
        refine gL hf (g_neq hf rfl rfl) (by decide) ?_; clear hf a; intro a hf
        refine gL hf (g_pick hf rfl rfl rfl) (by decide) ?_; clear hf a; intro a hf
        refine gL hf (g_mv hf rfl) (by decide) ?_; clear hf a; intro a hf
        refine gKnown hf rfl rfl rfl ?_
        refine gL hf (g_mv hf rfl) (by decide) ?_; clear hf a; intro a hf
        refine gKnown hf rfl rfl rfl ?_
        refine gL hf (g_neq hf rfl rfl) (by decide) ?_; clear hf a; intro a hf
        refine gL hf (g_pick hf rfl rfl rfl) (by decide) ?_; clear hf a; intro a hf
        refine e_nil ?_
        refine c_cond hf rfl (fun hc3 => ?_) (fun hc3 => ?_)
        · skip
          cases hc3
        · skip
          refine c_skip (q_thenN ?_)
          refine c_reg ?_
          refine gL hf (g_bld hf [[.int .i64 0], [.int .i64 0], [.int .i64 0]] (.cons rfl (.cons rfl (.cons rfl .nil))) (fun _ => by kernel_rfl)) (by decide) ?_; clear hf a; intro a hf
          refine gL hf (g_bld hf [[.int .i64 0], [.int .i64 0], [.int .i64 0]] (.cons rfl (.cons rfl (.cons rfl .nil))) (fun _ => by kernel_rfl)) (by decide) ?_; clear hf a; intro a hf
          refine gL hf (g_bld hf [[.int .i64 0], [.int .i64 0], [.int .i64 0]] (.cons rfl (.cons rfl (.cons rfl .nil))) (fun _ => by kernel_rfl)) (by decide) ?_; clear hf a; intro a hf
          refine gL hf (g_bld hf [[.int .i64 0], [.int .i64 0], [.int .i64 0]] (.cons rfl (.cons rfl (.cons rfl .nil))) (fun _ => by kernel_rfl)) (by decide) ?_; clear hf a; intro a hf
          refine gL hf (g_bld hf [[.int .i64 0], [.int .i64 0], [.int .i64 0]] (.cons rfl (.cons rfl (.cons rfl .nil))) (fun _ => by kernel_rfl)) (by decide) ?_; clear hf a; intro a hf
          refine gL hf (g_bld hf [[.int .i64 0], [.int .i64 0], [.int .i64 0]] (.cons rfl (.cons rfl (.cons rfl .nil))) (fun _ => by kernel_rfl)) (by decide) ?_; clear hf a; intro a hf
          refine vL hf (v_lits (len := 6) hf hs SL66 T65 (.cons rfl (.cons rfl (.cons rfl (.cons rfl (.cons rfl (.cons rfl .nil)))))) rfl rfl rfl rfl (by decide) rfl) (by decide) ?_; clear hs hf a; rintro _ w ⟨b5, rfl, hs⟩ a hf
          refine gL hf (g_as hf rfl) (by decide) ?_; clear hf a; intro a hf
          refine e_nil ?_
          refine wp_seq ?_
          replace hs := (hs.sub (List.nil_sublist _)).addD (D := Rd enc3 3 (some ⟨b5, 0, none⟩) 6 mtL) ((rd_of_flat (sz := 3) (len := 6) (fun _ => rfl) (by decide) (hs.own _ _ (.head _)).2 rfl (by decide) rfl).stable (by simp))
          refine c_reg ?_
          refine gL hf (g_as hf rfl) (by decide) ?_; clear hf a; intro a hf
          refine e_nil ?_
          refine c_block ?_
          refine c_loop hf hs (List.range' 0 1 ++ List.range' 38 3 ++ List.range' 333 32) (σ := Nat) (fun q => [(38, .int .i64 (q : Nat))]) (fun q => _) (fun q => q ≤ 6) (fun q => 6 - q) 0 (by omega) (.cons rfl .nil) rfl ?_
          intro q a w hJ hf hs
          refine wp_seq ?_
          refine c_reg ?_
          refine gL hf (g_mv hf rfl) (by decide) ?_; clear hf a; intro a hf
          refine gL hf (g_mv hf rfl) (by decide) ?_; clear hf a; intro a hf
          refine gL hf (g_len hf SL66 rfl) (by decide) ?_; clear hf a; intro a hf
          refine gL hf (g_lss hf rfl rfl) (by decide) ?_; clear hf a; intro a hf
          refine e_nil ?_
          refine c_cond hf rfl (fun hc4 => ?_) (fun hc4 => ?_)
          · try simp only [decide_eq_true_eq, decide_eq_false_iff_not] at hc4
            have hq6 : q < 6 := by omega
            refine c_skip (q_thenN ?_)
            refine c_blockS ?_
            refine c_draw _ 17 Mx rfl hs (fun _ h => h) ?_; intro w hs hS
            refine gA hf hS (i := 1) rfl (by kernel_rfl) (fun w hs => g_mv hf rfl) (by decide) ?_; clear hf a; intro a hf
            refine gA hf hS (i := 2) rfl (by kernel_rfl) (fun w hs => g_mv hf rfl) (by decide) ?_; clear hf a; intro a hf
            (first | (refine gA hf hS (i := 3) rfl (by kernel_rfl) (fun w hs => g_ixE hf hs (.head _) SL66 rfl rfl (by omega)) (by decide) ?_) | (refine gA hf hS (i := 3) rfl (by kernel_rfl) (fun w hs => g_ixD hf hs (.head _) SL66 rfl rfl (by omega)) (by decide) ?_)); clear hf a; intro a hf
            refine gA hf hS (i := 4) rfl (by kernel_rfl) (fun w hs => g_ixAD (j' := 0) hf hs (.head _) AR65 rfl rfl (by omega) (by omega) rfl) (by decide) ?_; clear hf a; intro a hf
            refine gA hf hS (i := 5) rfl (by kernel_rfl) (fun w hs => g_ldE hf hs (.head _) T3 rfl rfl (by omega)) (by decide) ?_; clear hf a; intro a hf
            refine gA hf hS (i := 6) rfl (by kernel_rfl) (fun w hs => g_mv hf rfl) (by decide) ?_; clear hf a; intro a hf
            refine gA hf hS (i := 7) rfl (by kernel_rfl) (fun w hs => g_mv hf rfl) (by decide) ?_; clear hf a; intro a hf
            (first | (refine gA hf hS (i := 8) rfl (by kernel_rfl) (fun w hs => g_ixE hf hs (.head _) SL66 rfl rfl (by omega)) (by decide) ?_) | (refine gA hf hS (i := 8) rfl (by kernel_rfl) (fun w hs => g_ixD hf hs (.head _) SL66 rfl rfl (by omega)) (by decide) ?_)); clear hf a; intro a hf
            refine gA hf hS (i := 9) rfl (by kernel_rfl) (fun w hs => g_ixAD (j' := 1) hf hs (.head _) AR65 rfl rfl (by omega) (by omega) rfl) (by decide) ?_; clear hf a; intro a hf
            refine gA hf hS (i := 10) rfl (by kernel_rfl) (fun w hs => g_ldE hf hs (.head _) T3 rfl rfl (by omega)) (by decide) ?_; clear hf a; intro a hf
            refine one (i := 0) (by kernel_rfl) ?_
            refine oCallX hf hs rfl (c_ringed _) rfl rfl rfl E51 (by decide) (fun _ h => h.sub (.refl _)) ?_; intro v w1 a hR hb hs1 hS hf; obtain ⟨bf119, br119, rfl, hch⟩ := hR; replace hs := hs.fresh hs1 (chFresh (m := w0.heap.size) hch hs.below.size); clear hs1 hb
            refine one (i := 11) (by kernel_rfl) ?_
            refine oCall hf hs rfl (c_Meet (chapB 5 6) (some ⟨bf119, 0, none⟩) 4 (some ⟨br119, 0, none⟩) 4 ge gz (mtL.getD q default).1 (mtL.getD q default).2.1 _ (hs.rd (.head _)).sh (hs.rd (.tail _ (.tail _ (.tail _ (.tail _ (.tail _ (.tail _ (.tail _ (.tail _ (.tail _ (.tail _ (.tail _ (.tail _ (.tail _ (.tail _ (.head _))))))))))))))))) rfl rfl rfl E15 (by decide) (fun _ h => (h.sub (.refl _)).subD (fun _ h => (.tail _ h))) ?_; clear hs hf hS a; intro w a hs hS hf
            rw [k_met q hq6] at hf
            refine gA hf hS (i := 12) rfl (by kernel_rfl) (fun w hs => g_mv hf rfl) (by decide) ?_; clear hf a; intro a hf
            refine gA hf hS (i := 13) rfl (by kernel_rfl) (fun w hs => g_ext hf rfl rfl) (by decide) ?_; clear hf a; intro a hf
            refine gA hf hS (i := 14) rfl (by kernel_rfl) (fun w hs => g_ext hf rfl rfl) (by decide) ?_; clear hf a; intro a hf
            refine gA hf hS (i := 15) rfl (by kernel_rfl) (fun w hs => g_as hf rfl) (by decide) ?_; clear hf a; intro a hf
            refine gA hf hS (i := 16) rfl (by kernel_rfl) (fun w hs => g_as hf rfl) (by decide) ?_; clear hf a; intro a hf
            refine e_done (by kernel_rfl) ?_
            refine c_reg ?_
            refine gL hf (g_mv hf rfl) (by decide) ?_; clear hf a; intro a hf
            refine gL hf (g_neq hf rfl rfl) (by decide) ?_; clear hf a; intro a hf
            refine gL hf (g_mv hf rfl) (by decide) ?_; clear hf a; intro a hf
            refine gKnown hf rfl rfl rfl ?_
            refine gL hf (g_mv hf rfl) (by decide) ?_; clear hf a; intro a hf
            refine gKnown hf rfl rfl rfl ?_
            refine gL hf (g_mv hf rfl) (by decide) ?_; clear hf a; intro a hf
            refine gKnown hf rfl rfl rfl ?_
            refine gL hf (g_mv hf rfl) (by decide) ?_; clear hf a; intro a hf
            refine gKnown hf rfl rfl rfl ?_
            (first | (refine gL hf (g_ixE hf hs (.tail _ (.head _)) SL66 rfl rfl (by omega)) (by decide) ?_) | (refine gL hf (g_ixD hf hs (.tail _ (.head _)) SL66 rfl rfl (by omega)) (by decide) ?_)); clear hf a; intro a hf
            refine gKnown hf rfl rfl rfl ?_
            refine gL hf (g_ixAD (j' := 2) hf hs (.tail _ (.head _)) AR65 rfl rfl (by omega) (by omega) rfl) (by decide) ?_; clear hf a; intro a hf
            refine gKnown hf rfl rfl rfl ?_
            refine gL hf (g_ldE hf hs (.tail _ (.head _)) T3 rfl rfl (by omega)) (by decide) ?_; clear hf a; intro a hf
            refine gKnown hf rfl rfl rfl ?_
            refine gL hf (g_neq hf rfl rfl) (by decide) ?_; clear hf a; intro a hf
            refine gL hf (g_pick hf rfl rfl rfl) (by decide) ?_; clear hf a; intro a hf
            refine e_nil ?_
            refine c_cond hf rfl (fun hc5 => ?_) (fun hc5 => ?_)
            · skip
              simp at hc5
            · skip
              refine c_skip (q_blkN (q_thenN ?_))
              refine c_reg1 ?_
              refine gL hf (g_mv hf rfl) (by decide) ?_; clear hf a; intro a hf
              refine gL hf (g_addI hf rfl rfl (by omega)) (by decide) ?_; clear hf a; intro a hf
              refine gL hf (g_as hf rfl) (by decide) ?_; clear hf a; intro a hf
              refine e_nil1 (q_thenN ?_)
              exact ⟨q + 1, (by omega), (by omega), hf.back (by repeat (first | (with_reducible exact Ext.base) | ((with_reducible refine Ext.cons ?_ ?_); (· rfl)) | ((with_reducible refine Ext.over ?_ ?_ ?_); (· rfl); (· rfl)))) (allKeys rfl) (.cons rfl .nil), (hs.dropN 0).subD (fun _ h => (.tail _ h))⟩
          · try simp only [decide_eq_true_eq, decide_eq_false_iff_not] at hc4
            obtain rfl : q = 6 := by omega
            refine c_exit (q_thenX (q_thenX (q_blkX (q_thenN ?_))))
            refine c_reg ?_
            refine callX hf hs (c_ringed _) rfl rfl rfl E51 (by decide) ?_; intro v w1 a hR hb hs1 hf; obtain ⟨bf120, br120, rfl, hch⟩ := hR; replace hs := hs.fresh hs1 (chFresh (m := w0.heap.size) hch hs.below.size); clear hs1 hb
            refine vL hf (v_lits (len := 4) hf hs SL27 T3 (.cons rfl (.cons rfl (.cons rfl (.cons rfl .nil)))) rfl rfl rfl rfl (by decide) rfl) (by decide) ?_; clear hs hf a; rintro _ w ⟨b6, rfl, hs⟩ a hf
            refine callL hf hs (c_Does (chapB 5 6) (some ⟨bf120, 0, none⟩) 4 (some ⟨br120, 0, none⟩) 4 _ _ [2, 0, 1, 3] ge gz (by decide) _ (hs.rd (.head _)).sh (show Rd encI 1 (some ⟨b6, 0, none⟩) 4 [2, 0, 1, 3] w from rd_of_flat (sz := 1) (fun _ => rfl) (by decide) (hs.own _ _ (.head _)).2 rfl (by decide) rfl) (hs.rd (.tail _ (.tail _ (.tail _ (.tail _ (.tail _ (.tail _ (.tail _ (.tail _ (.tail _ (.tail _ (.tail _ (.tail _ (.tail _ (.tail _ (.head _))))))))))))))))) rfl rfl rfl E19 (by decide) ?_; clear hs hf a; intro w a hs hf
            rw [k10] at hf
            refine gL hf (g_mv hf rfl) (by decide) ?_; clear hf a; intro a hf
            refine gL hf (g_ext hf rfl rfl) (by decide) ?_; clear hf a; intro a hf
            refine gL hf (g_ext hf rfl rfl) (by decide) ?_; clear hf a; intro a hf
            refine gL hf (g_as hf rfl) (by decide) ?_; clear hf a; intro a hf
            refine gL hf (g_as hf rfl) (by decide) ?_; clear hf a; intro a hf
            refine e_nil ?_
            refine c_reg ?_
            refine callX hf hs (c_ringed _) rfl rfl rfl E51 (by decide) ?_; intro v w1 a hR hb hs1 hf; obtain ⟨bf121, br121, rfl, hch⟩ := hR; replace hs := hs.fresh hs1 (chFresh (m := w0.heap.size) hch hs.below.size); clear hs1 hb
            refine vL hf (v_lits (len := 4) hf hs SL27 T3 (.cons rfl (.cons rfl (.cons rfl (.cons rfl .nil)))) rfl rfl rfl rfl (by decide) rfl) (by decide) ?_; clear hs hf a; rintro _ w ⟨b7, rfl, hs⟩ a hf
            refine callL hf hs (c_Does (chapB 5 6) (some ⟨bf121, 0, none⟩) 4 (some ⟨br121, 0, none⟩) 4 _ _ [0, 1, 2, 3] ge gz (by decide) _ (hs.rd (.head _)).sh (show Rd encI 1 (some ⟨b7, 0, none⟩) 4 [0, 1, 2, 3] w from rd_of_flat (sz := 1) (fun _ => rfl) (by decide) (hs.own _ _ (.head _)).2 rfl (by decide) rfl) (hs.rd (.tail _ (.tail _ (.tail _ (.tail _ (.tail _ (.tail _ (.tail _ (.tail _ (.tail _ (.tail _ (.tail _ (.tail _ (.tail _ (.tail _ (.tail _ (.head _)))))))))))))))))) rfl rfl rfl E19 (by decide) ?_; clear hs hf a; intro w a hs hf
            rw [k11] at hf
            refine gL hf (g_mv hf rfl) (by decide) ?_; clear hf a; intro a hf
            refine gL hf (g_ext hf rfl rfl) (by decide) ?_; clear hf a; intro a hf
            refine gL hf (g_ext hf rfl rfl) (by decide) ?_; clear hf a; intro a hf
            refine gL hf (g_as hf rfl) (by decide) ?_; clear hf a; intro a hf
            refine gL hf (g_as hf rfl) (by decide) ?_; clear hf a; intro a hf
            refine e_nil ?_
            refine c_reg ?_
            refine callX hf hs (c_short _) rfl rfl rfl E53 (by decide) ?_; intro v w1 a hR hb hs1 hf; obtain ⟨bf202, br202, rfl, hch⟩ := hR; replace hs := hs.fresh hs1 (chFresh (m := w0.heap.size) hch hs.below.size); clear hs1 hb
            refine vL hf (v_lits (len := 4) hf hs SL27 T3 (.cons rfl (.cons rfl (.cons rfl (.cons rfl .nil)))) rfl rfl rfl rfl (by decide) rfl) (by decide) ?_; clear hs hf a; rintro _ w ⟨b8, rfl, hs⟩ a hf
            refine callL hf hs (c_Does (chapB 5 5) (some ⟨bf202, 0, none⟩) 4 (some ⟨br202, 0, none⟩) 4 _ _ [1, 3, 2, 0] ge gz (by decide) _ (hs.rd (.head _)).sh (show Rd encI 1 (some ⟨b8, 0, none⟩) 4 [1, 3, 2, 0] w from rd_of_flat (sz := 1) (fun _ => rfl) (by decide) (hs.own _ _ (.head _)).2 rfl (by decide) rfl) (hs.rd (.tail _ (.tail _ (.tail _ (.tail _ (.tail _ (.tail _ (.tail _ (.tail _ (.tail _ (.tail _ (.tail _ (.tail _ (.tail _ (.tail _ (.tail _ (.tail _ (.head _))))))))))))))))))) rfl rfl rfl E19 (by decide) ?_; clear hs hf a; intro w a hs hf
            rw [k12] at hf
            refine gL hf (g_mv hf rfl) (by decide) ?_; clear hf a; intro a hf
            refine gL hf (g_ext hf rfl rfl) (by decide) ?_; clear hf a; intro a hf
            refine gL hf (g_ext hf rfl rfl) (by decide) ?_; clear hf a; intro a hf
            refine gL hf (g_as hf rfl) (by decide) ?_; clear hf a; intro a hf
            refine gL hf (g_as hf rfl) (by decide) ?_; clear hf a; intro a hf
            refine e_nil ?_
            refine c_reg ?_
            refine callX hf hs (c_ringed _) rfl rfl rfl E51 (by decide) ?_; intro v w1 a hR hb hs1 hf; obtain ⟨bf122, br122, rfl, hch⟩ := hR; replace hs := hs.fresh hs1 (chFresh (m := w0.heap.size) hch hs.below.size); clear hs1 hb
            refine callL hf hs (c_Orders (chapB 5 6) (some ⟨bf122, 0, none⟩) 4 (some ⟨br122, 0, none⟩) 4 ge gz _ (hs.rd (.head _)).sh (hs.rd (.tail _ (.tail _ (.tail _ (.tail _ (.tail _ (.tail _ (.tail _ (.tail _ (.tail _ (.tail _ (.tail _ (.tail _ (.tail _ (.tail _ (.tail _ (.tail _ (.tail _ (.head _)))))))))))))))))))) rfl rfl rfl E25 (by decide) ?_; clear hs hf a; intro w a hs hf
            rw [k13] at hf
            refine gL hf (g_mv hf rfl) (by decide) ?_; clear hf a; intro a hf
            refine gL hf (g_ext hf rfl rfl) (by decide) ?_; clear hf a; intro a hf
            refine gL hf (g_ext hf rfl rfl) (by decide) ?_; clear hf a; intro a hf
            refine gL hf (g_as hf rfl) (by decide) ?_; clear hf a; intro a hf
            refine gL hf (g_as hf rfl) (by decide) ?_; clear hf a; intro a hf
            refine e_nil ?_
            refine c_reg ?_
            refine callX hf hs (c_ringed _) rfl rfl rfl E51 (by decide) ?_; intro v w1 a hR hb hs1 hf; obtain ⟨bf123, br123, rfl, hch⟩ := hR; replace hs := hs.fresh hs1 (chFresh (m := w0.heap.size) hch hs.below.size); clear hs1 hb
            refine callL hf hs (c_Shorter (chapB 5 6) (some ⟨bf123, 0, none⟩) 4 (some ⟨br123, 0, none⟩) 4 ge gz 1 _ (hs.rd (.head _)).sh (hs.rd (.tail _ (.tail _ (.tail _ (.tail _ (.tail _ (.tail _ (.tail _ (.tail _ (.tail _ (.tail _ (.tail _ (.tail _ (.tail _ (.tail _ (.tail _ (.tail _ (.tail _ (.tail _ (.head _))))))))))))))))))))) rfl rfl rfl E31 (by decide) ?_; clear hs hf a; intro w a hs hf
            rw [k14] at hf
            refine gL hf (g_mv hf rfl) (by decide) ?_; clear hf a; intro a hf
            refine gL hf (g_ext hf rfl rfl) (by decide) ?_; clear hf a; intro a hf
            refine gL hf (g_ext hf rfl rfl) (by decide) ?_; clear hf a; intro a hf
            refine gL hf (g_as hf rfl) (by decide) ?_; clear hf a; intro a hf
            refine gL hf (g_as hf rfl) (by decide) ?_; clear hf a; intro a hf
            refine e_nil ?_
            refine c_reg ?_
            refine callX hf hs (c_short _) rfl rfl rfl E53 (by decide) ?_; intro v w1 a hR hb hs1 hf; obtain ⟨bf203, br203, rfl, hch⟩ := hR; replace hs := hs.fresh hs1 (chFresh (m := w0.heap.size) hch hs.below.size); clear hs1 hb
            refine callL hf hs (c_Shorter (chapB 5 5) (some ⟨bf203, 0, none⟩) 4 (some ⟨br203, 0, none⟩) 4 ge gz 1 _ (hs.rd (.head _)).sh (hs.rd (.tail _ (.tail _ (.tail _ (.tail _ (.tail _ (.tail _ (.tail _ (.tail _ (.tail _ (.tail _ (.tail _ (.tail _ (.tail _ (.tail _ (.tail _ (.tail _ (.tail _ (.tail _ (.tail _ (.head _)))))))))))))))))))))) rfl rfl rfl E31 (by decide) ?_; clear hs hf a; intro w a hs hf
            rw [k15] at hf
            refine gL hf (g_mv hf rfl) (by decide) ?_; clear hf a; intro a hf
            refine gL hf (g_ext hf rfl rfl) (by decide) ?_; clear hf a; intro a hf
            refine gL hf (g_ext hf rfl rfl) (by decide) ?_; clear hf a; intro a hf
            refine gL hf (g_as hf rfl) (by decide) ?_; clear hf a; intro a hf
            refine gL hf (g_as hf rfl) (by decide) ?_; clear hf a; intro a hf
            refine e_nil ?_
            refine c_reg ?_
            refine callX hf hs (c_short _) rfl rfl rfl E53 (by decide) ?_; intro v w1 a hR hb hs1 hf; obtain ⟨bf204, br204, rfl, hch⟩ := hR; replace hs := hs.fresh hs1 (chFresh (m := w0.heap.size) hch hs.below.size); clear hs1 hb
            refine callX hf hs (c_Drop (chapB 5 5) (some ⟨bf204, 0, none⟩) 4 (some ⟨br204, 0, none⟩) 4 ge gz _ (hs.rd (.head _)).sh (hs.rd (.tail _ (.tail _ (.tail _ (.tail _ (.tail _ (.tail _ (.tail _ (.tail _ (.tail _ (.tail _ (.tail _ (.tail _ (.tail _ (.tail _ (.tail _ (.tail _ (.tail _ (.tail _ (.tail _ (.tail _ (.head _))))))))))))))))))))))) rfl rfl rfl E33 (by decide) ?_; intro v w1 a hR hb hs1 hf; obtain ⟨A204, c204, rfl, hou⟩ := hR; rw [k16] at hou hf; replace hs := hs.fresh hs1 (outFresh hou); clear hs1 hb
            refine gL hf (g_mv hf rfl) (by decide) ?_; clear hf a; intro a hf
            refine gL hf (g_ext hf rfl rfl) (by decide) ?_; clear hf a; intro a hf
            refine gL hf (g_ext hf rfl rfl) (by decide) ?_; clear hf a; intro a hf
            refine gL hf (g_as hf rfl) (by decide) ?_; clear hf a; intro a hf
            refine gL hf (g_as hf rfl) (by decide) ?_; clear hf a; intro a hf
            refine e_nil ?_
            refine c_reg ?_
            refine gL hf (g_mv hf rfl) (by decide) ?_; clear hf a; intro a hf
            refine gL hf (g_eql hf rfl rfl) (by decide) ?_; clear hf a; intro a hf
            refine gL hf (g_mv hf rfl) (by decide) ?_; clear hf a; intro a hf
            refine gKnown hf rfl rfl rfl ?_
            refine gL hf (g_mv hf rfl) (by decide) ?_; clear hf a; intro a hf
            refine gKnown hf rfl rfl rfl ?_
            refine gL hf (g_eql hf rfl rfl) (by decide) ?_; clear hf a; intro a hf
            refine gL hf (g_pick hf rfl rfl rfl) (by decide) ?_; clear hf a; intro a hf
            refine gL hf (g_mv hf rfl) (by decide) ?_; clear hf a; intro a hf
            refine gKnown hf rfl rfl rfl ?_
            refine gL hf (g_mv hf rfl) (by decide) ?_; clear hf a; intro a hf
            refine gKnown hf rfl rfl rfl ?_
            refine gL hf (g_eql hf rfl rfl) (by decide) ?_; clear hf a; intro a hf
            refine gL hf (g_pick hf rfl rfl rfl) (by decide) ?_; clear hf a; intro a hf
            refine gL hf (g_mv hf rfl) (by decide) ?_; clear hf a; intro a hf
            refine gKnown hf rfl rfl rfl ?_
            refine gL hf (g_mv hf rfl) (by decide) ?_; clear hf a; intro a hf
            refine gKnown hf rfl rfl rfl ?_
            refine gL hf (g_eql hf rfl rfl) (by decide) ?_; clear hf a; intro a hf
            refine gL hf (g_pick hf rfl rfl rfl) (by decide) ?_; clear hf a; intro a hf
            refine gL hf (g_mv hf rfl) (by decide) ?_; clear hf a; intro a hf
            refine gKnown hf rfl rfl rfl ?_
            refine gL hf (g_mv hf rfl) (by decide) ?_; clear hf a; intro a hf
            refine gKnown hf rfl rfl rfl ?_
            refine gL hf (g_eql hf rfl rfl) (by decide) ?_; clear hf a; intro a hf
            refine gL hf (g_pick hf rfl rfl rfl) (by decide) ?_; clear hf a; intro a hf
            refine gL hf (g_mv hf rfl) (by decide) ?_; clear hf a; intro a hf
            refine gKnown hf rfl rfl rfl ?_
            refine gL hf (g_mv hf rfl) (by decide) ?_; clear hf a; intro a hf
            refine gKnown hf rfl rfl rfl ?_
            refine gL hf (g_eql hf rfl rfl) (by decide) ?_; clear hf a; intro a hf
            refine gL hf (g_pick hf rfl rfl rfl) (by decide) ?_; clear hf a; intro a hf
            refine gL hf (g_mv hf rfl) (by decide) ?_; clear hf a; intro a hf
            refine gKnown hf rfl rfl rfl ?_
            refine gL hf (g_mv hf rfl) (by decide) ?_; clear hf a; intro a hf
            refine gKnown hf rfl rfl rfl ?_
            refine gL hf (g_eql hf rfl rfl) (by decide) ?_; clear hf a; intro a hf
            refine gL hf (g_pick hf rfl rfl rfl) (by decide) ?_; clear hf a; intro a hf
            refine gL hf (g_mv hf rfl) (by decide) ?_; clear hf a; intro a hf
            refine gKnown hf rfl rfl rfl ?_
            refine gL hf (g_mv hf rfl) (by decide) ?_; clear hf a; intro a hf
            refine gKnown hf rfl rfl rfl ?_
            refine gL hf (g_eql hf rfl rfl) (by decide) ?_; clear hf a; intro a hf
            refine gL hf (g_pick hf rfl rfl rfl) (by decide) ?_; clear hf a; intro a hf
            refine gL hf (g_mv hf rfl) (by decide) ?_; clear hf a; intro a hf
            refine gKnown hf rfl rfl rfl ?_
            refine gL hf (g_mv hf rfl) (by decide) ?_; clear hf a; intro a hf
            refine gKnown hf rfl rfl rfl ?_
            refine gL hf (g_eql hf rfl rfl) (by decide) ?_; clear hf a; intro a hf
            refine gL hf (g_pick hf rfl rfl rfl) (by decide) ?_; clear hf a; intro a hf
            refine gL hf (g_mv hf rfl) (by decide) ?_; clear hf a; intro a hf
            refine gKnown hf rfl rfl rfl ?_
            refine gL hf (g_mv hf rfl) (by decide) ?_; clear hf a; intro a hf
            refine gKnown hf rfl rfl rfl ?_
            refine gL hf (g_eql hf rfl rfl) (by decide) ?_; clear hf a; intro a hf
            refine gL hf (g_pick hf rfl rfl rfl) (by decide) ?_; clear hf a; intro a hf
            refine gL hf (g_mv hf rfl) (by decide) ?_; clear hf a; intro a hf
            refine gKnown hf rfl rfl rfl ?_
            refine gL hf (g_mv hf rfl) (by decide) ?_; clear hf a; intro a hf
            refine gKnown hf rfl rfl rfl ?_
            refine gL hf (g_eql hf rfl rfl) (by decide) ?_; clear hf a; intro a hf
            refine gL hf (g_pick hf rfl rfl rfl) (by decide) ?_; clear hf a; intro a hf
            refine gL hf (g_mv hf rfl) (by decide) ?_; clear hf a; intro a hf
            refine gKnown hf rfl rfl rfl ?_
            refine gL hf (g_mv hf rfl) (by decide) ?_; clear hf a; intro a hf
            refine gKnown hf rfl rfl rfl ?_
            refine gL hf (g_eql hf rfl rfl) (by decide) ?_; clear hf a; intro a hf
            refine gL hf (g_pick hf rfl rfl rfl) (by decide) ?_; clear hf a; intro a hf
            refine gL hf (g_mv hf rfl) (by decide) ?_; clear hf a; intro a hf
            refine gKnown hf rfl rfl rfl ?_
            refine gL hf (g_mv hf rfl) (by decide) ?_; clear hf a; intro a hf
            refine gKnown hf rfl rfl rfl ?_
            refine gL hf (g_eql hf rfl rfl) (by decide) ?_; clear hf a; intro a hf
            refine gL hf (g_pick hf rfl rfl rfl) (by decide) ?_; clear hf a; intro a hf
            refine gL hf (g_mv hf rfl) (by decide) ?_; clear hf a; intro a hf
            refine gKnown hf rfl rfl rfl ?_
            refine gL hf (g_mv hf rfl) (by decide) ?_; clear hf a; intro a hf
            refine gKnown hf rfl rfl rfl ?_
            refine gL hf (g_len hf SL27 rfl) (by decide) ?_; clear hf a; intro a hf
            refine gKnown hf rfl rfl rfl ?_
            refine gL hf (g_eql hf rfl rfl) (by decide) ?_; clear hf a; intro a hf
            refine gL hf (g_pick hf rfl rfl rfl) (by decide) ?_; clear hf a; intro a hf
            refine gL hf (g_mv hf rfl) (by decide) ?_; clear hf a; intro a hf
            refine gL hf (g_pick hf rfl rfl rfl) (by decide) ?_; clear hf a; intro a hf
            refine gL hf (g_mv hf rfl) (by decide) ?_; clear hf a; intro a hf
            refine gKnown hf rfl rfl rfl ?_
            refine callL hf hs (c_folded ge gz _ (hs.rd (.tail _ (.tail _ (.tail _ (.tail _ (.tail _ (.tail _ (.tail _ (.tail _ (.tail _ (.tail _ (.tail _ (.tail _ (.tail _ (.tail _ (.tail _ (.tail _ (.tail _ (.tail _ (.tail _ (.tail _ (.tail _ (.head _)))))))))))))))))))))))) rfl rfl rfl E21 (by decide) ?_; clear hs hf a; intro w a hs hf
            refine gL hf (g_pick hf rfl rfl rfl) (by decide) ?_; clear hf a; intro a hf
            refine gL hf (g_as hf rfl) (by decide) ?_; clear hf a; intro a hf
            refine e_nil ?_
            refine c_ret ?_
            refine e_ret1 hf rfl rfl ?_
            exact ⟨rfl, hs.below⟩

end Go.Proofs.YtpjhffockmnjbaaDoor
