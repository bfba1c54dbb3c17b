/- Part 5 of the proof of FoldDrops: laws of the engine, plain facts and contracts of the functions that the law reaches. Conditions: none beyond those of each theorem. -/
import Derived.Test.YtpjhffockmnjbaaDoorFoldDropsD
set_option linter.unusedVariables false
set_option linter.unusedSimpArgs false
namespace Go.Proofs.YtpjhffockmnjbaaDoor
open Go.RowKit
theorem c_stoppedL (b : Sheet) (fA : Option Addr) (fc : Nat) (rA : Option Addr) (rc : Nat) (oA : Option Addr) (oc : Nat) (l : List Int) (mA : Option Addr) (mc : Nat) (bits : List Int) (hv : Valid b) (w0 : World) (h : ShIn b fA fc rA rc w0) (ho : Rd encI 1 oA l.length l w0) (hm : Rd encI 1 mA bits.length bits w0) :
    Calls Tryd.prog 37 #[.agg #[.int .i64 b.wide, .int .i64 b.high, .slice fA b.flaps.length fc, .slice rA b.rules.length rc], .slice oA l.length oc, .slice mA bits.length mc] w0 (Ret w0 (.bool (stoppedB b l bits))) := by
  refine c_enter (n := 48) Tryd.func37 rfl rfl (Nat.le_of_ble_eq_true rfl) ?_; intro a hf; simp only [zipR] at hf
  have hs := St.start w0 [Rd encF 5 fA b.flaps.length b.flaps, Rd encR 2 rA b.rules.length b.rules, Rd encI 1 oA l.length l, Rd encI 1 mA bits.length bits] (stab_app (stab_app h.stab ho.st1) hm.st1)
  have hfm := h.F.2.1; have hrm := h.R.2.1; have hlm := ho.2.1; have hmm := hm.2.1
  refine c_reg ?_
  refine vL hf (v_boxA hf hs rfl) (by decide) ?_; clear hs hf a; rintro _ w ⟨b1, rfl, hs⟩ a hf
  refine gL hf (g_as hf rfl) (by decide) ?_; clear hf a; intro a hf
  refine e_nil ?_
  refine wp_seq ?_
  refine c_reg ?_
  refine gL hf (g_as hf rfl) (by decide) ?_; clear hf a; intro a hf
  refine e_nil ?_
  refine c_block ?_
  refine c_loop hf hs (List.range' 6 42) (σ := Nat) (fun k => [(7, .int .i64 (k : Nat))]) (fun k => _) (fun k => k ≤ b.rules.length ∧ ∀ j, j < k → stAt b l bits (b.rules.getD j default) = false) (fun k => b.rules.length - k) 0 ⟨by omega, fun z hz => absurd hz (by omega)⟩ (.cons rfl .nil) rfl ?_
  intro k a w hJ hf hs
  obtain ⟨hk, hp⟩ := hJ
  refine wp_seq ?_
  refine c_reg ?_
  refine gL hf (g_mv hf rfl) (by decide) ?_; clear hf a; intro a hf
  refine gL hf (g_fa (off' := 3) hf F25_3 rfl rfl) (by decide) ?_; clear hf a; intro a hf
  refine gL hf (g_ld hf hs T23 rfl (k := 0) rfl rfl) (by decide) ?_; clear hf a; intro a hf
  refine gL hf (g_len hf SL23 rfl) (by decide) ?_; clear hf a; intro a hf
  refine gL hf (g_lss hf rfl rfl) (by decide) ?_; clear hf a; intro a hf
  refine e_nil ?_
  refine c_cond hf rfl (fun hc1 => ?_) (fun hc1 => ?_)
  · try simp only [decide_eq_true_eq, decide_eq_false_iff_not] at hc1
    have hri := rule_in hv (getD_mem (l := b.rules) (i := k) (by omega))
    refine c_skip (q_thenN ?_)
    refine c_blockS ?_
    refine c_reg ?_
    refine gL hf (g_fa (off' := 3) hf F25_3 rfl rfl) (by decide) ?_; clear hf a; intro a hf
    refine gL hf (g_ld hf hs T23 rfl (k := 0) rfl rfl) (by decide) ?_; clear hf a; intro a hf
    refine gL hf (g_mv hf rfl) (by decide) ?_; clear hf a; intro a hf
    (first | (refine gL hf (g_ixE hf hs (.tail _ (.head _)) SL23 rfl rfl (by omega)) (by decide) ?_) | (refine gL hf (g_ixD hf hs (.tail _ (.head _)) SL23 rfl rfl (by omega)) (by decide) ?_)); clear hf a; intro a hf
    refine gL hf (g_ldEW hf hs (.tail _ (.head _)) T64 rfl rfl (by omega)) (by decide) ?_; clear hf a; intro a hf
    refine vL hf (v_alloc hs T64 rfl) (by decide) ?_; clear hs hf a; rintro _ w ⟨b2, rfl, hs⟩ a hf
    refine uL (u_stW hf hs T64 rfl rfl rfl (k := 0) rfl rfl rfl) ?_; clear hs; intro w hs; dsimp only [List.set] at hs
    refine e_nil ?_
    refine c_draw _ 27 Mx rfl hs (fun _ h => h) ?_; intro w hs hS
    refine gA hf hS (i := 0) rfl (by kernel_rfl) (fun w hs => g_mv hf rfl) (by decide) ?_; clear hf a; intro a hf
    refine gA hf hS (i := 1) rfl (by kernel_rfl) (fun w hs => g_fa (off' := 0) hf F64_0 rfl rfl) (by decide) ?_; clear hf a; intro a hf
    refine gA hf hS (i := 2) rfl (by kernel_rfl) (fun w hs => g_ld hf hs T3 rfl (k := 0) rfl rfl) (by decide) ?_; clear hf a; intro a hf
    refine gA hf hS (i := 4) rfl (by kernel_rfl) (fun w hs => g_mv hf rfl) (by decide) ?_; clear hf a; intro a hf
    refine gA hf hS (i := 5) rfl (by kernel_rfl) (fun w hs => g_fa (off' := 1) hf F64_1 rfl rfl) (by decide) ?_; clear hf a; intro a hf
    refine gA hf hS (i := 6) rfl (by kernel_rfl) (fun w hs => g_ld hf hs T3 rfl (k := 0) rfl rfl) (by decide) ?_; clear hf a; intro a hf
    refine one (i := 3) (by kernel_rfl) ?_
    refine oCall hf hs rfl (c_place _ _ _ l _ _ (hs.rd (.tail _ (.tail _ (.head _))))) rfl rfl rfl E81 (by decide) (fun _ h => h.sub (.refl _)) ?_; clear hs hf hS a; intro w a hs hS hf
    refine one (i := 7) (by kernel_rfl) ?_
    refine oCall hf hs rfl (c_place _ _ _ l _ _ (hs.rd (.tail _ (.tail _ (.head _))))) rfl rfl rfl E81 (by decide) (fun _ h => h.sub (.refl _)) ?_; clear hs hf hS a; intro w a hs hS hf
    refine gA hf hS (i := 8) rfl (by kernel_rfl) (fun w hs => g_lss hf rfl rfl) (by decide) ?_; clear hf a; intro a hf
    refine gA hf hS (i := 9) rfl (by kernel_rfl) (fun w hs => g_mv hf rfl) (by decide) ?_; clear hf a; intro a hf
    refine ggA hf hS (i := 10) rfl (by kernel_rfl) rfl rfl (gyes_t _) (fun hg w hs => g_ldW hf hs T25 rfl (k := 1) rfl rfl) (by decide) ?_; clear hf a; intro a hf
    refine ggA hf hS (i := 11) rfl (by kernel_rfl) rfl rfl (gyes_t _) (fun hg w hs => g_fa (off' := 0) hf F64_0 rfl rfl) (by decide) ?_; clear hf a; intro a hf
    refine ggA hf hS (i := 12) rfl (by kernel_rfl) rfl rfl (gyes_t _) (fun hg w hs => g_ld hf hs T3 (ev_gv rfl hg) (k := 0) rfl rfl) (by decide) ?_; clear hf a; intro a hf
    refine ggA hf hS (i := 13) rfl (by kernel_rfl) rfl rfl (gyes_t _) (fun hg w hs => g_ldW hf hs T25 rfl (k := 1) rfl rfl) (by decide) ?_; clear hf a; intro a hf
    refine ggA hf hS (i := 14) rfl (by kernel_rfl) rfl rfl (gyes_t _) (fun hg w hs => g_fa (off' := 0) hf F64_0 rfl rfl) (by decide) ?_; clear hf a; intro a hf
    refine ggA hf hS (i := 15) rfl (by kernel_rfl) rfl rfl (gyes_t _) (fun hg w hs => g_ld hf hs T3 (ev_gv rfl hg) (k := 0) rfl rfl) (by decide) ?_; clear hf a; intro a hf
    refine ggA hf hS (i := 16) rfl (by kernel_rfl) rfl rfl (gyes_t _) (fun hg w hs => g_mv hf rfl) (by decide) ?_; clear hf a; intro a hf
    refine ggA hf hS (i := 18) rfl (by kernel_rfl) rfl rfl (gyes_t _) (fun hg w hs => g_fa (off' := 1) hf F64_1 rfl rfl) (by decide) ?_; clear hf a; intro a hf
    refine ggA hf hS (i := 19) rfl (by kernel_rfl) rfl rfl (gyes_t _) (fun hg w hs => g_ld hf hs T3 (ev_gv rfl hg) (k := 0) rfl rfl) (by decide) ?_; clear hf a; intro a hf
    refine ggA hf hS (i := 20) rfl (by kernel_rfl) rfl rfl (gyes_t _) (fun hg w hs => g_ldW hf hs T25 rfl (k := 1) rfl rfl) (by decide) ?_; clear hf a; intro a hf
    refine ggA hf hS (i := 21) rfl (by kernel_rfl) rfl rfl (gyes_t _) (fun hg w hs => g_fa (off' := 1) hf F64_1 rfl rfl) (by decide) ?_; clear hf a; intro a hf
    refine ggA hf hS (i := 22) rfl (by kernel_rfl) rfl rfl (gyes_t _) (fun hg w hs => g_ld hf hs T3 (ev_gv rfl hg) (k := 0) rfl rfl) (by decide) ?_; clear hf a; intro a hf
    refine ggA hf hS (i := 23) rfl (by kernel_rfl) rfl rfl (gyes_t _) (fun hg w hs => g_mv hf rfl) (by decide) ?_; clear hf a; intro a hf
    refine one (i := 17) (by kernel_rfl) ?_
    refine oCallG hf hs rfl rfl rfl (gyes_t _) (fun hg => ⟨_, _, _, _, c_reach b _ _ _ _ _ _ bits (b.rules.getD k default).over hv hri.1 _ ⟨hs.rd (.head _), hs.rd (.tail _ (.head _)), h.fc_, h.rc_⟩ (hs.rd (.tail _ (.tail _ (.tail _ (.head _))))), rfl, evs_cons (ev_gv rfl hg) (evs_cons (ev_gv rfl hg) (evs_cons (ev_gv rfl hg) evs_nil)), rfl⟩) E41 (by decide) (fun _ h => h.sub (.refl _)) ?_; clear hs hf hS a; intro w a hs hS hf
    refine one (i := 24) (by kernel_rfl) ?_
    refine oCallG hf hs rfl rfl rfl (gyes_t _) (fun hg => ⟨_, _, _, _, c_reach b _ _ _ _ _ _ bits (b.rules.getD k default).under hv hri.2 _ ⟨hs.rd (.head _), hs.rd (.tail _ (.head _)), h.fc_, h.rc_⟩ (hs.rd (.tail _ (.tail _ (.tail _ (.head _))))), rfl, evs_cons (ev_gv rfl hg) (evs_cons (ev_gv rfl hg) (evs_cons (ev_gv rfl hg) evs_nil)), rfl⟩) E41 (by decide) (fun _ h => h.sub (.refl _)) ?_; clear hs hf hS a; intro w a hs hS hf
    refine one (i := 25) (by kernel_rfl) ?_
    refine oCallG hf hs rfl rfl rfl (gyes_t _) (fun hg => ⟨_, _, _, _, c_meets b _ _ _ _ (b.rules.getD k default).over _ (b.rules.getD k default).under _ hv hri.1 hri.2 (reach_rng hv hri.1 bits).2.2 (reach_rng hv hri.2 bits).2.2 _ ⟨hs.rd (.head _), hs.rd (.tail _ (.head _)), h.fc_, h.rc_⟩, rfl, evs_cons (ev_gv rfl hg) (evs_cons (ev_gv rfl hg) (evs_cons (ev_gv rfl hg) (evs_cons (ev_gv rfl hg) (evs_cons (ev_gv rfl hg) evs_nil)))), rfl⟩) E40 (by decide) (fun _ h => h.sub (.refl _)) ?_; clear hs hf hS a; intro w a hs hS hf
    refine gA hf hS (i := 26) rfl (by kernel_rfl) (fun w hs => g_and hf rfl rfl) (by decide) ?_; clear hf a; intro a hf
    refine e_done (by kernel_rfl) ?_
    refine c_cond hf rfl (fun hc2 => ?_) (fun hc2 => ?_)
    · skip
      refine c_reg ?_
      refine gL hf (g_as hf rfl) (by decide) ?_; clear hf a; intro a hf
      refine e_nil ?_
      refine c_ret (q_blkR (q_thenR (q_thenR (q_blkR (q_thenR ?_)))))
      refine e_ret1 hf rfl rfl ?_
      exact ⟨by rw [stopped_yes (k := k) (by omega) hc2], hs.below⟩
    · skip
      refine c_skip (q_blkN (q_thenN ?_))
      refine c_reg1 ?_
      refine gL hf (g_mv hf rfl) (by decide) ?_; clear hf a; intro a hf
      refine gL hf (g_addI hf rfl rfl (by omega)) (by decide) ?_; clear hf a; intro a hf
      refine gL hf (g_as hf rfl) (by decide) ?_; clear hf a; intro a hf
      refine e_nil1 (q_thenN ?_)
      exact ⟨k + 1, ⟨by omega, lt_succ hp hc2⟩, (by omega), hf.back (by repeat (first | (with_reducible exact Ext.base) | ((with_reducible refine Ext.cons ?_ ?_); (· rfl)) | ((with_reducible refine Ext.over ?_ ?_ ?_); (· rfl); (· rfl)))) (allKeys rfl) (.cons rfl .nil), hs.dropN 1⟩
  · try simp only [decide_eq_true_eq, decide_eq_false_iff_not] at hc1
    refine c_exit (q_thenX (q_thenX (q_blkX (q_thenN ?_))))
    refine c_reg ?_
    refine gL hf (g_as hf rfl) (by decide) ?_; clear hf a; intro a hf
    refine e_nil ?_
    refine c_ret ?_
    refine e_ret1 hf rfl rfl ?_
    exact ⟨by rw [stopped_no (fun j hj => hp j (by omega))], hs.below⟩

end Go.Proofs.YtpjhffockmnjbaaDoor
set_option linter.unusedVariables false
set_option linter.unusedSimpArgs false
namespace Go.Proofs.YtpjhffockmnjbaaDoor
def iota (n : Nat) : List Int := (List.range n).map fun i => ((i : Nat) : Int)
theorem iota_succ (n : Nat) : iota (n + 1) = iota n ++ [((n : Nat) : Int)] := by simp [iota, List.range_succ]
theorem iota_len (n : Nat) : (iota n).length = n := by simp [iota]
theorem mem_iota {n : Nat} {x : Int} : x ∈ iota n ↔ 0 ≤ x ∧ x < n := by
  simp only [iota, List.mem_map, List.mem_range]
  constructor
  · rintro ⟨i, hi, rfl⟩; omega
  · intro h; exact ⟨x.toNat, by omega, by omega⟩
theorem iota_nodup (n : Nat) : (iota n).Nodup := by
  unfold iota
  rw [List.nodup_iff_pairwise_ne, List.pairwise_map, List.pairwise_iff_getElem]
  intro i j hi hj hij
  simp only [List.getElem_range]
  omega
def dStep (bits : List Int) (s : List Int × List Int) (i : Nat) : List Int × List Int :=
  (s.1.take (spin (itemZ bits (i : Nat)) (s.1.length : Nat)).toNat ++ s.1.drop (spin (itemZ bits (i : Nat)) (s.1.length : Nat) + 1).toNat, s.2 ++ [s.1.getD (spin (itemZ bits (i : Nat)) (s.1.length : Nat)).toNat default])
/-- What is left, and what is drawn, behind so many draws. -/
def dAt (bits : List Int) (n i : Nat) : List Int × List Int := (List.range i).foldl (dStep bits) (iota n, [])
/-- An order that numbers choose. -/
def drawnL (b : Sheet) (bits : List Int) : List Int := (dAt bits b.flaps.length b.flaps.length).2
theorem dAt_succ (bits : List Int) (n i : Nat) : dAt bits n (i + 1) = dStep bits (dAt bits n i) i := by simp [dAt, List.range_succ]
structure DInv (n : Nat) (s : List Int × List Int) : Prop where
  nodup : (s.1 ++ s.2).Nodup
  inb : ∀ x ∈ s.1 ++ s.2, 0 ≤ x ∧ x < n
  len : s.1.length + s.2.length = n
theorem split_at {l : List Int} {k : Nat} (h : k < l.length) : l = l.take k ++ l.getD k default :: l.drop (k + 1) := by
  rw [List.getD_eq_getElem?_getD, List.getElem?_eq_getElem h, Option.getD_some, ← List.drop_eq_getElem_cons h, List.take_append_drop]
theorem dInv_step {n : Nat} {s : List Int × List Int} (h : DInv n s) (h0 : 0 < s.1.length) (bits : List Int) (i : Nat) : DInv n (dStep bits s i) ∧ (dStep bits s i).1.length + 1 = s.1.length := by
  obtain ⟨l, o⟩ := s
  dsimp only at h0
  obtain ⟨h1, h2, h3⟩ := h
  dsimp only at h1 h2 h3
  have hs := spin_rng (itemZ bits (i : Nat)) (m := (l.length : Nat)) (by omega)
  simp only [dStep]
  generalize hk : spin (itemZ bits ((i : Nat) : Int)) ((l.length : Nat) : Int) = k at hs
  have hk1 : (k + 1).toNat = k.toNat + 1 := by omega
  have hlt : k.toNat < l.length := by omega
  rw [hk1]
  have he := split_at hlt
  generalize hx : l.getD k.toNat default = x at he
  generalize ht : l.take k.toNat = p at he
  generalize hd : l.drop (k.toNat + 1) = q at he
  have hp : (l ++ o).Perm ((p ++ q) ++ (o ++ [x])) := by
    rw [he]
    have e1 : (p ++ x :: q ++ o).Perm (x :: (p ++ q) ++ o) := (List.perm_middle).append_right o
    have e2 : (x :: (p ++ q) ++ o).Perm (((p ++ q) ++ o) ++ [x]) := by
      show (x :: ((p ++ q) ++ o)).Perm _
      exact (List.perm_append_singleton x _).symm
    have := e1.trans e2
    simpa using this
  refine ⟨⟨hp.nodup_iff.1 h1, fun y hy => h2 y (hp.mem_iff.2 hy), ?_⟩, ?_⟩
  · have := hp.length_eq
    simp only [List.length_append] at this ⊢
    omega
  · have := congrArg List.length he
    simp only [List.length_append, List.length_cons] at this ⊢
    omega
theorem dInv (bits : List Int) (n : Nat) : ∀ i, i ≤ n → DInv n (dAt bits n i) ∧ (dAt bits n i).1.length = n - i
  | 0, _ => ⟨⟨by simpa [dAt] using iota_nodup n, fun x hx => by rw [show (dAt bits n 0).1 ++ (dAt bits n 0).2 = iota n by simp [dAt]] at hx; exact mem_iota.1 hx, by simp [dAt, iota_len]⟩, by simp [dAt, iota_len]⟩
  | i + 1, h => by
    obtain ⟨h1, h2⟩ := dInv bits n i (by omega)
    rw [dAt_succ]
    have := dInv_step h1 (by omega) bits i
    exact ⟨this.1, by omega⟩
theorem drawn_ord (b : Sheet) (bits : List Int) : ordB b (drawnL b bits) = true := by
  obtain ⟨⟨h1, h2, h3⟩, h4⟩ := dInv bits b.flaps.length b.flaps.length (Nat.le_refl _)
  have e : (dAt bits b.flaps.length b.flaps.length).1 = [] := List.eq_nil_of_length_eq_zero (by omega)
  rw [e, List.nil_append] at h1 h2
  rw [e, List.length_nil, Nat.zero_add] at h3
  exact ordB_iff.2 ⟨h3, h1, h2⟩
theorem does_ends {b : Sheet} (hv : Valid b) {l : List Int} (ho : ordB b l = true) (bits : List Int) : (0 ≤ 2 - worst b l b.rules.length ∧ 2 - worst b l b.rules.length ≤ 2) ∧ (2 - worst b l b.rules.length = 2 → stoppedB b l bits = false) ∧ (2 - worst b l b.rules.length = 0 → stoppedB b l bits = true) := by
  have := worst_le b l b.rules.length
  exact ⟨by omega, fun h => not_stopped hv ho ((does_two hv ho).1 h) bits, fun h => is_stopped hv h bits⟩
theorem does_late {b : Sheet} (hck : checkB b = true) {l : List Int} (ho : ordB b l = true) (h : ¬ 2 - worst b l b.rules.length < 2) : (orderP b).2 = 0 ∧ (ringP b).2 = 4 ∧ earlierB l (orderP b).1 = false := by
  have hv := valid_of hck
  have h1 := worst_le b l b.rules.length
  have hok := (does_two hv ho).1 (by omega)
  have hm := (mem_allO hv).2 ⟨hok, (ordB_iff.1 ho).1⟩
  rcases told_cases hck with ⟨_, _, ha, _⟩ | ⟨lo, rest, h1, h2, _, h3, _⟩
  · rw [ha] at hm; cases hm
  · rw [h1, h3]
    exact ⟨rfl, rfl, allO_first h2 hm⟩
theorem asked_none {b : Sheet} {i j : Int} (h : ∀ k, k < b.rules.length → ((b.rules.getD k default).over == i && (b.rules.getD k default).under == j) = false) : overP b i j = false := by
  rw [Bool.eq_false_iff]
  intro ho
  obtain ⟨_, r, hr, h1, h2⟩ := overP_iff.1 ho
  obtain ⟨k, hk, rfl⟩ := List.getElem_of_mem hr
  have := h k hk
  rw [List.getD_eq_getElem?_getD, List.getElem?_eq_getElem hk] at this
  simp [h1, h2] at this
theorem asked_some {b : Sheet} {i j : Int} {k : Nat} (hk : k < b.rules.length) (h : ((b.rules.getD k default).over == i && (b.rules.getD k default).under == j) = true) : overP b i j = decide (0 < cellN b 2 i j) := by
  simp only [Bool.and_eq_true, beq_iff_eq] at h
  rw [Bool.eq_iff_iff, overP_iff, decide_eq_true_eq]
  exact ⟨fun h => h.1, fun hc => ⟨hc, _, getD_mem hk, h.1, h.2⟩⟩
end Go.Proofs.YtpjhffockmnjbaaDoor
set_option linter.unusedVariables false
set_option linter.unusedSimpArgs false
namespace Go.Proofs.YtpjhffockmnjbaaDoor
open Go.RowKit
theorem c_drawn (b : Sheet) (fA : Option Addr) (fc : Nat) (rA : Option Addr) (rc : Nat) (oA : Option Addr) (oc : Nat) (l : List Int) (hv : Valid b) (w0 : World) (h : ShIn b fA fc rA rc w0) (ho : Rd encI 1 oA l.length l w0) :
    Calls Tryd.prog 42 #[.agg #[.int .i64 b.wide, .int .i64 b.high, .slice fA b.flaps.length fc, .slice rA b.rules.length rc], .slice oA l.length oc] w0 (RetX w0 (fun v w0' => ∃ A c, v = .slice A (drawnL b l).length c ∧ Out (drawnL b l) A c w0 w0')) := by
  refine c_enter (n := 50) Tryd.func42 rfl rfl (Nat.le_of_ble_eq_true rfl) ?_; intro a hf; simp only [zipR] at hf
  have hs := St.start w0 [Rd encF 5 fA b.flaps.length b.flaps, Rd encR 2 rA b.rules.length b.rules, Rd encI 1 oA l.length l] (stab_app h.stab ho.st1)
  have hfm := h.F.2.1; have hrm := h.R.2.1; have hlm := ho.2.1
  have hmany := hv.many
  refine c_reg ?_
  refine vL hf (v_boxA hf hs rfl) (by decide) ?_; clear hs hf a; rintro _ w ⟨b1, rfl, hs⟩ a hf
  refine gL hf (g_as hf rfl) (by decide) ?_; clear hf a; intro a hf
  refine e_nil ?_
  refine c_reg ?_
  refine gL hf (g_as hf rfl) (by decide) ?_; clear hf a; intro a hf
  refine gL hf (g_as hf rfl) (by decide) ?_; clear hf a; intro a hf
  refine e_nil ?_
  refine wp_seq ?_
  refine c_reg ?_
  refine gL hf (g_as hf rfl) (by decide) ?_; clear hf a; intro a hf
  refine e_nil ?_
  refine c_block ?_
  refine c_loop hf hs [5, 7, 10, 11, 12, 13, 14, 15, 16, 17, 18, 19, 20] (σ := (Nat × Acc)) (fun s => [(5, accV 1 (iota s.1).length s.2), (7, .int .i64 (s.1 : Nat))]) (fun s => (b1, .cells #[.int .i64 b.wide, .int .i64 b.high, .slice fA b.flaps.length fc, .slice rA b.rules.length rc] 25 (0, 0)) :: accH 3 s.2) (fun s => s.1 ≤ b.flaps.length ∧ AccOK encI 1 (iota s.1) s.2) (fun s => b.flaps.length - s.1) (0, none) ⟨Nat.zero_le _, rfl⟩ (.cons rfl (.cons rfl .nil)) rfl ?_
  intro ⟨k, oa⟩ a w hJ hf hs
  dsimp only at hJ hf hs
  obtain ⟨hk, hoa⟩ := hJ
  refine wp_seq ?_
  refine c_reg ?_
  refine gL hf (g_mv hf rfl) (by decide) ?_; clear hf a; intro a hf
  refine gL hf (g_fa (off' := 2) hf F25_2 rfl rfl) (by decide) ?_; clear hf a; intro a hf
  refine gL hf (g_ld hf hs T22 rfl (k := 0) rfl rfl) (by decide) ?_; clear hf a; intro a hf
  refine gL hf (g_len hf SL22 rfl) (by decide) ?_; clear hf a; intro a hf
  refine gL hf (g_lss hf rfl rfl) (by decide) ?_; clear hf a; intro a hf
  refine e_nil ?_
  refine c_cond hf rfl (fun hc1 => ?_) (fun hc1 => ?_)
  · try simp only [decide_eq_true_eq, decide_eq_false_iff_not] at hc1
    refine c_skip (q_thenN ?_)
    refine c_blockS ?_
    refine c_reg1 ?_
    refine gL hf (g_mv hf rfl) (by decide) ?_; clear hf a; intro a hf
    refine gL hf (g_mv hf rfl) (by decide) ?_; clear hf a; intro a hf
    refine vL hf (v_lits (len := 1) hf hs SL27 T3 (.cons rfl .nil) rfl rfl rfl rfl (by decide) rfl) (by decide) ?_; clear hs hf a; rintro _ w ⟨b2, rfl, hs⟩ a hf
    refine vL hf (v_accN (e := 3) (R := []) (o := oa) hf 2 hs (by simp) hoa AP27 (enc := encI) (l := iota k) (l' := [((k : Nat) : Int)]) (fun _ => rfl) (by decide) (by intro x v hv9; rw [List.mem_singleton.1 hv9]; rfl) rfl rfl rfl (rd_one rfl (hs.own _ _ (.head _)).2) (by rw [iota_len]; omega) (by decide)) (by decide) ?_; clear hs hf a; rintro _ w ⟨oa2, rfl, hoa2, hs⟩ a hf; dsimp only [List.take, List.cons_append, List.nil_append] at hs; rw [List.append_nil] at hs
    rw [show (iota k).length + 1 = (iota (k + 1)).length by simp [iota_len]] at hf; rw [← iota_succ] at hoa2
    refine gL hf (g_as hf rfl) (by decide) ?_; clear hf a; intro a hf
    refine e_nil1 (q_blkN (q_thenN ?_))
    refine c_reg1 ?_
    refine gL hf (g_mv hf rfl) (by decide) ?_; clear hf a; intro a hf
    refine gL hf (g_addI hf rfl rfl (by omega)) (by decide) ?_; clear hf a; intro a hf
    refine gL hf (g_as hf rfl) (by decide) ?_; clear hf a; intro a hf
    refine e_nil1 (q_thenN ?_)
    exact ⟨(k + 1, oa2), ⟨by dsimp only; omega, hoa2⟩, (by dsimp only; omega), hf.back (by repeat (first | (with_reducible exact Ext.base) | ((with_reducible refine Ext.cons ?_ ?_); (· rfl)) | ((with_reducible refine Ext.over ?_ ?_ ?_); (· rfl); (· rfl)))) (allKeys rfl) (.cons rfl (.cons rfl .nil)), hs.dropN 1⟩
  · try simp only [decide_eq_true_eq, decide_eq_false_iff_not] at hc1
    obtain rfl : k = b.flaps.length := by omega
    obtain ⟨A1, c1, e1, hl1, hs⟩ := hs.freeze (R := []) (e := 3) (o := oa) (enc := encI) (sz := 1) 1 (by simp) hoa (fun _ => rfl) (by decide)
    dsimp only [List.take, List.cons_append, List.nil_append, List.append_nil] at hs
    rw [e1] at hf
    refine c_exit (q_thenX (q_thenX (q_blkX (q_thenN ?_))))
    refine wp_seq ?_
    refine c_reg ?_
    refine gL hf (g_as hf rfl) (by decide) ?_; clear hf a; intro a hf
    refine e_nil ?_
    refine c_block ?_
    refine c_loopD (fun s => Base.of w0) (fun s => Rd encI 1 s.2.1 (dAt l b.flaps.length s.1).1.length (dAt l b.flaps.length s.1).1 :: Rd encF 5 fA b.flaps.length b.flaps :: Rd encR 2 rA b.rules.length b.rules :: Rd encI 1 oA l.length l :: []) hf (List.range' 5 2 ++ List.range' 8 2 ++ List.range' 21 28) (σ := (Nat × Option Addr × Nat × Acc)) (fun s => [(5, .slice s.2.1 (dAt l b.flaps.length s.1).1.length s.2.2.1), (6, accV 1 (dAt l b.flaps.length s.1).2.length s.2.2.2), (8, .int .i64 (s.1 : Nat))]) (fun s => (b1, .cells #[.int .i64 b.wide, .int .i64 b.high, .slice fA b.flaps.length fc, .slice rA b.rules.length rc] 25 (0, 0)) :: accH 3 s.2.2.2) (fun s => s.1 ≤ b.flaps.length ∧ (dAt l b.flaps.length s.1).1.length ≤ s.2.2.1 ∧ AccOK encI 1 (dAt l b.flaps.length s.1).2 s.2.2.2) (fun s => b.flaps.length - s.1) (0, A1, c1, none) hs ⟨Nat.zero_le _, hl1, rfl⟩ (.cons rfl (.cons rfl (.cons rfl .nil))) ?_
    intro ⟨i, AL, cL, oo⟩ a w hJ hf hs
    dsimp only at hJ hf hs
    obtain ⟨hi9, hlc, hoo⟩ := hJ
    obtain ⟨hinv, hlen⟩ := dInv l b.flaps.length i hi9
    have hln := hinv.len
    refine wp_seq ?_
    refine c_reg ?_
    refine gL hf (g_mv hf rfl) (by decide) ?_; clear hf a; intro a hf
    refine gL hf (g_len hf SL27 rfl) (by decide) ?_; clear hf a; intro a hf
    refine gL hf (g_gtr hf rfl rfl) (by decide) ?_; clear hf a; intro a hf
    refine e_nil ?_
    refine c_cond hf rfl (fun hc2 => ?_) (fun hc2 => ?_)
    · try simp only [decide_eq_true_eq, decide_eq_false_iff_not] at hc2
      have hsp := spin_rng (itemZ l ((i : Nat) : Int)) (m := (((dAt l b.flaps.length i).1.length : Nat) : Int)) (by omega)
      refine c_skip (q_thenN ?_)
      refine c_blockS ?_
      refine c_reg ?_
      refine gL hf (g_mv hf rfl) (by decide) ?_; clear hf a; intro a hf
      refine gL hf (g_mv hf rfl) (by decide) ?_; clear hf a; intro a hf
      refine callL hf hs (c_Item _ _ l _ _ (hs.rd (.tail _ (.tail _ (.tail _ (.head _)))))) rfl rfl rfl E83 (by decide) ?_; clear hs hf a; intro w a hs hf
      refine gL hf (g_mv hf rfl) (by decide) ?_; clear hf a; intro a hf
      refine gL hf (g_len hf SL27 rfl) (by decide) ?_; clear hf a; intro a hf
      refine callL hf hs (c_Spin _ _ (by omega) _) rfl rfl rfl E38 (by decide) ?_; clear hs hf a; intro w a hs hf
      refine gL hf (g_as hf rfl) (by decide) ?_; clear hf a; intro a hf
      refine e_nil ?_
      refine c_reg ?_
      refine gL hf (g_mv hf rfl) (by decide) ?_; clear hf a; intro a hf
      refine gL hf (g_mv hf rfl) (by decide) ?_; clear hf a; intro a hf
      refine gL hf (g_mv hf rfl) (by decide) ?_; clear hf a; intro a hf
      (first | (refine gL hf (g_ixE hf hs (.head _) SL27 rfl rfl (by omega)) (by decide) ?_) | (refine gL hf (g_ixD hf hs (.head _) SL27 rfl rfl (by omega)) (by decide) ?_)); clear hf a; intro a hf
      refine gL hf (g_ldE hf hs (.head _) T3 rfl rfl (by omega)) (by decide) ?_; clear hf a; intro a hf
      refine vL hf (v_lits (len := 1) hf hs SL27 T3 (.cons rfl .nil) rfl rfl rfl rfl (by decide) rfl) (by decide) ?_; clear hs hf a; rintro _ w ⟨b2, rfl, hs⟩ a hf
      refine vL hf (v_accN (e := 3) (R := []) (o := oo) hf 2 hs (by simp) hoo AP27 (enc := encI) (l := (dAt l b.flaps.length i).2) (l' := [(dAt l b.flaps.length i).1.getD (spin (itemZ l ((i : Nat) : Int)) (((dAt l b.flaps.length i).1.length : Nat) : Int)).toNat default]) (fun _ => rfl) (by decide) (by intro x v hv9; rw [List.mem_singleton.1 hv9]; rfl) rfl rfl rfl (rd_one rfl (hs.own _ _ (.head _)).2) (by omega) (by decide)) (by decide) ?_; clear hs hf a; rintro _ w ⟨oo2, rfl, hoo2, hs⟩ a hf; dsimp only [List.take, List.cons_append, List.nil_append] at hs; rw [List.append_nil] at hs
      refine gL hf (g_as hf rfl) (by decide) ?_; clear hf a; intro a hf
      refine e_nil ?_
      refine c_draw1 _ 11 Mx rfl hs (fun _ h => h) ?_; intro w hs hS
      refine gA hf hS (i := 1) rfl (by kernel_rfl) (fun w hs => g_mv hf rfl) (by decide) ?_; clear hf a; intro a hf
      refine gA hf hS (i := 2) rfl (by kernel_rfl) (fun w hs => g_mv hf rfl) (by decide) ?_; clear hf a; intro a hf
      refine gA hf hS (i := 3) rfl (by kernel_rfl) (fun w hs => g_slH hf SL27 rfl rfl (by omega)) (by decide) ?_; clear hf a; intro a hf
      refine gA hf hS (i := 5) rfl (by kernel_rfl) (fun w hs => g_mv hf rfl) (by decide) ?_; clear hf a; intro a hf
      refine gA hf hS (i := 6) rfl (by kernel_rfl) (fun w hs => g_mv hf rfl) (by decide) ?_; clear hf a; intro a hf
      refine gA hf hS (i := 7) rfl (by kernel_rfl) (fun w hs => g_addI hf rfl rfl (by omega)) (by decide) ?_; clear hf a; intro a hf
      refine gA hf hS (i := 8) rfl (by kernel_rfl) (fun w hs => g_slL hf SL27 rfl rfl (by omega)) (by decide) ?_; clear hf a; intro a hf
      refine one (i := 0) (by kernel_rfl) ?_
      refine oV hf rfl (v_lits (len := 0) hf hs SL27 T3 .nil rfl rfl rfl rfl (by decide) rfl) (by decide) (fun _ _ ⟨_, _, h⟩ => h.sub (.cons _ (.refl _))) ?_; clear hs hf hS a; rintro _ w ⟨b3, rfl, hs⟩ hS a hf
      refine one (i := 4) (by kernel_rfl) ?_
      refine oV hf rfl (v_accN (e := 3) (o := some (b3, #[])) (l := []) (l' := (dAt l b.flaps.length i).1.take (spin (itemZ l ((i : Nat) : Int)) (((dAt l b.flaps.length i).1.length : Nat) : Int)).toNat) (len := 0) hf 0 hs rfl ⟨0, rfl, Nat.le_refl _, by omega, rfl⟩ AP27 (enc := encI) (fun _ => rfl) (by decide) (by intro x v hv9; rw [List.mem_singleton.1 hv9]; rfl) rfl rfl rfl ((hs.rd (.head _)).take _ (by omega)) (by omega) (by decide)) (by decide) (fun _ _ ⟨_, _, _, h⟩ => h.sub (List.sublist_append_right _ _)) ?_; clear hs hf hS a; rintro _ w ⟨o1, rfl, ho1, hs⟩ hS a hf; dsimp only [List.take, List.nil_append] at hs
      refine one (i := 9) (by kernel_rfl) ?_
      refine oV hf rfl (v_accN (e := 3) (o := o1) (l := [] ++ (dAt l b.flaps.length i).1.take (spin (itemZ l ((i : Nat) : Int)) (((dAt l b.flaps.length i).1.length : Nat) : Int)).toNat) (l' := (dAt l b.flaps.length i).1.drop ((spin (itemZ l ((i : Nat) : Int)) (((dAt l b.flaps.length i).1.length : Nat) : Int)) + 1).toNat) hf 0 hs rfl ho1 AP27 (enc := encI) (fun _ => rfl) (by decide) (by intro x v hv9; rw [List.mem_singleton.1 hv9]; rfl) (by simp; omega) rfl rfl ((hs.rd (.head _)).drop _ (by omega) hlc) (by omega) (by decide)) (by decide) (fun _ _ ⟨_, _, _, h⟩ => h.sub (List.sublist_append_right _ _)) ?_; clear hs hf hS a; rintro _ w ⟨o2, rfl, ho2, hs⟩ hS a hf; dsimp only [List.take, List.nil_append] at hs
      refine gA hf hS (i := 10) rfl (by kernel_rfl) (fun w hs => g_as hf rfl) (by decide) ?_; clear hf a; intro a hf
      refine e_done1 (by kernel_rfl) ?_
      refine q_blkN (q_thenN ?_)
      have hd8 : dAt l b.flaps.length (i + 1) = ([] ++ (dAt l b.flaps.length i).1.take (spin (itemZ l ((i : Nat) : Int)) (((dAt l b.flaps.length i).1.length : Nat) : Int)).toNat ++ (dAt l b.flaps.length i).1.drop ((spin (itemZ l ((i : Nat) : Int)) (((dAt l b.flaps.length i).1.length : Nat) : Int)) + 1).toNat, (dAt l b.flaps.length i).2 ++ [(dAt l b.flaps.length i).1.getD (spin (itemZ l ((i : Nat) : Int)) (((dAt l b.flaps.length i).1.length : Nat) : Int)).toNat default]) := by rw [dAt_succ]; rfl
      have ho3 : AccOK encI 1 (dAt l b.flaps.length (i + 1)).1 o2 := by rw [hd8]; exact ho2
      rw [show 0 + (spin (itemZ l ((i : Nat) : Int)) (((dAt l b.flaps.length i).1.length : Nat) : Int)).toNat + ((dAt l b.flaps.length i).1.length - ((spin (itemZ l ((i : Nat) : Int)) (((dAt l b.flaps.length i).1.length : Nat) : Int)) + 1).toNat) = (dAt l b.flaps.length (i + 1)).1.length by rw [hd8]; simp only [List.length_append, List.length_nil, List.length_take, List.length_drop]; omega] at hf
      obtain ⟨A2, c2, e2, hl2, hs⟩ := hs.freeze (e := 3) (o := o2) (enc := encI) (sz := 1) 0 rfl ho3 (fun _ => rfl) (by decide)
      dsimp only [List.take, List.nil_append] at hs
      rw [e2] at hf
      rw [show (dAt l b.flaps.length i).2.length + 1 = (dAt l b.flaps.length (i + 1)).2.length by rw [hd8]; simp] at hf
      rw [show (dAt l b.flaps.length i).2 ++ [(dAt l b.flaps.length i).1.getD (spin (itemZ l ((i : Nat) : Int)) (((dAt l b.flaps.length i).1.length : Nat) : Int)).toNat default] = (dAt l b.flaps.length (i + 1)).2 by rw [hd8]] at hoo2
      refine c_reg1 ?_
      refine gL hf (g_mv hf rfl) (by decide) ?_; clear hf a; intro a hf
      refine gL hf (g_addI hf rfl rfl (by omega)) (by decide) ?_; clear hf a; intro a hf
      refine gL hf (g_as hf rfl) (by decide) ?_; clear hf a; intro a hf
      refine e_nil1 (q_thenN ?_)
      exact ⟨(i + 1, A2, c2, oo2), ⟨by dsimp only; omega, hl2, hoo2⟩, (by dsimp only; omega), hf.back (by repeat (first | (with_reducible exact Ext.base) | ((with_reducible refine Ext.cons ?_ ?_); (· rfl)) | ((with_reducible refine Ext.over ?_ ?_ ?_); (· rfl); (· rfl)))) (allKeys rfl) (.cons rfl (.cons rfl (.cons rfl .nil))), (hs.dropN 1).subD (fun _ h => by rcases List.mem_cons.1 h with rfl | h; exact .head _; exact .tail _ (.tail _ h))⟩
    · try simp only [decide_eq_true_eq, decide_eq_false_iff_not] at hc2
      obtain rfl : i = b.flaps.length := by omega
      have hn1 : ∀ q, oo = some q → w0.heap.size ≤ q.1 := fun q e => by subst e; exact (hs.own _ _ (.tail _ (.head _))).1
      obtain ⟨A3, c3, e3, hl3, hs⟩ := hs.freeze (R := []) (e := 3) (o := oo) (enc := encI) (sz := 1) 1 (by simp) hoo (fun _ => rfl) (by decide)
      have hA3 := acc_new hn1 e3
      rw [e3] at hf
      refine c_exit (q_thenX (q_thenX (q_blkX (q_thenN ?_))))
      refine c_reg ?_
      refine gL hf (g_mv hf rfl) (by decide) ?_; clear hf a; intro a hf
      refine gL hf (g_as hf rfl) (by decide) ?_; clear hf a; intro a hf
      refine e_nil ?_
      refine c_ret ?_
      refine e_ret1 hf rfl rfl ?_
      exact ⟨_, rfl, hs.below, A3, c3, rfl, hl3, hs.rd (.head _), hA3⟩

end Go.Proofs.YtpjhffockmnjbaaDoor
set_option linter.unusedVariables false
set_option linter.unusedSimpArgs false
namespace Go.Proofs.YtpjhffockmnjbaaDoor
open Go.RowKit
theorem c_askedB (b : Sheet) (fA : Option Addr) (fc : Nat) (rA : Option Addr) (rc : Nat) (ge : TypeId) (gz : Nat × Nat) (i j : Int) (hck : checkB b = true) (w0 : World) (h : ShIn b fA fc rA rc w0) (hG : BlkIs 0 sidesA ge gz w0) :
    Calls Tryd.prog 45 #[.agg #[.int .i64 b.wide, .int .i64 b.high, .slice fA b.flaps.length fc, .slice rA b.rules.length rc], .int .i64 i, .int .i64 j] w0 (Ret w0 (.bool (overP b i j))) := by
  refine c_enter (n := 48) Tryd.func45 rfl rfl (Nat.le_of_ble_eq_true rfl) ?_; intro a hf; simp only [zipR] at hf
  have hs := St.start w0 [Rd encF 5 fA b.flaps.length b.flaps, Rd encR 2 rA b.rules.length b.rules, BlkIs 0 sidesA ge gz] (stab_app h.stab hG.st1)
  have hfm := h.F.2.1; have hrm := h.R.2.1
  have hv := valid_of hck
  refine c_reg ?_
  refine vL hf (v_boxA hf hs rfl) (by decide) ?_; clear hs hf a; rintro _ w ⟨b1, rfl, hs⟩ a hf
  refine gL hf (g_as hf rfl) (by decide) ?_; clear hf a; intro a hf
  refine e_nil ?_
  refine wp_seq ?_
  refine c_reg ?_
  refine gL hf (g_as hf rfl) (by decide) ?_; clear hf a; intro a hf
  refine e_nil ?_
  refine c_block ?_
  refine c_loop hf hs (List.range' 6 42) (σ := Nat) (fun k => [(7, .int .i64 (k : Nat))]) (fun k => _) (fun k => k ≤ b.rules.length ∧ ∀ q, q < k → ((b.rules.getD q default).over == i && (b.rules.getD q default).under == j) = false) (fun k => b.rules.length - k) 0 ⟨by omega, fun z hz => absurd hz (by omega)⟩ (.cons rfl .nil) rfl ?_
  intro k a w hJ hf hs
  obtain ⟨hk, hp⟩ := hJ
  refine wp_seq ?_
  refine c_reg ?_
  refine gL hf (g_mv hf rfl) (by decide) ?_; clear hf a; intro a hf
  refine gL hf (g_fa (off' := 3) hf F25_3 rfl rfl) (by decide) ?_; clear hf a; intro a hf
  refine gL hf (g_ld hf hs T23 rfl (k := 0) rfl rfl) (by decide) ?_; clear hf a; intro a hf
  refine gL hf (g_len hf SL23 rfl) (by decide) ?_; clear hf a; intro a hf
  refine gL hf (g_lss hf rfl rfl) (by decide) ?_; clear hf a; intro a hf
  refine e_nil ?_
  refine c_cond hf rfl (fun hc1 => ?_) (fun hc1 => ?_)
  · try simp only [decide_eq_true_eq, decide_eq_false_iff_not] at hc1
    refine c_skip (q_thenN ?_)
    refine c_blockS ?_
    refine c_reg ?_
    refine gL hf (g_fa (off' := 3) hf F25_3 rfl rfl) (by decide) ?_; clear hf a; intro a hf
    refine gL hf (g_ld hf hs T23 rfl (k := 0) rfl rfl) (by decide) ?_; clear hf a; intro a hf
    refine gL hf (g_mv hf rfl) (by decide) ?_; clear hf a; intro a hf
    (first | (refine gL hf (g_ixE hf hs (.tail _ (.head _)) SL23 rfl rfl (by omega)) (by decide) ?_) | (refine gL hf (g_ixD hf hs (.tail _ (.head _)) SL23 rfl rfl (by omega)) (by decide) ?_)); clear hf a; intro a hf
    refine gL hf (g_faD (j' := 0) hf hs (.tail _ (.head _)) F64_0 rfl (by omega) rfl) (by decide) ?_; clear hf a; intro a hf
    refine gL hf (g_ldE hf hs (.tail _ (.head _)) T3 rfl rfl (by omega)) (by decide) ?_; clear hf a; intro a hf
    refine gL hf (g_mv hf rfl) (by decide) ?_; clear hf a; intro a hf
    refine gL hf (g_eql hf rfl rfl) (by decide) ?_; clear hf a; intro a hf
    refine gL hf (g_mv hf rfl) (by decide) ?_; clear hf a; intro a hf
    refine ggL hf rfl rfl (gyes_t _) (fun hg => g_fa (off' := 3) hf F25_3 rfl rfl) (by decide) ?_; clear hf a; intro a hf
    refine ggL hf rfl rfl (gyes_t _) (fun hg => g_ld hf hs T23 (ev_gv rfl hg) (k := 0) rfl rfl) (by decide) ?_; clear hf a; intro a hf
    refine ggL hf rfl rfl (gyes_t _) (fun hg => g_mv hf rfl) (by decide) ?_; clear hf a; intro a hf
    (first | (refine ggL hf rfl rfl (gyes_t _) (fun hg => g_ixE hf hs (.tail _ (.head _)) SL23 (ev_gv rfl hg) (ev_gv rfl hg) (by omega)) (by decide) ?_) | (refine ggL hf rfl rfl (gyes_t _) (fun hg => g_ixD hf hs (.tail _ (.head _)) SL23 (ev_gv rfl hg) (ev_gv rfl hg) (by omega)) (by decide) ?_)); clear hf a; intro a hf
    refine ggL hf rfl rfl (gyes_t _) (fun hg => g_faD (j' := 1) hf hs (.tail _ (.head _)) F64_1 (ev_gv rfl hg) (by omega) rfl) (by decide) ?_; clear hf a; intro a hf
    refine ggL hf rfl rfl (gyes_t _) (fun hg => g_ldE hf hs (.tail _ (.head _)) T3 (ev_gv rfl hg) rfl (by omega)) (by decide) ?_; clear hf a; intro a hf
    refine ggL hf rfl rfl (gyes_t _) (fun hg => g_mv hf rfl) (by decide) ?_; clear hf a; intro a hf
    refine ggL hf rfl rfl (gyes_t _) (fun hg => g_eql hf (ev_gv rfl hg) (ev_gv rfl hg)) (by decide) ?_; clear hf a; intro a hf
    refine gL hf (g_and hf rfl rfl) (by decide) ?_; clear hf a; intro a hf
    refine e_nil ?_
    refine c_cond hf rfl (fun hc2 => ?_) (fun hc2 => ?_)
    · skip
      have hri := rule_in hv (getD_mem (l := b.rules) (i := k) (by omega)); have hru := hv.rule _ (getD_mem (l := b.rules) (i := k) (by omega))
      obtain ⟨ho1, ho2⟩ : (b.rules.getD k default).over = i ∧ (b.rules.getD k default).under = j := by simpa using hc2
      have hin : inN b i ∧ inN b j := ⟨ho1 ▸ hri.1, ho2 ▸ hri.2⟩
      have hne : i ≠ j := by rw [← ho1, ← ho2]; exact hru.2.2.2.2
      refine c_reg ?_
      refine gL hf (g_ldW hf hs T25 rfl (k := 0) rfl rfl) (by decide) ?_; clear hf a; intro a hf
      refine gL hf (g_mv hf rfl) (by decide) ?_; clear hf a; intro a hf
      refine gL hf (g_mv hf rfl) (by decide) ?_; clear hf a; intro a hf
      refine callL hf hs (c_Meet b _ _ _ _ _ _ i j _ ⟨hs.rd (.head _), hs.rd (.tail _ (.head _)), h.fc_, h.rc_⟩ (hs.rd (.tail _ (.tail _ (.head _))))) rfl rfl rfl E15 (by decide) ?_; clear hs hf a; intro w a hs hf
      rw [meetP_ok hck hin.1 hin.2 hne] at hf
      refine gL hf (g_mv hf rfl) (by decide) ?_; clear hf a; intro a hf
      refine gL hf (g_ext hf rfl rfl) (by decide) ?_; clear hf a; intro a hf
      refine gL hf (g_ext hf rfl rfl) (by decide) ?_; clear hf a; intro a hf
      refine gL hf (g_as hf rfl) (by decide) ?_; clear hf a; intro a hf
      refine gL hf (g_as hf rfl) (by decide) ?_; clear hf a; intro a hf
      refine e_nil ?_
      refine c_reg ?_
      refine gL hf (g_mv hf rfl) (by decide) ?_; clear hf a; intro a hf
      refine gL hf (g_eql hf rfl rfl) (by decide) ?_; clear hf a; intro a hf
      refine gL hf (g_mv hf rfl) (by decide) ?_; clear hf a; intro a hf
      refine ggL hf rfl rfl (gyes_t _) (fun hg => g_mv hf rfl) (by decide) ?_; clear hf a; intro a hf
      refine ggL hf rfl rfl (gyes_t _) (fun hg => g_gtr hf (ev_gv rfl hg) rfl) (by decide) ?_; clear hf a; intro a hf
      refine gL hf (g_and hf rfl rfl) (by decide) ?_; clear hf a; intro a hf
      refine gL hf (g_as hf rfl) (by decide) ?_; clear hf a; intro a hf
      refine e_nil ?_
      refine c_ret (q_blkR (q_thenR (q_thenR (q_blkR (q_thenR ?_)))))
      refine e_ret1 hf rfl rfl ?_
      exact ⟨by rw [asked_some (k := k) (by omega) hc2]; rfl, hs.below⟩
    · skip
      refine c_skip (q_blkN (q_thenN ?_))
      refine c_reg1 ?_
      refine gL hf (g_mv hf rfl) (by decide) ?_; clear hf a; intro a hf
      refine gL hf (g_addI hf rfl rfl (by omega)) (by decide) ?_; clear hf a; intro a hf
      refine gL hf (g_as hf rfl) (by decide) ?_; clear hf a; intro a hf
      refine e_nil1 (q_thenN ?_)
      exact ⟨k + 1, ⟨by omega, lt_succ hp hc2⟩, (by omega), hf.back (by repeat (first | (with_reducible exact Ext.base) | ((with_reducible refine Ext.cons ?_ ?_); (· rfl)) | ((with_reducible refine Ext.over ?_ ?_ ?_); (· rfl); (· rfl)))) (allKeys rfl) (.cons rfl .nil), hs.dropN 0⟩
  · try simp only [decide_eq_true_eq, decide_eq_false_iff_not] at hc1
    refine c_exit (q_thenX (q_thenX (q_blkX (q_thenN ?_))))
    refine c_reg ?_
    refine gL hf (g_as hf rfl) (by decide) ?_; clear hf a; intro a hf
    refine e_nil ?_
    refine c_ret ?_
    refine e_ret1 hf rfl rfl ?_
    exact ⟨by rw [asked_none (fun q hq => hp q (by omega))], hs.below⟩

end Go.Proofs.YtpjhffockmnjbaaDoor
set_option linter.unusedVariables false
set_option linter.unusedSimpArgs false
namespace Go.Proofs.YtpjhffockmnjbaaDoor
theorem spin_next {n i : Nat} (h : i < n) : spin (((i : Nat) : Int) + 1) ((n : Nat) : Int) = (((i + 1) % n : Nat) : Int) := by
  unfold spin
  rw [if_neg (by omega), Int.tmod_eq_emod_of_nonneg (by omega), if_neg (by have := Int.emod_nonneg (((i : Nat) : Int) + 1) (show ((n : Nat) : Int) ≠ 0 by omega); omega)]
  simp
theorem no_chord {b : Sheet} {l : List Int} (hr : Ring b l) (hmin : ∀ s, Ring b s → l.length ≤ s.length) {i k : Nat} (hi : i < l.length) (hk : k < l.length) (h1 : k ≠ (i + 1) % l.length) (h2 : k ≠ i) : overP b (l.getD k default) (l.getD i default) = false := by
  obtain ⟨n, hn⟩ : ∃ n, l.length = n := ⟨_, rfl⟩
  rw [hn] at hi hk h1 hmin
  cases ho : overP b (l.getD k default) (l.getD i default) with
  | false => rfl
  | true =>
    exfalso
    have hc := hr.cyc
    obtain ⟨m, hm⟩ : ∃ m, m = if k ≤ i then i - k + 1 else i + n - k + 1 := ⟨_, rfl⟩
    have hm2 : 2 ≤ m := by rw [hm]; split <;> omega
    have hmn : m < n := by
      rw [hm]
      by_cases e : i + 1 = n
      · rw [e, Nat.mod_self] at h1
        split <;> omega
      · rw [Nat.mod_eq_of_lt (by omega)] at h1
        split <;> omega
    have hlast : (k + (m - 1)) % n = i := by
      by_cases hki : k ≤ i
      · rw [if_pos hki] at hm
        rw [show k + (m - 1) = i by omega]; exact Nat.mod_eq_of_lt hi
      · rw [if_neg hki] at hm
        rw [show k + (m - 1) = i + n by omega, Nat.add_mod_right]; exact Nat.mod_eq_of_lt hi
    have hlt : ∀ t, (k + t) % n < n := fun t => Nat.mod_lt _ (by omega)
    have hinj : ∀ i j, i < n → j < n → (k + i) % n = (k + j) % n → i = j := by
      intro i j hi hj e
      have h1 : (k + i) % n = if k + i < n then k + i else k + i - n := by
        split
        · exact Nat.mod_eq_of_lt (by omega)
        · rw [Nat.mod_eq_sub_mod (by omega)]; exact Nat.mod_eq_of_lt (by omega)
      have h2 : (k + j) % n = if k + j < n then k + j else k + j - n := by
        split
        · exact Nat.mod_eq_of_lt (by omega)
        · rw [Nat.mod_eq_sub_mod (by omega)]; exact Nat.mod_eq_of_lt (by omega)
      rw [h1, h2] at e
      split at e <;> split at e <;> omega
    have hg : ∀ t, t < m → ((List.range m).map fun t => l.getD ((k + t) % n) default).getD t default = l.getD ((k + t) % n) default := fun t ht => getD_map_range ht
    have hcy : Cyc b ((List.range m).map fun t => l.getD ((k + t) % n) default) := by
      refine ⟨by simpa using hm2, ?_, ?_, ?_⟩
      · rw [List.nodup_iff_pairwise_ne, List.pairwise_map, List.pairwise_iff_getElem]
        intro i j hi hj hij
        simp only [List.getElem_range, List.length_range] at hi hj ⊢
        intro e
        have := getD_inj hc.nodup (by rw [hn]; exact hlt i) (by rw [hn]; exact hlt j) e
        have := hinj i j (by omega) (by omega) this
        omega
      · intro x hx
        obtain ⟨t, ht, rfl⟩ := List.mem_map.1 hx
        exact hc.inb _ (getD_mem (by rw [hn]; exact hlt t))
      · intro t ht
        simp only [List.length_map, List.length_range] at ht ⊢
        rw [hg t ht]
        by_cases e : t + 1 = m
        · rw [e, Nat.mod_self, hg 0 (by omega), show t = m - 1 by omega, hlast, Nat.add_zero, Nat.mod_eq_of_lt hk]
          exact ho
        · rw [Nat.mod_eq_of_lt (by omega), hg (t + 1) (by omega)]
          have := hc.round ((k + t) % n) (by rw [hn]; exact hlt t)
          rw [hn, Nat.mod_add_mod] at this
          exact this
    obtain ⟨s, hs, hl⟩ := ring_of_cyc hcy
    have := hmin s hs
    rw [hl] at this
    simp at this; omega
theorem ring_le {b : Sheet} {l : List Int} (h : Ring b l) : l.length ≤ b.flaps.length := by
  have := h.nodup.length_le_of_subset (l₂ := iota b.flaps.length) (fun x hx => mem_iota.2 (h.inb x hx))
  rwa [iota_len] at this
theorem ring_index {b : Sheet} {l : List Int} (h : Ring b l) {i : Nat} (hi : i < l.length) : indexZ (fun x => x == l.getD i default) l = ((i : Nat) : Int) := by
  rw [index_idx' (getD_mem hi), List.getD_eq_getElem?_getD, List.getElem?_eq_getElem hi, Option.getD_some, h.nodup.idxOf_getElem]
theorem ring_fits {b : Sheet} {l : List Int} (h : Ring b l) {i : Nat} (hi : i < l.length) : fitsB (l.getD i default) (l.getD 0 default) (((b.flaps.length : Nat) : Int) - 1) = true := by
  have h1 := h.inb _ (getD_mem hi)
  have h2 := h1.2
  rw [fitsB_iff]
  refine ⟨?_, by omega⟩
  by_cases e : i = 0
  · subst e; exact Int.le_refl _
  · have := h.least i (by omega) hi; omega
theorem ring_no_order {b : Sheet} (hv : Valid b) {r : List Int} (hr : Ring b r) {l : List Int} (ho : ordB b l = true) : 2 - worst b l b.rules.length < 2 := by
  have h1 := worst_le b l b.rules.length
  by_cases h : 2 - worst b l b.rules.length = 2
  · exact (no_ring ((does_two hv ho).1 h) (ordB_iff.1 ho).1 hr).elim
  · omega
/-! ### The longest row -/
def lwStep (b : Sheet) (f : Int) (r : List Int) (u : Int) : List Int := if overP b f u = true then r.set f.toNat (max (r.getD f.toNat 0) (r.getD u.toNat 0)) else r
def lwAt (b : Sheet) (l : List Int) (f : Int) (r : List Int) (m : Nat) : List Int := (l.take m).foldl (lwStep b f) r
theorem lw_succ {b : Sheet} {l : List Int} {f : Int} {r : List Int} {m : Nat} (h : m < l.length) : lwAt b l f r (m + 1) = lwStep b f (lwAt b l f r m) (l.getD m default) := by
  unfold lwAt; rw [take_succ_getD h, List.foldl_append]; rfl
theorem lwStep_len (b : Sheet) (f : Int) (r : List Int) (u : Int) : (lwStep b f r u).length = r.length := by unfold lwStep; split <;> simp
theorem lw_len (b : Sheet) (l : List Int) (f : Int) (r : List Int) (m : Nat) : (lwAt b l f r m).length = r.length := foldl_len (lwStep_len b f) _ _
theorem rbd_lw {b : Sheet} {f : Int} {r : List Int} {B : Int} (h : rbd r B) (u : Int) : rbd (lwStep b f r u) B := by
  unfold lwStep
  split
  · have h1 := h f.toNat; have h2 := h u.toNat
    exact rbd_set h (by omega) _
  · exact h
theorem rbd_lwAt {b : Sheet} {l : List Int} {f : Int} {r : List Int} {B : Int} (h : rbd r B) : ∀ m, m ≤ l.length → rbd (lwAt b l f r m) B
  | 0, _ => by simpa [lwAt] using h
  | m + 1, hm => by rw [lw_succ (by omega)]; exact rbd_lw (rbd_lwAt h m (by omega)) _
theorem set_getD {r : List Int} {i j : Nat} {x : Int} (h : i ≠ j) : (r.set i x).getD j 0 = r.getD j 0 := by
  rw [List.getD_eq_getElem?_getD, List.getD_eq_getElem?_getD, List.getElem?_set, if_neg h]
theorem set_self {r : List Int} {i : Nat} {x : Int} (h : i < r.length) : (r.set i x).getD i 0 = x := by
  rw [List.getD_eq_getElem?_getD, List.getElem?_set, if_pos rfl, if_pos h]; rfl
/-- What both loops hold of the flap's own round. -/
theorem in_form {b : Sheet} {l : List Int} {f : Int} {r : List Int} (hf : inN b f) (hl : ∀ x ∈ l, inN b x) (hr : r.length = b.flaps.length) (hself : ∀ u, overP b f u = true → u ≠ f) (hz : r.getD f.toNat 0 = 0) : ∀ m, m ≤ l.length →
    ∃ v : Int, 0 ≤ v ∧ lwAt b l f r m = r.set f.toNat v ∧ inAt b l f r m = r.set f.toNat (v + 1)
  | 0, _ => ⟨0, Int.le_refl _, by
      simp only [lwAt, List.take_zero, List.foldl_nil]
      rw [List.getD_eq_getElem?_getD] at hz
      have h0 := hf.1; have h1 := hf.2
      apply List.ext_getElem?
      intro i
      rw [List.getElem?_set]
      by_cases e : f.toNat = i
      · subst e
        rw [if_pos rfl, if_pos (by omega)]
        rw [List.getElem?_eq_getElem (by omega)] at hz ⊢
        simp at hz; rw [hz]
      · rw [if_neg e], by simp [inAt]⟩
  | m + 1, hm => by
    obtain ⟨v, h0, h1, h2⟩ := in_form hf hl hr hself hz m (by omega)
    have hf0 := hf.1; have hf1 := hf.2
    rw [lw_succ (by omega), inAt_succ (by omega), h1, h2]
    unfold lwStep inStep
    by_cases ho : overP b f (l.getD m default) = true
    · rw [if_pos ho, if_pos ho]
      have hu := hl _ (getD_mem (l := l) (i := m) (by omega))
      have hu0 := hu.1; have hu1 := hu.2
      have hne := hself _ ho
      have hne' : f.toNat ≠ (l.getD m default).toNat := by omega
      rw [set_self (by omega), set_self (by omega), set_getD hne', set_getD hne']
      refine ⟨max v (r.getD (l.getD m default).toNat 0), by omega, by simp, ?_⟩
      rw [List.set_set]
      congr 1
      omega
    · rw [if_neg ho, if_neg ho]
      exact ⟨v, h0, rfl, rfl⟩
theorem in_rest {b : Sheet} {l : List Int} (hok : Ok b l) {i : Nat} (hi : i < l.length) (r : List Int) : ∀ m, i ≤ m → m ≤ l.length → inAt b l (l.getD i default) r m = inAt b l (l.getD i default) r i
  | 0, h, _ => by rw [show i = 0 by omega]
  | m + 1, h, hm => by
    by_cases e : i = m + 1
    · rw [e]
    · rw [inAt_succ (by omega), in_rest hok hi r m (by omega) (by omega), inStep]
      rw [if_neg]
      intro ho
      have := ok_over hok (getD_mem hi) ho
      rw [List.getD_eq_getElem?_getD, List.getD_eq_getElem?_getD, List.getElem?_eq_getElem hi, List.getElem?_eq_getElem (show m < l.length by omega)] at this
      simp only [Option.getD_some] at this
      rw [hok.nodup.idxOf_getElem, hok.nodup.idxOf_getElem] at this
      omega
theorem out_zero {b : Sheet} (hv : Valid b) {l : List Int} (hok : Ok b l) (hl : l.length = b.flaps.length) : ∀ i, i ≤ l.length → ∀ x, inN b x → x ∉ l.take i → (outAt b l i).1.getD x.toNat 0 = 0
  | 0, _, x, hx, _ => by
    have h0 := hx.1; have h1 := hx.2
    simp only [outAt, List.take_zero, List.foldl_nil]
    rw [List.getD_eq_getElem?_getD, List.getElem?_replicate]
    split <;> rfl
  | i + 1, h, x, hx, hm => by
    have hi : i < l.length := by omega
    have hfi : inN b (l.getD i default) := hok.inN (getD_mem hi)
    rw [take_succ_getD hi] at hm
    simp only [List.mem_append, List.mem_singleton, not_or] at hm
    have ih := out_zero hv hok hl i (by omega) x hx hm.1
    have hz := out_zero hv hok hl i (by omega) _ hfi (hok i hi).2.1
    rw [outAt_succ hi]
    unfold outStep
    obtain ⟨v, _, _, h2⟩ := in_form hfi (fun y hy => hok.inN hy) (by rw [outAt_len _ _ _ (by omega), hl]) (fun u hu e => by
      obtain ⟨_, r, hr, h3, h4⟩ := overP_iff.1 hu
      exact (hv.rule r hr).2.2.2.2 (h3.trans (e ▸ h4.symm))) hz l.length (Nat.le_refl _)
    rw [h2]
    have h3 := hfi.1; have h4 := hx.1
    have : (l.getD i default).toNat ≠ x.toNat := fun e => hm.2 (by omega)
    rw [set_getD this, ih]
theorem lw_done {b : Sheet} (hv : Valid b) {l : List Int} (hok : Ok b l) (hl : l.length = b.flaps.length) {i : Nat} (hi : i < l.length) :
    (lwAt b l (l.getD i default) (outAt b l i).1 i).set (l.getD i default).toNat ((lwAt b l (l.getD i default) (outAt b l i).1 i).getD (l.getD i default).toNat 0 + 1) = (outAt b l (i + 1)).1 ∧ max (outAt b l i).2 ((outAt b l (i + 1)).1.getD (l.getD i default).toNat 0) = (outAt b l (i + 1)).2 := by
  have hfi : inN b (l.getD i default) := hok.inN (getD_mem hi)
  have hz := out_zero hv hok hl i (by omega) _ hfi (hok i hi).2.1
  have hlen : (outAt b l i).1.length = b.flaps.length := by rw [outAt_len _ _ _ (by omega), hl]
  obtain ⟨v, _, h1, h2⟩ := in_form hfi (fun y hy => hok.inN hy) hlen (fun u hu e => by
      obtain ⟨_, r, hr, h3, h4⟩ := overP_iff.1 hu
      exact (hv.rule r hr).2.2.2.2 (h3.trans (e ▸ h4.symm))) hz i (by omega)
  have h3 := in_rest hok hi (outAt b l i).1 l.length (by omega) (Nat.le_refl _)
  have h4 := hfi.1; have h5 := hfi.2
  rw [outAt_succ hi]
  refine ⟨?_, rfl⟩
  simp only [outStep]
  rw [h3, h2, h1, set_self (by omega), List.set_set]
end Go.Proofs.YtpjhffockmnjbaaDoor
set_option linter.unusedVariables false
set_option linter.unusedSimpArgs false
namespace Go.Proofs.YtpjhffockmnjbaaDoor
/-- A number of a flap without another one, and back. -/
def dn (g x : Int) : Int := if g < x then x - 1 else x
def up (g x : Int) : Int := if x < g then x else x + 1
def dnR (g : Int) (r : Rule) : Rule := ⟨dn g r.over, dn g r.under⟩
def touches (g : Int) (r : Rule) : Bool := (r.over == g) || (r.under == g)
/-- The rules that are left without a flap. -/
def woR (b : Sheet) (g : Int) (n : Nat) : List Rule := ((b.rules.take n).filter fun r => !touches g r).map (dnR g)
def woB (b : Sheet) (g : Int) : Sheet := { b with flaps := b.flaps.take g.toNat ++ b.flaps.drop (g + 1).toNat, rules := woR b g b.rules.length }
theorem wo_yes {b : Sheet} {g : Int} {k : Nat} (hk : k < b.rules.length) (h : touches g (b.rules.getD k default) = false) : woR b g (k + 1) = woR b g k ++ [dnR g (b.rules.getD k default)] := by
  simp only [woR, take_succ_getD hk, List.filter_append, List.map_append, List.filter_cons, h]; rfl
theorem wo_no {b : Sheet} {g : Int} {k : Nat} (hk : k < b.rules.length) (h : touches g (b.rules.getD k default) = true) : woR b g (k + 1) = woR b g k := by
  simp only [woR, take_succ_getD hk, List.filter_append, List.map_append, List.filter_cons, h]; simp
theorem wo_le (b : Sheet) (g : Int) (n : Nat) : (woR b g n).length ≤ n := by
  have h1 := List.length_filter_le (fun r => !touches g r) (b.rules.take n)
  simp only [woR, List.length_map]
  simp only [List.length_take] at h1
  omega
theorem up_dn {g x : Int} (h : x ≠ g) : up g (dn g x) = x := by unfold up dn; split <;> split <;> omega
theorem dn_up (g x : Int) : dn g (up g x) = x := by unfold up dn; split <;> split <;> omega
theorem up_ne (g x : Int) : up g x ≠ g := by unfold up; split <;> omega
section
variable {b : Sheet} {g : Int}
theorem wo_len (hg : inN b g) : (woB b g).flaps.length + 1 = b.flaps.length := by
  have h0 := hg.1; have h1 := hg.2
  simp only [woB, List.length_append, List.length_take, List.length_drop]; omega
theorem wo_flap (hg : inN b g) {i : Int} (hi : inN (woB b g) i) : flapA (woB b g) i = flapA b (up g i) := by
  have h0 := hg.1; have h1 := hg.2; have h2 := hi.1; have h3 := hi.2; have h4 := wo_len hg
  unfold flapA
  simp only [woB]
  rw [List.getD_eq_getElem?_getD, List.getD_eq_getElem?_getD]
  congr 1
  unfold up
  by_cases h : i < g
  · rw [if_pos h, List.getElem?_append_left (by rw [List.length_take]; omega), List.getElem?_take, if_pos (by omega)]
  · rw [if_neg h, List.getElem?_append_right (by rw [List.length_take]; omega), List.getElem?_drop]
    congr 1
    rw [List.length_take]; omega
theorem up_in (hg : inN b g) {i : Int} (hi : inN (woB b g) i) : inN b (up g i) := by
  have h0 := hg.1; have h1 := hg.2; have h2 := hi.1; have h3 := hi.2; have h4 := wo_len hg
  unfold up inN; split <;> omega
theorem dn_in (hg : inN b g) {i : Int} (hi : inN b i) (hne : i ≠ g) : inN (woB b g) (dn g i) := by
  have h0 := hg.1; have h1 := hg.2; have h2 := hi.1; have h3 := hi.2; have h4 := wo_len hg
  unfold dn inN; split <;> omega
theorem wo_cell (hg : inN b g) {i j : Int} (hi : inN (woB b g) i) (hj : inN (woB b g) j) : cellN (woB b g) 2 i j = cellN b 2 (up g i) (up g j) := by
  have t1 : ∀ m, touchB (woB b g) i j m = touchB b (up g i) (up g j) m := by
    intro m; unfold touchB; rw [wo_flap hg hi, wo_flap hg hj]; rfl
  unfold cellN
  rw [t1, t1]
  by_cases e : i = j
  · subst e; simp
  · have : up g i ≠ up g j := fun h => e (by rw [← dn_up g i, ← dn_up g j, h])
    simp [e, this]
theorem mem_woR (r : Rule) : r ∈ (woB b g).rules ↔ ∃ s ∈ b.rules, touches g s = false ∧ r = dnR g s := by
  simp only [woB, woR, List.take_length, List.mem_map, List.mem_filter, Bool.not_eq_true']
  constructor
  · rintro ⟨s, ⟨h1, h2⟩, rfl⟩; exact ⟨s, h1, h2, rfl⟩
  · rintro ⟨s, h1, h2, rfl⟩; exact ⟨s, ⟨h1, h2⟩, rfl⟩
theorem wo_over (hv : Valid b) (hg : inN b g) {i j : Int} (hi : inN (woB b g) i) (hj : inN (woB b g) j) : overP (woB b g) i j = overP b (up g i) (up g j) := by
  rw [Bool.eq_iff_iff, overP_iff, overP_iff, wo_cell hg hi hj]
  constructor
  · rintro ⟨h1, r, hr, rfl, rfl⟩
    obtain ⟨s, hs, ht, rfl⟩ := (mem_woR r).1 hr
    simp only [touches, Bool.or_eq_false_iff, beq_eq_false_iff_ne, ne_eq] at ht
    exact ⟨h1, s, hs, (up_dn ht.1).symm, (up_dn ht.2).symm⟩
  · rintro ⟨h1, s, hs, h2, h3⟩
    refine ⟨h1, dnR g s, (mem_woR _).2 ⟨s, hs, ?_, rfl⟩, ?_, ?_⟩
    · simp only [touches, Bool.or_eq_false_iff, beq_eq_false_iff_ne, ne_eq]
      exact ⟨by rw [h2]; exact up_ne g i, by rw [h3]; exact up_ne g j⟩
    · show dn g s.over = i; rw [h2, dn_up]
    · show dn g s.under = j; rw [h3, dn_up]
theorem valid_wo (hv : Valid b) (hg : inN b g) (h2 : 2 ≤ b.flaps.length) : Valid (woB b g) := by
  have hm := hv.many
  have hl := wo_len hg
  refine ⟨hv.wide, hv.high, by omega, Nat.le_trans (wo_le b g _) hv.rules, fun x hx => ?_, fun r hr => ?_, ?_⟩
  · refine hv.flap x ?_
    simp only [woB, List.mem_append] at hx
    rcases hx with hx | hx
    · exact List.mem_of_mem_take hx
    · exact List.mem_of_mem_drop hx
  · obtain ⟨s, hs, ht, rfl⟩ := (mem_woR r).1 hr
    simp only [touches, Bool.or_eq_false_iff, beq_eq_false_iff_ne, ne_eq] at ht
    have hi := rule_in hv hs
    have e1 := dn_in hg hi.1 ht.1; have e2 := dn_in hg hi.2 ht.2
    refine ⟨e1.1, e1.2, e2.1, e2.2, fun e => (hv.rule s hs).2.2.2.2 ?_⟩
    rw [← up_dn ht.1, ← up_dn ht.2]
    exact congrArg (up g) e
  · refine distinct_iff.2 ?_
    simp only [woB, woR, List.take_length]
    have hn := (distinct_iff.1 hv.distinct).filter fun r => !touches g r
    rw [List.nodup_iff_pairwise_ne, List.pairwise_map]
    refine List.Pairwise.imp_of_mem (fun {r s} hr hs hne e => ?_) (List.nodup_iff_pairwise_ne.1 hn)
    have hr' := (List.mem_filter.1 hr).2; have hs' := (List.mem_filter.1 hs).2
    simp only [touches, Bool.not_eq_true', Bool.or_eq_false_iff, beq_eq_false_iff_ne, ne_eq] at hr' hs'
    apply hne
    have h1 := congrArg (fun r => up g r.over) e
    have h2 := congrArg (fun r => up g r.under) e
    simp only [dnR] at h1 h2
    rw [up_dn hr'.1, up_dn hs'.1] at h1
    rw [up_dn hr'.2, up_dn hs'.2] at h2
    cases r; cases s; simp_all
end
theorem valid_check {b : Sheet} (hv : Valid b) : checkB b = true := by
  have h1 := hv.wide; have h2 := hv.high; have h3 := hv.many; have h4 := hv.rules
  simp only [checkB, baseOK, Bool.and_eq_true, fitsB_iff, decide_eq_true_eq, List.all_eq_true, List.mem_range]
  refine ⟨⟨⟨⟨⟨h1, h2⟩, by omega⟩, by omega⟩, fun x hx => ?_⟩, fun i hi => ?_⟩
  · obtain ⟨s1, s2, s3, s4, s5, s6, s7, s8⟩ := hv.flap x hx
    unfold flapOK
    split <;> simp only [Bool.and_eq_true, fitsB_iff, spanB_iff] <;> omega
  · have hr := hv.rule _ (getD_mem (l := b.rules) (i := i) hi)
    simp only [ruleOK, Bool.and_eq_true, fitsB_iff, bne_iff_ne, Bool.not_eq_true', List.any_eq_false]
    refine ⟨⟨⟨⟨hr.1, by omega⟩, ⟨hr.2.2.1, by omega⟩⟩, hr.2.2.2.2⟩, fun s hs he => ?_⟩
    obtain ⟨j, hj, rfl⟩ := List.mem_take_iff_getElem.1 hs
    have hne := hv.distinct j i (by omega) hi
    rw [List.getD_eq_getElem?_getD (i := j), List.getElem?_eq_getElem (by omega), Option.getD_some] at hne
    simp only [sameR, Bool.and_eq_true, beq_iff_eq] at he
    apply hne
    have e1 := he.1; have e2 := he.2
    generalize b.rules.getD i default = x at e1 e2
    generalize b.rules[j] = y at e1 e2
    cases x; cases y; simp_all
/-! ### Counting -/
theorem fm_congr {α : Type} {F G : Nat → List α} : ∀ {l : List Nat}, (∀ i ∈ l, F i = G i) → l.flatMap F = l.flatMap G
  | [], _ => rfl
  | x :: l, h => by rw [List.flatMap_cons, List.flatMap_cons, h x (.head _), fm_congr fun i hi => h i (.tail _ hi)]
theorem fm_skip {α : Type} {F : Nat → List α} {g m : Nat} (hg : g ≤ m) (h0 : F g = []) : (List.range (m + 1)).flatMap F = (List.range m).flatMap fun i => F (if i < g then i else i + 1) := by
  have e1 : List.range (m + 1) = List.range g ++ g :: (List.range (m - g)).map (fun i => g + 1 + i) := by
    rw [show m + 1 = g + (1 + (m - g)) by omega, List.range_add, List.range_add]
    simp [Function.comp_def, Nat.add_assoc]
  have e2 : List.range m = List.range g ++ (List.range (m - g)).map (fun i => g + i) := by
    rw [show m = g + (m - g) by omega, List.range_add]; simp
  rw [e1, e2, List.flatMap_append, List.flatMap_append, List.flatMap_cons, h0, List.nil_append, List.flatMap_map, List.flatMap_map]
  congr 1
  · apply fm_congr
    intro i hi
    rw [if_pos (List.mem_range.1 hi)]
  · apply fm_congr
    intro i _
    rw [if_neg (by omega), show g + 1 + i = g + i + 1 by omega]
theorem ords_wo {b : Sheet} (hv : Valid b) {g : Int} (hg : inN b g) (h2 : 2 ≤ b.flaps.length) : ∀ (k : Nat) (p d p' d' : _), Mk d p → Mk d' p' → (∀ x, inN b x → (x ∈ p ↔ x = g ∨ (x ≠ g ∧ dn g x ∈ p'))) → (ordsP b k p d).length = (ordsP (woB b g) k p' d').length
  | 0, p, d, p', d', _, _, _ => by simp [ordsP]
  | k + 1, p, d, p', d', hd, hd', hp => by
    have hm := hv.many; have hl := wo_len hg; have hv' := valid_wo hv hg h2
    have g0 := hg.1; have g1 := hg.2
    simp only [ordsP]
    rw [show b.flaps.length = (woB b g).flaps.length + 1 by omega, fm_skip (g := g.toNat) (by omega) (by
      have hgm : g ∈ p := (hp g hg).2 (.inl rfl)
      have := hd.2 g.toNat (by omega)
      rw [show ((g.toNat : Nat) : Int) = g by omega, decide_eq_true hgm] at this
      simp only [ordStepP, this, Bool.true_or, if_true])]
    rw [List.length_flatMap, List.length_flatMap]
    congr 1
    apply List.map_congr_left
    intro i hi
    have hi' := List.mem_range.1 hi
    have hin : inN (woB b g) ((i : Nat) : Int) := ⟨by omega, by omega⟩
    obtain ⟨j, hj⟩ : ∃ j, j = if i < g.toNat then i else i + 1 := ⟨_, rfl⟩
    rw [← hj]
    have hju : ((j : Nat) : Int) = up g ((i : Nat) : Int) := by
      unfold up; rw [hj]; split <;> split <;> omega
    have hjn : inN b ((j : Nat) : Int) := by rw [hju]; exact up_in hg hin
    have hjlt : j < b.flaps.length := by have := hjn.2; omega
    have hjg : ((j : Nat) : Int) ≠ g := by rw [hju]; exact up_ne g _
    have hnext : Next b p ((j : Nat) : Int) ↔ Next (woB b g) p' ((i : Nat) : Int) := by
      unfold Next
      constructor
      · rintro ⟨_, h1, h3⟩
        refine ⟨hin, fun hm => h1 ((hp _ hjn).2 (.inr ⟨hjg, by rw [hju, dn_up]; exact hm⟩)), fun u hu => ?_⟩
        have hun : inN (woB b g) u := by
          obtain ⟨_, r, hr, _, h5⟩ := overP_iff.1 hu
          exact h5 ▸ (rule_in hv' hr).2
        rw [wo_over hv hg hin hun, ← hju] at hu
        rcases (hp _ (up_in hg hun)).1 (h3 _ hu) with h | h
        · exact absurd h (up_ne g u)
        · rw [dn_up] at h; exact h.2
      · rintro ⟨_, h1, h3⟩
        refine ⟨hjn, fun hm => ?_, fun u hu => ?_⟩
        · rcases (hp _ hjn).1 hm with h | h
          · exact hjg h
          · rw [hju, dn_up] at h; exact h1 h.2
        · have hun : inN b u := by
            obtain ⟨_, r, hr, _, h5⟩ := overP_iff.1 hu
            exact h5 ▸ (rule_in hv hr).2
          by_cases e : u = g
          · exact (hp u hun).2 (.inl e)
          · refine (hp u hun).2 (.inr ⟨e, h3 _ ?_⟩)
            rw [wo_over hv hg hin (dn_in hg hun e), up_dn e, ← hju]; exact hu
    have s1 := step_iff hv hd hjlt
    have s2 := step_iff hv' hd' (i := i) hi'
    unfold ordStepP
    by_cases hn : Next b p ((j : Nat) : Int)
    · rw [if_neg (by rw [s1.2 hn]; decide), if_neg (by rw [s2.2 (hnext.1 hn)]; decide)]
      refine ords_wo hv hg h2 k _ _ _ _ (mk_snoc hd (by omega)) (mk_snoc hd' (by omega)) fun x hx => ?_
      simp only [List.mem_append, List.mem_singleton]
      rw [hp x hx]
      constructor
      · rintro ((h | h) | h)
        · exact .inl h
        · exact .inr ⟨h.1, .inl h.2⟩
        · exact .inr ⟨by rw [h]; exact hjg, .inr (by rw [h, hju, dn_up])⟩
      · rintro (h | ⟨h3, h4 | h4⟩)
        · exact .inl (.inl h)
        · exact .inl (.inr ⟨h3, h4⟩)
        · exact .inr (by rw [hju, ← h4, up_dn h3])
    · rw [if_pos (by cases hc : (d.getD j false || stopP b d ((j : Nat) : Int)) with | true => rfl | false => exact absurd (s1.1 hc) hn), if_pos (by cases hc : (d'.getD i false || stopP (woB b g) d' ((i : Nat) : Int)) with | true => rfl | false => exact absurd (hnext.2 (s2.1 hc)) hn)]
def firstB (b : Sheet) (i : Nat) : Bool := (List.range b.flaps.length).all fun k => !overP b (i : Nat) (k : Nat)
def cntAt (b : Sheet) (i : Nat) : Nat := if firstB b i = true then (allO (woB b (i : Nat))).length else 0
theorem sum_range_succ (f : Nat → Nat) (n : Nat) : ((List.range (n + 1)).map f).sum = ((List.range n).map f).sum + f n := by
  rw [List.range_succ, List.map_append, List.sum_append]; simp
theorem first_iff {b : Sheet} (hv : Valid b) {i : Nat} (hi : i < b.flaps.length) : firstB b i = true ↔ Next b [] ((i : Nat) : Int) := by
  simp only [firstB, List.all_eq_true, List.mem_range, Bool.not_eq_true', Next, List.not_mem_nil, not_false_eq_true, true_and]
  constructor
  · intro h
    refine ⟨⟨by omega, by omega⟩, fun u hu => ?_⟩
    obtain ⟨_, r, hr, _, h5⟩ := overP_iff.1 hu
    have hn := (rule_in hv hr).2
    rw [h5] at hn
    have h0 := hn.1; have h1 := hn.2
    have := h u.toNat (by omega)
    rw [show ((u.toNat : Nat) : Int) = u by omega, hu] at this; cases this
  · rintro ⟨_, h⟩ k hk
    cases ho : overP b ((i : Nat) : Int) ((k : Nat) : Int) with
    | false => rfl
    | true => exact (h _ ho).elim
theorem count_sum {b : Sheet} (hv : Valid b) (h2 : 2 ≤ b.flaps.length) : (allO b).length = ((List.range b.flaps.length).map (cntAt b)).sum := by
  have hm := hv.many
  unfold allO
  obtain ⟨m, hm'⟩ : ∃ m, b.flaps.length = m + 1 := ⟨b.flaps.length - 1, by omega⟩
  have e : ordsP b b.flaps.length [] (List.replicate 7 false) = (List.range b.flaps.length).flatMap (ordStepP b [] (List.replicate 7 false) (ordsP b m)) := by
    conv => lhs; rw [show ordsP b b.flaps.length = ordsP b (m + 1) by rw [hm']]
    rfl
  rw [e, List.length_flatMap]
  congr 1
  apply List.map_congr_left
  intro i hi
  have hi' := List.mem_range.1 hi
  have s1 := step_iff hv mk_nil hi'
  have hin : inN b ((i : Nat) : Int) := ⟨by omega, by omega⟩
  have hl := wo_len hin
  unfold ordStepP cntAt
  by_cases hf : firstB b i = true
  · rw [if_pos hf, if_neg (by rw [s1.2 ((first_iff hv hi').1 hf)]; decide)]
    unfold allO
    rw [show (woB b ((i : Nat) : Int)).flaps.length = m by omega]
    refine ords_wo hv hin h2 m _ _ _ _ (mk_snoc mk_nil (by omega)) mk_nil fun x hx => ?_
    simp
  · rw [if_neg hf, if_pos (by
      cases hc : ((List.replicate 7 false).getD i false || stopP b (List.replicate 7 false) ((i : Nat) : Int)) with
      | true => rfl
      | false => exact absurd ((first_iff hv hi').2 (s1.1 hc)) hf)]
    rfl
end Go.Proofs.YtpjhffockmnjbaaDoor
set_option linter.unusedVariables false
set_option linter.unusedSimpArgs false
namespace Go.Proofs.YtpjhffockmnjbaaDoor
/-- A row that is handed back: in new memory. -/
def OutG {α : Type} (enc : α → List Value) (sz : Nat) (l : List α) (A : Option Addr) (c : Nat) (w w' : World) : Prop := l.length ≤ c ∧ Rd enc sz A l.length l w' ∧ ∀ b o, A = some ⟨b, o, none⟩ → w.heap.size ≤ b
theorem OutG.fresh {α : Type} {enc : α → List Value} {sz : Nat} {l : List α} {A : Option Addr} {c : Nat} {w w' : World} (h : OutG enc sz l A c w w') : Fresh w w' (Rd enc sz A l.length l) :=
  fresh_of (h.2.1.stable fun bk off e hm => by
    have := h.2.2 bk off e
    simp at hm
    omega)
theorem shFresh {b : Sheet} {fA rA : Option Addr} {fc rc : Nat} {w w' : World} (h1 : OutG encF 5 b.flaps fA fc w w') (h2 : OutG encR 2 b.rules rA rc w w') : Fresh w w' (ShIn b fA fc rA rc) :=
  fun w'' hs hb => ⟨h1.fresh w'' hs hb, h2.fresh w'' hs hb, h1.1, h2.1⟩
/-- The rules that a list does not name. -/
def unR (b : Sheet) (l : List Int) (n : Nat) : List Rule := ((List.range n).filter fun k => !decide (((k : Nat) : Int) ∈ l)).map fun k => b.rules.getD k default
def unB (b : Sheet) (l : List Int) : Sheet := { b with rules := unR b l b.rules.length }
theorem un_yes {b : Sheet} {l : List Int} {k : Nat} (h : ((k : Nat) : Int) ∉ l) : unR b l (k + 1) = unR b l k ++ [b.rules.getD k default] := by
  simp [unR, List.range_succ, h]
theorem un_no {b : Sheet} {l : List Int} {k : Nat} (h : ((k : Nat) : Int) ∈ l) : unR b l (k + 1) = unR b l k := by
  simp [unR, List.range_succ, h]
theorem un_le (b : Sheet) (l : List Int) (n : Nat) : (unR b l n).length ≤ n := by
  have := List.length_filter_le (fun k : Nat => !decide (((k : Nat) : Int) ∈ l)) (List.range n)
  simpa [unR] using this
theorem un_sub (b : Sheet) (l : List Int) : (unR b l b.rules.length).Sublist b.rules := by
  have h := (List.filter_sublist (p := fun k : Nat => !decide (((k : Nat) : Int) ∈ l)) (l := List.range b.rules.length)).map fun k => b.rules.getD k default
  rwa [map_getD] at h
theorem valid_un {b : Sheet} (hv : Valid b) (l : List Int) : Valid (unB b l) := valid_sub hv (un_sub b l)
theorem first_succ (b : Sheet) (i k : Nat) : ((List.range k).all (fun q => !overP b ((i : Nat) : Int) ((q : Nat) : Int)) && !overP b ((i : Nat) : Int) ((k : Nat) : Int)) = (List.range (k + 1)).all fun q => !overP b ((i : Nat) : Int) ((q : Nat) : Int) := by
  rw [List.range_succ, List.all_append]; simp
theorem cntAt_le {b : Sheet} (hv : Valid b) (h2 : 2 ≤ b.flaps.length) {i : Nat} (hi : i < b.flaps.length) : cntAt b i ≤ 823543 := by
  unfold cntAt
  split
  · exact allO_le (valid_wo hv ⟨by omega, by omega⟩ h2)
  · omega
theorem sum_le {b : Sheet} (hv : Valid b) (h2 : 2 ≤ b.flaps.length) : ∀ i, i ≤ b.flaps.length → ((List.range i).map (cntAt b)).sum ≤ i * 823543
  | 0, _ => by simp
  | i + 1, h => by
    have h1 := sum_le hv h2 i (by omega)
    have h3 := cntAt_le hv h2 (i := i) (by omega)
    rw [sum_range_succ]; omega
theorem count_valid {b : Sheet} (hv : Valid b) : countP b = ((((allO b).length : Nat) : Int), 0) := by
  have : askE b true = 0 := by simp [askE, valid_check hv]
  simp [countP, this]
theorem count_one {b : Sheet} (hv : Valid b) (h : b.flaps.length = 1) : (allO b).length = 1 := by
  have hno : ∀ s, ¬ Ring b s := fun s hs => by have := ring_le hs; have := hs.two; omega
  have hne := (folds_iff hv).2 hno
  have h1 : (allO b).length ≤ 1 := by
    have := ordsP_len b b.flaps.length [] (List.replicate 7 false)
    rw [h] at this
    unfold allO
    rw [h]
    simpa using this
  have h2 := List.length_pos_iff.2 hne
  omega
end Go.Proofs.YtpjhffockmnjbaaDoor
set_option linter.unusedVariables false
set_option linter.unusedSimpArgs false
namespace Go.Proofs.YtpjhffockmnjbaaDoor
open Go.RowKit
theorem c_without (b : Sheet) (fA : Option Addr) (fc : Nat) (rA : Option Addr) (rc : Nat) (g : Int) (hv : Valid b) (hg : inN b g) (w0 : World) (h : ShIn b fA fc rA rc w0) :
    Calls Tryd.prog 46 #[.agg #[.int .i64 b.wide, .int .i64 b.high, .slice fA b.flaps.length fc, .slice rA b.rules.length rc], .int .i64 g] w0 (RetX w0 (fun v w0' => ∃ fA2 fc2 rA2 rc2, v = .agg #[.int .i64 b.wide, .int .i64 b.high, .slice fA2 (woB b g).flaps.length fc2, .slice rA2 (woB b g).rules.length rc2] ∧ OutG encF 5 (woB b g).flaps fA2 fc2 w0 w0' ∧ OutG encR 2 (woB b g).rules rA2 rc2 w0 w0')) := by
  refine c_enter (n := 68) Tryd.func46 rfl rfl (Nat.le_of_ble_eq_true rfl) ?_; intro a hf; simp only [zipR] at hf
  have hs := St.start w0 [Rd encF 5 fA b.flaps.length b.flaps, Rd encR 2 rA b.rules.length b.rules] h.stab
  have hfm := h.F.2.1; have hrm := h.R.2.1
  have hmany := hv.many; have hrl := hv.rules; have hg0 := hg.1; have hg1 := hg.2
  refine c_reg ?_
  refine vL hf (v_boxA hf hs rfl) (by decide) ?_; clear hs hf a; rintro _ w ⟨b1, rfl, hs⟩ a hf
  refine vL hf (v_alloc hs T25 rfl) (by decide) ?_; clear hs hf a; rintro _ w ⟨b2, rfl, hs⟩ a hf
  refine e_nil ?_
  refine c_reg ?_
  refine gL hf (g_ldW hf hs T25 rfl (k := 1) rfl rfl) (by decide) ?_; clear hf a; intro a hf
  refine vL hf (v_alloc hs T25 rfl) (by decide) ?_; clear hs hf a; rintro _ w ⟨b3, rfl, hs⟩ a hf
  refine uL (u_stW hf hs T25 rfl rfl rfl (k := 0) rfl rfl rfl) ?_; clear hs; intro w hs; dsimp only [List.set] at hs
  refine e_nil ?_
  refine c_draw _ 16 Mx rfl hs (fun _ h => h.sub (.cons _ (.refl _))) ?_; intro w hs hS
  refine gA hf hS (i := 1) rfl (by kernel_rfl) (fun w hs => g_fa (off' := 2) hf F25_2 rfl rfl) (by decide) ?_; clear hf a; intro a hf
  refine gA hf hS (i := 2) rfl (by kernel_rfl) (fun w hs => g_ld hf hs T22 rfl (k := 1) rfl rfl) (by decide) ?_; clear hf a; intro a hf
  refine gA hf hS (i := 3) rfl (by kernel_rfl) (fun w hs => g_mv hf rfl) (by decide) ?_; clear hf a; intro a hf
  refine gA hf hS (i := 4) rfl (by kernel_rfl) (fun w hs => g_slH hf SL22 rfl rfl (by have := h.fc_; omega)) (by decide) ?_; clear hf a; intro a hf
  refine gA hf hS (i := 6) rfl (by kernel_rfl) (fun w hs => g_fa (off' := 2) hf F25_2 rfl rfl) (by decide) ?_; clear hf a; intro a hf
  refine gA hf hS (i := 7) rfl (by kernel_rfl) (fun w hs => g_ld hf hs T22 rfl (k := 1) rfl rfl) (by decide) ?_; clear hf a; intro a hf
  refine gA hf hS (i := 8) rfl (by kernel_rfl) (fun w hs => g_mv hf rfl) (by decide) ?_; clear hf a; intro a hf
  refine gA hf hS (i := 9) rfl (by kernel_rfl) (fun w hs => g_addI hf rfl rfl (by omega)) (by decide) ?_; clear hf a; intro a hf
  refine gA hf hS (i := 10) rfl (by kernel_rfl) (fun w hs => g_slL hf SL22 rfl rfl (by omega)) (by decide) ?_; clear hf a; intro a hf
  refine one (i := 0) (by kernel_rfl) ?_
  refine oV hf rfl (v_lits (len := 0) hf hs SL22 T49 .nil rfl rfl rfl rfl (by decide) rfl) (by decide) (fun _ _ ⟨_, _, h⟩ => h.sub (.cons _ (.cons _ (.refl _)))) ?_; clear hs hf hS a; rintro _ w ⟨b4, rfl, hs⟩ hS a hf
  refine one (i := 5) (by kernel_rfl) ?_
  refine oV hf rfl (v_accN (e := 49) (o := some (b4, #[])) (l := []) (l' := b.flaps.take g.toNat) (len := 0) hf 0 hs rfl ⟨0, rfl, Nat.le_refl _, by omega, rfl⟩ AP22 (enc := encF) (fun _ => rfl) (by decide) (by intro x v hv9; simp only [encF, List.mem_cons, List.not_mem_nil, or_false] at hv9; rcases hv9 with rfl | rfl | rfl | rfl | rfl <;> rfl) rfl rfl rfl ((hs.rd (.head _)).take _ (by omega)) (by omega) (by decide)) (by decide) (fun _ _ ⟨_, _, _, h⟩ => h.sub ((List.Sublist.cons _ (.refl _)).trans (List.sublist_append_right _ _))) ?_; clear hs hf hS a; rintro _ w ⟨o1, rfl, ho1, hs⟩ hS a hf; dsimp only [List.take, List.nil_append] at hs
  refine one (i := 11) (by kernel_rfl) ?_
  refine oV hf rfl (v_accN (e := 49) (o := o1) (l := [] ++ b.flaps.take g.toNat) (l' := b.flaps.drop (g + 1).toNat) hf 0 hs rfl ho1 AP22 (enc := encF) (fun _ => rfl) (by decide) (by intro x v hv9; simp only [encF, List.mem_cons, List.not_mem_nil, or_false] at hv9; rcases hv9 with rfl | rfl | rfl | rfl | rfl <;> rfl) (by simp; omega) rfl rfl ((hs.rd (.head _)).drop _ (by omega) h.fc_) (by omega) (by decide)) (by decide) (fun _ _ ⟨_, _, _, h⟩ => h.sub ((List.Sublist.cons _ (.refl _)).trans (List.sublist_append_right _ _))) ?_; clear hs hf hS a; rintro _ w ⟨o2, rfl, ho2, hs⟩ hS a hf; dsimp only [List.take, List.nil_append] at hs
  replace hs := hs.swapN (X := accH 49 o2) 0 rfl; dsimp only [List.take, List.cons_append, List.nil_append] at hs
  refine gA hf hS (i := 12) rfl (by kernel_rfl) (fun w hs => g_fa (off' := 2) hf F25_2 rfl rfl) (by decide) ?_; clear hf a; intro a hf
  refine one (i := 13) (by kernel_rfl) ?_
  refine oU rfl (u_st hf hs T22 rfl rfl (plain_acc _ _ _) (k := 0) rfl (Nat.le_of_ble_eq_true rfl)) (fun _ h => h.sub (.cons _ (.cons_cons _ (.cons_cons _ (List.nil_sublist _))))) ?_; clear hs hS; intro w hs hS; dsimp only [List.set] at hs
  refine gA hf hS (i := 14) rfl (by kernel_rfl) (fun w hs => g_fa (off' := 3) hf F25_3 rfl rfl) (by decide) ?_; clear hf a; intro a hf
  refine one (i := 15) (by kernel_rfl) ?_
  refine oU rfl (u_st hf hs T23 rfl rfl rfl (k := 0) rfl (Nat.le_of_ble_eq_true rfl)) (fun _ h => h.sub (.cons _ (.cons_cons _ (.cons_cons _ (List.nil_sublist _))))) ?_; clear hs hS; intro w hs hS; dsimp only [List.set] at hs
  refine e_done (by kernel_rfl) ?_
  refine wp_seq ?_
  refine c_reg ?_
  refine gL hf (g_as hf rfl) (by decide) ?_; clear hf a; intro a hf
  refine e_nil ?_
  refine c_block ?_
  rw [show 0 + g.toNat + (b.flaps.length - (g + 1).toNat) = ([] ++ b.flaps.take g.toNat ++ b.flaps.drop (g + 1).toNat).length by simp only [List.length_append, List.length_nil, List.length_take, List.length_drop]; omega] at hs
  have hn1 : ∀ q, o2 = some q → w0.heap.size ≤ q.1 := fun q e => by subst e; exact (hs.own _ _ (.tail _ (.tail _ (.tail _ (.head _))))).1
  obtain ⟨A2, c2, e2, hl2, hs⟩ := hs.freeze (R := []) (e := 49) (o := o2) (enc := encF) (sz := 5) 3 (by simp) ho2 (fun _ => rfl) (by decide)
  have hA2 := acc_new hn1 e2
  dsimp only [List.take, List.cons_append, List.nil_append, List.append_nil] at hs e2 hl2
  rw [e2] at hs
  refine c_loop hf hs (List.range' 6 2 ++ List.range' 23 44) (σ := (Nat × Acc)) (fun s => [(6, .int .i64 (s.1 : Nat))]) (fun s => (b3, .cells #[.int .i64 b.wide, .int .i64 b.high, .slice A2 (b.flaps.take g.toNat ++ b.flaps.drop (g + 1).toNat).length c2, accV 2 (woR b g s.1).length s.2] 25 (0, 0)) :: (b2, .cells #[.int .i64 0, .int .i64 0, .slice none 0 0, .slice none 0 0] 25 (0, 0)) :: (b1, .cells #[.int .i64 b.wide, .int .i64 b.high, .slice fA b.flaps.length fc, .slice rA b.rules.length rc] 25 (0, 0)) :: accH 64 s.2) (fun s => s.1 ≤ b.rules.length ∧ AccOK encR 2 (woR b g s.1) s.2) (fun s => b.rules.length - s.1) (0, none) ⟨Nat.zero_le _, rfl⟩ (.cons rfl .nil) rfl ?_
  intro ⟨k, oy⟩ a w hJ hf hs
  dsimp only at hJ hf hs
  obtain ⟨hk, hoy⟩ := hJ
  have hwl := wo_le b g k
  refine wp_seq ?_
  refine c_reg ?_
  refine gL hf (g_mv hf rfl) (by decide) ?_; clear hf a; intro a hf
  refine gL hf (g_fa (off' := 3) hf F25_3 rfl rfl) (by decide) ?_; clear hf a; intro a hf
  refine gL hf (g_ld hf hs T23 rfl (k := 2) rfl rfl) (by decide) ?_; clear hf a; intro a hf
  refine gL hf (g_len hf SL23 rfl) (by decide) ?_; clear hf a; intro a hf
  refine gL hf (g_lss hf rfl rfl) (by decide) ?_; clear hf a; intro a hf
  refine e_nil ?_
  refine c_cond hf rfl (fun hc1 => ?_) (fun hc1 => ?_)
  · try simp only [decide_eq_true_eq, decide_eq_false_iff_not] at hc1
    have hru := hv.rule _ (getD_mem (l := b.rules) (i := k) (by omega))
    refine c_skip (q_thenN ?_)
    refine c_blockS ?_
    refine c_reg ?_
    refine gL hf (g_fa (off' := 3) hf F25_3 rfl rfl) (by decide) ?_; clear hf a; intro a hf
    refine gL hf (g_ld hf hs T23 rfl (k := 2) rfl rfl) (by decide) ?_; clear hf a; intro a hf
    refine gL hf (g_mv hf rfl) (by decide) ?_; clear hf a; intro a hf
    (first | (refine gL hf (g_ixE hf hs (.tail _ (.tail _ (.head _))) SL23 rfl rfl (by omega)) (by decide) ?_) | (refine gL hf (g_ixD hf hs (.tail _ (.tail _ (.head _))) SL23 rfl rfl (by omega)) (by decide) ?_)); clear hf a; intro a hf
    refine gL hf (g_ldEW hf hs (.tail _ (.tail _ (.head _))) T64 rfl rfl (by omega)) (by decide) ?_; clear hf a; intro a hf
    refine vL hf (v_alloc hs T64 rfl) (by decide) ?_; clear hs hf a; rintro _ w ⟨b5, rfl, hs⟩ a hf
    refine uL (u_stW hf hs T64 rfl rfl rfl (k := 0) rfl rfl rfl) ?_; clear hs; intro w hs; dsimp only [List.set] at hs
    refine e_nil ?_
    refine wp_seq ?_
    refine c_reg ?_
    refine gL hf (g_fa (off' := 0) hf F64_0 rfl rfl) (by decide) ?_; clear hf a; intro a hf
    refine gL hf (g_ld hf hs T3 rfl (k := 0) rfl rfl) (by decide) ?_; clear hf a; intro a hf
    refine gL hf (g_mv hf rfl) (by decide) ?_; clear hf a; intro a hf
    refine gL hf (g_eql hf rfl rfl) (by decide) ?_; clear hf a; intro a hf
    refine gL hf (g_mv hf rfl) (by decide) ?_; clear hf a; intro a hf
    refine ggL hf rfl rfl (gyes_f _) (fun hg => g_fa (off' := 1) hf F64_1 rfl rfl) (by decide) ?_; clear hf a; intro a hf
    refine ggL hf rfl rfl (gyes_f _) (fun hg => g_ld hf hs T3 (ev_gv rfl hg) (k := 0) rfl rfl) (by decide) ?_; clear hf a; intro a hf
    refine ggL hf rfl rfl (gyes_f _) (fun hg => g_mv hf rfl) (by decide) ?_; clear hf a; intro a hf
    refine ggL hf rfl rfl (gyes_f _) (fun hg => g_eql hf (ev_gv rfl hg) (ev_gv rfl hg)) (by decide) ?_; clear hf a; intro a hf
    refine gL hf (g_or hf rfl rfl) (by decide) ?_; clear hf a; intro a hf
    refine e_nil ?_
    refine c_cond hf rfl (fun hc2 => ?_) (fun hc2 => ?_)
    · skip
      have htc : (touches g (b.rules.getD k default)) = true := hc2
      refine c_exit (q_thenX (q_blkX (q_thenN ?_)))
      refine c_reg1 ?_
      refine gL hf (g_mv hf rfl) (by decide) ?_; clear hf a; intro a hf
      refine gL hf (g_addI hf rfl rfl (by omega)) (by decide) ?_; clear hf a; intro a hf
      refine gL hf (g_as hf rfl) (by decide) ?_; clear hf a; intro a hf
      refine e_nil1 (q_thenN ?_)
      first | exact ⟨(k + 1, oy2), ⟨by dsimp only; omega, hoy2⟩, (by dsimp only; omega), hf.back (by repeat (first | (with_reducible exact Ext.base) | ((with_reducible refine Ext.cons ?_ ?_); (· rfl)) | ((with_reducible refine Ext.over ?_ ?_ ?_); (· rfl); (· rfl)))) (allKeys rfl) (.cons rfl .nil), (by first | exact hs.dropN 2 | (rw [← wo_no (by omega) htc] at hs; exact hs.dropN 1))⟩ | exact ⟨(k + 1, oy), ⟨by dsimp only; omega, by dsimp only; rw [wo_no (by omega) htc]; exact hoy⟩, (by dsimp only; omega), hf.back (by repeat (first | (with_reducible exact Ext.base) | ((with_reducible refine Ext.cons ?_ ?_); (· rfl)) | ((with_reducible refine Ext.over ?_ ?_ ?_); (· rfl); (· rfl)))) (allKeys rfl) (.cons rfl .nil), (by first | exact hs.dropN 2 | (rw [← wo_no (by omega) htc] at hs; exact hs.dropN 1))⟩
    · skip
      have htc : (touches g (b.rules.getD k default)) = false := hc2
      refine c_skip (q_thenN ?_)
      refine wp_seq ?_
      refine c_reg ?_
      refine gL hf (g_fa (off' := 0) hf F64_0 rfl rfl) (by decide) ?_; clear hf a; intro a hf
      refine gL hf (g_ld hf hs T3 rfl (k := 0) rfl rfl) (by decide) ?_; clear hf a; intro a hf
      refine gL hf (g_mv hf rfl) (by decide) ?_; clear hf a; intro a hf
      refine gL hf (g_gtr hf rfl rfl) (by decide) ?_; clear hf a; intro a hf
      refine e_nil ?_
      refine c_cond hf rfl (fun hc3 => ?_) (fun hc3 => ?_)
      · try simp only [decide_eq_true_eq, decide_eq_false_iff_not] at hc3
        refine c_reg1 ?_
        refine gL hf (g_fa (off' := 0) hf F64_0 rfl rfl) (by decide) ?_; clear hf a; intro a hf
        refine gL hf (g_ld hf hs T3 rfl (k := 0) rfl rfl) (by decide) ?_; clear hf a; intro a hf
        refine gL hf (g_subI hf rfl rfl (by omega)) (by decide) ?_; clear hf a; intro a hf
        refine gL hf (g_fa (off' := 0) hf F64_0 rfl rfl) (by decide) ?_; clear hf a; intro a hf
        refine uL (u_st hf hs T3 rfl rfl rfl (k := 0) rfl (Nat.le_of_ble_eq_true rfl)) ?_; clear hs; intro w hs; dsimp only [List.set] at hs
        refine e_nil1 (q_thenN ?_)
        refine wp_seq ?_
        refine c_reg ?_
        refine gL hf (g_fa (off' := 1) hf F64_1 rfl rfl) (by decide) ?_; clear hf a; intro a hf
        refine gL hf (g_ld hf hs T3 rfl (k := 0) rfl rfl) (by decide) ?_; clear hf a; intro a hf
        refine gL hf (g_mv hf rfl) (by decide) ?_; clear hf a; intro a hf
        refine gL hf (g_gtr hf rfl rfl) (by decide) ?_; clear hf a; intro a hf
        refine e_nil ?_
        refine c_cond hf rfl (fun hc4 => ?_) (fun hc4 => ?_)
        · try simp only [decide_eq_true_eq, decide_eq_false_iff_not] at hc4
          refine c_reg1 ?_
          refine gL hf (g_fa (off' := 1) hf F64_1 rfl rfl) (by decide) ?_; clear hf a; intro a hf
          refine gL hf (g_ld hf hs T3 rfl (k := 0) rfl rfl) (by decide) ?_; clear hf a; intro a hf
          refine gL hf (g_subI hf rfl rfl (by omega)) (by decide) ?_; clear hf a; intro a hf
          refine gL hf (g_fa (off' := 1) hf F64_1 rfl rfl) (by decide) ?_; clear hf a; intro a hf
          refine uL (u_st hf hs T3 rfl rfl rfl (k := 0) rfl (Nat.le_of_ble_eq_true rfl)) ?_; clear hs; intro w hs; dsimp only [List.set] at hs
          refine e_nil1 (q_thenN ?_)
          refine c_reg1 ?_
          refine gL hf (g_fa (off' := 3) hf F25_3 rfl rfl) (by decide) ?_; clear hf a; intro a hf
          refine gL hf (g_ld hf hs T23 rfl (k := 1) rfl rfl) (by decide) ?_; clear hf a; intro a hf
          refine gL hf (g_ldW hf hs T64 rfl (k := 0) rfl rfl) (by decide) ?_; clear hf a; intro a hf
          refine vL hf (v_lits (len := 1) hf hs SL23 T64 (.cons rfl .nil) rfl rfl rfl rfl (by decide) rfl) (by decide) ?_; clear hs hf a; rintro _ w ⟨b6, rfl, hs⟩ a hf
          refine vL hf (v_accN (e := 64) (R := []) (o := oy) hf 5 hs (by simp) hoy AP23 (enc := encR) (l := woR b g k) (l' := [dnR g (b.rules.getD k default)]) (fun _ => rfl) (by decide) (by intro x v hv9; simp only [encR, List.mem_cons, List.not_mem_nil, or_false] at hv9; rcases hv9 with rfl | rfl <;> rfl) rfl rfl rfl (rd_single (enc := encR) (by simp only [encR, dnR, dn]; (repeat (first | rw [if_pos (by assumption)] | rw [if_neg (by assumption)])); rfl) (hs.own _ _ (.head _)).2) (by omega) (by decide)) (by decide) ?_; clear hs hf a; rintro _ w ⟨oy2, rfl, hoy2, hs⟩ a hf; dsimp only [List.take, List.cons_append, List.nil_append] at hs; rw [List.append_nil] at hs
          rw [show (woR b g k).length + 1 = (woR b g (k + 1)).length by rw [wo_yes (by omega) htc, List.length_append]; rfl] at hf; rw [← wo_yes (by omega) htc] at hoy2
          refine gL hf (g_fa (off' := 3) hf F25_3 rfl rfl) (by decide) ?_; clear hf a; intro a hf
          refine uL (u_st hf hs T23 rfl rfl (plain_acc _ _ _) (k := 2) rfl (Nat.le_of_ble_eq_true rfl)) ?_; clear hs; intro w hs; dsimp only [List.set] at hs
          refine e_nil1 (q_blkN (q_thenN ?_))
          refine c_reg1 ?_
          refine gL hf (g_mv hf rfl) (by decide) ?_; clear hf a; intro a hf
          refine gL hf (g_addI hf rfl rfl (by omega)) (by decide) ?_; clear hf a; intro a hf
          refine gL hf (g_as hf rfl) (by decide) ?_; clear hf a; intro a hf
          refine e_nil1 (q_thenN ?_)
          first | exact ⟨(k + 1, oy2), ⟨by dsimp only; omega, hoy2⟩, (by dsimp only; omega), hf.back (by repeat (first | (with_reducible exact Ext.base) | ((with_reducible refine Ext.cons ?_ ?_); (· rfl)) | ((with_reducible refine Ext.over ?_ ?_ ?_); (· rfl); (· rfl)))) (allKeys rfl) (.cons rfl .nil), (by first | exact hs.dropN 2 | (rw [← wo_no (by omega) htc] at hs; exact hs.dropN 1))⟩ | exact ⟨(k + 1, oy), ⟨by dsimp only; omega, by dsimp only; rw [wo_no (by omega) htc]; exact hoy⟩, (by dsimp only; omega), hf.back (by repeat (first | (with_reducible exact Ext.base) | ((with_reducible refine Ext.cons ?_ ?_); (· rfl)) | ((with_reducible refine Ext.over ?_ ?_ ?_); (· rfl); (· rfl)))) (allKeys rfl) (.cons rfl .nil), (by first | exact hs.dropN 2 | (rw [← wo_no (by omega) htc] at hs; exact hs.dropN 1))⟩
        · try simp only [decide_eq_true_eq, decide_eq_false_iff_not] at hc4
          refine c_skip (q_thenN ?_)
          refine c_reg1 ?_
          refine gL hf (g_fa (off' := 3) hf F25_3 rfl rfl) (by decide) ?_; clear hf a; intro a hf
          refine gL hf (g_ld hf hs T23 rfl (k := 1) rfl rfl) (by decide) ?_; clear hf a; intro a hf
          refine gL hf (g_ldW hf hs T64 rfl (k := 0) rfl rfl) (by decide) ?_; clear hf a; intro a hf
          refine vL hf (v_lits (len := 1) hf hs SL23 T64 (.cons rfl .nil) rfl rfl rfl rfl (by decide) rfl) (by decide) ?_; clear hs hf a; rintro _ w ⟨b6, rfl, hs⟩ a hf
          refine vL hf (v_accN (e := 64) (R := []) (o := oy) hf 5 hs (by simp) hoy AP23 (enc := encR) (l := woR b g k) (l' := [dnR g (b.rules.getD k default)]) (fun _ => rfl) (by decide) (by intro x v hv9; simp only [encR, List.mem_cons, List.not_mem_nil, or_false] at hv9; rcases hv9 with rfl | rfl <;> rfl) rfl rfl rfl (rd_single (enc := encR) (by simp only [encR, dnR, dn]; (repeat (first | rw [if_pos (by assumption)] | rw [if_neg (by assumption)])); rfl) (hs.own _ _ (.head _)).2) (by omega) (by decide)) (by decide) ?_; clear hs hf a; rintro _ w ⟨oy2, rfl, hoy2, hs⟩ a hf; dsimp only [List.take, List.cons_append, List.nil_append] at hs; rw [List.append_nil] at hs
          rw [show (woR b g k).length + 1 = (woR b g (k + 1)).length by rw [wo_yes (by omega) htc, List.length_append]; rfl] at hf; rw [← wo_yes (by omega) htc] at hoy2
          refine gL hf (g_fa (off' := 3) hf F25_3 rfl rfl) (by decide) ?_; clear hf a; intro a hf
          refine uL (u_st hf hs T23 rfl rfl (plain_acc _ _ _) (k := 2) rfl (Nat.le_of_ble_eq_true rfl)) ?_; clear hs; intro w hs; dsimp only [List.set] at hs
          refine e_nil1 (q_blkN (q_thenN ?_))
          refine c_reg1 ?_
          refine gL hf (g_mv hf rfl) (by decide) ?_; clear hf a; intro a hf
          refine gL hf (g_addI hf rfl rfl (by omega)) (by decide) ?_; clear hf a; intro a hf
          refine gL hf (g_as hf rfl) (by decide) ?_; clear hf a; intro a hf
          refine e_nil1 (q_thenN ?_)
          first | exact ⟨(k + 1, oy2), ⟨by dsimp only; omega, hoy2⟩, (by dsimp only; omega), hf.back (by repeat (first | (with_reducible exact Ext.base) | ((with_reducible refine Ext.cons ?_ ?_); (· rfl)) | ((with_reducible refine Ext.over ?_ ?_ ?_); (· rfl); (· rfl)))) (allKeys rfl) (.cons rfl .nil), (by first | exact hs.dropN 2 | (rw [← wo_no (by omega) htc] at hs; exact hs.dropN 1))⟩ | exact ⟨(k + 1, oy), ⟨by dsimp only; omega, by dsimp only; rw [wo_no (by omega) htc]; exact hoy⟩, (by dsimp only; omega), hf.back (by repeat (first | (with_reducible exact Ext.base) | ((with_reducible refine Ext.cons ?_ ?_); (· rfl)) | ((with_reducible refine Ext.over ?_ ?_ ?_); (· rfl); (· rfl)))) (allKeys rfl) (.cons rfl .nil), (by first | exact hs.dropN 2 | (rw [← wo_no (by omega) htc] at hs; exact hs.dropN 1))⟩
      · try simp only [decide_eq_true_eq, decide_eq_false_iff_not] at hc3
        refine c_skip (q_thenN ?_)
        refine wp_seq ?_
        refine c_reg ?_
        refine gL hf (g_fa (off' := 1) hf F64_1 rfl rfl) (by decide) ?_; clear hf a; intro a hf
        refine gL hf (g_ld hf hs T3 rfl (k := 0) rfl rfl) (by decide) ?_; clear hf a; intro a hf
        refine gL hf (g_mv hf rfl) (by decide) ?_; clear hf a; intro a hf
        refine gL hf (g_gtr hf rfl rfl) (by decide) ?_; clear hf a; intro a hf
        refine e_nil ?_
        refine c_cond hf rfl (fun hc5 => ?_) (fun hc5 => ?_)
        · try simp only [decide_eq_true_eq, decide_eq_false_iff_not] at hc5
          refine c_reg1 ?_
          refine gL hf (g_fa (off' := 1) hf F64_1 rfl rfl) (by decide) ?_; clear hf a; intro a hf
          refine gL hf (g_ld hf hs T3 rfl (k := 0) rfl rfl) (by decide) ?_; clear hf a; intro a hf
          refine gL hf (g_subI hf rfl rfl (by omega)) (by decide) ?_; clear hf a; intro a hf
          refine gL hf (g_fa (off' := 1) hf F64_1 rfl rfl) (by decide) ?_; clear hf a; intro a hf
          refine uL (u_st hf hs T3 rfl rfl rfl (k := 0) rfl (Nat.le_of_ble_eq_true rfl)) ?_; clear hs; intro w hs; dsimp only [List.set] at hs
          refine e_nil1 (q_thenN ?_)
          refine c_reg1 ?_
          refine gL hf (g_fa (off' := 3) hf F25_3 rfl rfl) (by decide) ?_; clear hf a; intro a hf
          refine gL hf (g_ld hf hs T23 rfl (k := 1) rfl rfl) (by decide) ?_; clear hf a; intro a hf
          refine gL hf (g_ldW hf hs T64 rfl (k := 0) rfl rfl) (by decide) ?_; clear hf a; intro a hf
          refine vL hf (v_lits (len := 1) hf hs SL23 T64 (.cons rfl .nil) rfl rfl rfl rfl (by decide) rfl) (by decide) ?_; clear hs hf a; rintro _ w ⟨b6, rfl, hs⟩ a hf
          refine vL hf (v_accN (e := 64) (R := []) (o := oy) hf 5 hs (by simp) hoy AP23 (enc := encR) (l := woR b g k) (l' := [dnR g (b.rules.getD k default)]) (fun _ => rfl) (by decide) (by intro x v hv9; simp only [encR, List.mem_cons, List.not_mem_nil, or_false] at hv9; rcases hv9 with rfl | rfl <;> rfl) rfl rfl rfl (rd_single (enc := encR) (by simp only [encR, dnR, dn]; (repeat (first | rw [if_pos (by assumption)] | rw [if_neg (by assumption)])); rfl) (hs.own _ _ (.head _)).2) (by omega) (by decide)) (by decide) ?_; clear hs hf a; rintro _ w ⟨oy2, rfl, hoy2, hs⟩ a hf; dsimp only [List.take, List.cons_append, List.nil_append] at hs; rw [List.append_nil] at hs
          rw [show (woR b g k).length + 1 = (woR b g (k + 1)).length by rw [wo_yes (by omega) htc, List.length_append]; rfl] at hf; rw [← wo_yes (by omega) htc] at hoy2
          refine gL hf (g_fa (off' := 3) hf F25_3 rfl rfl) (by decide) ?_; clear hf a; intro a hf
          refine uL (u_st hf hs T23 rfl rfl (plain_acc _ _ _) (k := 2) rfl (Nat.le_of_ble_eq_true rfl)) ?_; clear hs; intro w hs; dsimp only [List.set] at hs
          refine e_nil1 (q_blkN (q_thenN ?_))
          refine c_reg1 ?_
          refine gL hf (g_mv hf rfl) (by decide) ?_; clear hf a; intro a hf
          refine gL hf (g_addI hf rfl rfl (by omega)) (by decide) ?_; clear hf a; intro a hf
          refine gL hf (g_as hf rfl) (by decide) ?_; clear hf a; intro a hf
          refine e_nil1 (q_thenN ?_)
          first | exact ⟨(k + 1, oy2), ⟨by dsimp only; omega, hoy2⟩, (by dsimp only; omega), hf.back (by repeat (first | (with_reducible exact Ext.base) | ((with_reducible refine Ext.cons ?_ ?_); (· rfl)) | ((with_reducible refine Ext.over ?_ ?_ ?_); (· rfl); (· rfl)))) (allKeys rfl) (.cons rfl .nil), (by first | exact hs.dropN 2 | (rw [← wo_no (by omega) htc] at hs; exact hs.dropN 1))⟩ | exact ⟨(k + 1, oy), ⟨by dsimp only; omega, by dsimp only; rw [wo_no (by omega) htc]; exact hoy⟩, (by dsimp only; omega), hf.back (by repeat (first | (with_reducible exact Ext.base) | ((with_reducible refine Ext.cons ?_ ?_); (· rfl)) | ((with_reducible refine Ext.over ?_ ?_ ?_); (· rfl); (· rfl)))) (allKeys rfl) (.cons rfl .nil), (by first | exact hs.dropN 2 | (rw [← wo_no (by omega) htc] at hs; exact hs.dropN 1))⟩
        · try simp only [decide_eq_true_eq, decide_eq_false_iff_not] at hc5
          refine c_skip (q_thenN ?_)
          refine c_reg1 ?_
          refine gL hf (g_fa (off' := 3) hf F25_3 rfl rfl) (by decide) ?_; clear hf a; intro a hf
          refine gL hf (g_ld hf hs T23 rfl (k := 1) rfl rfl) (by decide) ?_; clear hf a; intro a hf
          refine gL hf (g_ldW hf hs T64 rfl (k := 0) rfl rfl) (by decide) ?_; clear hf a; intro a hf
          refine vL hf (v_lits (len := 1) hf hs SL23 T64 (.cons rfl .nil) rfl rfl rfl rfl (by decide) rfl) (by decide) ?_; clear hs hf a; rintro _ w ⟨b6, rfl, hs⟩ a hf
          refine vL hf (v_accN (e := 64) (R := []) (o := oy) hf 5 hs (by simp) hoy AP23 (enc := encR) (l := woR b g k) (l' := [dnR g (b.rules.getD k default)]) (fun _ => rfl) (by decide) (by intro x v hv9; simp only [encR, List.mem_cons, List.not_mem_nil, or_false] at hv9; rcases hv9 with rfl | rfl <;> rfl) rfl rfl rfl (rd_single (enc := encR) (by simp only [encR, dnR, dn]; (repeat (first | rw [if_pos (by assumption)] | rw [if_neg (by assumption)])); rfl) (hs.own _ _ (.head _)).2) (by omega) (by decide)) (by decide) ?_; clear hs hf a; rintro _ w ⟨oy2, rfl, hoy2, hs⟩ a hf; dsimp only [List.take, List.cons_append, List.nil_append] at hs; rw [List.append_nil] at hs
          rw [show (woR b g k).length + 1 = (woR b g (k + 1)).length by rw [wo_yes (by omega) htc, List.length_append]; rfl] at hf; rw [← wo_yes (by omega) htc] at hoy2
          refine gL hf (g_fa (off' := 3) hf F25_3 rfl rfl) (by decide) ?_; clear hf a; intro a hf
          refine uL (u_st hf hs T23 rfl rfl (plain_acc _ _ _) (k := 2) rfl (Nat.le_of_ble_eq_true rfl)) ?_; clear hs; intro w hs; dsimp only [List.set] at hs
          refine e_nil1 (q_blkN (q_thenN ?_))
          refine c_reg1 ?_
          refine gL hf (g_mv hf rfl) (by decide) ?_; clear hf a; intro a hf
          refine gL hf (g_addI hf rfl rfl (by omega)) (by decide) ?_; clear hf a; intro a hf
          refine gL hf (g_as hf rfl) (by decide) ?_; clear hf a; intro a hf
          refine e_nil1 (q_thenN ?_)
          first | exact ⟨(k + 1, oy2), ⟨by dsimp only; omega, hoy2⟩, (by dsimp only; omega), hf.back (by repeat (first | (with_reducible exact Ext.base) | ((with_reducible refine Ext.cons ?_ ?_); (· rfl)) | ((with_reducible refine Ext.over ?_ ?_ ?_); (· rfl); (· rfl)))) (allKeys rfl) (.cons rfl .nil), (by first | exact hs.dropN 2 | (rw [← wo_no (by omega) htc] at hs; exact hs.dropN 1))⟩ | exact ⟨(k + 1, oy), ⟨by dsimp only; omega, by dsimp only; rw [wo_no (by omega) htc]; exact hoy⟩, (by dsimp only; omega), hf.back (by repeat (first | (with_reducible exact Ext.base) | ((with_reducible refine Ext.cons ?_ ?_); (· rfl)) | ((with_reducible refine Ext.over ?_ ?_ ?_); (· rfl); (· rfl)))) (allKeys rfl) (.cons rfl .nil), (by first | exact hs.dropN 2 | (rw [← wo_no (by omega) htc] at hs; exact hs.dropN 1))⟩
  · try simp only [decide_eq_true_eq, decide_eq_false_iff_not] at hc1
    obtain rfl : k = b.rules.length := by omega
    have hn2 : ∀ q, oy = some q → w0.heap.size ≤ q.1 := fun q e => by subst e; exact (hs.own _ _ (.tail _ (.tail _ (.tail _ (.head _))))).1
    obtain ⟨A3, c3, e3, hl3, hs⟩ := hs.freeze (R := []) (e := 64) (o := oy) (enc := encR) (sz := 2) 3 (by simp) hoy (fun _ => rfl) (by decide)
    have hA3 := acc_new hn2 e3
    dsimp only [List.take, List.cons_append, List.nil_append, List.append_nil] at hs
    rw [e3] at hs
    refine c_exit (q_thenX (q_thenX (q_blkX (q_thenN ?_))))
    refine c_reg ?_
    refine gL hf (g_ldW hf hs T25 rfl (k := 0) rfl rfl) (by decide) ?_; clear hf a; intro a hf
    refine uL (u_stW hf hs T25 rfl rfl rfl (k := 1) rfl rfl rfl) ?_; clear hs; intro w hs; dsimp only [List.set] at hs
    refine e_nil ?_
    refine c_ret ?_
    refine e_res hf hs rfl (.cellA T25 rfl (k := 1) rfl rfl .nil) rfl ?_
    exact ⟨_, rfl, hs.below, A2, c2, A3, c3, rfl, ⟨hl2, hs.rd (.tail _ (.head _)), hA2⟩, ⟨hl3, hs.rd (.head _), hA3⟩⟩

end Go.Proofs.YtpjhffockmnjbaaDoor
set_option linter.unusedVariables false
set_option linter.unusedSimpArgs false
namespace Go.Proofs.YtpjhffockmnjbaaDoor
open Go.RowKit
theorem c_unruled (b : Sheet) (fA : Option Addr) (fc : Nat) (rA : Option Addr) (rc : Nat) (oA : Option Addr) (oc : Nat) (l : List Int) (hv : Valid b) (w0 : World) (h : ShIn b fA fc rA rc w0) (ho : Rd encI 1 oA l.length l w0) :
    Calls Tryd.prog 49 #[.agg #[.int .i64 b.wide, .int .i64 b.high, .slice fA b.flaps.length fc, .slice rA b.rules.length rc], .slice oA l.length oc] w0 (RetX w0 (fun v w0' => ∃ rA2 rc2, v = .agg #[.int .i64 b.wide, .int .i64 b.high, .slice fA b.flaps.length fc, .slice rA2 (unB b l).rules.length rc2] ∧ OutG encR 2 (unB b l).rules rA2 rc2 w0 w0')) := by
  refine c_enter (n := 31) Tryd.func49 rfl rfl (Nat.le_of_ble_eq_true rfl) ?_; intro a hf; simp only [zipR] at hf
  have hs := St.start w0 [Rd encF 5 fA b.flaps.length b.flaps, Rd encR 2 rA b.rules.length b.rules, Rd encI 1 oA l.length l] (stab_app h.stab ho.st1)
  have hfm := h.F.2.1; have hrm := h.R.2.1; have hlm := ho.2.1
  have hmany := hv.many; have hrl := hv.rules
  refine c_reg ?_
  refine vL hf (v_boxA hf hs rfl) (by decide) ?_; clear hs hf a; rintro _ w ⟨b1, rfl, hs⟩ a hf
  refine vL hf (v_alloc hs T25 rfl) (by decide) ?_; clear hs hf a; rintro _ w ⟨b2, rfl, hs⟩ a hf
  refine e_nil ?_
  refine c_reg ?_
  refine gL hf (g_ldW hf hs T25 rfl (k := 1) rfl rfl) (by decide) ?_; clear hf a; intro a hf
  refine vL hf (v_alloc hs T25 rfl) (by decide) ?_; clear hs hf a; rintro _ w ⟨b3, rfl, hs⟩ a hf
  refine uL (u_stW hf hs T25 rfl rfl rfl (k := 0) rfl rfl rfl) ?_; clear hs; intro w hs; dsimp only [List.set] at hs
  refine e_nil ?_
  refine c_reg ?_
  refine gL hf (g_fa (off' := 3) hf F25_3 rfl rfl) (by decide) ?_; clear hf a; intro a hf
  refine uL (u_st hf hs T23 rfl rfl rfl (k := 0) rfl (Nat.le_of_ble_eq_true rfl)) ?_; clear hs; intro w hs; dsimp only [List.set] at hs
  refine e_nil ?_
  refine wp_seq ?_
  refine c_reg ?_
  refine gL hf (g_as hf rfl) (by decide) ?_; clear hf a; intro a hf
  refine e_nil ?_
  refine c_block ?_
  refine c_loop hf hs [6, 9, 10, 11, 12, 13, 14, 15, 16, 17, 18, 19, 20, 21, 22, 23, 24, 25, 26, 27, 28, 29] (σ := (Nat × Acc)) (fun s => [(6, .int .i64 (s.1 : Nat))]) (fun s => (b3, .cells #[.int .i64 b.wide, .int .i64 b.high, .slice fA b.flaps.length fc, accV 2 (unR b l s.1).length s.2] 25 (0, 0)) :: (b2, .cells #[.int .i64 0, .int .i64 0, .slice none 0 0, .slice none 0 0] 25 (0, 0)) :: (b1, .cells #[.int .i64 b.wide, .int .i64 b.high, .slice fA b.flaps.length fc, .slice rA b.rules.length rc] 25 (0, 0)) :: accH 64 s.2) (fun s => s.1 ≤ b.rules.length ∧ AccOK encR 2 (unR b l s.1) s.2) (fun s => b.rules.length - s.1) (0, none) ⟨Nat.zero_le _, rfl⟩ (.cons rfl .nil) rfl ?_
  intro ⟨k, oy⟩ a w hJ hf hs
  dsimp only at hJ hf hs
  obtain ⟨hk, hoy⟩ := hJ
  have hul := un_le b l k
  refine wp_seq ?_
  refine c_reg ?_
  refine gL hf (g_mv hf rfl) (by decide) ?_; clear hf a; intro a hf
  refine gL hf (g_fa (off' := 3) hf F25_3 rfl rfl) (by decide) ?_; clear hf a; intro a hf
  refine gL hf (g_ld hf hs T23 rfl (k := 2) rfl rfl) (by decide) ?_; clear hf a; intro a hf
  refine gL hf (g_len hf SL23 rfl) (by decide) ?_; clear hf a; intro a hf
  refine gL hf (g_lss hf rfl rfl) (by decide) ?_; clear hf a; intro a hf
  refine e_nil ?_
  refine c_cond hf rfl (fun hc1 => ?_) (fun hc1 => ?_)
  · try simp only [decide_eq_true_eq, decide_eq_false_iff_not] at hc1
    refine c_skip (q_thenN ?_)
    refine c_blockS ?_
    refine c_reg ?_
    refine gL hf (g_mv hf rfl) (by decide) ?_; clear hf a; intro a hf
    refine gL hf (g_mv hf rfl) (by decide) ?_; clear hf a; intro a hf
    refine callL hf hs (c_IndexR _ _ _ l _ _ (hs.rd (.tail _ (.tail _ (.head _))))) rfl rfl rfl E44 (by decide) ?_; clear hs hf a; intro w a hs hf
    refine gL hf (g_lss hf rfl rfl) (by decide) ?_; clear hf a; intro a hf
    refine e_nil ?_
    refine c_cond hf rfl (fun hc2 => ?_) (fun hc2 => ?_)
    · try simp only [decide_eq_true_eq, decide_eq_false_iff_not] at hc2
      have hni : ((k : Nat) : Int) ∉ l := indexZ_neg hc2
      refine c_draw1 _ 11 Mx rfl hs (fun _ h => h.sub (.cons _ (.cons_cons _ (.cons_cons _ (List.nil_sublist _))))) ?_; intro w hs hS
      refine gA hf hS (i := 0) rfl (by kernel_rfl) (fun w hs => g_fa (off' := 3) hf F25_3 rfl rfl) (by decide) ?_; clear hf a; intro a hf
      refine gA hf hS (i := 2) rfl (by kernel_rfl) (fun w hs => g_fa (off' := 3) hf F25_3 rfl rfl) (by decide) ?_; clear hf a; intro a hf
      refine gA hf hS (i := 3) rfl (by kernel_rfl) (fun w hs => g_ld hf hs T23 rfl (k := 1) rfl rfl) (by decide) ?_; clear hf a; intro a hf
      refine gA hf hS (i := 4) rfl (by kernel_rfl) (fun w hs => g_mv hf rfl) (by decide) ?_; clear hf a; intro a hf
      (first | (refine gA hf hS (i := 5) rfl (by kernel_rfl) (fun w hs => g_ixE hf hs (.tail _ (.head _)) SL23 rfl rfl (by omega)) (by decide) ?_) | (refine gA hf hS (i := 5) rfl (by kernel_rfl) (fun w hs => g_ixD hf hs (.tail _ (.head _)) SL23 rfl rfl (by omega)) (by decide) ?_)); clear hf a; intro a hf
      refine gA hf hS (i := 6) rfl (by kernel_rfl) (fun w hs => g_ldEW hf hs (.tail _ (.head _)) T64 rfl rfl (by omega)) (by decide) ?_; clear hf a; intro a hf
      refine two (i := 1) (j := 7) (by kernel_rfl) ?_ ?_
      · skip
        refine oV hf rfl (goesV_of_gets (g_ld hf hs T23 rfl (k := 0) rfl rfl)) (by decide) (fun _ _ h => by rw [h.2]; exact hS) ?_; rintro _ w ⟨rfl, rfl⟩ hS a hf
        refine one (i := 7) (by kernel_rfl) ?_
        refine oV hf rfl (v_lits (len := 1) hf hs SL23 T64 (.cons rfl .nil) rfl rfl rfl rfl (by decide) rfl) (by decide) (fun _ _ ⟨_, _, h⟩ => h.sub (.cons _ (.cons _ (.cons_cons _ (.cons_cons _ (List.nil_sublist _)))))) ?_; clear hs hf hS a; rintro _ w ⟨b4, rfl, hs⟩ hS a hf
        refine one (i := 8) (by kernel_rfl) ?_
        refine oV hf rfl (v_accN (e := 64) (R := []) (o := oy) hf 4 hs (by simp) hoy AP23 (enc := encR) (l := unR b l k) (l' := [b.rules.getD k default]) (fun _ => rfl) (by decide) (by intro x v hv9; simp only [encR, List.mem_cons, List.not_mem_nil, or_false] at hv9; rcases hv9 with rfl | rfl <;> rfl) rfl rfl rfl (rd_single (enc := encR) rfl (hs.own _ _ (.head _)).2) (by omega) (by decide)) (by decide) (fun _ _ ⟨_, _, _, h⟩ => h.sub (.cons _ (.cons _ (.cons_cons _ (.cons_cons _ (List.nil_sublist _)))))) ?_; clear hs hf hS a; rintro _ w ⟨oy2, rfl, hoy2, hs⟩ hS a hf; dsimp only [List.take, List.cons_append, List.nil_append] at hs; rw [List.append_nil] at hs
        rw [show (unR b l k).length + 1 = (unR b l (k + 1)).length by rw [un_yes hni, List.length_append]; rfl] at hf; rw [← un_yes hni] at hoy2
        refine gA hf hS (i := 9) rfl (by kernel_rfl) (fun w hs => g_fa (off' := 3) hf F25_3 rfl rfl) (by decide) ?_; clear hf a; intro a hf
        refine one (i := 10) (by kernel_rfl) ?_
        refine oU rfl (u_st hf hs T23 rfl rfl (plain_acc _ _ _) (k := 1) rfl (Nat.le_of_ble_eq_true rfl)) (fun _ h => h.sub (.cons _ (.cons _ (.cons_cons _ (.cons_cons _ (List.nil_sublist _)))))) ?_; clear hs hS; intro w hs hS; dsimp only [List.set] at hs
        refine e_done1 (by kernel_rfl) ?_
        refine q_blkN (q_thenN ?_)
        refine c_reg1 ?_
        refine gL hf (g_mv hf rfl) (by decide) ?_; clear hf a; intro a hf
        refine gL hf (g_addI hf rfl rfl (by omega)) (by decide) ?_; clear hf a; intro a hf
        refine gL hf (g_as hf rfl) (by decide) ?_; clear hf a; intro a hf
        refine e_nil1 (q_thenN ?_)
        first | exact ⟨(k + 1, oy2), ⟨by dsimp only; omega, hoy2⟩, (by dsimp only; omega), hf.back (by repeat (first | (with_reducible exact Ext.base) | ((with_reducible refine Ext.cons ?_ ?_); (· rfl)) | ((with_reducible refine Ext.over ?_ ?_ ?_); (· rfl); (· rfl)))) (allKeys rfl) (.cons rfl .nil), (by first | exact hs.dropN 1 | (rw [← un_no hyi] at hs; exact hs.dropN 0))⟩ | exact ⟨(k + 1, oy), ⟨by dsimp only; omega, by dsimp only; rw [un_no hyi]; exact hoy⟩, (by dsimp only; omega), hf.back (by repeat (first | (with_reducible exact Ext.base) | ((with_reducible refine Ext.cons ?_ ?_); (· rfl)) | ((with_reducible refine Ext.over ?_ ?_ ?_); (· rfl); (· rfl)))) (allKeys rfl) (.cons rfl .nil), (by first | exact hs.dropN 1 | (rw [← un_no hyi] at hs; exact hs.dropN 0))⟩
      · skip
        refine oV hf rfl (v_lits (len := 1) hf hs SL23 T64 (.cons rfl .nil) rfl rfl rfl rfl (by decide) rfl) (by decide) (fun _ _ ⟨_, _, h⟩ => h.sub (.cons _ (.cons _ (.cons_cons _ (.cons_cons _ (List.nil_sublist _)))))) ?_; clear hs hf hS a; rintro _ w ⟨b4, rfl, hs⟩ hS a hf
        refine one (i := 1) (by kernel_rfl) ?_
        refine oV hf rfl (goesV_of_gets (g_ld hf hs T23 rfl (k := 1) rfl rfl)) (by decide) (fun _ _ h => by rw [h.2]; exact hS) ?_; rintro _ w ⟨rfl, rfl⟩ hS a hf
        refine one (i := 8) (by kernel_rfl) ?_
        refine oV hf rfl (v_accN (e := 64) (R := []) (o := oy) hf 4 hs (by simp) hoy AP23 (enc := encR) (l := unR b l k) (l' := [b.rules.getD k default]) (fun _ => rfl) (by decide) (by intro x v hv9; simp only [encR, List.mem_cons, List.not_mem_nil, or_false] at hv9; rcases hv9 with rfl | rfl <;> rfl) rfl rfl rfl (rd_single (enc := encR) rfl (hs.own _ _ (.head _)).2) (by omega) (by decide)) (by decide) (fun _ _ ⟨_, _, _, h⟩ => h.sub (.cons _ (.cons _ (.cons_cons _ (.cons_cons _ (List.nil_sublist _)))))) ?_; clear hs hf hS a; rintro _ w ⟨oy2, rfl, hoy2, hs⟩ hS a hf; dsimp only [List.take, List.cons_append, List.nil_append] at hs; rw [List.append_nil] at hs
        rw [show (unR b l k).length + 1 = (unR b l (k + 1)).length by rw [un_yes hni, List.length_append]; rfl] at hf; rw [← un_yes hni] at hoy2
        refine gA hf hS (i := 9) rfl (by kernel_rfl) (fun w hs => g_fa (off' := 3) hf F25_3 rfl rfl) (by decide) ?_; clear hf a; intro a hf
        refine one (i := 10) (by kernel_rfl) ?_
        refine oU rfl (u_st hf hs T23 rfl rfl (plain_acc _ _ _) (k := 1) rfl (Nat.le_of_ble_eq_true rfl)) (fun _ h => h.sub (.cons _ (.cons _ (.cons_cons _ (.cons_cons _ (List.nil_sublist _)))))) ?_; clear hs hS; intro w hs hS; dsimp only [List.set] at hs
        refine e_done1 (by kernel_rfl) ?_
        refine q_blkN (q_thenN ?_)
        refine c_reg1 ?_
        refine gL hf (g_mv hf rfl) (by decide) ?_; clear hf a; intro a hf
        refine gL hf (g_addI hf rfl rfl (by omega)) (by decide) ?_; clear hf a; intro a hf
        refine gL hf (g_as hf rfl) (by decide) ?_; clear hf a; intro a hf
        refine e_nil1 (q_thenN ?_)
        first | exact ⟨(k + 1, oy2), ⟨by dsimp only; omega, hoy2⟩, (by dsimp only; omega), hf.back (by repeat (first | (with_reducible exact Ext.base) | ((with_reducible refine Ext.cons ?_ ?_); (· rfl)) | ((with_reducible refine Ext.over ?_ ?_ ?_); (· rfl); (· rfl)))) (allKeys rfl) (.cons rfl .nil), (by first | exact hs.dropN 1 | (rw [← un_no hyi] at hs; exact hs.dropN 0))⟩ | exact ⟨(k + 1, oy), ⟨by dsimp only; omega, by dsimp only; rw [un_no hyi]; exact hoy⟩, (by dsimp only; omega), hf.back (by repeat (first | (with_reducible exact Ext.base) | ((with_reducible refine Ext.cons ?_ ?_); (· rfl)) | ((with_reducible refine Ext.over ?_ ?_ ?_); (· rfl); (· rfl)))) (allKeys rfl) (.cons rfl .nil), (by first | exact hs.dropN 1 | (rw [← un_no hyi] at hs; exact hs.dropN 0))⟩
    · try simp only [decide_eq_true_eq, decide_eq_false_iff_not] at hc2
      have hyi : ((k : Nat) : Int) ∈ l := indexZ_pos hc2
      refine c_skip (q_blkN (q_thenN ?_))
      refine c_reg1 ?_
      refine gL hf (g_mv hf rfl) (by decide) ?_; clear hf a; intro a hf
      refine gL hf (g_addI hf rfl rfl (by omega)) (by decide) ?_; clear hf a; intro a hf
      refine gL hf (g_as hf rfl) (by decide) ?_; clear hf a; intro a hf
      refine e_nil1 (q_thenN ?_)
      first | exact ⟨(k + 1, oy2), ⟨by dsimp only; omega, hoy2⟩, (by dsimp only; omega), hf.back (by repeat (first | (with_reducible exact Ext.base) | ((with_reducible refine Ext.cons ?_ ?_); (· rfl)) | ((with_reducible refine Ext.over ?_ ?_ ?_); (· rfl); (· rfl)))) (allKeys rfl) (.cons rfl .nil), (by first | exact hs.dropN 1 | (rw [← un_no hyi] at hs; exact hs.dropN 0))⟩ | exact ⟨(k + 1, oy), ⟨by dsimp only; omega, by dsimp only; rw [un_no hyi]; exact hoy⟩, (by dsimp only; omega), hf.back (by repeat (first | (with_reducible exact Ext.base) | ((with_reducible refine Ext.cons ?_ ?_); (· rfl)) | ((with_reducible refine Ext.over ?_ ?_ ?_); (· rfl); (· rfl)))) (allKeys rfl) (.cons rfl .nil), (by first | exact hs.dropN 1 | (rw [← un_no hyi] at hs; exact hs.dropN 0))⟩
  · try simp only [decide_eq_true_eq, decide_eq_false_iff_not] at hc1
    obtain rfl : k = b.rules.length := by omega
    have hn2 : ∀ q, oy = some q → w0.heap.size ≤ q.1 := fun q e => by subst e; exact (hs.own _ _ (.tail _ (.tail _ (.tail _ (.head _))))).1
    obtain ⟨A3, c3, e3, hl3, hs⟩ := hs.freeze (R := []) (e := 64) (o := oy) (enc := encR) (sz := 2) 3 (by simp) hoy (fun _ => rfl) (by decide)
    have hA3 := acc_new hn2 e3
    dsimp only [List.take, List.cons_append, List.nil_append, List.append_nil] at hs
    rw [e3] at hs
    refine c_exit (q_thenX (q_thenX (q_blkX (q_thenN ?_))))
    refine c_reg ?_
    refine gL hf (g_ldW hf hs T25 rfl (k := 0) rfl rfl) (by decide) ?_; clear hf a; intro a hf
    refine uL (u_stW hf hs T25 rfl rfl rfl (k := 1) rfl rfl rfl) ?_; clear hs; intro w hs; dsimp only [List.set] at hs
    refine e_nil ?_
    refine c_ret ?_
    refine e_res hf hs rfl (.cellA T25 rfl (k := 1) rfl rfl .nil) rfl ?_
    exact ⟨_, rfl, hs.below, A3, c3, rfl, ⟨hl3, hs.rd (.head _), hA3⟩⟩

theorem c_Marks (s9 : Int) (n : Nat) (hn : n ≤ 63) (w0 : World) :
    Calls Tryd.prog 50 #[.int .i64 s9, .int .i64 (n : Nat)] w0 (RetX w0 (fun v w0' => ∃ A c, v = .slice A (outL s9 n).length c ∧ Out (outL s9 n) A c w0 w0')) := by
  refine c_enter (n := 20) Tryd.func50 rfl rfl (Nat.le_of_ble_eq_true rfl) ?_; intro a hf; simp only [zipR] at hf
  have hs := St.start w0 [] (by simp)
  refine c_reg ?_
  refine gL hf (g_as hf rfl) (by decide) ?_; clear hf a; intro a hf
  refine e_nil ?_
  refine c_reg ?_
  refine gL hf (g_as hf rfl) (by decide) ?_; clear hf a; intro a hf
  refine e_nil ?_
  refine wp_seq ?_
  refine c_reg ?_
  refine gL hf (g_as hf rfl) (by decide) ?_; clear hf a; intro a hf
  refine e_nil ?_
  refine c_block ?_
  refine c_loop hf hs [5, 6, 7, 8, 9, 10, 11, 12, 13, 14, 15, 16, 17, 18] (σ := (Nat × Acc)) (fun s => [(5, accV 1 (outL s9 s.1).length s.2), (6, .int .i64 (s.1 : Nat))]) (fun s => accH 3 s.2) (fun s => s.1 ≤ n ∧ AccOK encI 1 (outL s9 s.1) s.2) (fun s => n - s.1) (0, none) ⟨Nat.zero_le _, rfl⟩ (.cons rfl (.cons rfl .nil)) rfl ?_
  intro ⟨k, oa⟩ a w hJ hf hs
  dsimp only at hJ hf hs
  obtain ⟨hk, hoa⟩ := hJ
  have hol := out_le s9 k
  refine wp_seq ?_
  refine c_reg ?_
  refine gL hf (g_mv hf rfl) (by decide) ?_; clear hf a; intro a hf
  refine gL hf (g_mv hf rfl) (by decide) ?_; clear hf a; intro a hf
  refine gL hf (g_lss hf rfl rfl) (by decide) ?_; clear hf a; intro a hf
  refine e_nil ?_
  refine c_cond hf rfl (fun hc1 => ?_) (fun hc1 => ?_)
  · try simp only [decide_eq_true_eq, decide_eq_false_iff_not] at hc1
    refine c_skip (q_thenN ?_)
    refine c_blockS ?_
    refine c_reg ?_
    refine gL hf (g_mv hf rfl) (by decide) ?_; clear hf a; intro a hf
    refine gL hf (g_mv hf rfl) (by decide) ?_; clear hf a; intro a hf
    refine callL hf hs (c_In _ _ (by omega) _) rfl rfl rfl E84 (by decide) ?_; clear hs hf a; intro w a hs hf
    refine e_nil ?_
    refine c_cond hf rfl (fun hc2 => ?_) (fun hc2 => ?_)
    · skip
      have hc2 : bitI s9 k = true := hc2
      refine c_reg1 ?_
      refine gL hf (g_mv hf rfl) (by decide) ?_; clear hf a; intro a hf
      refine gL hf (g_mv hf rfl) (by decide) ?_; clear hf a; intro a hf
      refine vL hf (v_lits (len := 1) hf hs SL27 T3 (.cons rfl .nil) rfl rfl rfl rfl (by decide) rfl) (by decide) ?_; clear hs hf a; rintro _ w ⟨b1, rfl, hs⟩ a hf
      refine vL hf (v_accN (e := 3) (R := []) (o := oa) hf 1 hs (by simp) hoa AP27 (enc := encI) (l := outL s9 k) (l' := [((k : Nat) : Int)]) (fun _ => rfl) (by decide) (by intro x v hv9; rw [List.mem_singleton.1 hv9]; rfl) rfl rfl rfl (rd_one rfl (hs.own _ _ (.head _)).2) (by omega) (by decide)) (by decide) ?_; clear hs hf a; rintro _ w ⟨oa2, rfl, hoa2, hs⟩ a hf; dsimp only [List.take, List.cons_append, List.nil_append] at hs; rw [List.append_nil] at hs
      rw [show (outL s9 k).length + 1 = (outL s9 (k + 1)).length by rw [out_yes hc2, List.length_append]; rfl] at hf; rw [← out_yes hc2] at hoa2
      refine gL hf (g_as hf rfl) (by decide) ?_; clear hf a; intro a hf
      refine e_nil1 (q_blkN (q_thenN ?_))
      refine c_reg1 ?_
      refine gL hf (g_mv hf rfl) (by decide) ?_; clear hf a; intro a hf
      refine gL hf (g_addI hf rfl rfl (by omega)) (by decide) ?_; clear hf a; intro a hf
      refine gL hf (g_as hf rfl) (by decide) ?_; clear hf a; intro a hf
      refine e_nil1 (q_thenN ?_)
      first | exact ⟨(k + 1, oa2), ⟨by dsimp only; omega, hoa2⟩, (by dsimp only; omega), hf.back (by repeat (first | (with_reducible exact Ext.base) | ((with_reducible refine Ext.cons ?_ ?_); (· rfl)) | ((with_reducible refine Ext.over ?_ ?_ ?_); (· rfl); (· rfl)))) (allKeys rfl) (.cons rfl (.cons rfl .nil)), (by first | exact hs.dropN 1 | exact hs.dropN 0)⟩ | exact ⟨(k + 1, oa), ⟨by dsimp only; omega, by dsimp only; rw [out_no hc2]; exact hoa⟩, (by dsimp only; omega), hf.back (by repeat (first | (with_reducible exact Ext.base) | ((with_reducible refine Ext.cons ?_ ?_); (· rfl)) | ((with_reducible refine Ext.over ?_ ?_ ?_); (· rfl); (· rfl)))) (allKeys rfl) (.cons rfl (.cons rfl .nil)), (by first | exact hs.dropN 1 | exact hs.dropN 0)⟩
    · skip
      have hc2 : bitI s9 k = false := hc2
      rw [← out_no hc2] at hf
      refine c_skip (q_blkN (q_thenN ?_))
      refine c_reg1 ?_
      refine gL hf (g_mv hf rfl) (by decide) ?_; clear hf a; intro a hf
      refine gL hf (g_addI hf rfl rfl (by omega)) (by decide) ?_; clear hf a; intro a hf
      refine gL hf (g_as hf rfl) (by decide) ?_; clear hf a; intro a hf
      refine e_nil1 (q_thenN ?_)
      first | exact ⟨(k + 1, oa2), ⟨by dsimp only; omega, hoa2⟩, (by dsimp only; omega), hf.back (by repeat (first | (with_reducible exact Ext.base) | ((with_reducible refine Ext.cons ?_ ?_); (· rfl)) | ((with_reducible refine Ext.over ?_ ?_ ?_); (· rfl); (· rfl)))) (allKeys rfl) (.cons rfl (.cons rfl .nil)), (by first | exact hs.dropN 1 | exact hs.dropN 0)⟩ | exact ⟨(k + 1, oa), ⟨by dsimp only; omega, by dsimp only; rw [out_no hc2]; exact hoa⟩, (by dsimp only; omega), hf.back (by repeat (first | (with_reducible exact Ext.base) | ((with_reducible refine Ext.cons ?_ ?_); (· rfl)) | ((with_reducible refine Ext.over ?_ ?_ ?_); (· rfl); (· rfl)))) (allKeys rfl) (.cons rfl (.cons rfl .nil)), (by first | exact hs.dropN 1 | exact hs.dropN 0)⟩
  · try simp only [decide_eq_true_eq, decide_eq_false_iff_not] at hc1
    obtain rfl : k = n := by omega
    have hn1 : ∀ q, oa = some q → w0.heap.size ≤ q.1 := fun q e => by subst e; exact (hs.own _ _ (.head _)).1
    obtain ⟨A3, c3, e3, hl3, hs⟩ := hs.freeze (R := []) (e := 3) (o := oa) (enc := encI) (sz := 1) 0 (by simp) hoa (fun _ => rfl) (by decide)
    have hA3 := acc_new hn1 e3
    rw [e3] at hf
    refine c_exit (q_thenX (q_thenX (q_blkX (q_thenN ?_))))
    refine c_reg ?_
    refine gL hf (g_mv hf rfl) (by decide) ?_; clear hf a; intro a hf
    refine gL hf (g_as hf rfl) (by decide) ?_; clear hf a; intro a hf
    refine e_nil ?_
    refine c_ret ?_
    refine e_ret1 hf rfl rfl ?_
    exact ⟨_, rfl, hs.below, A3, c3, rfl, hl3, hs.rd (.head _), hA3⟩

end Go.Proofs.YtpjhffockmnjbaaDoor
set_option linter.unusedVariables false
set_option linter.unusedSimpArgs false
namespace Go.Proofs.YtpjhffockmnjbaaDoor
open Go.RowKit
section
variable {P : Program} {ds : List Deferred} {a : Act} {n : Nat} {L : Regs} {w w' : World} {t : TypeId} {w0 : Base} {Ds : List (World → Prop)} {H : Own}
theorem St.adopt2 (hs : St w0 Ds H w) (hb : Below w.heap.size w w') {b c : Nat} {o u : Obj} (h1 : w.heap.size ≤ b) (h2 : w'.heap[b]? = some o) (k1 : w.heap.size ≤ c) (k2 : w'.heap[c]? = some u) (hne : b ≠ c) : St w0 Ds ((b, o) :: (c, u) :: H) w' := by
  have h3 := hs.call hb
  refine ⟨h3.below, fun d v hc => ?_, ?_, fun D hD => ?_⟩
  · rcases List.mem_cons.1 hc with e | hc
    · cases e; exact ⟨w0.new _ hs.below _ h1, h2⟩
    · rcases List.mem_cons.1 hc with e | hc
      · cases e; exact ⟨w0.new _ hs.below _ k1, k2⟩
      · exact h3.own d v hc
  · simp only [ids, List.map_cons, List.nodup_cons, List.mem_cons, not_or]
    exact ⟨⟨hne, fun h => absurd (hs.lt' h) (by omega)⟩, fun h => absurd (hs.lt' h) (by omega), hs.nodup⟩
  · refine ((hs.data D hD).more (ids' := w0.ex ++ b :: c :: ids H) fun i hi hl => ?_).later (later_of_below hb _)
    simp only [List.mem_append, List.mem_cons] at hi ⊢
    rcases hi with h | h | h | h
    · exact .inl h
    · omega
    · omega
    · exact .inr h
theorem g_ixOc (hf : Fr ds a n L) {ts e : TypeId} {sz : Nat} (hT : SlT P ts e sz) {x y : Operand} {b off off' len c : Nat} {k : IntKind} {i : Int} (hx : ev L x = some (.slice (some ⟨b, off, none⟩) len c)) (hy : ev L y = some (.int k i)) (h : 0 ≤ i ∧ i < len) (ho : off + i.toNat * sz = off') :
    Gets P (.indexAddr ts x y) t a w (.pointer (some ⟨b, off', none⟩)) := ho ▸ g_ixO hf hT hx hy h
theorem g_ixAD (hf : Fr ds a n L) (hs : St w0 Ds H w) {α : Type} {enc : α → List Value} {sz : Nat} {A : Option Addr} {len : Nat} {l : List α} (hD : Rd enc sz A len l ∈ Ds) {ts e : TypeId} {al es : Nat} (hT : ArT P ts e al es) {x y : Operand} {i j j' : Nat} {k : IntKind} {c : Int} (hx : ev L x = some (eptr A i sz j)) (hy : ev L y = some (.int k c)) (h : 0 ≤ c ∧ c < al) (hn : 0 < len) (ho : j + c.toNat * es = j') :
    Gets P (.indexAddr ts x y) t a w (eptr A i sz j') := by
  obtain ⟨b, o, rfl, _⟩ := (hs.rd hD).2.2 hn
  have hx' : ev L x = some (.pointer (some ⟨b, o + (i * sz + j), none⟩)) := by
    rw [hx]; simp [eptr, sptr, add_own]
  have := g_ixA (t := t) (w := w) hf hT hx' hy h
  have e2 : eptr (some ⟨b, o, none⟩) i sz j' = .pointer (some ⟨b, o + (i * sz + j) + c.toNat * es, none⟩) := by
    simp only [eptr, sptr, Option.map_some, add_own]
    rw [← ho]
    simp only [Nat.add_assoc]
  rw [e2]
  exact this
end
/-! ### Sheets that are not valid -/
section
variable {b : Sheet} (h : checkB b = false)
include h
theorem bad_ask (ok : Bool) : askE b ok = 40 := by simp [askE, h]
theorem bad_meet (i j : Int) : meetP b i j = (0, 40) := by simp [meetP, bad_ask h]
theorem bad_order : orderP b = ([], 40) := by simp [orderP, bad_ask h]
theorem bad_count : countP b = (0, 40) := by simp [countP, bad_ask h]
theorem bad_ring : ringP b = ([], 40) := by simp [ringP, bad_ask h]
theorem bad_round : roundP b = (0, 40) := by simp [roundP, bad_ask h]
theorem bad_short (i : Int) : shorterP b i = (0, 40) := by simp [shorterP, bad_ask h]
theorem bad_drop : dropP b = ([], 40) := by simp [dropP, bad_ask h]
end
def kF (f0 f1 f2 : Flap) : List Flap := [f0, f1, f2, ⟨3, 2, 2, 8, 9⟩]
def kSheets : List Sheet := [⟨0, 0, [], []⟩, { chapB 5 6 with wide := 100 }, { chapB 5 6 with flaps := kF ⟨4, 5, 6, 0, 7⟩ ⟨1, 4, 5, 0, 7⟩ ⟨2, 3, 3, 2, 7⟩ }, chapB 5 11,
  { chapB 5 6 with flaps := kF ⟨0, 5, 6, 0, 7⟩ ⟨1, 4, 5, 0, 7⟩ ⟨2, 3, 9, 2, 7⟩ }, { chapB 5 6 with flaps := kF ⟨0, 5, 6, 0, 7⟩ ⟨1, 4, 5, 0, 8⟩ ⟨2, 3, 3, 2, 7⟩ }, { chapB 5 6 with flaps := kF ⟨0, 5, 6, 0, 7⟩ ⟨1, 0, 5, 0, 7⟩ ⟨2, 3, 3, 2, 7⟩ },
  { chapB 5 6 with rules := [⟨0, 0⟩, ⟨2, 1⟩, ⟨0, 2⟩, ⟨3, 1⟩] }, { chapB 5 6 with rules := [⟨1, 4⟩, ⟨2, 1⟩, ⟨0, 2⟩, ⟨3, 1⟩] }, { chapB 5 6 with rules := (chapB 5 6).rules ++ [⟨2, 1⟩] }, { chapB 5 6 with flaps := (chapB 5 6).flaps ++ (chapB 5 6).flaps }]
def kB (i : Nat) : Sheet := kSheets.getD i default
theorem k_bad : ∀ i, i < 11 → checkB (kB i) = false := by decide +kernel
/-- A row of sheets, as it lies in memory. -/
def encS (fA : Nat → Option Addr) (fc : Nat → Nat) (rA : Nat → Option Addr) (rc : Nat → Nat) (i : Nat) : List Value := [.int .i64 (kB i).wide, .int .i64 (kB i).high, .slice (fA i) (kB i).flaps.length (fc i), .slice (rA i) (kB i).rules.length (rc i)]
def KSh (fA : Nat → Option Addr) (fc : Nat → Nat) (rA : Nat → Option Addr) (rc : Nat → Nat) : World → Prop := fun w => ∀ i, i < 11 → ShIn (kB i) (fA i) (fc i) (rA i) (rc i) w
theorem KSh.stable {fA : Nat → Option Addr} {fc : Nat → Nat} {rA : Nat → Option Addr} {rc : Nat → Nat} {w : World} (h : KSh fA fc rA rc w) : Stable [] w (KSh fA fc rA rc) := fun w' hw i hi =>
  ⟨(h i hi).F.stable (by simp) w' hw, (h i hi).R.stable (by simp) w' hw, (h i hi).fc_, (h i hi).rc_⟩
theorem range_get {i : Nat} (h : i < 11) : (List.range 11).getD i default = i := by
  rw [List.getD_eq_getElem?_getD, List.getElem?_range h]; rfl
def mtL : List (Int × Int × Int) := [(0, 1, 1), (0, 2, 2), (2, 1, 2), (3, 1, 2), (0, 3, 0), (2, 3, 0)]
def enc3 (t : Int × Int × Int) : List Value := [.int .i64 t.1, .int .i64 t.2.1, .int .i64 t.2.2]
theorem k_met : ∀ i, i < 6 → meetP (chapB 5 6) (mtL.getD i default).1 (mtL.getD i default).2.1 = ((mtL.getD i default).2.2, 0) := by decide +kernel
theorem k1 : meetP (chapB 5 6) 0 0 = (0, 41) := by decide +kernel
theorem k2 : meetP (chapB 5 6) 4 0 = (0, 41) := by decide +kernel
theorem k3 : doesP (chapB 5 6) [0, 1, 2] = (0, 41) := by decide +kernel
theorem k4 : doesP (chapB 5 6) [0, 1, 2, 2] = (0, 41) := by decide +kernel
theorem k5 : doesP (chapB 5 6) [0, 1, 2, 4] = (0, 41) := by decide +kernel
theorem k6 : shorterP (chapB 5 6) 4 = (0, 41) := by decide +kernel
theorem k7 : shorterP (chapB 5 6) 3 = (0, 4) := by decide +kernel
theorem k8 : roundP (chapB 5 6) = (0, 4) := by decide +kernel
theorem k9 : ringP (chapB 5 5) = ([], 4) := by decide +kernel
theorem k10 : doesP (chapB 5 6) [2, 0, 1, 3] = (0, 0) := by decide +kernel
theorem k11 : doesP (chapB 5 6) [0, 1, 2, 3] = (0, 0) := by decide +kernel
theorem k12 : doesP (chapB 5 5) [1, 3, 2, 0] = (2, 0) := by decide +kernel
theorem k13 : countP (chapB 5 6) = (0, 0) := by decide +kernel
theorem k14 : shorterP (chapB 5 6) 1 = (1, 0) := by decide +kernel
theorem k15 : shorterP (chapB 5 5) 1 = (0, 0) := by decide +kernel
theorem k16 : dropP (chapB 5 5) = ([], 0) := by decide +kernel
end Go.Proofs.YtpjhffockmnjbaaDoor
set_option linter.unusedVariables false
set_option linter.unusedSimpArgs false
namespace Go.Proofs.YtpjhffockmnjbaaDoor
open Go.RowKit
theorem c_isOrder0 (b : Sheet) (fA : Option Addr) (fc : Nat) (rA : Option Addr) (rc : Nat)  (w0 : World) (h : ShIn b fA fc rA rc w0) :
    Calls Tryd.prog 62 #[.agg #[.int .i64 b.wide, .int .i64 b.high, .slice fA b.flaps.length fc, .slice rA b.rules.length rc], .slice none 0 0] w0 (RetX w0 (fun v _ => ∃ t, v = .bool t)) := by
  refine c_enter (n := 36) Tryd.func62 rfl rfl (Nat.le_of_ble_eq_true rfl) ?_; intro a hf; simp only [zipR] at hf
  have hs := St.start w0 [Rd encF 5 fA b.flaps.length b.flaps, Rd encR 2 rA b.rules.length b.rules, Rd encI 1 none 0 []] (stab_app h.stab (show Rd encI 1 none 0 [] w0 from rd_nil).st1)
  have hfm := h.F.2.1; have hrm := h.R.2.1
  refine c_reg ?_
  refine vL hf (v_boxA hf hs rfl) (by decide) ?_; clear hs hf a; rintro _ w ⟨b1, rfl, hs⟩ a hf
  refine gL hf (g_as hf rfl) (by decide) ?_; clear hf a; intro a hf
  refine e_nil ?_
  refine wp_seq ?_
  refine c_reg ?_
  refine gL hf (g_mv hf rfl) (by decide) ?_; clear hf a; intro a hf
  refine gL hf (g_len hf SL27 rfl) (by decide) ?_; clear hf a; intro a hf
  refine gL hf (g_fa (off' := 2) hf F25_2 rfl rfl) (by decide) ?_; clear hf a; intro a hf
  refine gL hf (g_ld hf hs T22 rfl (k := 0) rfl rfl) (by decide) ?_; clear hf a; intro a hf
  refine gL hf (g_len hf SL22 rfl) (by decide) ?_; clear hf a; intro a hf
  refine gL hf (g_neq hf rfl rfl) (by decide) ?_; clear hf a; intro a hf
  refine e_nil ?_
  refine c_cond hf rfl (fun hc1 => ?_) (fun hc1 => ?_)
  · try simp only [decide_eq_true_eq, decide_eq_false_iff_not] at hc1
    refine c_reg ?_
    refine gL hf (g_as hf rfl) (by decide) ?_; clear hf a; intro a hf
    refine e_nil ?_
    refine c_ret (q_thenR ?_)
    refine e_ret1 hf rfl rfl ?_
    exact ⟨_, rfl, hs.below, _, rfl⟩
  · try simp only [decide_eq_true_eq, decide_eq_false_iff_not] at hc1
    refine c_skip (q_thenN ?_)
    refine c_reg ?_
    refine callL hf hs (c_none _) rfl rfl rfl E94 (by decide) ?_; clear hs hf a; intro w a hs hf
    refine vL hf (v_alloc hs T102 rfl) (by decide) ?_; clear hs hf a; rintro _ w ⟨b2, rfl, hs⟩ a hf
    refine uL (u_stW hf hs T102 rfl rfl rfl (k := 0) rfl rfl rfl) ?_; clear hs; intro w hs; dsimp only [List.set] at hs
    refine e_nil ?_
    refine wp_seq ?_
    refine c_reg ?_
    refine gL hf (g_mv hf rfl) (by decide) ?_; clear hf a; intro a hf
    refine gL hf (g_len hf SL27 rfl) (by decide) ?_; clear hf a; intro a hf
    refine gL hf (g_mv hf rfl) (by decide) ?_; clear hf a; intro a hf
    refine e_nil ?_
    refine c_block ?_
    refine c_loop hf hs [4, 7, 17, 18, 19, 20, 21, 22, 23, 24, 25, 26, 27, 28, 29, 30, 31, 32] (σ := Nat) (fun k => [(17, .int .i64 (k : Nat))]) (fun k => _) (fun k => k = 0) (fun k => 0) 0 rfl (.cons rfl .nil) rfl ?_
    intro k a w hJ hf hs
    subst hJ
    refine c_reg ?_
    refine gL hf (g_lss hf rfl rfl) (by decide) ?_; clear hf a; intro a hf
    refine e_nil ?_
    refine c_condS hf rfl (fun hc2 => ?_) (fun hc2 => ?_)
    · skip
      simp at hc2
    · skip
      refine c_exit (q_thenX (q_thenX (q_blkX (q_thenN ?_))))
      refine c_draw _ 4 Mx rfl hs (fun _ h => h) ?_; intro w hs hS
      refine gA hf hS (i := 0) rfl (by kernel_rfl) (fun w hs => g_ldW hf hs T102 rfl (k := 0) rfl rfl) (by decide) ?_; clear hf a; intro a hf
      refine one (i := 1) (by kernel_rfl) ?_
      refine oCall hf hs rfl (c_none _) rfl rfl rfl E94 (by decide) (fun _ h => h.sub (.refl _)) ?_; clear hs hf hS a; intro w a hs hS hf
      refine gA hf hS (i := 2) rfl (by kernel_rfl) (fun w hs => g_neN hf NN102 (show (List.replicate 7 false).length = 7 from rfl) rfl rfl) (by decide) ?_; clear hf a; intro a hf
      refine gA hf hS (i := 3) rfl (by kernel_rfl) (fun w hs => g_as hf rfl) (by decide) ?_; clear hf a; intro a hf
      refine e_done (by kernel_rfl) ?_
      refine c_ret ?_
      refine e_ret1 hf rfl rfl ?_
      exact ⟨_, rfl, hs.below, _, rfl⟩

theorem c_Does0 (b : Sheet) (fA : Option Addr) (fc : Nat) (rA : Option Addr) (rc : Nat) (ge : TypeId) (gz : Nat × Nat) (hck : checkB b = false) (w0 : World) (h : ShIn b fA fc rA rc w0) (hG : BlkIs 0 sidesA ge gz w0) :
    Calls Tryd.prog 19 #[.agg #[.int .i64 b.wide, .int .i64 b.high, .slice fA b.flaps.length fc, .slice rA b.rules.length rc], .slice none 0 0] w0 (Ret w0 (.tuple #[.int .i64 0, .int .i64 40])) := by
  refine c_enter (n := 53) Tryd.func19 rfl rfl (Nat.le_of_ble_eq_true rfl) ?_; intro a hf; simp only [zipR] at hf
  have hs := St.start w0 [Rd encF 5 fA b.flaps.length b.flaps, Rd encR 2 rA b.rules.length b.rules, BlkIs 0 sidesA ge gz] (stab_app h.stab hG.st1)
  have hfm := h.F.2.1; have hrm := h.R.2.1
  refine c_reg ?_
  refine vL hf (v_boxA hf hs rfl) (by decide) ?_; clear hs hf a; rintro _ w ⟨b1, rfl, hs⟩ a hf
  refine gL hf (g_as hf rfl) (by decide) ?_; clear hf a; intro a hf
  refine gL hf (g_as hf rfl) (by decide) ?_; clear hf a; intro a hf
  refine e_nil ?_
  refine c_draw _ 11 Mx rfl hs (fun _ h => h) ?_; intro w hs hS
  refine gA hf hS (i := 0) rfl (by kernel_rfl) (fun w hs => g_ldW hf hs T25 rfl (k := 0) rfl rfl) (by decide) ?_; clear hf a; intro a hf
  refine gA hf hS (i := 1) rfl (by kernel_rfl) (fun w hs => g_ldW hf hs T25 rfl (k := 0) rfl rfl) (by decide) ?_; clear hf a; intro a hf
  refine gA hf hS (i := 2) rfl (by kernel_rfl) (fun w hs => g_mv hf rfl) (by decide) ?_; clear hf a; intro a hf
  refine two (i := 3) (j := 8) (by kernel_rfl) ?_ ?_
  · skip
    refine oCallX hf hs rfl (c_isOrder0 b _ _ _ _ _ ⟨hs.rd (.head _), hs.rd (.tail _ (.head _)), h.fc_, h.rc_⟩) rfl rfl rfl E62 (by decide) (fun _ h => h.sub (.refl _)) ?_; intro v w1 a hR hb hs1 hS hf; obtain ⟨t9, rfl⟩ := hR; replace hs := hs1; clear hs1 hb
    refine two (i := 4) (j := 8) (by kernel_rfl) ?_ ?_
    · skip
      refine oCallX hf hs rfl (c_asked b _ _ _ _ _ _ t9 _ ⟨hs.rd (.head _), hs.rd (.tail _ (.head _)), h.fc_, h.rc_⟩ (hs.rd (.tail _ (.tail _ (.head _))))) rfl rfl rfl E54 (by decide) (fun _ h => h.sub (.refl _)) ?_; intro v w1 a hR hb hs1 hS hf; obtain ⟨cs, mb, mp, rfl, hcl, hcp, hcm⟩ := hR; replace hs := hs.fresh hs1 (condFresh fun he => (hcm he).2.2); clear hs1 hb
      refine gA hf hS (i := 5) rfl (by kernel_rfl) (fun w hs => g_mv hf rfl) (by decide) ?_; clear hf a; intro a hf
      refine gA hf hS (i := 6) rfl (by kernel_rfl) (fun w hs => g_ext hf rfl rfl) (by decide) ?_; clear hf a; intro a hf
      refine gA hf hS (i := 7) rfl (by kernel_rfl) (fun w hs => g_ext hf rfl rfl) (by decide) ?_; clear hf a; intro a hf
      refine one (i := 8) (by kernel_rfl) ?_
      refine oV hf rfl (v_alloc hs T69 rfl) (by decide) (fun _ _ ⟨_, _, h⟩ => (h.sub (.cons _ (.refl _))).subD (fun _ h => (.tail _ h))) ?_; clear hs hf hS a; rintro _ w ⟨b2, rfl, hs⟩ hS a hf
      refine one (i := 9) (by kernel_rfl) ?_
      refine oU rfl (u_stW hf hs T69 rfl rfl hcp (k := 0) rfl hcl hcl) (fun _ h => (h.sub (.cons _ (.refl _))).subD (fun _ h => (.tail _ h))) ?_; clear hs hS; intro w hs hS; dsimp only [List.set] at hs
      refine gA hf hS (i := 10) rfl (by kernel_rfl) (fun w hs => g_as hf rfl) (by decide) ?_; clear hf a; intro a hf
      refine e_done (by kernel_rfl) ?_
      refine wp_seq ?_
      refine c_reg ?_
      refine gL hf (g_mv hf rfl) (by decide) ?_; clear hf a; intro a hf
      refine gL hf (g_neq hf rfl rfl) (by decide) ?_; clear hf a; intro a hf
      refine e_nil ?_
      refine c_cond hf rfl (fun hc1 => ?_) (fun hc1 => ?_)
      · skip
        have hb40 := bad_ask hck t9
        refine c_reg ?_
        refine gL hf (g_mv hf rfl) (by decide) ?_; clear hf a; intro a hf
        refine gL hf (g_as hf rfl) (by decide) ?_; clear hf a; intro a hf
        refine gL hf (g_as hf rfl) (by decide) ?_; clear hf a; intro a hf
        refine e_nil ?_
        refine c_ret (q_thenR ?_)
        refine e_ret2 hf rfl rfl rfl ?_
        exact ⟨by rw [hb40]; rfl, hs.below⟩
      · skip
        rw [bad_ask hck] at hc1; cases hc1
    · skip
      refine oV hf rfl (v_alloc hs T69 rfl) (by decide) (fun _ _ ⟨_, _, h⟩ => h.sub (.cons _ (.refl _))) ?_; clear hs hf hS a; rintro _ w ⟨b2, rfl, hs⟩ hS a hf
      refine one (i := 4) (by kernel_rfl) ?_
      refine oCallX hf hs rfl (c_asked b _ _ _ _ _ _ t9 _ ⟨hs.rd (.head _), hs.rd (.tail _ (.head _)), h.fc_, h.rc_⟩ (hs.rd (.tail _ (.tail _ (.head _))))) rfl rfl rfl E54 (by decide) (fun _ h => h.sub (.cons _ (.refl _))) ?_; intro v w1 a hR hb hs1 hS hf; obtain ⟨cs, mb, mp, rfl, hcl, hcp, hcm⟩ := hR; replace hs := hs.fresh hs1 (condFresh fun he => (hcm he).2.2); clear hs1 hb
      refine gA hf hS (i := 5) rfl (by kernel_rfl) (fun w hs => g_mv hf rfl) (by decide) ?_; clear hf a; intro a hf
      refine gA hf hS (i := 6) rfl (by kernel_rfl) (fun w hs => g_ext hf rfl rfl) (by decide) ?_; clear hf a; intro a hf
      refine gA hf hS (i := 7) rfl (by kernel_rfl) (fun w hs => g_ext hf rfl rfl) (by decide) ?_; clear hf a; intro a hf
      refine one (i := 9) (by kernel_rfl) ?_
      refine oU rfl (u_stW hf hs T69 rfl rfl hcp (k := 0) rfl hcl hcl) (fun _ h => (h.sub (.cons _ (.refl _))).subD (fun _ h => (.tail _ h))) ?_; clear hs hS; intro w hs hS; dsimp only [List.set] at hs
      refine gA hf hS (i := 10) rfl (by kernel_rfl) (fun w hs => g_as hf rfl) (by decide) ?_; clear hf a; intro a hf
      refine e_done (by kernel_rfl) ?_
      refine wp_seq ?_
      refine c_reg ?_
      refine gL hf (g_mv hf rfl) (by decide) ?_; clear hf a; intro a hf
      refine gL hf (g_neq hf rfl rfl) (by decide) ?_; clear hf a; intro a hf
      refine e_nil ?_
      refine c_cond hf rfl (fun hc1 => ?_) (fun hc1 => ?_)
      · skip
        have hb40 := bad_ask hck t9
        refine c_reg ?_
        refine gL hf (g_mv hf rfl) (by decide) ?_; clear hf a; intro a hf
        refine gL hf (g_as hf rfl) (by decide) ?_; clear hf a; intro a hf
        refine gL hf (g_as hf rfl) (by decide) ?_; clear hf a; intro a hf
        refine e_nil ?_
        refine c_ret (q_thenR ?_)
        refine e_ret2 hf rfl rfl rfl ?_
        exact ⟨by rw [hb40]; rfl, hs.below⟩
      · skip
        rw [bad_ask hck] at hc1; cases hc1
  · skip
    refine oV hf rfl (v_alloc hs T69 rfl) (by decide) (fun _ _ ⟨_, _, h⟩ => h.sub (.cons _ (.refl _))) ?_; clear hs hf hS a; rintro _ w ⟨b2, rfl, hs⟩ hS a hf
    refine one (i := 3) (by kernel_rfl) ?_
    refine oCallX hf hs rfl (c_isOrder0 b _ _ _ _ _ ⟨hs.rd (.head _), hs.rd (.tail _ (.head _)), h.fc_, h.rc_⟩) rfl rfl rfl E62 (by decide) (fun _ h => h.sub (.cons _ (.refl _))) ?_; intro v w1 a hR hb hs1 hS hf; obtain ⟨t9, rfl⟩ := hR; replace hs := hs1; clear hs1 hb
    refine one (i := 4) (by kernel_rfl) ?_
    refine oCallX hf hs rfl (c_asked b _ _ _ _ _ _ t9 _ ⟨hs.rd (.head _), hs.rd (.tail _ (.head _)), h.fc_, h.rc_⟩ (hs.rd (.tail _ (.tail _ (.head _))))) rfl rfl rfl E54 (by decide) (fun _ h => h.sub (.cons _ (.refl _))) ?_; intro v w1 a hR hb hs1 hS hf; obtain ⟨cs, mb, mp, rfl, hcl, hcp, hcm⟩ := hR; replace hs := hs.fresh hs1 (condFresh fun he => (hcm he).2.2); clear hs1 hb
    refine gA hf hS (i := 5) rfl (by kernel_rfl) (fun w hs => g_mv hf rfl) (by decide) ?_; clear hf a; intro a hf
    refine gA hf hS (i := 6) rfl (by kernel_rfl) (fun w hs => g_ext hf rfl rfl) (by decide) ?_; clear hf a; intro a hf
    refine gA hf hS (i := 7) rfl (by kernel_rfl) (fun w hs => g_ext hf rfl rfl) (by decide) ?_; clear hf a; intro a hf
    refine one (i := 9) (by kernel_rfl) ?_
    refine oU rfl (u_stW hf hs T69 rfl rfl hcp (k := 0) rfl hcl hcl) (fun _ h => (h.sub (.cons _ (.refl _))).subD (fun _ h => (.tail _ h))) ?_; clear hs hS; intro w hs hS; dsimp only [List.set] at hs
    refine gA hf hS (i := 10) rfl (by kernel_rfl) (fun w hs => g_as hf rfl) (by decide) ?_; clear hf a; intro a hf
    refine e_done (by kernel_rfl) ?_
    refine wp_seq ?_
    refine c_reg ?_
    refine gL hf (g_mv hf rfl) (by decide) ?_; clear hf a; intro a hf
    refine gL hf (g_neq hf rfl rfl) (by decide) ?_; clear hf a; intro a hf
    refine e_nil ?_
    refine c_cond hf rfl (fun hc1 => ?_) (fun hc1 => ?_)
    · skip
      have hb40 := bad_ask hck t9
      refine c_reg ?_
      refine gL hf (g_mv hf rfl) (by decide) ?_; clear hf a; intro a hf
      refine gL hf (g_as hf rfl) (by decide) ?_; clear hf a; intro a hf
      refine gL hf (g_as hf rfl) (by decide) ?_; clear hf a; intro a hf
      refine e_nil ?_
      refine c_ret (q_thenR ?_)
      refine e_ret2 hf rfl rfl rfl ?_
      exact ⟨by rw [hb40]; rfl, hs.below⟩
    · skip
      rw [bad_ask hck] at hc1; cases hc1

end Go.Proofs.YtpjhffockmnjbaaDoor
set_option linter.unusedVariables false
set_option linter.unusedSimpArgs false
namespace Go.Proofs.YtpjhffockmnjbaaDoor
theorem meetB_touch {b : Sheet} (hv : Valid b) {i j : Int} (hi : inN b i) (hj : inN b j) : meetB b i.toNat j.toNat true = touchB b i j true := by
  have h1 := hv.flap _ (flap_ok hv hi); have h2 := hv.flap _ (flap_ok hv hj)
  have a1 := area_ok hv (flap_ok hv hi) (r := (flapA b i).rh) h1.2.2.2.1 (Int.le_refl _)
  have a2 := area_ok hv (flap_ok hv hj) (r := (flapA b j).rh) h2.2.2.2.1 (Int.le_refl _)
  have e1 : meetB b i.toNat j.toNat true = ((!decide (min (colHi b (flapA b i) (flapA b i).rh) (colHi b (flapA b j) (flapA b j).rh) < max (colLo b (flapA b i) (flapA b i).rh) (colLo b (flapA b j) (flapA b j).rh))) && (!decide (min (rowHi b (flapA b i) (flapA b i).rh) (rowHi b (flapA b j) (flapA b j).rh) < max (rowLo b (flapA b i) (flapA b i).rh) (rowLo b (flapA b j) (flapA b j).rh)))) := rfl
  rw [e1, touch_hit]
  simp only [farF, if_true]
  rw [Bool.eq_iff_iff, hit_iff]
  simp only [Bool.and_eq_true, Bool.not_eq_true', decide_eq_false_iff_not]
  generalize colHi b (flapA b i) (flapA b i).rh = p1 at *
  generalize colHi b (flapA b j) (flapA b j).rh = p2 at *
  generalize colLo b (flapA b i) (flapA b i).rh = p3 at *
  generalize colLo b (flapA b j) (flapA b j).rh = p4 at *
  generalize rowHi b (flapA b i) (flapA b i).rh = q1 at *
  generalize rowHi b (flapA b j) (flapA b j).rh = q2 at *
  generalize rowLo b (flapA b i) (flapA b i).rh = q3 at *
  generalize rowLo b (flapA b j) (flapA b j).rh = q4 at *
  omega
theorem overB_overP {b : Sheet} (hv : Valid b) (i j : Int) : overB b i j true = overP b i j := by
  rw [Bool.eq_iff_iff, overP_iff]
  simp only [overB, Bool.and_eq_true, List.any_eq_true, beq_iff_eq]
  constructor
  · rintro ⟨⟨r, hr, rfl, rfl⟩, hm⟩
    have hi := rule_in hv hr
    rw [meetB_touch hv hi.1 hi.2] at hm
    refine ⟨?_, r, hr, rfl, rfl⟩
    rw [cell_eq hv hi.1 hi.2 (hv.rule r hr).2.2.2.2]
    split
    · omega
    · first | omega | (rw [if_pos hm]; omega)
  · rintro ⟨hc, r, hr, rfl, rfl⟩
    have hi := rule_in hv hr
    refine ⟨⟨r, hr, rfl, rfl⟩, ?_⟩
    rw [meetB_touch hv hi.1 hi.2]
    rw [cell_eq hv hi.1 hi.2 (hv.rule r hr).2.2.2.2] at hc
    split at hc
    · rename_i h; exact touch_mono hv hi.1 hi.2 h
    · split at hc
      · rename_i h; exact h
      · omega
/-! ### Rings -/
theorem rings_app (b : Sheet) : ∀ (k : Nat) (r : List Int), ∀ s ∈ ringsL b k r, ∃ t, s = r ++ t
  | 0, r, s, h => by cases h
  | k + 1, r, s, h => by
    simp only [ringsL, List.mem_append, List.mem_flatMap] at h
    rcases h with h | ⟨i, _, h⟩
    · split at h
      · exact ⟨[], by rw [List.mem_singleton.1 h]; simp⟩
      · cases h
    · split at h
      · obtain ⟨t, rfl⟩ := rings_app b k _ s h
        exact ⟨((i : Nat) : Int) :: t, by simp⟩
      · cases h
theorem earlier_ext : ∀ (p : List Int) (x : Int) (t : List Int), earlierB p (p ++ x :: t) = true
  | [], _, _ => rfl
  | y :: p, x, t => by simp only [List.cons_append, earlierB, if_true]; exact earlier_ext p x t
theorem rings_sorted (b : Sheet) : ∀ (k : Nat) (r : List Int), (ringsL b k r).Pairwise fun x y => earlierB x y = true
  | 0, r => by simp [ringsL]
  | k + 1, r => by
    simp only [ringsL]
    rw [List.pairwise_append]
    refine ⟨by split <;> simp, ?_, fun x hx y hy => ?_⟩
    · rw [List.pairwise_flatMap]
      refine ⟨fun i _ => ?_, ?_⟩
      · split
        · exact rings_sorted b k _
        · simp
      · rw [List.pairwise_iff_getElem]
        intro i j hi hj hij x hx y hy
        simp only [List.getElem_range] at hx hy
        split at hx
        · split at hy
          · obtain ⟨s, rfl⟩ := rings_app b k _ x hx
            obtain ⟨t, rfl⟩ := rings_app b k _ y hy
            have := earlier_app r (x := ((i : Nat) : Int)) (y := ((j : Nat) : Int)) (by omega) s t
            simpa using this
          · cases hy
        · cases hx
    · split at hx
      · rw [List.mem_singleton.1 hx]
        obtain ⟨i, _, hy⟩ := List.mem_flatMap.1 hy
        split at hy
        · obtain ⟨t, rfl⟩ := rings_app b k _ y hy
          have := earlier_ext r ((i : Nat) : Int) t
          simpa using this
        · cases hy
      · cases hx
theorem allR_sorted (b : Sheet) : (allR b).Pairwise fun x y => earlierB x y = true := by
  unfold allR
  rw [List.pairwise_flatMap]
  refine ⟨fun i _ => rings_sorted b 8 _, ?_⟩
  rw [List.pairwise_iff_getElem]
  intro i j hi hj hij x hx y hy
  simp only [List.getElem_range] at hx hy
  obtain ⟨s, rfl⟩ := rings_app b 8 _ x hx
  obtain ⟨t, rfl⟩ := rings_app b 8 _ y hy
  have := earlier_app [] (x := ((i : Nat) : Int)) (y := ((j : Nat) : Int)) (by omega) s t
  simpa using this
/-- How the specification chooses. -/
def pickE (best : Option (List Int)) (r : List Int) : Option (List Int) := if (best.isNone || decide (r.length < (best.getD []).length) || (decide (r.length = (best.getD []).length) && earlierB r (best.getD []))) = true then some r else best
theorem pickE_eq : ∀ (L : List (List Int)) (o : Option (List Int)), L.Pairwise (fun x y => earlierB x y = true) → (∀ l, o = some l → ∀ s ∈ L, earlierB l s = true) → L.foldl pickE o = L.foldl pickR o
  | [], _, _, _ => rfl
  | s :: L, o, hs, ho => by
    have h1 : pickE o s = pickR o s := by
      unfold pickE pickR ringLt
      cases o with
      | none => rfl
      | some l =>
        have := earlier_asymm (ho l rfl s (.head _))
        simp only [Option.isNone_some, Option.getD_some, Bool.false_or, this, Bool.and_false, Bool.or_false]
    rw [List.foldl_cons, List.foldl_cons, h1]
    refine pickE_eq L _ (List.Pairwise.of_cons hs) fun l hl t ht => ?_
    unfold pickR at hl
    split at hl
    · cases hl; exact List.rel_of_pairwise_cons hs ht
    · exact ho l hl t (.tail _ ht)
def ringO (b : Sheet) : Option (List Int) := (allR b).foldl pickE none
theorem ringO_eq (b : Sheet) : ringO b = (allR b).foldl pickR none := pickE_eq _ _ (allR_sorted b) (fun l h => by cases h)
theorem ringO_ring {b : Sheet} (hck : checkB b = true) : ringP b = match ringO b with | some l => (l, 0) | none => ([], 4) := by
  rw [ringO_eq]; exact ringP_eq hck
theorem ringO_folds {b : Sheet} (hv : Valid b) : (ringO b).isNone = foldsP b := by
  have h := ringO_ring (valid_check hv)
  have h2 := folds_iff hv
  unfold foldsP
  cases ho : ringO b with
  | none =>
    rw [ringO_eq] at ho
    have hn : ∀ s, ¬ Ring b s := fun s hs => by
      have := (mem_allR hv).2 hs
      rw [pick_none ho] at this; cases this
    rw [decide_eq_true (h2.2 hn)]; rfl
  | some l =>
    rw [ringO_eq] at ho
    obtain ⟨h3, _⟩ := pick_min _ _ _ ho
    rcases h3 with h3 | h3
    · cases h3
    · have hr := (mem_allR hv).1 h3
      have : ¬ allO b ≠ [] := fun h => (h2.1 h) l hr
      rw [decide_eq_false this]; rfl
theorem ringO_pos {b : Sheet} (hv : Valid b) {l : List Int} (h : ringO b = some l) : l ≠ [] := by
  rw [ringO_eq] at h
  obtain ⟨h3, _⟩ := pick_min _ _ _ h
  rcases h3 with h3 | h3
  · cases h3
  · exact ((mem_allR hv).1 h3).ne
/-! ### Orders -/
theorem sorted_eq : ∀ {l m : List (List Int)}, l.Pairwise (fun x y => earlierB x y = true) → m.Pairwise (fun x y => earlierB x y = true) → (∀ x, x ∈ l ↔ x ∈ m) → l = m
  | [], [], _, _, _ => rfl
  | [], y :: m, _, _, h => by have := (h y).2 (.head _); cases this
  | x :: l, [], _, _, h => by have := (h x).1 (.head _); cases this
  | x :: l, y :: m, hl, hm, h => by
    have e : x = y := by
      rcases List.mem_cons.1 ((h x).1 (.head _)) with e | hx
      · exact e
      · rcases List.mem_cons.1 ((h y).2 (.head _)) with e | hy
        · exact e.symm
        · have h1 := List.rel_of_pairwise_cons hm hx
          have h2 := List.rel_of_pairwise_cons hl hy
          rw [earlier_asymm h1] at h2; cases h2
    subst e
    congr 1
    refine sorted_eq (List.Pairwise.of_cons hl) (List.Pairwise.of_cons hm) fun z => ?_
    constructor
    · intro hz
      rcases List.mem_cons.1 ((h z).1 (.tail _ hz)) with e | h'
      · subst e; have := List.rel_of_pairwise_cons hl hz; rw [earlier_self] at this; cases this
      · exact h'
    · intro hz
      rcases List.mem_cons.1 ((h z).2 (.tail _ hz)) with e | h'
      · subst e; have := List.rel_of_pairwise_cons hm hz; rw [earlier_self] at this; cases this
      · exact h'
/-- The specification's orders. -/
def ordsR (b : Sheet) : Nat → List Int → List (List Int)
  | 0, p => if p.length = b.flaps.length then [p] else []
  | k + 1, p => if p.length = b.flaps.length then [p] else (List.range b.flaps.length).flatMap fun i => if (!decide (((i : Nat) : Int) ∈ p) && doesB b (p ++ [((i : Nat) : Int)]) true) = true then ordsR b k (p ++ [((i : Nat) : Int)]) else []
theorem ordsR_app (b : Sheet) : ∀ (k : Nat) (p : List Int), ∀ s ∈ ordsR b k p, ∃ t, s = p ++ t
  | 0, p, s, h => by
    simp only [ordsR] at h
    split at h
    · exact ⟨[], by rw [List.mem_singleton.1 h]; simp⟩
    · cases h
  | k + 1, p, s, h => by
    simp only [ordsR] at h
    split at h
    · exact ⟨[], by rw [List.mem_singleton.1 h]; simp⟩
    · obtain ⟨i, _, h⟩ := List.mem_flatMap.1 h
      split at h
      · obtain ⟨t, rfl⟩ := ordsR_app b k _ s h
        exact ⟨((i : Nat) : Int) :: t, by simp⟩
      · cases h
theorem ordsR_sorted (b : Sheet) : ∀ (k : Nat) (p : List Int), (ordsR b k p).Pairwise fun x y => earlierB x y = true
  | 0, p => by simp only [ordsR]; split <;> simp
  | k + 1, p => by
    simp only [ordsR]
    split
    · simp
    · rw [List.pairwise_flatMap]
      refine ⟨fun i _ => ?_, ?_⟩
      · split
        · exact ordsR_sorted b k _
        · simp
      · rw [List.pairwise_iff_getElem]
        intro i j hi hj hij x hx y hy
        simp only [List.getElem_range] at hx hy
        split at hx
        · split at hy
          · obtain ⟨s, rfl⟩ := ordsR_app b k _ x hx
            obtain ⟨t, rfl⟩ := ordsR_app b k _ y hy
            have := earlier_app p (x := ((i : Nat) : Int)) (y := ((j : Nat) : Int)) (by omega) s t
            simpa using this
          · cases hy
        · cases hx
/-- No flap lies over one that comes later. -/
def Cl (b : Sheet) (l : List Int) : Prop := l.Nodup ∧ (∀ x ∈ l, inN b x) ∧ doesB b l true = true
theorem doesB_iff {b : Sheet} {l : List Int} : doesB b l true = true ↔ ∀ i k, i < k → k < l.length → overB b (l.getD i default) (l.getD k default) true = false := by
  simp only [doesB, List.all_eq_true, List.mem_range, decide_eq_true_eq, Bool.not_eq_true']
  exact ⟨fun h i k hik hk => h i (by omega) k hk hik, fun h i _ k hk hik => h i k hik hk⟩
theorem Cl.app {b : Sheet} {p t : List Int} (h : Cl b (p ++ t)) : Cl b p := by
  obtain ⟨h1, h2, h3⟩ := h
  refine ⟨(List.nodup_append.1 h1).1, fun x hx => h2 x (List.mem_append_left _ hx), doesB_iff.2 fun i k hik hk => ?_⟩
  have := doesB_iff.1 h3 i k hik (by rw [List.length_append]; omega)
  rwa [getD_app1 (by omega), getD_app1 hk] at this
theorem mem_ordsR {b : Sheet} {s : List Int} : ∀ (k : Nat) (p : List Int), Cl b p → p.length + k = b.flaps.length → (s ∈ ordsR b k p ↔ Cl b s ∧ s.length = b.flaps.length ∧ ∃ t, s = p ++ t)
  | 0, p, hp, hk => by
    simp only [ordsR]
    rw [if_pos (by omega), List.mem_singleton]
    constructor
    · rintro rfl; exact ⟨hp, by omega, [], by simp⟩
    · rintro ⟨_, h1, t, rfl⟩
      rw [List.length_append] at h1
      have : t = [] := List.eq_nil_of_length_eq_zero (by omega)
      rw [this]; simp
  | k + 1, p, hp, hk => by
    simp only [ordsR]
    rw [if_neg (by omega)]
    simp only [List.mem_flatMap, List.mem_range]
    constructor
    · rintro ⟨i, hi, h⟩
      split at h
      · rename_i hc
        simp only [Bool.and_eq_true, Bool.not_eq_true', decide_eq_false_iff_not] at hc
        have hp2 : Cl b (p ++ [((i : Nat) : Int)]) := ⟨List.nodup_append.2 ⟨hp.1, by simp, fun a ha c hc' e => by rw [List.mem_singleton.1 hc'] at e; exact hc.1 (e ▸ ha)⟩, fun x hx => by
          rcases List.mem_append.1 hx with hx | hx
          · exact hp.2.1 x hx
          · rw [List.mem_singleton.1 hx]; exact ⟨by omega, by omega⟩, hc.2⟩
        obtain ⟨h1, h2, t, rfl⟩ := (mem_ordsR k _ hp2 (by simp; omega)).1 h
        exact ⟨h1, h2, ((i : Nat) : Int) :: t, by simp⟩
      · cases h
    · rintro ⟨h1, h2, t, rfl⟩
      match t with
      | [] => simp at h2; omega
      | x :: t =>
        have h3 : p ++ x :: t = (p ++ [x]) ++ t := by simp
        rw [h3] at h1 h2 ⊢
        have hp2 := h1.app
        have hx := hp2.2.1 x (by simp)
        have hx0 := hx.1; have hx1 := hx.2
        have he : ((x.toNat : Nat) : Int) = x := by omega
        have hnm : x ∉ p := fun hm => (List.nodup_append.1 hp2.1).2.2 x hm x (List.mem_singleton.2 rfl) rfl
        refine ⟨x.toNat, by omega, ?_⟩
        rw [he, if_pos (by simp only [Bool.and_eq_true, Bool.not_eq_true', decide_eq_false_iff_not]; exact ⟨hnm, hp2.2.2⟩)]
        exact (mem_ordsR k _ hp2 (by simp; omega)).2 ⟨h1, h2, t, rfl⟩
theorem ok_cl {b : Sheet} (hv : Valid b) {l : List Int} (hl : l.length = b.flaps.length) : Ok b l ↔ Cl b l := by
  constructor
  · intro h
    refine ⟨h.nodup, fun x hx => h.inN hx, doesB_iff.2 fun i k hik hk => ?_⟩
    rw [overB_overP hv]
    cases ho : overP b (l.getD i default) (l.getD k default) with
    | false => rfl
    | true =>
      have := ok_over h (getD_mem (by omega)) ho
      rw [List.getD_eq_getElem?_getD, List.getD_eq_getElem?_getD, List.getElem?_eq_getElem (show i < l.length by omega), List.getElem?_eq_getElem hk] at this
      simp only [Option.getD_some] at this
      rw [h.nodup.idxOf_getElem, h.nodup.idxOf_getElem] at this
      omega
  · rintro ⟨h1, h2, h3⟩
    have ho : ordB b l = true := ordB_iff.2 ⟨hl, h1, h2⟩
    rw [ok_iff hv ho]
    intro r hr hc
    have hi := rule_in hv hr
    have m1 := ord_mem ho hi.1; have m2 := ord_mem ho hi.2
    by_cases hlt : l.idxOf r.under < l.idxOf r.over
    · exact hlt
    · exfalso
      have hne : l.idxOf r.over ≠ l.idxOf r.under := fun e => by
        have e1 := idx_get m1; have e2 := idx_get m2
        rw [e] at e1
        exact (hv.rule r hr).2.2.2.2 (e1.symm.trans e2)
      have := doesB_iff.1 h3 (l.idxOf r.over) (l.idxOf r.under) (by omega) (idx_lt m2)
      rw [idx_get m1, idx_get m2, overB_overP hv] at this
      rw [overP_iff.2 ⟨hc, r, hr, rfl, rfl⟩] at this; cases this
theorem ordsR_all {b : Sheet} (hv : Valid b) : ordsR b b.flaps.length [] = allO b := by
  have hn : Cl b [] := ⟨by simp, (fun x hx => by cases hx), doesB_iff.2 (fun i k _ hk => absurd hk (by simp))⟩
  refine sorted_eq (ordsR_sorted b _ _) (allO_sorted b) fun l => ?_
  rw [mem_ordsR _ _ hn (by simp), mem_allO hv]
  constructor
  · rintro ⟨h1, h2, _⟩; exact ⟨(ok_cl hv h2).2 h1, h2⟩
  · rintro ⟨h1, h2⟩; exact ⟨(ok_cl hv h2).1 h1, h2, l, rfl⟩
/-! ### The longest row that ends with a flap -/
def maxTo (f : Nat → Int) : Nat → Int
  | 0 => 0
  | n + 1 => max (maxTo f n) (f n)
def chainR (b : Sheet) : Nat → Int → Int
  | 0, f => 1
  | k + 1, f => maxTo (fun i => if overP b f ((i : Nat) : Int) = true then chainR b k ((i : Nat) : Int) else 0) b.flaps.length + 1
theorem maxTo_congr {f g : Nat → Int} : ∀ n, (∀ i, i < n → f i = g i) → maxTo f n = maxTo g n
  | 0, _ => rfl
  | n + 1, h => by simp only [maxTo]; rw [maxTo_congr n (fun i hi => h i (by omega)), h n (by omega)]
theorem maxTo_le {f : Nat → Int} {B : Int} (hB : 0 ≤ B) : ∀ n, (∀ i, i < n → f i ≤ B) → 0 ≤ maxTo f n ∧ maxTo f n ≤ B
  | 0, _ => ⟨Int.le_refl _, hB⟩
  | n + 1, h => by
    have h1 := maxTo_le hB n (fun i hi => h i (by omega))
    have h2 := h n (by omega)
    simp only [maxTo]; omega
theorem chain_rng (b : Sheet) : ∀ (k : Nat) (f : Int), 1 ≤ chainR b k f ∧ chainR b k f ≤ ((k : Nat) : Int) + 1
  | 0, f => by simp [chainR]
  | k + 1, f => by
    have h1 := maxTo_le (f := fun i : Nat => if overP b f ((i : Nat) : Int) = true then chainR b k ((i : Nat) : Int) else 0) (B := ((k : Nat) : Int) + 1) (by omega) b.flaps.length (fun i _ => by
      split
      · exact (chain_rng b k _).2
      · omega)
    simp only [chainR]; omega
/-- Behind a flap's place more steps change nothing. -/
theorem chain_fix {b : Sheet} (hv : Valid b) {l : List Int} (hok : Ok b l) (hl : l.length = b.flaps.length) : ∀ (n : Nat) (f : Int), inN b f → l.idxOf f < n → ∀ k, n ≤ k → chainR b k f = chainR b n f
  | 0, f, _, h, k, _ => absurd h (by omega)
  | n + 1, f, hf, hi, k, hk => by
    match k, hk with
    | k + 1, hk =>
      simp only [chainR]
      congr 1
      apply maxTo_congr
      intro i hin
      by_cases ho : overP b f ((i : Nat) : Int) = true
      · rw [if_pos ho, if_pos ho]
        have hfm := ord_mem (ok_ord hok hl) hf
        have := ok_over hok hfm ho
        exact chain_fix hv hok hl n _ ⟨by omega, by omega⟩ (by omega) k (by omega)
      · rw [if_neg ho, if_neg ho]
end Go.Proofs.YtpjhffockmnjbaaDoor
set_option linter.unusedVariables false
set_option linter.unusedSimpArgs false
namespace Go.Proofs.YtpjhffockmnjbaaDoor
theorem maxTo_ub {f : Nat → Int} : ∀ n i, i < n → f i ≤ maxTo f n
  | 0, i, h => absurd h (by omega)
  | n + 1, i, h => by
    simp only [maxTo]
    by_cases e : i = n
    · subst e; omega
    · have := maxTo_ub (f := f) n i (by omega); omega
theorem maxTo_least {f : Nat → Int} {B : Int} (hB : 0 ≤ B) : ∀ n, (∀ i, i < n → f i ≤ B) → maxTo f n ≤ B
  | 0, _ => hB
  | n + 1, h => by
    have h1 := maxTo_least hB n (fun i hi => h i (by omega))
    have h2 := h n (by omega)
    simp only [maxTo]; omega
theorem maxTo_pos {f : Nat → Int} : ∀ n, 0 ≤ maxTo f n
  | 0 => Int.le_refl _
  | n + 1 => by have := maxTo_pos (f := f) n; simp only [maxTo]; omega
theorem in_form2 {b : Sheet} {l : List Int} {f : Int} {r : List Int} (hf : inN b f) (hl : ∀ x ∈ l, inN b x) (hr : r.length = b.flaps.length) (hself : ∀ u, overP b f u = true → u ≠ f) : ∀ m, m ≤ l.length →
    ∃ v : Int, 0 ≤ v ∧ inAt b l f r m = r.set f.toNat (v + 1) ∧ (∀ j, j < m → overP b f (l.getD j default) = true → r.getD (l.getD j default).toNat 0 ≤ v) ∧ ∀ B : Int, 0 ≤ B → (∀ j, j < m → overP b f (l.getD j default) = true → r.getD (l.getD j default).toNat 0 ≤ B) → v ≤ B
  | 0, _ => ⟨0, Int.le_refl _, by simp [inAt], fun j hj => absurd hj (by omega), fun B hB _ => hB⟩
  | m + 1, hm => by
    obtain ⟨v, h0, h1, h2, h3⟩ := in_form2 hf hl hr hself m (by omega)
    have hf0 := hf.1; have hf1 := hf.2
    rw [inAt_succ (by omega), h1]
    unfold inStep
    by_cases ho : overP b f (l.getD m default) = true
    · rw [if_pos ho]
      have hu := hl _ (getD_mem (l := l) (i := m) (by omega))
      have hu0 := hu.1; have hu1 := hu.2
      have hne := hself _ ho
      have hne' : f.toNat ≠ (l.getD m default).toNat := by omega
      rw [set_self (by omega), set_getD hne', List.set_set]
      refine ⟨max v (r.getD (l.getD m default).toNat 0), by omega, ?_, fun j hj hoj => ?_, fun B hB h => ?_⟩
      · congr 1; omega
      · by_cases e : j = m
        · subst e; omega
        · have := h2 j (by omega) hoj; omega
      · have e1 := h3 B hB (fun j hj => h j (by omega))
        have e2 := h m (by omega) ho
        omega
    · rw [if_neg ho]
      refine ⟨v, h0, rfl, fun j hj hoj => ?_, fun B hB h => h3 B hB (fun j hj => h j (by omega))⟩
      by_cases e : j = m
      · subst e; exact absurd hoj ho
      · exact h2 j (by omega) hoj
theorem take_mem {l : List Int} {i j : Nat} (hj : j < i) (hi : i ≤ l.length) : l.getD j default ∈ l.take i := by
  refine List.mem_take_iff_getElem.2 ⟨j, by omega, ?_⟩
  rw [List.getD_eq_getElem?_getD, List.getElem?_eq_getElem (by omega)]; rfl
theorem out_chain {b : Sheet} (hv : Valid b) {l : List Int} (hok : Ok b l) (hl : l.length = b.flaps.length) : ∀ i, i ≤ l.length → (∀ x ∈ l.take i, (outAt b l i).1.getD x.toNat 0 = chainR b 8 x) ∧ (∀ x ∈ l.take i, chainR b 8 x ≤ (outAt b l i).2) ∧ 0 ≤ (outAt b l i).2 ∧ ∀ B : Int, 0 ≤ B → (∀ x ∈ l.take i, chainR b 8 x ≤ B) → (outAt b l i).2 ≤ B
  | 0, _ => ⟨fun x hx => by simp at hx, fun x hx => by simp at hx, by simp [outAt], fun B hB _ => by simpa [outAt] using hB⟩
  | i + 1, h => by
    have hm := hv.many
    have hi : i < l.length := by omega
    obtain ⟨h1, h2, h3, h4⟩ := out_chain hv hok hl i (by omega)
    have hfi : inN b (l.getD i default) := hok.inN (getD_mem hi)
    have hlen : (outAt b l i).1.length = b.flaps.length := by rw [outAt_len _ _ _ (by omega), hl]
    obtain ⟨v, e0, e1, e2, e3⟩ := in_form2 hfi (fun y hy => hok.inN hy) hlen (fun u hu e => by
      obtain ⟨_, r, hr, h5, h6⟩ := overP_iff.1 hu
      exact (hv.rule r hr).2.2.2.2 (h5.trans (e ▸ h6.symm))) l.length (Nat.le_refl _)
    have hnot := (hok i hi).2.1
    have hund := (hok i hi).2.2
    have hch : v + 1 = chainR b 8 (l.getD i default) := by
      have hfix : chainR b 9 (l.getD i default) = chainR b 8 (l.getD i default) := by
        have hidx := idx_lt (getD_mem hi)
        have a1 := chain_fix hv hok hl b.flaps.length (l.getD i default) hfi (by omega) 9 (by omega)
        have a2 := chain_fix hv hok hl b.flaps.length (l.getD i default) hfi (by omega) 8 (by omega)
        rw [a1, a2]
      rw [← hfix]
      simp only [chainR]
      congr 1
      apply Int.le_antisymm
      · refine e3 _ (maxTo_pos _) fun j hj ho => ?_
        have hu := hok.inN (getD_mem (l := l) (i := j) (by omega))
        have hu0 := hu.1; have hu1 := hu.2
        rw [h1 _ (hund _ ho)]
        have := maxTo_ub (f := fun i' : Nat => if overP b (l.getD i default) ((i' : Nat) : Int) = true then chainR b 8 ((i' : Nat) : Int) else 0) b.flaps.length (l.getD j default).toNat (by omega)
        rw [show (((l.getD j default).toNat : Nat) : Int) = l.getD j default by omega, if_pos ho] at this
        exact this
      · refine maxTo_least e0 _ fun k hk => ?_
        split
        · rename_i ho
          have hkm := hund _ ho
          have hkl := List.mem_of_mem_take hkm
          have := e2 (l.idxOf ((k : Nat) : Int)) (idx_lt hkl) (by rw [idx_get hkl]; exact ho)
          rw [idx_get hkl, h1 _ hkm] at this
          exact this
        · exact e0
    have hf0 := hfi.1; have hf1 := hfi.2
    rw [outAt_succ hi]
    simp only [outStep, e1]
    rw [set_self (by omega)]
    refine ⟨fun x hx => ?_, fun x hx => ?_, by omega, fun B hB h => ?_⟩
    · rw [take_succ_getD hi] at hx
      rcases List.mem_append.1 hx with hx | hx
      · have hxl := hok.inN (List.mem_of_mem_take hx)
        have hx0 := hxl.1
        have hne : (l.getD i default).toNat ≠ x.toNat := fun e => hnot (by rw [show l.getD i default = x by omega]; exact hx)
        rw [set_getD hne]; exact h1 x hx
      · rw [List.mem_singleton.1 hx, set_self (by omega)]; exact hch
    · rw [take_succ_getD hi] at hx
      rcases List.mem_append.1 hx with hx | hx
      · have := h2 x hx; omega
      · rw [List.mem_singleton.1 hx, ← hch]; omega
    · have a1 := h4 B hB fun x hx => h x (by rw [take_succ_getD hi]; exact List.mem_append_left _ hx)
      have a2 := h (l.getD i default) (by rw [take_succ_getD hi]; simp)
      omega
theorem rounds_eq {b : Sheet} (hv : Valid b) {l : List Int} (hok : Ok b l) (hl : l.length = b.flaps.length) : roundN b l = maxTo (fun i => chainR b 8 ((i : Nat) : Int)) b.flaps.length := by
  obtain ⟨_, h2, h3, h4⟩ := out_chain hv hok hl l.length (Nat.le_refl _)
  rw [List.take_length] at h2 h4
  unfold roundN
  apply Int.le_antisymm
  · refine h4 _ (maxTo_pos _) fun x hx => ?_
    have hn := hok.inN hx
    have hn0 := hn.1; have hn1 := hn.2
    have := maxTo_ub (f := fun i : Nat => chainR b 8 ((i : Nat) : Int)) b.flaps.length x.toNat (by omega)
    rwa [show ((x.toNat : Nat) : Int) = x by omega] at this
  · exact maxTo_least h3 _ fun i hi => h2 _ (ord_mem (ok_ord hok hl) ⟨by omega, by omega⟩)
end Go.Proofs.YtpjhffockmnjbaaDoor
set_option linter.unusedVariables false
set_option linter.unusedSimpArgs false
namespace Go.Proofs.YtpjhffockmnjbaaDoor
open Go.RowKit
abbrev Tr := Option Addr × Nat × List Int
def encT (t : Tr) : List Value := [.slice t.1 t.2.2.length t.2.1]
/-- Each row of a row of rows lies in memory. -/
def TSD (ts : List Tr) : World → Prop := fun w => ∀ t ∈ ts, t.2.2.length ≤ t.2.1 ∧ Rd encI 1 t.1 t.2.2.length t.2.2 w
def rowsT (ts : List Tr) : List (List Int) := ts.map fun t => t.2.2
theorem tsd_nil (w : World) : TSD [] w := fun t h => by cases h
theorem TSD.stab {ts : List Tr} {w : World} {is : List Nat} (h : TSD ts w) (hd : ∀ t ∈ ts, ∀ bk off, t.1 = some ⟨bk, off, none⟩ → bk ∉ is) : Stable is w (TSD ts) :=
  fun w' hw t ht => ⟨(h t ht).1, (h t ht).2.stable (hd t ht) w' hw⟩
theorem tsd_app {ts us : List Tr} {w : World} {is : List Nat} (h1 : Stable is w (TSD ts)) (h2 : Stable is w (TSD us)) : Stable is w (TSD (ts ++ us)) := fun w' hw t ht => by
  rcases List.mem_append.1 ht with ht | ht
  · exact h1 w' hw t ht
  · exact h2 w' hw t ht
section
variable {w0 : Base} {Ds : List (World → Prop)} {H : Own} {w : World}
theorem St.tsd {ts us : List Tr} (hs : St w0 (TSD ts :: Ds) H w) (hu : Stable (w0.ex ++ ids H) w (TSD us)) : St w0 (TSD (ts ++ us) :: Ds) H w :=
  (hs.subD (Ds' := Ds) (fun _ h => .tail _ h)).addD (tsd_app (hs.data _ (.head _)) hu)
theorem St.one {A : Option Addr} {cp : Nat} {r : List Int} (hs : St w0 Ds H w) (hD : Rd encI 1 A r.length r ∈ Ds) (hc : r.length ≤ cp) : Stable (w0.ex ++ ids H) w (TSD [(A, cp, r)]) := fun w' hw t ht => by
  rw [List.mem_singleton.1 ht]
  exact ⟨hc, hs.data _ hD w' hw⟩
end
theorem filter_len {α : Type} {p q : α → Bool} : ∀ {l : List α}, (∀ x ∈ l, p x = true → q x = true) → (l.filter p).length ≤ (l.filter q).length
  | [], _ => Nat.le_refl _
  | x :: l, h => by
    have ih := filter_len (l := l) fun y hy => h y (.tail _ hy)
    have hx := h x (.head _)
    simp only [List.filter_cons]
    cases hp : p x with
    | true => rw [hx hp]; simpa using ih
    | false =>
      cases q x
      · simpa using ih
      · simp; omega
theorem rowsT_len (ts : List Tr) : (rowsT ts).length = ts.length := by simp [rowsT]
theorem rowsT_app (ts us : List Tr) : rowsT (ts ++ us) = rowsT ts ++ rowsT us := by simp [rowsT]
/-- What is handed back: a row of rows, the rows new or the one that came in. -/
def RowsOut (L : List (List Int)) (A : Option Addr) (w : World) (v : Value) (w' : World) : Prop :=
  ∃ (A2 : Option Addr) (c2 : Nat) (ts : List Tr), v = .slice A2 ts.length c2 ∧ rowsT ts = L ∧ OutG encT 1 ts A2 c2 w w' ∧ TSD ts w' ∧ ∀ t ∈ ts, (∀ bk off, t.1 = some ⟨bk, off, none⟩ → w.heap.size ≤ bk) ∨ t.1 = A
def cB : Nat → Nat
  | 0 => 1
  | m + 1 => 1 + 7 * cB m
theorem cB_mono : ∀ {m n : Nat}, m ≤ n → cB m ≤ cB n
  | m, 0, h => by rw [show m = 0 by omega]; exact Nat.le_refl _
  | 0, n + 1, _ => by simp only [cB]; omega
  | m + 1, n + 1, h => by have := cB_mono (m := m) (n := n) (by omega); simp only [cB]; omega
/-- One way on. -/
def ringN (b : Sheet) (k : Nat) (r : List Int) (i : Nat) : List (List Int) := if (decide (headI r < (i : Nat)) && (!decide (((i : Nat) : Int) ∈ r) && overP b (i : Nat) (lastI r))) = true then ringsL b k (r ++ [((i : Nat) : Int)]) else []
def ring0 (b : Sheet) (r : List Int) : List (List Int) := if (decide ((1 : Int) < (r.length : Nat)) && overP b (headI r) (lastI r)) = true then [r] else []
theorem rings_form (b : Sheet) (k : Nat) (r : List Int) : ringsL b (k + 1) r = ring0 b r ++ (List.range b.flaps.length).flatMap (ringN b k r) := rfl
theorem fm_len2 {α : Type} (g : Nat → List α) (m : Nat) : ∀ n, (∀ i, i < n → (g i).length ≤ m) → ((List.range n).flatMap g).length ≤ n * m
  | 0, _ => by simp
  | n + 1, h => by
    have h1 := fm_len2 g m n (fun i hi => h i (by omega))
    have h2 := h n (by omega)
    rw [List.range_succ, List.flatMap_append, List.length_append, Nat.add_mul]
    simp only [List.flatMap_cons, List.flatMap_nil, List.append_nil]
    omega
theorem rings_bound {b : Sheet} (hm : b.flaps.length ≤ 7) : ∀ (k : Nat) (r : List Int), (ringsL b k r).length ≤ cB (freeN b r)
  | 0, r => by simp [ringsL]
  | k + 1, r => by
    rw [rings_form, List.length_append]
    have h0 : (ring0 b r).length ≤ 1 := by unfold ring0; split <;> simp
    have hi : ∀ i : Nat, i < b.flaps.length → (ringN b k r i).length ≤ cB (freeN b r - 1) := by
      intro i hi
      unfold ringN
      split
      · rename_i hc
        simp only [Bool.and_eq_true, Bool.not_eq_true', decide_eq_false_iff_not] at hc
        have h1 := rings_bound hm k (r ++ [((i : Nat) : Int)])
        have h2 := freeN_lt (b := b) (r := r) (i := i) hi hc.2.1
        exact Nat.le_trans h1 (cB_mono (by omega))
      · simp
    have h1 := fm_len2 (ringN b k r) (cB (freeN b r - 1)) b.flaps.length hi
    by_cases hz : freeN b r = 0
    · have h2 : (List.range b.flaps.length).flatMap (ringN b k r) = [] := by
        rw [List.flatMap_eq_nil_iff]
        intro i hi
        unfold ringN
        split
        · rename_i hc
          simp only [Bool.and_eq_true, Bool.not_eq_true', decide_eq_false_iff_not] at hc
          have h2 := freeN_lt (b := b) (r := r) (i := i) (List.mem_range.1 hi) hc.2.1
          omega
        · rfl
      rw [h2, hz]
      simp only [cB, List.length_nil]
      omega
    · obtain ⟨m, hm'⟩ : ∃ m, freeN b r = m + 1 := ⟨freeN b r - 1, by omega⟩
      rw [hm'] at h1 ⊢
      simp only [cB, Nat.add_sub_cancel] at h1 ⊢
      have := Nat.mul_le_mul_right (cB m) hm
      omega
theorem free_row {b : Sheet} {r : List Int} (h : Row b r) : freeN b r + 1 ≤ b.flaps.length := by
  match r, h with
  | [], h => exact absurd rfl h.ne
  | x :: t, h =>
    have hx := h.inb x (.head _)
    have hx0 := hx.1; have hx1 := hx.2
    have h1 := freeN_lt (b := b) (r := []) (i := x.toNat) (by omega) (by simp)
    have h2 := freeN_le b []
    have h3 : freeN b (x :: t) ≤ freeN b ([] ++ [((x.toNat : Nat) : Int)]) := by
      unfold freeN
      refine filter_len fun i _ hi => ?_
      simp only [Bool.not_eq_true', decide_eq_false_iff_not, List.mem_cons, not_or] at hi ⊢
      simp only [List.nil_append, List.mem_singleton]
      intro e
      exact hi.1 (by omega)
    omega
theorem freeN_mono (b : Sheet) (r : List Int) (x : Int) : freeN b (r ++ [x]) ≤ freeN b r := by
  unfold freeN
  refine filter_len fun i _ hi => ?_
  simp only [Bool.not_eq_true', decide_eq_false_iff_not, List.mem_append, not_or] at hi ⊢
  exact hi.1
theorem part_bound {b : Sheet} (hm : b.flaps.length ≤ 7) {r : List Int} (hr : Row b r) (k i : Nat) (hi : i ≤ b.flaps.length) : (ring0 b r ++ (List.range i).flatMap (ringN b k r)).length ≤ 1 + i * 137257 := by
  rw [List.length_append]
  have h0 : (ring0 b r).length ≤ 1 := by unfold ring0; split <;> simp
  have hf := free_row hr
  have h1 := fm_len2 (ringN b k r) 137257 i (fun j hj => by
    unfold ringN
    split
    · refine Nat.le_trans (rings_bound hm k _) ?_
      have : freeN b (r ++ [((j : Nat) : Int)]) ≤ 6 := by
        have := freeN_mono b r ((j : Nat) : Int); omega
      exact Nat.le_trans (cB_mono this) (by decide)
    · simp)
  omega
theorem range_none {b : Sheet} {k : Nat} {r : List Int} {i : Nat} (h : ((i : Nat) : Int) ≤ headI r + 1) : (List.range i).flatMap (ringN b k r) = [] := by
  rw [List.flatMap_eq_nil_iff]
  intro j hj
  have := List.mem_range.1 hj
  unfold ringN
  rw [if_neg]
  simp only [Bool.and_eq_true, decide_eq_true_eq, not_and]
  intro h1; omega
theorem fm_snoc {α : Type} (g : Nat → List α) (i : Nat) : (List.range (i + 1)).flatMap g = (List.range i).flatMap g ++ g i := by
  rw [List.range_succ, List.flatMap_append]; simp
theorem dis_of {us : List Tr} {A : Option Addr} {m1 m2 : Nat} {is : List Nat} (h1 : ∀ bk, bk ∈ is → bk < m1) (h2 : ∀ bk, bk ∈ is → bk < m2) (hf : ∀ t ∈ us, (∀ bk off, t.1 = some ⟨bk, off, none⟩ → m2 ≤ bk) ∨ t.1 = A) (hA : ∀ bk off, A = some ⟨bk, off, none⟩ → m1 ≤ bk) : ∀ t ∈ us, ∀ bk off, t.1 = some ⟨bk, off, none⟩ → bk ∉ is := fun t ht bk off e hm => by
  rcases hf t ht with h7 | h7
  · have := h7 bk off e; have := h2 bk hm; omega
  · have := hA bk off (h7 ▸ e); have := h1 bk hm; omega
theorem new_of {us : List Tr} {A : Option Addr} {m0 m1 m2 : Nat} (h0 : m0 ≤ m1) (hA : ∀ bk off, A = some ⟨bk, off, none⟩ → m1 ≤ bk) (hf : ∀ t ∈ us, (∀ bk off, t.1 = some ⟨bk, off, none⟩ → m2 ≤ bk) ∨ t.1 = A) (h12 : m1 ≤ m2) : ∀ t ∈ us, ∀ bk off, t.1 = some ⟨bk, off, none⟩ → m0 ≤ bk := fun t ht bk off e => by
  rcases hf t ht with h7 | h7
  · have := h7 bk off e; omega
  · have := hA bk off (h7 ▸ e); omega
theorem row_le {b : Sheet} {l : List Int} (h : Row b l) : l.length ≤ b.flaps.length := by
  have := h.nodup.length_le_of_subset (l₂ := iota b.flaps.length) (fun x hx => mem_iota.2 (h.inb x hx))
  rwa [iota_len] at this
theorem ring0_eq {b : Sheet} (hv : Valid b) {r : List Int} (h : Row b r) : ring0 b r = if overP b (headI r) (lastI r) = true then [r] else [] := by
  unfold ring0
  cases ho : overP b (headI r) (lastI r) with
  | false => simp
  | true =>
    have hl := List.length_pos_iff.2 h.ne
    by_cases h1 : r.length = 1
    · exfalso
      have e : headI r = lastI r := by unfold headI lastI; rw [h1]
      rw [e] at ho
      obtain ⟨_, s, hs, h3, h4⟩ := overP_iff.1 ho
      exact (hv.rule s hs).2.2.2.2 (h3.trans h4.symm)
    · rw [if_pos (by simp; omega), if_pos rfl]
def RingsSpec (b : Sheet) (k : Nat) : Prop := ∀ (w : World) (r : List Int) (A : Option Addr) (cp : Nat) (fA : Option Addr) (fc : Nat) (rA : Option Addr) (rc : Nat), ShIn b fA fc rA rc w → Row b r → freeN b r < k → r.length ≤ cp → Rd encI 1 A r.length r w →
  Calls Tryd.prog 102 #[.agg #[.int .i64 b.wide, .int .i64 b.high, .slice fA b.flaps.length fc, .slice rA b.rules.length rc], .slice A r.length cp] w (RetX w (RowsOut (ringsL b k r) A w))
theorem index_neg_iff (v : Int) (l : List Int) : decide (indexZ (fun x => x == v) l < 0) = !decide (v ∈ l) := by
  rw [Bool.eq_iff_iff, decide_eq_true_eq, Bool.not_eq_true', decide_eq_false_iff_not]
  exact ⟨indexZ_neg, fun h => by
    by_cases h' : indexZ (fun x => x == v) l < 0
    · exact h'
    · exact absurd (indexZ_pos h') h⟩
end Go.Proofs.YtpjhffockmnjbaaDoor
set_option linter.unusedVariables false
set_option linter.unusedSimpArgs false
namespace Go.Proofs.YtpjhffockmnjbaaDoor
open Go.RowKit
theorem c_Plus (oA : Option Addr) (oc : Nat) (l : List Int) (x : Int) (hl9 : l.length ≤ 1000) (w0 : World) (h : Rd encI 1 oA l.length l w0) :
    Calls Tryd.prog 99 #[.slice oA l.length oc, .int .i64 x] w0 (RetX w0 (fun v w0' => ∃ A c, v = .slice A (l ++ [x]).length c ∧ Out (l ++ [x]) A c w0 w0')) := by
  refine c_enter (n := 11) Tryd.func99 rfl rfl (Nat.le_of_ble_eq_true rfl) ?_; intro a hf; simp only [zipR] at hf
  have hs := St.start w0 [Rd encI 1 oA l.length l] h.st1
  refine c_reg ?_
  refine gL hf (g_as hf rfl) (by decide) ?_; clear hf a; intro a hf
  refine e_nil ?_
  refine c_reg ?_
  refine vL hf (v_lits (len := 0) hf hs SL27 T3 .nil rfl rfl rfl rfl (by decide) rfl) (by decide) ?_; clear hs hf a; rintro _ w ⟨b1, rfl, hs⟩ a hf
  refine gL hf (g_mv hf rfl) (by decide) ?_; clear hf a; intro a hf
  refine vL hf (v_accN (e := 3) (o := some (b1, #[])) (l := []) (l' := l) (len := 0) hf 0 hs rfl ⟨0, rfl, Nat.le_refl _, by omega, rfl⟩ AP27 (enc := encI) (fun _ => rfl) (by decide) (by intro x v hv9; rw [List.mem_singleton.1 hv9]; rfl) rfl rfl rfl (hs.rd (.head _)) (by omega) (by decide)) (by decide) ?_; clear hs hf a; rintro _ w ⟨o1, rfl, ho1, hs⟩ a hf; dsimp only [List.take, List.nil_append] at hs
  refine gL hf (g_mv hf rfl) (by decide) ?_; clear hf a; intro a hf
  refine vL hf (v_lits (len := 1) hf hs SL27 T3 (.cons rfl .nil) rfl rfl rfl rfl (by decide) rfl) (by decide) ?_; clear hs hf a; rintro _ w ⟨b2, rfl, hs⟩ a hf
  refine vL hf (v_accN (e := 3) (R := []) (o := o1) (l := [] ++ l) (l' := [x]) hf 1 hs (by simp) ho1 AP27 (enc := encI) (fun _ => rfl) (by decide) (by intro x v hv9; rw [List.mem_singleton.1 hv9]; rfl) (by simp) rfl rfl (rd_one rfl (hs.own _ _ (.head _)).2) (by omega) (by decide)) (by decide) ?_; clear hs hf a; rintro _ w ⟨o2, rfl, ho2, hs⟩ a hf; dsimp only [List.take, List.cons_append, List.nil_append] at hs; rw [List.append_nil] at hs
  have hn1 : ∀ q, o2 = some q → w0.heap.size ≤ q.1 := fun q e => by subst e; exact (hs.own _ _ (.tail _ (.head _))).1
  obtain ⟨A3, c3, e3, hl3, hs⟩ := hs.freeze (R := []) (e := 3) (o := o2) (enc := encI) (sz := 1) 1 (by simp) ho2 (fun _ => rfl) (by decide)
  have hA3 := acc_new hn1 e3; rw [show 0 + l.length + 1 = ([] ++ l ++ [x]).length by simp] at hf; rw [e3] at hf
  refine gL hf (g_as hf rfl) (by decide) ?_; clear hf a; intro a hf
  refine e_nil ?_
  refine c_ret ?_
  refine e_ret1 hf rfl rfl ?_
  exact ⟨_, rfl, hs.below, A3, c3, rfl, hl3, hs.rd (.head _), hA3⟩

theorem c_rings_step (b : Sheet) (k : Nat) (hv : Valid b) (ih : RingsSpec b k) (fA : Option Addr) (fc : Nat) (rA : Option Addr) (rc : Nat) (A : Option Addr) (cp : Nat) (r : List Int) (w0 : World) (h : ShIn b fA fc rA rc w0) (hrow : Row b r) (hfr : freeN b r < k + 1) (hcp : r.length ≤ cp) (hr : Rd encI 1 A r.length r w0) :
    Calls Tryd.prog 102 #[.agg #[.int .i64 b.wide, .int .i64 b.high, .slice fA b.flaps.length fc, .slice rA b.rules.length rc], .slice A r.length cp] w0 (RetX w0 (RowsOut (ringsL b (k + 1) r) A w0)) := by
  refine c_enter (n := 53) Tryd.func102 rfl rfl (Nat.le_of_ble_eq_true rfl) ?_; intro a hf; simp only [zipR] at hf
  have hs := St.start w0 [Rd encF 5 fA b.flaps.length b.flaps, Rd encR 2 rA b.rules.length b.rules, Rd encI 1 A r.length r] (stab_app h.stab hr.st1)
  have hfm := h.F.2.1; have hrm := h.R.2.1; have hmany := hv.many; have hlen := List.length_pos_iff.2 hrow.ne; have hrlm := hr.2.1
  have hrl7 : r.length ≤ b.flaps.length := row_le hrow
  have hin1 : inN b (headI r) := hrow.inb _ (getD_mem (l := r) (i := 0) hlen)
  have hh1 := hin1.1; have hh2 := hin1.2
  have hhd : r.getD 0 default = headI r := rfl
  have hl9 : r.getD (((r.length : Nat) : Int) - 1).toNat default = lastI r := by rw [show (((r.length : Nat) : Int) - 1).toNat = r.length - 1 by omega]; rfl
  refine c_reg ?_
  refine vL hf (v_boxA hf hs rfl) (by decide) ?_; clear hs hf a; rintro _ w ⟨b1, rfl, hs⟩ a hf
  refine gL hf (g_as hf rfl) (by decide) ?_; clear hf a; intro a hf
  refine e_nil ?_
  refine c_reg ?_
  refine gL hf (g_as hf rfl) (by decide) ?_; clear hf a; intro a hf
  refine e_nil ?_
  refine c_reg ?_
  refine gL hf (g_mv hf rfl) (by decide) ?_; clear hf a; intro a hf
  refine gL hf (g_mv hf rfl) (by decide) ?_; clear hf a; intro a hf
  refine gL hf (g_len hf SL27 rfl) (by decide) ?_; clear hf a; intro a hf
  refine gL hf (g_subI hf rfl rfl (by omega)) (by decide) ?_; clear hf a; intro a hf
  (first | (refine gL hf (g_ixE hf hs (.tail _ (.tail _ (.head _))) SL27 rfl rfl (by omega)) (by decide) ?_) | (refine gL hf (g_ixD hf hs (.tail _ (.tail _ (.head _))) SL27 rfl rfl (by omega)) (by decide) ?_)); clear hf a; intro a hf
  refine gL hf (g_ldE hf hs (.tail _ (.tail _ (.head _))) T3 rfl rfl (by omega)) (by decide) ?_; clear hf a; intro a hf
  refine gL hf (g_as hf rfl) (by decide) ?_; clear hf a; intro a hf
  refine e_nil ?_
  refine wp_seq ?_
  rw [hl9] at hf
  refine c_draw _ 6 Mx rfl hs (fun _ h => h) ?_; intro w hs hS
  refine gA hf hS (i := 0) rfl (by kernel_rfl) (fun w hs => g_ldW hf hs T25 rfl (k := 0) rfl rfl) (by decide) ?_; clear hf a; intro a hf
  refine gA hf hS (i := 1) rfl (by kernel_rfl) (fun w hs => g_mv hf rfl) (by decide) ?_; clear hf a; intro a hf
  (first | (refine gA hf hS (i := 2) rfl (by kernel_rfl) (fun w hs => g_ixE hf hs (.tail _ (.tail _ (.head _))) SL27 rfl rfl (by omega)) (by decide) ?_) | (refine gA hf hS (i := 2) rfl (by kernel_rfl) (fun w hs => g_ixD hf hs (.tail _ (.tail _ (.head _))) SL27 rfl rfl (by omega)) (by decide) ?_)); clear hf a; intro a hf
  refine gA hf hS (i := 3) rfl (by kernel_rfl) (fun w hs => g_ldE hf hs (.tail _ (.tail _ (.head _))) T3 rfl rfl (by omega)) (by decide) ?_; clear hf a; intro a hf
  refine gA hf hS (i := 4) rfl (by kernel_rfl) (fun w hs => g_mv hf rfl) (by decide) ?_; clear hf a; intro a hf
  refine one (i := 5) (by kernel_rfl) ?_
  refine oCall hf hs rfl (c_over b _ _ _ _ _ _ true hv _ ⟨hs.rd (.head _), hs.rd (.tail _ (.head _)), h.fc_, h.rc_⟩) rfl rfl rfl E95 (by decide) (fun _ h => h.sub (.refl _)) ?_; clear hs hf hS a; intro w a hs hS hf
  rw [overB_overP hv] at hf
  refine e_done (by kernel_rfl) ?_
  refine c_cond hf rfl (fun hc1 => ?_) (fun hc1 => ?_)
  · skip
    have hc1 : overP b (headI r) (lastI r) = true := hc1
    refine c_reg1 ?_
    refine gL hf (g_mv hf rfl) (by decide) ?_; clear hf a; intro a hf
    refine gL hf (g_mv hf rfl) (by decide) ?_; clear hf a; intro a hf
    refine vL hf (v_lits (len := 1) hf hs SL82 T27 (.cons rfl .nil) rfl rfl rfl rfl (by decide) rfl) (by decide) ?_; clear hs hf a; rintro _ w ⟨b2, rfl, hs⟩ a hf
    refine vL hf (v_accN (e := 27) (R := (b1, .cells #[.int .i64 b.wide, .int .i64 b.high, .slice fA b.flaps.length fc, .slice rA b.rules.length rc] 25 (0, 0)) :: []) (o := none) (l := []) (l' := [(A, cp, r)]) (len := 0) hf 1 hs rfl rfl AP82 (enc := encT) (fun _ => rfl) (by decide) (by intro x v hv9; rw [List.mem_singleton.1 hv9]; rfl) rfl rfl rfl (rd_one (enc := encT) (x := (A, cp, r)) rfl (hs.own _ _ (.head _)).2) (by omega) (by decide)) (by decide) ?_; clear hs hf a; rintro _ w ⟨oa1, rfl, hoa1, hs⟩ a hf; dsimp only [List.take, List.cons_append, List.nil_append] at hs
    replace hs := (hs.dropN 1).swapN (X := accH 27 oa1) (Y := (b1, .cells #[.int .i64 b.wide, .int .i64 b.high, .slice fA b.flaps.length fc, .slice rA b.rules.length rc] 25 (0, 0)) :: []) 0 rfl; dsimp only [List.take, List.cons_append, List.nil_append] at hs
    obtain ⟨oaX, tsX, hoX, hrX, hfX, hstX, hval⟩ : ∃ (oaX : Acc) (tsX : List Tr), AccOK encT 1 tsX oaX ∧ rowsT tsX = ring0 b r ∧ (∀ t ∈ tsX, (∀ bk off, t.1 = some ⟨bk, off, none⟩ → w0.heap.size ≤ bk) ∨ t.1 = A) ∧ St (Base.of w0) (TSD tsX :: Rd encF 5 fA b.flaps.length b.flaps :: Rd encR 2 rA b.rules.length b.rules :: Rd encI 1 A r.length r :: []) ((b1, .cells #[.int .i64 b.wide, .int .i64 b.high, .slice fA b.flaps.length fc, .slice rA b.rules.length rc] 25 (0, 0)) :: accH 27 oaX) w ∧ accV 1 (0 + 1) oa1 = accV 1 tsX.length oaX := ⟨oa1, [(A, cp, r)], hoa1, by rw [ring0_eq hv hrow, if_pos hc1]; rfl, fun t ht => by rw [List.mem_singleton.1 ht]; exact .inr rfl, hs.addD (hs.one (.tail _ (.tail _ (.head _))) hcp), rfl⟩
    clear hs; have hs := hstX; rw [hval] at hf
    refine gL hf (g_as hf rfl) (by decide) ?_; clear hf a; intro a hf
    refine e_nil1 (q_thenN ?_)
    refine wp_seq ?_
    refine c_reg ?_
    refine gL hf (g_mv hf rfl) (by decide) ?_; clear hf a; intro a hf
    (first | (refine gL hf (g_ixE hf hs (.tail _ (.tail _ (.tail _ (.head _)))) SL27 rfl rfl (by omega)) (by decide) ?_) | (refine gL hf (g_ixD hf hs (.tail _ (.tail _ (.tail _ (.head _)))) SL27 rfl rfl (by omega)) (by decide) ?_)); clear hf a; intro a hf
    refine gL hf (g_ldE hf hs (.tail _ (.tail _ (.tail _ (.head _)))) T3 rfl rfl (by omega)) (by decide) ?_; clear hf a; intro a hf
    refine gL hf (g_addI hf rfl rfl (by rw [hhd]; omega)) (by decide) ?_; clear hf a; intro a hf
    refine gL hf (g_as hf rfl) (by decide) ?_; clear hf a; intro a hf
    refine e_nil ?_
    refine c_block ?_
    rw [show r.getD 0 default + 1 = (((headI r).toNat + 1 : Nat) : Int) by rw [hhd]; omega] at hf
    refine c_loopD (fun s => Base.of w0) (fun s => TSD s.2.2 :: Rd encF 5 fA b.flaps.length b.flaps :: Rd encR 2 rA b.rules.length b.rules :: Rd encI 1 A r.length r :: []) hf (List.range' 5 1 ++ List.range' 7 1 ++ List.range' 28 24) (σ := (Nat × Acc × List Tr)) (fun s => [(5, accV 1 s.2.2.length s.2.1), (7, .int .i64 (s.1 : Nat))]) (fun s => (b1, .cells #[.int .i64 b.wide, .int .i64 b.high, .slice fA b.flaps.length fc, .slice rA b.rules.length rc] 25 (0, 0)) :: accH 27 s.2.1) (fun s => (headI r).toNat + 1 ≤ s.1 ∧ s.1 ≤ b.flaps.length ∧ AccOK encT 1 s.2.2 s.2.1 ∧ rowsT s.2.2 = ring0 b r ++ (List.range s.1).flatMap (ringN b k r) ∧ ∀ t ∈ s.2.2, (∀ bk off, t.1 = some ⟨bk, off, none⟩ → w0.heap.size ≤ bk) ∨ t.1 = A) (fun s => b.flaps.length - s.1) ((headI r).toNat + 1, oaX, tsX) hs ⟨Nat.le_refl _, by dsimp only; omega, hoX, by dsimp only; rw [range_none (by omega), List.append_nil]; exact hrX, hfX⟩ (.cons rfl (.cons rfl .nil)) ?_
    intro ⟨i, oa, ts⟩ a w hJ hf hs
    dsimp only at hJ hf hs
    obtain ⟨hi1, hi2, hoa, hrws, hfrs⟩ := hJ
    refine wp_seq ?_
    refine c_reg ?_
    refine gL hf (g_mv hf rfl) (by decide) ?_; clear hf a; intro a hf
    refine gL hf (g_fa (off' := 2) hf F25_2 rfl rfl) (by decide) ?_; clear hf a; intro a hf
    refine gL hf (g_ld hf hs T22 rfl (k := 0) rfl rfl) (by decide) ?_; clear hf a; intro a hf
    refine gL hf (g_len hf SL22 rfl) (by decide) ?_; clear hf a; intro a hf
    refine gL hf (g_lss hf rfl rfl) (by decide) ?_; clear hf a; intro a hf
    refine e_nil ?_
    refine c_cond hf rfl (fun hc2 => ?_) (fun hc2 => ?_)
    · try simp only [decide_eq_true_eq, decide_eq_false_iff_not] at hc2
      have hii : inN b ((i : Nat) : Int) := ⟨by omega, by omega⟩
      refine c_skip (q_thenN ?_)
      refine c_blockS ?_
      refine c_reg ?_
      refine gL hf (g_mv hf rfl) (by decide) ?_; clear hf a; intro a hf
      refine gL hf (g_mv hf rfl) (by decide) ?_; clear hf a; intro a hf
      refine callL hf hs (c_IndexR _ _ _ r _ _ (hs.rd (.tail _ (.tail _ (.tail _ (.head _)))))) rfl rfl rfl E44 (by decide) ?_; clear hs hf a; intro w a hs hf
      refine gL hf (g_lss hf rfl rfl) (by decide) ?_; clear hf a; intro a hf
      refine gL hf (g_mv hf rfl) (by decide) ?_; clear hf a; intro a hf
      refine ggL hf rfl rfl (gyes_t _) (fun hg => g_ldW hf hs T25 rfl (k := 0) rfl rfl) (by decide) ?_; clear hf a; intro a hf
      refine ggL hf rfl rfl (gyes_t _) (fun hg => g_mv hf rfl) (by decide) ?_; clear hf a; intro a hf
      refine ggL hf rfl rfl (gyes_t _) (fun hg => g_mv hf rfl) (by decide) ?_; clear hf a; intro a hf
      refine callG hf hs rfl rfl (gyes_t _) (fun hg => ⟨_, _, _, _, c_over b _ _ _ _ _ _ true hv _ ⟨hs.rd (.tail _ (.head _)), hs.rd (.tail _ (.tail _ (.head _))), h.fc_, h.rc_⟩, rfl, evs_cons (ev_gv rfl hg) (evs_cons (ev_gv rfl hg) (evs_cons (ev_gv rfl hg) (evs_cons rfl evs_nil))), rfl⟩) E95 (by decide) ?_; clear hs hf a; intro w a hs hf
      rw [overB_overP hv] at hf
      refine gL hf (g_and hf rfl rfl) (by decide) ?_; clear hf a; intro a hf
      refine e_nil ?_
      refine c_cond hf rfl (fun hc3 => ?_) (fun hc3 => ?_)
      · skip
        rw [index_neg_iff] at hc3
        have hc8 : (decide (headI r < ((i : Nat) : Int)) && (!decide (((i : Nat) : Int) ∈ r) && overP b ((i : Nat) : Int) (lastI r))) = true := by rw [hc3, decide_eq_true (by omega)]; rfl
        have hrn : ringN b k r i = ringsL b k (r ++ [((i : Nat) : Int)]) := by unfold ringN; rw [if_pos hc8]
        simp only [Bool.and_eq_true, Bool.not_eq_true', decide_eq_true_eq, decide_eq_false_iff_not] at hc8
        have hrow2 := (row_snoc hrow.ne).2 ⟨hrow, hii, hc8.1, hc8.2.1, hc8.2.2⟩
        have hfr2 : freeN b (r ++ [((i : Nat) : Int)]) < k := by have := freeN_lt (b := b) (r := r) (i := i) (by omega) hc8.2.1; omega
        have hpb := part_bound hmany.2 hrow k (i + 1) (by omega)
        rw [fm_snoc, hrn, ← List.append_assoc, ← hrws, List.length_append, rowsT_len] at hpb
        have hrs8 := rings_bound hmany.2 k (r ++ [((i : Nat) : Int)])
        refine c_draw1 _ 8 Mx rfl hs (fun _ h => h.sub (.cons_cons _ (List.nil_sublist _))) ?_; intro w hs hS
        refine gA hf hS (i := 0) rfl (by kernel_rfl) (fun w hs => g_mv hf rfl) (by decide) ?_; clear hf a; intro a hf
        refine gA hf hS (i := 1) rfl (by kernel_rfl) (fun w hs => g_ldW hf hs T25 rfl (k := 0) rfl rfl) (by decide) ?_; clear hf a; intro a hf
        refine gA hf hS (i := 2) rfl (by kernel_rfl) (fun w hs => g_mv hf rfl) (by decide) ?_; clear hf a; intro a hf
        refine gA hf hS (i := 3) rfl (by kernel_rfl) (fun w hs => g_mv hf rfl) (by decide) ?_; clear hf a; intro a hf
        refine one (i := 4) (by kernel_rfl) ?_
        refine oCallX hf hs rfl (c_Plus _ _ r ((i : Nat) : Int) (by omega) _ (hs.rd (.tail _ (.tail _ (.tail _ (.head _)))))) rfl rfl rfl E99 (by decide) (fun _ h => h.sub (.cons_cons _ (List.nil_sublist _))) ?_; have hsz9 := fun bk hbk => hs.lt' (b := bk) hbk; have hsz0 := hs.below.size; intro v w1 a hR hb hs1 hS hf; obtain ⟨Ap, cp9, rfl, hou⟩ := hR; have hsz7 := hb.size; replace hs := hs.fresh hs1 (outFresh hou); clear hs1 hb
        refine one (i := 5) (by kernel_rfl) ?_
        refine oCallX hf hs rfl (ih _ (r ++ [((i : Nat) : Int)]) Ap cp9 _ _ _ _ ⟨hs.rd (.tail _ (.tail _ (.head _))), hs.rd (.tail _ (.tail _ (.tail _ (.head _)))), h.fc_, h.rc_⟩ hrow2 hfr2 hou.1 (hs.rd (.head _))) rfl rfl rfl E102 (by decide) (fun _ h => (h.sub (.cons_cons _ (List.nil_sublist _))).subD (fun _ h => (.tail _ h))) ?_; have hsz8 := fun bk hbk => hs.lt' (b := bk) hbk; intro v w1 a hR hb hs1 hS hf; obtain ⟨A5, c5, us, rfl, hus, houu, htu, hfu⟩ := hR; have hdis := dis_of hsz9 hsz8 hfu hou.2.2; replace hs := (hs.fresh hs1 houu.fresh).addD (D := TSD us) (htu.stab hdis); clear hs1 hb
        refine one (i := 6) (by kernel_rfl) ?_
        have hul : us.length = (ringsL b k (r ++ [((i : Nat) : Int)])).length := by rw [← hus, rowsT_len]
        refine oV hf rfl (v_accN (e := 27) (R := []) (o := oa) (l := ts) (l' := us) hf 1 hs (by simp) hoa AP82 (enc := encT) (fun _ => rfl) (by decide) (by intro x v hv9; rw [List.mem_singleton.1 hv9]; rfl) rfl rfl rfl (hs.rd (.tail _ (.head _))) (by omega) (by decide)) (by decide) (fun _ _ ⟨_, _, _, h⟩ => (h.sub (.cons_cons _ (List.nil_sublist _))).subD (fun _ h => (.tail _ (.tail _ (.tail _ h))))) ?_; clear hs hf hS a; rintro _ w ⟨oa2, rfl, hoa2, hs⟩ hS a hf; dsimp only [List.take, List.cons_append, List.nil_append] at hs; rw [List.append_nil] at hs
        replace hs := hs.addD (tsd_app (hs.data _ (.tail _ (.tail _ (.tail _ (.head _))))) (hs.data _ (.head _)))
        rw [← List.length_append] at hf
        refine gA hf hS (i := 7) rfl (by kernel_rfl) (fun w hs => g_as hf rfl) (by decide) ?_; clear hf a; intro a hf
        refine e_done1 (by kernel_rfl) ?_
        refine q_blkN (q_thenN ?_)
        refine c_reg1 ?_
        refine gL hf (g_mv hf rfl) (by decide) ?_; clear hf a; intro a hf
        refine gL hf (g_addI hf rfl rfl (by omega)) (by decide) ?_; clear hf a; intro a hf
        refine gL hf (g_as hf rfl) (by decide) ?_; clear hf a; intro a hf
        refine e_nil1 (q_thenN ?_)
        first | exact ⟨(i + 1, oa2, ts ++ us), ⟨by dsimp only; omega, by dsimp only; omega, hoa2, by dsimp only; rw [rowsT_app, hrws, hus, fm_snoc, hrn, List.append_assoc], fun t ht => by rcases List.mem_append.1 ht with ht | ht; exact hfrs t ht; exact .inl (new_of hsz0 hou.2.2 hfu hsz7 t ht)⟩, (by dsimp only; omega), hf.back (by repeat (first | (with_reducible exact Ext.base) | ((with_reducible refine Ext.cons ?_ ?_); (· rfl)) | ((with_reducible refine Ext.over ?_ ?_ ?_); (· rfl); (· rfl)))) (allKeys rfl) (.cons rfl (.cons rfl .nil)), (by first | exact hs | exact hs.subD (fun _ h => by rcases List.mem_cons.1 h with rfl | h; exact .head _; exact .tail _ (.tail _ (.tail _ (.tail _ (.tail _ h))))))⟩ | exact ⟨(i + 1, oa, ts), ⟨by dsimp only; omega, by dsimp only; omega, hoa, by dsimp only; rw [fm_snoc, hrn, List.append_nil]; exact hrws, hfrs⟩, (by dsimp only; omega), hf.back (by repeat (first | (with_reducible exact Ext.base) | ((with_reducible refine Ext.cons ?_ ?_); (· rfl)) | ((with_reducible refine Ext.over ?_ ?_ ?_); (· rfl); (· rfl)))) (allKeys rfl) (.cons rfl (.cons rfl .nil)), (by first | exact hs | exact hs.subD (fun _ h => by rcases List.mem_cons.1 h with rfl | h; exact .head _; exact .tail _ (.tail _ (.tail _ (.tail _ (.tail _ h))))))⟩
      · skip
        rw [index_neg_iff] at hc3
        have hrn : ringN b k r i = [] := by unfold ringN; rw [hc3]; simp
        refine c_skip (q_blkN (q_thenN ?_))
        refine c_reg1 ?_
        refine gL hf (g_mv hf rfl) (by decide) ?_; clear hf a; intro a hf
        refine gL hf (g_addI hf rfl rfl (by omega)) (by decide) ?_; clear hf a; intro a hf
        refine gL hf (g_as hf rfl) (by decide) ?_; clear hf a; intro a hf
        refine e_nil1 (q_thenN ?_)
        first | exact ⟨(i + 1, oa2, ts ++ us), ⟨by dsimp only; omega, by dsimp only; omega, hoa2, by dsimp only; rw [rowsT_app, hrws, hus, fm_snoc, hrn, List.append_assoc], fun t ht => by rcases List.mem_append.1 ht with ht | ht; exact hfrs t ht; exact .inl (new_of hsz0 hou.2.2 hfu hsz7 t ht)⟩, (by dsimp only; omega), hf.back (by repeat (first | (with_reducible exact Ext.base) | ((with_reducible refine Ext.cons ?_ ?_); (· rfl)) | ((with_reducible refine Ext.over ?_ ?_ ?_); (· rfl); (· rfl)))) (allKeys rfl) (.cons rfl (.cons rfl .nil)), (by first | exact hs | exact hs.subD (fun _ h => by rcases List.mem_cons.1 h with rfl | h; exact .head _; exact .tail _ (.tail _ (.tail _ (.tail _ (.tail _ h))))))⟩ | exact ⟨(i + 1, oa, ts), ⟨by dsimp only; omega, by dsimp only; omega, hoa, by dsimp only; rw [fm_snoc, hrn, List.append_nil]; exact hrws, hfrs⟩, (by dsimp only; omega), hf.back (by repeat (first | (with_reducible exact Ext.base) | ((with_reducible refine Ext.cons ?_ ?_); (· rfl)) | ((with_reducible refine Ext.over ?_ ?_ ?_); (· rfl); (· rfl)))) (allKeys rfl) (.cons rfl (.cons rfl .nil)), (by first | exact hs | exact hs.subD (fun _ h => by rcases List.mem_cons.1 h with rfl | h; exact .head _; exact .tail _ (.tail _ (.tail _ (.tail _ (.tail _ h))))))⟩
    · try simp only [decide_eq_true_eq, decide_eq_false_iff_not] at hc2
      obtain rfl : i = b.flaps.length := by omega
      have hn1 : ∀ q, oa = some q → w0.heap.size ≤ q.1 := fun q e => by subst e; exact (hs.own _ _ (.tail _ (.head _))).1
      obtain ⟨A3, c3, e3, hl3, hs⟩ := hs.freeze (R := []) (e := 27) (o := oa) (enc := encT) (sz := 1) 1 (by simp) hoa (fun _ => rfl) (by decide)
      have hA3 := acc_new hn1 e3
      rw [e3] at hf
      refine c_exit (q_thenX (q_thenX (q_blkX (q_thenN ?_))))
      refine c_reg ?_
      refine gL hf (g_mv hf rfl) (by decide) ?_; clear hf a; intro a hf
      refine gL hf (g_as hf rfl) (by decide) ?_; clear hf a; intro a hf
      refine e_nil ?_
      refine c_ret ?_
      refine e_ret1 hf rfl rfl ?_
      exact ⟨_, rfl, hs.below, A3, c3, ts, rfl, hrws, ⟨hl3, hs.rd (.head _), hA3⟩, hs.rd (.tail _ (.head _)), hfrs⟩
  · skip
    have hc1 : overP b (headI r) (lastI r) = false := hc1
    obtain ⟨oaX, tsX, hoX, hrX, hfX, hstX, hval⟩ : ∃ (oaX : Acc) (tsX : List Tr), AccOK encT 1 tsX oaX ∧ rowsT tsX = ring0 b r ∧ (∀ t ∈ tsX, (∀ bk off, t.1 = some ⟨bk, off, none⟩ → w0.heap.size ≤ bk) ∨ t.1 = A) ∧ St (Base.of w0) (TSD tsX :: Rd encF 5 fA b.flaps.length b.flaps :: Rd encR 2 rA b.rules.length b.rules :: Rd encI 1 A r.length r :: []) ((b1, .cells #[.int .i64 b.wide, .int .i64 b.high, .slice fA b.flaps.length fc, .slice rA b.rules.length rc] 25 (0, 0)) :: accH 27 oaX) w ∧ (Value.slice none 0 0) = accV 1 tsX.length oaX := ⟨none, [], rfl, by rw [ring0_eq hv hrow, if_neg (by rw [hc1]; decide)]; rfl, (fun t ht => by cases ht), hs.addD ((tsd_nil w).stab (fun t ht => by cases ht)), rfl⟩
    clear hs; have hs := hstX; rw [hval] at hf
    refine c_skip (q_thenN ?_)
    refine wp_seq ?_
    refine c_reg ?_
    refine gL hf (g_mv hf rfl) (by decide) ?_; clear hf a; intro a hf
    (first | (refine gL hf (g_ixE hf hs (.tail _ (.tail _ (.tail _ (.head _)))) SL27 rfl rfl (by omega)) (by decide) ?_) | (refine gL hf (g_ixD hf hs (.tail _ (.tail _ (.tail _ (.head _)))) SL27 rfl rfl (by omega)) (by decide) ?_)); clear hf a; intro a hf
    refine gL hf (g_ldE hf hs (.tail _ (.tail _ (.tail _ (.head _)))) T3 rfl rfl (by omega)) (by decide) ?_; clear hf a; intro a hf
    refine gL hf (g_addI hf rfl rfl (by rw [hhd]; omega)) (by decide) ?_; clear hf a; intro a hf
    refine gL hf (g_as hf rfl) (by decide) ?_; clear hf a; intro a hf
    refine e_nil ?_
    refine c_block ?_
    rw [show r.getD 0 default + 1 = (((headI r).toNat + 1 : Nat) : Int) by rw [hhd]; omega] at hf
    refine c_loopD (fun s => Base.of w0) (fun s => TSD s.2.2 :: Rd encF 5 fA b.flaps.length b.flaps :: Rd encR 2 rA b.rules.length b.rules :: Rd encI 1 A r.length r :: []) hf (List.range' 5 1 ++ List.range' 7 1 ++ List.range' 28 24) (σ := (Nat × Acc × List Tr)) (fun s => [(5, accV 1 s.2.2.length s.2.1), (7, .int .i64 (s.1 : Nat))]) (fun s => (b1, .cells #[.int .i64 b.wide, .int .i64 b.high, .slice fA b.flaps.length fc, .slice rA b.rules.length rc] 25 (0, 0)) :: accH 27 s.2.1) (fun s => (headI r).toNat + 1 ≤ s.1 ∧ s.1 ≤ b.flaps.length ∧ AccOK encT 1 s.2.2 s.2.1 ∧ rowsT s.2.2 = ring0 b r ++ (List.range s.1).flatMap (ringN b k r) ∧ ∀ t ∈ s.2.2, (∀ bk off, t.1 = some ⟨bk, off, none⟩ → w0.heap.size ≤ bk) ∨ t.1 = A) (fun s => b.flaps.length - s.1) ((headI r).toNat + 1, oaX, tsX) hs ⟨Nat.le_refl _, by dsimp only; omega, hoX, by dsimp only; rw [range_none (by omega), List.append_nil]; exact hrX, hfX⟩ (.cons rfl (.cons rfl .nil)) ?_
    intro ⟨i, oa, ts⟩ a w hJ hf hs
    dsimp only at hJ hf hs
    obtain ⟨hi1, hi2, hoa, hrws, hfrs⟩ := hJ
    refine wp_seq ?_
    refine c_reg ?_
    refine gL hf (g_mv hf rfl) (by decide) ?_; clear hf a; intro a hf
    refine gL hf (g_fa (off' := 2) hf F25_2 rfl rfl) (by decide) ?_; clear hf a; intro a hf
    refine gL hf (g_ld hf hs T22 rfl (k := 0) rfl rfl) (by decide) ?_; clear hf a; intro a hf
    refine gL hf (g_len hf SL22 rfl) (by decide) ?_; clear hf a; intro a hf
    refine gL hf (g_lss hf rfl rfl) (by decide) ?_; clear hf a; intro a hf
    refine e_nil ?_
    refine c_cond hf rfl (fun hc2 => ?_) (fun hc2 => ?_)
    · try simp only [decide_eq_true_eq, decide_eq_false_iff_not] at hc2
      have hii : inN b ((i : Nat) : Int) := ⟨by omega, by omega⟩
      refine c_skip (q_thenN ?_)
      refine c_blockS ?_
      refine c_reg ?_
      refine gL hf (g_mv hf rfl) (by decide) ?_; clear hf a; intro a hf
      refine gL hf (g_mv hf rfl) (by decide) ?_; clear hf a; intro a hf
      refine callL hf hs (c_IndexR _ _ _ r _ _ (hs.rd (.tail _ (.tail _ (.tail _ (.head _)))))) rfl rfl rfl E44 (by decide) ?_; clear hs hf a; intro w a hs hf
      refine gL hf (g_lss hf rfl rfl) (by decide) ?_; clear hf a; intro a hf
      refine gL hf (g_mv hf rfl) (by decide) ?_; clear hf a; intro a hf
      refine ggL hf rfl rfl (gyes_t _) (fun hg => g_ldW hf hs T25 rfl (k := 0) rfl rfl) (by decide) ?_; clear hf a; intro a hf
      refine ggL hf rfl rfl (gyes_t _) (fun hg => g_mv hf rfl) (by decide) ?_; clear hf a; intro a hf
      refine ggL hf rfl rfl (gyes_t _) (fun hg => g_mv hf rfl) (by decide) ?_; clear hf a; intro a hf
      refine callG hf hs rfl rfl (gyes_t _) (fun hg => ⟨_, _, _, _, c_over b _ _ _ _ _ _ true hv _ ⟨hs.rd (.tail _ (.head _)), hs.rd (.tail _ (.tail _ (.head _))), h.fc_, h.rc_⟩, rfl, evs_cons (ev_gv rfl hg) (evs_cons (ev_gv rfl hg) (evs_cons (ev_gv rfl hg) (evs_cons rfl evs_nil))), rfl⟩) E95 (by decide) ?_; clear hs hf a; intro w a hs hf
      rw [overB_overP hv] at hf
      refine gL hf (g_and hf rfl rfl) (by decide) ?_; clear hf a; intro a hf
      refine e_nil ?_
      refine c_cond hf rfl (fun hc3 => ?_) (fun hc3 => ?_)
      · skip
        rw [index_neg_iff] at hc3
        have hc8 : (decide (headI r < ((i : Nat) : Int)) && (!decide (((i : Nat) : Int) ∈ r) && overP b ((i : Nat) : Int) (lastI r))) = true := by rw [hc3, decide_eq_true (by omega)]; rfl
        have hrn : ringN b k r i = ringsL b k (r ++ [((i : Nat) : Int)]) := by unfold ringN; rw [if_pos hc8]
        simp only [Bool.and_eq_true, Bool.not_eq_true', decide_eq_true_eq, decide_eq_false_iff_not] at hc8
        have hrow2 := (row_snoc hrow.ne).2 ⟨hrow, hii, hc8.1, hc8.2.1, hc8.2.2⟩
        have hfr2 : freeN b (r ++ [((i : Nat) : Int)]) < k := by have := freeN_lt (b := b) (r := r) (i := i) (by omega) hc8.2.1; omega
        have hpb := part_bound hmany.2 hrow k (i + 1) (by omega)
        rw [fm_snoc, hrn, ← List.append_assoc, ← hrws, List.length_append, rowsT_len] at hpb
        have hrs8 := rings_bound hmany.2 k (r ++ [((i : Nat) : Int)])
        refine c_draw1 _ 8 Mx rfl hs (fun _ h => h.sub (.cons_cons _ (List.nil_sublist _))) ?_; intro w hs hS
        refine gA hf hS (i := 0) rfl (by kernel_rfl) (fun w hs => g_mv hf rfl) (by decide) ?_; clear hf a; intro a hf
        refine gA hf hS (i := 1) rfl (by kernel_rfl) (fun w hs => g_ldW hf hs T25 rfl (k := 0) rfl rfl) (by decide) ?_; clear hf a; intro a hf
        refine gA hf hS (i := 2) rfl (by kernel_rfl) (fun w hs => g_mv hf rfl) (by decide) ?_; clear hf a; intro a hf
        refine gA hf hS (i := 3) rfl (by kernel_rfl) (fun w hs => g_mv hf rfl) (by decide) ?_; clear hf a; intro a hf
        refine one (i := 4) (by kernel_rfl) ?_
        refine oCallX hf hs rfl (c_Plus _ _ r ((i : Nat) : Int) (by omega) _ (hs.rd (.tail _ (.tail _ (.tail _ (.head _)))))) rfl rfl rfl E99 (by decide) (fun _ h => h.sub (.cons_cons _ (List.nil_sublist _))) ?_; have hsz9 := fun bk hbk => hs.lt' (b := bk) hbk; have hsz0 := hs.below.size; intro v w1 a hR hb hs1 hS hf; obtain ⟨Ap, cp9, rfl, hou⟩ := hR; have hsz7 := hb.size; replace hs := hs.fresh hs1 (outFresh hou); clear hs1 hb
        refine one (i := 5) (by kernel_rfl) ?_
        refine oCallX hf hs rfl (ih _ (r ++ [((i : Nat) : Int)]) Ap cp9 _ _ _ _ ⟨hs.rd (.tail _ (.tail _ (.head _))), hs.rd (.tail _ (.tail _ (.tail _ (.head _)))), h.fc_, h.rc_⟩ hrow2 hfr2 hou.1 (hs.rd (.head _))) rfl rfl rfl E102 (by decide) (fun _ h => (h.sub (.cons_cons _ (List.nil_sublist _))).subD (fun _ h => (.tail _ h))) ?_; have hsz8 := fun bk hbk => hs.lt' (b := bk) hbk; intro v w1 a hR hb hs1 hS hf; obtain ⟨A5, c5, us, rfl, hus, houu, htu, hfu⟩ := hR; have hdis := dis_of hsz9 hsz8 hfu hou.2.2; replace hs := (hs.fresh hs1 houu.fresh).addD (D := TSD us) (htu.stab hdis); clear hs1 hb
        refine one (i := 6) (by kernel_rfl) ?_
        have hul : us.length = (ringsL b k (r ++ [((i : Nat) : Int)])).length := by rw [← hus, rowsT_len]
        refine oV hf rfl (v_accN (e := 27) (R := []) (o := oa) (l := ts) (l' := us) hf 1 hs (by simp) hoa AP82 (enc := encT) (fun _ => rfl) (by decide) (by intro x v hv9; rw [List.mem_singleton.1 hv9]; rfl) rfl rfl rfl (hs.rd (.tail _ (.head _))) (by omega) (by decide)) (by decide) (fun _ _ ⟨_, _, _, h⟩ => (h.sub (.cons_cons _ (List.nil_sublist _))).subD (fun _ h => (.tail _ (.tail _ (.tail _ h))))) ?_; clear hs hf hS a; rintro _ w ⟨oa2, rfl, hoa2, hs⟩ hS a hf; dsimp only [List.take, List.cons_append, List.nil_append] at hs; rw [List.append_nil] at hs
        replace hs := hs.addD (tsd_app (hs.data _ (.tail _ (.tail _ (.tail _ (.head _))))) (hs.data _ (.head _)))
        rw [← List.length_append] at hf
        refine gA hf hS (i := 7) rfl (by kernel_rfl) (fun w hs => g_as hf rfl) (by decide) ?_; clear hf a; intro a hf
        refine e_done1 (by kernel_rfl) ?_
        refine q_blkN (q_thenN ?_)
        refine c_reg1 ?_
        refine gL hf (g_mv hf rfl) (by decide) ?_; clear hf a; intro a hf
        refine gL hf (g_addI hf rfl rfl (by omega)) (by decide) ?_; clear hf a; intro a hf
        refine gL hf (g_as hf rfl) (by decide) ?_; clear hf a; intro a hf
        refine e_nil1 (q_thenN ?_)
        first | exact ⟨(i + 1, oa2, ts ++ us), ⟨by dsimp only; omega, by dsimp only; omega, hoa2, by dsimp only; rw [rowsT_app, hrws, hus, fm_snoc, hrn, List.append_assoc], fun t ht => by rcases List.mem_append.1 ht with ht | ht; exact hfrs t ht; exact .inl (new_of hsz0 hou.2.2 hfu hsz7 t ht)⟩, (by dsimp only; omega), hf.back (by repeat (first | (with_reducible exact Ext.base) | ((with_reducible refine Ext.cons ?_ ?_); (· rfl)) | ((with_reducible refine Ext.over ?_ ?_ ?_); (· rfl); (· rfl)))) (allKeys rfl) (.cons rfl (.cons rfl .nil)), (by first | exact hs | exact hs.subD (fun _ h => by rcases List.mem_cons.1 h with rfl | h; exact .head _; exact .tail _ (.tail _ (.tail _ (.tail _ (.tail _ h))))))⟩ | exact ⟨(i + 1, oa, ts), ⟨by dsimp only; omega, by dsimp only; omega, hoa, by dsimp only; rw [fm_snoc, hrn, List.append_nil]; exact hrws, hfrs⟩, (by dsimp only; omega), hf.back (by repeat (first | (with_reducible exact Ext.base) | ((with_reducible refine Ext.cons ?_ ?_); (· rfl)) | ((with_reducible refine Ext.over ?_ ?_ ?_); (· rfl); (· rfl)))) (allKeys rfl) (.cons rfl (.cons rfl .nil)), (by first | exact hs | exact hs.subD (fun _ h => by rcases List.mem_cons.1 h with rfl | h; exact .head _; exact .tail _ (.tail _ (.tail _ (.tail _ (.tail _ h))))))⟩
      · skip
        rw [index_neg_iff] at hc3
        have hrn : ringN b k r i = [] := by unfold ringN; rw [hc3]; simp
        refine c_skip (q_blkN (q_thenN ?_))
        refine c_reg1 ?_
        refine gL hf (g_mv hf rfl) (by decide) ?_; clear hf a; intro a hf
        refine gL hf (g_addI hf rfl rfl (by omega)) (by decide) ?_; clear hf a; intro a hf
        refine gL hf (g_as hf rfl) (by decide) ?_; clear hf a; intro a hf
        refine e_nil1 (q_thenN ?_)
        first | exact ⟨(i + 1, oa2, ts ++ us), ⟨by dsimp only; omega, by dsimp only; omega, hoa2, by dsimp only; rw [rowsT_app, hrws, hus, fm_snoc, hrn, List.append_assoc], fun t ht => by rcases List.mem_append.1 ht with ht | ht; exact hfrs t ht; exact .inl (new_of hsz0 hou.2.2 hfu hsz7 t ht)⟩, (by dsimp only; omega), hf.back (by repeat (first | (with_reducible exact Ext.base) | ((with_reducible refine Ext.cons ?_ ?_); (· rfl)) | ((with_reducible refine Ext.over ?_ ?_ ?_); (· rfl); (· rfl)))) (allKeys rfl) (.cons rfl (.cons rfl .nil)), (by first | exact hs | exact hs.subD (fun _ h => by rcases List.mem_cons.1 h with rfl | h; exact .head _; exact .tail _ (.tail _ (.tail _ (.tail _ (.tail _ h))))))⟩ | exact ⟨(i + 1, oa, ts), ⟨by dsimp only; omega, by dsimp only; omega, hoa, by dsimp only; rw [fm_snoc, hrn, List.append_nil]; exact hrws, hfrs⟩, (by dsimp only; omega), hf.back (by repeat (first | (with_reducible exact Ext.base) | ((with_reducible refine Ext.cons ?_ ?_); (· rfl)) | ((with_reducible refine Ext.over ?_ ?_ ?_); (· rfl); (· rfl)))) (allKeys rfl) (.cons rfl (.cons rfl .nil)), (by first | exact hs | exact hs.subD (fun _ h => by rcases List.mem_cons.1 h with rfl | h; exact .head _; exact .tail _ (.tail _ (.tail _ (.tail _ (.tail _ h))))))⟩
    · try simp only [decide_eq_true_eq, decide_eq_false_iff_not] at hc2
      obtain rfl : i = b.flaps.length := by omega
      have hn1 : ∀ q, oa = some q → w0.heap.size ≤ q.1 := fun q e => by subst e; exact (hs.own _ _ (.tail _ (.head _))).1
      obtain ⟨A3, c3, e3, hl3, hs⟩ := hs.freeze (R := []) (e := 27) (o := oa) (enc := encT) (sz := 1) 1 (by simp) hoa (fun _ => rfl) (by decide)
      have hA3 := acc_new hn1 e3
      rw [e3] at hf
      refine c_exit (q_thenX (q_thenX (q_blkX (q_thenN ?_))))
      refine c_reg ?_
      refine gL hf (g_mv hf rfl) (by decide) ?_; clear hf a; intro a hf
      refine gL hf (g_as hf rfl) (by decide) ?_; clear hf a; intro a hf
      refine e_nil ?_
      refine c_ret ?_
      refine e_ret1 hf rfl rfl ?_
      exact ⟨_, rfl, hs.below, A3, c3, ts, rfl, hrws, ⟨hl3, hs.rd (.head _), hA3⟩, hs.rd (.tail _ (.head _)), hfrs⟩

end Go.Proofs.YtpjhffockmnjbaaDoor
set_option linter.unusedVariables false
set_option linter.unusedSimpArgs false
namespace Go.Proofs.YtpjhffockmnjbaaDoor
open Go.RowKit
theorem c_rings {b : Sheet} (hv : Valid b) : ∀ k, RingsSpec b k
  | 0 => fun w r A cp fA fc rA rc h1 h2 h3 => absurd h3 (by omega)
  | k + 1 => fun w r A cp fA fc rA rc h1 h2 h3 h4 h5 => c_rings_step b k hv (c_rings hv k) fA fc rA rc A cp r w h1 h2 h3 h4 h5
def tA : Option Tr → Option Addr
  | none => none
  | some t => t.1
def tL : Option Tr → List Int
  | none => []
  | some t => t.2.2
def tC : Option Tr → Nat
  | none => 0
  | some t => t.2.1
def tM (o : Option Tr) : Option (List Int) := o.map fun t => t.2.2
/-- A row, or none, as it lies in memory. -/
def tOK (o : Option Tr) (m : Nat) (w : World) : Prop := (tL o).length ≤ tC o ∧ Rd encI 1 (tA o) (tL o).length (tL o) w ∧ (∀ bk off, tA o = some ⟨bk, off, none⟩ → m ≤ bk) ∧ (o.isSome = true → tL o ≠ [])
theorem tOK.isNone {o : Option Tr} {m : Nat} {w : World} (h : tOK o m w) : (tA o).isNone = o.isNone := by
  cases o with
  | none => rfl
  | some t =>
    have h1 := h.2.2.2 rfl
    have h2 := h.2.1.isSome (List.length_pos_iff.2 h1)
    obtain ⟨ad, ha⟩ := Option.isSome_iff_exists.1 h2
    rw [ha]; rfl
theorem tM_getD (o : Option Tr) : (tM o).getD [] = tL o := by cases o <;> rfl
theorem tM_none (o : Option Tr) : (tM o).isNone = o.isNone := by cases o <;> rfl
/-- The condition by which the specification chooses. -/
theorem pick_cond {o : Option Tr} {m : Nat} {w : World} (h : tOK o m w) (r : List Int) : (((tA o).isNone || decide (((r.length : Nat) : Int) < (((tL o).length : Nat) : Int))) || ((((r.length : Nat) : Int) == (((tL o).length : Nat) : Int)) && earlierB r (tL o))) = ((tM o).isNone || decide (r.length < ((tM o).getD []).length) || (decide (r.length = ((tM o).getD []).length) && earlierB r ((tM o).getD []))) := by
  rw [h.isNone, tM_none, tM_getD]
  have e1 : decide (((r.length : Nat) : Int) < (((tL o).length : Nat) : Int)) = decide (r.length < (tL o).length) := by rw [Bool.eq_iff_iff]; simp
  have e2 : (((r.length : Nat) : Int) == (((tL o).length : Nat) : Int)) = decide (r.length = (tL o).length) := by rw [Bool.eq_iff_iff]; simp; omega
  rw [e1, e2]
theorem pickE_yes {o : Option (List Int)} {r : List Int} (h : (o.isNone || decide (r.length < (o.getD []).length) || (decide (r.length = (o.getD []).length) && earlierB r (o.getD []))) = true) : pickE o r = some r := by unfold pickE; rw [if_pos h]
theorem pickE_no {o : Option (List Int)} {r : List Int} (h : (o.isNone || decide (r.length < (o.getD []).length) || (decide (r.length = (o.getD []).length) && earlierB r (o.getD []))) = false) : pickE o r = o := by unfold pickE; rw [if_neg (by rw [h]; decide)]
theorem rowsT_take {ts : List Tr} {j : Nat} (h : j < ts.length) : (rowsT ts).take (j + 1) = (rowsT ts).take j ++ [(ts.getD j default).2.2] := by
  have h1 : j < (rowsT ts).length := by rw [rowsT_len]; exact h
  rw [List.take_add_one, List.getElem?_eq_getElem h1]
  simp only [rowsT, List.getElem_map, Option.toList_some, List.getD_eq_getElem?_getD, List.getElem?_eq_getElem h, Option.getD_some]
theorem St.tsd_call {v w w' : World} {Ds : List (World → Prop)} {H : Own} {b : Nat} {o : Obj} (hs : St (Base.of v) Ds ((b, o) :: H) w) {us : List Tr} (htu : TSD us w') (hfu : ∀ t ∈ us, (∀ bk off, t.1 = some ⟨bk, off, none⟩ → w.heap.size ≤ bk) ∨ t.1 = some ⟨b, 0, none⟩) : Stable ((Base.of v).ex ++ ids H) w' (TSD us) :=
  htu.stab fun t ht bk off e hm => by
    have hm' : bk ∈ ids H := by simpa [Base.of] using hm
    have hlt : bk < w.heap.size := hs.lt' (List.mem_cons_of_mem _ hm')
    rcases hfu t ht with h7 | h7
    · have := h7 bk off e; omega
    · rw [h7] at e
      cases e
      have hn := hs.nodup
      simp only [ids, List.map_cons, List.nodup_cons] at hn
      exact hn.1 hm'
theorem ring_rows_ne {b : Sheet} (hv : Valid b) {i : Nat} (hi : i < b.flaps.length) {s : List Int} (h : s ∈ ringsL b 8 [((i : Nat) : Int)]) : s ≠ [] :=
  ((mem_rings 8 _ (row_one ⟨by omega, by omega⟩) (free_one hv _)).1 h).1.ne
def ringTo (b : Sheet) (i : Nat) : Option (List Int) := ((List.range i).flatMap fun i => ringsL b 8 [((i : Nat) : Int)]).foldl pickE none
theorem ringTo_succ (b : Sheet) (i : Nat) : ringTo b (i + 1) = (ringsL b 8 [((i : Nat) : Int)]).foldl pickE (ringTo b i) := by
  unfold ringTo; rw [List.range_succ, List.flatMap_append, List.foldl_append]; simp
/-! ### Orders -/
def OrdsSpec (b : Sheet) (k : Nat) : Prop := ∀ (w : World) (r : List Int) (A : Option Addr) (cp : Nat) (fA : Option Addr) (fc : Nat) (rA : Option Addr) (rc : Nat), ShIn b fA fc rA rc w → r.length + k = b.flaps.length → r.length ≤ cp → Rd encI 1 A r.length r w →
  Calls Tryd.prog 68 #[.agg #[.int .i64 b.wide, .int .i64 b.high, .slice fA b.flaps.length fc, .slice rA b.rules.length rc], .slice A r.length cp] w (RetX w (RowsOut (ordsR b k r) A w))
def ordN (b : Sheet) (k : Nat) (r : List Int) (i : Nat) : List (List Int) := if (!decide (((i : Nat) : Int) ∈ r) && doesB b (r ++ [((i : Nat) : Int)]) true) = true then ordsR b k (r ++ [((i : Nat) : Int)]) else []
theorem ords_full {b : Sheet} {k : Nat} {r : List Int} (h : r.length = b.flaps.length) : ordsR b k r = [r] := by cases k <;> simp only [ordsR] <;> rw [if_pos h]
theorem ords_more {b : Sheet} {k : Nat} {r : List Int} (h : r.length ≠ b.flaps.length) : ordsR b (k + 1) r = (List.range b.flaps.length).flatMap (ordN b k r) := by simp only [ordsR]; rw [if_neg h]; rfl
theorem ordsR_bound {b : Sheet} (hm : b.flaps.length ≤ 7) : ∀ (k : Nat) (r : List Int), (ordsR b k r).length ≤ 7 ^ k
  | 0, r => by simp only [ordsR]; split <;> simp
  | k + 1, r => by
    by_cases h : r.length = b.flaps.length
    · rw [ords_full h]; exact Nat.succ_le_of_lt (Nat.pow_pos (n := k + 1) (show 0 < 7 by decide))
    · rw [ords_more h]
      have h1 := fm_len2 (ordN b k r) (7 ^ k) b.flaps.length (fun i _ => by
        unfold ordN
        split
        · exact ordsR_bound hm k _
        · simp)
      have h2 := Nat.mul_le_mul_right (7 ^ k) hm
      rw [Nat.pow_succ, Nat.mul_comm]
      exact Nat.le_trans h1 h2
theorem ordPart_bound {b : Sheet} (hm : b.flaps.length ≤ 7) (r : List Int) {k i : Nat} (hk : k ≤ 6) (hi : i ≤ b.flaps.length) : ((List.range i).flatMap (ordN b k r)).length ≤ i * 117649 := by
  refine fm_len2 (ordN b k r) 117649 i fun j _ => ?_
  unfold ordN
  split
  · refine Nat.le_trans (ordsR_bound hm k _) (Nat.le_trans (Nat.pow_le_pow_right (by decide) hk) (by decide))
  · simp
/-! ### Rows -/
def ChainSpec (b : Sheet) (l : List Int) (k : Nat) : Prop := ∀ (w : World) (f : Int) (fA : Option Addr) (fc : Nat) (rA : Option Addr) (rc : Nat), ShIn b fA fc rA rc w → inN b f → l.idxOf f < k →
  Calls Tryd.prog 73 #[.agg #[.int .i64 b.wide, .int .i64 b.high, .slice fA b.flaps.length fc, .slice rA b.rules.length rc], .int .i64 f] w (Ret w (.int .i64 (chainR b k f)))
abbrev chF1 (b : Sheet) (k : Nat) (f : Int) : Nat → Int := fun i => if overP b f ((i : Nat) : Int) = true then chainR b k ((i : Nat) : Int) else 0
theorem chain_part {b : Sheet} {k : Nat} {f : Int} {i : Nat} : 0 ≤ maxTo (chF1 b k f) i ∧ maxTo (chF1 b k f) i ≤ ((k : Nat) : Int) + 1 := by
  refine maxTo_le (by omega) i fun j _ => ?_
  unfold chF1
  split
  · exact (chain_rng b k _).2
  · omega
theorem new_of2 {us : List Tr} {A : Option Addr} {m0 m1 m2 : Nat} (h0 : m0 ≤ m1) (hA : ∀ bk off, A = some ⟨bk, off, none⟩ → m1 ≤ bk) (hf : ∀ t ∈ us, (∀ bk off, t.1 = some ⟨bk, off, none⟩ → m2 ≤ bk) ∨ t.1 = A) (h02 : m0 ≤ m2) : ∀ t ∈ us, ∀ bk off, t.1 = some ⟨bk, off, none⟩ → m0 ≤ bk := fun t ht bk off e => by
  rcases hf t ht with h7 | h7
  · have := h7 bk off e; omega
  · have := hA bk off (h7 ▸ e); omega
end Go.Proofs.YtpjhffockmnjbaaDoor
set_option linter.unusedVariables false
set_option linter.unusedSimpArgs false
namespace Go.Proofs.YtpjhffockmnjbaaDoor
open Go.RowKit
theorem c_ringR (b : Sheet) (fA : Option Addr) (fc : Nat) (rA : Option Addr) (rc : Nat) (hv : Valid b) (w0 : World) (h : ShIn b fA fc rA rc w0) :
    Calls Tryd.prog 72 #[.agg #[.int .i64 b.wide, .int .i64 b.high, .slice fA b.flaps.length fc, .slice rA b.rules.length rc]] w0 (RetX w0 (fun v w0' => ∃ o : Option Tr, v = .slice (tA o) (tL o).length (tC o) ∧ tM o = ringO b ∧ tOK o w0.heap.size w0')) := by
  refine c_enter (n := 59) Tryd.func72 rfl rfl (Nat.le_of_ble_eq_true rfl) ?_; intro a hf; simp only [zipR] at hf
  have hs := St.start w0 [Rd encF 5 fA b.flaps.length b.flaps, Rd encR 2 rA b.rules.length b.rules] h.stab
  have hfm := h.F.2.1; have hrm := h.R.2.1; have hmany := hv.many
  refine c_reg ?_
  refine vL hf (v_boxA hf hs rfl) (by decide) ?_; clear hs hf a; rintro _ w ⟨b1, rfl, hs⟩ a hf
  refine gL hf (g_as hf rfl) (by decide) ?_; clear hf a; intro a hf
  refine e_nil ?_
  refine c_reg ?_
  refine gL hf (g_as hf rfl) (by decide) ?_; clear hf a; intro a hf
  refine e_nil ?_
  refine wp_seq ?_
  refine c_reg ?_
  refine gL hf (g_as hf rfl) (by decide) ?_; clear hf a; intro a hf
  refine e_nil ?_
  refine c_block ?_
  replace hs := hs.addD (D := Rd encI 1 (tA (none : Option Tr)) (tL (none : Option Tr)).length (tL (none : Option Tr))) ((rd_nil (enc := encI) (sz := 1) (A := none)).stable (fun b off e => by cases e))
  refine c_loopD (fun s => Base.of w0) (fun s => Rd encI 1 (tA s.2) (tL s.2).length (tL s.2) :: Rd encF 5 fA b.flaps.length b.flaps :: Rd encR 2 rA b.rules.length b.rules :: []) hf (List.range' 3 55) (σ := (Nat × Option Tr)) (fun s => [(3, .slice (tA s.2) (tL s.2).length (tC s.2)), (4, .int .i64 (s.1 : Nat))]) (fun s => (b1, .cells #[.int .i64 b.wide, .int .i64 b.high, .slice fA b.flaps.length fc, .slice rA b.rules.length rc] 25 (0, 0)) :: []) (fun s => s.1 ≤ b.flaps.length ∧ tM s.2 = ringTo b s.1 ∧ (tL s.2).length ≤ tC s.2 ∧ (∀ bk off, tA s.2 = some ⟨bk, off, none⟩ → w0.heap.size ≤ bk) ∧ (s.2.isSome = true → tL s.2 ≠ [])) (fun s => b.flaps.length - s.1) (0, none) hs ⟨Nat.zero_le _, rfl, Nat.le_refl _, (fun bk off e => by cases e), (fun e => by cases e)⟩ (.cons rfl (.cons rfl .nil)) ?_
  intro ⟨i, o1⟩ a w hJ hf hs
  dsimp only at hJ hf hs
  obtain ⟨hi1, hm1, hc1x, hn1, hp1⟩ := hJ
  refine wp_seq ?_
  refine c_reg ?_
  refine gL hf (g_mv hf rfl) (by decide) ?_; clear hf a; intro a hf
  refine gL hf (g_fa (off' := 2) hf F25_2 rfl rfl) (by decide) ?_; clear hf a; intro a hf
  refine gL hf (g_ld hf hs T22 rfl (k := 0) rfl rfl) (by decide) ?_; clear hf a; intro a hf
  refine gL hf (g_len hf SL22 rfl) (by decide) ?_; clear hf a; intro a hf
  refine gL hf (g_lss hf rfl rfl) (by decide) ?_; clear hf a; intro a hf
  refine e_nil ?_
  refine c_cond hf rfl (fun hc1 => ?_) (fun hc1 => ?_)
  · try simp only [decide_eq_true_eq, decide_eq_false_iff_not] at hc1
    have hii : i < b.flaps.length := by omega
    refine c_skip (q_thenN ?_)
    refine c_blockS ?_
    refine c_reg ?_
    refine gL hf (g_ldW hf hs T25 rfl (k := 0) rfl rfl) (by decide) ?_; clear hf a; intro a hf
    refine gL hf (g_mv hf rfl) (by decide) ?_; clear hf a; intro a hf
    refine vL hf (v_lits (len := 1) hf hs SL27 T3 (.cons rfl .nil) rfl rfl rfl rfl (by decide) rfl) (by decide) ?_; clear hs hf a; rintro _ w ⟨b2, rfl, hs⟩ a hf
    refine callX hf hs (c_rings hv 8 _ [((i : Nat) : Int)] (some ⟨b2, 0, none⟩) 1 _ _ _ _ ⟨hs.rd (.tail _ (.head _)), hs.rd (.tail _ (.tail _ (.head _))), h.fc_, h.rc_⟩ (row_one ⟨by omega, by omega⟩) (free_one hv _) (Nat.le_refl _) (rd_one (enc := encI) rfl (hs.own _ _ (.head _)).2)) rfl rfl rfl E102 (by decide) ?_; have hb2 := (hs.own _ _ (.head _)).1; have hsz8 := hs.below.size; intro v w1 a hR hb hs1 hf; obtain ⟨A5, c5, us, rfl, hus, houu, htu, hfu⟩ := hR; have hstu := hs.tsd_call htu hfu; replace hs := ((hs.fresh hs1 houu.fresh).dropN 1).addD (D := TSD us) hstu; clear hs1 hb
    refine gL hf (g_as hf rfl) (by decide) ?_; clear hf a; intro a hf
    refine e_nil ?_
    refine c_reg ?_
    refine gL hf (g_as hf rfl) (by decide) ?_; clear hf a; intro a hf
    refine e_nil ?_
    refine c_block ?_
    replace hs := hs.addD (hs.data _ (.tail _ (.tail _ (.head _))))
    refine c_loopD (fun s => Base.of w0) (fun s => Rd encI 1 (tA s.2) (tL s.2).length (tL s.2) :: TSD us :: Rd encT 1 A5 us.length us :: Rd encI 1 (tA o1) (tL o1).length (tL o1) :: Rd encF 5 fA b.flaps.length b.flaps :: Rd encR 2 rA b.rules.length b.rules :: []) hf (List.range' 3 1 ++ List.range' 6 1 ++ List.range' 18 40) (σ := (Nat × Option Tr)) (fun s => [(3, .slice (tA s.2) (tL s.2).length (tC s.2)), (6, .int .i64 (s.1 : Nat))]) (fun s => (b1, .cells #[.int .i64 b.wide, .int .i64 b.high, .slice fA b.flaps.length fc, .slice rA b.rules.length rc] 25 (0, 0)) :: []) (fun s => s.1 ≤ us.length ∧ tM s.2 = ((rowsT us).take s.1).foldl pickE (tM o1) ∧ (tL s.2).length ≤ tC s.2 ∧ (∀ bk off, tA s.2 = some ⟨bk, off, none⟩ → w0.heap.size ≤ bk) ∧ (s.2.isSome = true → tL s.2 ≠ [])) (fun s => us.length - s.1) (0, o1) hs ⟨Nat.zero_le _, rfl, hc1x, hn1, hp1⟩ (.cons rfl (.cons rfl .nil)) ?_
    intro ⟨j, o2⟩ a w hJ hf hs
    dsimp only at hJ hf hs
    obtain ⟨hj1, hm2, hc2x, hn2, hp2⟩ := hJ
    have hok2 : tOK o2 w0.heap.size _ := ⟨hc2x, hs.rd (.head _), hn2, hp2⟩
    refine wp_seq ?_
    refine c_reg ?_
    refine gL hf (g_mv hf rfl) (by decide) ?_; clear hf a; intro a hf
    refine gL hf (g_mv hf rfl) (by decide) ?_; clear hf a; intro a hf
    refine gL hf (g_len hf SL82 rfl) (by decide) ?_; clear hf a; intro a hf
    refine gL hf (g_lss hf rfl rfl) (by decide) ?_; clear hf a; intro a hf
    refine e_nil ?_
    refine c_cond hf rfl (fun hc2 => ?_) (fun hc2 => ?_)
    · try simp only [decide_eq_true_eq, decide_eq_false_iff_not] at hc2
      have husm := houu.2.1.2.1
      have hj9 : j < us.length := by omega
      have htj := (hs.rd (.tail _ (.head _))) _ (getD_mem (l := us) (i := j) hj9)
      refine c_skip (q_thenN ?_)
      refine c_blockS ?_
      refine c_reg ?_
      refine gL hf (g_mv hf rfl) (by decide) ?_; clear hf a; intro a hf
      refine gL hf (g_eqNil hf SE27 rfl rfl) (by decide) ?_; clear hf a; intro a hf
      refine gL hf (g_mv hf rfl) (by decide) ?_; clear hf a; intro a hf
      refine ggL hf rfl rfl (gyes_f _) (fun hg => g_mv hf rfl) (by decide) ?_; clear hf a; intro a hf
      refine ggL hf rfl rfl (gyes_f _) (fun hg => g_mv hf rfl) (by decide) ?_; clear hf a; intro a hf
      (first | (refine ggL hf rfl rfl (gyes_f _) (fun hg => g_ixE hf hs (.tail _ (.tail _ (.head _))) SL82 (ev_gv rfl hg) (ev_gv rfl hg) (by omega)) (by decide) ?_) | (refine ggL hf rfl rfl (gyes_f _) (fun hg => g_ixD hf hs (.tail _ (.tail _ (.head _))) SL82 (ev_gv rfl hg) (ev_gv rfl hg) (by omega)) (by decide) ?_)); clear hf a; intro a hf
      refine ggL hf rfl rfl (gyes_f _) (fun hg => g_ldE hf hs (.tail _ (.tail _ (.head _))) T27 (ev_gv rfl hg) rfl (by omega)) (by decide) ?_; clear hf a; intro a hf
      refine ggL hf rfl rfl (gyes_f _) (fun hg => g_len hf SL27 (ev_gv rfl hg)) (by decide) ?_; clear hf a; intro a hf
      refine ggL hf rfl rfl (gyes_f _) (fun hg => g_mv hf rfl) (by decide) ?_; clear hf a; intro a hf
      refine ggL hf rfl rfl (gyes_f _) (fun hg => g_len hf SL27 (ev_gv rfl hg)) (by decide) ?_; clear hf a; intro a hf
      refine ggL hf rfl rfl (gyes_f _) (fun hg => g_lss hf (ev_gv rfl hg) (ev_gv rfl hg)) (by decide) ?_; clear hf a; intro a hf
      refine gL hf (g_or hf rfl rfl) (by decide) ?_; clear hf a; intro a hf
      refine gL hf (g_mv hf rfl) (by decide) ?_; clear hf a; intro a hf
      refine ggL hf rfl rfl (gyes_f _) (fun hg => g_mv hf rfl) (by decide) ?_; clear hf a; intro a hf
      refine ggL hf rfl rfl (gyes_f _) (fun hg => g_mv hf rfl) (by decide) ?_; clear hf a; intro a hf
      (first | (refine ggL hf rfl rfl (gyes_f _) (fun hg => g_ixE hf hs (.tail _ (.tail _ (.head _))) SL82 (ev_gv rfl hg) (ev_gv rfl hg) (by omega)) (by decide) ?_) | (refine ggL hf rfl rfl (gyes_f _) (fun hg => g_ixD hf hs (.tail _ (.tail _ (.head _))) SL82 (ev_gv rfl hg) (ev_gv rfl hg) (by omega)) (by decide) ?_)); clear hf a; intro a hf
      refine ggL hf rfl rfl (gyes_f _) (fun hg => g_ldE hf hs (.tail _ (.tail _ (.head _))) T27 (ev_gv rfl hg) rfl (by omega)) (by decide) ?_; clear hf a; intro a hf
      refine ggL hf rfl rfl (gyes_f _) (fun hg => g_len hf SL27 (ev_gv rfl hg)) (by decide) ?_; clear hf a; intro a hf
      refine ggL hf rfl rfl (gyes_f _) (fun hg => g_mv hf rfl) (by decide) ?_; clear hf a; intro a hf
      refine ggL hf rfl rfl (gyes_f _) (fun hg => g_len hf SL27 (ev_gv rfl hg)) (by decide) ?_; clear hf a; intro a hf
      refine ggL hf rfl rfl (gyes_f _) (fun hg => g_eql hf (ev_gv rfl hg) (ev_gv rfl hg)) (by decide) ?_; clear hf a; intro a hf
      refine ggL hf rfl rfl (gyes_f _) (fun hg => g_mv hf (ev_gv rfl hg)) (by decide) ?_; clear hf a; intro a hf
      refine ggL hf rfl rfl (gyes_gt _ _) (fun hg => g_mv hf rfl) (by decide) ?_; clear hf a; intro a hf
      refine ggL hf rfl rfl (gyes_gt _ _) (fun hg => g_mv hf rfl) (by decide) ?_; clear hf a; intro a hf
      (first | (refine ggL hf rfl rfl (gyes_gt _ _) (fun hg => g_ixE hf hs (.tail _ (.tail _ (.head _))) SL82 (ev_gv rfl hg) (ev_gv rfl hg) (by omega)) (by decide) ?_) | (refine ggL hf rfl rfl (gyes_gt _ _) (fun hg => g_ixD hf hs (.tail _ (.tail _ (.head _))) SL82 (ev_gv rfl hg) (ev_gv rfl hg) (by omega)) (by decide) ?_)); clear hf a; intro a hf
      refine ggL hf rfl rfl (gyes_gt _ _) (fun hg => g_ldE hf hs (.tail _ (.tail _ (.head _))) T27 (ev_gv rfl hg) rfl (by omega)) (by decide) ?_; clear hf a; intro a hf
      refine ggL hf rfl rfl (gyes_gt _ _) (fun hg => g_mv hf rfl) (by decide) ?_; clear hf a; intro a hf
      refine callG hf hs rfl rfl (gyes_gt _ _) (fun hg => ⟨_, _, _, _, c_Earlier _ _ _ _ _ _ _ ((hs.rd (.tail _ (.head _))) _ (getD_mem (l := us) (i := j) (by omega))).2 (hs.rd (.head _)), rfl, evs_cons (ev_gv rfl hg) (evs_cons (ev_gv rfl hg) evs_nil), rfl⟩) E43 (by decide) ?_; clear hs hf a; intro w a hs hf
      refine ggL hf rfl rfl (gyes_f _) (fun hg => g_and hf (ev_gv rfl hg) (ev_gvand rfl hg)) (by decide) ?_; clear hf a; intro a hf
      refine gL hf (g_or hf rfl rfl) (by decide) ?_; clear hf a; intro a hf
      refine e_nil ?_
      refine c_cond hf rfl (fun hc3 => ?_) (fun hc3 => ?_)
      · skip
        have hpk := hc3; rw [show (((tA o2).isNone || decide (((((us.getD j default).2.2.length : Nat)) : Int) < (((tL o2).length : Nat) : Int))) || ((((((us.getD j default).2.2.length : Nat)) : Int) == (((tL o2).length : Nat) : Int)) && earlierB (us.getD j default).2.2 (tL o2))) = _ from pick_cond hok2 _] at hpk
        refine c_reg1 ?_
        refine gL hf (g_mv hf rfl) (by decide) ?_; clear hf a; intro a hf
        refine gL hf (g_mv hf rfl) (by decide) ?_; clear hf a; intro a hf
        (first | (refine gL hf (g_ixE hf hs (.tail _ (.tail _ (.head _))) SL82 rfl rfl (by omega)) (by decide) ?_) | (refine gL hf (g_ixD hf hs (.tail _ (.tail _ (.head _))) SL82 rfl rfl (by omega)) (by decide) ?_)); clear hf a; intro a hf
        refine gL hf (g_ldE hf hs (.tail _ (.tail _ (.head _))) T27 rfl rfl (by omega)) (by decide) ?_; clear hf a; intro a hf
        refine gL hf (g_as hf rfl) (by decide) ?_; clear hf a; intro a hf
        refine e_nil1 (q_blkN (q_thenN ?_))
        refine c_reg1 ?_
        refine gL hf (g_mv hf rfl) (by decide) ?_; clear hf a; intro a hf
        refine gL hf (g_addI hf rfl rfl (by omega)) (by decide) ?_; clear hf a; intro a hf
        refine gL hf (g_as hf rfl) (by decide) ?_; clear hf a; intro a hf
        refine e_nil1 (q_thenN ?_)
        first | exact ⟨(j + 1, some (us.getD j default)), ⟨by dsimp only; omega, by dsimp only; rw [rowsT_take hj9, List.foldl_append, ← hm2]; exact (pickE_yes hpk).symm, htj.1, (fun bk off e => by rcases hfu _ (getD_mem (l := us) (i := j) hj9) with h7 | h7; (exact Nat.le_trans hsz8 (h7 bk off e)); (rw [show tA (some (us.getD j default)) = (us.getD j default).1 from rfl, h7] at e; cases e; exact hb2)), (fun _ => ring_rows_ne hv hii (by rw [← hus]; exact List.mem_map.2 ⟨_, getD_mem (l := us) (i := j) hj9, rfl⟩))⟩, (by dsimp only; omega), hf.back (by repeat (first | (with_reducible exact Ext.base) | ((with_reducible refine Ext.cons ?_ ?_); (· rfl)) | ((with_reducible refine Ext.over ?_ ?_ ?_); (· rfl); (· rfl)))) (allKeys rfl) (.cons rfl (.cons rfl .nil)), (by first | exact hs | exact (hs.subD (fun _ h => .tail _ h)).addD (fun w' hw => ((hs.data _ (.tail _ (.head _))) w' hw _ (getD_mem (l := us) (i := j) hj9)).2))⟩ | exact ⟨(j + 1, o2), ⟨by dsimp only; omega, by dsimp only; rw [rowsT_take hj9, List.foldl_append, ← hm2]; exact (pickE_no hpk).symm, hc2x, hn2, hp2⟩, (by dsimp only; omega), hf.back (by repeat (first | (with_reducible exact Ext.base) | ((with_reducible refine Ext.cons ?_ ?_); (· rfl)) | ((with_reducible refine Ext.over ?_ ?_ ?_); (· rfl); (· rfl)))) (allKeys rfl) (.cons rfl (.cons rfl .nil)), (by first | exact hs | exact (hs.subD (fun _ h => .tail _ h)).addD (fun w' hw => ((hs.data _ (.tail _ (.head _))) w' hw _ (getD_mem (l := us) (i := j) hj9)).2))⟩
      · skip
        have hpk := hc3; rw [show (((tA o2).isNone || decide (((((us.getD j default).2.2.length : Nat)) : Int) < (((tL o2).length : Nat) : Int))) || ((((((us.getD j default).2.2.length : Nat)) : Int) == (((tL o2).length : Nat) : Int)) && earlierB (us.getD j default).2.2 (tL o2))) = _ from pick_cond hok2 _] at hpk
        refine c_skip (q_blkN (q_thenN ?_))
        refine c_reg1 ?_
        refine gL hf (g_mv hf rfl) (by decide) ?_; clear hf a; intro a hf
        refine gL hf (g_addI hf rfl rfl (by omega)) (by decide) ?_; clear hf a; intro a hf
        refine gL hf (g_as hf rfl) (by decide) ?_; clear hf a; intro a hf
        refine e_nil1 (q_thenN ?_)
        first | exact ⟨(j + 1, some (us.getD j default)), ⟨by dsimp only; omega, by dsimp only; rw [rowsT_take hj9, List.foldl_append, ← hm2]; exact (pickE_yes hpk).symm, htj.1, (fun bk off e => by rcases hfu _ (getD_mem (l := us) (i := j) hj9) with h7 | h7; (exact Nat.le_trans hsz8 (h7 bk off e)); (rw [show tA (some (us.getD j default)) = (us.getD j default).1 from rfl, h7] at e; cases e; exact hb2)), (fun _ => ring_rows_ne hv hii (by rw [← hus]; exact List.mem_map.2 ⟨_, getD_mem (l := us) (i := j) hj9, rfl⟩))⟩, (by dsimp only; omega), hf.back (by repeat (first | (with_reducible exact Ext.base) | ((with_reducible refine Ext.cons ?_ ?_); (· rfl)) | ((with_reducible refine Ext.over ?_ ?_ ?_); (· rfl); (· rfl)))) (allKeys rfl) (.cons rfl (.cons rfl .nil)), (by first | exact hs | exact (hs.subD (fun _ h => .tail _ h)).addD (fun w' hw => ((hs.data _ (.tail _ (.head _))) w' hw _ (getD_mem (l := us) (i := j) hj9)).2))⟩ | exact ⟨(j + 1, o2), ⟨by dsimp only; omega, by dsimp only; rw [rowsT_take hj9, List.foldl_append, ← hm2]; exact (pickE_no hpk).symm, hc2x, hn2, hp2⟩, (by dsimp only; omega), hf.back (by repeat (first | (with_reducible exact Ext.base) | ((with_reducible refine Ext.cons ?_ ?_); (· rfl)) | ((with_reducible refine Ext.over ?_ ?_ ?_); (· rfl); (· rfl)))) (allKeys rfl) (.cons rfl (.cons rfl .nil)), (by first | exact hs | exact (hs.subD (fun _ h => .tail _ h)).addD (fun w' hw => ((hs.data _ (.tail _ (.head _))) w' hw _ (getD_mem (l := us) (i := j) hj9)).2))⟩
    · try simp only [decide_eq_true_eq, decide_eq_false_iff_not] at hc2
      obtain rfl : j = us.length := by omega
      refine c_exit (q_thenX (q_thenX (q_blkX (q_blkN (q_thenN ?_)))))
      refine c_reg1 ?_
      refine gL hf (g_mv hf rfl) (by decide) ?_; clear hf a; intro a hf
      refine gL hf (g_addI hf rfl rfl (by omega)) (by decide) ?_; clear hf a; intro a hf
      refine gL hf (g_as hf rfl) (by decide) ?_; clear hf a; intro a hf
      refine e_nil1 (q_thenN ?_)
      exact ⟨(i + 1, o2), ⟨by dsimp only; omega, by dsimp only; rw [ringTo_succ, ← hus, ← hm1, hm2, List.take_of_length_le (by rw [rowsT_len]; exact Nat.le_refl _)], hc2x, hn2, hp2⟩, (by dsimp only; omega), hf.back (by repeat (first | (with_reducible exact Ext.base) | ((with_reducible refine Ext.cons ?_ ?_); (· rfl)) | ((with_reducible refine Ext.over ?_ ?_ ?_); (· rfl); (· rfl)))) (allKeys rfl) (.cons rfl (.cons rfl .nil)), (hs.dropN 0).subD (fun _ h => by rcases List.mem_cons.1 h with rfl | h; exact .head _; exact .tail _ (.tail _ (.tail _ (.tail _ h))))⟩
  · try simp only [decide_eq_true_eq, decide_eq_false_iff_not] at hc1
    obtain rfl : i = b.flaps.length := by omega
    refine c_exit (q_thenX (q_thenX (q_blkX (q_thenN ?_))))
    refine c_reg ?_
    refine gL hf (g_mv hf rfl) (by decide) ?_; clear hf a; intro a hf
    refine gL hf (g_as hf rfl) (by decide) ?_; clear hf a; intro a hf
    refine e_nil ?_
    refine c_ret ?_
    refine e_ret1 hf rfl rfl ?_
    exact ⟨_, rfl, hs.below, o1, rfl, hm1, hc1x, hs.rd (.head _), hn1, hp1⟩

theorem c_RingR (b : Sheet) (fA : Option Addr) (fc : Nat) (rA : Option Addr) (rc : Nat)  (w0 : World) (h : ShIn b fA fc rA rc w0) :
    Calls Tryd.prog 28 #[.agg #[.int .i64 b.wide, .int .i64 b.high, .slice fA b.flaps.length fc, .slice rA b.rules.length rc]] w0 (RetX w0 (fun v w0' => ∃ A c, v = .tuple #[.slice A (ringP b).1.length c, .int .i64 (ringP b).2] ∧ Out (ringP b).1 A c w0 w0')) := by
  refine c_enter (n := 16) Tryd.func28 rfl rfl (Nat.le_of_ble_eq_true rfl) ?_; intro a hf; simp only [zipR] at hf
  have hs := St.start w0 [Rd encF 5 fA b.flaps.length b.flaps, Rd encR 2 rA b.rules.length b.rules] h.stab
  have hfm := h.F.2.1; have hrm := h.R.2.1
  refine c_reg ?_
  refine vL hf (v_boxA hf hs rfl) (by decide) ?_; clear hs hf a; rintro _ w ⟨b1, rfl, hs⟩ a hf
  refine gL hf (g_as hf rfl) (by decide) ?_; clear hf a; intro a hf
  refine gL hf (g_as hf rfl) (by decide) ?_; clear hf a; intro a hf
  refine e_nil ?_
  refine wp_seq ?_
  refine c_reg ?_
  refine gL hf (g_ldW hf hs T25 rfl (k := 0) rfl rfl) (by decide) ?_; clear hf a; intro a hf
  refine callL hf hs (c_CheckR b _ _ _ _ _ ⟨hs.rd (.head _), hs.rd (.tail _ (.head _)), h.fc_, h.rc_⟩) rfl rfl rfl E18 (by decide) ?_; clear hs hf a; intro w a hs hf
  refine gL hf (g_as hf rfl) (by decide) ?_; clear hf a; intro a hf
  refine e_nil ?_
  refine c_reg ?_
  refine gL hf (g_mv hf rfl) (by decide) ?_; clear hf a; intro a hf
  refine gL hf (g_neq hf rfl rfl) (by decide) ?_; clear hf a; intro a hf
  refine e_nil ?_
  refine c_cond hf rfl (fun hc1 => ?_) (fun hc1 => ?_)
  · skip
    have hck : checkB b = false := by cases h9 : checkB b with
            | false => rfl
            | true => rw [h9] at hc1; cases hc1
    have hb40 := bad_ask hck true
    refine c_reg ?_
    refine gL hf (g_mv hf rfl) (by decide) ?_; clear hf a; intro a hf
    refine gL hf (g_as hf rfl) (by decide) ?_; clear hf a; intro a hf
    refine gL hf (g_as hf rfl) (by decide) ?_; clear hf a; intro a hf
    refine e_nil ?_
    refine c_ret (q_thenR ?_)
    refine e_ret2 hf rfl rfl rfl ?_
    have hor : ringP b = ([], 40) := bad_ring hck
    have e40 : (if checkB b = true then (0 : Int) else 40) = 40 := by rw [hck]; rfl
    exact ⟨_, rfl, hs.below, none, 0, by rw [hor, e40]; rfl, by rw [hor]; exact ⟨Nat.le_refl _, rd_nil, fun b o e => by cases e⟩⟩
  · skip
    have hck : checkB b = true := by cases h9 : checkB b with
            | true => rfl
            | false => rw [h9] at hc1; cases hc1
    have hv := valid_of hck
    have hmany := hv.many
    have hrl := hv.rules
    refine c_skip (q_thenN ?_)
    have hsz28 := hs.below.size
    refine c_reg ?_
    refine gL hf (g_ldW hf hs T25 rfl (k := 0) rfl rfl) (by decide) ?_; clear hf a; intro a hf
    refine callX hf hs (c_ringR b _ _ _ _ hv _ ⟨hs.rd (.head _), hs.rd (.tail _ (.head _)), h.fc_, h.rc_⟩) rfl rfl rfl E72 (by decide) ?_; intro v w1 a hR hb hs1 hf; obtain ⟨o9, rfl, hm9, hok9⟩ := hR; replace hs := hs.fresh hs1 (fresh_of (hok9.2.1.stable fun bk off e hm => by have h1 := hok9.2.2.1 bk off e; simp at hm; omega)); clear hs1 hb
    refine gL hf (g_as hf rfl) (by decide) ?_; clear hf a; intro a hf
    refine e_nil ?_
    refine wp_seq ?_
    refine c_reg ?_
    refine gL hf (g_mv hf rfl) (by decide) ?_; clear hf a; intro a hf
    refine gL hf (g_eqNil hf SE27 rfl rfl) (by decide) ?_; clear hf a; intro a hf
    refine e_nil ?_
    refine c_cond hf rfl (fun hc2 => ?_) (fun hc2 => ?_)
    · skip
      rw [hok9.isNone] at hc2
      refine c_reg ?_
      refine gL hf (g_as hf rfl) (by decide) ?_; clear hf a; intro a hf
      refine gL hf (g_as hf rfl) (by decide) ?_; clear hf a; intro a hf
      refine e_nil ?_
      refine c_ret (q_thenR ?_)
      refine e_ret2 hf rfl rfl rfl ?_
      have hor : ringP b = ([], 4) := by rw [ringO_ring hck, ← hm9]; cases o9 with
              | none => rfl
              | some t => cases hc2
      exact ⟨_, rfl, hs.below, none, 0, by rw [hor]; rfl, by rw [hor]; exact ⟨Nat.le_refl _, rd_nil, fun b o e => by cases e⟩⟩
    · skip
      rw [hok9.isNone] at hc2
      refine c_skip (q_thenN ?_)
      refine c_reg ?_
      refine gL hf (g_mv hf rfl) (by decide) ?_; clear hf a; intro a hf
      refine gL hf (g_as hf rfl) (by decide) ?_; clear hf a; intro a hf
      refine gL hf (g_as hf rfl) (by decide) ?_; clear hf a; intro a hf
      refine e_nil ?_
      refine c_ret ?_
      refine e_ret2 hf rfl rfl rfl ?_
      cases o9 with
      | none => cases hc2
      | some t =>
        have hor : ringP b = (t.2.2, 0) := by rw [ringO_ring hck, ← hm9]; rfl
        exact ⟨_, rfl, hs.below, t.1, t.2.1, by rw [hor]; rfl, by rw [hor]; exact ⟨hok9.1, hs.rd (.head _), fun bk off e => Nat.le_trans hsz28 (hok9.2.2.1 bk off e)⟩⟩

end Go.Proofs.YtpjhffockmnjbaaDoor
