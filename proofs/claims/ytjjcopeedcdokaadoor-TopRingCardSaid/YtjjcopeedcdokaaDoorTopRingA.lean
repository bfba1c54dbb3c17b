/- For every book and number the law TopRing returns true, and its arguments read afterwards as before: a sheet that has a ring folds in no order, no box surely passes and nobody can be taught; if it has none, who folds in the order that is told is worth no less. Conditions: the tables of the sides and of what is told hold what the text of the program lays. -/
import Derived.Test.YtjjcopeedcdokaaDoorComF
import Derived.Laws.Append
import Derived.Test.YtjjcopeedcdokaaDoorProg
import Derived.Test.YtjjcopeedcdokaaDoorTie
import Derived.Test.YtjjcopeedcdokaaDoorCards
set_option linter.unusedVariables false
set_option linter.unusedSimpArgs false
namespace Go.Proofs.YtjjcopeedcdokaaDoor
open Go.RowKit

section
variable {P : Program} {ds : List Deferred} {a : Act} {n : Nat} {L : Regs} {w : World} {t : TypeId} {w0 : Base} {Ds : List (World → Prop)} {H : Own}
/-- '==' and '!=' of a slice and nil. -/
structure SlE (P : Program) (ty : TypeId) : Prop where
  under : ∀ w, ∃ e, (underlying ty).run P w = .ok (.slice e) w
  guard : P.eqGuardType P.depth ty = false
theorem run_eqNil {ty : TypeId} (hT : SlE P ty) (A : Option Addr) (len c : Nat) : (Op.equal ty (.slice A len c) (.slice none 0 0)).run P w = .ok A.isNone w := by
  obtain ⟨e, he⟩ := hT.under w
  show (Op.equalIn (9999 + 1) ty (.slice A len c) (.slice none 0 0)).run P w = _
  unfold Op.equalIn
  cases A <;> simp [he]
theorem g_eqNil (hf : Fr ds a n L) {ty ty' : TypeId} (hT : SlE P ty) {x y : Operand} {A : Option Addr} {len c : Nat} (hx : ev L x = some (.slice A len c)) (hy : ev L y = some (.slice none 0 0)) : Gets P (.binOp .eql ty x y ty') t a w (.bool A.isNone) := by
  intro d p af g
  have e1 := run_eqNil (w := w) hT A len c
  have e2 : (program).run P w = .ok P w := rfl
  simp only [execOp, Sem.run_bind, hf.eval hx, hf.eval hy, eqGuard, Bool.not_eq_true, Sem.run_ite]
  simp [binOp, e1, e2, hT.guard]
theorem g_neNil (hf : Fr ds a n L) {ty ty' : TypeId} (hT : SlE P ty) {x y : Operand} {A : Option Addr} {len c : Nat} (hx : ev L x = some (.slice A len c)) (hy : ev L y = some (.slice none 0 0)) : Gets P (.binOp .neq ty x y ty') t a w (.bool !A.isNone) := by
  intro d p af g
  have e1 := run_eqNil (w := w) hT A len c
  have e2 : (program).run P w = .ok P w := rfl
  simp only [execOp, Sem.run_bind, hf.eval hx, hf.eval hy, eqGuard, Bool.not_eq_true, Sem.run_ite]
  simp [binOp, e1, e2, hT.guard]
section
variable {α : Type} {enc : α → List Value} {sz by_ : Nat} {ts e : TypeId}
end
end
end Go.Proofs.YtjjcopeedcdokaaDoor

set_option linter.unusedVariables false
namespace Go.Proofs.YtjjcopeedcdokaaDoor
def earlierB : List Int → List Int → Bool
  | [], [] => false
  | [], _ :: _ => true
  | _ :: _, [] => false
  | x :: l, y :: m => if x = y then earlierB l m else decide (x < y)
/-- A sheet with how its flaps meet, as they lie in memory. -/
def overT (b : Sheet) (mp : MP) (i j : Int) : Bool := decide (0 < mget mp i j) && b.rules.any fun x => sameR x ⟨i, j⟩
end Go.Proofs.YtjjcopeedcdokaaDoor

set_option linter.unusedVariables false
set_option linter.unusedSimpArgs false
namespace Go.Proofs.YtjjcopeedcdokaaDoor
open Go.RowKit
theorem T83 : Ty Tryd.prog 83 false 1 (.nilFunc) := ⟨fun _ => by kernel_rfl, fun _ => by kernel_rfl, fun _ => by kernel_rfl⟩
theorem SE31 : SlE Tryd.prog 31 := ⟨fun _ => ⟨_, run_underlying Tryd.underlying31 _⟩, by kernel_rfl⟩
theorem E18 : Enters Tryd.prog 18 := fun _ _ => by kernel_rfl
theorem E66 : Enters Tryd.prog 66 := fun _ _ => by kernel_rfl
theorem E67 : Enters Tryd.prog 67 := fun _ _ => by kernel_rfl
theorem E68 : Enters Tryd.prog 68 := fun _ _ => by kernel_rfl
theorem E103 : Enters Tryd.prog 103 := fun _ _ => by kernel_rfl
theorem E104 : Enters Tryd.prog 104 := fun _ _ => by kernel_rfl
theorem E127 : Enters Tryd.prog 127 := fun _ _ => by kernel_rfl
end Go.Proofs.YtjjcopeedcdokaaDoor

set_option linter.unusedVariables false
set_option linter.unusedSimpArgs false
namespace Go.Proofs.YtjjcopeedcdokaaDoor
open Go.RowKit
theorem overT_eq {b : Sheet} {mp : MP} (hm : meetsOK b mp) {i j : Int} (hi : inN b i) (hj : inN b j) : overT b mp i j = overP b i j := by
  unfold overT overP
  rw [hm i j, if_pos ⟨hi, hj⟩]
end Go.Proofs.YtjjcopeedcdokaaDoor

set_option linter.unusedVariables false
set_option linter.unusedSimpArgs false
namespace Go.Proofs.YtjjcopeedcdokaaDoor
open Go.RowKit
section
variable {P : Program} {Q : Exit → Act → World → Prop} {ds : List Deferred} {a : Act} {n : Nat} {L : Regs} {w : World}
/-- A loop, whose base and whose data may turn with the state. -/
theorem c_loopD {body : Code} {σ : Type} (B : σ → Base) (DF : σ → List (World → Prop)) (hf : Fr ds a n L) (ms : List Nat) (N : σ → Regs) (G : σ → Own) (J : σ → Prop) (μ : σ → Nat) (s0 : σ) (hs : St (B s0) (DF s0) (G s0) w) (hJ : J s0) (hN : Has L (N s0))
    (h : ∀ s a w, J s → Fr ds a n (N s ++ dropR ms L) → St (B s) (DF s) (G s) w → body.wp P (Exit.then (fun a' w' => ∃ s', J s' ∧ μ s' < μ s ∧ Fr ds a' n (N s' ++ dropR ms L) ∧ St (B s') (DF s') (G s') w') Q) a w) : (Code.loop body).wp P Q a w := by
  classical
  let I : Act → World → Prop := fun a w => ∃ s, J s ∧ Fr ds a n (N s ++ dropR ms L) ∧ St (B s) (DF s) (G s) w
  let M : Act → World → Nat → Prop := fun a w m => ∃ s, J s ∧ Fr ds a n (N s ++ dropR ms L) ∧ St (B s) (DF s) (G s) w ∧ μ s = m
  have ex : ∀ a w, I a w → ∃ m, M a w m ∧ ∀ m', M a w m' → m ≤ m' := by
    rintro a w ⟨s, h1, h2, h3⟩
    have : ∀ k, (∃ m, m ≤ k ∧ M a w m) → ∃ m, M a w m ∧ ∀ m', M a w m' → m ≤ m' := by
      intro k
      induction k with
      | zero => rintro ⟨m, hm, hM⟩; exact ⟨m, hM, fun m' _ => by omega⟩
      | succ k ih =>
        rintro ⟨m, hm, hM⟩
        by_cases hk : ∃ m, m ≤ k ∧ M a w m
        · exact ih hk
        · exact ⟨m, hM, fun m' hm' => by
            rcases Nat.lt_or_ge k m' with h | h
            · omega
            · exact absurd ⟨m', h, hm'⟩ hk⟩
    exact this (μ s) ⟨μ s, Nat.le_refl _, s, h1, h2, h3, rfl⟩
  refine wp_loop I (fun a w => if hI : I a w then (ex a w hI).choose else 0) ⟨s0, hJ, hf.over ms hN.spec, hs⟩ ?_
  intro a w hI
  obtain ⟨⟨s, h1, h2, h3, h4⟩, hmin⟩ := (ex a w hI).choose_spec
  refine wp_mono (h s a w h1 h2 h3) ?_
  intro e a' w' he
  cases e with
  | normal =>
    obtain ⟨s', k1, k2, k3, k4⟩ := he
    have hI' : I a' w' := ⟨s', k1, k3, k4⟩
    refine ⟨hI', ?_⟩
    rw [dif_pos hI', dif_pos hI, ← h4]
    exact Nat.lt_of_le_of_lt ((ex a' w' hI').choose_spec.2 (μ s') ⟨s', k1, k3, k4, rfl⟩) k2
  | _ => exact he

end

end Go.Proofs.YtjjcopeedcdokaaDoor

set_option linter.unusedVariables false
set_option linter.unusedSimpArgs false
namespace Go.Proofs.YtjjcopeedcdokaaDoor
open Go.RowKit
def bL (o : Best) : Option (List Int) := o.map (·.2)
def RingR (c : RingCtx) (k : Nat) (r : List Int) (o : Best) (w : World) (v : Value) (w' : World) : Prop :=
  v = .tuple #[] ∧ ∃ o', bL o' = ringF c.b k r (bL o) ∧ bOK c.bb c.M o' w' ∧ w'.heap[c.bb]? = some (.cells #[bV o'] 31 (0, 0)) ∧ w'.os = w.os ∧ w'.tape = w.tape ∧ w'.output = w.output ∧ Later [c.bb] w w'
def RingSpec (c : RingCtx) (k : Nat) : Prop := ∀ (w : World) (r : List Int) (A : Option Addr) (cp : Nat) (o : Best), Later [c.bb] c.w3 w → w.heap[c.bb]? = some (.cells #[bV o] 31 (0, 0)) → bOK c.bb c.M o w → r ≠ [] → (∀ y ∈ r, inN c.b y) → freeN c.b r < k → r.length + freeN c.b r ≤ c.b.flaps.length → Rd encI 1 A r.length r w → (∀ bk off, A = some ⟨bk, off, none⟩ → bk ≠ c.bb ∧ c.M ≤ bk) → r.length ≤ cp →
  Calls Tryd.prog 66 #[.slice A r.length cp, .pointer (some ⟨c.sb, 0, none⟩), .pointer (some ⟨c.bb, 0, none⟩), .pointer (some ⟨c.nb, 0, none⟩)] w (RetR (RingR c k r o w))
theorem ringLt_eq {bb M : Nat} {o : Best} {w : World} (h : bOK bb M o w) (r : List Int) : ((bA o).isNone || decide (((r.length : Nat) : Int) < ((bN o : Nat) : Int))) = ringLt (bL o) r := by
  rw [h.isNone]
  cases o with
  | none => rfl
  | some p => simp [bN, bL, ringLt]
theorem ringCut_eq {bb M : Nat} {o : Best} {w : World} (h : bOK bb M o w) (r : List Int) : (!(bA o).isNone && decide (((bN o : Nat) : Int) ≤ ((r.length : Nat) : Int))) = ringCut (bL o) r := by
  rw [h.isNone]
  cases o with
  | none => rfl
  | some p => simp [bN, bL, ringCut]
theorem range_fold_skip {b : Sheet} {r : List Int} {f : List Int → Option (List Int) → Option (List Int)} {x : Option (List Int)} : ∀ i : Nat, ((i : Nat) : Int) ≤ headI r + 1 → (List.range i).foldl (ringStep b r f) x = x
  | 0, _ => rfl
  | i + 1, h => by
    rw [List.range_succ, List.foldl_append, range_fold_skip i (by omega)]
    simp only [List.foldl_cons, List.foldl_nil, ringStep]
    rw [show decide (headI r < ((i : Nat) : Int)) = false by simp; omega]
    simp
theorem range_fold_succ {b : Sheet} {r : List Int} {f : List Int → Option (List Int) → Option (List Int)} {x : Option (List Int)} (i : Nat) : (List.range (i + 1)).foldl (ringStep b r f) x = ringStep b r f ((List.range i).foldl (ringStep b r f) x) i := by
  rw [List.range_succ, List.foldl_append]; rfl
end Go.Proofs.YtjjcopeedcdokaaDoor

set_option linter.unusedVariables false
set_option linter.unusedSimpArgs false
namespace Go.Proofs.YtjjcopeedcdokaaDoor
theorem earlier_app (p : List Int) {x y : Int} (h : x < y) (s t : List Int) : earlierB (p ++ x :: s) (p ++ y :: t) = true := by
  induction p with
  | nil => simp only [List.nil_append, earlierB]; rw [if_neg (by omega)]; simpa using h
  | cons a p ih => simp only [List.cons_append, earlierB, if_true]; exact ih
theorem earlier_self : ∀ l : List Int, earlierB l l = false
  | [] => rfl
  | x :: l => by simp only [earlierB, if_true]; exact earlier_self l
theorem earlier_asymm : ∀ {l m : List Int}, earlierB l m = true → earlierB m l = false
  | [], [], h => by cases h
  | [], _ :: _, _ => rfl
  | _ :: _, [], h => by cases h
  | x :: l, y :: m, h => by
    simp only [earlierB] at h ⊢
    by_cases e : x = y
    · subst e; rw [if_pos rfl] at h ⊢; exact earlier_asymm h
    · rw [if_neg e] at h; rw [if_neg (fun e' => e e'.symm)]; simp at h ⊢; omega
theorem ords_app (b : Sheet) : ∀ (k : Nat) (p : List Int) (d : List Bool), ∀ x ∈ ordsP b k p d, ∃ t, x = p ++ t
  | 0, p, d, x, h => ⟨[], by simpa [ordsP] using h⟩
  | k + 1, p, d, x, h => by
    simp only [ordsP, List.mem_flatMap, ordStepP] at h
    obtain ⟨i, _, hi⟩ := h
    split at hi
    · cases hi
    · obtain ⟨t, rfl⟩ := ords_app b k _ _ x hi
      exact ⟨((i : Nat) : Int) :: t, by simp⟩
theorem ords_sorted (b : Sheet) : ∀ (k : Nat) (p : List Int) (d : List Bool), (ordsP b k p d).Pairwise fun x y => earlierB x y = true
  | 0, p, d => by simp [ordsP]
  | k + 1, p, d => by
    simp only [ordsP]
    rw [List.pairwise_flatMap]
    refine ⟨fun i _ => ?_, ?_⟩
    · unfold ordStepP
      split
      · simp
      · exact ords_sorted b k _ _
    · rw [List.pairwise_iff_getElem]
      intro i j hi hj hij x hx y hy
      simp only [List.getElem_range, ordStepP] at hx hy
      split at hx
      · cases hx
      · split at hy
        · cases hy
        · obtain ⟨s, rfl⟩ := ords_app b k _ _ x hx
          obtain ⟨t, rfl⟩ := ords_app b k _ _ y hy
          have := earlier_app p (x := ((i : Nat) : Int)) (y := ((j : Nat) : Int)) (by omega) s t
          simpa using this
theorem allO_sorted (b : Sheet) : (allO b).Pairwise fun x y => earlierB x y = true := ords_sorted b _ _ _
theorem allO_first {b : Sheet} {x : List Int} {rest : List (List Int)} (h : allO b = x :: rest) {y : List Int} (hy : y ∈ allO b) : earlierB y x = false := by
  have hs := allO_sorted b
  rw [h] at hs hy
  rcases List.mem_cons.1 hy with rfl | hy
  · exact earlier_self _
  · exact earlier_asymm (List.rel_of_pairwise_cons hs hy)
end Go.Proofs.YtjjcopeedcdokaaDoor

set_option linter.unusedVariables false
set_option linter.unusedSimpArgs false
namespace Go.Proofs.YtjjcopeedcdokaaDoor
theorem does_late {b : Sheet} (hck : checkB b = true) {l : List Int} (ho : ordB b l = true) (h : ¬ 2 - worst b l b.rules.length < 2) : (orderP b).2 = 0 ∧ (ringP b).2 = 4 ∧ earlierB l (orderP b).1 = false := by
  have hv := valid_of hck
  have h1 := worst_le b l b.rules.length
  have hok := (does_two hv ho).1 (by omega)
  have hm := (mem_allO hv).2 ⟨hok, (ordB_iff.1 ho).1⟩
  rcases told_cases hck with ⟨_, _, ha, _⟩ | ⟨lo, rest, h1, h2, _, h3, _⟩
  · rw [ha] at hm; cases hm
  · rw [h1, h3]
    exact ⟨rfl, rfl, allO_first h2 hm⟩
end Go.Proofs.YtjjcopeedcdokaaDoor

set_option linter.unusedVariables false
set_option linter.unusedSimpArgs false
namespace Go.Proofs.YtjjcopeedcdokaaDoor
open Go.RowKit
theorem c_Contains (A : Option Addr) (n c : Nat) (l : List Int) (v : Int) (w0 : World) (h : Rd encI 1 A n l w0) :
    Calls Tryd.prog 68 #[.slice A n c, .int .i64 v] w0 (Ret w0 (.bool (l.any fun x => v == x))) := by
  refine c_enter (n := 9) Tryd.func68 rfl rfl (Nat.le_of_ble_eq_true rfl) ?_; intro a hf; simp only [zipR] at hf
  have hs := St.start w0 [Rd encI 1 A n l] h.st1
  refine c_reg ?_
  refine gL hf (g_as hf rfl) (by decide) ?_; clear hf a; intro a hf
  refine e_nil ?_
  refine c_reg ?_
  refine gL hf (g_mv hf rfl) (by decide) ?_; clear hf a; intro a hf
  refine gL hf (g_mv hf rfl) (by decide) ?_; clear hf a; intro a hf
  refine callL hf hs (c_Index _ _ _ _ _ _ (hs.rd (.head _))) rfl rfl rfl E96 (by decide) ?_; clear hs hf a; intro w a hs hf
  refine gL hf (g_geq hf rfl rfl) (by decide) ?_; clear hf a; intro a hf
  refine gL hf (g_as hf rfl) (by decide) ?_; clear hf a; intro a hf
  refine e_nil ?_
  refine c_ret ?_
  refine e_ret1 hf rfl rfl ?_
  exact ⟨by rw [indexZ_ge], hs.below⟩

end Go.Proofs.YtjjcopeedcdokaaDoor

set_option linter.unusedVariables false
set_option linter.unusedSimpArgs false
namespace Go.Proofs.YtjjcopeedcdokaaDoor
open Go.RowKit
theorem c_over1 (r q : Rule) (bq : Nat) (w0 : World) (hq : BlkIs bq #[.int .i64 q.over, .int .i64 q.under] 51 (0, 0) w0) :
    Calls Tryd.prog 104 #[.agg #[.int .i64 r.over, .int .i64 r.under], .pointer (some ⟨bq, 0, none⟩)] w0 (Ret w0 (.bool (sameR r q))) := by
  refine c_enter (n := 7) Tryd.func104 rfl rfl (Nat.le_of_ble_eq_true rfl) ?_; intro a hf; simp only [zipR] at hf
  have hs := St.start w0 [BlkIs bq #[.int .i64 q.over, .int .i64 q.under] 51 (0, 0)] hq.st1
  refine c_reg ?_
  refine vL hf (v_boxA hf hs rfl) (by decide) ?_; clear hs hf a; rintro _ w ⟨b1, rfl, hs⟩ a hf
  refine gL hf (g_as hf rfl) (by decide) ?_; clear hf a; intro a hf
  refine e_nil ?_
  refine c_reg ?_
  refine gL hf (g_ldW hf hs T51 rfl (k := 0) rfl rfl) (by decide) ?_; clear hf a; intro a hf
  refine gL hf (g_ldBW hf hs (.head _) T51 rfl rfl) (by decide) ?_; clear hf a; intro a hf
  refine gL hf (g_eqS hf Q51 rfl rfl) (by decide) ?_; clear hf a; intro a hf
  refine gL hf (g_as hf rfl) (by decide) ?_; clear hf a; intro a hf
  refine e_nil ?_
  refine c_ret ?_
  refine e_ret1 hf rfl rfl ?_
  exact ⟨rfl, hs.below⟩

theorem c_IndexFunc (A : Option Addr) (n c : Nat) (l : List Rule) (q : Rule) (bq : Nat) (w0 : World) (h : Rd encR 2 A n l w0) (hq : BlkIs bq #[.int .i64 q.over, .int .i64 q.under] 51 (0, 0) w0) :
    Calls Tryd.prog 127 #[.slice A n c, .func (.func 104) #[] #[.pointer (some ⟨bq, 0, none⟩)]] w0 (Ret w0 (.int .i64 (indexZ (fun x => sameR x q) l))) := by
  refine c_enter (n := 19) Tryd.func127 rfl rfl (Nat.le_of_ble_eq_true rfl) ?_; intro a hf; simp only [zipR] at hf
  have hs := St.start w0 [Rd encR 2 A n l, BlkIs bq #[.int .i64 q.over, .int .i64 q.under] 51 (0, 0)] (stab_app h.st1 hq.st1)
  have hn := h.1; have hm := h.2.1
  refine c_reg ?_
  refine gL hf (g_as hf rfl) (by decide) ?_; clear hf a; intro a hf
  refine e_nil ?_
  refine wp_seq ?_
  refine c_reg ?_
  refine gL hf (g_mv hf rfl) (by decide) ?_; clear hf a; intro a hf
  refine gL hf (g_len hf SL23 rfl) (by decide) ?_; clear hf a; intro a hf
  refine gL hf (g_mv hf rfl) (by decide) ?_; clear hf a; intro a hf
  refine e_nil ?_
  refine c_block ?_
  refine c_loop hf hs [4, 5, 8, 9, 10, 11, 12, 13, 14, 15, 16, 17, 18] (σ := Nat) (fun k => [(8, .int .i64 (k : Nat))]) (fun k => _) (fun k => k ≤ n ∧ ∀ j, j < k → sameR (l.getD j default) q = false) (fun k => n - k) 0 ⟨by omega, fun z hz => absurd hz (by omega)⟩ (.cons rfl .nil) rfl ?_
  intro k a w hJ hf hs
  obtain ⟨hk, hp⟩ := hJ
  refine c_reg ?_
  refine gL hf (g_lss hf rfl rfl) (by decide) ?_; clear hf a; intro a hf
  refine e_nil ?_
  refine c_condS hf rfl (fun hc1 => ?_) (fun hc1 => ?_)
  · try simp only [decide_eq_true_eq, decide_eq_false_iff_not] at hc1
    refine c_skip (q_thenN ?_)
    refine c_blockS ?_
    refine c_reg ?_
    refine gL hf (g_mv hf rfl) (by decide) ?_; clear hf a; intro a hf
    refine gL hf (g_as hf rfl) (by decide) ?_; clear hf a; intro a hf
    refine e_nil ?_
    refine c_reg ?_
    refine gL hf (g_mv hf rfl) (by decide) ?_; clear hf a; intro a hf
    refine gL hf (g_mv hf rfl) (by decide) ?_; clear hf a; intro a hf
    refine gL hf (g_mv hf rfl) (by decide) ?_; clear hf a; intro a hf
    (first | (refine gL hf (g_ixE hf hs (.head _) SL23 rfl rfl (by omega)) (by decide) ?_) | (refine gL hf (g_ixD hf hs (.head _) SL23 rfl rfl (by omega)) (by decide) ?_)); clear hf a; intro a hf
    refine gL hf (g_ldEW hf hs (.head _) T51 rfl rfl (by omega)) (by decide) ?_; clear hf a; intro a hf
    refine callL hf hs (c_over1 (l.getD k default) q bq _ (hs.rd (.tail _ (.head _)))) rfl rfl rfl E104 (by decide) ?_; clear hs hf a; intro w a hs hf
    refine e_nil ?_
    refine c_cond hf rfl (fun hc2 => ?_) (fun hc2 => ?_)
    · try simp only [decide_eq_true_eq, decide_eq_false_iff_not] at hc2
      refine c_reg ?_
      refine gL hf (g_mv hf rfl) (by decide) ?_; clear hf a; intro a hf
      refine gL hf (g_as hf rfl) (by decide) ?_; clear hf a; intro a hf
      refine e_nil ?_
      refine c_ret (q_blkR (q_thenR (q_thenR (q_blkR (q_thenR ?_)))))
      refine e_ret1 hf rfl rfl ?_
      exact ⟨by rw [indexZ_found (p := fun x => sameR x q) (by omega) hp hc2], hs.below⟩
    · try simp only [decide_eq_true_eq, decide_eq_false_iff_not] at hc2
      refine c_skip (q_blkN (q_thenN ?_))
      refine c_reg1 ?_
      refine gL hf (g_addI hf rfl rfl (by omega)) (by decide) ?_; clear hf a; intro a hf
      refine gL hf (g_mv hf rfl) (by decide) ?_; clear hf a; intro a hf
      refine e_nil1 (q_thenN ?_)
      exact ⟨k + 1, ⟨by omega, lt_succ hp hc2⟩, (by omega), hf.back (by repeat (first | (with_reducible exact Ext.base) | ((with_reducible refine Ext.cons ?_ ?_); (· rfl)) | ((with_reducible refine Ext.over ?_ ?_ ?_); (· rfl); (· rfl)))) (allKeys rfl) (.cons rfl .nil), hs.dropN 0⟩
  · try simp only [decide_eq_true_eq, decide_eq_false_iff_not] at hc1
    refine c_exit (q_thenX (q_thenX (q_blkX (q_thenN ?_))))
    refine c_reg ?_
    refine gL hf (g_as hf rfl) (by decide) ?_; clear hf a; intro a hf
    refine e_nil ?_
    refine c_ret ?_
    refine e_ret1 hf rfl rfl ?_
    exact ⟨by rw [indexZ_none (fun j hj => hp j (by omega))], hs.below⟩

theorem c_ContainsFunc (A : Option Addr) (n c : Nat) (l : List Rule) (q : Rule) (bq : Nat) (w0 : World) (h : Rd encR 2 A n l w0) (hq : BlkIs bq #[.int .i64 q.over, .int .i64 q.under] 51 (0, 0) w0) :
    Calls Tryd.prog 103 #[.slice A n c, .func (.func 104) #[] #[.pointer (some ⟨bq, 0, none⟩)]] w0 (Ret w0 (.bool (l.any fun x => sameR x q))) := by
  refine c_enter (n := 9) Tryd.func103 rfl rfl (Nat.le_of_ble_eq_true rfl) ?_; intro a hf; simp only [zipR] at hf
  have hs := St.start w0 [Rd encR 2 A n l, BlkIs bq #[.int .i64 q.over, .int .i64 q.under] 51 (0, 0)] (stab_app h.st1 hq.st1)
  refine c_reg ?_
  refine gL hf (g_as hf rfl) (by decide) ?_; clear hf a; intro a hf
  refine e_nil ?_
  refine c_reg ?_
  refine gL hf (g_mv hf rfl) (by decide) ?_; clear hf a; intro a hf
  refine gL hf (g_mv hf rfl) (by decide) ?_; clear hf a; intro a hf
  refine callL hf hs (c_IndexFunc _ _ _ l q bq _ (hs.rd (.head _)) (hs.rd (.tail _ (.head _)))) rfl rfl rfl E127 (by decide) ?_; clear hs hf a; intro w a hs hf
  refine gL hf (g_geq hf rfl rfl) (by decide) ?_; clear hf a; intro a hf
  refine gL hf (g_as hf rfl) (by decide) ?_; clear hf a; intro a hf
  refine e_nil ?_
  refine c_ret ?_
  refine e_ret1 hf rfl rfl ?_
  exact ⟨by rw [indexZ_ge], hs.below⟩

theorem c_overT (b : Sheet) (fA : Option Addr) (fc : Nat) (rA : Option Addr) (rc : Nat) (mb : Nat) (mp : MP) (i j : Int) (w0 : World) (h : ShIn b fA fc rA rc w0) (hM : MapIs mb mp w0) :
    Calls Tryd.prog 67 #[.agg #[.int .i64 b.wide, .int .i64 b.high, .slice fA b.flaps.length fc, .slice rA b.rules.length rc, .map (some mb)], .int .i64 i, .int .i64 j] w0 (Ret w0 (.bool (overT b mp i j))) := by
  refine c_enter (n := 25) Tryd.func67 rfl rfl (Nat.le_of_ble_eq_true rfl) ?_; intro a hf; simp only [zipR] at hf
  have hs := St.start w0 [Rd encF 5 fA b.flaps.length b.flaps, Rd encR 2 rA b.rules.length b.rules, MapIs mb mp] (stab_app h.stab hM.st1)
  have hfm := h.F.2.1; have hrm := h.R.2.1
  refine c_reg ?_
  refine vL hf (v_boxA hf hs rfl) (by decide) ?_; clear hs hf a; rintro _ w ⟨b1, rfl, hs⟩ a hf
  refine gL hf (g_as hf rfl) (by decide) ?_; clear hf a; intro a hf
  refine e_nil ?_
  refine c_reg ?_
  refine gL hf (g_mv hf rfl) (by decide) ?_; clear hf a; intro a hf
  refine gL hf (g_mv hf rfl) (by decide) ?_; clear hf a; intro a hf
  refine gL hf (g_bld hf [[.int .i64 0], [.int .i64 0]] (.cons rfl (.cons rfl .nil)) (fun _ => by kernel_rfl)) (by decide) ?_; clear hf a; intro a hf
  refine vL hf (v_alloc hs T51 rfl) (by decide) ?_; clear hs hf a; rintro _ w ⟨b2, rfl, hs⟩ a hf
  refine uL (u_stW hf hs T51 rfl rfl rfl (k := 0) rfl rfl rfl) ?_; clear hs; intro w hs; dsimp only [List.set] at hs
  refine e_nil ?_
  refine c_reg ?_
  refine gL hf (g_fa (off' := 4) hf F80_1 rfl rfl) (by decide) ?_; clear hf a; intro a hf
  refine gL hf (g_ld hf hs T78 rfl (k := 1) rfl rfl) (by decide) ?_; clear hf a; intro a hf
  refine gL hf (g_mv hf rfl) (by decide) ?_; clear hf a; intro a hf
  refine gL hf (g_mv hf rfl) (by decide) ?_; clear hf a; intro a hf
  refine gL hf (g_bld hf [[.int .i64 0], [.int .i64 0]] (.cons rfl (.cons rfl .nil)) (fun _ => by kernel_rfl)) (by decide) ?_; clear hf a; intro a hf
  refine gL hf (g_lookD hf hs (.tail _ (.tail _ (.head _))) MT78 rfl rfl) (by decide) ?_; clear hf a; intro a hf
  refine gL hf (g_gtr hf rfl rfl) (by decide) ?_; clear hf a; intro a hf
  refine gL hf (g_mv hf rfl) (by decide) ?_; clear hf a; intro a hf
  refine ggL hf rfl rfl (gyes_t _) (fun hg => g_fa (off' := 0) hf F80_0 rfl rfl) (by decide) ?_; clear hf a; intro a hf
  refine ggL hf rfl rfl (gyes_t _) (fun hg => g_fa (off' := 3) hf F25_3 (ev_gv rfl hg) rfl) (by decide) ?_; clear hf a; intro a hf
  refine ggL hf rfl rfl (gyes_t _) (fun hg => g_ld hf hs T23 (ev_gv rfl hg) (k := 1) rfl rfl) (by decide) ?_; clear hf a; intro a hf
  refine ggL hf rfl rfl (gyes_t _) (fun hg => g_fn hf rfl rfl) (by decide) ?_; clear hf a; intro a hf
  refine callG hf hs rfl rfl (gyes_t _) (fun hg => ⟨_, _, _, _, c_ContainsFunc _ _ _ b.rules ⟨i, j⟩ _ _ (hs.rd (.tail _ (.head _))) (hs.own _ _ (.head _)).2, rfl, evs_cons (ev_gv rfl hg) (evs_cons (ev_gv rfl hg) evs_nil), rfl⟩) E103 (by decide) ?_; clear hs hf a; intro w a hs hf
  refine gL hf (g_and hf rfl rfl) (by decide) ?_; clear hf a; intro a hf
  refine gL hf (g_as hf rfl) (by decide) ?_; clear hf a; intro a hf
  refine e_nil ?_
  refine c_ret ?_
  refine e_ret1 hf rfl rfl ?_
  exact ⟨rfl, hs.below⟩

end Go.Proofs.YtjjcopeedcdokaaDoor

set_option linter.unusedVariables false
set_option linter.unusedSimpArgs false
namespace Go.Proofs.YtjjcopeedcdokaaDoor
open Go.RowKit
theorem c_ring_step (c : RingCtx) (k : Nat) (ih : RingSpec c k) (w0 : World) (r : List Int) (A : Option Addr) (cp : Nat) (o : Best) (hl3 : Later [c.bb] c.w3 w0) (hb0 : w0.heap[c.bb]? = some (.cells #[bV o] 31 (0, 0))) (ho0 : bOK c.bb c.M o w0) (hne : r ≠ []) (hrin : ∀ y ∈ r, inN c.b y) (hfr : freeN c.b r < k + 1) (hrl : r.length + freeN c.b r ≤ c.b.flaps.length) (hr : Rd encI 1 A r.length r w0) (hA : ∀ bk off, A = some ⟨bk, off, none⟩ → bk ≠ c.bb ∧ c.M ≤ bk) (hcp : r.length ≤ cp) :
    Calls Tryd.prog 66 #[.slice A r.length cp, .pointer (some ⟨c.sb, 0, none⟩), .pointer (some ⟨c.bb, 0, none⟩), .pointer (some ⟨c.nb, 0, none⟩)] w0 (RetR (RingR c (k + 1) r o w0)) := by
  refine c_enter (n := 80) Tryd.func66 rfl rfl (Nat.le_of_ble_eq_true rfl) ?_; intro a hf; simp only [zipR] at hf
  have hs := c.at_ (we := w0) hl3 ⟨rfl, rfl, rfl, Later.refl _ _⟩ hb0 ho0 hr hA
  have hmany := c.hv.many; have hlm := hr.2.1; have hr0 := List.length_pos_iff.2 hne
  have hA0 : A = none → r.length = 0 := fun e => by have := hr.isSome hr0; rw [e] at this; cases this
  have hrst : ∀ w2, Later [c.bb] w0 w2 → Rd encI 1 A r.length r w2 := fun w2 h2 => hr.stable (is := [c.bb]) (fun bk off e hm => (hA bk off e).1 (List.mem_singleton.1 hm)) w2 h2
  have hin1 : inN c.b (headI r) := hrin _ (getD_mem (l := r) (i := 0) hr0)
  have hin2 : inN c.b (lastI r) := hrin _ (getD_mem (l := r) (i := r.length - 1) (by omega))
  have hisn := ho0.isNone
  have hl9 : r.getD (((r.length : Nat) : Int) - 1).toNat default = lastI r := by rw [show (((r.length : Nat) : Int) - 1).toNat = r.length - 1 by omega]; rfl
  refine c_reg ?_
  refine gL hf (g_mv hf rfl) (by decide) ?_; clear hf a; intro a hf
  refine gL hf (g_len hf SL31 rfl) (by decide) ?_; clear hf a; intro a hf
  refine gL hf (g_as hf rfl) (by decide) ?_; clear hf a; intro a hf
  refine e_nil ?_
  refine wp_seq ?_
  refine c_draw _ 24 Mx rfl hs (fun _ h => h) ?_; intro w hs hS
  refine gA hf hS (i := 0) rfl (by kernel_rfl) (fun w hs => g_mv hf rfl) (by decide) ?_; clear hf a; intro a hf
  refine gA hf hS (i := 1) rfl (by kernel_rfl) (fun w hs => g_gtr hf rfl rfl) (by decide) ?_; clear hf a; intro a hf
  refine gA hf hS (i := 2) rfl (by kernel_rfl) (fun w hs => g_mv hf rfl) (by decide) ?_; clear hf a; intro a hf
  refine ggA hf hS (i := 3) rfl (by kernel_rfl) rfl rfl (gyes_t _) (fun hg w hs => g_ldBW hf hs (.tail _ (.tail _ (.tail _ (.tail _ (.tail _ (.head _)))))) T80 rfl rfl) (by decide) ?_; clear hf a; intro a hf
  refine ggA hf hS (i := 4) rfl (by kernel_rfl) rfl rfl (gyes_t _) (fun hg w hs => g_mv hf rfl) (by decide) ?_; clear hf a; intro a hf
  (first | (refine ggA hf hS (i := 5) rfl (by kernel_rfl) rfl rfl (gyes_t _) (fun hg w hs => g_ixE hf hs (.head _) SL31 (ev_gv rfl hg) rfl (by omega)) (by decide) ?_) | (refine ggA hf hS (i := 5) rfl (by kernel_rfl) rfl rfl (gyes_t _) (fun hg w hs => g_ixD hf hs (.head _) SL31 (ev_gv rfl hg) rfl (by omega)) (by decide) ?_)); clear hf a; intro a hf
  refine ggA hf hS (i := 6) rfl (by kernel_rfl) rfl rfl (gyes_t _) (fun hg w hs => g_ldE hf hs (.head _) T3 (ev_gv rfl hg) rfl (by omega)) (by decide) ?_; clear hf a; intro a hf
  refine ggA hf hS (i := 7) rfl (by kernel_rfl) rfl rfl (gyes_t _) (fun hg w hs => g_mv hf rfl) (by decide) ?_; clear hf a; intro a hf
  refine ggA hf hS (i := 8) rfl (by kernel_rfl) rfl rfl (gyes_t _) (fun hg w hs => g_mv hf rfl) (by decide) ?_; clear hf a; intro a hf
  refine ggA hf hS (i := 9) rfl (by kernel_rfl) rfl rfl (gyes_t _) (fun hg w hs => g_subI hf (ev_gv rfl hg) rfl (by omega)) (by decide) ?_; clear hf a; intro a hf
  (first | (refine ggA hf hS (i := 10) rfl (by kernel_rfl) rfl rfl (gyes_t _) (fun hg w hs => g_ixE hf hs (.head _) SL31 (ev_gv rfl hg) (ev_gv rfl hg) (by omega)) (by decide) ?_) | (refine ggA hf hS (i := 10) rfl (by kernel_rfl) rfl rfl (gyes_t _) (fun hg w hs => g_ixD hf hs (.head _) SL31 (ev_gv rfl hg) (ev_gv rfl hg) (by omega)) (by decide) ?_)); clear hf a; intro a hf
  refine ggA hf hS (i := 11) rfl (by kernel_rfl) rfl rfl (gyes_t _) (fun hg w hs => g_ldE hf hs (.head _) T3 (ev_gv rfl hg) rfl (by omega)) (by decide) ?_; clear hf a; intro a hf
  refine one (i := 12) (by kernel_rfl) ?_
  refine oCallG hf hs rfl rfl rfl (gyes_t _) (fun hg => ⟨_, _, _, _, c_overT c.b _ _ _ _ _ c.mp _ _ _ ⟨hs.rd (.tail _ (.tail _ (.head _))), hs.rd (.tail _ (.tail _ (.tail _ (.head _)))), c.hfc, c.hrc⟩ (hs.rd (.tail _ (.tail _ (.tail _ (.tail _ (.head _)))))), rfl, evs_cons (ev_gv rfl hg) (evs_cons (ev_gv rfl hg) (evs_cons (ev_gv rfl hg) evs_nil)), rfl⟩) E67 (by decide) (fun _ h => h.sub (.refl _)) ?_; clear hs hf hS a; intro w a hs hS hf
  rw [hl9] at hf
  rw [show r.getD 0 default = headI r from rfl] at hf
  rw [overT_eq c.hm hin1 hin2] at hf
  refine gA hf hS (i := 13) rfl (by kernel_rfl) (fun w hs => g_and hf rfl rfl) (by decide) ?_; clear hf a; intro a hf
  refine gA hf hS (i := 14) rfl (by kernel_rfl) (fun w hs => g_mv hf rfl) (by decide) ?_; clear hf a; intro a hf
  refine ggA hf hS (i := 15) rfl (by kernel_rfl) rfl rfl (gyes_t _) (fun hg w hs => g_ld hf hs T31 rfl (k := 0) rfl rfl) (by decide) ?_; clear hf a; intro a hf
  refine ggA hf hS (i := 16) rfl (by kernel_rfl) rfl rfl (gyes_t _) (fun hg w hs => g_eqNil hf SE31 (ev_gv rfl hg) rfl) (by decide) ?_; clear hf a; intro a hf
  refine ggA hf hS (i := 17) rfl (by kernel_rfl) rfl rfl (gyes_t _) (fun hg w hs => g_mv hf (ev_gv rfl hg)) (by decide) ?_; clear hf a; intro a hf
  refine ggA hf hS (i := 18) rfl (by kernel_rfl) rfl rfl (gyes_gf _ _) (fun hg w hs => g_mv hf rfl) (by decide) ?_; clear hf a; intro a hf
  refine ggA hf hS (i := 19) rfl (by kernel_rfl) rfl rfl (gyes_gf _ _) (fun hg w hs => g_ld hf hs T31 rfl (k := 0) rfl rfl) (by decide) ?_; clear hf a; intro a hf
  refine ggA hf hS (i := 20) rfl (by kernel_rfl) rfl rfl (gyes_gf _ _) (fun hg w hs => g_len hf SL31 (ev_gv rfl hg)) (by decide) ?_; clear hf a; intro a hf
  refine ggA hf hS (i := 21) rfl (by kernel_rfl) rfl rfl (gyes_gf _ _) (fun hg w hs => g_lss hf (ev_gv rfl hg) (ev_gv rfl hg)) (by decide) ?_; clear hf a; intro a hf
  refine ggA hf hS (i := 22) rfl (by kernel_rfl) rfl rfl (gyes_t _) (fun hg w hs => g_or hf (ev_gv rfl hg) (ev_gvand rfl hg)) (by decide) ?_; clear hf a; intro a hf
  refine gA hf hS (i := 23) rfl (by kernel_rfl) (fun w hs => g_and hf rfl rfl) (by decide) ?_; clear hf a; intro a hf
  refine e_done (by kernel_rfl) ?_
  refine c_cond hf rfl (fun hc1 => ?_) (fun hc1 => ?_)
  · skip
    refine c_reg1 ?_
    refine gL hf (g_mv hf rfl) (by decide) ?_; clear hf a; intro a hf
    refine gL hf (g_mv hf rfl) (by decide) ?_; clear hf a; intro a hf
    refine gL hf (g_mv hf rfl) (by decide) ?_; clear hf a; intro a hf
    refine gL hf (g_slHM hf SL31 rfl rfl rfl (by omega) (by omega)) (by decide) ?_; clear hf a; intro a hf
    refine uL (u_st hf hs T31 rfl rfl rfl (k := 0) rfl (Nat.le_of_ble_eq_true rfl)) ?_; clear hs; intro w hs; dsimp only [List.set] at hs
    refine e_nil1 (q_thenN ?_)
    refine wp_seq ?_
    have hbo9 : bOK c.bb c.M (some (A, r)) w := fun A1 l1 e => by cases e; exact ⟨hs.rd (.head _), hne, hA⟩
    have hoo := hs.rd (.tail _ (.head _))
    obtain ⟨o1, hs, hbl, ho1⟩ : ∃ o1, St (Base.rnd w0 [c.bb] [] noE) (Rd encI 1 A r.length r :: bOK c.bb c.M o1 :: c.Ds) [(c.bb, .cells #[bV o1] 31 (0, 0))] w ∧ bL o1 = ring1 c.b r (bL o) ∧ bOK c.bb c.M o1 w := by
      rw [ringLt_eq ho0] at hc1
      first
      | exact ⟨some (A, r), c.at_ (we := w0) (hl3.trans hs.below.2.2.2) hs.below (hs.own _ _ (.head _)).2 hbo9 (hs.rd (.head _)) hA, by rw [ring1, if_pos hc1]; rfl, hbo9⟩
      | exact ⟨o, hs, by rw [ring1, if_neg (by rw [hc1]; decide)], hoo⟩
    refine c_reg ?_
    refine gL hf (g_ld hf hs T31 rfl (k := 0) rfl rfl) (by decide) ?_; clear hf a; intro a hf
    refine gL hf (g_neNil hf SE31 rfl rfl) (by decide) ?_; clear hf a; intro a hf
    refine gL hf (g_mv hf rfl) (by decide) ?_; clear hf a; intro a hf
    refine ggL hf rfl rfl (gyes_t _) (fun hg => g_mv hf rfl) (by decide) ?_; clear hf a; intro a hf
    refine ggL hf rfl rfl (gyes_t _) (fun hg => g_ld hf hs T31 rfl (k := 0) rfl rfl) (by decide) ?_; clear hf a; intro a hf
    refine ggL hf rfl rfl (gyes_t _) (fun hg => g_len hf SL31 (ev_gv rfl hg)) (by decide) ?_; clear hf a; intro a hf
    refine ggL hf rfl rfl (gyes_t _) (fun hg => g_geq hf (ev_gv rfl hg) (ev_gv rfl hg)) (by decide) ?_; clear hf a; intro a hf
    refine gL hf (g_and hf rfl rfl) (by decide) ?_; clear hf a; intro a hf
    refine e_nil ?_
    refine c_cond hf rfl (fun hc2 => ?_) (fun hc2 => ?_)
    · skip
      have hcut : ringCut (bL o1) r = true := by rw [← ringCut_eq ho1]; exact hc2
      refine c_ret (q_thenR ?_)
      refine e_ret0 hf rfl ?_
      exact ⟨_, rfl, rfl, o1, by rw [hbl, ringF, if_pos (by rw [← hbl]; exact hcut)], ho1, (hs.own _ _ (.head _)).2, hs.below⟩
    · skip
      have hcut : ¬ ringCut (bL o1) r = true := by rw [← ringCut_eq ho1, hc2]; decide
      have hhd : r.getD 0 default = headI r := rfl; have hh1 := hin1.1; have hh2 := hin1.2
      have hJ00 : (headI r).toNat + 1 ≤ ((headI r).toNat + 1, o1).1 ∧ ((headI r).toNat + 1, o1).1 ≤ c.b.flaps.length ∧ bL ((headI r).toNat + 1, o1).2 = (List.range ((headI r).toNat + 1, o1).1).foldl (ringStep c.b r (ringF c.b k)) (bL o1) := ⟨Nat.le_refl _, by dsimp only; omega, (range_fold_skip _ (by dsimp only; omega)).symm⟩
      refine c_skip (q_thenN ?_)
      refine c_reg ?_
      refine gL hf (g_mv hf rfl) (by decide) ?_; clear hf a; intro a hf
      (first | (refine gL hf (g_ixE hf hs (.head _) SL31 rfl rfl (by omega)) (by decide) ?_) | (refine gL hf (g_ixD hf hs (.head _) SL31 rfl rfl (by omega)) (by decide) ?_)); clear hf a; intro a hf
      refine gL hf (g_ldE hf hs (.head _) T3 rfl rfl (by omega)) (by decide) ?_; clear hf a; intro a hf
      refine gL hf (g_addI hf rfl rfl (by rw [hhd]; omega)) (by decide) ?_; clear hf a; intro a hf
      refine gL hf (g_as hf rfl) (by decide) ?_; clear hf a; intro a hf
      refine e_nil ?_
      refine c_block ?_
      rw [show r.getD 0 default + 1 = (((headI r).toNat + 1 : Nat) : Int) by rw [hhd]; omega] at hf
      refine c_loopD (fun s => Base.rnd w0 [c.bb] [] noE) (fun s => (Rd encI 1 A r.length r :: bOK c.bb c.M s.2 :: c.Ds)) hf (List.range' 6 1 ++ List.range' 49 31) (σ := (Nat × Best)) (fun s => [(6, .int .i64 (s.1 : Nat))]) (fun s => [(c.bb, .cells #[bV s.2] 31 (0, 0))]) (fun s => (headI r).toNat + 1 ≤ s.1 ∧ s.1 ≤ c.b.flaps.length ∧ bL s.2 = (List.range s.1).foldl (ringStep c.b r (ringF c.b k)) (bL o1)) (fun s => c.b.flaps.length - s.1) ((headI r).toNat + 1, o1) hs hJ00 (.cons rfl .nil) ?_
      intro ⟨i, o2⟩ a w hJ hf hs
      dsimp only at hJ hf hs
      obtain ⟨hi0, hi1, hbo⟩ := hJ
      refine wp_seq ?_
      refine c_reg ?_
      refine gL hf (g_mv hf rfl) (by decide) ?_; clear hf a; intro a hf
      refine gL hf (g_fa (off' := 0) hf F80_0 rfl rfl) (by decide) ?_; clear hf a; intro a hf
      refine gL hf (g_fa (off' := 2) hf F25_2 rfl rfl) (by decide) ?_; clear hf a; intro a hf
      refine gL hf (g_ldB hf hs (.tail _ (.tail _ (.tail _ (.tail _ (.tail _ (.head _)))))) T22 rfl rfl) (by decide) ?_; clear hf a; intro a hf
      refine gL hf (g_len hf SL22 rfl) (by decide) ?_; clear hf a; intro a hf
      refine gL hf (g_lss hf rfl rfl) (by decide) ?_; clear hf a; intro a hf
      refine e_nil ?_
      refine c_cond hf rfl (fun hc3 => ?_) (fun hc3 => ?_)
      · try simp only [decide_eq_true_eq, decide_eq_false_iff_not] at hc3
        have hii : inN c.b ((i : Nat) : Int) := ⟨by omega, by omega⟩
        refine c_skip (q_thenN ?_)
        refine c_blockS ?_
        refine c_draw _ 14 Mx rfl hs (fun _ h => h) ?_; intro w hs hS
        refine gA hf hS (i := 0) rfl (by kernel_rfl) (fun w hs => g_mv hf rfl) (by decide) ?_; clear hf a; intro a hf
        refine gA hf hS (i := 1) rfl (by kernel_rfl) (fun w hs => g_mv hf rfl) (by decide) ?_; clear hf a; intro a hf
        refine one (i := 2) (by kernel_rfl) ?_
        refine oCall hf hs rfl (c_Contains _ _ _ r _ _ (hs.rd (.head _))) rfl rfl rfl E68 (by decide) (fun _ h => h.sub (.refl _)) ?_; clear hs hf hS a; intro w a hs hS hf
        refine gA hf hS (i := 3) rfl (by kernel_rfl) (fun w hs => g_not hf rfl) (by decide) ?_; clear hf a; intro a hf
        refine gA hf hS (i := 4) rfl (by kernel_rfl) (fun w hs => g_mv hf rfl) (by decide) ?_; clear hf a; intro a hf
        refine ggA hf hS (i := 5) rfl (by kernel_rfl) rfl rfl (gyes_t _) (fun hg w hs => g_ldBW hf hs (.tail _ (.tail _ (.tail _ (.tail _ (.tail _ (.head _)))))) T80 rfl rfl) (by decide) ?_; clear hf a; intro a hf
        refine ggA hf hS (i := 6) rfl (by kernel_rfl) rfl rfl (gyes_t _) (fun hg w hs => g_mv hf rfl) (by decide) ?_; clear hf a; intro a hf
        refine ggA hf hS (i := 7) rfl (by kernel_rfl) rfl rfl (gyes_t _) (fun hg w hs => g_mv hf rfl) (by decide) ?_; clear hf a; intro a hf
        refine ggA hf hS (i := 8) rfl (by kernel_rfl) rfl rfl (gyes_t _) (fun hg w hs => g_mv hf rfl) (by decide) ?_; clear hf a; intro a hf
        refine ggA hf hS (i := 9) rfl (by kernel_rfl) rfl rfl (gyes_t _) (fun hg w hs => g_subI hf (ev_gv rfl hg) rfl (by omega)) (by decide) ?_; clear hf a; intro a hf
        (first | (refine ggA hf hS (i := 10) rfl (by kernel_rfl) rfl rfl (gyes_t _) (fun hg w hs => g_ixE hf hs (.head _) SL31 (ev_gv rfl hg) (ev_gv rfl hg) (by omega)) (by decide) ?_) | (refine ggA hf hS (i := 10) rfl (by kernel_rfl) rfl rfl (gyes_t _) (fun hg w hs => g_ixD hf hs (.head _) SL31 (ev_gv rfl hg) (ev_gv rfl hg) (by omega)) (by decide) ?_)); clear hf a; intro a hf
        refine ggA hf hS (i := 11) rfl (by kernel_rfl) rfl rfl (gyes_t _) (fun hg w hs => g_ldE hf hs (.head _) T3 (ev_gv rfl hg) rfl (by omega)) (by decide) ?_; clear hf a; intro a hf
        refine one (i := 12) (by kernel_rfl) ?_
        refine oCallG hf hs rfl rfl rfl (gyes_t _) (fun hg => ⟨_, _, _, _, c_overT c.b _ _ _ _ _ c.mp ((i : Nat) : Int) _ _ ⟨hs.rd (.tail _ (.tail _ (.head _))), hs.rd (.tail _ (.tail _ (.tail _ (.head _)))), c.hfc, c.hrc⟩ (hs.rd (.tail _ (.tail _ (.tail _ (.tail _ (.head _)))))), rfl, evs_cons (ev_gv rfl hg) (evs_cons (ev_gv rfl hg) (evs_cons (ev_gv rfl hg) evs_nil)), rfl⟩) E67 (by decide) (fun _ h => h.sub (.refl _)) ?_; clear hs hf hS a; intro w a hs hS hf
        rw [hl9, overT_eq c.hm hii hin2] at hf
        refine gA hf hS (i := 13) rfl (by kernel_rfl) (fun w hs => g_and hf rfl rfl) (by decide) ?_; clear hf a; intro a hf
        refine e_done (by kernel_rfl) ?_
        refine c_cond hf rfl (fun hc4 => ?_) (fun hc4 => ?_)
        · skip
          have hany : (r.any fun x => ((i : Nat) : Int) == x) = decide (((i : Nat) : Int) ∈ r) := by rw [Bool.eq_iff_iff, List.any_eq_true]; simp
          rw [hany] at hc4
          have hnot : ((i : Nat) : Int) ∉ r := by intro hm; rw [decide_eq_true hm] at hc4; simp at hc4
          have hfl9 := freeN_lt (b := c.b) (r := r) (i := i) (by omega) hnot
          have hcnd : (decide (headI r < ((i : Nat) : Int)) && (!decide (((i : Nat) : Int) ∈ r) && overP c.b ((i : Nat) : Int) (lastI r))) = true := by rw [hc4, decide_eq_true (by omega)]; rfl
          refine c_draw1 (fun w => ∃ B o9, St B (Rd encI 1 A r.length r :: bOK c.bb c.M o9 :: c.Ds) [(c.bb, .cells #[bV o9] 31 (0, 0))] w) 9 Mx rfl hs (fun _ h => ⟨_, _, h⟩) ?_; intro w hs hS
          refine gA hf hS (i := 0) rfl (by kernel_rfl) (fun w ⟨_, _, hs⟩ => g_ldB hf hs (.tail _ (.tail _ (.tail _ (.tail _ (.tail _ (.tail _ (.head _))))))) T83 rfl rfl) (by decide) ?_; clear hf a; intro a hf
          refine gA hf hS (i := 1) rfl (by kernel_rfl) (fun w ⟨_, _, hs⟩ => g_mv hf rfl) (by decide) ?_; clear hf a; intro a hf
          refine gA hf hS (i := 2) rfl (by kernel_rfl) (fun w ⟨_, _, hs⟩ => g_mv hf rfl) (by decide) ?_; clear hf a; intro a hf
          refine gA hf hS (i := 3) rfl (by kernel_rfl) (fun w ⟨_, _, hs⟩ => g_mv hf rfl) (by decide) ?_; clear hf a; intro a hf
          refine gA hf hS (i := 4) rfl (by kernel_rfl) (fun w ⟨_, _, hs⟩ => g_slHM hf SL31 rfl rfl rfl (by omega) (by omega)) (by decide) ?_; clear hf a; intro a hf
          refine gA hf hS (i := 5) rfl (by kernel_rfl) (fun w ⟨_, _, hs⟩ => g_mv hf rfl) (by decide) ?_; clear hf a; intro a hf
          refine one (i := 6) (by kernel_rfl) ?_
          refine oV hf rfl (v_lits (len := 1) hf hs SL31 T3 (.cons rfl .nil) rfl rfl rfl rfl (by decide) rfl) (by decide) (fun _ _ ⟨_, _, h⟩ => ⟨_, _, h.sub (.cons _ (.refl _))⟩) ?_; clear hs hf hS a; rintro _ w ⟨b1, rfl, hs⟩ hS a hf
          refine one (i := 7) (by kernel_rfl) ?_
          refine oV hf rfl (v_app hf hs AP31 (fun _ => rfl) (by decide) rfl rfl (l := r) (by simpa using hs.rd (.head _)) (rd_one (enc := encI) (x := ((i : Nat) : Int)) rfl (hs.own _ _ (.head _)).2) (by omega) (Nat.le_refl _) (fun e => by have h9 := hA0 e; omega) (by omega) (by decide)) (by decide) (fun _ _ ⟨_, _, _, _, h⟩ => ⟨_, _, h.sub (.cons _ (.cons _ (.refl _)))⟩) ?_; clear hs hf hS a; rintro _ w ⟨b2, cs4, rfl, hok, hs⟩ hS a hf
          rw [show ((r.length : Nat) : Int).toNat + 1 = (r ++ [((i : Nat) : Int)]).length by simp] at hf
          refine one (i := 8) (by kernel_rfl) ?_
          have hnew := hs.own _ _ (.head _)
          have hnbb : b2 ≠ c.bb := fun e => by have hn := hs.nodup; rw [e] at hn; simp [ids] at hn
          refine oCallB hf rfl (ih w (r ++ [((i : Nat) : Int)]) (some ⟨b2, 0, none⟩) _ o2 (hl3.trans hs.below.2.2.2) (hs.own _ _ (.tail _ (.tail _ (.head _)))).2 (hs.rd (.tail _ (.head _))) (by simp) (fun y hy => by rcases List.mem_append.1 hy with hy | hy; exact hrin y hy; rw [List.mem_singleton.1 hy]; exact hii) (by omega) (by rw [List.length_append]; simp only [List.length_cons, List.length_nil]; omega) (hok.rdb (sz := 1) (fun _ => rfl) (by decide) (hs.own _ _ (.head _)).2) (fun bk off e => by cases e; exact ⟨hnbb, Nat.le_trans c.hMl (Nat.le_trans hl3.1 (hnew.1.resolve_left (by simpa using hnbb)))⟩) (hok.cap (sz := 1) (by decide))) rfl rfl rfl E66 (by decide)
            (fun v w2 hR2 => by obtain ⟨rfl, o3, hb3, ho3, hh3, g1, g2, g3, g4⟩ := hR2; exact ⟨_, o3, c.at_ (we := w0) (o := o3) (r := r) (A := A) ((hl3.trans hs.below.2.2.2).trans g4) ⟨g1.trans hs.below.1, g2.trans hs.below.2.1, g3.trans hs.below.2.2.1, hs.below.2.2.2.trans g4⟩ hh3 ho3 (hrst w2 (hs.below.2.2.2.trans g4)) hA⟩) ?_; clear hf hS a; intro v w2 a hR2 hS hf; obtain ⟨rfl, o3, hb3, ho3, hh3, g1, g2, g3, g4⟩ := hR2
          replace hs := c.at_ (we := w0) (o := o3) (r := r) (A := A) ((hl3.trans hs.below.2.2.2).trans g4) ⟨g1.trans hs.below.1, g2.trans hs.below.2.1, g3.trans hs.below.2.2.1, hs.below.2.2.2.trans g4⟩ hh3 ho3 (hrst w2 (hs.below.2.2.2.trans g4)) hA
          refine e_done1 (by kernel_rfl) ?_
          refine q_blkN (q_thenN ?_)
          refine c_reg1 ?_
          refine gL hf (g_mv hf rfl) (by decide) ?_; clear hf a; intro a hf
          refine gL hf (g_addI hf rfl rfl (by omega)) (by decide) ?_; clear hf a; intro a hf
          refine gL hf (g_as hf rfl) (by decide) ?_; clear hf a; intro a hf
          refine e_nil1 (q_thenN ?_)
          first | exact ⟨(i + 1, o2), (by dsimp only; exact ⟨by omega, by omega, hstep⟩), (by dsimp only; omega), hf.back (by repeat (first | (with_reducible exact Ext.base) | ((with_reducible refine Ext.cons ?_ ?_); (· rfl)) | ((with_reducible refine Ext.over ?_ ?_ ?_); (· rfl); (· rfl)))) (allKeys rfl) (.cons rfl .nil), hs.dropN 0⟩ | exact ⟨(i + 1, o3), (by dsimp only; exact ⟨by omega, by omega, by rw [range_fold_succ, ← hbo, ringStep, if_pos hcnd]; exact hb3⟩), (by dsimp only; omega), hf.back (by repeat (first | (with_reducible exact Ext.base) | ((with_reducible refine Ext.cons ?_ ?_); (· rfl)) | ((with_reducible refine Ext.over ?_ ?_ ?_); (· rfl); (· rfl)))) (allKeys rfl) (.cons rfl .nil), hs.dropN 0⟩
        · skip
          have hany : (r.any fun x => ((i : Nat) : Int) == x) = decide (((i : Nat) : Int) ∈ r) := by rw [Bool.eq_iff_iff, List.any_eq_true]; simp
          rw [hany] at hc4
          have hstep : bL o2 = (List.range (i + 1)).foldl (ringStep c.b r (ringF c.b k)) (bL o1) := by rw [range_fold_succ, ← hbo, ringStep, hc4]; simp
          refine c_skip (q_blkN (q_thenN ?_))
          refine c_reg1 ?_
          refine gL hf (g_mv hf rfl) (by decide) ?_; clear hf a; intro a hf
          refine gL hf (g_addI hf rfl rfl (by omega)) (by decide) ?_; clear hf a; intro a hf
          refine gL hf (g_as hf rfl) (by decide) ?_; clear hf a; intro a hf
          refine e_nil1 (q_thenN ?_)
          first | exact ⟨(i + 1, o2), (by dsimp only; exact ⟨by omega, by omega, hstep⟩), (by dsimp only; omega), hf.back (by repeat (first | (with_reducible exact Ext.base) | ((with_reducible refine Ext.cons ?_ ?_); (· rfl)) | ((with_reducible refine Ext.over ?_ ?_ ?_); (· rfl); (· rfl)))) (allKeys rfl) (.cons rfl .nil), hs.dropN 0⟩ | exact ⟨(i + 1, o3), (by dsimp only; exact ⟨by omega, by omega, by rw [range_fold_succ, ← hbo, ringStep, if_pos hcnd]; exact hb3⟩), (by dsimp only; omega), hf.back (by repeat (first | (with_reducible exact Ext.base) | ((with_reducible refine Ext.cons ?_ ?_); (· rfl)) | ((with_reducible refine Ext.over ?_ ?_ ?_); (· rfl); (· rfl)))) (allKeys rfl) (.cons rfl .nil), hs.dropN 0⟩
      · try simp only [decide_eq_true_eq, decide_eq_false_iff_not] at hc3
        obtain rfl : i = c.b.flaps.length := by omega
        refine c_exit (q_thenX (q_thenX (q_blkX ?_)))
        refine e_end0 hf rfl ?_
        exact ⟨_, rfl, rfl, o2, by rw [ringF, ← hbl, if_neg hcut]; exact hbo, hs.rd (.tail _ (.head _)), (hs.own _ _ (.head _)).2, hs.below⟩
  · skip
    refine c_skip (q_thenN ?_)
    refine wp_seq ?_
    have hbo9 : bOK c.bb c.M (some (A, r)) w := fun A1 l1 e => by cases e; exact ⟨hs.rd (.head _), hne, hA⟩
    have hoo := hs.rd (.tail _ (.head _))
    obtain ⟨o1, hs, hbl, ho1⟩ : ∃ o1, St (Base.rnd w0 [c.bb] [] noE) (Rd encI 1 A r.length r :: bOK c.bb c.M o1 :: c.Ds) [(c.bb, .cells #[bV o1] 31 (0, 0))] w ∧ bL o1 = ring1 c.b r (bL o) ∧ bOK c.bb c.M o1 w := by
      rw [ringLt_eq ho0] at hc1
      first
      | exact ⟨some (A, r), c.at_ (we := w0) (hl3.trans hs.below.2.2.2) hs.below (hs.own _ _ (.head _)).2 hbo9 (hs.rd (.head _)) hA, by rw [ring1, if_pos hc1]; rfl, hbo9⟩
      | exact ⟨o, hs, by rw [ring1, if_neg (by rw [hc1]; decide)], hoo⟩
    refine c_reg ?_
    refine gL hf (g_ld hf hs T31 rfl (k := 0) rfl rfl) (by decide) ?_; clear hf a; intro a hf
    refine gL hf (g_neNil hf SE31 rfl rfl) (by decide) ?_; clear hf a; intro a hf
    refine gL hf (g_mv hf rfl) (by decide) ?_; clear hf a; intro a hf
    refine ggL hf rfl rfl (gyes_t _) (fun hg => g_mv hf rfl) (by decide) ?_; clear hf a; intro a hf
    refine ggL hf rfl rfl (gyes_t _) (fun hg => g_ld hf hs T31 rfl (k := 0) rfl rfl) (by decide) ?_; clear hf a; intro a hf
    refine ggL hf rfl rfl (gyes_t _) (fun hg => g_len hf SL31 (ev_gv rfl hg)) (by decide) ?_; clear hf a; intro a hf
    refine ggL hf rfl rfl (gyes_t _) (fun hg => g_geq hf (ev_gv rfl hg) (ev_gv rfl hg)) (by decide) ?_; clear hf a; intro a hf
    refine gL hf (g_and hf rfl rfl) (by decide) ?_; clear hf a; intro a hf
    refine e_nil ?_
    refine c_cond hf rfl (fun hc2 => ?_) (fun hc2 => ?_)
    · skip
      have hcut : ringCut (bL o1) r = true := by rw [← ringCut_eq ho1]; exact hc2
      refine c_ret (q_thenR ?_)
      refine e_ret0 hf rfl ?_
      exact ⟨_, rfl, rfl, o1, by rw [hbl, ringF, if_pos (by rw [← hbl]; exact hcut)], ho1, (hs.own _ _ (.head _)).2, hs.below⟩
    · skip
      have hcut : ¬ ringCut (bL o1) r = true := by rw [← ringCut_eq ho1, hc2]; decide
      have hhd : r.getD 0 default = headI r := rfl; have hh1 := hin1.1; have hh2 := hin1.2
      have hJ00 : (headI r).toNat + 1 ≤ ((headI r).toNat + 1, o1).1 ∧ ((headI r).toNat + 1, o1).1 ≤ c.b.flaps.length ∧ bL ((headI r).toNat + 1, o1).2 = (List.range ((headI r).toNat + 1, o1).1).foldl (ringStep c.b r (ringF c.b k)) (bL o1) := ⟨Nat.le_refl _, by dsimp only; omega, (range_fold_skip _ (by dsimp only; omega)).symm⟩
      refine c_skip (q_thenN ?_)
      refine c_reg ?_
      refine gL hf (g_mv hf rfl) (by decide) ?_; clear hf a; intro a hf
      (first | (refine gL hf (g_ixE hf hs (.head _) SL31 rfl rfl (by omega)) (by decide) ?_) | (refine gL hf (g_ixD hf hs (.head _) SL31 rfl rfl (by omega)) (by decide) ?_)); clear hf a; intro a hf
      refine gL hf (g_ldE hf hs (.head _) T3 rfl rfl (by omega)) (by decide) ?_; clear hf a; intro a hf
      refine gL hf (g_addI hf rfl rfl (by rw [hhd]; omega)) (by decide) ?_; clear hf a; intro a hf
      refine gL hf (g_as hf rfl) (by decide) ?_; clear hf a; intro a hf
      refine e_nil ?_
      refine c_block ?_
      rw [show r.getD 0 default + 1 = (((headI r).toNat + 1 : Nat) : Int) by rw [hhd]; omega] at hf
      refine c_loopD (fun s => Base.rnd w0 [c.bb] [] noE) (fun s => (Rd encI 1 A r.length r :: bOK c.bb c.M s.2 :: c.Ds)) hf (List.range' 6 1 ++ List.range' 49 31) (σ := (Nat × Best)) (fun s => [(6, .int .i64 (s.1 : Nat))]) (fun s => [(c.bb, .cells #[bV s.2] 31 (0, 0))]) (fun s => (headI r).toNat + 1 ≤ s.1 ∧ s.1 ≤ c.b.flaps.length ∧ bL s.2 = (List.range s.1).foldl (ringStep c.b r (ringF c.b k)) (bL o1)) (fun s => c.b.flaps.length - s.1) ((headI r).toNat + 1, o1) hs hJ00 (.cons rfl .nil) ?_
      intro ⟨i, o2⟩ a w hJ hf hs
      dsimp only at hJ hf hs
      obtain ⟨hi0, hi1, hbo⟩ := hJ
      refine wp_seq ?_
      refine c_reg ?_
      refine gL hf (g_mv hf rfl) (by decide) ?_; clear hf a; intro a hf
      refine gL hf (g_fa (off' := 0) hf F80_0 rfl rfl) (by decide) ?_; clear hf a; intro a hf
      refine gL hf (g_fa (off' := 2) hf F25_2 rfl rfl) (by decide) ?_; clear hf a; intro a hf
      refine gL hf (g_ldB hf hs (.tail _ (.tail _ (.tail _ (.tail _ (.tail _ (.head _)))))) T22 rfl rfl) (by decide) ?_; clear hf a; intro a hf
      refine gL hf (g_len hf SL22 rfl) (by decide) ?_; clear hf a; intro a hf
      refine gL hf (g_lss hf rfl rfl) (by decide) ?_; clear hf a; intro a hf
      refine e_nil ?_
      refine c_cond hf rfl (fun hc3 => ?_) (fun hc3 => ?_)
      · try simp only [decide_eq_true_eq, decide_eq_false_iff_not] at hc3
        have hii : inN c.b ((i : Nat) : Int) := ⟨by omega, by omega⟩
        refine c_skip (q_thenN ?_)
        refine c_blockS ?_
        refine c_draw _ 14 Mx rfl hs (fun _ h => h) ?_; intro w hs hS
        refine gA hf hS (i := 0) rfl (by kernel_rfl) (fun w hs => g_mv hf rfl) (by decide) ?_; clear hf a; intro a hf
        refine gA hf hS (i := 1) rfl (by kernel_rfl) (fun w hs => g_mv hf rfl) (by decide) ?_; clear hf a; intro a hf
        refine one (i := 2) (by kernel_rfl) ?_
        refine oCall hf hs rfl (c_Contains _ _ _ r _ _ (hs.rd (.head _))) rfl rfl rfl E68 (by decide) (fun _ h => h.sub (.refl _)) ?_; clear hs hf hS a; intro w a hs hS hf
        refine gA hf hS (i := 3) rfl (by kernel_rfl) (fun w hs => g_not hf rfl) (by decide) ?_; clear hf a; intro a hf
        refine gA hf hS (i := 4) rfl (by kernel_rfl) (fun w hs => g_mv hf rfl) (by decide) ?_; clear hf a; intro a hf
        refine ggA hf hS (i := 5) rfl (by kernel_rfl) rfl rfl (gyes_t _) (fun hg w hs => g_ldBW hf hs (.tail _ (.tail _ (.tail _ (.tail _ (.tail _ (.head _)))))) T80 rfl rfl) (by decide) ?_; clear hf a; intro a hf
        refine ggA hf hS (i := 6) rfl (by kernel_rfl) rfl rfl (gyes_t _) (fun hg w hs => g_mv hf rfl) (by decide) ?_; clear hf a; intro a hf
        refine ggA hf hS (i := 7) rfl (by kernel_rfl) rfl rfl (gyes_t _) (fun hg w hs => g_mv hf rfl) (by decide) ?_; clear hf a; intro a hf
        refine ggA hf hS (i := 8) rfl (by kernel_rfl) rfl rfl (gyes_t _) (fun hg w hs => g_mv hf rfl) (by decide) ?_; clear hf a; intro a hf
        refine ggA hf hS (i := 9) rfl (by kernel_rfl) rfl rfl (gyes_t _) (fun hg w hs => g_subI hf (ev_gv rfl hg) rfl (by omega)) (by decide) ?_; clear hf a; intro a hf
        (first | (refine ggA hf hS (i := 10) rfl (by kernel_rfl) rfl rfl (gyes_t _) (fun hg w hs => g_ixE hf hs (.head _) SL31 (ev_gv rfl hg) (ev_gv rfl hg) (by omega)) (by decide) ?_) | (refine ggA hf hS (i := 10) rfl (by kernel_rfl) rfl rfl (gyes_t _) (fun hg w hs => g_ixD hf hs (.head _) SL31 (ev_gv rfl hg) (ev_gv rfl hg) (by omega)) (by decide) ?_)); clear hf a; intro a hf
        refine ggA hf hS (i := 11) rfl (by kernel_rfl) rfl rfl (gyes_t _) (fun hg w hs => g_ldE hf hs (.head _) T3 (ev_gv rfl hg) rfl (by omega)) (by decide) ?_; clear hf a; intro a hf
        refine one (i := 12) (by kernel_rfl) ?_
        refine oCallG hf hs rfl rfl rfl (gyes_t _) (fun hg => ⟨_, _, _, _, c_overT c.b _ _ _ _ _ c.mp ((i : Nat) : Int) _ _ ⟨hs.rd (.tail _ (.tail _ (.head _))), hs.rd (.tail _ (.tail _ (.tail _ (.head _)))), c.hfc, c.hrc⟩ (hs.rd (.tail _ (.tail _ (.tail _ (.tail _ (.head _)))))), rfl, evs_cons (ev_gv rfl hg) (evs_cons (ev_gv rfl hg) (evs_cons (ev_gv rfl hg) evs_nil)), rfl⟩) E67 (by decide) (fun _ h => h.sub (.refl _)) ?_; clear hs hf hS a; intro w a hs hS hf
        rw [hl9, overT_eq c.hm hii hin2] at hf
        refine gA hf hS (i := 13) rfl (by kernel_rfl) (fun w hs => g_and hf rfl rfl) (by decide) ?_; clear hf a; intro a hf
        refine e_done (by kernel_rfl) ?_
        refine c_cond hf rfl (fun hc4 => ?_) (fun hc4 => ?_)
        · skip
          have hany : (r.any fun x => ((i : Nat) : Int) == x) = decide (((i : Nat) : Int) ∈ r) := by rw [Bool.eq_iff_iff, List.any_eq_true]; simp
          rw [hany] at hc4
          have hnot : ((i : Nat) : Int) ∉ r := by intro hm; rw [decide_eq_true hm] at hc4; simp at hc4
          have hfl9 := freeN_lt (b := c.b) (r := r) (i := i) (by omega) hnot
          have hcnd : (decide (headI r < ((i : Nat) : Int)) && (!decide (((i : Nat) : Int) ∈ r) && overP c.b ((i : Nat) : Int) (lastI r))) = true := by rw [hc4, decide_eq_true (by omega)]; rfl
          refine c_draw1 (fun w => ∃ B o9, St B (Rd encI 1 A r.length r :: bOK c.bb c.M o9 :: c.Ds) [(c.bb, .cells #[bV o9] 31 (0, 0))] w) 9 Mx rfl hs (fun _ h => ⟨_, _, h⟩) ?_; intro w hs hS
          refine gA hf hS (i := 0) rfl (by kernel_rfl) (fun w ⟨_, _, hs⟩ => g_ldB hf hs (.tail _ (.tail _ (.tail _ (.tail _ (.tail _ (.tail _ (.head _))))))) T83 rfl rfl) (by decide) ?_; clear hf a; intro a hf
          refine gA hf hS (i := 1) rfl (by kernel_rfl) (fun w ⟨_, _, hs⟩ => g_mv hf rfl) (by decide) ?_; clear hf a; intro a hf
          refine gA hf hS (i := 2) rfl (by kernel_rfl) (fun w ⟨_, _, hs⟩ => g_mv hf rfl) (by decide) ?_; clear hf a; intro a hf
          refine gA hf hS (i := 3) rfl (by kernel_rfl) (fun w ⟨_, _, hs⟩ => g_mv hf rfl) (by decide) ?_; clear hf a; intro a hf
          refine gA hf hS (i := 4) rfl (by kernel_rfl) (fun w ⟨_, _, hs⟩ => g_slHM hf SL31 rfl rfl rfl (by omega) (by omega)) (by decide) ?_; clear hf a; intro a hf
          refine gA hf hS (i := 5) rfl (by kernel_rfl) (fun w ⟨_, _, hs⟩ => g_mv hf rfl) (by decide) ?_; clear hf a; intro a hf
          refine one (i := 6) (by kernel_rfl) ?_
          refine oV hf rfl (v_lits (len := 1) hf hs SL31 T3 (.cons rfl .nil) rfl rfl rfl rfl (by decide) rfl) (by decide) (fun _ _ ⟨_, _, h⟩ => ⟨_, _, h.sub (.cons _ (.refl _))⟩) ?_; clear hs hf hS a; rintro _ w ⟨b1, rfl, hs⟩ hS a hf
          refine one (i := 7) (by kernel_rfl) ?_
          refine oV hf rfl (v_app hf hs AP31 (fun _ => rfl) (by decide) rfl rfl (l := r) (by simpa using hs.rd (.head _)) (rd_one (enc := encI) (x := ((i : Nat) : Int)) rfl (hs.own _ _ (.head _)).2) (by omega) (Nat.le_refl _) (fun e => by have h9 := hA0 e; omega) (by omega) (by decide)) (by decide) (fun _ _ ⟨_, _, _, _, h⟩ => ⟨_, _, h.sub (.cons _ (.cons _ (.refl _)))⟩) ?_; clear hs hf hS a; rintro _ w ⟨b2, cs4, rfl, hok, hs⟩ hS a hf
          rw [show ((r.length : Nat) : Int).toNat + 1 = (r ++ [((i : Nat) : Int)]).length by simp] at hf
          refine one (i := 8) (by kernel_rfl) ?_
          have hnew := hs.own _ _ (.head _)
          have hnbb : b2 ≠ c.bb := fun e => by have hn := hs.nodup; rw [e] at hn; simp [ids] at hn
          refine oCallB hf rfl (ih w (r ++ [((i : Nat) : Int)]) (some ⟨b2, 0, none⟩) _ o2 (hl3.trans hs.below.2.2.2) (hs.own _ _ (.tail _ (.tail _ (.head _)))).2 (hs.rd (.tail _ (.head _))) (by simp) (fun y hy => by rcases List.mem_append.1 hy with hy | hy; exact hrin y hy; rw [List.mem_singleton.1 hy]; exact hii) (by omega) (by rw [List.length_append]; simp only [List.length_cons, List.length_nil]; omega) (hok.rdb (sz := 1) (fun _ => rfl) (by decide) (hs.own _ _ (.head _)).2) (fun bk off e => by cases e; exact ⟨hnbb, Nat.le_trans c.hMl (Nat.le_trans hl3.1 (hnew.1.resolve_left (by simpa using hnbb)))⟩) (hok.cap (sz := 1) (by decide))) rfl rfl rfl E66 (by decide)
            (fun v w2 hR2 => by obtain ⟨rfl, o3, hb3, ho3, hh3, g1, g2, g3, g4⟩ := hR2; exact ⟨_, o3, c.at_ (we := w0) (o := o3) (r := r) (A := A) ((hl3.trans hs.below.2.2.2).trans g4) ⟨g1.trans hs.below.1, g2.trans hs.below.2.1, g3.trans hs.below.2.2.1, hs.below.2.2.2.trans g4⟩ hh3 ho3 (hrst w2 (hs.below.2.2.2.trans g4)) hA⟩) ?_; clear hf hS a; intro v w2 a hR2 hS hf; obtain ⟨rfl, o3, hb3, ho3, hh3, g1, g2, g3, g4⟩ := hR2
          replace hs := c.at_ (we := w0) (o := o3) (r := r) (A := A) ((hl3.trans hs.below.2.2.2).trans g4) ⟨g1.trans hs.below.1, g2.trans hs.below.2.1, g3.trans hs.below.2.2.1, hs.below.2.2.2.trans g4⟩ hh3 ho3 (hrst w2 (hs.below.2.2.2.trans g4)) hA
          refine e_done1 (by kernel_rfl) ?_
          refine q_blkN (q_thenN ?_)
          refine c_reg1 ?_
          refine gL hf (g_mv hf rfl) (by decide) ?_; clear hf a; intro a hf
          refine gL hf (g_addI hf rfl rfl (by omega)) (by decide) ?_; clear hf a; intro a hf
          refine gL hf (g_as hf rfl) (by decide) ?_; clear hf a; intro a hf
          refine e_nil1 (q_thenN ?_)
          first | exact ⟨(i + 1, o2), (by dsimp only; exact ⟨by omega, by omega, hstep⟩), (by dsimp only; omega), hf.back (by repeat (first | (with_reducible exact Ext.base) | ((with_reducible refine Ext.cons ?_ ?_); (· rfl)) | ((with_reducible refine Ext.over ?_ ?_ ?_); (· rfl); (· rfl)))) (allKeys rfl) (.cons rfl .nil), hs.dropN 0⟩ | exact ⟨(i + 1, o3), (by dsimp only; exact ⟨by omega, by omega, by rw [range_fold_succ, ← hbo, ringStep, if_pos hcnd]; exact hb3⟩), (by dsimp only; omega), hf.back (by repeat (first | (with_reducible exact Ext.base) | ((with_reducible refine Ext.cons ?_ ?_); (· rfl)) | ((with_reducible refine Ext.over ?_ ?_ ?_); (· rfl); (· rfl)))) (allKeys rfl) (.cons rfl .nil), hs.dropN 0⟩
        · skip
          have hany : (r.any fun x => ((i : Nat) : Int) == x) = decide (((i : Nat) : Int) ∈ r) := by rw [Bool.eq_iff_iff, List.any_eq_true]; simp
          rw [hany] at hc4
          have hstep : bL o2 = (List.range (i + 1)).foldl (ringStep c.b r (ringF c.b k)) (bL o1) := by rw [range_fold_succ, ← hbo, ringStep, hc4]; simp
          refine c_skip (q_blkN (q_thenN ?_))
          refine c_reg1 ?_
          refine gL hf (g_mv hf rfl) (by decide) ?_; clear hf a; intro a hf
          refine gL hf (g_addI hf rfl rfl (by omega)) (by decide) ?_; clear hf a; intro a hf
          refine gL hf (g_as hf rfl) (by decide) ?_; clear hf a; intro a hf
          refine e_nil1 (q_thenN ?_)
          first | exact ⟨(i + 1, o2), (by dsimp only; exact ⟨by omega, by omega, hstep⟩), (by dsimp only; omega), hf.back (by repeat (first | (with_reducible exact Ext.base) | ((with_reducible refine Ext.cons ?_ ?_); (· rfl)) | ((with_reducible refine Ext.over ?_ ?_ ?_); (· rfl); (· rfl)))) (allKeys rfl) (.cons rfl .nil), hs.dropN 0⟩ | exact ⟨(i + 1, o3), (by dsimp only; exact ⟨by omega, by omega, by rw [range_fold_succ, ← hbo, ringStep, if_pos hcnd]; exact hb3⟩), (by dsimp only; omega), hf.back (by repeat (first | (with_reducible exact Ext.base) | ((with_reducible refine Ext.cons ?_ ?_); (· rfl)) | ((with_reducible refine Ext.over ?_ ?_ ?_); (· rfl); (· rfl)))) (allKeys rfl) (.cons rfl .nil), hs.dropN 0⟩
      · try simp only [decide_eq_true_eq, decide_eq_false_iff_not] at hc3
        obtain rfl : i = c.b.flaps.length := by omega
        refine c_exit (q_thenX (q_thenX (q_blkX ?_)))
        refine e_end0 hf rfl ?_
        exact ⟨_, rfl, rfl, o2, by rw [ringF, ← hbl, if_neg hcut]; exact hbo, hs.rd (.tail _ (.head _)), (hs.own _ _ (.head _)).2, hs.below⟩

end Go.Proofs.YtjjcopeedcdokaaDoor

set_option linter.unusedVariables false
namespace Go.Proofs.YtjjcopeedcdokaaDoor
open Go.RowKit
theorem c_ring (c : RingCtx) : ∀ k, RingSpec c k := by
  intro k
  induction k with
  | zero => exact fun w r A cp o h1 h2 h3 h4 h5 h6 => absurd h6 (by omega)
  | succ k ih => exact fun w r A cp o h1 h2 h3 h4 h5 h6 h7 h8 h9 h10 => c_ring_step c k ih w r A cp o h1 h2 h3 h4 h5 h6 h7 h8 h9 h10
/-- All own blocks but one are written no more: they are data. -/
theorem St.fixB {w0 : Base} {Ds : List (World → Prop)} {H : Own} {b c : Nat} {cs cs' : Array Value} {e e' : TypeId} {w : World} (hs : St w0 Ds H w) (hb : (b, .cells cs e (0, 0)) ∈ H) (hc : (c, .cells cs' e' (0, 0)) ∈ H) (hne : c ≠ b) : Stable (w0.ex ++ [b]) w (BlkIs c cs' e' (0, 0)) :=
  BlkIs.stable (hs.own c _ hc).2 fun hm => by
    rcases List.mem_append.1 hm with hm | hm
    · exact w0.exm c hm (hs.own c _ hc).1
    · exact hne (List.mem_singleton.1 hm)
end Go.Proofs.YtjjcopeedcdokaaDoor

set_option linter.unusedVariables false
set_option linter.unusedSimpArgs false
namespace Go.Proofs.YtjjcopeedcdokaaDoor
open Go.RowKit
theorem c_Ring (b : Sheet) (fA : Option Addr) (fc : Nat) (rA : Option Addr) (rc : Nat) (ge : TypeId) (gz : Nat × Nat)  (w0 : World) (h : ShIn b fA fc rA rc w0) (hG : BlkIs 1 sidesA ge gz w0) :
    Calls Tryd.prog 18 #[.agg #[.int .i64 b.wide, .int .i64 b.high, .slice fA b.flaps.length fc, .slice rA b.rules.length rc]] w0 (RetX w0 (fun v w0' => ∃ A c, v = .tuple #[.slice A (ringP b).1.length c, .int .i64 (ringP b).2] ∧ Out (ringP b).1 A c w0 w0')) := by
  refine c_enter (n := 33) Tryd.func18 rfl rfl (Nat.le_of_ble_eq_true rfl) ?_; intro a hf; simp only [zipR] at hf
  have hs := St.start w0 [Rd encF 5 fA b.flaps.length b.flaps, Rd encR 2 rA b.rules.length b.rules, BlkIs 1 sidesA ge gz] (stab_app h.stab hG.st1)
  have hfm := h.F.2.1; have hrm := h.R.2.1
  refine c_reg ?_
  refine vL hf (v_boxA hf hs rfl) (by decide) ?_; clear hs hf a; rintro _ w ⟨b1, rfl, hs⟩ a hf
  refine gL hf (g_as hf rfl) (by decide) ?_; clear hf a; intro a hf
  refine gL hf (g_as hf rfl) (by decide) ?_; clear hf a; intro a hf
  refine e_nil ?_
  refine c_reg ?_
  refine gL hf (g_ldW hf hs T25 rfl (k := 0) rfl rfl) (by decide) ?_; clear hf a; intro a hf
  refine callX hf hs (c_asked b _ _ _ _ _ _ true _ ⟨hs.rd (.head _), hs.rd (.tail _ (.head _)), h.fc_, h.rc_⟩ (hs.rd (.tail _ (.tail _ (.head _))))) rfl rfl rfl E65 (by decide) ?_; intro v w1 a hR hb hs1 hf; obtain ⟨cs, mb, mp, rfl, hcl, hcp, hcm⟩ := hR; replace hs := hs.fresh hs1 (condFresh fun he => (hcm he).2.2); clear hs1 hb
  refine gL hf (g_mv hf rfl) (by decide) ?_; clear hf a; intro a hf
  refine gL hf (g_ext hf rfl rfl) (by decide) ?_; clear hf a; intro a hf
  refine gL hf (g_ext hf rfl rfl) (by decide) ?_; clear hf a; intro a hf
  refine vL hf (v_alloc hs T80 rfl) (by decide) ?_; clear hs hf a; rintro _ w ⟨b2, rfl, hs⟩ a hf
  refine uL (u_stW hf hs T80 rfl rfl hcp (k := 0) rfl hcl hcl) ?_; clear hs; intro w hs; dsimp only [List.set] at hs
  refine gL hf (g_as hf rfl) (by decide) ?_; clear hf a; intro a hf
  refine e_nil ?_
  refine wp_seq ?_
  refine c_reg ?_
  refine gL hf (g_mv hf rfl) (by decide) ?_; clear hf a; intro a hf
  refine gL hf (g_neq hf rfl rfl) (by decide) ?_; clear hf a; intro a hf
  refine e_nil ?_
  refine c_cond hf rfl (fun hc1 => ?_) (fun hc1 => ?_)
  · try simp only [decide_eq_true_eq, decide_eq_false_iff_not] at hc1
    have he : ¬ askE b true = 0 := by simpa using hc1
    refine c_reg ?_
    refine gL hf (g_mv hf rfl) (by decide) ?_; clear hf a; intro a hf
    refine gL hf (g_as hf rfl) (by decide) ?_; clear hf a; intro a hf
    refine gL hf (g_as hf rfl) (by decide) ?_; clear hf a; intro a hf
    refine e_nil ?_
    refine c_ret (q_thenR ?_)
    refine e_ret2 hf rfl rfl rfl ?_
    have hor : ringP b = ([], askE b true) := by simp only [ringP, if_neg he]
    exact ⟨_, rfl, hs.below, none, 0, by rw [hor]; rfl, by rw [hor]; exact ⟨Nat.le_refl _, rd_nil, fun b o e => by cases e⟩⟩
  · try simp only [decide_eq_true_eq, decide_eq_false_iff_not] at hc1
    have he : askE b true = 0 := by simpa using hc1
    obtain ⟨rfl, hmo, _, _⟩ := hcm he
    replace hs := hs.un (fun w h => h he)
    have hok := askE_zero he
    have hv := valid_of hok.1
    have hall := allOrds_eq hv hmo
    have hmany := hv.many
    refine c_skip (q_thenN ?_)
    refine c_reg ?_
    refine vL hf (v_alloc hs T31 rfl) (by decide) ?_; clear hs hf a; rintro _ w ⟨b3, rfl, hs⟩ a hf
    refine e_nil ?_
    refine c_reg ?_
    refine vL hf (v_alloc hs T83 rfl) (by decide) ?_; clear hs hf a; rintro _ w ⟨b4, rfl, hs⟩ a hf
    refine e_nil ?_
    refine c_reg ?_
    refine gL hf (g_fn hf rfl rfl) (by decide) ?_; clear hf a; intro a hf
    refine uL (u_st hf hs T83 rfl rfl rfl (k := 0) rfl (Nat.le_of_ble_eq_true rfl)) ?_; clear hs; intro w hs; dsimp only [List.set] at hs
    refine e_nil ?_
    refine wp_seq ?_
    refine c_reg ?_
    refine gL hf (g_fa (off' := 0) hf F80_0 rfl rfl) (by decide) ?_; clear hf a; intro a hf
    refine gL hf (g_fa (off' := 2) hf F25_2 rfl rfl) (by decide) ?_; clear hf a; intro a hf
    refine gL hf (g_ld hf hs T22 rfl (k := 2) rfl rfl) (by decide) ?_; clear hf a; intro a hf
    refine gL hf (g_len hf SL22 rfl) (by decide) ?_; clear hf a; intro a hf
    refine gL hf (g_mv hf rfl) (by decide) ?_; clear hf a; intro a hf
    refine e_nil ?_
    refine c_block ?_
    have n23 : b2 ≠ b3 := fun e => by have hn := hs.nodup; rw [e] at hn; simp [ids] at hn
    have n43 : b4 ≠ b3 := fun e => by have hn := hs.nodup; rw [e] at hn; simp [ids] at hn
    have f2 : Stable [b3] w (BlkIs b2 (sh5 b fA fc rA rc mb).toArray 80 (0, 0)) := hs.fixB (b := b3) (.tail _ (.head _)) (.tail _ (.tail _ (.head _))) n23
    have f4 : Stable [b3] w (BlkIs b4 #[.func (.func 66) #[] #[.pointer (some ⟨b2, 0, none⟩), .pointer (some ⟨b3, 0, none⟩), .pointer (some ⟨b4, 0, none⟩)]] 83 (0, 0)) := hs.fixB (b := b3) (.tail _ (.head _)) (.head _) n43
    replace hs : St (Base.of w0) (bOK b3 w0.heap.size none :: [BlkIs b2 (sh5 b fA fc rA rc mb).toArray 80 (0, 0), BlkIs b4 #[.func (.func 66) #[] #[.pointer (some ⟨b2, 0, none⟩), .pointer (some ⟨b3, 0, none⟩), .pointer (some ⟨b4, 0, none⟩)]] 83 (0, 0), MapIs mb mp, Rd encF 5 fA b.flaps.length b.flaps, Rd encR 2 rA b.rules.length b.rules, BlkIs 1 sidesA ge gz]) [(b3, .cells #[bV none] 31 (0, 0))] w := (((hs.sub (.cons _ (.cons_cons _ (List.nil_sublist _)))).addD f4).addD f2).addD (fun _ _ A l e => by cases e)
    refine c_loopD (fun s => Base.of w0) (fun s => bOK b3 w0.heap.size s.2 :: [BlkIs b2 (sh5 b fA fc rA rc mb).toArray 80 (0, 0), BlkIs b4 #[.func (.func 66) #[] #[.pointer (some ⟨b2, 0, none⟩), .pointer (some ⟨b3, 0, none⟩), .pointer (some ⟨b4, 0, none⟩)]] 83 (0, 0), MapIs mb mp, Rd encF 5 fA b.flaps.length b.flaps, Rd encR 2 rA b.rules.length b.rules, BlkIs 1 sidesA ge gz]) hf [8, 22, 23, 24, 25, 26, 27, 28, 29] (σ := (Nat × Best)) (fun s => [(22, .int .i64 (s.1 : Nat))]) (fun s => [(b3, .cells #[bV s.2] 31 (0, 0))]) (fun s => s.1 ≤ b.flaps.length ∧ bL s.2 = (List.range s.1).foldl (fun best i => ringF b 8 [((i : Nat) : Int)] best) none) (fun s => b.flaps.length - s.1) (0, none) hs ⟨Nat.zero_le _, rfl⟩ (.cons rfl .nil) ?_
    intro ⟨i, o2⟩ a w hJ hf hs
    dsimp only at hJ hf hs
    obtain ⟨hi1, hbo⟩ := hJ
    refine c_reg ?_
    refine gL hf (g_lss hf rfl rfl) (by decide) ?_; clear hf a; intro a hf
    refine e_nil ?_
    refine c_condS hf rfl (fun hc2 => ?_) (fun hc2 => ?_)
    · try simp only [decide_eq_true_eq, decide_eq_false_iff_not] at hc2
      refine c_skip (q_thenN ?_)
      refine c_blockS ?_
      refine c_reg ?_
      refine gL hf (g_mv hf rfl) (by decide) ?_; clear hf a; intro a hf
      refine gL hf (g_as hf rfl) (by decide) ?_; clear hf a; intro a hf
      refine e_nil ?_
      refine c_reg1 ?_
      refine gL hf (g_ldB hf hs (.tail _ (.tail _ (.head _))) T83 rfl rfl) (by decide) ?_; clear hf a; intro a hf
      refine gL hf (g_mv hf rfl) (by decide) ?_; clear hf a; intro a hf
      refine vL hf (v_lits (len := 1) hf hs SL31 T3 (.cons rfl .nil) rfl rfl rfl rfl (by decide) rfl) (by decide) ?_; clear hs hf a; rintro _ w ⟨b5, rfl, hs⟩ a hf
      have hne5 : b5 ≠ b3 := fun e => by have hn := hs.nodup; rw [e] at hn; simp [ids] at hn
      have hii : inN b ((i : Nat) : Int) := ⟨by omega, by omega⟩
      have hfr9 := freeN_lt (b := b) (r := []) (i := i) (by omega) (by simp); have hfl9 := freeN_le b []; simp only [List.nil_append] at hfr9
      refine callB hf (c_ring (RingCtx.mk b fA fc rA rc mb mp w b2 b3 b4 w0.heap.size hs.below.size hv hmo h.fc_ h.rc_ ((hs.data _ (.tail _ (.tail _ (.tail _ (.tail _ (.head _)))))).sub (fun i hi => by rw [List.mem_singleton.1 hi]; simp [ids])) ((hs.data _ (.tail _ (.tail _ (.tail _ (.tail _ (.tail _ (.head _))))))).sub (fun i hi => by rw [List.mem_singleton.1 hi]; simp [ids])) ((hs.data _ (.tail _ (.tail _ (.tail _ (.head _))))).sub (fun i hi => by rw [List.mem_singleton.1 hi]; simp [ids])) ((hs.data _ (.tail _ (.head _))).sub (fun i hi => by rw [List.mem_singleton.1 hi]; simp [ids])) ((hs.data _ (.tail _ (.tail _ (.head _)))).sub (fun i hi => by rw [List.mem_singleton.1 hi]; simp [ids]))) 8 w [((i : Nat) : Int)] (some ⟨b5, 0, none⟩) 1 o2 (Later.refl _ _) (hs.own _ _ (.tail _ (.head _))).2 (hs.rd (.head _)) (by simp) (fun y hy => by rw [List.mem_singleton.1 hy]; exact hii) (by show freeN b _ < 8; omega) (by show _ + freeN b _ ≤ b.flaps.length; simp only [List.length_cons, List.length_nil]; omega) (rd_one (enc := encI) rfl (hs.own _ _ (.head _)).2) (fun bk off e => by cases e; exact ⟨hne5, (hs.own _ _ (.head _)).1⟩) (Nat.le_refl _)) rfl rfl rfl E66 (by decide) ?_; clear hf; intro v w2 a hR2 hf
      obtain ⟨rfl, o3, hb3, ho3, hh3, g1, g2, g3, g4⟩ := hR2
      replace hs : St (Base.of w0) (bOK b3 w0.heap.size o3 :: [BlkIs b2 (sh5 b fA fc rA rc mb).toArray 80 (0, 0), BlkIs b4 #[.func (.func 66) #[] #[.pointer (some ⟨b2, 0, none⟩), .pointer (some ⟨b3, 0, none⟩), .pointer (some ⟨b4, 0, none⟩)]] 83 (0, 0), MapIs mb mp, Rd encF 5 fA b.flaps.length b.flaps, Rd encR 2 rA b.rules.length b.rules, BlkIs 1 sidesA ge gz]) [(b3, .cells #[bV o3] 31 (0, 0))] w2 := (((hs.dropN 1).turned g1 g2 g3 g4 hh3).subD (fun _ h => .tail _ h)).addD ho3.stable
      refine e_nil1 (q_blkN (q_thenN ?_))
      refine c_reg1 ?_
      refine gL hf (g_addI hf rfl rfl (by omega)) (by decide) ?_; clear hf a; intro a hf
      refine gL hf (g_mv hf rfl) (by decide) ?_; clear hf a; intro a hf
      refine e_nil1 (q_thenN ?_)
      exact ⟨(i + 1, o3), ⟨by dsimp only; omega, by dsimp only; rw [List.range_succ, List.foldl_append, ← hbo]; exact hb3⟩, (by dsimp only; omega), hf.back (by repeat (first | (with_reducible exact Ext.base) | ((with_reducible refine Ext.cons ?_ ?_); (· rfl)) | ((with_reducible refine Ext.over ?_ ?_ ?_); (· rfl); (· rfl)))) (allKeys rfl) (.cons rfl .nil), hs⟩
    · try simp only [decide_eq_true_eq, decide_eq_false_iff_not] at hc2
      obtain rfl : i = b.flaps.length := by omega
      refine c_exit (q_thenX (q_thenX (q_blkX (q_thenN ?_))))
      refine wp_seq ?_
      refine c_reg ?_
      refine gL hf (g_ld hf hs T31 rfl (k := 0) rfl rfl) (by decide) ?_; clear hf a; intro a hf
      refine gL hf (g_eqNil hf SE31 rfl rfl) (by decide) ?_; clear hf a; intro a hf
      refine e_nil ?_
      refine c_cond hf rfl (fun hc3 => ?_) (fun hc3 => ?_)
      · skip
        refine c_reg ?_
        refine gL hf (g_as hf rfl) (by decide) ?_; clear hf a; intro a hf
        refine gL hf (g_as hf rfl) (by decide) ?_; clear hf a; intro a hf
        refine e_nil ?_
        refine c_ret (q_thenR ?_)
        refine e_ret2 hf rfl rfl rfl ?_
        have hon := hs.rd (.head _)
        have hno : o2 = none := by have h8 := hon.isNone; rw [hc3] at h8; cases o2 with
              | none => rfl
              | some p => cases h8
        subst hno
        have hor : ringP b = ([], 4) := by simp only [ringP, he, if_true]; rw [← hbo]; rfl
        exact ⟨_, rfl, hs.below, none, 0, by rw [hor]; rfl, by rw [hor]; exact ⟨Nat.le_refl _, rd_nil, fun b o e => by cases e⟩⟩
      · skip
        refine c_skip (q_thenN ?_)
        refine c_reg ?_
        refine gL hf (g_ld hf hs T31 rfl (k := 0) rfl rfl) (by decide) ?_; clear hf a; intro a hf
        refine gL hf (g_as hf rfl) (by decide) ?_; clear hf a; intro a hf
        refine gL hf (g_as hf rfl) (by decide) ?_; clear hf a; intro a hf
        refine e_nil ?_
        refine c_ret ?_
        refine e_ret2 hf rfl rfl rfl ?_
        have hon := hs.rd (.head _)
        cases o2 with
        | none => simp [bA] at hc3
        | some p =>
          obtain ⟨A, l⟩ := p
          have hor : ringP b = (l, 0) := by simp only [ringP, he, if_true]; rw [← hbo]; rfl
          exact ⟨_, rfl, hs.below, A, l.length, by rw [hor]; rfl, by rw [hor]; exact ⟨Nat.le_refl _, (hon A l rfl).1, fun bk off e => ((hon A l rfl).2.2 bk off e).2⟩⟩

end Go.Proofs.YtjjcopeedcdokaaDoor

set_option linter.unusedVariables false
set_option linter.unusedSimpArgs false
namespace Go.Proofs.YtjjcopeedcdokaaDoor
open Go.RowKit
theorem E16 : Enters Tryd.prog 16 := fun _ _ => by kernel_rfl
theorem E17 : Enters Tryd.prog 17 := fun _ _ => by kernel_rfl
theorem E63 : Enters Tryd.prog 63 := fun _ _ => by kernel_rfl
theorem E64 : Enters Tryd.prog 64 := fun _ _ => by kernel_rfl
end Go.Proofs.YtjjcopeedcdokaaDoor

set_option linter.unusedVariables false
set_option linter.unusedSimpArgs false
namespace Go.Proofs.YtjjcopeedcdokaaDoor
open Go.RowKit
theorem most_spec (f : Nat → Int) : ∀ n : Nat, ((mostTo f n).2 = 0 ∧ (mostTo f n).1 = 0 ∧ ∀ w, w < n → f w ≤ 0) ∨ ∃ a, a < n ∧ mostTo f n = (((a : Nat) : Int), f a) ∧ 0 < f a ∧ ∀ w, w < n → f w ≤ f a ∧ (f w = f a → a ≤ w)
  | 0 => .inl ⟨rfl, rfl, fun w h => absurd h (by omega)⟩
  | n + 1 => by
    rcases most_spec f n with ⟨h1, h2, h3⟩ | ⟨a, h1, h2, h3, h4⟩
    · by_cases h : (mostTo f n).2 < f n
      · rw [most_yes h]
        refine .inr ⟨n, by omega, rfl, by omega, fun w hw => ?_⟩
        by_cases hwn : w = n
        · subst hwn; exact ⟨Int.le_refl _, fun _ => Nat.le_refl _⟩
        · have := h3 w (by omega)
          exact ⟨by omega, fun e => by omega⟩
      · rw [most_no h]
        refine .inl ⟨h1, h2, fun w hw => ?_⟩
        by_cases hwn : w = n
        · subst hwn; omega
        · exact h3 w (by omega)
    · by_cases h : (mostTo f n).2 < f n
      · rw [most_yes h]
        rw [h2] at h
        simp only at h
        refine .inr ⟨n, by omega, rfl, by omega, fun w hw => ?_⟩
        by_cases hwn : w = n
        · subst hwn; exact ⟨Int.le_refl _, fun _ => Nat.le_refl _⟩
        · have := (h4 w (by omega)).1
          exact ⟨by omega, fun e => by omega⟩
      · rw [most_no h]
        rw [h2] at h
        simp only at h
        refine .inr ⟨a, by omega, h2, h3, fun w hw => ?_⟩
        by_cases hwn : w = n
        · subst hwn; exact ⟨by omega, fun _ => by omega⟩
        · exact h4 w (by omega)
theorem most_cases (f : Nat → Int) (n : Nat) : (mostP f n = (0, 4) ∧ ∀ w, w < n → f w ≤ 0) ∨ ∃ a, a < n ∧ mostP f n = (((a : Nat) : Int), 0) ∧ 0 < f a ∧ ∀ w, w < n → f w ≤ f a ∧ (f w = f a → a ≤ w) := by
  unfold mostP
  rcases most_spec f n with ⟨h1, h2, h3⟩ | ⟨a, h1, h2, h3, h4⟩
  · rw [if_pos h1]; exact .inl ⟨rfl, h3⟩
  · rw [h2, if_neg (by simp only; omega)]
    exact .inr ⟨a, h1, rfl, h3, h4⟩
theorem wrong_nil {k : Bk} (h : wrongL k = []) {i : Nat} (hi : i < k.ws.length) : rightB (k.ws.getD i default) = true := by
  unfold wrongL wrongTo at h
  have h1 := List.map_eq_nil_iff.1 h
  have h2 := (List.filter_eq_nil_iff.1 h1) i (List.mem_range.2 hi)
  simpa using h2
theorem wrong_mem {k : Bk} {i : Nat} (hi : i < k.ws.length) : ((i : Nat) : Int) ∈ wrongL k ↔ rightB (k.ws.getD i default) = false := by
  unfold wrongL wrongTo
  simp only [List.mem_map, List.mem_filter, List.mem_range]
  constructor
  · rintro ⟨j, ⟨_, h2⟩, e⟩
    have : j = i := by omega
    subst this; simpa using h2
  · intro h; exact ⟨i, ⟨hi, by rw [h]; rfl⟩, rfl⟩
theorem wrongP_ok {k : Bk} (hb : hckB k = true) : wrongP k = (wrongL k, 0) := by rw [wrongP, hb]; rfl
theorem togE_ok {k : Bk} (hb : hckB k = true) : togE k = if wrongL k = [] then 0 else 92 := by unfold togE; rw [if_pos hb]
theorem teach_cases {k : Bk} (hb : hckB k = true) : (wrongL k ≠ [] ∧ teachP k = (0, 92)) ∨ (wrongL k = [] ∧ (((orderP k.sh).2 ≠ 0 ∧ teachP k = (0, 4)) ∨ ((orderP k.sh).2 = 0 ∧ teachP k = mostP (moreZ k (orderP k.sh).1) k.ws.length))) := by
  unfold teachP
  rw [togE_ok hb]
  by_cases h : wrongL k = []
  · by_cases ho : (orderP k.sh).2 = 0
    · exact .inr ⟨h, .inr ⟨ho, by simp [h, ho]⟩⟩
    · exact .inr ⟨h, .inl ⟨ho, by simp [h, ho]⟩⟩
  · exact .inl ⟨h, by simp [h]⟩
end Go.Proofs.YtjjcopeedcdokaaDoor

set_option linter.unusedVariables false
set_option linter.unusedSimpArgs false
namespace Go.Proofs.YtjjcopeedcdokaaDoor
open Go.RowKit
section
variable {P : Program} {ds : List Deferred} {a : Act} {n : Nat} {L : Regs} {w : World} {t : TypeId}
end
def knW (k : Bk) (i : Nat) (y : Wkr) : Bk := { k with ws := k.ws.set i y }
theorem knW_len (k : Bk) (i : Nat) (y : Wkr) : (knW k i y).ws.length = k.ws.length := by simp [knW]
theorem knW_get {k : Bk} {i : Nat} (hi : i < k.ws.length) (y : Wkr) : (knW k i y).ws.getD i default = y := by
  unfold knW
  rw [List.getD_eq_getElem?_getD, List.getElem?_set_self hi]; rfl
theorem knW_ne {k : Bk} {i j : Nat} (h : i ≠ j) (y : Wkr) : (knW k i y).ws.getD j default = k.ws.getD j default := by
  unfold knW
  rw [List.getD_eq_getElem?_getD, List.getElem?_set_ne h, ← List.getD_eq_getElem?_getD]
theorem wrong_kn {k : Bk} {i : Nat} {y : Wkr} (hi : i < k.ws.length) (h1 : rightB (k.ws.getD i default) = true) (h2 : rightB y = true) : wrongL (knW k i y) = wrongL k := by
  unfold wrongL wrongTo
  rw [knW_len]
  congr 1
  refine List.filter_congr fun w hw => ?_
  by_cases e : i = w
  · subst e; rw [knW_get hi, h1, h2]
  · rw [knW_ne e]
theorem allP_knW (k : Bk) (i : Nat) (y : Wkr) (what : Nat) : ∀ l : List Wkr, allP (knW k i y) what l = allP k what l
  | [] => rfl
  | x :: l => by simp only [allP, allP_knW k i y what l]; rfl
end Go.Proofs.YtjjcopeedcdokaaDoor

set_option linter.unusedVariables false
set_option linter.unusedSimpArgs false
namespace Go.Proofs.YtjjcopeedcdokaaDoor
open Go.RowKit
section
variable {P : Program} {ds : List Deferred} {a : Act} {n d : Nat} {L : Regs} {w : World} {o : Op} {t : TypeId} {p : String} {af : Array Edge} {ops : Array Oper} {S : World → Prop} {Q : Exit → Act → World → Prop} {i : Nat}
/-- An operation that turns the world, with a ground that is known. -/
theorem oVY {KK : Act → World → Prop} (hf : Fr ds a n L) {R : Value → World → Prop} {j r : Nat} {want : Bool} {u : Value} (hi : ops[i]? = some ⟨some d, o, t, p, af, some (j, want)⟩) (hj : (ops[j]?).bind (·.dst) = some r) (hu : ev L (.tmp r) = some u) (hG : gyes u want = true) (hg : GoesV P o t a w R) (hd : d < n) (hS : ∀ v w', R v w' → S w')
    (h : ∀ v w', R v w' → S w' → ∀ a', Fr ds a' n ((d, v) :: L) → KK a' w') : wpOp P ops Q i (fun a' w' => S w' ∧ KK a' w') a w := by
  unfold wpOp
  rw [hi]
  simp only
  rw [wanted_of hf rfl hj hu, hG, if_pos rfl]
  refine .inl ?_
  obtain ⟨v, w', hrun, hR⟩ := hg (some d) p af (some (j, want))
  unfold Oper.wp
  rw [hrun]
  exact ⟨hS v w' hR, h v w' hR (hS v w' hR) _ (hf.put hd v)⟩
end
def shT : Sheet := ⟨4, 4, [⟨0, 3, 3, 0, 3⟩, ⟨1, 2, 3, 0, 3⟩], [⟨0, 1⟩]⟩
def bkT (o : Option Addr) : Bk := ⟨shT, 10, 7, 1, [⟨25, [1, 0], 19, 22, 2, 2, o, 2⟩]⟩
theorem t_order : orderP shT = ([1, 0], 0) := by kernel_rfl
theorem t_does : doesP shT [0, 1] = (0, 0) := by kernel_rfl
theorem t_check : checkB shT = true := by kernel_rfl
section
variable (o : Option Addr)
theorem t_pass : tellP (bkT o) 0 0 = ((19, 22), 0) := by kernel_rfl
theorem t_gets : tellP (bkT o) 0 2 = ((3, 13), 0) := by kernel_rfl
theorem t_gross : grossP (bkT o) = ((1, 2), 0) := by kernel_rfl
end
def tpF : Array Value := (shT.flaps.flatMap encF).toArray
def tpR : Array Value := (shT.rules.flatMap encR).toArray
def tpW (b1 : Nat) : Array Value := ((bkT (some ⟨b1, 0, none⟩)).ws.flatMap encW).toArray
abbrev tpV (bf br : Nat) : Value := .agg #[.int .i64 4, .int .i64 4, .slice (some ⟨bf, 0, none⟩) 2 2, .slice (some ⟨br, 0, none⟩) 1 1]
abbrev tpBV (bf br bw : Nat) : Value := .agg #[.int .i64 4, .int .i64 4, .slice (some ⟨bf, 0, none⟩) 2 2, .slice (some ⟨br, 0, none⟩) 1 1, .int .i64 10, .int .i64 7, .int .i64 1, .slice (some ⟨bw, 0, none⟩) 1 1]
def TpIn (bf br m : Nat) (w : World) : Prop := m ≤ bf ∧ m ≤ br ∧ w.heap[bf]? = some (.cells tpF 117 (0, 0)) ∧ w.heap[br]? = some (.cells tpR 51 (0, 0))
theorem tpFresh {w w' : World} {bf br m : Nat} (h : TpIn bf br w.heap.size w') (hm : m ≤ w.heap.size) : Fresh w w' (TpIn bf br m) := by
  obtain ⟨h1, h2, h4, h5⟩ := h
  exact fun w'' hs hb => ⟨Nat.le_trans hm h1, Nat.le_trans hm h2, (hb bf h1 (Array.getElem?_eq_some_iff.1 h4).1).trans h4, (hb br h2 (Array.getElem?_eq_some_iff.1 h5).1).trans h5⟩
theorem TpIn.sh {bf br m : Nat} {w : World} (h : TpIn bf br m w) : ShIn shT (some ⟨bf, 0, none⟩) 2 (some ⟨br, 0, none⟩) 1 w :=
  ⟨rd_of_flat (sz := 5) (len := 2) (fun _ => rfl) (by decide) h.2.2.1 rfl (by decide) rfl, rd_of_flat (sz := 2) (len := 1) (fun _ => rfl) (by decide) h.2.2.2 rfl (by decide) rfl, Nat.le_refl _, Nat.le_refl _⟩
structure TpB (bf br b1 bw m : Nat) (w : World) : Prop where
  ch : TpIn bf br m w
  m1 : m ≤ b1
  mw : m ≤ bw
  h1 : w.heap[b1]? = some (.cells #[.int .i64 1, .int .i64 0] 3 (0, 0))
  hw : w.heap[bw]? = some (.cells (tpW b1) 47 (0, 0))
theorem TpB.bk {bf br b1 bw m : Nat} {w : World} (h : TpB bf br b1 bw m w) : BkIn (bkT (some ⟨b1, 0, none⟩)) (some ⟨bf, 0, none⟩) 2 (some ⟨br, 0, none⟩) 1 (some ⟨bw, 0, none⟩) 1 w :=
  ⟨h.ch.sh, rd_of_flat (sz := 6) (len := 1) (fun _ => rfl) (by decide) h.hw rfl (by decide) rfl, Nat.le_refl _, fun x hx => by
    rw [List.mem_singleton.1 hx]
    exact ⟨Nat.le_refl _, rd_of_flat (sz := 1) (len := 2) (fun _ => rfl) (by decide) h.h1 rfl (by decide) rfl⟩⟩
theorem tpBFresh {w w' : World} {bf br b1 bw m : Nat} (h : TpB bf br b1 bw w.heap.size w') (hm : m ≤ w.heap.size) : Fresh w w' (TpB bf br b1 bw m) :=
  fun w'' hs hb => ⟨tpFresh h.ch hm w'' hs hb, Nat.le_trans hm h.m1, Nat.le_trans hm h.mw, (hb b1 h.m1 (Array.getElem?_eq_some_iff.1 h.h1).1).trans h.h1, (hb bw h.mw (Array.getElem?_eq_some_iff.1 h.hw).1).trans h.hw⟩
theorem smallH0 (k : Bk) : ((((((bookE k == 0) && ((if checkB k.sh then (0 : Int) else 40) == 0)) && decide (((k.ws.length : Nat) : Int) ≤ 4)) && fitsB ((k.sh.flaps.length : Nat) : Int) 1 7) && decide (((k.sh.rules.length : Nat) : Int) ≤ 10)) && fitsB k.gross 1 144) = hckB k := by
  rw [book_zero]
  cases h : hckB k with
  | false => rfl
  | true =>
    have hv := hck_iff.1 h
    have h0 := valid_of hv.ck
    have h1 := hv.g1; have h2 := hv.g2; have h7 := hv.n; have h8 := h0.many; have h9 := h0.rules
    rw [hv.ck]
    simp only [fitsB, Bool.and_eq_true, decide_eq_true_eq, if_true]
    simp
    omega
theorem smallH1 {k : Bk} (h : hckB k = true) {i : Nat} (hi : i < k.ws.length) : (spanB (k.ws.getD i default).bl (k.ws.getD i default).bh 0 600 && spanB (k.ws.getD i default).tl (k.ws.getD i default).th 0 600) = hckB k := by
  have hx := (hck_iff.1 h).wk hi
  have h3 := hx.b0; have h4 := hx.b1; have h5 := hx.b2; have h7 := hx.t0; have h8 := hx.t1; have h9 := hx.t2
  rw [h]
  simp only [spanB, Bool.and_eq_true, decide_eq_true_eq]
  omega
theorem top_ring {b : Sheet} (hck : checkB b = true) : ((ringP b).2 = 0 ∧ (orderP b).2 = 4 ∧ 2 ≤ (ringP b).1.length) ∨ ((ringP b).2 = 4 ∧ (orderP b).2 = 0) := by
  rcases told_cases hck with ⟨h1, _, _, r, h2, h3, _⟩ | ⟨l, rest, h1, _, _, h2, _⟩
  · rw [h1, h2]; exact .inl ⟨rfl, rfl, h3.two⟩
  · rw [h1, h2]; exact .inr ⟨rfl, rfl⟩
theorem pass_none {k : Bk} {x : Wkr} (hck : checkB k.sh = true) (hx : WkrV k.sh x) (ho : (orderP k.sh).2 ≠ 0) : (ofZ k 0 x).1 = 0 := by
  have hd : doesK k x ≠ 2 := fun h => ho (does_late hck hx.ord (by unfold doesK at h; rw [does_ok hck hx.ord] at h; simp only at h; omega)).1
  unfold ofZ
  rcases ofP_cases k x 0 with ⟨_, h⟩ | ⟨s, h, he⟩
  · rw [h]; rfl
  · rw [h]
    obtain ⟨c, hc, e⟩ := he.lo1
    rw [hspan0] at e
    show s.1 = 0
    rw [← e]; unfold hp; rw [if_neg hd]; split <;> rfl
theorem all_none {k : Bk} (hck : checkB k.sh = true) (ho : (orderP k.sh).2 ≠ 0) : ∀ l : List Wkr, (∀ x ∈ l, WkrV k.sh x) → (allP k 0 l).1 = 0
  | [], _ => rfl
  | x :: l, h => by
    have h1 := pass_none hck (h x (.head _)) ho
    have h2 := all_none hck ho l fun y hy => h y (.tail _ hy)
    simp only [allP]; omega
theorem gross_none {k : Bk} (hb : hckB k = true) (ho : (orderP k.sh).2 ≠ 0) (hw : wrongL k = []) : (grossP k).2 = 0 ∧ (grossP k).1.1 = 0 := by
  have hv := hck_iff.1 hb
  have h1 := togE_ok hb
  rw [if_pos hw] at h1
  unfold grossP
  rw [if_pos h1, all_none hv.ck ho k.ws hv.w]
  exact ⟨rfl, Int.zero_tdiv _⟩
theorem allP_up {k : Bk} {what : Nat} : ∀ (l : List Wkr) (i : Nat) (y : Wkr), i < l.length → (ofZ k what (l.getD i default)).1 ≤ (ofZ k what y).1 → (ofZ k what (l.getD i default)).2 ≤ (ofZ k what y).2 → (allP k what l).1 ≤ (allP k what (l.set i y)).1 ∧ (allP k what l).2 ≤ (allP k what (l.set i y)).2
  | [], i, y, h, _, _ => absurd h (by simp)
  | x :: l, 0, y, _, h1, h2 => by
    simp only [List.set_cons_zero, allP]
    have e : (x :: l).getD 0 default = x := rfl
    rw [e] at h1 h2
    omega
  | x :: l, i + 1, y, h, h1, h2 => by
    have := allP_up l i y (by simpa using h) h1 h2
    simp only [List.set_cons_succ, allP]
    omega
/-- Who folds in the order that is told is worth no less. -/
theorem total_up {k : Bk} (hb : hckB k = true) (ho : (orderP k.sh).2 = 0) (hw : wrongL k = []) {i : Nat} (hi : i < k.ws.length) (A : Option Addr) (c : Nat) :
    (totalP k).2 = 0 ∧ (totalP (setW k i (orderP k.sh).1 A c)).2 = 0 ∧ (totalP k).1.1 ≤ (totalP (setW k i (orderP k.sh).1 A c)).1.1 ∧ (totalP k).1.2 ≤ (totalP (setW k i (orderP k.sh).1 A c)).1.2 := by
  have hv := hck_iff.1 hb
  have ho2 := (order_ord hv.ck ho).1
  have hb2 := hck_iff.2 (setW_v hv hi ho2 A c)
  have hbt := (betterH hv (hv.wk hi) (order_does hv.ck ho) A c).2
  have e1 := togE_ok hb
  have hrt := wrong_nil hw hi
  have hw2 : wrongL (setW k i (orderP k.sh).1 A c) = [] := (wrong_kn (y := reO (k.ws.getD i default) (orderP k.sh).1 A c) hi hrt (by rw [right_reO]; exact hrt)).trans hw
  have e2 := togE_ok hb2
  rw [if_pos hw] at e1; rw [if_pos hw2] at e2
  have h3 := allP_up (k := k) (what := 2) k.ws i (reO (k.ws.getD i default) (orderP k.sh).1 A c) hi hbt.1 hbt.2
  have h4 : allP (setW k i (orderP k.sh).1 A c) 2 (setW k i (orderP k.sh).1 A c).ws = allP k 2 (k.ws.set i (reO (k.ws.getD i default) (orderP k.sh).1 A c)) := allP_knW k i _ 2 _
  unfold totalP
  rw [if_pos e1, if_pos e2, h4]
  exact ⟨rfl, rfl, h3⟩
theorem teach_who {k : Bk} (hb : hckB k = true) (hw : wrongL k = []) (h : (teachP k).2 = 0) : ∃ a : Nat, a < k.ws.length ∧ (teachP k).1 = ((a : Nat) : Int) := by
  rcases (teach_cases hb).resolve_left (fun h9 => h9.1 hw) with ⟨_, ⟨_, h3⟩ | ⟨_, h3⟩⟩
  · rw [h3] at h; cases h
  · rw [h3] at h ⊢
    rcases most_cases (moreZ k (orderP k.sh).1) k.ws.length with ⟨h4, _⟩ | ⟨a, ha, h4, _⟩
    · rw [h4] at h; cases h
    · rw [h4]; exact ⟨a, ha, rfl⟩
theorem teach_wrong {k : Bk} (hb : hckB k = true) (hw : wrongL k ≠ []) : (teachP k).2 = 92 := by
  rw [((teach_cases hb).resolve_right fun h => hw h.1).2]
end Go.Proofs.YtjjcopeedcdokaaDoor

set_option linter.unusedVariables false
set_option linter.unusedSimpArgs false
namespace Go.Proofs.YtjjcopeedcdokaaDoor
open Go.RowKit
theorem c_small (k : Bk) (fA : Option Addr) (fc : Nat) (rA : Option Addr) (rc : Nat) (wA : Option Addr) (wc : Nat) (ge : TypeId) (gz : Nat × Nat)  (w0 : World) (h : BkIn k fA fc rA rc wA wc w0) (hG : BlkIs 1 sidesA ge gz w0) :
    Calls Tryd.prog 16 #[.agg #[.int .i64 k.sh.wide, .int .i64 k.sh.high, .slice fA k.sh.flaps.length fc, .slice rA k.sh.rules.length rc, .int .i64 k.gross, .int .i64 k.pay, .int .i64 k.fine, .slice wA k.ws.length wc]] w0 (Ret w0 (.bool (hckB k))) := by
  refine c_enter (n := 66) Tryd.func16 rfl rfl (Nat.le_of_ble_eq_true rfl) ?_; intro a hf; simp only [zipR] at hf
  have hs := St.start w0 [Rd encF 5 fA k.sh.flaps.length k.sh.flaps, Rd encR 2 rA k.sh.rules.length k.sh.rules, Rd encW 6 wA k.ws.length k.ws, OrdD k.ws, BlkIs 1 sidesA ge gz] (stab_app h.stab hG.st1)
  have hwm := h.W.2.1
  refine c_reg ?_
  refine vL hf (v_boxA hf hs rfl) (by decide) ?_; clear hs hf a; rintro _ w ⟨b1, rfl, hs⟩ a hf
  refine gL hf (g_as hf rfl) (by decide) ?_; clear hf a; intro a hf
  refine e_nil ?_
  refine c_reg ?_
  refine gL hf (g_ldW hf hs T28 rfl (k := 0) rfl rfl) (by decide) ?_; clear hf a; intro a hf
  refine callL hf hs (c_CheckH k _ _ _ _ _ _ ge gz _ ⟨⟨hs.rd (.head _), hs.rd (.tail _ (.head _)), h.sh.fc_, h.sh.rc_⟩, hs.rd (.tail _ (.tail _ (.head _))), h.wc_, hs.rd (.tail _ (.tail _ (.tail _ (.head _))))⟩ (hs.rd (.tail _ (.tail _ (.tail _ (.tail _ (.head _))))))) rfl rfl rfl E33 (by decide) ?_; clear hs hf a; intro w a hs hf
  refine gL hf (g_eql hf rfl rfl) (by decide) ?_; clear hf a; intro a hf
  refine gL hf (g_mv hf rfl) (by decide) ?_; clear hf a; intro a hf
  refine ggL hf rfl rfl (gyes_t _) (fun hg => g_fa (off' := 0) hf F28_0 rfl rfl) (by decide) ?_; clear hf a; intro a hf
  refine ggL hf rfl rfl (gyes_t _) (fun hg => g_ldP hf hs T25 (ev_gv rfl hg) (k := 0) rfl rfl) (by decide) ?_; clear hf a; intro a hf
  refine callG hf hs rfl rfl (gyes_t _) (fun hg => ⟨_, _, _, _, c_Check k.sh _ _ _ _ _ ⟨hs.rd (.head _), hs.rd (.tail _ (.head _)), h.sh.fc_, h.sh.rc_⟩, rfl, evs_cons (ev_gv rfl hg) evs_nil, rfl⟩) E61 (by decide) ?_; clear hs hf a; intro w a hs hf
  refine ggL hf rfl rfl (gyes_t _) (fun hg => g_eql hf (ev_gv rfl hg) rfl) (by decide) ?_; clear hf a; intro a hf
  refine gL hf (g_and hf rfl rfl) (by decide) ?_; clear hf a; intro a hf
  refine gL hf (g_mv hf rfl) (by decide) ?_; clear hf a; intro a hf
  refine ggL hf rfl rfl (gyes_t _) (fun hg => g_fa (off' := 7) hf F28_4 rfl rfl) (by decide) ?_; clear hf a; intro a hf
  refine ggL hf rfl rfl (gyes_t _) (fun hg => g_ld hf hs T26 (ev_gv rfl hg) (k := 0) rfl rfl) (by decide) ?_; clear hf a; intro a hf
  refine ggL hf rfl rfl (gyes_t _) (fun hg => g_len hf SL26 (ev_gv rfl hg)) (by decide) ?_; clear hf a; intro a hf
  refine ggL hf rfl rfl (gyes_t _) (fun hg => g_leq hf (ev_gv rfl hg) rfl) (by decide) ?_; clear hf a; intro a hf
  refine gL hf (g_and hf rfl rfl) (by decide) ?_; clear hf a; intro a hf
  refine gL hf (g_mv hf rfl) (by decide) ?_; clear hf a; intro a hf
  refine ggL hf rfl rfl (gyes_t _) (fun hg => g_fa (off' := 0) hf F28_0 rfl rfl) (by decide) ?_; clear hf a; intro a hf
  refine ggL hf rfl rfl (gyes_t _) (fun hg => g_fa (off' := 2) hf F25_2 (ev_gv rfl hg) rfl) (by decide) ?_; clear hf a; intro a hf
  refine ggL hf rfl rfl (gyes_t _) (fun hg => g_ld hf hs T22 (ev_gv rfl hg) (k := 0) rfl rfl) (by decide) ?_; clear hf a; intro a hf
  refine ggL hf rfl rfl (gyes_t _) (fun hg => g_len hf SL22 (ev_gv rfl hg)) (by decide) ?_; clear hf a; intro a hf
  refine callG hf hs rfl rfl (gyes_t _) (fun hg => ⟨_, _, _, _, c_Fits _ _ _ _, rfl, evs_cons (ev_gv rfl hg) (evs_cons rfl (evs_cons rfl evs_nil)), rfl⟩) E26 (by decide) ?_; clear hs hf a; intro w a hs hf
  refine gL hf (g_and hf rfl rfl) (by decide) ?_; clear hf a; intro a hf
  refine gL hf (g_mv hf rfl) (by decide) ?_; clear hf a; intro a hf
  refine ggL hf rfl rfl (gyes_t _) (fun hg => g_fa (off' := 0) hf F28_0 rfl rfl) (by decide) ?_; clear hf a; intro a hf
  refine ggL hf rfl rfl (gyes_t _) (fun hg => g_fa (off' := 3) hf F25_3 (ev_gv rfl hg) rfl) (by decide) ?_; clear hf a; intro a hf
  refine ggL hf rfl rfl (gyes_t _) (fun hg => g_ld hf hs T23 (ev_gv rfl hg) (k := 0) rfl rfl) (by decide) ?_; clear hf a; intro a hf
  refine ggL hf rfl rfl (gyes_t _) (fun hg => g_len hf SL23 (ev_gv rfl hg)) (by decide) ?_; clear hf a; intro a hf
  refine ggL hf rfl rfl (gyes_t _) (fun hg => g_leq hf (ev_gv rfl hg) rfl) (by decide) ?_; clear hf a; intro a hf
  refine gL hf (g_and hf rfl rfl) (by decide) ?_; clear hf a; intro a hf
  refine gL hf (g_mv hf rfl) (by decide) ?_; clear hf a; intro a hf
  refine ggL hf rfl rfl (gyes_t _) (fun hg => g_fa (off' := 4) hf F28_1 rfl rfl) (by decide) ?_; clear hf a; intro a hf
  refine ggL hf rfl rfl (gyes_t _) (fun hg => g_ld hf hs T3 (ev_gv rfl hg) (k := 0) rfl rfl) (by decide) ?_; clear hf a; intro a hf
  refine callG hf hs rfl rfl (gyes_t _) (fun hg => ⟨_, _, _, _, c_Fits _ _ _ _, rfl, evs_cons (ev_gv rfl hg) (evs_cons rfl (evs_cons rfl evs_nil)), rfl⟩) E26 (by decide) ?_; clear hs hf a; intro w a hs hf
  refine gL hf (g_and hf rfl rfl) (by decide) ?_; clear hf a; intro a hf
  refine gL hf (g_as hf rfl) (by decide) ?_; clear hf a; intro a hf
  refine e_nil ?_
  refine wp_seq ?_
  refine c_reg ?_
  refine gL hf (g_as hf rfl) (by decide) ?_; clear hf a; intro a hf
  refine e_nil ?_
  refine c_block ?_
  rw [smallH0 k] at hf
  refine c_loop hf hs (List.range' 3 2 ++ List.range' 39 26) (σ := Nat) (fun i => [(3, .bool (hckB k)), (4, .int .i64 (i : Nat))]) (fun i => _) (fun i => i ≤ k.ws.length) (fun i => k.ws.length - i) 0 (Nat.zero_le _) (.cons rfl (.cons rfl .nil)) rfl ?_
  intro i a w hJ hf hs
  refine wp_seq ?_
  refine c_reg ?_
  refine gL hf (g_mv hf rfl) (by decide) ?_; clear hf a; intro a hf
  refine gL hf (g_mv hf rfl) (by decide) ?_; clear hf a; intro a hf
  refine ggL hf rfl rfl (gyes_t _) (fun hg => g_mv hf rfl) (by decide) ?_; clear hf a; intro a hf
  refine ggL hf rfl rfl (gyes_t _) (fun hg => g_fa (off' := 7) hf F28_4 rfl rfl) (by decide) ?_; clear hf a; intro a hf
  refine ggL hf rfl rfl (gyes_t _) (fun hg => g_ld hf hs T26 (ev_gv rfl hg) (k := 0) rfl rfl) (by decide) ?_; clear hf a; intro a hf
  refine ggL hf rfl rfl (gyes_t _) (fun hg => g_len hf SL26 (ev_gv rfl hg)) (by decide) ?_; clear hf a; intro a hf
  refine ggL hf rfl rfl (gyes_t _) (fun hg => g_lss hf (ev_gv rfl hg) (ev_gv rfl hg)) (by decide) ?_; clear hf a; intro a hf
  refine gL hf (g_and hf rfl rfl) (by decide) ?_; clear hf a; intro a hf
  refine e_nil ?_
  refine c_cond hf rfl (fun hc1 => ?_) (fun hc1 => ?_)
  · skip
    obtain ⟨hck, hkl⟩ := (Bool.and_eq_true _ _).mp hc1
    replace hkl := of_decide_eq_true hkl
    have hi : i < k.ws.length := by omega
    refine c_skip (q_thenN ?_)
    refine c_blockS ?_
    refine c_reg1 ?_
    refine gL hf (g_fa (off' := 7) hf F28_4 rfl rfl) (by decide) ?_; clear hf a; intro a hf
    refine gL hf (g_ld hf hs T26 rfl (k := 0) rfl rfl) (by decide) ?_; clear hf a; intro a hf
    refine gL hf (g_mv hf rfl) (by decide) ?_; clear hf a; intro a hf
    (first | (refine gL hf (g_ixE hf hs (.tail _ (.tail _ (.head _))) SL26 rfl rfl (by omega)) (by decide) ?_) | (refine gL hf (g_ixD hf hs (.tail _ (.tail _ (.head _))) SL26 rfl rfl (by omega)) (by decide) ?_)); clear hf a; intro a hf
    refine gL hf (g_faD (j' := 2) hf hs (.tail _ (.tail _ (.head _))) F47_2 rfl (by omega) rfl) (by decide) ?_; clear hf a; intro a hf
    refine gL hf (g_ldEP hf hs (.tail _ (.tail _ (.head _))) T40 rfl rfl (by omega)) (by decide) ?_; clear hf a; intro a hf
    refine callL hf hs (c_Right _ _ _ _ _) rfl rfl rfl E62 (by decide) ?_; clear hs hf a; intro w a hs hf
    refine gL hf (g_mv hf rfl) (by decide) ?_; clear hf a; intro a hf
    refine ggL hf rfl rfl (gyes_t _) (fun hg => g_fa (off' := 7) hf F28_4 rfl rfl) (by decide) ?_; clear hf a; intro a hf
    refine ggL hf rfl rfl (gyes_t _) (fun hg => g_ld hf hs T26 (ev_gv rfl hg) (k := 0) rfl rfl) (by decide) ?_; clear hf a; intro a hf
    refine ggL hf rfl rfl (gyes_t _) (fun hg => g_mv hf rfl) (by decide) ?_; clear hf a; intro a hf
    (first | (refine ggL hf rfl rfl (gyes_t _) (fun hg => g_ixE hf hs (.tail _ (.tail _ (.head _))) SL26 (ev_gv rfl hg) (ev_gv rfl hg) (by omega)) (by decide) ?_) | (refine ggL hf rfl rfl (gyes_t _) (fun hg => g_ixD hf hs (.tail _ (.tail _ (.head _))) SL26 (ev_gv rfl hg) (ev_gv rfl hg) (by omega)) (by decide) ?_)); clear hf a; intro a hf
    refine ggL hf rfl rfl (gyes_t _) (fun hg => g_faD (j' := 4) hf hs (.tail _ (.tail _ (.head _))) F47_3 (ev_gv rfl hg) (by omega) rfl) (by decide) ?_; clear hf a; intro a hf
    refine ggL hf rfl rfl (gyes_t _) (fun hg => g_ldEP hf hs (.tail _ (.tail _ (.head _))) T40 (ev_gv rfl hg) rfl (by omega)) (by decide) ?_; clear hf a; intro a hf
    refine callG hf hs rfl rfl (gyes_t _) (fun hg => ⟨_, _, _, _, c_Right _ _ _ _ _, rfl, evs_cons (ev_gv rfl hg) (evs_cons rfl (evs_cons rfl evs_nil)), rfl⟩) E62 (by decide) ?_; clear hs hf a; intro w a hs hf
    refine gL hf (g_and hf rfl rfl) (by decide) ?_; clear hf a; intro a hf
    refine gL hf (g_as hf rfl) (by decide) ?_; clear hf a; intro a hf
    refine e_nil1 (q_blkN (q_thenN ?_))
    refine c_reg1 ?_
    refine gL hf (g_mv hf rfl) (by decide) ?_; clear hf a; intro a hf
    refine gL hf (g_addI hf rfl rfl (by omega)) (by decide) ?_; clear hf a; intro a hf
    refine gL hf (g_as hf rfl) (by decide) ?_; clear hf a; intro a hf
    refine e_nil1 (q_thenN ?_)
    rw [smallH1 hck hi] at hf
    exact ⟨i + 1, (by omega), (by omega), hf.back (by repeat (first | (with_reducible exact Ext.base) | ((with_reducible refine Ext.cons ?_ ?_); (· rfl)) | ((with_reducible refine Ext.over ?_ ?_ ?_); (· rfl); (· rfl)))) (allKeys rfl) (.cons rfl (.cons rfl .nil)), hs.dropN 0⟩
  · skip
    refine c_exit (q_thenX (q_thenX (q_blkX (q_thenN ?_))))
    refine c_reg ?_
    refine gL hf (g_mv hf rfl) (by decide) ?_; clear hf a; intro a hf
    refine gL hf (g_as hf rfl) (by decide) ?_; clear hf a; intro a hf
    refine e_nil ?_
    refine c_ret ?_
    refine e_ret1 hf rfl rfl ?_
    exact ⟨rfl, hs.below⟩

theorem c_sheet09 (w0 : World) :
    Calls Tryd.prog 63 #[] w0 (RetX w0 (fun v w0' => ∃ bf br, v = tpV bf br ∧ TpIn bf br w0.heap.size w0')) := by
  refine c_enter (n := 11) Tryd.func63 rfl rfl (Nat.le_of_ble_eq_true rfl) ?_; intro a hf; simp only [zipR] at hf
  have hs := St.start w0 [] (by simp)
  refine c_reg ?_
  refine vL hf (v_alloc hs T25 rfl) (by decide) ?_; clear hs hf a; rintro _ w ⟨b1, rfl, hs⟩ a hf
  refine e_nil ?_
  refine c_reg ?_
  refine callL hf hs (c_Only _ _) rfl rfl rfl E60 (by decide) ?_; clear hs hf a; intro w a hs hf
  refine callL hf hs (c_Sp _ _ _) rfl rfl rfl E52 (by decide) ?_; clear hs hf a; intro w a hs hf
  refine gL hf (g_bld hf [[.int .i64 0], [.int .i64 0, .int .i64 0], [.int .i64 0, .int .i64 0]] (.cons rfl (.cons rfl (.cons rfl .nil))) (fun _ => by kernel_rfl)) (by decide) ?_; clear hf a; intro a hf
  refine callL hf hs (c_Sp _ _ _) rfl rfl rfl E52 (by decide) ?_; clear hs hf a; intro w a hs hf
  refine callL hf hs (c_Sp _ _ _) rfl rfl rfl E52 (by decide) ?_; clear hs hf a; intro w a hs hf
  refine gL hf (g_bld hf [[.int .i64 0], [.int .i64 0, .int .i64 0], [.int .i64 0, .int .i64 0]] (.cons rfl (.cons rfl (.cons rfl .nil))) (fun _ => by kernel_rfl)) (by decide) ?_; clear hf a; intro a hf
  refine vL hf (v_lits (len := 2) hf hs SL22 T117 (.cons rfl (.cons rfl .nil)) rfl rfl rfl rfl (by decide) rfl) (by decide) ?_; clear hs hf a; rintro _ w ⟨b2, rfl, hs⟩ a hf
  refine gL hf (g_bld hf [[.int .i64 0], [.int .i64 0]] (.cons rfl (.cons rfl .nil)) (fun _ => by kernel_rfl)) (by decide) ?_; clear hf a; intro a hf
  refine vL hf (v_lits (len := 1) hf hs SL23 T51 (.cons rfl .nil) rfl rfl rfl rfl (by decide) rfl) (by decide) ?_; clear hs hf a; rintro _ w ⟨b3, rfl, hs⟩ a hf
  refine gL hf (g_bld hf [[.int .i64 0], [.int .i64 0], [.slice none 0 0], [.slice none 0 0]] (.cons rfl (.cons rfl (.cons rfl (.cons rfl .nil)))) (fun _ => by kernel_rfl)) (by decide) ?_; clear hf a; intro a hf
  refine uL (u_stW hf hs T25 rfl rfl rfl (k := 2) rfl rfl rfl) ?_; clear hs; intro w hs; dsimp only [List.set] at hs
  refine e_nil ?_
  refine c_ret ?_
  refine e_res hf hs rfl (.cellA T25 rfl (k := 2) rfl rfl .nil) rfl ?_
  exact ⟨_, rfl, hs.below, b2, b3, rfl, (hs.own _ _ (.tail _ (.head _))).1, (hs.own _ _ (.head _)).1, (hs.own _ _ (.tail _ (.head _))).2, (hs.own _ _ (.head _)).2⟩

theorem c_hands09 (w0 : World) :
    Calls Tryd.prog 64 #[] w0 (RetX w0 (fun v w0' => ∃ bf br b1 bw, v = tpBV bf br bw ∧ TpB bf br b1 bw w0.heap.size w0')) := by
  refine c_enter (n := 8) Tryd.func64 rfl rfl (Nat.le_of_ble_eq_true rfl) ?_; intro a hf; simp only [zipR] at hf
  have hs := St.start w0 [] (by simp)
  refine c_reg ?_
  refine vL hf (v_alloc hs T28 rfl) (by decide) ?_; clear hs hf a; rintro _ w ⟨b1, rfl, hs⟩ a hf
  refine e_nil ?_
  refine c_reg ?_
  refine callX hf hs (c_sheet09 _) rfl rfl rfl E63 (by decide) ?_; intro v w1 a hR hb hs1 hf; obtain ⟨bf, br, rfl, hch⟩ := hR; replace hs := hs.fresh hs1 (tpFresh (m := w0.heap.size) hch hs.below.size); clear hs1 hb
  refine vL hf (v_lits (len := 2) hf hs SL31 T3 (.cons rfl (.cons rfl .nil)) rfl rfl rfl rfl (by decide) rfl) (by decide) ?_; clear hs hf a; rintro _ w ⟨b2, rfl, hs⟩ a hf
  refine callL hf hs (c_Sp _ _ _) rfl rfl rfl E52 (by decide) ?_; clear hs hf a; intro w a hs hf
  refine callL hf hs (c_Only _ _) rfl rfl rfl E60 (by decide) ?_; clear hs hf a; intro w a hs hf
  refine gL hf (g_bld hf [[.int .i64 0], [.slice none 0 0], [.int .i64 0, .int .i64 0], [.int .i64 0, .int .i64 0]] (.cons rfl (.cons rfl (.cons rfl (.cons rfl .nil)))) (fun _ => by kernel_rfl)) (by decide) ?_; clear hf a; intro a hf
  refine vL hf (v_lits (len := 1) hf hs SL26 T47 (.cons rfl .nil) rfl rfl rfl rfl (by decide) rfl) (by decide) ?_; clear hs hf a; rintro _ w ⟨b3, rfl, hs⟩ a hf
  refine gL hf (g_bld hf [[.int .i64 0, .int .i64 0, .slice none 0 0, .slice none 0 0], [.int .i64 0], [.int .i64 0], [.int .i64 0], [.slice none 0 0]] (.cons rfl (.cons rfl (.cons rfl (.cons rfl (.cons rfl .nil))))) (fun _ => by kernel_rfl)) (by decide) ?_; clear hf a; intro a hf
  refine uL (u_stW hf hs T28 rfl rfl rfl (k := 2) rfl rfl rfl) ?_; clear hs; intro w hs; dsimp only [List.set] at hs
  refine e_nil ?_
  refine c_ret ?_
  refine e_res hf hs rfl (.cellA T28 rfl (k := 2) rfl rfl .nil) rfl ?_
  exact ⟨_, rfl, hs.below, bf, br, b2, b3, rfl, hs.rd (.head _), (hs.own _ _ (.tail _ (.head _))).1, (hs.own _ _ (.head _)).1, (hs.own _ _ (.tail _ (.head _))).2, (hs.own _ _ (.head _)).2⟩

end Go.Proofs.YtjjcopeedcdokaaDoor

set_option linter.unusedVariables false
set_option linter.unusedSimpArgs false
namespace Go.Proofs.YtjjcopeedcdokaaDoor
open Go.RowKit
theorem c_folded09 (ge : TypeId) (gz : Nat × Nat) (te : TypeId) (tz : Nat × Nat) (w0 : World) (hG : BlkIs 1 sidesA ge gz w0) (hT : BlkIs 0 toldA te tz w0) :
    Calls Tryd.prog 17 #[] w0 (Ret w0 (.bool true)) := by
  refine c_enter (n := 79) Tryd.func17 rfl rfl (Nat.le_of_ble_eq_true rfl) ?_; intro a hf; simp only [zipR] at hf
  have hs := St.start w0 [BlkIs 1 sidesA ge gz, BlkIs 0 toldA te tz] (stab_app hG.st1 hT.st1)
  refine c_reg ?_
  refine gL hf (g_as hf rfl) (by decide) ?_; clear hf a; intro a hf
  refine e_nil ?_
  refine c_reg ?_
  refine callX hf hs (c_sheet09 _) rfl rfl rfl E63 (by decide) ?_; intro v w1 a hR hb hs1 hf; obtain ⟨bf1, br1, rfl, hch1⟩ := hR; replace hs := hs.fresh hs1 (tpFresh (m := w0.heap.size) hch1 hs.below.size); clear hs1 hb
  refine callX hf hs (c_Order shT (some ⟨bf1, 0, none⟩) 2 (some ⟨br1, 0, none⟩) 1 ge gz _ (hs.rd (.head _)).sh (hs.rd (.tail _ (.head _)))) rfl rfl rfl E19 (by decide) ?_; intro v w1 a hR hb hs1 hf; obtain ⟨Ao, co, rfl, hou⟩ := hR; rw [t_order] at hou hf; replace hs := hs.fresh hs1 (outFresh hou); clear hs1 hb
  refine gL hf (g_mv hf rfl) (by decide) ?_; clear hf a; intro a hf
  refine gL hf (g_ext hf rfl rfl) (by decide) ?_; clear hf a; intro a hf
  refine gL hf (g_ext hf rfl rfl) (by decide) ?_; clear hf a; intro a hf
  refine gL hf (g_as hf rfl) (by decide) ?_; clear hf a; intro a hf
  refine gL hf (g_as hf rfl) (by decide) ?_; clear hf a; intro a hf
  refine e_nil ?_
  refine c_reg ?_
  refine callX hf hs (c_sheet09 _) rfl rfl rfl E63 (by decide) ?_; intro v w1 a hR hb hs1 hf; obtain ⟨bf2, br2, rfl, hch2⟩ := hR; replace hs := hs.fresh hs1 (tpFresh (m := w0.heap.size) hch2 hs.below.size); clear hs1 hb
  refine vL hf (v_lits (len := 2) hf hs SL31 T3 (.cons rfl (.cons rfl .nil)) rfl rfl rfl rfl (by decide) rfl) (by decide) ?_; clear hs hf a; rintro _ w ⟨b1, rfl, hs⟩ a hf
  have h9 := c_Does shT (some ⟨bf2, 0, none⟩) 2 (some ⟨br2, 0, none⟩) 1 _ 2 [0, 1] ge gz t_check _ (hs.rd (.head _)).sh (show Rd encI 1 (some ⟨b1, 0, none⟩) 2 [0, 1] w from rd_of_flat (sz := 1) (fun _ => rfl) (by decide) (hs.own _ _ (.head _)).2 rfl (by decide) rfl) (hs.rd (.tail _ (.tail _ (.tail _ (.head _)))))
  rw [t_does] at h9; dsimp only at h9
  refine callL hf hs (h9) rfl rfl rfl E51 (by decide) ?_; clear hs hf a; intro w a hs hf
  refine gL hf (g_mv hf rfl) (by decide) ?_; clear hf a; intro a hf
  refine gL hf (g_ext hf rfl rfl) (by decide) ?_; clear hf a; intro a hf
  refine gL hf (g_ext hf rfl rfl) (by decide) ?_; clear hf a; intro a hf
  refine gL hf (g_as hf rfl) (by decide) ?_; clear hf a; intro a hf
  refine gL hf (g_as hf rfl) (by decide) ?_; clear hf a; intro a hf
  refine e_nil ?_
  refine c_reg ?_
  refine callX hf hs (c_hands09 _) rfl rfl rfl E64 (by decide) ?_; intro v w1 a hR hb hs1 hf; obtain ⟨bf3, br3, p3, bw3, rfl, hbc⟩ := hR; replace hs := hs.fresh hs1 (tpBFresh (m := w0.heap.size) hbc hs.below.size); clear hs1 hb
  have h9 := c_PassesH (bkT (some ⟨p3, 0, none⟩)) (some ⟨bf3, 0, none⟩) 2 (some ⟨br3, 0, none⟩) 1 (some ⟨bw3, 0, none⟩) 1 ge gz 0 _ (hs.rd (.head _)).bk (hs.rd (.tail _ (.tail _ (.tail _ (.tail _ (.head _)))))) te tz (hs.rd (.tail _ (.tail _ (.tail _ (.tail _ (.tail _ (.head _)))))))
  rw [show tellP (bkT (some ⟨p3, 0, none⟩)) 0 0 = ((19, 22), 0) from t_pass _] at h9; dsimp only at h9
  refine callL hf hs (h9) rfl rfl rfl E23 (by decide) ?_; clear hs hf a; intro w a hs hf
  refine gL hf (g_mv hf rfl) (by decide) ?_; clear hf a; intro a hf
  refine gL hf (g_ext hf rfl rfl) (by decide) ?_; clear hf a; intro a hf
  refine gL hf (g_ext hf rfl rfl) (by decide) ?_; clear hf a; intro a hf
  refine vL hf (v_alloc hs T40 rfl) (by decide) ?_; clear hs hf a; rintro _ w ⟨b2, rfl, hs⟩ a hf
  refine uL (u_stW hf hs T40 rfl rfl rfl (k := 0) rfl rfl rfl) ?_; clear hs; intro w hs; dsimp only [List.set] at hs
  refine gL hf (g_as hf rfl) (by decide) ?_; clear hf a; intro a hf
  refine e_nil ?_
  refine c_reg ?_
  refine callX hf hs (c_hands09 _) rfl rfl rfl E64 (by decide) ?_; intro v w1 a hR hb hs1 hf; obtain ⟨bf4, br4, p4, bw4, rfl, hbc⟩ := hR; replace hs := hs.fresh hs1 (tpBFresh (m := w0.heap.size) hbc hs.below.size); clear hs1 hb
  have h9 := c_GetsH (bkT (some ⟨p4, 0, none⟩)) (some ⟨bf4, 0, none⟩) 2 (some ⟨br4, 0, none⟩) 1 (some ⟨bw4, 0, none⟩) 1 ge gz 0 _ (hs.rd (.head _)).bk (hs.rd (.tail _ (.tail _ (.tail _ (.tail _ (.tail _ (.head _))))))) te tz (hs.rd (.tail _ (.tail _ (.tail _ (.tail _ (.tail _ (.tail _ (.head _))))))))
  rw [show tellP (bkT (some ⟨p4, 0, none⟩)) 0 2 = ((3, 13), 0) from t_gets _] at h9; dsimp only at h9
  refine callL hf hs (h9) rfl rfl rfl E38 (by decide) ?_; clear hs hf a; intro w a hs hf
  refine gL hf (g_mv hf rfl) (by decide) ?_; clear hf a; intro a hf
  refine gL hf (g_ext hf rfl rfl) (by decide) ?_; clear hf a; intro a hf
  refine gL hf (g_ext hf rfl rfl) (by decide) ?_; clear hf a; intro a hf
  refine vL hf (v_alloc hs T40 rfl) (by decide) ?_; clear hs hf a; rintro _ w ⟨b3, rfl, hs⟩ a hf
  refine uL (u_stW hf hs T40 rfl rfl rfl (k := 0) rfl rfl rfl) ?_; clear hs; intro w hs; dsimp only [List.set] at hs
  refine gL hf (g_as hf rfl) (by decide) ?_; clear hf a; intro a hf
  refine e_nil ?_
  refine c_reg ?_
  refine callX hf hs (c_hands09 _) rfl rfl rfl E64 (by decide) ?_; intro v w1 a hR hb hs1 hf; obtain ⟨bf5, br5, p5, bw5, rfl, hbc⟩ := hR; replace hs := hs.fresh hs1 (tpBFresh (m := w0.heap.size) hbc hs.below.size); clear hs1 hb
  have h9 := c_GrossesH (bkT (some ⟨p5, 0, none⟩)) (some ⟨bf5, 0, none⟩) 2 (some ⟨br5, 0, none⟩) 1 (some ⟨bw5, 0, none⟩) 1 ge gz  _ (hs.rd (.head _)).bk (hs.rd (.tail _ (.tail _ (.tail _ (.tail _ (.tail _ (.tail _ (.head _)))))))) te tz (hs.rd (.tail _ (.tail _ (.tail _ (.tail _ (.tail _ (.tail _ (.tail _ (.head _)))))))))
  rw [show grossP (bkT (some ⟨p5, 0, none⟩)) = ((1, 2), 0) from t_gross _] at h9; dsimp only at h9
  refine callL hf hs (h9) rfl rfl rfl E25 (by decide) ?_; clear hs hf a; intro w a hs hf
  refine gL hf (g_mv hf rfl) (by decide) ?_; clear hf a; intro a hf
  refine gL hf (g_ext hf rfl rfl) (by decide) ?_; clear hf a; intro a hf
  refine gL hf (g_ext hf rfl rfl) (by decide) ?_; clear hf a; intro a hf
  refine vL hf (v_alloc hs T40 rfl) (by decide) ?_; clear hs hf a; rintro _ w ⟨b4, rfl, hs⟩ a hf
  refine uL (u_stW hf hs T40 rfl rfl rfl (k := 0) rfl rfl rfl) ?_; clear hs; intro w hs; dsimp only [List.set] at hs
  refine gL hf (g_as hf rfl) (by decide) ?_; clear hf a; intro a hf
  refine e_nil ?_
  refine c_draw _ 43 Mx rfl hs (fun _ h => h) ?_; intro w hs hS
  refine gA hf hS (i := 0) rfl (by kernel_rfl) (fun w hs => g_mv hf rfl) (by decide) ?_; clear hf a; intro a hf
  refine gA hf hS (i := 1) rfl (by kernel_rfl) (fun w hs => g_eql hf rfl rfl) (by decide) ?_; clear hf a; intro a hf; replace hf := hf.setV (v' := .bool true) rfl
  refine gA hf hS (i := 2) rfl (by kernel_rfl) (fun w hs => g_mv hf rfl) (by decide) ?_; clear hf a; intro a hf
  refine ggA (G := true) hf hS (i := 3) rfl (by kernel_rfl) rfl rfl rfl (fun _ w hs => g_mv hf rfl) (by decide) ?_; clear hf a; intro a hf
  refine ggA (G := true) hf hS (i := 4) rfl (by kernel_rfl) rfl rfl rfl (fun _ w hs => g_eql hf rfl rfl) (by decide) ?_; clear hf a; intro a hf; replace hf := hf.setV (v' := .bool true) rfl
  refine gA hf hS (i := 5) rfl (by kernel_rfl) (fun w hs => g_pick hf rfl rfl rfl) (by decide) ?_; clear hf a; intro a hf; replace hf := hf.setV (v' := .bool true) rfl
  refine gA hf hS (i := 6) rfl (by kernel_rfl) (fun w hs => g_mv hf rfl) (by decide) ?_; clear hf a; intro a hf
  refine ggA (G := true) hf hS (i := 7) rfl (by kernel_rfl) rfl rfl rfl (fun _ w hs => g_mv hf rfl) (by decide) ?_; clear hf a; intro a hf
  refine ggA (G := true) hf hS (i := 8) rfl (by kernel_rfl) rfl rfl rfl (fun _ w hs => g_eql hf rfl rfl) (by decide) ?_; clear hf a; intro a hf; replace hf := hf.setV (v' := .bool true) rfl
  refine gA hf hS (i := 9) rfl (by kernel_rfl) (fun w hs => g_pick hf rfl rfl rfl) (by decide) ?_; clear hf a; intro a hf; replace hf := hf.setV (v' := .bool true) rfl
  refine gA hf hS (i := 10) rfl (by kernel_rfl) (fun w hs => g_mv hf rfl) (by decide) ?_; clear hf a; intro a hf
  refine ggA (G := true) hf hS (i := 11) rfl (by kernel_rfl) rfl rfl rfl (fun _ w hs => g_mv hf rfl) (by decide) ?_; clear hf a; intro a hf
  refine ggA (G := true) hf hS (i := 12) rfl (by kernel_rfl) rfl rfl rfl (fun _ w hs => g_eql hf rfl rfl) (by decide) ?_; clear hf a; intro a hf; replace hf := hf.setV (v' := .bool true) rfl
  refine gA hf hS (i := 13) rfl (by kernel_rfl) (fun w hs => g_pick hf rfl rfl rfl) (by decide) ?_; clear hf a; intro a hf; replace hf := hf.setV (v' := .bool true) rfl
  refine gA hf hS (i := 14) rfl (by kernel_rfl) (fun w hs => g_mv hf rfl) (by decide) ?_; clear hf a; intro a hf
  refine ggA (G := true) hf hS (i := 15) rfl (by kernel_rfl) rfl rfl rfl (fun _ w hs => g_mv hf rfl) (by decide) ?_; clear hf a; intro a hf
  refine ggA (G := true) hf hS (i := 16) rfl (by kernel_rfl) rfl rfl rfl (fun _ w hs => g_eql hf rfl rfl) (by decide) ?_; clear hf a; intro a hf; replace hf := hf.setV (v' := .bool true) rfl
  refine gA hf hS (i := 17) rfl (by kernel_rfl) (fun w hs => g_pick hf rfl rfl rfl) (by decide) ?_; clear hf a; intro a hf; replace hf := hf.setV (v' := .bool true) rfl
  refine gA hf hS (i := 18) rfl (by kernel_rfl) (fun w hs => g_mv hf rfl) (by decide) ?_; clear hf a; intro a hf
  refine ggA (G := true) hf hS (i := 19) rfl (by kernel_rfl) rfl rfl rfl (fun _ w hs => g_mv hf rfl) (by decide) ?_; clear hf a; intro a hf
  refine one (i := 20) (by kernel_rfl) ?_
  refine oVY hf (i := 20) rfl rfl rfl rfl (v_lits (len := 2) hf hs SL31 T3 (.cons rfl (.cons rfl .nil)) rfl rfl rfl rfl (by decide) rfl) (by decide) (fun _ _ ⟨_, _, h⟩ => h.sub (.cons _ (.refl _))) ?_; clear hs hf hS a; rintro _ w ⟨b5, rfl, hs⟩ hS a hf
  refine one (i := 21) (by kernel_rfl) ?_
  refine oCallG hf hs rfl rfl rfl (G := true) rfl (fun hg => ⟨_, _, _, _, c_Alike _ _ [1, 0] _ _ [1, 0] _ (hs.rd (.tail _ (.tail _ (.tail _ (.tail _ (.head _)))))) (show Rd encI 1 (some ⟨b5, 0, none⟩) 2 [1, 0] w from rd_of_flat (sz := 1) (fun _ => rfl) (by decide) (hs.own _ _ (.head _)).2 rfl (by decide) rfl), rfl, evs_cons rfl (evs_cons rfl evs_nil), rfl⟩) E44 (by decide) (fun _ h => h.sub (.cons _ (.refl _))) ?_; clear hs hf hS a; intro w a hs hS hf
  refine gA hf hS (i := 22) rfl (by kernel_rfl) (fun w hs => g_pick hf rfl rfl rfl) (by decide) ?_; clear hf a; intro a hf; replace hf := hf.setV (v' := .bool true) rfl
  refine gA hf hS (i := 23) rfl (by kernel_rfl) (fun w hs => g_mv hf rfl) (by decide) ?_; clear hf a; intro a hf
  refine ggA (G := true) hf hS (i := 24) rfl (by kernel_rfl) rfl rfl rfl (fun _ w hs => g_mv hf rfl) (by decide) ?_; clear hf a; intro a hf
  refine ggA (G := true) hf hS (i := 25) rfl (by kernel_rfl) rfl rfl rfl (fun _ w hs => g_eql hf rfl rfl) (by decide) ?_; clear hf a; intro a hf; replace hf := hf.setV (v' := .bool true) rfl
  refine gA hf hS (i := 26) rfl (by kernel_rfl) (fun w hs => g_pick hf rfl rfl rfl) (by decide) ?_; clear hf a; intro a hf; replace hf := hf.setV (v' := .bool true) rfl
  refine gA hf hS (i := 27) rfl (by kernel_rfl) (fun w hs => g_mv hf rfl) (by decide) ?_; clear hf a; intro a hf
  refine ggA (G := true) hf hS (i := 28) rfl (by kernel_rfl) rfl rfl rfl (fun _ w hs => g_ldW hf hs T40 rfl (k := 2) rfl rfl) (by decide) ?_; clear hf a; intro a hf
  refine one (i := 29) (by kernel_rfl) ?_
  refine oCallG hf hs rfl rfl rfl (G := true) rfl (fun hg => ⟨_, _, _, _, c_Sp _ _ _, rfl, evs_cons rfl (evs_cons rfl evs_nil), rfl⟩) E52 (by decide) (fun _ h => h.sub (.cons _ (.refl _))) ?_; clear hs hf hS a; intro w a hs hS hf
  refine ggA (G := true) hf hS (i := 30) rfl (by kernel_rfl) rfl rfl rfl (fun _ w hs => g_eqS hf Q40 rfl rfl) (by decide) ?_; clear hf a; intro a hf; replace hf := hf.setV (v' := .bool true) rfl
  refine gA hf hS (i := 31) rfl (by kernel_rfl) (fun w hs => g_pick hf rfl rfl rfl) (by decide) ?_; clear hf a; intro a hf; replace hf := hf.setV (v' := .bool true) rfl
  refine gA hf hS (i := 32) rfl (by kernel_rfl) (fun w hs => g_mv hf rfl) (by decide) ?_; clear hf a; intro a hf
  refine ggA (G := true) hf hS (i := 33) rfl (by kernel_rfl) rfl rfl rfl (fun _ w hs => g_ldW hf hs T40 rfl (k := 1) rfl rfl) (by decide) ?_; clear hf a; intro a hf
  refine one (i := 34) (by kernel_rfl) ?_
  refine oCallG hf hs rfl rfl rfl (G := true) rfl (fun hg => ⟨_, _, _, _, c_Sp _ _ _, rfl, evs_cons rfl (evs_cons rfl evs_nil), rfl⟩) E52 (by decide) (fun _ h => h.sub (.cons _ (.refl _))) ?_; clear hs hf hS a; intro w a hs hS hf
  refine ggA (G := true) hf hS (i := 35) rfl (by kernel_rfl) rfl rfl rfl (fun _ w hs => g_eqS hf Q40 rfl rfl) (by decide) ?_; clear hf a; intro a hf; replace hf := hf.setV (v' := .bool true) rfl
  refine gA hf hS (i := 36) rfl (by kernel_rfl) (fun w hs => g_pick hf rfl rfl rfl) (by decide) ?_; clear hf a; intro a hf; replace hf := hf.setV (v' := .bool true) rfl
  refine gA hf hS (i := 37) rfl (by kernel_rfl) (fun w hs => g_mv hf rfl) (by decide) ?_; clear hf a; intro a hf
  refine ggA (G := true) hf hS (i := 38) rfl (by kernel_rfl) rfl rfl rfl (fun _ w hs => g_ldW hf hs T40 rfl (k := 0) rfl rfl) (by decide) ?_; clear hf a; intro a hf
  refine one (i := 39) (by kernel_rfl) ?_
  refine oCallG hf hs rfl rfl rfl (G := true) rfl (fun hg => ⟨_, _, _, _, c_Sp _ _ _, rfl, evs_cons rfl (evs_cons rfl evs_nil), rfl⟩) E52 (by decide) (fun _ h => h.sub (.cons _ (.refl _))) ?_; clear hs hf hS a; intro w a hs hS hf
  refine ggA (G := true) hf hS (i := 40) rfl (by kernel_rfl) rfl rfl rfl (fun _ w hs => g_eqS hf Q40 rfl rfl) (by decide) ?_; clear hf a; intro a hf; replace hf := hf.setV (v' := .bool true) rfl
  refine gA hf hS (i := 41) rfl (by kernel_rfl) (fun w hs => g_pick hf rfl rfl rfl) (by decide) ?_; clear hf a; intro a hf; replace hf := hf.setV (v' := .bool true) rfl
  refine gA hf hS (i := 42) rfl (by kernel_rfl) (fun w hs => g_as hf rfl) (by decide) ?_; clear hf a; intro a hf
  refine e_done (by kernel_rfl) ?_
  refine c_ret ?_
  refine e_ret1 hf rfl rfl ?_
  exact ⟨rfl, hs.below⟩

end Go.Proofs.YtjjcopeedcdokaaDoor

set_option linter.unusedVariables false
set_option linter.unusedSimpArgs false
namespace Go.Proofs.YtjjcopeedcdokaaDoor
open Go.RowKit
section
variable {k : Bk} {n0 n1 n2 : Int}
end
theorem wrong_idx {k : Bk} {i : Nat} (hi : i < k.ws.length) : decide (indexZ (fun x => x == ((i : Nat) : Int)) (wrongL k) < 0) = rightB (k.ws.getD i default) := by
  have h := indexZ_ge (fun x => x == ((i : Nat) : Int)) (wrongL k)
  have h2 := wrong_mem (k := k) hi
  have h3 : decide (indexZ (fun x => x == ((i : Nat) : Int)) (wrongL k) < 0) = !decide (0 ≤ indexZ (fun x => x == ((i : Nat) : Int)) (wrongL k)) := by
    rw [Bool.eq_iff_iff]; simp
  rw [h3, h]
  cases hr : rightB (k.ws.getD i default) with
  | true =>
    have : ((i : Nat) : Int) ∉ wrongL k := fun hm => by rw [h2.1 hm] at hr; cases hr
    rw [Bool.not_eq_true', List.any_eq_false]
    intro x hx e
    exact this (by rwa [beq_iff_eq.1 e] at hx)
  | false =>
    rw [Bool.not_eq_false', List.any_eq_true]
    exact ⟨_, h2.2 hr, by simp⟩
end Go.Proofs.YtjjcopeedcdokaaDoor

set_option linter.unusedVariables false
set_option linter.unusedSimpArgs false
namespace Go.Proofs.YtjjcopeedcdokaaDoor
open Go.RowKit
theorem c_TopRing (k : Bk) (fA : Option Addr) (fc : Nat) (rA : Option Addr) (rc : Nat) (wA : Option Addr) (wc : Nat) (ge : TypeId) (gz : Nat × Nat) (n : Int) (w0 : World) (h : BkIn k fA fc rA rc wA wc w0) (hG : BlkIs 1 sidesA ge gz w0) (te : TypeId) (tz : Nat × Nat) (hT : BlkIs 0 toldA te tz w0) :
    Calls Tryd.prog 3 #[.agg #[.int .i64 k.sh.wide, .int .i64 k.sh.high, .slice fA k.sh.flaps.length fc, .slice rA k.sh.rules.length rc, .int .i64 k.gross, .int .i64 k.pay, .int .i64 k.fine, .slice wA k.ws.length wc], .int .i64 n] w0 (Ret w0 (.bool true)) := by
  refine c_enter (n := 197) Tryd.func3 rfl rfl (Nat.le_of_ble_eq_true rfl) ?_; intro a hf; simp only [zipR] at hf
  have hs := St.start w0 [Rd encF 5 fA k.sh.flaps.length k.sh.flaps, Rd encR 2 rA k.sh.rules.length k.sh.rules, Rd encW 6 wA k.ws.length k.ws, OrdD k.ws, BlkIs 1 sidesA ge gz, BlkIs 0 toldA te tz] (stab_app (stab_app h.stab hG.st1) hT.st1)
  have hwm := h.W.2.1
  refine c_reg ?_
  refine vL hf (v_boxA hf hs rfl) (by decide) ?_; clear hs hf a; rintro _ w ⟨b1, rfl, hs⟩ a hf
  refine gL hf (g_as hf rfl) (by decide) ?_; clear hf a; intro a hf
  refine e_nil ?_
  refine wp_seq ?_
  refine c_reg ?_
  refine gL hf (g_ldW hf hs T28 rfl (k := 0) rfl rfl) (by decide) ?_; clear hf a; intro a hf
  refine callL hf hs (c_small k _ _ _ _ _ _ ge gz _ ⟨⟨hs.rd (.head _), hs.rd (.tail _ (.head _)), h.sh.fc_, h.sh.rc_⟩, hs.rd (.tail _ (.tail _ (.head _))), h.wc_, hs.rd (.tail _ (.tail _ (.tail _ (.head _))))⟩ (hs.rd (.tail _ (.tail _ (.tail _ (.tail _ (.head _))))))) rfl rfl rfl E16 (by decide) ?_; clear hs hf a; intro w a hs hf
  refine gL hf (g_not hf rfl) (by decide) ?_; clear hf a; intro a hf
  refine gL hf (g_mv hf rfl) (by decide) ?_; clear hf a; intro a hf
  refine ggL hf rfl rfl (gyes_f _) (fun hg => g_fa (off' := 7) hf F28_4 rfl rfl) (by decide) ?_; clear hf a; intro a hf
  refine ggL hf rfl rfl (gyes_f _) (fun hg => g_ld hf hs T26 (ev_gv rfl hg) (k := 0) rfl rfl) (by decide) ?_; clear hf a; intro a hf
  refine ggL hf rfl rfl (gyes_f _) (fun hg => g_len hf SL26 (ev_gv rfl hg)) (by decide) ?_; clear hf a; intro a hf
  refine ggL hf rfl rfl (gyes_f _) (fun hg => g_eql hf (ev_gv rfl hg) rfl) (by decide) ?_; clear hf a; intro a hf
  refine gL hf (g_or hf rfl rfl) (by decide) ?_; clear hf a; intro a hf
  refine e_nil ?_
  refine c_cond hf rfl (fun hc1 => ?_) (fun hc1 => ?_)
  · skip
    refine c_reg ?_
    refine callL hf hs (c_folded09 ge gz te tz _ (hs.rd (.tail _ (.tail _ (.tail _ (.tail _ (.head _)))))) (hs.rd (.tail _ (.tail _ (.tail _ (.tail _ (.tail _ (.head _)))))))) rfl rfl rfl E17 (by decide) ?_; clear hs hf a; intro w a hs hf
    refine gL hf (g_as hf rfl) (by decide) ?_; clear hf a; intro a hf
    refine e_nil ?_
    refine c_ret (q_thenR ?_)
    refine e_ret1 hf rfl rfl ?_
    exact ⟨rfl, hs.below⟩
  · skip
    obtain ⟨hck, hpos⟩ := sound_some hc1
    have hv := hck_iff.1 hck; have hwn := hv.n
    refine c_skip (q_thenN ?_)
    refine c_reg ?_
    refine gL hf (g_fa (off' := 0) hf F28_0 rfl rfl) (by decide) ?_; clear hf a; intro a hf
    refine gL hf (g_ldP hf hs T25 rfl (k := 0) rfl rfl) (by decide) ?_; clear hf a; intro a hf
    refine callX hf hs (c_Ring k.sh _ _ _ _ ge gz _ ⟨hs.rd (.head _), hs.rd (.tail _ (.head _)), h.sh.fc_, h.sh.rc_⟩ (hs.rd (.tail _ (.tail _ (.tail _ (.tail _ (.head _))))))) rfl rfl rfl E18 (by decide) ?_; intro v w1 a hR hb hs1 hf; obtain ⟨Ar, cr, rfl, horr⟩ := hR; replace hs := hs.fresh hs1 (outFresh horr); clear hs1 hb
    refine gL hf (g_mv hf rfl) (by decide) ?_; clear hf a; intro a hf
    refine gL hf (g_ext hf rfl rfl) (by decide) ?_; clear hf a; intro a hf
    refine gL hf (g_ext hf rfl rfl) (by decide) ?_; clear hf a; intro a hf
    refine gL hf (g_as hf rfl) (by decide) ?_; clear hf a; intro a hf
    refine gL hf (g_as hf rfl) (by decide) ?_; clear hf a; intro a hf
    refine e_nil ?_
    refine c_reg ?_
    refine gL hf (g_fa (off' := 0) hf F28_0 rfl rfl) (by decide) ?_; clear hf a; intro a hf
    refine gL hf (g_ldP hf hs T25 rfl (k := 0) rfl rfl) (by decide) ?_; clear hf a; intro a hf
    refine callX hf hs (c_Order k.sh _ _ _ _ ge gz _ ⟨hs.rd (.tail _ (.head _)), hs.rd (.tail _ (.tail _ (.head _))), h.sh.fc_, h.sh.rc_⟩ (hs.rd (.tail _ (.tail _ (.tail _ (.tail _ (.tail _ (.head _)))))))) rfl rfl rfl E19 (by decide) ?_; intro v w1 a hR hb hs1 hf; obtain ⟨Ao, co, rfl, hoo⟩ := hR; replace hs := hs.fresh hs1 (outFresh hoo); clear hs1 hb
    refine gL hf (g_mv hf rfl) (by decide) ?_; clear hf a; intro a hf
    refine gL hf (g_ext hf rfl rfl) (by decide) ?_; clear hf a; intro a hf
    refine gL hf (g_ext hf rfl rfl) (by decide) ?_; clear hf a; intro a hf
    refine gL hf (g_as hf rfl) (by decide) ?_; clear hf a; intro a hf
    refine gL hf (g_as hf rfl) (by decide) ?_; clear hf a; intro a hf
    refine e_nil ?_
    refine c_reg ?_
    refine gL hf (g_ldW hf hs T28 rfl (k := 0) rfl rfl) (by decide) ?_; clear hf a; intro a hf
    refine callX hf hs (c_WrongH k _ _ _ _ _ _ ge gz _ ⟨⟨hs.rd (.tail _ (.tail _ (.head _))), hs.rd (.tail _ (.tail _ (.tail _ (.head _)))), h.sh.fc_, h.sh.rc_⟩, hs.rd (.tail _ (.tail _ (.tail _ (.tail _ (.head _))))), h.wc_, hs.rd (.tail _ (.tail _ (.tail _ (.tail _ (.tail _ (.head _))))))⟩ (hs.rd (.tail _ (.tail _ (.tail _ (.tail _ (.tail _ (.tail _ (.head _))))))))) rfl rfl rfl E20 (by decide) ?_; intro v w1 a hR hb hs1 hf; obtain ⟨Ap, cp, rfl, hou⟩ := hR; replace hs := hs.fresh hs1 (outFresh hou); clear hs1 hb
    refine gL hf (g_mv hf rfl) (by decide) ?_; clear hf a; intro a hf
    refine gL hf (g_ext hf rfl rfl) (by decide) ?_; clear hf a; intro a hf
    refine gL hf (g_ext hf rfl rfl) (by decide) ?_; clear hf a; intro a hf
    refine gL hf (g_as hf rfl) (by decide) ?_; clear hf a; intro a hf
    refine gL hf (g_as hf rfl) (by decide) ?_; clear hf a; intro a hf
    refine e_nil ?_
    refine c_reg ?_
    refine gL hf (g_ldW hf hs T28 rfl (k := 0) rfl rfl) (by decide) ?_; clear hf a; intro a hf
    refine callL hf hs (c_TeachH k _ _ _ _ _ _ ge gz  _ ⟨⟨hs.rd (.tail _ (.tail _ (.tail _ (.head _)))), hs.rd (.tail _ (.tail _ (.tail _ (.tail _ (.head _))))), h.sh.fc_, h.sh.rc_⟩, hs.rd (.tail _ (.tail _ (.tail _ (.tail _ (.tail _ (.head _)))))), h.wc_, hs.rd (.tail _ (.tail _ (.tail _ (.tail _ (.tail _ (.tail _ (.head _)))))))⟩ (hs.rd (.tail _ (.tail _ (.tail _ (.tail _ (.tail _ (.tail _ (.tail _ (.head _))))))))) te tz (hs.rd (.tail _ (.tail _ (.tail _ (.tail _ (.tail _ (.tail _ (.tail _ (.tail _ (.head _))))))))))) rfl rfl rfl E21 (by decide) ?_; clear hs hf a; intro w a hs hf
    refine gL hf (g_mv hf rfl) (by decide) ?_; clear hf a; intro a hf
    refine gL hf (g_ext hf rfl rfl) (by decide) ?_; clear hf a; intro a hf
    refine gL hf (g_ext hf rfl rfl) (by decide) ?_; clear hf a; intro a hf
    refine gL hf (g_as hf rfl) (by decide) ?_; clear hf a; intro a hf
    refine gL hf (g_as hf rfl) (by decide) ?_; clear hf a; intro a hf
    refine e_nil ?_
    refine wp_seq ?_
    refine c_reg ?_
    refine gL hf (g_mv hf rfl) (by decide) ?_; clear hf a; intro a hf
    refine gL hf (g_eql hf rfl rfl) (by decide) ?_; clear hf a; intro a hf
    refine gL hf (g_mv hf rfl) (by decide) ?_; clear hf a; intro a hf
    refine gL hf (g_eql hf rfl rfl) (by decide) ?_; clear hf a; intro a hf
    refine gL hf (g_neqB hf B4 rfl rfl) (by decide) ?_; clear hf a; intro a hf
    refine gL hf (g_mv hf rfl) (by decide) ?_; clear hf a; intro a hf
    refine ggL hf rfl rfl (gyes_f _) (fun hg => g_mv hf rfl) (by decide) ?_; clear hf a; intro a hf
    refine ggL hf rfl rfl (gyes_f _) (fun hg => g_eql hf (ev_gv rfl hg) rfl) (by decide) ?_; clear hf a; intro a hf
    refine ggL hf rfl rfl (gyes_f _) (fun hg => g_mv hf rfl) (by decide) ?_; clear hf a; intro a hf
    refine ggL hf rfl rfl (gyes_f _) (fun hg => g_eql hf (ev_gv rfl hg) rfl) (by decide) ?_; clear hf a; intro a hf
    refine ggL hf rfl rfl (gyes_f _) (fun hg => g_neqB hf B4 (ev_gv rfl hg) (ev_gv rfl hg)) (by decide) ?_; clear hf a; intro a hf
    refine gL hf (g_or hf rfl rfl) (by decide) ?_; clear hf a; intro a hf
    refine gL hf (g_mv hf rfl) (by decide) ?_; clear hf a; intro a hf
    refine ggL hf rfl rfl (gyes_f _) (fun hg => g_mv hf rfl) (by decide) ?_; clear hf a; intro a hf
    refine ggL hf rfl rfl (gyes_f _) (fun hg => g_neq hf (ev_gv rfl hg) rfl) (by decide) ?_; clear hf a; intro a hf
    refine gL hf (g_or hf rfl rfl) (by decide) ?_; clear hf a; intro a hf
    refine gL hf (g_mv hf rfl) (by decide) ?_; clear hf a; intro a hf
    refine ggL hf rfl rfl (gyes_f _) (fun hg => g_mv hf rfl) (by decide) ?_; clear hf a; intro a hf
    refine ggL hf rfl rfl (gyes_f _) (fun hg => g_eql hf (ev_gv rfl hg) rfl) (by decide) ?_; clear hf a; intro a hf
    refine ggL hf rfl rfl (gyes_f _) (fun hg => g_mv hf (ev_gv rfl hg)) (by decide) ?_; clear hf a; intro a hf
    refine ggL hf rfl rfl (gyes_gt _ _) (fun hg => g_mv hf rfl) (by decide) ?_; clear hf a; intro a hf
    refine ggL hf rfl rfl (gyes_gt _ _) (fun hg => g_len hf SL31 (ev_gv rfl hg)) (by decide) ?_; clear hf a; intro a hf
    refine ggL hf rfl rfl (gyes_gt _ _) (fun hg => g_lss hf (ev_gv rfl hg) rfl) (by decide) ?_; clear hf a; intro a hf
    refine ggL hf rfl rfl (gyes_f _) (fun hg => g_and hf (ev_gv rfl hg) (ev_gvand rfl hg)) (by decide) ?_; clear hf a; intro a hf
    refine gL hf (g_or hf rfl rfl) (by decide) ?_; clear hf a; intro a hf
    refine e_nil ?_
    refine c_cond hf rfl (fun hc2 => ?_) (fun hc2 => ?_)
    · skip
      exfalso; rw [wrongP_ok hck] at hc2; rcases top_ring hv.ck with ⟨h1, h2, h3⟩ | ⟨h1, h2⟩ <;> rw [h1, h2] at hc2 <;> simp at hc2 <;> omega
    · skip
      refine c_skip (q_thenN ?_)
      refine c_reg ?_
      refine gL hf (g_mv hf rfl) (by decide) ?_; clear hf a; intro a hf
      refine gL hf (g_fa (off' := 7) hf F28_4 rfl rfl) (by decide) ?_; clear hf a; intro a hf
      refine gL hf (g_ld hf hs T26 rfl (k := 0) rfl rfl) (by decide) ?_; clear hf a; intro a hf
      refine gL hf (g_len hf SL26 rfl) (by decide) ?_; clear hf a; intro a hf
      refine callL hf hs (c_Spin _ _ (by omega) _) rfl rfl rfl E22 (by decide) ?_; clear hs hf a; intro w a hs hf
      obtain ⟨i, hie, hi⟩ := some_nat (n := n) hpos
      rw [hie] at hf
      have hx := hv.wk hi
      refine gL hf (g_as hf rfl) (by decide) ?_; clear hf a; intro a hf
      refine e_nil ?_
      refine c_reg ?_
      refine gL hf (g_ldW hf hs T28 rfl (k := 0) rfl rfl) (by decide) ?_; clear hf a; intro a hf
      refine gL hf (g_mv hf rfl) (by decide) ?_; clear hf a; intro a hf
      have h9 := c_PassesH k _ _ _ _ _ _ ge gz ((i : Nat) : Int) _ ⟨⟨hs.rd (.tail _ (.tail _ (.tail _ (.head _)))), hs.rd (.tail _ (.tail _ (.tail _ (.tail _ (.head _))))), h.sh.fc_, h.sh.rc_⟩, hs.rd (.tail _ (.tail _ (.tail _ (.tail _ (.tail _ (.head _)))))), h.wc_, hs.rd (.tail _ (.tail _ (.tail _ (.tail _ (.tail _ (.tail _ (.head _)))))))⟩ (hs.rd (.tail _ (.tail _ (.tail _ (.tail _ (.tail _ (.tail _ (.tail _ (.head _))))))))) te tz (hs.rd (.tail _ (.tail _ (.tail _ (.tail _ (.tail _ (.tail _ (.tail _ (.tail _ (.head _))))))))))
      rw [tk_eq hck hi 0] at h9
      refine callL hf hs (h9) rfl rfl rfl E23 (by decide) ?_; clear hs hf a; intro w a hs hf
      refine gL hf (g_mv hf rfl) (by decide) ?_; clear hf a; intro a hf
      refine gL hf (g_ext hf rfl rfl) (by decide) ?_; clear hf a; intro a hf
      refine gL hf (g_ext hf rfl rfl) (by decide) ?_; clear hf a; intro a hf
      refine vL hf (v_alloc hs T40 rfl) (by decide) ?_; clear hs hf a; rintro _ w ⟨b2, rfl, hs⟩ a hf
      refine uL (u_stW hf hs T40 rfl rfl rfl (k := 0) rfl rfl rfl) ?_; clear hs; intro w hs; dsimp only [List.set] at hs
      refine gL hf (g_as hf rfl) (by decide) ?_; clear hf a; intro a hf
      refine e_nil ?_
      refine wp_seq ?_
      refine c_reg ?_
      refine gL hf (g_mv hf rfl) (by decide) ?_; clear hf a; intro a hf
      refine gL hf (g_eql hf rfl rfl) (by decide) ?_; clear hf a; intro a hf
      refine gL hf (g_mv hf rfl) (by decide) ?_; clear hf a; intro a hf
      refine gL hf (g_mv hf rfl) (by decide) ?_; clear hf a; intro a hf
      refine callL hf hs (c_IndexR _ _ _ _ _ _ (hs.rd (.head _))) rfl rfl rfl E24 (by decide) ?_; clear hs hf a; intro w a hs hf
      refine gL hf (g_lss hf rfl rfl) (by decide) ?_; clear hf a; intro a hf
      refine gL hf (g_neqB hf B4 rfl rfl) (by decide) ?_; clear hf a; intro a hf
      refine e_nil ?_
      refine c_cond hf rfl (fun hc3 => ?_) (fun hc3 => ?_)
      · skip
        exfalso; rw [wrongP_ok hck, wrong_idx hi, tk_err] at hc3; cases h9 : rightB (k.ws.getD i default) <;> rw [h9] at hc3 <;> simp at hc3
      · skip
        refine c_skip (q_thenN ?_)
        refine wp_seq ?_
        refine c_reg ?_
        refine gL hf (g_mv hf rfl) (by decide) ?_; clear hf a; intro a hf
        refine gL hf (g_eql hf rfl rfl) (by decide) ?_; clear hf a; intro a hf
        refine e_nil ?_
        refine c_cond hf rfl (fun hc4 => ?_) (fun hc4 => ?_)
        · skip
          have hr0 : (ringP k.sh).2 = 0 := by simpa using hc4
          have ho : (orderP k.sh).2 ≠ 0 := by rcases top_ring hv.ck with ⟨_, h2, _⟩ | ⟨h1, _⟩; (rw [h2]; decide); (rw [h1] at hr0; cases hr0)
          refine wp_seq ?_
          refine c_reg ?_
          refine gL hf (g_mv hf rfl) (by decide) ?_; clear hf a; intro a hf
          refine gL hf (g_eql hf rfl rfl) (by decide) ?_; clear hf a; intro a hf
          refine gL hf (g_mv hf rfl) (by decide) ?_; clear hf a; intro a hf
          refine ggL hf rfl rfl (gyes_t _) (fun hg => g_fa (off' := 0) hf F40_0 rfl rfl) (by decide) ?_; clear hf a; intro a hf
          refine ggL hf rfl rfl (gyes_t _) (fun hg => g_ld hf hs T3 (ev_gv rfl hg) (k := 0) rfl rfl) (by decide) ?_; clear hf a; intro a hf
          refine ggL hf rfl rfl (gyes_t _) (fun hg => g_neq hf (ev_gv rfl hg) rfl) (by decide) ?_; clear hf a; intro a hf
          refine gL hf (g_and hf rfl rfl) (by decide) ?_; clear hf a; intro a hf
          refine e_nil ?_
          refine c_cond hf rfl (fun hc5 => ?_) (fun hc5 => ?_)
          · skip
            exfalso; cases h9 : rightB (k.ws.getD i default); (rw [tk_no h9] at hc5; simp at hc5); (rw [tk_yes h9, pass_none hv.ck hx ho] at hc5; simp at hc5)
          · skip
            refine c_skip (q_thenN ?_)
            refine wp_seq ?_
            refine c_reg ?_
            refine gL hf (g_mv hf rfl) (by decide) ?_; clear hf a; intro a hf
            refine gL hf (g_len hf SL31 rfl) (by decide) ?_; clear hf a; intro a hf
            refine gL hf (g_gtr hf rfl rfl) (by decide) ?_; clear hf a; intro a hf
            refine e_nil ?_
            refine c_cond hf rfl (fun hc6 => ?_) (fun hc6 => ?_)
            · skip
              have hwr : wrongL k ≠ [] := by intro h9; rw [wrongP_ok hck, h9] at hc6; simp at hc6
              have ht92 := teach_wrong hck hwr
              refine c_reg ?_
              refine gL hf (g_mv hf rfl) (by decide) ?_; clear hf a; intro a hf
              refine gL hf (g_eql hf rfl rfl) (by decide) ?_; clear hf a; intro a hf
              refine gL hf (g_mv hf rfl) (by decide) ?_; clear hf a; intro a hf
              refine callG hf hs rfl rfl (gyes_t _) (fun hg => ⟨_, _, _, _, c_folded09 ge gz te tz _ (hs.rd (.tail _ (.tail _ (.tail _ (.tail _ (.tail _ (.tail _ (.tail _ (.head _))))))))) (hs.rd (.tail _ (.tail _ (.tail _ (.tail _ (.tail _ (.tail _ (.tail _ (.tail _ (.head _)))))))))), rfl, evs_nil, rfl⟩) E17 (by decide) ?_; clear hs hf a; intro w a hs hf
              refine gL hf (g_and hf rfl rfl) (by decide) ?_; clear hf a; intro a hf
              refine gL hf (g_as hf rfl) (by decide) ?_; clear hf a; intro a hf
              refine e_nil ?_
              refine c_ret (q_thenR (q_thenR ?_))
              refine e_ret1 hf rfl rfl ?_
              exact ⟨by rw [ht92]; rfl, hs.below⟩
            · skip
              have hwr : wrongL k = [] := by rw [wrongP_ok hck] at hc6; exact List.eq_nil_of_length_eq_zero (by have := of_decide_eq_false hc6; simp only at this; omega)
              refine c_skip (q_thenN ?_)
              refine c_reg ?_
              refine gL hf (g_ldW hf hs T28 rfl (k := 1) rfl rfl) (by decide) ?_; clear hf a; intro a hf
              refine callL hf hs (c_GrossesH k _ _ _ _ _ _ ge gz  _ ⟨⟨hs.rd (.tail _ (.tail _ (.tail _ (.head _)))), hs.rd (.tail _ (.tail _ (.tail _ (.tail _ (.head _))))), h.sh.fc_, h.sh.rc_⟩, hs.rd (.tail _ (.tail _ (.tail _ (.tail _ (.tail _ (.head _)))))), h.wc_, hs.rd (.tail _ (.tail _ (.tail _ (.tail _ (.tail _ (.tail _ (.head _)))))))⟩ (hs.rd (.tail _ (.tail _ (.tail _ (.tail _ (.tail _ (.tail _ (.tail _ (.head _))))))))) te tz (hs.rd (.tail _ (.tail _ (.tail _ (.tail _ (.tail _ (.tail _ (.tail _ (.tail _ (.head _))))))))))) rfl rfl rfl E25 (by decide) ?_; clear hs hf a; intro w a hs hf
              refine gL hf (g_mv hf rfl) (by decide) ?_; clear hf a; intro a hf
              refine gL hf (g_ext hf rfl rfl) (by decide) ?_; clear hf a; intro a hf
              refine gL hf (g_ext hf rfl rfl) (by decide) ?_; clear hf a; intro a hf
              refine vL hf (v_alloc hs T40 rfl) (by decide) ?_; clear hs hf a; rintro _ w ⟨b3, rfl, hs⟩ a hf
              refine uL (u_stW hf hs T40 rfl rfl rfl (k := 0) rfl rfl rfl) ?_; clear hs; intro w hs; dsimp only [List.set] at hs
              refine gL hf (g_as hf rfl) (by decide) ?_; clear hf a; intro a hf
              refine e_nil ?_
              refine c_reg ?_
              refine gL hf (g_mv hf rfl) (by decide) ?_; clear hf a; intro a hf
              refine gL hf (g_eql hf rfl rfl) (by decide) ?_; clear hf a; intro a hf
              refine gL hf (g_mv hf rfl) (by decide) ?_; clear hf a; intro a hf
              refine ggL hf rfl rfl (gyes_t _) (fun hg => g_mv hf rfl) (by decide) ?_; clear hf a; intro a hf
              refine ggL hf rfl rfl (gyes_t _) (fun hg => g_eql hf (ev_gv rfl hg) rfl) (by decide) ?_; clear hf a; intro a hf
              refine gL hf (g_and hf rfl rfl) (by decide) ?_; clear hf a; intro a hf
              refine gL hf (g_mv hf rfl) (by decide) ?_; clear hf a; intro a hf
              refine ggL hf rfl rfl (gyes_t _) (fun hg => g_fa (off' := 0) hf F40_0 rfl rfl) (by decide) ?_; clear hf a; intro a hf
              refine ggL hf rfl rfl (gyes_t _) (fun hg => g_ld hf hs T3 (ev_gv rfl hg) (k := 0) rfl rfl) (by decide) ?_; clear hf a; intro a hf
              refine ggL hf rfl rfl (gyes_t _) (fun hg => g_eql hf (ev_gv rfl hg) rfl) (by decide) ?_; clear hf a; intro a hf
              refine gL hf (g_and hf rfl rfl) (by decide) ?_; clear hf a; intro a hf
              refine gL hf (g_mv hf rfl) (by decide) ?_; clear hf a; intro a hf
              refine callG hf hs rfl rfl (gyes_t _) (fun hg => ⟨_, _, _, _, c_folded09 ge gz te tz _ (hs.rd (.tail _ (.tail _ (.tail _ (.tail _ (.tail _ (.tail _ (.tail _ (.head _))))))))) (hs.rd (.tail _ (.tail _ (.tail _ (.tail _ (.tail _ (.tail _ (.tail _ (.tail _ (.head _)))))))))), rfl, evs_nil, rfl⟩) E17 (by decide) ?_; clear hs hf a; intro w a hs hf
              refine gL hf (g_and hf rfl rfl) (by decide) ?_; clear hf a; intro a hf
              refine gL hf (g_as hf rfl) (by decide) ?_; clear hf a; intro a hf
              refine e_nil ?_
              refine c_ret (q_thenR ?_)
              refine e_ret1 hf rfl rfl ?_
              have ht4 := teach_no hck ho
              rw [if_pos hwr] at ht4
              obtain ⟨g1, g2⟩ := gross_none hck ho hwr
              exact ⟨by rw [ht4, g1, g2]; rfl, hs.below⟩
        · skip
          have ho : (orderP k.sh).2 = 0 := by rcases top_ring hv.ck with ⟨h1, _, _⟩ | ⟨_, h2⟩; (rw [h1] at hc4; cases hc4); exact h2
          have hord := order_ord hv.ck ho
          refine c_skip (q_thenN ?_)
          refine wp_seq ?_
          refine c_reg ?_
          refine gL hf (g_mv hf rfl) (by decide) ?_; clear hf a; intro a hf
          refine gL hf (g_len hf SL31 rfl) (by decide) ?_; clear hf a; intro a hf
          refine gL hf (g_gtr hf rfl rfl) (by decide) ?_; clear hf a; intro a hf
          refine e_nil ?_
          refine c_cond hf rfl (fun hc7 => ?_) (fun hc7 => ?_)
          · skip
            have hwr : wrongL k ≠ [] := by intro h9; rw [wrongP_ok hck, h9] at hc7; simp at hc7
            have ht92 := teach_wrong hck hwr
            refine c_reg ?_
            refine gL hf (g_mv hf rfl) (by decide) ?_; clear hf a; intro a hf
            refine gL hf (g_eql hf rfl rfl) (by decide) ?_; clear hf a; intro a hf
            refine gL hf (g_mv hf rfl) (by decide) ?_; clear hf a; intro a hf
            refine callG hf hs rfl rfl (gyes_t _) (fun hg => ⟨_, _, _, _, c_folded09 ge gz te tz _ (hs.rd (.tail _ (.tail _ (.tail _ (.tail _ (.tail _ (.tail _ (.tail _ (.head _))))))))) (hs.rd (.tail _ (.tail _ (.tail _ (.tail _ (.tail _ (.tail _ (.tail _ (.tail _ (.head _)))))))))), rfl, evs_nil, rfl⟩) E17 (by decide) ?_; clear hs hf a; intro w a hs hf
            refine gL hf (g_and hf rfl rfl) (by decide) ?_; clear hf a; intro a hf
            refine gL hf (g_as hf rfl) (by decide) ?_; clear hf a; intro a hf
            refine e_nil ?_
            refine c_ret (q_thenR ?_)
            refine e_ret1 hf rfl rfl ?_
            exact ⟨by rw [ht92]; rfl, hs.below⟩
          · skip
            have hwr : wrongL k = [] := by rw [wrongP_ok hck] at hc7; exact List.eq_nil_of_length_eq_zero (by have := of_decide_eq_false hc7; simp only at this; omega)
            refine c_skip (q_thenN ?_)
            refine wp_seq ?_
            refine c_reg ?_
            refine gL hf (g_mv hf rfl) (by decide) ?_; clear hf a; intro a hf
            refine gL hf (g_neq hf rfl rfl) (by decide) ?_; clear hf a; intro a hf
            refine e_nil ?_
            refine c_cond hf rfl (fun hc8 => ?_) (fun hc8 => ?_)
            · skip
              refine c_reg1 ?_
              refine gL hf (g_mv hf rfl) (by decide) ?_; clear hf a; intro a hf
              refine gL hf (g_as hf rfl) (by decide) ?_; clear hf a; intro a hf
              refine e_nil1 (q_thenN ?_)
              refine c_reg ?_
              refine gL hf (g_ldW hf hs T28 rfl (k := 1) rfl rfl) (by decide) ?_; clear hf a; intro a hf
              refine vL hf (v_alloc hs T28 rfl) (by decide) ?_; clear hs hf a; rintro _ w ⟨b3, rfl, hs⟩ a hf
              refine uL (u_stW hf hs T28 rfl rfl rfl (k := 0) rfl rfl rfl) ?_; clear hs; intro w hs; dsimp only [List.set] at hs
              refine e_nil ?_
              refine c_reg ?_
              refine vL hf (v_lits (len := 0) hf hs SL26 T47 .nil rfl rfl rfl rfl (by decide) rfl) (by decide) ?_; clear hs hf a; rintro _ w ⟨b4, rfl, hs⟩ a hf
              refine gL hf (g_fa (off' := 7) hf F28_4 rfl rfl) (by decide) ?_; clear hf a; intro a hf
              refine gL hf (g_ld hf hs T26 rfl (k := 3) rfl rfl) (by decide) ?_; clear hf a; intro a hf
              refine vL hf (v_accN (e := 47) (o := some (b4, #[])) (l := []) (l' := k.ws) (len := 0) hf 0 hs rfl ⟨0, rfl, Nat.le_refl _, by omega, rfl⟩ AP26 (enc := encW) (fun _ => rfl) (by decide) (by intro x v hv9; simp only [encW, List.mem_cons, List.not_mem_nil, or_false] at hv9; rcases hv9 with rfl | rfl | rfl | rfl | rfl | rfl <;> rfl) rfl rfl rfl (hs.rd (.tail _ (.tail _ (.tail _ (.tail _ (.tail _ (.head _))))))) (by omega) (by decide)) (by decide) ?_; clear hs hf a; rintro _ w ⟨ox, rfl, hox, hs⟩ a hf; dsimp only [List.take, List.nil_append] at hs
              rw [List.nil_append] at hox
              obtain ⟨bcx, csx, rfl⟩ : ∃ bc cs, ox = some (bc, cs) := acc_some hox (by omega)
              simp only [Nat.zero_add] at hf; dsimp only [accV] at hf; dsimp only [accH, List.cons_append, List.nil_append] at hs
              have hcapx := hox.cap (sz := 6) (by decide)
              refine gL hf (g_fa (off' := 7) hf F28_4 rfl rfl) (by decide) ?_; clear hf a; intro a hf
              refine uL (u_st hf hs T26 rfl rfl rfl (k := 1) rfl (Nat.le_of_ble_eq_true rfl)) ?_; clear hs; intro w hs; dsimp only [List.set] at hs
              refine e_nil ?_
              refine wp_seq ?_
              refine c_reg ?_
              refine gL hf (g_mv hf rfl) (by decide) ?_; clear hf a; intro a hf
              refine gL hf (g_fa (off' := 7) hf F28_4 rfl rfl) (by decide) ?_; clear hf a; intro a hf
              refine gL hf (g_ld hf hs T26 rfl (k := 1) rfl rfl) (by decide) ?_; clear hf a; intro a hf
              refine gL hf (g_len hf SL26 rfl) (by decide) ?_; clear hf a; intro a hf
              refine gL hf (g_subI hf rfl rfl (by omega)) (by decide) ?_; clear hf a; intro a hf
              refine callL hf hs (c_Fits _ _ _ _) rfl rfl rfl E26 (by decide) ?_; clear hs hf a; intro w a hs hf
              refine gL hf (g_not hf rfl) (by decide) ?_; clear hf a; intro a hf
              refine e_nil ?_
              refine c_cond hf rfl (fun hc9 => ?_) (fun hc9 => ?_)
              · skip
                exfalso; simp [fitsB] at hc9; omega
              · skip
                refine c_skip (q_thenN ?_)
                refine c_reg ?_
                refine gL hf (g_fa (off' := 7) hf F28_4 rfl rfl) (by decide) ?_; clear hf a; intro a hf
                refine gL hf (g_ld hf hs T26 rfl (k := 1) rfl rfl) (by decide) ?_; clear hf a; intro a hf
                refine gL hf (g_mv hf rfl) (by decide) ?_; clear hf a; intro a hf
                refine gL hf (g_mv hf rfl) (by decide) ?_; clear hf a; intro a hf
                refine gL hf (g_ixO hf SL26 rfl rfl (by omega)) (by decide) ?_; clear hf a; intro a hf
                refine gL hf (g_fa hf F47_1 rfl rfl) (by decide) ?_; clear hf a; intro a hf
                refine uL (u_st hf hs T31 rfl rfl rfl (k := 0) rfl (accW_set (x' := reO (k.ws.getD i default) (orderP k.sh).1 Ao co) (i := i) (r := 1) hi (by decide) (by omega) rfl hox).1) ?_; clear hs; intro w hs; dsimp only [List.set] at hs
                have hox2 := (accW_set (x' := reO (k.ws.getD i default) (orderP k.sh).1 Ao co) (i := i) (r := 1) (q := 0 + i * 6 + 1) hi (by decide) (by omega) rfl hox).2
                refine e_nil ?_
                obtain ⟨Ax, cx, ex, hlx, hs⟩ := hs.freeze (e := 47) (o := some (bcx, _)) (l := (setW k i (orderP k.sh).1 Ao co).ws) (enc := encW) (sz := 6) 0 rfl hox2 (fun _ => rfl) (by decide)
                dsimp only [List.take, List.nil_append] at hs
                dsimp only [accV] at ex
                injection ex with ex1 ex2 ex3; subst ex1
                replace hs := hs.addD (ordD_set (i := i) (l := (orderP k.sh).1) (A := Ao) (c := co) (hs.data _ (.tail _ (.tail _ (.tail _ (.tail _ (.tail _ (.tail _ (.tail _ (.head _))))))))) hoo.1 (hs.data _ (.tail _ (.tail _ (.head _)))))
                refine c_reg ?_
                refine gL hf (g_ldW hf hs T28 rfl (k := 2) rfl rfl) (by decide) ?_; clear hf a; intro a hf
                refine callL hf hs (c_TotalH k _ _ _ _ _ _ ge gz  _ ⟨⟨hs.rd (.tail _ (.tail _ (.tail _ (.tail _ (.tail _ (.head _)))))), hs.rd (.tail _ (.tail _ (.tail _ (.tail _ (.tail _ (.tail _ (.head _))))))), h.sh.fc_, h.sh.rc_⟩, hs.rd (.tail _ (.tail _ (.tail _ (.tail _ (.tail _ (.tail _ (.tail _ (.head _)))))))), h.wc_, hs.rd (.tail _ (.tail _ (.tail _ (.tail _ (.tail _ (.tail _ (.tail _ (.tail _ (.head _)))))))))⟩ (hs.rd (.tail _ (.tail _ (.tail _ (.tail _ (.tail _ (.tail _ (.tail _ (.tail _ (.tail _ (.head _))))))))))) te tz (hs.rd (.tail _ (.tail _ (.tail _ (.tail _ (.tail _ (.tail _ (.tail _ (.tail _ (.tail _ (.tail _ (.head _))))))))))))) rfl rfl rfl E27 (by decide) ?_; clear hs hf a; intro w a hs hf
                refine gL hf (g_mv hf rfl) (by decide) ?_; clear hf a; intro a hf
                refine gL hf (g_ext hf rfl rfl) (by decide) ?_; clear hf a; intro a hf
                refine gL hf (g_ext hf rfl rfl) (by decide) ?_; clear hf a; intro a hf
                refine vL hf (v_alloc hs T40 rfl) (by decide) ?_; clear hs hf a; rintro _ w ⟨b5, rfl, hs⟩ a hf
                refine uL (u_stW hf hs T40 rfl rfl rfl (k := 0) rfl rfl rfl) ?_; clear hs; intro w hs; dsimp only [List.set] at hs
                refine gL hf (g_as hf rfl) (by decide) ?_; clear hf a; intro a hf
                refine e_nil ?_
                refine c_reg ?_
                refine gL hf (g_ldW hf hs T28 rfl (k := 1) rfl rfl) (by decide) ?_; clear hf a; intro a hf
                have h9 := c_TotalH (setW k i (orderP k.sh).1 Ao co) fA fc rA rc (some ⟨bcx, 0, none⟩) (csx.size / 6) ge gz _ (show BkIn (setW k i (orderP k.sh).1 Ao co) fA fc rA rc (some ⟨bcx, 0, none⟩) (csx.size / 6) _ from ⟨⟨hs.rd (.tail _ (.tail _ (.tail _ (.tail _ (.tail _ (.head _)))))), hs.rd (.tail _ (.tail _ (.tail _ (.tail _ (.tail _ (.tail _ (.head _))))))), h.sh.fc_, h.sh.rc_⟩, hs.rd (.tail _ (.head _)), by rw [setW_len]; exact hcapx, hs.rd (.head _)⟩) (hs.rd (.tail _ (.tail _ (.tail _ (.tail _ (.tail _ (.tail _ (.tail _ (.tail _ (.tail _ (.head _))))))))))) te tz (hs.rd (.tail _ (.tail _ (.tail _ (.tail _ (.tail _ (.tail _ (.tail _ (.tail _ (.tail _ (.tail _ (.head _))))))))))))
                simp only [bkV, setW_len] at h9
                refine callL hf hs (h9) rfl rfl rfl E27 (by decide) ?_; clear hs hf a; intro w a hs hf
                refine gL hf (g_mv hf rfl) (by decide) ?_; clear hf a; intro a hf
                refine gL hf (g_ext hf rfl rfl) (by decide) ?_; clear hf a; intro a hf
                refine gL hf (g_ext hf rfl rfl) (by decide) ?_; clear hf a; intro a hf
                refine vL hf (v_alloc hs T40 rfl) (by decide) ?_; clear hs hf a; rintro _ w ⟨b6, rfl, hs⟩ a hf
                refine uL (u_stW hf hs T40 rfl rfl rfl (k := 0) rfl rfl rfl) ?_; clear hs; intro w hs; dsimp only [List.set] at hs
                refine gL hf (g_as hf rfl) (by decide) ?_; clear hf a; intro a hf
                refine e_nil ?_
                refine c_reg ?_
                refine gL hf (g_mv hf rfl) (by decide) ?_; clear hf a; intro a hf
                refine gL hf (g_eql hf rfl rfl) (by decide) ?_; clear hf a; intro a hf
                refine gL hf (g_mv hf rfl) (by decide) ?_; clear hf a; intro a hf
                refine ggL hf rfl rfl (gyes_t _) (fun hg => g_mv hf rfl) (by decide) ?_; clear hf a; intro a hf
                refine ggL hf rfl rfl (gyes_t _) (fun hg => g_eql hf (ev_gv rfl hg) rfl) (by decide) ?_; clear hf a; intro a hf
                refine gL hf (g_and hf rfl rfl) (by decide) ?_; clear hf a; intro a hf
                refine gL hf (g_mv hf rfl) (by decide) ?_; clear hf a; intro a hf
                refine ggL hf rfl rfl (gyes_t _) (fun hg => g_fa (off' := 0) hf F40_0 rfl rfl) (by decide) ?_; clear hf a; intro a hf
                refine ggL hf rfl rfl (gyes_t _) (fun hg => g_ld hf hs T3 (ev_gv rfl hg) (k := 0) rfl rfl) (by decide) ?_; clear hf a; intro a hf
                refine ggL hf rfl rfl (gyes_t _) (fun hg => g_fa (off' := 0) hf F40_0 rfl rfl) (by decide) ?_; clear hf a; intro a hf
                refine ggL hf rfl rfl (gyes_t _) (fun hg => g_ld hf hs T3 (ev_gv rfl hg) (k := 1) rfl rfl) (by decide) ?_; clear hf a; intro a hf
                refine ggL hf rfl rfl (gyes_t _) (fun hg => g_geq hf (ev_gv rfl hg) (ev_gv rfl hg)) (by decide) ?_; clear hf a; intro a hf
                refine gL hf (g_and hf rfl rfl) (by decide) ?_; clear hf a; intro a hf
                refine gL hf (g_mv hf rfl) (by decide) ?_; clear hf a; intro a hf
                refine ggL hf rfl rfl (gyes_t _) (fun hg => g_fa (off' := 1) hf F40_1 rfl rfl) (by decide) ?_; clear hf a; intro a hf
                refine ggL hf rfl rfl (gyes_t _) (fun hg => g_ld hf hs T3 (ev_gv rfl hg) (k := 0) rfl rfl) (by decide) ?_; clear hf a; intro a hf
                refine ggL hf rfl rfl (gyes_t _) (fun hg => g_fa (off' := 1) hf F40_1 rfl rfl) (by decide) ?_; clear hf a; intro a hf
                refine ggL hf rfl rfl (gyes_t _) (fun hg => g_ld hf hs T3 (ev_gv rfl hg) (k := 1) rfl rfl) (by decide) ?_; clear hf a; intro a hf
                refine ggL hf rfl rfl (gyes_t _) (fun hg => g_geq hf (ev_gv rfl hg) (ev_gv rfl hg)) (by decide) ?_; clear hf a; intro a hf
                refine gL hf (g_and hf rfl rfl) (by decide) ?_; clear hf a; intro a hf
                refine gL hf (g_mv hf rfl) (by decide) ?_; clear hf a; intro a hf
                refine callG hf hs rfl rfl (gyes_t _) (fun hg => ⟨_, _, _, _, c_folded09 ge gz te tz _ (hs.rd (.tail _ (.tail _ (.tail _ (.tail _ (.tail _ (.tail _ (.tail _ (.tail _ (.tail _ (.head _))))))))))) (hs.rd (.tail _ (.tail _ (.tail _ (.tail _ (.tail _ (.tail _ (.tail _ (.tail _ (.tail _ (.tail _ (.head _)))))))))))), rfl, evs_nil, rfl⟩) E17 (by decide) ?_; clear hs hf a; intro w a hs hf
                refine gL hf (g_and hf rfl rfl) (by decide) ?_; clear hf a; intro a hf
                refine gL hf (g_as hf rfl) (by decide) ?_; clear hf a; intro a hf
                refine e_nil ?_
                refine c_ret ?_
                refine e_ret1 hf rfl rfl ?_
                refine ⟨?_, hs.below⟩
                obtain ⟨g1, g2, g3, g4⟩ := total_up hck ho hwr hi Ao co
                rw [g1, g2, decide_eq_true g3, decide_eq_true g4]
                rfl
            · skip
              have hte : (teachP k).2 = 0 := by simpa using hc8
              obtain ⟨i, hi, hve⟩ := teach_who hck hwr hte
              rw [hve] at hf
              refine c_skip (q_thenN ?_)
              refine c_reg ?_
              refine gL hf (g_ldW hf hs T28 rfl (k := 1) rfl rfl) (by decide) ?_; clear hf a; intro a hf
              refine vL hf (v_alloc hs T28 rfl) (by decide) ?_; clear hs hf a; rintro _ w ⟨b3, rfl, hs⟩ a hf
              refine uL (u_stW hf hs T28 rfl rfl rfl (k := 0) rfl rfl rfl) ?_; clear hs; intro w hs; dsimp only [List.set] at hs
              refine e_nil ?_
              refine c_reg ?_
              refine vL hf (v_lits (len := 0) hf hs SL26 T47 .nil rfl rfl rfl rfl (by decide) rfl) (by decide) ?_; clear hs hf a; rintro _ w ⟨b4, rfl, hs⟩ a hf
              refine gL hf (g_fa (off' := 7) hf F28_4 rfl rfl) (by decide) ?_; clear hf a; intro a hf
              refine gL hf (g_ld hf hs T26 rfl (k := 3) rfl rfl) (by decide) ?_; clear hf a; intro a hf
              refine vL hf (v_accN (e := 47) (o := some (b4, #[])) (l := []) (l' := k.ws) (len := 0) hf 0 hs rfl ⟨0, rfl, Nat.le_refl _, by omega, rfl⟩ AP26 (enc := encW) (fun _ => rfl) (by decide) (by intro x v hv9; simp only [encW, List.mem_cons, List.not_mem_nil, or_false] at hv9; rcases hv9 with rfl | rfl | rfl | rfl | rfl | rfl <;> rfl) rfl rfl rfl (hs.rd (.tail _ (.tail _ (.tail _ (.tail _ (.tail _ (.head _))))))) (by omega) (by decide)) (by decide) ?_; clear hs hf a; rintro _ w ⟨ox, rfl, hox, hs⟩ a hf; dsimp only [List.take, List.nil_append] at hs
              rw [List.nil_append] at hox
              obtain ⟨bcx, csx, rfl⟩ : ∃ bc cs, ox = some (bc, cs) := acc_some hox (by omega)
              simp only [Nat.zero_add] at hf; dsimp only [accV] at hf; dsimp only [accH, List.cons_append, List.nil_append] at hs
              have hcapx := hox.cap (sz := 6) (by decide)
              refine gL hf (g_fa (off' := 7) hf F28_4 rfl rfl) (by decide) ?_; clear hf a; intro a hf
              refine uL (u_st hf hs T26 rfl rfl rfl (k := 1) rfl (Nat.le_of_ble_eq_true rfl)) ?_; clear hs; intro w hs; dsimp only [List.set] at hs
              refine e_nil ?_
              refine wp_seq ?_
              refine c_reg ?_
              refine gL hf (g_mv hf rfl) (by decide) ?_; clear hf a; intro a hf
              refine gL hf (g_fa (off' := 7) hf F28_4 rfl rfl) (by decide) ?_; clear hf a; intro a hf
              refine gL hf (g_ld hf hs T26 rfl (k := 1) rfl rfl) (by decide) ?_; clear hf a; intro a hf
              refine gL hf (g_len hf SL26 rfl) (by decide) ?_; clear hf a; intro a hf
              refine gL hf (g_subI hf rfl rfl (by omega)) (by decide) ?_; clear hf a; intro a hf
              refine callL hf hs (c_Fits _ _ _ _) rfl rfl rfl E26 (by decide) ?_; clear hs hf a; intro w a hs hf
              refine gL hf (g_not hf rfl) (by decide) ?_; clear hf a; intro a hf
              refine e_nil ?_
              refine c_cond hf rfl (fun hc10 => ?_) (fun hc10 => ?_)
              · skip
                exfalso; simp [fitsB] at hc10; omega
              · skip
                refine c_skip (q_thenN ?_)
                refine c_reg ?_
                refine gL hf (g_fa (off' := 7) hf F28_4 rfl rfl) (by decide) ?_; clear hf a; intro a hf
                refine gL hf (g_ld hf hs T26 rfl (k := 1) rfl rfl) (by decide) ?_; clear hf a; intro a hf
                refine gL hf (g_mv hf rfl) (by decide) ?_; clear hf a; intro a hf
                refine gL hf (g_mv hf rfl) (by decide) ?_; clear hf a; intro a hf
                refine gL hf (g_ixO hf SL26 rfl rfl (by omega)) (by decide) ?_; clear hf a; intro a hf
                refine gL hf (g_fa hf F47_1 rfl rfl) (by decide) ?_; clear hf a; intro a hf
                refine uL (u_st hf hs T31 rfl rfl rfl (k := 0) rfl (accW_set (x' := reO (k.ws.getD i default) (orderP k.sh).1 Ao co) (i := i) (r := 1) hi (by decide) (by omega) rfl hox).1) ?_; clear hs; intro w hs; dsimp only [List.set] at hs
                have hox2 := (accW_set (x' := reO (k.ws.getD i default) (orderP k.sh).1 Ao co) (i := i) (r := 1) (q := 0 + i * 6 + 1) hi (by decide) (by omega) rfl hox).2
                refine e_nil ?_
                obtain ⟨Ax, cx, ex, hlx, hs⟩ := hs.freeze (e := 47) (o := some (bcx, _)) (l := (setW k i (orderP k.sh).1 Ao co).ws) (enc := encW) (sz := 6) 0 rfl hox2 (fun _ => rfl) (by decide)
                dsimp only [List.take, List.nil_append] at hs
                dsimp only [accV] at ex
                injection ex with ex1 ex2 ex3; subst ex1
                replace hs := hs.addD (ordD_set (i := i) (l := (orderP k.sh).1) (A := Ao) (c := co) (hs.data _ (.tail _ (.tail _ (.tail _ (.tail _ (.tail _ (.tail _ (.tail _ (.head _))))))))) hoo.1 (hs.data _ (.tail _ (.tail _ (.head _)))))
                refine c_reg ?_
                refine gL hf (g_ldW hf hs T28 rfl (k := 2) rfl rfl) (by decide) ?_; clear hf a; intro a hf
                refine callL hf hs (c_TotalH k _ _ _ _ _ _ ge gz  _ ⟨⟨hs.rd (.tail _ (.tail _ (.tail _ (.tail _ (.tail _ (.head _)))))), hs.rd (.tail _ (.tail _ (.tail _ (.tail _ (.tail _ (.tail _ (.head _))))))), h.sh.fc_, h.sh.rc_⟩, hs.rd (.tail _ (.tail _ (.tail _ (.tail _ (.tail _ (.tail _ (.tail _ (.head _)))))))), h.wc_, hs.rd (.tail _ (.tail _ (.tail _ (.tail _ (.tail _ (.tail _ (.tail _ (.tail _ (.head _)))))))))⟩ (hs.rd (.tail _ (.tail _ (.tail _ (.tail _ (.tail _ (.tail _ (.tail _ (.tail _ (.tail _ (.head _))))))))))) te tz (hs.rd (.tail _ (.tail _ (.tail _ (.tail _ (.tail _ (.tail _ (.tail _ (.tail _ (.tail _ (.tail _ (.head _))))))))))))) rfl rfl rfl E27 (by decide) ?_; clear hs hf a; intro w a hs hf
                refine gL hf (g_mv hf rfl) (by decide) ?_; clear hf a; intro a hf
                refine gL hf (g_ext hf rfl rfl) (by decide) ?_; clear hf a; intro a hf
                refine gL hf (g_ext hf rfl rfl) (by decide) ?_; clear hf a; intro a hf
                refine vL hf (v_alloc hs T40 rfl) (by decide) ?_; clear hs hf a; rintro _ w ⟨b5, rfl, hs⟩ a hf
                refine uL (u_stW hf hs T40 rfl rfl rfl (k := 0) rfl rfl rfl) ?_; clear hs; intro w hs; dsimp only [List.set] at hs
                refine gL hf (g_as hf rfl) (by decide) ?_; clear hf a; intro a hf
                refine e_nil ?_
                refine c_reg ?_
                refine gL hf (g_ldW hf hs T28 rfl (k := 1) rfl rfl) (by decide) ?_; clear hf a; intro a hf
                have h9 := c_TotalH (setW k i (orderP k.sh).1 Ao co) fA fc rA rc (some ⟨bcx, 0, none⟩) (csx.size / 6) ge gz _ (show BkIn (setW k i (orderP k.sh).1 Ao co) fA fc rA rc (some ⟨bcx, 0, none⟩) (csx.size / 6) _ from ⟨⟨hs.rd (.tail _ (.tail _ (.tail _ (.tail _ (.tail _ (.head _)))))), hs.rd (.tail _ (.tail _ (.tail _ (.tail _ (.tail _ (.tail _ (.head _))))))), h.sh.fc_, h.sh.rc_⟩, hs.rd (.tail _ (.head _)), by rw [setW_len]; exact hcapx, hs.rd (.head _)⟩) (hs.rd (.tail _ (.tail _ (.tail _ (.tail _ (.tail _ (.tail _ (.tail _ (.tail _ (.tail _ (.head _))))))))))) te tz (hs.rd (.tail _ (.tail _ (.tail _ (.tail _ (.tail _ (.tail _ (.tail _ (.tail _ (.tail _ (.tail _ (.head _))))))))))))
                simp only [bkV, setW_len] at h9
                refine callL hf hs (h9) rfl rfl rfl E27 (by decide) ?_; clear hs hf a; intro w a hs hf
                refine gL hf (g_mv hf rfl) (by decide) ?_; clear hf a; intro a hf
                refine gL hf (g_ext hf rfl rfl) (by decide) ?_; clear hf a; intro a hf
                refine gL hf (g_ext hf rfl rfl) (by decide) ?_; clear hf a; intro a hf
                refine vL hf (v_alloc hs T40 rfl) (by decide) ?_; clear hs hf a; rintro _ w ⟨b6, rfl, hs⟩ a hf
                refine uL (u_stW hf hs T40 rfl rfl rfl (k := 0) rfl rfl rfl) ?_; clear hs; intro w hs; dsimp only [List.set] at hs
                refine gL hf (g_as hf rfl) (by decide) ?_; clear hf a; intro a hf
                refine e_nil ?_
                refine c_reg ?_
                refine gL hf (g_mv hf rfl) (by decide) ?_; clear hf a; intro a hf
                refine gL hf (g_eql hf rfl rfl) (by decide) ?_; clear hf a; intro a hf
                refine gL hf (g_mv hf rfl) (by decide) ?_; clear hf a; intro a hf
                refine ggL hf rfl rfl (gyes_t _) (fun hg => g_mv hf rfl) (by decide) ?_; clear hf a; intro a hf
                refine ggL hf rfl rfl (gyes_t _) (fun hg => g_eql hf (ev_gv rfl hg) rfl) (by decide) ?_; clear hf a; intro a hf
                refine gL hf (g_and hf rfl rfl) (by decide) ?_; clear hf a; intro a hf
                refine gL hf (g_mv hf rfl) (by decide) ?_; clear hf a; intro a hf
                refine ggL hf rfl rfl (gyes_t _) (fun hg => g_fa (off' := 0) hf F40_0 rfl rfl) (by decide) ?_; clear hf a; intro a hf
                refine ggL hf rfl rfl (gyes_t _) (fun hg => g_ld hf hs T3 (ev_gv rfl hg) (k := 0) rfl rfl) (by decide) ?_; clear hf a; intro a hf
                refine ggL hf rfl rfl (gyes_t _) (fun hg => g_fa (off' := 0) hf F40_0 rfl rfl) (by decide) ?_; clear hf a; intro a hf
                refine ggL hf rfl rfl (gyes_t _) (fun hg => g_ld hf hs T3 (ev_gv rfl hg) (k := 1) rfl rfl) (by decide) ?_; clear hf a; intro a hf
                refine ggL hf rfl rfl (gyes_t _) (fun hg => g_geq hf (ev_gv rfl hg) (ev_gv rfl hg)) (by decide) ?_; clear hf a; intro a hf
                refine gL hf (g_and hf rfl rfl) (by decide) ?_; clear hf a; intro a hf
                refine gL hf (g_mv hf rfl) (by decide) ?_; clear hf a; intro a hf
                refine ggL hf rfl rfl (gyes_t _) (fun hg => g_fa (off' := 1) hf F40_1 rfl rfl) (by decide) ?_; clear hf a; intro a hf
                refine ggL hf rfl rfl (gyes_t _) (fun hg => g_ld hf hs T3 (ev_gv rfl hg) (k := 0) rfl rfl) (by decide) ?_; clear hf a; intro a hf
                refine ggL hf rfl rfl (gyes_t _) (fun hg => g_fa (off' := 1) hf F40_1 rfl rfl) (by decide) ?_; clear hf a; intro a hf
                refine ggL hf rfl rfl (gyes_t _) (fun hg => g_ld hf hs T3 (ev_gv rfl hg) (k := 1) rfl rfl) (by decide) ?_; clear hf a; intro a hf
                refine ggL hf rfl rfl (gyes_t _) (fun hg => g_geq hf (ev_gv rfl hg) (ev_gv rfl hg)) (by decide) ?_; clear hf a; intro a hf
                refine gL hf (g_and hf rfl rfl) (by decide) ?_; clear hf a; intro a hf
                refine gL hf (g_mv hf rfl) (by decide) ?_; clear hf a; intro a hf
                refine callG hf hs rfl rfl (gyes_t _) (fun hg => ⟨_, _, _, _, c_folded09 ge gz te tz _ (hs.rd (.tail _ (.tail _ (.tail _ (.tail _ (.tail _ (.tail _ (.tail _ (.tail _ (.tail _ (.head _))))))))))) (hs.rd (.tail _ (.tail _ (.tail _ (.tail _ (.tail _ (.tail _ (.tail _ (.tail _ (.tail _ (.tail _ (.head _)))))))))))), rfl, evs_nil, rfl⟩) E17 (by decide) ?_; clear hs hf a; intro w a hs hf
                refine gL hf (g_and hf rfl rfl) (by decide) ?_; clear hf a; intro a hf
                refine gL hf (g_as hf rfl) (by decide) ?_; clear hf a; intro a hf
                refine e_nil ?_
                refine c_ret ?_
                refine e_ret1 hf rfl rfl ?_
                refine ⟨?_, hs.below⟩
                obtain ⟨g1, g2, g3, g4⟩ := total_up hck ho hwr hi Ao co
                rw [g1, g2, decide_eq_true g3, decide_eq_true g4]
                rfl

end Go.Proofs.YtjjcopeedcdokaaDoor

set_option linter.unusedVariables false
namespace Go.Proofs.YtjjcopeedcdokaaDoor
open Go.ChangeShapes Go.WideShapes Go.ChangeAt Go.RowKit
set_option maxRecDepth 100000 in
theorem lifted3 (os : Os) (started : os.Started) (H : Type) (enc : TypeId × Value → H) :
    ReturnsInHanded {} Tryd.checked os 3 .any (fun w args => (Rows.topRingSpec.pre enc Tryd.prog Tryd.f3 [] false w args ∧ laidMetH Tryd.prog laid1 w) ∧ sizedMet enc Tryd.prog Tryd.f3 (OpenSpec.ofChange Rows.topRingSpec) false w args)
      (Rows.topRingSpec.post enc Tryd.prog Tryd.f3 false true false false) := by
  refine returnsInHanded_of_change_and (C := Tryd.checked) (X := fun w _ => laidMetH Tryd.prog laid1 w) (fun _ _ _ hh h => h.of_heap hh) pOwn started (by kernel_rfl) Tryd.func3
    (ChangeSpec.witness_shaped (enc := enc) (C := Tryd.checked) (os := os) (X := fun w _ => laidMetH Tryd.prog laid1 w) false (World.doorLaid Tryd.prog 600 os) #[.agg #[.int .i64 0, .int .i64 0, .slice none 0 0, .slice none 0 0, .int .i64 0, .int .i64 0, .int .i64 0, .slice none 0 0], .int .i64 0] 8 rfl (World.shaped_of_RefB (by kernel_rfl) (by kernel_rfl)) (by kernel_rfl) (by kernel_rfl) (by kernel_rfl) (door_met os _)) ?_
  intro W base args ds gs before hval0 hW _ _ hL _
  have hval : ∀ (j : Nat) t v, Tryd.f3.params[j]? = some t → args[j]? = some v → Value.okWide Tryd.prog W .any base t v := hval0
  have hW' := hW
  obtain ⟨p, q, hA0, hV, rfl, hfz, hnd⟩ := hW
  have hA : DataW.TrodAll enc Tryd.prog W 0 (fun _ => true) true Tryd.f3.params.toList args.toList ds p := hA0
  have hA9 := hA
  rw [Tryd.params3] at hA hval
  obtain ⟨v0, v1, d0, d1, p0, p1, rfl, rfl, rfl, h0, h1⟩ := trodAll_two hA
  obtain ⟨rfl, rfl⟩ := trodVars_none hV
  obtain ⟨k, fA, fc, rA, rc, wA, wc, rfl, hbk⟩ := open_book (hval 0 28 v0 rfl rfl) h0
  obtain ⟨i, rfl, rfl, rfl, wi⟩ := open_int Tryd.underlying3 (hval 1 3 v1 rfl rfl) h1
  obtain ⟨ge, gz, hG⟩ := of_laid hL
  obtain ⟨te, tz, hT⟩ := of_told hL
  refine (c_TopRing k fA fc rA rc wA wc ge gz i W hbk hG te tz hT).mono fun e W' ⟨he, hb⟩ => ?_
  subst he
  exact ⟨_, rfl, law_post rfl rfl rfl (by kernel_rfl) hW' rfl hA9 hb⟩
theorem row3 : Rows.TopRingSaid :=
  OpenClaim.holds_of_wide 3 Tryd.f3 rfl rfl rfl rfl rfl rfl rfl ⟨rfl, rfl, rfl, rfl, rfl⟩ rfl rfl rfl rfl rfl (by kernel_rfl) Tryd.func3 (by kernel_rfl)
    (of_decide_eq_true (by kernel_rfl)) (by unfold Func.isWrapper; first | (rw [if_pos (by decide +kernel)]; kernel_rfl) | (rw [if_neg (by decide +kernel)]; exact ⟨rfl, rfl⟩))
    (fun os started H enc _ => lifted3 os started H enc)
/-- The card. -/
theorem topRing_holds : Rows.TopRingCardSaid :=
  Claim7.holds_tied_plain_at .later [] [.funcs, .funcs] true (true, "812014c6ba21101d15e02d82012ffa61e4b3f2f84e9c736658d12c12a3cb442a") false
    row3 (fun _ h => by cases h) (by kernel_rfl) (fun _ h => by cases h) topRing_row_tie rfl ⟨rfl, rfl⟩ (by kernel_rfl) rfl
    (fun f fn hf hfn => by
      obtain rfl : f = 3 := Option.some.inj ((show Tryd.prog.funcNamed "lucifer/lucifertop.TopRing" = some 3 by kernel_rfl).symm.trans hf) |>.symm
      obtain rfl : fn = Tryd.f3 := (Option.some.inj (Tryd.func3.symm.trans hfn)).symm
      exact ⟨by kernel_rfl, fun j t ht => by
        rw [Tryd.params3] at ht
        have hm : t ∈ [28, 3] := by simpa using Array.mem_of_getElem? ht
        have hall : ([28, 3].all fun u => !Tryd.prog.wantsStandIn u) = true := by kernel_rfl
        exact (show Tryd.prog.wantsStandIn t = false by simpa using List.all_eq_true.1 hall t hm)⟩)
    (by kernel_rfl)
#print axioms topRing_holds
end Go.Proofs.YtjjcopeedcdokaaDoor

