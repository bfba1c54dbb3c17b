/- For every book and number the law TopSheets returns true, and its arguments read afterwards as before: without the rules that must go each sheet folds; if all workers fold in the order that is told then, all boxes that came back pass, and nobody need be taught; without rules as well, in any order. Conditions: the tables of the sides and of what is told hold what the text of the program lays. -/
import Derived.Test.YtjjcopeedcdokaaDoorComF
import Derived.Test.YtjjcopeedcdokaaDoorProg
import Derived.Test.YtjjcopeedcdokaaDoorTie
import Derived.Test.YtjjcopeedcdokaaDoorCards
set_option linter.unusedVariables false
set_option linter.unusedSimpArgs false
namespace Go.Proofs.YtjjcopeedcdokaaDoor
open Go.RowKit

section
variable {P : Program} {ds : List Deferred} {a : Act} {n : Nat} {L : Regs} {w : World} {t : TypeId}
section
variable {x y : Operand} {i j : Int} {k : IntKind} {ty ty' : TypeId}
theorem g_shl (hf : Fr ds a n L) (hx : ev L x = some (.int .i64 i)) {k' : IntKind} (hy : ev L y = some (.int k' j)) (h : 0 ≤ j ∧ j ≤ 64) : Gets P (.binOp .shl ty x y ty') t a w (.int .i64 (IntKind.i64.wrap (i * 2 ^ j.toNat))) := by
  intro d p af g
  have h1 : ¬ j < 0 := by omega
  have h2 : min j.toNat IntKind.i64.bits = j.toNat := by simp [IntKind.bits]; omega
  simp [execOp, hf.eval hx, hf.eval hy, eqGuard, binOp, Op.shift, h1, h2]
theorem g_shr (hf : Fr ds a n L) (hx : ev L x = some (.int .i64 i)) {k' : IntKind} (hy : ev L y = some (.int k' j)) (h : 0 ≤ j ∧ j ≤ 64) : Gets P (.binOp .shr ty x y ty') t a w (.int .i64 (i / 2 ^ j.toNat)) := by
  intro d p af g
  have h1 : ¬ j < 0 := by omega
  have h2 : min j.toNat IntKind.i64.bits = j.toNat := by simp [IntKind.bits]; omega
  simp [execOp, hf.eval hx, hf.eval hy, eqGuard, binOp, Op.shift, h1, h2]
theorem g_band (hf : Fr ds a n L) (hx : ev L x = some (.int .i64 i)) (hy : ev L y = some (.int .i64 j)) : Gets P (.binOp .and ty x y ty') t a w (.int .i64 (andI i j)) := by
  intro d p af g; simp [execOp, hf.eval hx, hf.eval hy, eqGuard, binOp, Op.intBits]; rfl
end

variable {w0 : Base} {Ds : List (World → Prop)} {H : Own}
end
end Go.Proofs.YtjjcopeedcdokaaDoor

set_option linter.unusedVariables false
set_option linter.unusedSimpArgs false
namespace Go.Proofs.YtjjcopeedcdokaaDoor
open Go.RowKit

section
variable {P : Program} {Q : Exit → Act → World → Prop} {a : Act} {n : Nat} {L : Regs} {w : World} {w0 : Base} {Ds : List (World → Prop)} {H : Own}
theorem c_rangeS {g : Operand} {p : Nat} {body : Code} (hf : Fr [] a n L) (hs : St w0 Ds H w) {gf : Nat} {lb : List Value} (hg : ev L g = some (.func (.func gf) #[] lb.toArray)) (hk : Enters P gf) (hp : p < n)
    {all : List (List Int)} (hc : SeqL P gf lb all (w0.ex ++ ids H) w) {τ : Type} (hex : w0.ex = []) (Ip : List (List Int) → Prop) (G : List (List Int) → Own) (Ix : τ → List (List Int) → Prop) (Dx : τ → List (List Int) → List (World → Prop)) (Gx : τ → List (List Int) → Own) (hI0 : Ip []) (hG0 : G [] = H) (hGi : ∀ pre, ids (G pre) = ids H) (hGxi : ∀ t pre, ids (Gx t pre) = ids H)
    (hbody : ∀ l pre x A c W a1 E hE, pre ++ [x] <+: all → Ip pre → x.length ≤ c → (∀ b o, A = some ⟨b, o, none⟩ → w.heap.size ≤ b) → Fr [] a1 n ((p, .slice A x.length c) :: L) → St (Base.rnd W (ids H) E hE) (Rd encI 1 A x.length x :: Ds) (G pre) W →
      body.wpIn (fen (some l)) 0 P (rndQ (fun W' => ∃ Ds', St (Base.rnd W (ids H) E hE) Ds' (G (pre ++ [x])) W' ∧ Ip (pre ++ [x])) (fun W' => ∃ t, St (Base.rnd W (ids H) E hE) (Dx t (pre ++ [x])) (Gx t (pre ++ [x])) W' ∧ Ix t (pre ++ [x]))) a1 W)
    (hdone : ∀ D a' w', Fr [coll D] a' n L → Ip all → St w0 Ds (G all ++ [(D, .deferred (some []))]) w' → Q .normal a' w')
    (hstop : ∀ D t pre a' w', pre ≠ [] → pre <+: all → Ix t pre → Fr [coll D] a' n L → St w0 (Dx t pre ++ Ds) (Gx t pre ++ [(D, .deferred (some []))]) w' → Q .ret a' w') :
    (Code.rangeFunc g #[p] .skip body).wp P Q a w :=
  c_range hf hs hg hk hp hc hex Ip G Ix Dx Gx hI0 hG0 hGi hGxi (fun v => (p, v) :: L) (fun l v a W hf => r_skip ⟨rfl, hf⟩) hbody hdone hstop
end
end Go.Proofs.YtjjcopeedcdokaaDoor

set_option linter.unusedVariables false
namespace Go.Proofs.YtjjcopeedcdokaaDoor
def earlierB : List Int → List Int → Bool
  | [], [] => false
  | [], _ :: _ => true
  | _ :: _, [] => false
  | x :: l, y :: m => if x = y then earlierB l m else decide (x < y)
theorem earlier_at : ∀ {l m : List Int} {k : Nat}, k < l.length → k < m.length → (∀ j, j < k → l.getD j default = m.getD j default) → l.getD k default ≠ m.getD k default → earlierB l m = decide (l.getD k default < m.getD k default)
  | [], _, _, h, _, _, _ => by simp at h
  | _ :: _, [], _, _, h, _, _ => by simp at h
  | x :: l, y :: m, 0, _, _, _, h => by simp at h; simp [earlierB, h]
  | x :: l, y :: m, k + 1, h1, h2, h3, h4 => by
    have h0 := h3 0 (by omega)
    simp at h0
    subst h0
    have := earlier_at (l := l) (m := m) (k := k) (by simpa using h1) (by simpa using h2) (fun j hj => by have := h3 (j + 1) (by omega); simpa using this) (by simpa using h4)
    simpa [earlierB] using this
theorem earlier_end : ∀ {l m : List Int} {k : Nat}, k ≤ l.length → k ≤ m.length → (k = l.length ∨ k = m.length) → (∀ j, j < k → l.getD j default = m.getD j default) → earlierB l m = decide (l.length < m.length)
  | [], [], _, _, _, _, _ => by simp [earlierB]
  | [], _ :: _, _, _, _, _, _ => by simp [earlierB]
  | _ :: _, [], _, _, _, _, _ => by simp [earlierB]
  | x :: l, y :: m, 0, _, _, h, _ => by simp at h
  | x :: l, y :: m, k + 1, h1, h2, h3, h4 => by
    have h0 := h4 0 (by omega)
    simp at h0
    subst h0
    have := earlier_end (l := l) (m := m) (k := k) (by simpa using h1) (by simpa using h2) (by simpa using h3) (fun j hj => by have := h4 (j + 1) (by omega); simpa using this)
    simpa [earlierB] using this
theorem indexZ_neg {l : List Int} {v : Int} (h : indexZ (fun x => x == v) l < 0) : v ∉ l := by
  intro hm
  have := indexZ_ge (fun x => x == v) l
  rw [show l.any (fun x => x == v) = true from List.any_eq_true.2 ⟨v, hm, by simp⟩] at this
  simp at this; omega
theorem indexZ_pos {l : List Int} {v : Int} (h : ¬ indexZ (fun x => x == v) l < 0) : v ∈ l := by
  have := indexZ_ge (fun x => x == v) l
  rw [show decide (0 ≤ indexZ (fun x => x == v) l) = true by simp; omega] at this
  obtain ⟨x, hx, he⟩ := List.any_eq_true.1 this.symm
  have : x = v := by simpa using he
  exact this ▸ hx
end Go.Proofs.YtjjcopeedcdokaaDoor

set_option linter.unusedVariables false
set_option linter.unusedSimpArgs false
namespace Go.Proofs.YtjjcopeedcdokaaDoor
open Go.RowKit
theorem AP23 : ApT Tryd.prog 23 51 2 16 := ApT.mk' (z := (.agg #[.int .i64 0, .int .i64 0])) (by kernel_rfl) (by kernel_rfl) (by kernel_rfl)
theorem E28 : Enters Tryd.prog 28 := fun _ _ => by kernel_rfl
theorem E79 : Enters Tryd.prog 79 := fun _ _ => by kernel_rfl
theorem E78 : Enters Tryd.prog 78 := fun _ _ => by kernel_rfl
theorem E113 : Enters Tryd.prog 113 := fun _ _ => by kernel_rfl
theorem E129 : Enters Tryd.prog 129 := fun _ _ => by kernel_rfl
end Go.Proofs.YtjjcopeedcdokaaDoor

set_option linter.unusedVariables false
set_option linter.unusedSimpArgs false
namespace Go.Proofs.YtjjcopeedcdokaaDoor
open Go.RowKit
def cmpZ (x y : List Int) : Int := if earlierB x y = true then -1 else if x = y then 0 else 1
theorem cmp_long {x y : List Int} {k : Nat} (hk : k < x.length) (hy : k = y.length) (hp : ∀ j, j < k → x.getD j default = y.getD j default) : cmpZ x y = 1 := by
  have h1 := earlier_end (l := x) (m := y) (k := k) (by omega) (by omega) (.inr hy) hp
  have h2 : x ≠ y := fun e => by subst e; omega
  rw [cmpZ, h1, if_neg (by simp; omega), if_neg h2]
theorem cmp_at {x y : List Int} {k : Nat} (hk : k < x.length) (hy : k < y.length) (hp : ∀ j, j < k → x.getD j default = y.getD j default) (hne : x.getD k default ≠ y.getD k default) : cmpZ x y = if x.getD k default < y.getD k default then -1 else if y.getD k default < x.getD k default then 1 else 0 := by
  have h1 := earlier_at hk hy hp hne
  have h2 : x ≠ y := fun e => by subst e; exact hne rfl
  rw [cmpZ, h1]
  by_cases h : x.getD k default < y.getD k default
  · rw [if_pos (by simpa using h), if_pos h]
  · rw [if_neg (by simpa using h), if_neg h2, if_neg h, if_pos (by omega)]
theorem cmp_end {x y : List Int} (hy : x.length ≤ y.length) (hp : ∀ j, j < x.length → x.getD j default = y.getD j default) : cmpZ x y = if x.length < y.length then -1 else 0 := by
  have h1 := earlier_end (l := x) (m := y) (k := x.length) (by omega) hy (.inl rfl) hp
  rw [cmpZ, h1]
  by_cases h : x.length < y.length
  · rw [if_pos (by simpa using h), if_pos h]
  · have : x = y := list_eq_of_getD (by omega) hp
    rw [if_neg (by simpa using h), if_neg h, if_pos this]
end Go.Proofs.YtjjcopeedcdokaaDoor

set_option linter.unusedVariables false
set_option linter.unusedSimpArgs false
namespace Go.Proofs.YtjjcopeedcdokaaDoor
open Go.RowKit
def foldsP (b : Sheet) : Bool := decide (allO b ≠ [])
end Go.Proofs.YtjjcopeedcdokaaDoor

set_option linter.unusedVariables false
set_option linter.unusedSimpArgs false
namespace Go.Proofs.YtjjcopeedcdokaaDoor
open Go.RowKit
section
variable {P : Program} {Q : Exit → Act → World → Prop} {ds : List Deferred} {a : Act} {n : Nat} {L : Regs} {w : World}
/-- A loop, whose base and whose data may turn with the state. -/
theorem c_loopD {body : Code} {σ : Type} (B : σ → Base) (DF : σ → List (World → Prop)) (hf : Fr ds a n L) (ms : List Nat) (N : σ → Regs) (G : σ → Own) (J : σ → Prop) (μ : σ → Nat) (s0 : σ) (hs : St (B s0) (DF s0) (G s0) w) (hJ : J s0) (hN : Has L (N s0))
    (h : ∀ s a w, J s → Fr ds a n (N s ++ dropR ms L) → St (B s) (DF s) (G s) w → body.wp P (Exit.then (fun a' w' => ∃ s', J s' ∧ μ s' < μ s ∧ Fr ds a' n (N s' ++ dropR ms L) ∧ St (B s') (DF s') (G s') w') Q) a w) : (Code.loop body).wp P Q a w := by
  classical
  let I : Act → World → Prop := fun a w => ∃ s, J s ∧ Fr ds a n (N s ++ dropR ms L) ∧ St (B s) (DF s) (G s) w
  let M : Act → World → Nat → Prop := fun a w m => ∃ s, J s ∧ Fr ds a n (N s ++ dropR ms L) ∧ St (B s) (DF s) (G s) w ∧ μ s = m
  have ex : ∀ a w, I a w → ∃ m, M a w m ∧ ∀ m', M a w m' → m ≤ m' := by
    rintro a w ⟨s, h1, h2, h3⟩
    have : ∀ k, (∃ m, m ≤ k ∧ M a w m) → ∃ m, M a w m ∧ ∀ m', M a w m' → m ≤ m' := by
      intro k
      induction k with
      | zero => rintro ⟨m, hm, hM⟩; exact ⟨m, hM, fun m' _ => by omega⟩
      | succ k ih =>
        rintro ⟨m, hm, hM⟩
        by_cases hk : ∃ m, m ≤ k ∧ M a w m
        · exact ih hk
        · exact ⟨m, hM, fun m' hm' => by
            rcases Nat.lt_or_ge k m' with h | h
            · omega
            · exact absurd ⟨m', h, hm'⟩ hk⟩
    exact this (μ s) ⟨μ s, Nat.le_refl _, s, h1, h2, h3, rfl⟩
  refine wp_loop I (fun a w => if hI : I a w then (ex a w hI).choose else 0) ⟨s0, hJ, hf.over ms hN.spec, hs⟩ ?_
  intro a w hI
  obtain ⟨⟨s, h1, h2, h3, h4⟩, hmin⟩ := (ex a w hI).choose_spec
  refine wp_mono (h s a w h1 h2 h3) ?_
  intro e a' w' he
  cases e with
  | normal =>
    obtain ⟨s', k1, k2, k3, k4⟩ := he
    have hI' : I a' w' := ⟨s', k1, k3, k4⟩
    refine ⟨hI', ?_⟩
    rw [dif_pos hI', dif_pos hI, ← h4]
    exact Nat.lt_of_le_of_lt ((ex a' w' hI').choose_spec.2 (μ s') ⟨s', k1, k3, k4, rfl⟩) k2
  | _ => exact he

end

end Go.Proofs.YtjjcopeedcdokaaDoor

set_option linter.unusedVariables false
set_option linter.unusedSimpArgs false
namespace Go.Proofs.YtjjcopeedcdokaaDoor
open Go.RowKit
def outL (s : Int) (n : Nat) : List Int := ((List.range n).filter (bitI s)).map fun k => ((k : Nat) : Int)
theorem out_yes {s : Int} {k : Nat} (h : bitI s k = true) : outL s (k + 1) = outL s k ++ [((k : Nat) : Int)] := by
  simp [outL, List.range_succ, h]
theorem out_no {s : Int} {k : Nat} (h : bitI s k = false) : outL s (k + 1) = outL s k := by
  simp [outL, List.range_succ, h]
theorem keep_yes {b : Sheet} {s : Int} {k : Nat} (h : bitI s k = true) : keepR b s (k + 1) = keepR b s k := by
  simp [keepR, List.range_succ, h]
theorem keep_no {b : Sheet} {s : Int} {k : Nat} (h : bitI s k = false) : keepR b s (k + 1) = keepR b s k ++ [b.rules.getD k default] := by
  simp [keepR, List.range_succ, h]
theorem out_le (s : Int) (n : Nat) : (outL s n).length ≤ n := by
  have := List.length_filter_le (bitI s) (List.range n)
  simpa [outL] using this
theorem keep_le (b : Sheet) (s : Int) (n : Nat) : (keepR b s n).length ≤ n := by
  have := List.length_filter_le (fun k => !bitI s k) (List.range n)
  simpa [keepR] using this
theorem keep_sub (b : Sheet) (s : Int) : (keepR b s b.rules.length).Sublist b.rules := by
  have h := (List.filter_sublist (p := fun k => !bitI s k) (l := List.range b.rules.length)).map fun k => b.rules.getD k default
  rwa [map_getD] at h
theorem distinct_iff {l : List Rule} : (∀ i j : Nat, i < j → j < l.length → l.getD i default ≠ l.getD j default) ↔ l.Nodup := by
  rw [List.nodup_iff_pairwise_ne, List.pairwise_iff_getElem]
  constructor
  · intro h i j hi hj hij
    have := h i j hij hj
    rw [List.getD_eq_getElem?_getD, List.getD_eq_getElem?_getD, List.getElem?_eq_getElem hi, List.getElem?_eq_getElem hj] at this
    simpa using this
  · intro h i j hij hj
    rw [List.getD_eq_getElem?_getD, List.getD_eq_getElem?_getD, List.getElem?_eq_getElem (by omega), List.getElem?_eq_getElem hj]
    exact h i j (by omega) hj hij
theorem valid_sub {b : Sheet} (hv : Valid b) {l : List Rule} (h : l.Sublist b.rules) : Valid { b with rules := l } :=
  ⟨hv.wide, hv.high, hv.many, Nat.le_trans h.length_le hv.rules, hv.flap, fun r hr => hv.rule r (h.subset hr), distinct_iff.2 ((distinct_iff.1 hv.distinct).sublist h)⟩
theorem valid_drop {b : Sheet} (hv : Valid b) (s : Int) : Valid (dropB b s) := valid_sub hv (keep_sub b s)
def dropBad (o : Option (List Int)) (l : List Int) : Bool := o.isSome && (decide (((o.getD []).length : Nat) < ((l.length : Nat) : Int)) || ((((l.length : Nat) : Int) == (((o.getD []).length : Nat) : Int)) && decide (0 ≤ cmpZ l (o.getD []))))
def dropStep (b : Sheet) (o : Option (List Int)) (s : Nat) : Option (List Int) :=
  if dropBad o (outL (s : Nat) b.rules.length) = true then o else if foldsP (dropB b (s : Nat)) = true then some (outL (s : Nat) b.rules.length) else o
def dropF (b : Sheet) (n : Nat) : Option (List Int) := (List.range n).foldl (dropStep b) none
/-- The fewest rules that must go. -/
def dropP (b : Sheet) : List Int × Int := if askE b true = 0 then ((dropF b (2 ^ b.rules.length)).getD [], 0) else ([], askE b true)
theorem dropF_succ (b : Sheet) (n : Nat) : dropF b (n + 1) = dropStep b (dropF b n) n := by
  simp [dropF, List.range_succ]
theorem pow_wrap {n : Nat} (h : n ≤ 10) : IntKind.i64.wrap (1 * 2 ^ ((n : Nat) : Int).toNat) = ((2 ^ n : Nat) : Int) := by
  have h1 : 2 ^ n ≤ 1024 := Nat.pow_le_pow_right (n := 2) (by decide) h
  have h2 : (1 : Int) * 2 ^ ((n : Nat) : Int).toNat = ((2 ^ n : Nat) : Int) := by simp
  rw [h2]
  generalize 2 ^ n = q at h1
  exact wrap_in (by omega)
section
variable {w0 : Base} {Ds : List (World → Prop)} {w : World} {K X Y : Own}
theorem St.swapN (k : Nat) (hs : St w0 Ds K w) (hK : K = K.take k ++ (X ++ Y)) : St w0 Ds (K.take k ++ (Y ++ X)) w := by
  refine hs.perm ?_
  obtain ⟨T, hT⟩ : ∃ T, K.take k = T := ⟨_, rfl⟩
  rw [hT] at hK ⊢
  rw [hK]
  exact List.Perm.append_left _ List.perm_append_comm
theorem rd_single {α : Type} {enc : α → List Value} {x : α} {vs : List Value} {b : Nat} {e : TypeId} {fz : Nat × Nat} {sz : Nat} (he : enc x = vs) (hb : w.heap[b]? = some (.cells vs.toArray e fz)) : Rd enc sz (some ⟨b, 0, none⟩) 1 [x] w := by
  refine rd_of_block hb rfl (by omega) fun i y hy j u hu => ?_
  cases i with
  | zero =>
    simp at hy; subst hy
    rw [he] at hu
    simpa using hu
  | succ i => simp at hy
end
end Go.Proofs.YtjjcopeedcdokaaDoor

set_option linter.unusedVariables false
set_option linter.unusedSimpArgs false
namespace Go.Proofs.YtjjcopeedcdokaaDoor
theorem earlier_self : ∀ l : List Int, earlierB l l = false
  | [] => rfl
  | x :: l => by simp only [earlierB, if_true]; exact earlier_self l
theorem earlier_trans : ∀ {l m r : List Int}, earlierB l m = true → earlierB m r = true → earlierB l r = true
  | [], [], _, h, _ => by cases h
  | _ :: _, [], _, h, _ => by cases h
  | _, _ :: _, [], _, h => by cases h
  | [], _ :: _, _ :: _, _, _ => rfl
  | x :: l, y :: m, z :: r, h1, h2 => by
    simp only [earlierB] at h1 h2 ⊢
    by_cases e1 : x = y
    · subst e1
      rw [if_pos rfl] at h1
      by_cases e2 : x = z
      · subst e2; rw [if_pos rfl] at h2 ⊢; exact earlier_trans h1 h2
      · rw [if_neg e2] at h2 ⊢; exact h2
    · rw [if_neg e1] at h1
      by_cases e2 : y = z
      · subst e2; rw [if_neg e1]; exact h1
      · rw [if_neg e2] at h2; simp only [decide_eq_true_eq] at h1 h2; rw [if_neg (by omega)]; simp; omega
end Go.Proofs.YtjjcopeedcdokaaDoor

set_option linter.unusedVariables false
set_option linter.unusedSimpArgs false
namespace Go.Proofs.YtjjcopeedcdokaaDoor
section
variable {b : Sheet} {g : Int}
end
theorem valid_check {b : Sheet} (hv : Valid b) : checkB b = true := by
  have h1 := hv.wide; have h2 := hv.high; have h3 := hv.many; have h4 := hv.rules
  simp only [checkB, baseOK, Bool.and_eq_true, fitsB_iff, decide_eq_true_eq, List.all_eq_true, List.mem_range]
  refine ⟨⟨⟨⟨⟨h1, h2⟩, by omega⟩, by omega⟩, fun x hx => ?_⟩, fun i hi => ?_⟩
  · obtain ⟨s1, s2, s3, s4, s5, s6, s7, s8⟩ := hv.flap x hx
    unfold flapOK
    split <;> simp only [Bool.and_eq_true, fitsB_iff, spanB_iff] <;> omega
  · have hr := hv.rule _ (getD_mem (l := b.rules) (i := i) hi)
    simp only [ruleOK, Bool.and_eq_true, fitsB_iff, bne_iff_ne, Bool.not_eq_true', List.any_eq_false]
    refine ⟨⟨⟨⟨hr.1, by omega⟩, ⟨hr.2.2.1, by omega⟩⟩, hr.2.2.2.2⟩, fun s hs he => ?_⟩
    obtain ⟨j, hj, rfl⟩ := List.mem_take_iff_getElem.1 hs
    have hne := hv.distinct j i (by omega) hi
    rw [List.getD_eq_getElem?_getD (i := j), List.getElem?_eq_getElem (by omega), Option.getD_some] at hne
    simp only [sameR, Bool.and_eq_true, beq_iff_eq] at he
    apply hne
    have e1 := he.1; have e2 := he.2
    generalize b.rules.getD i default = x at e1 e2
    generalize b.rules[j] = y at e1 e2
    cases x; cases y; simp_all
end Go.Proofs.YtjjcopeedcdokaaDoor

set_option linter.unusedVariables false
set_option linter.unusedSimpArgs false
namespace Go.Proofs.YtjjcopeedcdokaaDoor
/-- The rules that a list does not name. -/
def unR (b : Sheet) (l : List Int) (n : Nat) : List Rule := ((List.range n).filter fun k => !decide (((k : Nat) : Int) ∈ l)).map fun k => b.rules.getD k default
def unB (b : Sheet) (l : List Int) : Sheet := { b with rules := unR b l b.rules.length }
theorem un_yes {b : Sheet} {l : List Int} {k : Nat} (h : ((k : Nat) : Int) ∉ l) : unR b l (k + 1) = unR b l k ++ [b.rules.getD k default] := by
  simp [unR, List.range_succ, h]
theorem un_no {b : Sheet} {l : List Int} {k : Nat} (h : ((k : Nat) : Int) ∈ l) : unR b l (k + 1) = unR b l k := by
  simp [unR, List.range_succ, h]
theorem un_le (b : Sheet) (l : List Int) (n : Nat) : (unR b l n).length ≤ n := by
  have := List.length_filter_le (fun k : Nat => !decide (((k : Nat) : Int) ∈ l)) (List.range n)
  simpa [unR] using this
theorem un_sub (b : Sheet) (l : List Int) : (unR b l b.rules.length).Sublist b.rules := by
  have h := (List.filter_sublist (p := fun k : Nat => !decide (((k : Nat) : Int) ∈ l)) (l := List.range b.rules.length)).map fun k => b.rules.getD k default
  rwa [map_getD] at h
theorem valid_un {b : Sheet} (hv : Valid b) (l : List Int) : Valid (unB b l) := valid_sub hv (un_sub b l)
end Go.Proofs.YtjjcopeedcdokaaDoor

set_option linter.unusedVariables false
set_option linter.unusedSimpArgs false
namespace Go.Proofs.YtjjcopeedcdokaaDoor
theorem mem_out {s : Int} {n : Nat} {x : Int} : x ∈ outL s n ↔ ∃ k, k < n ∧ bitI s k = true ∧ x = ((k : Nat) : Int) := by
  simp only [outL, List.mem_map, List.mem_filter, List.mem_range]
  constructor
  · rintro ⟨k, ⟨h1, h2⟩, rfl⟩; exact ⟨k, h1, h2, rfl⟩
  · rintro ⟨k, h1, h2, rfl⟩; exact ⟨k, ⟨h1, h2⟩, rfl⟩
theorem un_out (b : Sheet) (s : Int) : unB b (outL s b.rules.length) = dropB b s := by
  unfold unB dropB unR keepR
  congr 2
  apply List.filter_congr
  intro k hk
  have hk' := List.mem_range.1 hk
  congr 1
  rw [Bool.eq_iff_iff, decide_eq_true_eq, mem_out]
  constructor
  · rintro ⟨j, h1, h2, h3⟩
    obtain rfl : k = j := by omega
    exact h2
  · intro h; exact ⟨k, hk', h, rfl⟩
theorem out_grows (s : Int) (n : Nat) : growsB (outL s n) n = true := by
  have hs : (outL s n).Pairwise (· < ·) := by
    unfold outL
    rw [List.pairwise_map]
    exact (List.pairwise_lt_range.filter _).imp fun h => by omega
  refine grows_yes fun i hi => ?_
  obtain ⟨k, hk, _, he⟩ := mem_out.1 (getD_mem hi)
  simp only [growsAt, Bool.and_eq_true, fitsB_iff, Bool.or_eq_true, decide_eq_true_eq]
  refine ⟨by rw [he]; omega, ?_⟩
  by_cases e : i = 0
  · exact .inl e
  · right
    have := List.pairwise_iff_getElem.1 hs (i - 1) i (by omega) hi (by omega)
    rw [List.getD_eq_getElem?_getD, List.getD_eq_getElem?_getD, List.getElem?_eq_getElem hi, List.getElem?_eq_getElem (by omega)]
    exact this
def better (x y : List Int) : Bool := decide (x.length < y.length) || (decide (x.length = y.length) && earlierB x y)
theorem better_self (x : List Int) : better x x = false := by simp [better, earlier_self]
theorem better_trans {x y z : List Int} (h1 : better x y = true) (h2 : better y z = true) : better x z = true := by
  simp only [better, Bool.or_eq_true, Bool.and_eq_true, decide_eq_true_eq] at h1 h2 ⊢
  rcases h1 with h1 | ⟨h1, h3⟩ <;> rcases h2 with h2 | ⟨h2, h4⟩
  · left; omega
  · left; omega
  · left; omega
  · right; exact ⟨by omega, earlier_trans h3 h4⟩
theorem bad_some (l out : List Int) : dropBad (some l) out = !better out l := by
  simp only [dropBad, better, Option.isSome_some, Option.getD_some, Bool.true_and, cmpZ]
  have e1 : decide (((l.length : Nat) : Int) < ((out.length : Nat) : Int)) = decide (l.length < out.length) := by
    rw [Bool.eq_iff_iff]; simp
  have e2 : (((out.length : Nat) : Int) == ((l.length : Nat) : Int)) = decide (out.length = l.length) := by
    rw [Bool.eq_iff_iff]; simp; omega
  rw [e1, e2]
  cases he : earlierB out l with
  | true =>
    rw [if_pos rfl]
    rcases Nat.lt_trichotomy out.length l.length with h | h | h
    · simp [h, show ¬ l.length < out.length by omega]
    · simp [h]
    · simp [h, show ¬ out.length < l.length by omega, show ¬ out.length = l.length by omega]
  | false =>
    rw [if_neg (by decide)]
    have e3 : decide (0 ≤ (if out = l then (0 : Int) else 1)) = true := by split <;> rfl
    rw [e3]
    rcases Nat.lt_trichotomy out.length l.length with h | h | h
    · simp [h, show ¬ l.length < out.length by omega, show ¬ out.length = l.length by omega]
    · simp [h]
    · simp [h, show ¬ out.length < l.length by omega]
theorem drop_inv (b : Sheet) : ∀ n, (dropF b n = none ∧ ∀ s, s < n → foldsP (dropB b ((s : Nat) : Int)) = false) ∨
    ∃ t, t < n ∧ dropF b n = some (outL ((t : Nat) : Int) b.rules.length) ∧ foldsP (dropB b ((t : Nat) : Int)) = true ∧ ∀ s, s < n → foldsP (dropB b ((s : Nat) : Int)) = true → better (outL ((s : Nat) : Int) b.rules.length) (outL ((t : Nat) : Int) b.rules.length) = false
  | 0 => .inl ⟨rfl, fun s hs => absurd hs (by omega)⟩
  | n + 1 => by
    rw [dropF_succ]
    rcases drop_inv b n with ⟨h1, h2⟩ | ⟨t, ht, h1, h2, h3⟩
    · rw [h1]
      have e : dropBad none (outL ((n : Nat) : Int) b.rules.length) = false := rfl
      unfold dropStep
      rw [if_neg (by rw [e]; decide)]
      by_cases hf : foldsP (dropB b ((n : Nat) : Int)) = true
      · right
        rw [if_pos hf]
        refine ⟨n, by omega, rfl, hf, fun s hs hsf => ?_⟩
        by_cases e : s = n
        · subst e; exact better_self _
        · rw [h2 s (by omega)] at hsf; cases hsf
      · left
        rw [if_neg hf]
        refine ⟨rfl, fun s hs => ?_⟩
        by_cases e : s = n
        · subst e; simpa using hf
        · exact h2 s (by omega)
    · rw [h1]
      unfold dropStep
      rw [bad_some]
      cases hb : better (outL ((n : Nat) : Int) b.rules.length) (outL ((t : Nat) : Int) b.rules.length) with
      | false =>
        right
        rw [if_pos (show (!false) = true from rfl)]
        refine ⟨t, by omega, rfl, h2, fun s hs hsf => ?_⟩
        by_cases e : s = n
        · subst e; exact hb
        · exact h3 s (by omega) hsf
      | true =>
        right
        rw [if_neg (by decide)]
        by_cases hf : foldsP (dropB b ((n : Nat) : Int)) = true
        · rw [if_pos hf]
          refine ⟨n, by omega, rfl, hf, fun s hs hsf => ?_⟩
          by_cases e : s = n
          · subst e; exact better_self _
          · cases hbb : better (outL ((s : Nat) : Int) b.rules.length) (outL ((n : Nat) : Int) b.rules.length) with
            | false => rfl
            | true => have := h3 s (by omega) hsf; rw [better_trans hbb hb] at this; cases this
        · rw [if_neg hf]
          refine ⟨t, by omega, rfl, h2, fun s hs hsf => ?_⟩
          by_cases e : s = n
          · subst e; exact absurd hsf hf
          · exact h3 s (by omega) hsf
theorem all_bits : ∀ n, n ≤ 10 → ∀ k, k < n → bitI ((2 ^ n - 1 : Nat) : Int) k = true := by decide +kernel
theorem out_zero0 {n : Nat} (h : n ≤ 10) : outL 0 n = [] := by
  unfold outL
  have : (List.range n).filter (bitI 0) = [] := by
    rw [List.filter_eq_nil_iff]
    intro k hk
    rw [no_bits k (by have := List.mem_range.1 hk; omega)]; decide
  rw [this]; rfl
theorem folds_true {b : Sheet} (hv : Valid b) : foldsP b = true ↔ (ringP b).2 = 4 := by
  have hck := valid_check hv
  unfold foldsP
  rw [decide_eq_true_eq]
  rcases told_cases hck with ⟨_, _, ha, r, hr, _⟩ | ⟨l, rest, _, ha, _, hr, _⟩
  · rw [ha, hr]; simp
  · rw [ha, hr]; simp
theorem ring_ends {b : Sheet} (hv : Valid b) : (ringP b).2 = 4 ∨ (ringP b).2 = 0 := by
  rcases ring_cases (valid_check hv) with ⟨h, _⟩ | ⟨l, h, _⟩ <;> rw [h] <;> simp
/-- What the rules are that must go. -/
theorem drop_spec {b : Sheet} (hck : checkB b = true) : ∃ t, t < 2 ^ b.rules.length ∧ dropP b = (outL ((t : Nat) : Int) b.rules.length, 0) ∧ (ringP (dropB b ((t : Nat) : Int))).2 = 4 ∧ (∀ s, s < 2 ^ b.rules.length → better (outL ((s : Nat) : Int) b.rules.length) (outL ((t : Nat) : Int) b.rules.length) = true → (ringP (dropB b ((s : Nat) : Int))).2 = 0) ∧ (((outL ((t : Nat) : Int) b.rules.length).length : Nat) = 0 ↔ (ringP b).2 = 4) := by
  have hv := valid_of hck
  have hr := hv.rules
  have hpos : 0 < 2 ^ b.rules.length := Nat.two_pow_pos _
  have ha : askE b true = 0 := by simp [askE, hck]
  rcases drop_inv b (2 ^ b.rules.length) with ⟨_, h2⟩ | ⟨t, ht, h1, h2, h3⟩
  · exfalso
    have h4 := h2 (2 ^ b.rules.length - 1) (by omega)
    have hvd := valid_drop hv ((2 ^ b.rules.length - 1 : Nat) : Int)
    have hnone : (dropB b ((2 ^ b.rules.length - 1 : Nat) : Int)).rules = [] := by
      unfold dropB keepR
      have : (List.range b.rules.length).filter (fun k => !bitI ((2 ^ b.rules.length - 1 : Nat) : Int) k) = [] := by
        rw [List.filter_eq_nil_iff]
        intro k hk
        rw [all_bits _ hr k (List.mem_range.1 hk)]; decide
      rw [this]; rfl
    have hno : ∀ s, ¬ Ring (dropB b ((2 ^ b.rules.length - 1 : Nat) : Int)) s := by
      intro s hs
      obtain ⟨_, r, hr, _⟩ := overP_iff.1 hs.round
      rw [hnone] at hr; cases hr
    have := (folds_iff hvd).2 hno
    simp [foldsP, this] at h4
  · refine ⟨t, ht, by simp [dropP, ha, h1], (folds_true (valid_drop hv _)).1 h2, fun s hs hb => ?_, ?_⟩
    · rcases ring_ends (valid_drop hv ((s : Nat) : Int)) with h | h
      · have := h3 s hs ((folds_true (valid_drop hv _)).2 h)
        rw [hb] at this; cases this
      · exact h
    · constructor
      · intro h
        have e1 : outL ((t : Nat) : Int) b.rules.length = [] := List.eq_nil_of_length_eq_zero h
        have e2 : dropB b ((t : Nat) : Int) = b := by
          rw [← un_out, e1, ← out_zero0 hr, un_out, drop_zero hv]
        have := (folds_true (valid_drop hv _)).1 h2
        rwa [e2] at this
      · intro h
        have h5 := h3 0 hpos (by
          rw [show (((0 : Nat) : Nat) : Int) = 0 from rfl, drop_zero hv]; exact (folds_true hv).2 h)
        rw [show (((0 : Nat) : Nat) : Int) = 0 from rfl, out_zero0 hr] at h5
        simp only [better, Bool.or_eq_false_iff, decide_eq_false_iff_not, List.length_nil] at h5
        omega
end Go.Proofs.YtjjcopeedcdokaaDoor

set_option linter.unusedVariables false
set_option linter.unusedSimpArgs false
namespace Go.Proofs.YtjjcopeedcdokaaDoor
open Go.RowKit
theorem c_isNaN (x : Int) (w0 : World) :
    Calls Tryd.prog 129 #[.int .i64 x] w0 (Ret w0 (.bool false)) := by
  refine c_enter (n := 6) Tryd.func129 rfl rfl (Nat.le_of_ble_eq_true rfl) ?_; intro a hf; simp only [zipR] at hf
  have hs := St.start w0 [] (by simp)
  refine c_reg ?_
  refine gL hf (g_as hf rfl) (by decide) ?_; clear hf a; intro a hf
  refine e_nil ?_
  refine c_reg ?_
  refine gL hf (g_mv hf rfl) (by decide) ?_; clear hf a; intro a hf
  refine gL hf (g_mv hf rfl) (by decide) ?_; clear hf a; intro a hf
  refine gL hf (g_neq hf rfl rfl) (by decide) ?_; clear hf a; intro a hf
  refine gL hf (g_as hf rfl) (by decide) ?_; clear hf a; intro a hf
  refine e_nil ?_
  refine c_ret ?_
  refine e_ret1 hf rfl rfl ?_
  exact ⟨by simp, hs.below⟩

theorem c_cmp (x y : Int) (w0 : World) :
    Calls Tryd.prog 113 #[.int .i64 x, .int .i64 y] w0 (Ret w0 (.int .i64 (if x < y then -1 else if y < x then 1 else 0))) := by
  refine c_enter (n := 20) Tryd.func113 rfl rfl (Nat.le_of_ble_eq_true rfl) ?_; intro a hf; simp only [zipR] at hf
  have hs := St.start w0 [] (by simp)
  refine c_reg ?_
  refine gL hf (g_as hf rfl) (by decide) ?_; clear hf a; intro a hf
  refine e_nil ?_
  refine c_reg ?_
  refine gL hf (g_mv hf rfl) (by decide) ?_; clear hf a; intro a hf
  refine callL hf hs (c_isNaN _ _) rfl rfl rfl E129 (by decide) ?_; clear hs hf a; intro w a hs hf
  refine gL hf (g_as hf rfl) (by decide) ?_; clear hf a; intro a hf
  refine e_nil ?_
  refine c_reg ?_
  refine gL hf (g_mv hf rfl) (by decide) ?_; clear hf a; intro a hf
  refine callL hf hs (c_isNaN _ _) rfl rfl rfl E129 (by decide) ?_; clear hs hf a; intro w a hs hf
  refine gL hf (g_as hf rfl) (by decide) ?_; clear hf a; intro a hf
  refine e_nil ?_
  refine wp_seq ?_
  refine c_reg ?_
  refine gL hf (g_mv hf rfl) (by decide) ?_; clear hf a; intro a hf
  refine e_nil ?_
  refine c_cond hf rfl (fun hc1 => ?_) (fun hc1 => ?_)
  · try simp only [decide_eq_true_eq, decide_eq_false_iff_not] at hc1
    cases hc1
  · try simp only [decide_eq_true_eq, decide_eq_false_iff_not] at hc1
    refine c_skip (q_thenN ?_)
    refine wp_seq ?_
    refine c_reg ?_
    refine gL hf (g_mv hf rfl) (by decide) ?_; clear hf a; intro a hf
    refine e_nil ?_
    refine c_cond hf rfl (fun hc2 => ?_) (fun hc2 => ?_)
    · try simp only [decide_eq_true_eq, decide_eq_false_iff_not] at hc2
      cases hc2
    · try simp only [decide_eq_true_eq, decide_eq_false_iff_not] at hc2
      refine c_skip (q_thenN ?_)
      refine wp_seq ?_
      refine c_reg ?_
      refine gL hf (g_mv hf rfl) (by decide) ?_; clear hf a; intro a hf
      refine gL hf (g_mv hf rfl) (by decide) ?_; clear hf a; intro a hf
      refine gL hf (g_lss hf rfl rfl) (by decide) ?_; clear hf a; intro a hf
      refine e_nil ?_
      refine c_cond hf rfl (fun hc3 => ?_) (fun hc3 => ?_)
      · try simp only [decide_eq_true_eq, decide_eq_false_iff_not] at hc3
        refine c_reg ?_
        refine gL hf (g_as hf rfl) (by decide) ?_; clear hf a; intro a hf
        refine e_nil ?_
        refine c_ret (q_thenR ?_)
        refine e_ret1 hf rfl rfl ?_
        refine ⟨?_, hs.below⟩; repeat (first | rw [if_pos (by assumption)] | rw [if_neg (by omega)])
      · try simp only [decide_eq_true_eq, decide_eq_false_iff_not] at hc3
        refine c_skip (q_thenN ?_)
        refine wp_seq ?_
        refine c_reg ?_
        refine gL hf (g_mv hf rfl) (by decide) ?_; clear hf a; intro a hf
        refine gL hf (g_mv hf rfl) (by decide) ?_; clear hf a; intro a hf
        refine gL hf (g_gtr hf rfl rfl) (by decide) ?_; clear hf a; intro a hf
        refine e_nil ?_
        refine c_cond hf rfl (fun hc4 => ?_) (fun hc4 => ?_)
        · try simp only [decide_eq_true_eq, decide_eq_false_iff_not] at hc4
          refine c_reg ?_
          refine gL hf (g_as hf rfl) (by decide) ?_; clear hf a; intro a hf
          refine e_nil ?_
          refine c_ret (q_thenR ?_)
          refine e_ret1 hf rfl rfl ?_
          refine ⟨?_, hs.below⟩; repeat (first | rw [if_pos (by assumption)] | rw [if_neg (by omega)])
        · try simp only [decide_eq_true_eq, decide_eq_false_iff_not] at hc4
          refine c_skip (q_thenN ?_)
          refine c_reg ?_
          refine gL hf (g_as hf rfl) (by decide) ?_; clear hf a; intro a hf
          refine e_nil ?_
          refine c_ret ?_
          refine e_ret1 hf rfl rfl ?_
          refine ⟨?_, hs.below⟩; repeat (first | rw [if_pos (by assumption)] | rw [if_neg (by omega)])

end Go.Proofs.YtjjcopeedcdokaaDoor

set_option linter.unusedVariables false
set_option linter.unusedSimpArgs false
namespace Go.Proofs.YtjjcopeedcdokaaDoor
open Go.RowKit
theorem c_folds (b : Sheet) (fA : Option Addr) (fc : Nat) (rA : Option Addr) (rc : Nat) (mb : Nat) (mp : MP) (w0 : World) (hv : Valid b) (h : ShIn b fA fc rA rc w0) (hM : MapIs mb mp w0) :
    Calls Tryd.prog 79 #[.agg #[.int .i64 b.wide, .int .i64 b.high, .slice fA b.flaps.length fc, .slice rA b.rules.length rc, .map (some mb)]] w0 (Ret w0 (.bool (decide (allOrds b mp ≠ [])))) := by
  refine c_enterM (n := 6) Tryd.func79 rfl rfl (Nat.le_of_ble_eq_true rfl) ?_; intro a hf; simp only [zipR] at hf
  have hs := St.start w0 [Rd encF 5 fA b.flaps.length b.flaps, Rd encR 2 rA b.rules.length b.rules, MapIs mb mp] (stab_app h.stab hM.st1)
  have hfm := h.F.2.1; have hrm := h.R.2.1
  refine c_reg ?_
  refine vL hf (v_boxA hf hs rfl) (by decide) ?_; clear hs hf a; rintro _ w ⟨b1, rfl, hs⟩ a hf
  refine vL hf (v_alloc hs T4 rfl) (by decide) ?_; clear hs hf a; rintro _ w ⟨b2, rfl, hs⟩ a hf
  refine e_nil ?_
  refine wp_seq ?_
  refine c_reg ?_
  refine gL hf (g_ldW hf hs T80 rfl (k := 1) rfl rfl) (by decide) ?_; clear hf a; intro a hf
  refine callX hf hs (c_orders b fA fc rA rc mb _) rfl rfl rfl E69 (by decide) ?_; intro v w1 a hR hb hs1 hf; obtain ⟨bs, rfl, hbs, hbi⟩ := hR; replace hs := hs.fresh hs1 (blkFresh hbs hbi); clear hs1 hb
  refine e_nil ?_
  refine c_block ?_
  refine c_rangeS (τ := Unit) hf hs rfl E105 (by decide) (seqL_of (b := b) (mp := mp) hv hs (.tail _ (.head _)) (.tail _ (.tail _ (.head _))) (.tail _ (.tail _ (.tail _ (.head _)))) (.head _) h.fc_ h.rc_) rfl (fun pre => pre = []) (fun pre => [(b2, .cells #[.bool false] 4 (0, 0)), (b1, .cells #[.int .i64 b.wide, .int .i64 b.high, .slice fA b.flaps.length fc, .slice rA b.rules.length rc, .map (some mb)] 80 (0, 0))]) (fun t pre => True) (fun t pre => []) (fun t pre => [(b2, .cells #[.bool true] 4 (0, 0)), (b1, .cells #[.int .i64 b.wide, .int .i64 b.high, .slice fA b.flaps.length fc, .slice rA b.rules.length rc, .map (some mb)] 80 (0, 0))]) rfl rfl (fun _ => rfl) (fun _ _ => rfl) ?body ?done ?stop
  case body =>
    clear hf hs; intro l pre x A c W a E hE hpre hIp hxc hA hf hs
    refine r_block ?_
    refine r_reg rfl ?_
    refine uL (u_st hf hs T4 rfl rfl rfl (k := 0) rfl (Nat.le_of_ble_eq_true rfl)) ?_; clear hs; intro w hs; dsimp only [List.set] at hs
    refine e_nilJ ?_
    refine r_ret (q_blkR ?_)
    exact ⟨(), (hs.dropN 0).subD (fun _ h => by cases h), trivial⟩
  case done =>
    clear hf hs; intro D a w hf hIp hs; dsimp only [List.cons_append, List.nil_append] at hs
    refine q_blkN (q_thenN ?_)
    refine c_reg ?_
    refine uL (u_st hf hs T4 rfl rfl rfl (k := 0) rfl (Nat.le_of_ble_eq_true rfl)) ?_; clear hs; intro w hs; dsimp only [List.set] at hs
    refine e_nil ?_
    refine c_ret ?_
    refine outMR 2 hf hs rfl rfl (.cell1 T4 rfl (k := 0) rfl rfl .nil) rfl ?_; clear hs; intro w hs
    exact ⟨by rw [hIp]; rfl, hs.below⟩
  case stop =>
    clear hf hs; intro D t pre a w hne hpre hIx hf hs; dsimp only [List.cons_append, List.nil_append] at hs
    refine q_blkR (q_thenR ?_)
    refine outMR 2 hf hs rfl rfl (.cell1 T4 rfl (k := 0) rfl rfl .nil) rfl ?_; clear hs; intro w hs
    have hne2 : allOrds b mp ≠ [] := fun e => hne (by rw [e] at hpre; exact List.prefix_nil.1 hpre)
    exact ⟨by rw [decide_eq_true hne2]; rfl, hs.below⟩

end Go.Proofs.YtjjcopeedcdokaaDoor

set_option linter.unusedVariables false
set_option linter.unusedSimpArgs false
namespace Go.Proofs.YtjjcopeedcdokaaDoor
open Go.RowKit
theorem c_Compare (Ax : Option Addr) (cx : Nat) (x : List Int) (Ay : Option Addr) (cy : Nat) (y : List Int)  (w0 : World) (hx : Rd encI 1 Ax x.length x w0) (hy : Rd encI 1 Ay y.length y w0) :
    Calls Tryd.prog 78 #[.slice Ax x.length cx, .slice Ay y.length cy] w0 (Ret w0 (.int .i64 (cmpZ x y))) := by
  refine c_enter (n := 36) Tryd.func78 rfl rfl (Nat.le_of_ble_eq_true rfl) ?_; intro a hf; simp only [zipR] at hf
  have hs := St.start w0 [Rd encI 1 Ax x.length x, Rd encI 1 Ay y.length y] (stab_app hx.st1 hy.st1)
  have hmx := hx.2.1
  have hmy := hy.2.1
  refine c_reg ?_
  refine gL hf (g_as hf rfl) (by decide) ?_; clear hf a; intro a hf
  refine e_nil ?_
  refine wp_seq ?_
  refine c_reg ?_
  refine gL hf (g_mv hf rfl) (by decide) ?_; clear hf a; intro a hf
  refine gL hf (g_len hf SL31 rfl) (by decide) ?_; clear hf a; intro a hf
  refine gL hf (g_mv hf rfl) (by decide) ?_; clear hf a; intro a hf
  refine e_nil ?_
  refine c_block ?_
  refine c_loop hf hs (List.range' 4 5 ++ List.range' 11 20) (σ := Nat) (fun k => [(11, .int .i64 (k : Nat))]) (fun k => _) (fun k => k ≤ x.length ∧ k ≤ y.length ∧ ∀ j, j < k → x.getD j default = y.getD j default) (fun k => x.length - k) 0 ⟨by omega, by omega, fun z hz => absurd hz (by omega)⟩ (.cons rfl .nil) rfl ?_
  intro k a w hJ hf hs
  obtain ⟨hk, hk2, hp⟩ := hJ
  refine c_reg ?_
  refine gL hf (g_lss hf rfl rfl) (by decide) ?_; clear hf a; intro a hf
  refine e_nil ?_
  refine c_condS hf rfl (fun hc1 => ?_) (fun hc1 => ?_)
  · try simp only [decide_eq_true_eq, decide_eq_false_iff_not] at hc1
    refine c_skip (q_thenN ?_)
    refine c_blockS ?_
    refine c_reg ?_
    refine gL hf (g_mv hf rfl) (by decide) ?_; clear hf a; intro a hf
    (first | (refine gL hf (g_ixE hf hs (.head _) SL31 rfl rfl (by omega)) (by decide) ?_) | (refine gL hf (g_ixD hf hs (.head _) SL31 rfl rfl (by omega)) (by decide) ?_)); clear hf a; intro a hf
    refine gL hf (g_ldE hf hs (.head _) T3 rfl rfl (by omega)) (by decide) ?_; clear hf a; intro a hf
    refine gL hf (g_as hf rfl) (by decide) ?_; clear hf a; intro a hf
    refine gL hf (g_as hf rfl) (by decide) ?_; clear hf a; intro a hf
    refine e_nil ?_
    refine wp_seq ?_
    refine c_reg ?_
    refine gL hf (g_mv hf rfl) (by decide) ?_; clear hf a; intro a hf
    refine gL hf (g_mv hf rfl) (by decide) ?_; clear hf a; intro a hf
    refine gL hf (g_len hf SL31 rfl) (by decide) ?_; clear hf a; intro a hf
    refine gL hf (g_geq hf rfl rfl) (by decide) ?_; clear hf a; intro a hf
    refine e_nil ?_
    refine c_cond hf rfl (fun hc2 => ?_) (fun hc2 => ?_)
    · try simp only [decide_eq_true_eq, decide_eq_false_iff_not] at hc2
      refine c_reg ?_
      refine gL hf (g_as hf rfl) (by decide) ?_; clear hf a; intro a hf
      refine e_nil ?_
      refine c_ret (q_thenR (q_blkR (q_thenR (q_thenR (q_blkR (q_thenR ?_))))))
      refine e_ret1 hf rfl rfl ?_
      exact ⟨by rw [cmp_long (k := k) (by omega) (by omega) hp], hs.below⟩
    · try simp only [decide_eq_true_eq, decide_eq_false_iff_not] at hc2
      refine c_skip (q_thenN ?_)
      refine c_reg ?_
      refine gL hf (g_mv hf rfl) (by decide) ?_; clear hf a; intro a hf
      refine gL hf (g_mv hf rfl) (by decide) ?_; clear hf a; intro a hf
      (first | (refine gL hf (g_ixE hf hs (.tail _ (.head _)) SL31 rfl rfl (by omega)) (by decide) ?_) | (refine gL hf (g_ixD hf hs (.tail _ (.head _)) SL31 rfl rfl (by omega)) (by decide) ?_)); clear hf a; intro a hf
      refine gL hf (g_ldE hf hs (.tail _ (.head _)) T3 rfl rfl (by omega)) (by decide) ?_; clear hf a; intro a hf
      refine gL hf (g_as hf rfl) (by decide) ?_; clear hf a; intro a hf
      refine e_nil ?_
      refine c_reg ?_
      refine gL hf (g_mv hf rfl) (by decide) ?_; clear hf a; intro a hf
      refine gL hf (g_mv hf rfl) (by decide) ?_; clear hf a; intro a hf
      refine callL hf hs (c_cmp _ _ _) rfl rfl rfl E113 (by decide) ?_; clear hs hf a; intro w a hs hf
      refine gL hf (g_as hf rfl) (by decide) ?_; clear hf a; intro a hf
      refine e_nil ?_
      refine c_reg ?_
      refine gL hf (g_mv hf rfl) (by decide) ?_; clear hf a; intro a hf
      refine gL hf (g_neq hf rfl rfl) (by decide) ?_; clear hf a; intro a hf
      refine e_nil ?_
      refine c_cond hf rfl (fun hc3 => ?_) (fun hc3 => ?_)
      · skip
        have hne : x.getD k default ≠ y.getD k default := fun e => by rw [e] at hc3; simp at hc3
        refine c_reg ?_
        refine gL hf (g_mv hf rfl) (by decide) ?_; clear hf a; intro a hf
        refine gL hf (g_as hf rfl) (by decide) ?_; clear hf a; intro a hf
        refine e_nil ?_
        refine c_ret (q_blkR (q_thenR (q_thenR (q_blkR (q_thenR ?_)))))
        refine e_ret1 hf rfl rfl ?_
        exact ⟨by rw [cmp_at (by omega) (by omega) hp hne], hs.below⟩
      · skip
        have heq : x.getD k default = y.getD k default := by
              rcases Int.lt_trichotomy (x.getD k default) (y.getD k default) with h | h | h
              · rw [if_pos h] at hc3; simp at hc3
              · exact h
              · rw [if_neg (by omega), if_pos h] at hc3; simp at hc3
        refine c_skip (q_blkN (q_thenN ?_))
        refine c_reg1 ?_
        refine gL hf (g_addI hf rfl rfl (by omega)) (by decide) ?_; clear hf a; intro a hf
        refine gL hf (g_mv hf rfl) (by decide) ?_; clear hf a; intro a hf
        refine e_nil1 (q_thenN ?_)
        exact ⟨k + 1, ⟨by omega, by omega, lt_succ hp heq⟩, (by omega), hf.back (by repeat (first | (with_reducible exact Ext.base) | ((with_reducible refine Ext.cons ?_ ?_); (· rfl)) | ((with_reducible refine Ext.over ?_ ?_ ?_); (· rfl); (· rfl)))) (allKeys rfl) (.cons rfl .nil), hs.dropN 0⟩
  · try simp only [decide_eq_true_eq, decide_eq_false_iff_not] at hc1
    obtain rfl : k = x.length := by omega
    refine c_exit (q_thenX (q_thenX (q_blkX (q_thenN ?_))))
    refine wp_seq ?_
    refine c_reg ?_
    refine gL hf (g_mv hf rfl) (by decide) ?_; clear hf a; intro a hf
    refine gL hf (g_len hf SL31 rfl) (by decide) ?_; clear hf a; intro a hf
    refine gL hf (g_mv hf rfl) (by decide) ?_; clear hf a; intro a hf
    refine gL hf (g_len hf SL31 rfl) (by decide) ?_; clear hf a; intro a hf
    refine gL hf (g_lss hf rfl rfl) (by decide) ?_; clear hf a; intro a hf
    refine e_nil ?_
    refine c_cond hf rfl (fun hc4 => ?_) (fun hc4 => ?_)
    · try simp only [decide_eq_true_eq, decide_eq_false_iff_not] at hc4
      refine c_reg ?_
      refine gL hf (g_as hf rfl) (by decide) ?_; clear hf a; intro a hf
      refine e_nil ?_
      refine c_ret (q_thenR ?_)
      refine e_ret1 hf rfl rfl ?_
      exact ⟨by rw [cmp_end hk2 hp, if_pos (by omega)], hs.below⟩
    · try simp only [decide_eq_true_eq, decide_eq_false_iff_not] at hc4
      refine c_skip (q_thenN ?_)
      refine c_reg ?_
      refine gL hf (g_as hf rfl) (by decide) ?_; clear hf a; intro a hf
      refine e_nil ?_
      refine c_ret ?_
      refine e_ret1 hf rfl rfl ?_
      exact ⟨by rw [cmp_end hk2 hp, if_neg (by omega)], hs.below⟩

end Go.Proofs.YtjjcopeedcdokaaDoor

set_option linter.unusedVariables false
set_option linter.unusedSimpArgs false
namespace Go.Proofs.YtjjcopeedcdokaaDoor
open Go.RowKit
theorem c_Drop (b : Sheet) (fA : Option Addr) (fc : Nat) (rA : Option Addr) (rc : Nat) (ge : TypeId) (gz : Nat × Nat)  (w0 : World) (h : ShIn b fA fc rA rc w0) (hG : BlkIs 1 sidesA ge gz w0) :
    Calls Tryd.prog 28 #[.agg #[.int .i64 b.wide, .int .i64 b.high, .slice fA b.flaps.length fc, .slice rA b.rules.length rc]] w0 (RetX w0 (fun v w0' => ∃ A c, v = .tuple #[.slice A (dropP b).1.length c, .int .i64 (dropP b).2] ∧ Out (dropP b).1 A c w0 w0')) := by
  refine c_enter (n := 88) Tryd.func28 rfl rfl (Nat.le_of_ble_eq_true rfl) ?_; intro a hf; simp only [zipR] at hf
  have hs := St.start w0 [Rd encF 5 fA b.flaps.length b.flaps, Rd encR 2 rA b.rules.length b.rules, BlkIs 1 sidesA ge gz] (stab_app h.stab hG.st1)
  have hfm := h.F.2.1; have hrm := h.R.2.1
  refine c_reg ?_
  refine vL hf (v_boxA hf hs rfl) (by decide) ?_; clear hs hf a; rintro _ w ⟨b1, rfl, hs⟩ a hf
  refine gL hf (g_as hf rfl) (by decide) ?_; clear hf a; intro a hf
  refine gL hf (g_as hf rfl) (by decide) ?_; clear hf a; intro a hf
  refine e_nil ?_
  refine c_reg ?_
  refine gL hf (g_ldW hf hs T25 rfl (k := 0) rfl rfl) (by decide) ?_; clear hf a; intro a hf
  refine callX hf hs (c_asked b _ _ _ _ _ _ true _ ⟨hs.rd (.head _), hs.rd (.tail _ (.head _)), h.fc_, h.rc_⟩ (hs.rd (.tail _ (.tail _ (.head _))))) rfl rfl rfl E65 (by decide) ?_; intro v w1 a hR hb hs1 hf; obtain ⟨cs, mb, mp, rfl, hcl, hcp, hcm⟩ := hR; replace hs := hs.fresh hs1 (condFresh fun he => (hcm he).2.2); clear hs1 hb
  refine gL hf (g_mv hf rfl) (by decide) ?_; clear hf a; intro a hf
  refine gL hf (g_ext hf rfl rfl) (by decide) ?_; clear hf a; intro a hf
  refine gL hf (g_ext hf rfl rfl) (by decide) ?_; clear hf a; intro a hf
  refine vL hf (v_alloc hs T80 rfl) (by decide) ?_; clear hs hf a; rintro _ w ⟨b2, rfl, hs⟩ a hf
  refine uL (u_stW hf hs T80 rfl rfl hcp (k := 0) rfl hcl hcl) ?_; clear hs; intro w hs; dsimp only [List.set] at hs
  refine gL hf (g_as hf rfl) (by decide) ?_; clear hf a; intro a hf
  refine e_nil ?_
  refine wp_seq ?_
  refine c_reg ?_
  refine gL hf (g_mv hf rfl) (by decide) ?_; clear hf a; intro a hf
  refine gL hf (g_neq hf rfl rfl) (by decide) ?_; clear hf a; intro a hf
  refine e_nil ?_
  refine c_cond hf rfl (fun hc1 => ?_) (fun hc1 => ?_)
  · try simp only [decide_eq_true_eq, decide_eq_false_iff_not] at hc1
    have he : ¬ askE b true = 0 := by simpa using hc1
    refine c_reg ?_
    refine gL hf (g_mv hf rfl) (by decide) ?_; clear hf a; intro a hf
    refine gL hf (g_as hf rfl) (by decide) ?_; clear hf a; intro a hf
    refine gL hf (g_as hf rfl) (by decide) ?_; clear hf a; intro a hf
    refine e_nil ?_
    refine c_ret (q_thenR ?_)
    refine e_ret2 hf rfl rfl rfl ?_
    have hor : dropP b = ([], askE b true) := by simp only [dropP, if_neg he]
    exact ⟨_, rfl, hs.below, none, 0, by rw [hor]; rfl, by rw [hor]; exact ⟨Nat.le_refl _, rd_nil, fun b o e => by cases e⟩⟩
  · try simp only [decide_eq_true_eq, decide_eq_false_iff_not] at hc1
    have he : askE b true = 0 := by simpa using hc1
    obtain ⟨rfl, hmo, _, _⟩ := hcm he
    replace hs := hs.un (fun w h => h he)
    have hok := askE_zero he
    have hv := valid_of hok.1
    have hall := allOrds_eq hv hmo
    have hmany := hv.many
    have hrl := hv.rules
    have hpw : 2 ^ b.rules.length ≤ 1024 := Nat.pow_le_pow_right (n := 2) (by decide) hrl
    refine c_skip (q_thenN ?_)
    refine c_reg ?_
    refine gL hf (g_as hf rfl) (by decide) ?_; clear hf a; intro a hf
    refine e_nil ?_
    refine c_reg ?_
    refine gL hf (g_as hf rfl) (by decide) ?_; clear hf a; intro a hf
    refine e_nil ?_
    refine wp_seq ?_
    refine c_reg ?_
    refine gL hf (g_fa (off' := 3) hf F25_3 rfl rfl) (by decide) ?_; clear hf a; intro a hf
    refine gL hf (g_ld hf hs T23 rfl (k := 1) rfl rfl) (by decide) ?_; clear hf a; intro a hf
    refine gL hf (g_len hf SL23 rfl) (by decide) ?_; clear hf a; intro a hf
    refine gL hf (g_shl hf rfl rfl (by omega)) (by decide) ?_; clear hf a; intro a hf
    refine gL hf (g_mv hf rfl) (by decide) ?_; clear hf a; intro a hf
    refine e_nil ?_
    refine c_block ?_
    rw [pow_wrap hrl] at hf
    replace hs := hs.addD (D := Rd encI 1 none 0 []) (rd_nil.stable (fun b off e => by cases e))
    refine c_loopD (fun s => Base.of w0) (fun s => Rd encI 1 s.2.1 (s.2.2.2.getD []).length (s.2.2.2.getD []) :: MapIs mb mp :: Rd encF 5 fA b.flaps.length b.flaps :: Rd encR 2 rA b.rules.length b.rules :: BlkIs 1 sidesA ge gz :: []) hf (List.range' 6 7 ++ List.range' 25 57) (σ := (Nat × Option Addr × Nat × Option (List Int))) (fun s => [(6, .slice s.2.1 (s.2.2.2.getD []).length s.2.2.1), (7, .bool s.2.2.2.isSome), (25, .int .i64 (s.1 : Nat))]) (fun s => _) (fun s => s.1 ≤ 2 ^ b.rules.length ∧ s.2.2.2 = dropF b s.1 ∧ (s.2.2.2.getD []).length ≤ s.2.2.1 ∧ (s.2.2.2.getD []).length ≤ 10 ∧ ∀ bk off, s.2.1 = some ⟨bk, off, none⟩ → w0.heap.size ≤ bk) (fun s => 2 ^ b.rules.length - s.1) (0, none, 0, none) hs ⟨Nat.zero_le _, rfl, Nat.le_refl _, Nat.zero_le _, fun bk off e => by cases e⟩ (.cons rfl (.cons rfl (.cons rfl .nil))) ?_
    intro ⟨k, Ab, cb, ob⟩ a w hJ hf hs
    dsimp only at hJ hf hs
    obtain ⟨hk1, hob, hcb, hl10, hAb⟩ := hJ
    refine c_reg ?_
    refine gL hf (g_lss hf rfl rfl) (by decide) ?_; clear hf a; intro a hf
    refine e_nil ?_
    refine c_condS hf rfl (fun hc2 => ?_) (fun hc2 => ?_)
    · try simp only [decide_eq_true_eq, decide_eq_false_iff_not] at hc2
      refine c_skip (q_thenN ?_)
      refine c_blockS ?_
      refine c_reg ?_
      refine gL hf (g_mv hf rfl) (by decide) ?_; clear hf a; intro a hf
      refine gL hf (g_as hf rfl) (by decide) ?_; clear hf a; intro a hf
      refine e_nil ?_
      refine c_reg ?_
      refine gL hf (g_ldW hf hs T80 rfl (k := 0) rfl rfl) (by decide) ?_; clear hf a; intro a hf
      refine vL hf (v_alloc hs T80 rfl) (by decide) ?_; clear hs hf a; rintro _ w ⟨b3, rfl, hs⟩ a hf
      refine uL (u_stW hf hs T80 rfl rfl rfl (k := 0) rfl rfl rfl) ?_; clear hs; intro w hs; dsimp only [List.set] at hs
      refine e_nil ?_
      refine c_reg ?_
      refine gL hf (g_fa (off' := 0) hf F80_0 rfl rfl) (by decide) ?_; clear hf a; intro a hf
      refine gL hf (g_fa (off' := 3) hf F25_3 rfl rfl) (by decide) ?_; clear hf a; intro a hf
      refine uL (u_st hf hs T23 rfl rfl rfl (k := 0) rfl (Nat.le_of_ble_eq_true rfl)) ?_; clear hs; intro w hs; dsimp only [List.set] at hs
      refine e_nil ?_
      refine c_reg ?_
      refine gL hf (g_as hf rfl) (by decide) ?_; clear hf a; intro a hf
      refine e_nil ?_
      refine wp_seq ?_
      refine c_reg ?_
      refine gL hf (g_fa (off' := 3) hf F25_3 rfl rfl) (by decide) ?_; clear hf a; intro a hf
      refine gL hf (g_ld hf hs T23 rfl (k := 2) rfl rfl) (by decide) ?_; clear hf a; intro a hf
      refine gL hf (g_len hf SL23 rfl) (by decide) ?_; clear hf a; intro a hf
      refine gL hf (g_mv hf rfl) (by decide) ?_; clear hf a; intro a hf
      refine e_nil ?_
      refine c_block ?_
      refine c_loop hf hs (List.range' 10 3 ++ List.range' 34 23) (σ := (Nat × Acc × Acc)) (fun s => [(10, accV 1 (outL ((k : Nat) : Int) s.1).length s.2.1), (34, .int .i64 (s.1 : Nat))]) (fun s => (b3, .cells #[.int .i64 b.wide, .int .i64 b.high, .slice fA b.flaps.length fc, accV 2 (keepR b ((k : Nat) : Int) s.1).length s.2.2, .map (some mb)] 80 (0, 0)) :: (b2, .cells (sh5 b fA fc rA rc mb).toArray 80 (0, 0)) :: (b1, .cells #[.int .i64 b.wide, .int .i64 b.high, .slice fA b.flaps.length fc, .slice rA b.rules.length rc] 25 (0, 0)) :: (accH 3 s.2.1 ++ accH 51 s.2.2)) (fun s => s.1 ≤ b.rules.length ∧ AccOK encI 1 (outL ((k : Nat) : Int) s.1) s.2.1 ∧ AccOK encR 2 (keepR b ((k : Nat) : Int) s.1) s.2.2) (fun s => b.rules.length - s.1) (0, none, none) ⟨Nat.zero_le _, rfl, rfl⟩ (.cons rfl (.cons rfl .nil)) rfl ?_
      intro ⟨j, oa, oy⟩ a w hJ hf hs
      dsimp only at hJ hf hs
      obtain ⟨hj, hoa, hoy⟩ := hJ
      refine c_reg ?_
      refine gL hf (g_lss hf rfl rfl) (by decide) ?_; clear hf a; intro a hf
      refine e_nil ?_
      refine c_condS hf rfl (fun hc3 => ?_) (fun hc3 => ?_)
      · try simp only [decide_eq_true_eq, decide_eq_false_iff_not] at hc3
        have hj9 : j < b.rules.length := by omega
        have hkl := keep_le b ((k : Nat) : Int) j; have hol := out_le ((k : Nat) : Int) j
        refine c_skip (q_thenN ?_)
        refine c_blockS ?_
        refine c_reg ?_
        refine gL hf (g_mv hf rfl) (by decide) ?_; clear hf a; intro a hf
        (first | (refine gL hf (g_ixE hf hs (.tail _ (.tail _ (.tail _ (.head _)))) SL23 rfl rfl (by omega)) (by decide) ?_) | (refine gL hf (g_ixD hf hs (.tail _ (.tail _ (.tail _ (.head _)))) SL23 rfl rfl (by omega)) (by decide) ?_)); clear hf a; intro a hf
        refine gL hf (g_ldEW hf hs (.tail _ (.tail _ (.tail _ (.head _)))) T51 rfl rfl (by omega)) (by decide) ?_; clear hf a; intro a hf
        refine vL hf (v_alloc hs T51 rfl) (by decide) ?_; clear hs hf a; rintro _ w ⟨b4, rfl, hs⟩ a hf
        refine gL hf (g_as hf rfl) (by decide) ?_; clear hf a; intro a hf
        refine uL (u_stW hf hs T51 rfl rfl rfl (k := 0) rfl rfl rfl) ?_; clear hs; intro w hs; dsimp only [List.set] at hs
        refine e_nil ?_
        refine c_reg ?_
        refine gL hf (g_mv hf rfl) (by decide) ?_; clear hf a; intro a hf
        refine gL hf (g_mv hf rfl) (by decide) ?_; clear hf a; intro a hf
        refine gL hf (g_shr hf rfl rfl (by omega)) (by decide) ?_; clear hf a; intro a hf
        refine gL hf (g_band hf rfl rfl) (by decide) ?_; clear hf a; intro a hf
        refine gL hf (g_eql hf rfl rfl) (by decide) ?_; clear hf a; intro a hf
        refine e_nil ?_
        refine c_cond hf rfl (fun hc4 => ?_) (fun hc4 => ?_)
        · skip
          have hc4 : bitI ((k : Nat) : Int) j = true := hc4
          refine c_reg1 ?_
          refine gL hf (g_mv hf rfl) (by decide) ?_; clear hf a; intro a hf
          refine gL hf (g_mv hf rfl) (by decide) ?_; clear hf a; intro a hf
          refine vL hf (v_lits (len := 1) hf hs SL31 T3 (.cons rfl .nil) rfl rfl rfl rfl (by decide) rfl) (by decide) ?_; clear hs hf a; rintro _ w ⟨b5, rfl, hs⟩ a hf
          refine vL hf (v_accN (e := 3) (R := accH 51 oy) (o := oa) hf 5 hs rfl hoa AP31 (enc := encI) (l := (outL ((k : Nat) : Int) j)) (l' := [((j : Nat) : Int)]) (fun _ => rfl) (by decide) (by intro x v hv9; rw [List.mem_singleton.1 hv9]; rfl) rfl rfl rfl (rd_one rfl (hs.own _ _ (.head _)).2) (by omega) (by decide)) (by decide) ?_; clear hs hf a; rintro _ w ⟨oa2, rfl, hoa2, hs⟩ a hf; dsimp only [List.take, List.cons_append, List.nil_append] at hs
          rw [show (outL ((k : Nat) : Int) j).length + 1 = (outL ((k : Nat) : Int) (j + 1)).length by rw [out_yes hc4, List.length_append]; rfl] at hf
          rw [← out_yes hc4] at hoa2; rw [← keep_yes (b := b) hc4] at hs hoy
          refine gL hf (g_as hf rfl) (by decide) ?_; clear hf a; intro a hf
          refine e_nil1 (q_blkN (q_thenN ?_))
          refine c_reg1 ?_
          refine gL hf (g_addI hf rfl rfl (by omega)) (by decide) ?_; clear hf a; intro a hf
          refine gL hf (g_mv hf rfl) (by decide) ?_; clear hf a; intro a hf
          refine e_nil1 (q_thenN ?_)
          first | exact ⟨(j + 1, oa2, oy), ⟨by dsimp only; omega, hoa2, hoy⟩, (by dsimp only; omega), hf.back (by repeat (first | (with_reducible exact Ext.base) | ((with_reducible refine Ext.cons ?_ ?_); (· rfl)) | ((with_reducible refine Ext.over ?_ ?_ ?_); (· rfl); (· rfl)))) (allKeys rfl) (.cons rfl (.cons rfl .nil)), hs.dropN 2⟩ | exact ⟨(j + 1, oa, oy2), ⟨by dsimp only; omega, hoa, hoy2⟩, (by dsimp only; omega), hf.back (by repeat (first | (with_reducible exact Ext.base) | ((with_reducible refine Ext.cons ?_ ?_); (· rfl)) | ((with_reducible refine Ext.over ?_ ?_ ?_); (· rfl); (· rfl)))) (allKeys rfl) (.cons rfl (.cons rfl .nil)), hs.dropN 2⟩
        · skip
          have hc4 : bitI ((k : Nat) : Int) j = false := hc4
          refine c_reg1 ?_
          refine gL hf (g_fa (off' := 0) hf F80_0 rfl rfl) (by decide) ?_; clear hf a; intro a hf
          refine gL hf (g_fa (off' := 3) hf F25_3 rfl rfl) (by decide) ?_; clear hf a; intro a hf
          refine gL hf (g_ld hf hs T23 rfl (k := 1) rfl rfl) (by decide) ?_; clear hf a; intro a hf
          refine gL hf (g_ldW hf hs T51 rfl (k := 0) rfl rfl) (by decide) ?_; clear hf a; intro a hf
          refine vL hf (v_lits (len := 1) hf hs SL23 T51 (.cons rfl .nil) rfl rfl rfl rfl (by decide) rfl) (by decide) ?_; clear hs hf a; rintro _ w ⟨b5, rfl, hs⟩ a hf
          replace hs := hs.swapN (X := accH 3 oa) (Y := accH 51 oy) 5 rfl; dsimp only [List.take, List.cons_append, List.nil_append] at hs
          refine vL hf (v_accN (e := 51) (R := accH 3 oa) (o := oy) hf 5 hs rfl hoy AP23 (enc := encR) (l := (keepR b ((k : Nat) : Int) j)) (l' := [b.rules.getD j default]) (fun _ => rfl) (by decide) (by intro x v hv9; simp only [encR, List.mem_cons, List.not_mem_nil, or_false] at hv9; rcases hv9 with rfl | rfl <;> rfl) rfl rfl rfl (rd_single (enc := encR) rfl (hs.own _ _ (.head _)).2) (by omega) (by decide)) (by decide) ?_; clear hs hf a; rintro _ w ⟨oy2, rfl, hoy2, hs⟩ a hf; dsimp only [List.take, List.cons_append, List.nil_append] at hs
          replace hs := hs.swapN (X := accH 51 oy2) (Y := accH 3 oa) 5 rfl; dsimp only [List.take, List.cons_append, List.nil_append] at hs
          rw [show (keepR b ((k : Nat) : Int) j).length + 1 = (keepR b ((k : Nat) : Int) (j + 1)).length by rw [keep_no hc4, List.length_append]; rfl] at hf
          rw [← keep_no hc4] at hoy2; rw [← out_no hc4] at hf hoa
          refine gL hf (g_fa (off' := 0) hf F80_0 rfl rfl) (by decide) ?_; clear hf a; intro a hf
          refine gL hf (g_fa (off' := 3) hf F25_3 rfl rfl) (by decide) ?_; clear hf a; intro a hf
          refine uL (u_st hf hs T23 rfl rfl (plain_acc _ _ _) (k := 2) rfl (Nat.le_of_ble_eq_true rfl)) ?_; clear hs; intro w hs; dsimp only [List.set] at hs
          refine e_nil1 (q_blkN (q_thenN ?_))
          refine c_reg1 ?_
          refine gL hf (g_addI hf rfl rfl (by omega)) (by decide) ?_; clear hf a; intro a hf
          refine gL hf (g_mv hf rfl) (by decide) ?_; clear hf a; intro a hf
          refine e_nil1 (q_thenN ?_)
          first | exact ⟨(j + 1, oa2, oy), ⟨by dsimp only; omega, hoa2, hoy⟩, (by dsimp only; omega), hf.back (by repeat (first | (with_reducible exact Ext.base) | ((with_reducible refine Ext.cons ?_ ?_); (· rfl)) | ((with_reducible refine Ext.over ?_ ?_ ?_); (· rfl); (· rfl)))) (allKeys rfl) (.cons rfl (.cons rfl .nil)), hs.dropN 2⟩ | exact ⟨(j + 1, oa, oy2), ⟨by dsimp only; omega, hoa, hoy2⟩, (by dsimp only; omega), hf.back (by repeat (first | (with_reducible exact Ext.base) | ((with_reducible refine Ext.cons ?_ ?_); (· rfl)) | ((with_reducible refine Ext.over ?_ ?_ ?_); (· rfl); (· rfl)))) (allKeys rfl) (.cons rfl (.cons rfl .nil)), hs.dropN 2⟩
      · try simp only [decide_eq_true_eq, decide_eq_false_iff_not] at hc3
        obtain rfl : j = b.rules.length := by omega
        have hn1 : ∀ q, oa = some q → w0.heap.size ≤ q.1 := fun q e => by subst e; exact (hs.own _ _ (.tail _ (.tail _ (.tail _ (.head _))))).1
        obtain ⟨A1, c1, e1, hl1, hs⟩ := hs.freeze (R := accH 51 oy) (enc := encI) (sz := 1) 3 rfl hoa (fun _ => rfl) (by decide)
        dsimp only [List.take, List.cons_append, List.nil_append] at hs
        obtain ⟨A2, c2, e2, hl2, hs⟩ := hs.freeze (e := 51) (R := []) (o := oy) (enc := encR) (sz := 2) 3 (by simp) hoy (fun _ => rfl) (by decide)
        dsimp only [List.take, List.cons_append, List.nil_append] at hs
        have hA1 := acc_new hn1 e1
        rw [e1] at hf; rw [e2] at hs
        have hv2 := valid_drop hv ((k : Nat) : Int)
        have hkl := keep_le b ((k : Nat) : Int) b.rules.length
        have hol := out_le ((k : Nat) : Int) b.rules.length
        refine c_exit (q_thenX (q_thenX (q_blkX (q_thenN ?_))))
        refine wp_seq ?_
        refine c_reg ?_
        refine gL hf (g_mv hf rfl) (by decide) ?_; clear hf a; intro a hf
        refine gL hf (g_mv hf rfl) (by decide) ?_; clear hf a; intro a hf
        refine ggL hf rfl rfl (gyes_t _) (fun hg => g_mv hf rfl) (by decide) ?_; clear hf a; intro a hf
        refine ggL hf rfl rfl (gyes_t _) (fun hg => g_len hf SL31 (ev_gv rfl hg)) (by decide) ?_; clear hf a; intro a hf
        refine ggL hf rfl rfl (gyes_t _) (fun hg => g_mv hf rfl) (by decide) ?_; clear hf a; intro a hf
        refine ggL hf rfl rfl (gyes_t _) (fun hg => g_len hf SL31 (ev_gv rfl hg)) (by decide) ?_; clear hf a; intro a hf
        refine ggL hf rfl rfl (gyes_t _) (fun hg => g_gtr hf (ev_gv rfl hg) (ev_gv rfl hg)) (by decide) ?_; clear hf a; intro a hf
        refine ggL hf rfl rfl (gyes_t _) (fun hg => g_mv hf (ev_gv rfl hg)) (by decide) ?_; clear hf a; intro a hf
        refine ggL hf rfl rfl (gyes_gf _ _) (fun hg => g_mv hf rfl) (by decide) ?_; clear hf a; intro a hf
        refine ggL hf rfl rfl (gyes_gf _ _) (fun hg => g_len hf SL31 (ev_gv rfl hg)) (by decide) ?_; clear hf a; intro a hf
        refine ggL hf rfl rfl (gyes_gf _ _) (fun hg => g_mv hf rfl) (by decide) ?_; clear hf a; intro a hf
        refine ggL hf rfl rfl (gyes_gf _ _) (fun hg => g_len hf SL31 (ev_gv rfl hg)) (by decide) ?_; clear hf a; intro a hf
        refine ggL hf rfl rfl (gyes_gf _ _) (fun hg => g_eql hf (ev_gv rfl hg) (ev_gv rfl hg)) (by decide) ?_; clear hf a; intro a hf
        refine ggL hf rfl rfl (gyes_gf _ _) (fun hg => g_mv hf (ev_gv rfl hg)) (by decide) ?_; clear hf a; intro a hf
        refine ggL hf rfl rfl (gyes_gt _ _) (fun hg => g_mv hf rfl) (by decide) ?_; clear hf a; intro a hf
        refine ggL hf rfl rfl (gyes_gt _ _) (fun hg => g_mv hf rfl) (by decide) ?_; clear hf a; intro a hf
        refine callG hf hs rfl rfl (gyes_gt _ _) (fun hg => ⟨_, _, _, _, c_Compare _ _ _ _ _ _ _ (hs.rd (.tail _ (.head _))) (hs.rd (.tail _ (.tail _ (.head _)))), rfl, evs_cons (ev_gv rfl hg) (evs_cons (ev_gv rfl hg) evs_nil), rfl⟩) E78 (by decide) ?_; clear hs hf a; intro w a hs hf
        refine ggL hf rfl rfl (gyes_gt _ _) (fun hg => g_geq hf (ev_gv rfl hg) rfl) (by decide) ?_; clear hf a; intro a hf
        refine ggL hf rfl rfl (gyes_gf _ _) (fun hg => g_and hf (ev_gv rfl hg) (ev_gvand rfl hg)) (by decide) ?_; clear hf a; intro a hf
        refine ggL hf rfl rfl (gyes_t _) (fun hg => g_or hf (ev_gv rfl hg) (ev_gvand rfl hg)) (by decide) ?_; clear hf a; intro a hf
        refine gL hf (g_and hf rfl rfl) (by decide) ?_; clear hf a; intro a hf
        refine e_nil ?_
        refine c_cond hf rfl (fun hc5 => ?_) (fun hc5 => ?_)
        · skip
          have hc5 : dropBad ob (outL ((k : Nat) : Int) b.rules.length) = true := hc5
          refine c_exit (q_thenX (q_blkX (q_thenN ?_)))
          refine c_reg1 ?_
          refine gL hf (g_addI hf rfl rfl (by omega)) (by decide) ?_; clear hf a; intro a hf
          refine gL hf (g_mv hf rfl) (by decide) ?_; clear hf a; intro a hf
          refine e_nil1 (q_thenN ?_)
          first | exact ⟨(k + 1, Ab, cb, ob), ⟨by dsimp only; omega, by dsimp only; rw [dropF_succ, ← hob, dropStep, if_pos hc5], hcb, hl10, hAb⟩, (by dsimp only; omega), hf.back (by repeat (first | (with_reducible exact Ext.base) | ((with_reducible refine Ext.cons ?_ ?_); (· rfl)) | ((with_reducible refine Ext.over ?_ ?_ ?_); (· rfl); (· rfl)))) (allKeys rfl) (.cons rfl (.cons rfl (.cons rfl .nil))), (by first | exact (hs.dropN 1).subD (fun _ h => .tail _ (.tail _ h)) | exact (hs.dropN 1).subD (fun _ h => by rcases List.mem_cons.1 h with rfl | h; exact .tail _ (.head _); exact .tail _ (.tail _ (.tail _ h))))⟩ | exact ⟨(k + 1, A1, c1, some (outL ((k : Nat) : Int) b.rules.length)), ⟨by dsimp only; omega, by dsimp only; rw [dropF_succ, ← hob, dropStep, if_neg (by rw [hc5]; decide), if_pos hc6], hl1, Nat.le_trans hol hrl, hA1⟩, (by dsimp only; omega), hf.back (by repeat (first | (with_reducible exact Ext.base) | ((with_reducible refine Ext.cons ?_ ?_); (· rfl)) | ((with_reducible refine Ext.over ?_ ?_ ?_); (· rfl); (· rfl)))) (allKeys rfl) (.cons rfl (.cons rfl (.cons rfl .nil))), (by first | exact (hs.dropN 1).subD (fun _ h => .tail _ (.tail _ h)) | exact (hs.dropN 1).subD (fun _ h => by rcases List.mem_cons.1 h with rfl | h; exact .tail _ (.head _); exact .tail _ (.tail _ (.tail _ h))))⟩ | exact ⟨(k + 1, Ab, cb, ob), ⟨by dsimp only; omega, by dsimp only; rw [dropF_succ, ← hob, dropStep, if_neg (by rw [hc5]; decide), if_neg (by rw [hc6]; decide)], hcb, hl10, hAb⟩, (by dsimp only; omega), hf.back (by repeat (first | (with_reducible exact Ext.base) | ((with_reducible refine Ext.cons ?_ ?_); (· rfl)) | ((with_reducible refine Ext.over ?_ ?_ ?_); (· rfl); (· rfl)))) (allKeys rfl) (.cons rfl (.cons rfl (.cons rfl .nil))), (by first | exact (hs.dropN 1).subD (fun _ h => .tail _ (.tail _ h)) | exact (hs.dropN 1).subD (fun _ h => by rcases List.mem_cons.1 h with rfl | h; exact .tail _ (.head _); exact .tail _ (.tail _ (.tail _ h))))⟩
        · skip
          have hc5 : dropBad ob (outL ((k : Nat) : Int) b.rules.length) = false := hc5
          refine c_skip (q_thenN ?_)
          refine c_reg ?_
          refine gL hf (g_ldW hf hs T80 rfl (k := 0) rfl rfl) (by decide) ?_; clear hf a; intro a hf
          refine callL hf hs (c_folds (dropB b ((k : Nat) : Int)) fA fc A2 c2 mb mp _ hv2 ⟨hs.rd (.tail _ (.tail _ (.tail _ (.tail _ (.head _))))), hs.rd (.head _), h.fc_, hl2⟩ (hs.rd (.tail _ (.tail _ (.tail _ (.head _)))))) rfl rfl rfl E79 (by decide) ?_; clear hs hf a; intro w a hs hf
          rw [allOrds_eq (b := dropB b ((k : Nat) : Int)) hv2 hmo] at hf
          refine e_nil ?_
          refine c_cond hf rfl (fun hc6 => ?_) (fun hc6 => ?_)
          · skip
            have hc6 : foldsP (dropB b ((k : Nat) : Int)) = true := hc6
            refine c_reg1 ?_
            refine gL hf (g_mv hf rfl) (by decide) ?_; clear hf a; intro a hf
            refine gL hf (g_as hf rfl) (by decide) ?_; clear hf a; intro a hf
            refine gL hf (g_as hf rfl) (by decide) ?_; clear hf a; intro a hf
            refine e_nil1 (q_blkN (q_thenN ?_))
            refine c_reg1 ?_
            refine gL hf (g_addI hf rfl rfl (by omega)) (by decide) ?_; clear hf a; intro a hf
            refine gL hf (g_mv hf rfl) (by decide) ?_; clear hf a; intro a hf
            refine e_nil1 (q_thenN ?_)
            first | exact ⟨(k + 1, Ab, cb, ob), ⟨by dsimp only; omega, by dsimp only; rw [dropF_succ, ← hob, dropStep, if_pos hc5], hcb, hl10, hAb⟩, (by dsimp only; omega), hf.back (by repeat (first | (with_reducible exact Ext.base) | ((with_reducible refine Ext.cons ?_ ?_); (· rfl)) | ((with_reducible refine Ext.over ?_ ?_ ?_); (· rfl); (· rfl)))) (allKeys rfl) (.cons rfl (.cons rfl (.cons rfl .nil))), (by first | exact (hs.dropN 1).subD (fun _ h => .tail _ (.tail _ h)) | exact (hs.dropN 1).subD (fun _ h => by rcases List.mem_cons.1 h with rfl | h; exact .tail _ (.head _); exact .tail _ (.tail _ (.tail _ h))))⟩ | exact ⟨(k + 1, A1, c1, some (outL ((k : Nat) : Int) b.rules.length)), ⟨by dsimp only; omega, by dsimp only; rw [dropF_succ, ← hob, dropStep, if_neg (by rw [hc5]; decide), if_pos hc6], hl1, Nat.le_trans hol hrl, hA1⟩, (by dsimp only; omega), hf.back (by repeat (first | (with_reducible exact Ext.base) | ((with_reducible refine Ext.cons ?_ ?_); (· rfl)) | ((with_reducible refine Ext.over ?_ ?_ ?_); (· rfl); (· rfl)))) (allKeys rfl) (.cons rfl (.cons rfl (.cons rfl .nil))), (by first | exact (hs.dropN 1).subD (fun _ h => .tail _ (.tail _ h)) | exact (hs.dropN 1).subD (fun _ h => by rcases List.mem_cons.1 h with rfl | h; exact .tail _ (.head _); exact .tail _ (.tail _ (.tail _ h))))⟩ | exact ⟨(k + 1, Ab, cb, ob), ⟨by dsimp only; omega, by dsimp only; rw [dropF_succ, ← hob, dropStep, if_neg (by rw [hc5]; decide), if_neg (by rw [hc6]; decide)], hcb, hl10, hAb⟩, (by dsimp only; omega), hf.back (by repeat (first | (with_reducible exact Ext.base) | ((with_reducible refine Ext.cons ?_ ?_); (· rfl)) | ((with_reducible refine Ext.over ?_ ?_ ?_); (· rfl); (· rfl)))) (allKeys rfl) (.cons rfl (.cons rfl (.cons rfl .nil))), (by first | exact (hs.dropN 1).subD (fun _ h => .tail _ (.tail _ h)) | exact (hs.dropN 1).subD (fun _ h => by rcases List.mem_cons.1 h with rfl | h; exact .tail _ (.head _); exact .tail _ (.tail _ (.tail _ h))))⟩
          · skip
            have hc6 : foldsP (dropB b ((k : Nat) : Int)) = false := hc6
            refine c_skip (q_blkN (q_thenN ?_))
            refine c_reg1 ?_
            refine gL hf (g_addI hf rfl rfl (by omega)) (by decide) ?_; clear hf a; intro a hf
            refine gL hf (g_mv hf rfl) (by decide) ?_; clear hf a; intro a hf
            refine e_nil1 (q_thenN ?_)
            first | exact ⟨(k + 1, Ab, cb, ob), ⟨by dsimp only; omega, by dsimp only; rw [dropF_succ, ← hob, dropStep, if_pos hc5], hcb, hl10, hAb⟩, (by dsimp only; omega), hf.back (by repeat (first | (with_reducible exact Ext.base) | ((with_reducible refine Ext.cons ?_ ?_); (· rfl)) | ((with_reducible refine Ext.over ?_ ?_ ?_); (· rfl); (· rfl)))) (allKeys rfl) (.cons rfl (.cons rfl (.cons rfl .nil))), (by first | exact (hs.dropN 1).subD (fun _ h => .tail _ (.tail _ h)) | exact (hs.dropN 1).subD (fun _ h => by rcases List.mem_cons.1 h with rfl | h; exact .tail _ (.head _); exact .tail _ (.tail _ (.tail _ h))))⟩ | exact ⟨(k + 1, A1, c1, some (outL ((k : Nat) : Int) b.rules.length)), ⟨by dsimp only; omega, by dsimp only; rw [dropF_succ, ← hob, dropStep, if_neg (by rw [hc5]; decide), if_pos hc6], hl1, Nat.le_trans hol hrl, hA1⟩, (by dsimp only; omega), hf.back (by repeat (first | (with_reducible exact Ext.base) | ((with_reducible refine Ext.cons ?_ ?_); (· rfl)) | ((with_reducible refine Ext.over ?_ ?_ ?_); (· rfl); (· rfl)))) (allKeys rfl) (.cons rfl (.cons rfl (.cons rfl .nil))), (by first | exact (hs.dropN 1).subD (fun _ h => .tail _ (.tail _ h)) | exact (hs.dropN 1).subD (fun _ h => by rcases List.mem_cons.1 h with rfl | h; exact .tail _ (.head _); exact .tail _ (.tail _ (.tail _ h))))⟩ | exact ⟨(k + 1, Ab, cb, ob), ⟨by dsimp only; omega, by dsimp only; rw [dropF_succ, ← hob, dropStep, if_neg (by rw [hc5]; decide), if_neg (by rw [hc6]; decide)], hcb, hl10, hAb⟩, (by dsimp only; omega), hf.back (by repeat (first | (with_reducible exact Ext.base) | ((with_reducible refine Ext.cons ?_ ?_); (· rfl)) | ((with_reducible refine Ext.over ?_ ?_ ?_); (· rfl); (· rfl)))) (allKeys rfl) (.cons rfl (.cons rfl (.cons rfl .nil))), (by first | exact (hs.dropN 1).subD (fun _ h => .tail _ (.tail _ h)) | exact (hs.dropN 1).subD (fun _ h => by rcases List.mem_cons.1 h with rfl | h; exact .tail _ (.head _); exact .tail _ (.tail _ (.tail _ h))))⟩
    · try simp only [decide_eq_true_eq, decide_eq_false_iff_not] at hc2
      obtain rfl : k = 2 ^ b.rules.length := by omega
      refine c_exit (q_thenX (q_thenX (q_blkX (q_thenN ?_))))
      refine c_reg ?_
      refine gL hf (g_mv hf rfl) (by decide) ?_; clear hf a; intro a hf
      refine gL hf (g_mv hf rfl) (by decide) ?_; clear hf a; intro a hf
      refine gL hf (g_len hf SL31 rfl) (by decide) ?_; clear hf a; intro a hf
      refine gL hf (g_mv hf rfl) (by decide) ?_; clear hf a; intro a hf
      refine gL hf (g_len hf SL31 rfl) (by decide) ?_; clear hf a; intro a hf
      refine gL hf (g_slHM hf SL31 rfl rfl rfl (by omega) (by omega)) (by decide) ?_; clear hf a; intro a hf
      refine gL hf (g_as hf rfl) (by decide) ?_; clear hf a; intro a hf
      refine gL hf (g_as hf rfl) (by decide) ?_; clear hf a; intro a hf
      refine e_nil ?_
      refine c_ret ?_
      refine e_ret2 hf rfl rfl rfl ?_
      have hor : dropP b = (ob.getD [], 0) := by simp only [dropP, he, if_true, hob]
      exact ⟨_, rfl, hs.below, Ab, (ob.getD []).length, by rw [hor]; rfl, by rw [hor]; exact ⟨Nat.le_refl _, hs.rd (.head _), hAb⟩⟩

end Go.Proofs.YtjjcopeedcdokaaDoor

set_option linter.unusedVariables false
set_option linter.unusedSimpArgs false
namespace Go.Proofs.YtjjcopeedcdokaaDoor
open Go.RowKit
theorem E16 : Enters Tryd.prog 16 := fun _ _ => by kernel_rfl
theorem E17 : Enters Tryd.prog 17 := fun _ _ => by kernel_rfl
theorem E30 : Enters Tryd.prog 30 := fun _ _ => by kernel_rfl
theorem E63 : Enters Tryd.prog 63 := fun _ _ => by kernel_rfl
theorem E64 : Enters Tryd.prog 64 := fun _ _ => by kernel_rfl
end Go.Proofs.YtjjcopeedcdokaaDoor

set_option linter.unusedVariables false
set_option linter.unusedSimpArgs false
namespace Go.Proofs.YtjjcopeedcdokaaDoor
open Go.RowKit
theorem most_spec (f : Nat → Int) : ∀ n : Nat, ((mostTo f n).2 = 0 ∧ (mostTo f n).1 = 0 ∧ ∀ w, w < n → f w ≤ 0) ∨ ∃ a, a < n ∧ mostTo f n = (((a : Nat) : Int), f a) ∧ 0 < f a ∧ ∀ w, w < n → f w ≤ f a ∧ (f w = f a → a ≤ w)
  | 0 => .inl ⟨rfl, rfl, fun w h => absurd h (by omega)⟩
  | n + 1 => by
    rcases most_spec f n with ⟨h1, h2, h3⟩ | ⟨a, h1, h2, h3, h4⟩
    · by_cases h : (mostTo f n).2 < f n
      · rw [most_yes h]
        refine .inr ⟨n, by omega, rfl, by omega, fun w hw => ?_⟩
        by_cases hwn : w = n
        · subst hwn; exact ⟨Int.le_refl _, fun _ => Nat.le_refl _⟩
        · have := h3 w (by omega)
          exact ⟨by omega, fun e => by omega⟩
      · rw [most_no h]
        refine .inl ⟨h1, h2, fun w hw => ?_⟩
        by_cases hwn : w = n
        · subst hwn; omega
        · exact h3 w (by omega)
    · by_cases h : (mostTo f n).2 < f n
      · rw [most_yes h]
        rw [h2] at h
        simp only at h
        refine .inr ⟨n, by omega, rfl, by omega, fun w hw => ?_⟩
        by_cases hwn : w = n
        · subst hwn; exact ⟨Int.le_refl _, fun _ => Nat.le_refl _⟩
        · have := (h4 w (by omega)).1
          exact ⟨by omega, fun e => by omega⟩
      · rw [most_no h]
        rw [h2] at h
        simp only at h
        refine .inr ⟨a, by omega, h2, h3, fun w hw => ?_⟩
        by_cases hwn : w = n
        · subst hwn; exact ⟨by omega, fun _ => by omega⟩
        · exact h4 w (by omega)
theorem most_cases (f : Nat → Int) (n : Nat) : (mostP f n = (0, 4) ∧ ∀ w, w < n → f w ≤ 0) ∨ ∃ a, a < n ∧ mostP f n = (((a : Nat) : Int), 0) ∧ 0 < f a ∧ ∀ w, w < n → f w ≤ f a ∧ (f w = f a → a ≤ w) := by
  unfold mostP
  rcases most_spec f n with ⟨h1, h2, h3⟩ | ⟨a, h1, h2, h3, h4⟩
  · rw [if_pos h1]; exact .inl ⟨rfl, h3⟩
  · rw [h2, if_neg (by simp only; omega)]
    exact .inr ⟨a, h1, rfl, h3, h4⟩
theorem wrong_nil {k : Bk} (h : wrongL k = []) {i : Nat} (hi : i < k.ws.length) : rightB (k.ws.getD i default) = true := by
  unfold wrongL wrongTo at h
  have h1 := List.map_eq_nil_iff.1 h
  have h2 := (List.filter_eq_nil_iff.1 h1) i (List.mem_range.2 hi)
  simpa using h2
theorem wrongP_ok {k : Bk} (hb : hckB k = true) : wrongP k = (wrongL k, 0) := by rw [wrongP, hb]; rfl
theorem togE_ok {k : Bk} (hb : hckB k = true) : togE k = if wrongL k = [] then 0 else 92 := by unfold togE; rw [if_pos hb]
theorem teach_cases {k : Bk} (hb : hckB k = true) : (wrongL k ≠ [] ∧ teachP k = (0, 92)) ∨ (wrongL k = [] ∧ (((orderP k.sh).2 ≠ 0 ∧ teachP k = (0, 4)) ∨ ((orderP k.sh).2 = 0 ∧ teachP k = mostP (moreZ k (orderP k.sh).1) k.ws.length))) := by
  unfold teachP
  rw [togE_ok hb]
  by_cases h : wrongL k = []
  · by_cases ho : (orderP k.sh).2 = 0
    · exact .inr ⟨h, .inr ⟨ho, by simp [h, ho]⟩⟩
    · exact .inr ⟨h, .inl ⟨ho, by simp [h, ho]⟩⟩
  · exact .inl ⟨h, by simp [h]⟩
end Go.Proofs.YtjjcopeedcdokaaDoor

set_option linter.unusedVariables false
set_option linter.unusedSimpArgs false
namespace Go.Proofs.YtjjcopeedcdokaaDoor
open Go.RowKit
section
variable {P : Program} {ds : List Deferred} {a : Act} {n d : Nat} {L : Regs} {w : World} {o : Op} {t : TypeId} {p : String} {af : Array Edge} {ops : Array Oper} {S : World → Prop} {Q : Exit → Act → World → Prop} {i : Nat}
/-- An operation that turns the world, with a ground that is known. -/
theorem oVY {KK : Act → World → Prop} (hf : Fr ds a n L) {R : Value → World → Prop} {j r : Nat} {want : Bool} {u : Value} (hi : ops[i]? = some ⟨some d, o, t, p, af, some (j, want)⟩) (hj : (ops[j]?).bind (·.dst) = some r) (hu : ev L (.tmp r) = some u) (hG : gyes u want = true) (hg : GoesV P o t a w R) (hd : d < n) (hS : ∀ v w', R v w' → S w')
    (h : ∀ v w', R v w' → S w' → ∀ a', Fr ds a' n ((d, v) :: L) → KK a' w') : wpOp P ops Q i (fun a' w' => S w' ∧ KK a' w') a w := by
  unfold wpOp
  rw [hi]
  simp only
  rw [wanted_of hf rfl hj hu, hG, if_pos rfl]
  refine .inl ?_
  obtain ⟨v, w', hrun, hR⟩ := hg (some d) p af (some (j, want))
  unfold Oper.wp
  rw [hrun]
  exact ⟨hS v w' hR, h v w' hR (hS v w' hR) _ (hf.put hd v)⟩
end
def shT : Sheet := ⟨4, 4, [⟨0, 3, 3, 0, 3⟩, ⟨1, 2, 3, 0, 3⟩], [⟨0, 1⟩]⟩
def bkT (o : Option Addr) : Bk := ⟨shT, 10, 7, 1, [⟨25, [1, 0], 19, 22, 2, 2, o, 2⟩]⟩
theorem t_order : orderP shT = ([1, 0], 0) := by kernel_rfl
theorem t_does : doesP shT [0, 1] = (0, 0) := by kernel_rfl
theorem t_check : checkB shT = true := by kernel_rfl
section
variable (o : Option Addr)
theorem t_pass : tellP (bkT o) 0 0 = ((19, 22), 0) := by kernel_rfl
theorem t_gets : tellP (bkT o) 0 2 = ((3, 13), 0) := by kernel_rfl
theorem t_gross : grossP (bkT o) = ((1, 2), 0) := by kernel_rfl
end
def tpF : Array Value := (shT.flaps.flatMap encF).toArray
def tpR : Array Value := (shT.rules.flatMap encR).toArray
def tpW (b1 : Nat) : Array Value := ((bkT (some ⟨b1, 0, none⟩)).ws.flatMap encW).toArray
abbrev tpV (bf br : Nat) : Value := .agg #[.int .i64 4, .int .i64 4, .slice (some ⟨bf, 0, none⟩) 2 2, .slice (some ⟨br, 0, none⟩) 1 1]
abbrev tpBV (bf br bw : Nat) : Value := .agg #[.int .i64 4, .int .i64 4, .slice (some ⟨bf, 0, none⟩) 2 2, .slice (some ⟨br, 0, none⟩) 1 1, .int .i64 10, .int .i64 7, .int .i64 1, .slice (some ⟨bw, 0, none⟩) 1 1]
def TpIn (bf br m : Nat) (w : World) : Prop := m ≤ bf ∧ m ≤ br ∧ w.heap[bf]? = some (.cells tpF 117 (0, 0)) ∧ w.heap[br]? = some (.cells tpR 51 (0, 0))
theorem tpFresh {w w' : World} {bf br m : Nat} (h : TpIn bf br w.heap.size w') (hm : m ≤ w.heap.size) : Fresh w w' (TpIn bf br m) := by
  obtain ⟨h1, h2, h4, h5⟩ := h
  exact fun w'' hs hb => ⟨Nat.le_trans hm h1, Nat.le_trans hm h2, (hb bf h1 (Array.getElem?_eq_some_iff.1 h4).1).trans h4, (hb br h2 (Array.getElem?_eq_some_iff.1 h5).1).trans h5⟩
theorem TpIn.sh {bf br m : Nat} {w : World} (h : TpIn bf br m w) : ShIn shT (some ⟨bf, 0, none⟩) 2 (some ⟨br, 0, none⟩) 1 w :=
  ⟨rd_of_flat (sz := 5) (len := 2) (fun _ => rfl) (by decide) h.2.2.1 rfl (by decide) rfl, rd_of_flat (sz := 2) (len := 1) (fun _ => rfl) (by decide) h.2.2.2 rfl (by decide) rfl, Nat.le_refl _, Nat.le_refl _⟩
structure TpB (bf br b1 bw m : Nat) (w : World) : Prop where
  ch : TpIn bf br m w
  m1 : m ≤ b1
  mw : m ≤ bw
  h1 : w.heap[b1]? = some (.cells #[.int .i64 1, .int .i64 0] 3 (0, 0))
  hw : w.heap[bw]? = some (.cells (tpW b1) 47 (0, 0))
theorem TpB.bk {bf br b1 bw m : Nat} {w : World} (h : TpB bf br b1 bw m w) : BkIn (bkT (some ⟨b1, 0, none⟩)) (some ⟨bf, 0, none⟩) 2 (some ⟨br, 0, none⟩) 1 (some ⟨bw, 0, none⟩) 1 w :=
  ⟨h.ch.sh, rd_of_flat (sz := 6) (len := 1) (fun _ => rfl) (by decide) h.hw rfl (by decide) rfl, Nat.le_refl _, fun x hx => by
    rw [List.mem_singleton.1 hx]
    exact ⟨Nat.le_refl _, rd_of_flat (sz := 1) (len := 2) (fun _ => rfl) (by decide) h.h1 rfl (by decide) rfl⟩⟩
theorem tpBFresh {w w' : World} {bf br b1 bw m : Nat} (h : TpB bf br b1 bw w.heap.size w') (hm : m ≤ w.heap.size) : Fresh w w' (TpB bf br b1 bw m) :=
  fun w'' hs hb => ⟨tpFresh h.ch hm w'' hs hb, Nat.le_trans hm h.m1, Nat.le_trans hm h.mw, (hb b1 h.m1 (Array.getElem?_eq_some_iff.1 h.h1).1).trans h.h1, (hb bw h.mw (Array.getElem?_eq_some_iff.1 h.hw).1).trans h.hw⟩
theorem smallH0 (k : Bk) : ((((((bookE k == 0) && ((if checkB k.sh then (0 : Int) else 40) == 0)) && decide (((k.ws.length : Nat) : Int) ≤ 4)) && fitsB ((k.sh.flaps.length : Nat) : Int) 1 7) && decide (((k.sh.rules.length : Nat) : Int) ≤ 10)) && fitsB k.gross 1 144) = hckB k := by
  rw [book_zero]
  cases h : hckB k with
  | false => rfl
  | true =>
    have hv := hck_iff.1 h
    have h0 := valid_of hv.ck
    have h1 := hv.g1; have h2 := hv.g2; have h7 := hv.n; have h8 := h0.many; have h9 := h0.rules
    rw [hv.ck]
    simp only [fitsB, Bool.and_eq_true, decide_eq_true_eq, if_true]
    simp
    omega
theorem smallH1 {k : Bk} (h : hckB k = true) {i : Nat} (hi : i < k.ws.length) : (spanB (k.ws.getD i default).bl (k.ws.getD i default).bh 0 600 && spanB (k.ws.getD i default).tl (k.ws.getD i default).th 0 600) = hckB k := by
  have hx := (hck_iff.1 h).wk hi
  have h3 := hx.b0; have h4 := hx.b1; have h5 := hx.b2; have h7 := hx.t0; have h8 := hx.t1; have h9 := hx.t2
  rw [h]
  simp only [spanB, Bool.and_eq_true, decide_eq_true_eq]
  omega
theorem top_ring {b : Sheet} (hck : checkB b = true) : ((ringP b).2 = 0 ∧ (orderP b).2 = 4 ∧ 2 ≤ (ringP b).1.length) ∨ ((ringP b).2 = 4 ∧ (orderP b).2 = 0) := by
  rcases told_cases hck with ⟨h1, _, _, r, h2, h3, _⟩ | ⟨l, rest, h1, _, _, h2, _⟩
  · rw [h1, h2]; exact .inl ⟨rfl, rfl, h3.two⟩
  · rw [h1, h2]; exact .inr ⟨rfl, rfl⟩
theorem teach_wrong {k : Bk} (hb : hckB k = true) (hw : wrongL k ≠ []) : (teachP k).2 = 92 := by
  rw [((teach_cases hb).resolve_right fun h => hw h.1).2]
end Go.Proofs.YtjjcopeedcdokaaDoor

set_option linter.unusedVariables false
set_option linter.unusedSimpArgs false
namespace Go.Proofs.YtjjcopeedcdokaaDoor
open Go.RowKit
theorem c_small (k : Bk) (fA : Option Addr) (fc : Nat) (rA : Option Addr) (rc : Nat) (wA : Option Addr) (wc : Nat) (ge : TypeId) (gz : Nat × Nat)  (w0 : World) (h : BkIn k fA fc rA rc wA wc w0) (hG : BlkIs 1 sidesA ge gz w0) :
    Calls Tryd.prog 16 #[.agg #[.int .i64 k.sh.wide, .int .i64 k.sh.high, .slice fA k.sh.flaps.length fc, .slice rA k.sh.rules.length rc, .int .i64 k.gross, .int .i64 k.pay, .int .i64 k.fine, .slice wA k.ws.length wc]] w0 (Ret w0 (.bool (hckB k))) := by
  refine c_enter (n := 66) Tryd.func16 rfl rfl (Nat.le_of_ble_eq_true rfl) ?_; intro a hf; simp only [zipR] at hf
  have hs := St.start w0 [Rd encF 5 fA k.sh.flaps.length k.sh.flaps, Rd encR 2 rA k.sh.rules.length k.sh.rules, Rd encW 6 wA k.ws.length k.ws, OrdD k.ws, BlkIs 1 sidesA ge gz] (stab_app h.stab hG.st1)
  have hwm := h.W.2.1
  refine c_reg ?_
  refine vL hf (v_boxA hf hs rfl) (by decide) ?_; clear hs hf a; rintro _ w ⟨b1, rfl, hs⟩ a hf
  refine gL hf (g_as hf rfl) (by decide) ?_; clear hf a; intro a hf
  refine e_nil ?_
  refine c_reg ?_
  refine gL hf (g_ldW hf hs T28 rfl (k := 0) rfl rfl) (by decide) ?_; clear hf a; intro a hf
  refine callL hf hs (c_CheckH k _ _ _ _ _ _ ge gz _ ⟨⟨hs.rd (.head _), hs.rd (.tail _ (.head _)), h.sh.fc_, h.sh.rc_⟩, hs.rd (.tail _ (.tail _ (.head _))), h.wc_, hs.rd (.tail _ (.tail _ (.tail _ (.head _))))⟩ (hs.rd (.tail _ (.tail _ (.tail _ (.tail _ (.head _))))))) rfl rfl rfl E33 (by decide) ?_; clear hs hf a; intro w a hs hf
  refine gL hf (g_eql hf rfl rfl) (by decide) ?_; clear hf a; intro a hf
  refine gL hf (g_mv hf rfl) (by decide) ?_; clear hf a; intro a hf
  refine ggL hf rfl rfl (gyes_t _) (fun hg => g_fa (off' := 0) hf F28_0 rfl rfl) (by decide) ?_; clear hf a; intro a hf
  refine ggL hf rfl rfl (gyes_t _) (fun hg => g_ldP hf hs T25 (ev_gv rfl hg) (k := 0) rfl rfl) (by decide) ?_; clear hf a; intro a hf
  refine callG hf hs rfl rfl (gyes_t _) (fun hg => ⟨_, _, _, _, c_Check k.sh _ _ _ _ _ ⟨hs.rd (.head _), hs.rd (.tail _ (.head _)), h.sh.fc_, h.sh.rc_⟩, rfl, evs_cons (ev_gv rfl hg) evs_nil, rfl⟩) E61 (by decide) ?_; clear hs hf a; intro w a hs hf
  refine ggL hf rfl rfl (gyes_t _) (fun hg => g_eql hf (ev_gv rfl hg) rfl) (by decide) ?_; clear hf a; intro a hf
  refine gL hf (g_and hf rfl rfl) (by decide) ?_; clear hf a; intro a hf
  refine gL hf (g_mv hf rfl) (by decide) ?_; clear hf a; intro a hf
  refine ggL hf rfl rfl (gyes_t _) (fun hg => g_fa (off' := 7) hf F28_4 rfl rfl) (by decide) ?_; clear hf a; intro a hf
  refine ggL hf rfl rfl (gyes_t _) (fun hg => g_ld hf hs T26 (ev_gv rfl hg) (k := 0) rfl rfl) (by decide) ?_; clear hf a; intro a hf
  refine ggL hf rfl rfl (gyes_t _) (fun hg => g_len hf SL26 (ev_gv rfl hg)) (by decide) ?_; clear hf a; intro a hf
  refine ggL hf rfl rfl (gyes_t _) (fun hg => g_leq hf (ev_gv rfl hg) rfl) (by decide) ?_; clear hf a; intro a hf
  refine gL hf (g_and hf rfl rfl) (by decide) ?_; clear hf a; intro a hf
  refine gL hf (g_mv hf rfl) (by decide) ?_; clear hf a; intro a hf
  refine ggL hf rfl rfl (gyes_t _) (fun hg => g_fa (off' := 0) hf F28_0 rfl rfl) (by decide) ?_; clear hf a; intro a hf
  refine ggL hf rfl rfl (gyes_t _) (fun hg => g_fa (off' := 2) hf F25_2 (ev_gv rfl hg) rfl) (by decide) ?_; clear hf a; intro a hf
  refine ggL hf rfl rfl (gyes_t _) (fun hg => g_ld hf hs T22 (ev_gv rfl hg) (k := 0) rfl rfl) (by decide) ?_; clear hf a; intro a hf
  refine ggL hf rfl rfl (gyes_t _) (fun hg => g_len hf SL22 (ev_gv rfl hg)) (by decide) ?_; clear hf a; intro a hf
  refine callG hf hs rfl rfl (gyes_t _) (fun hg => ⟨_, _, _, _, c_Fits _ _ _ _, rfl, evs_cons (ev_gv rfl hg) (evs_cons rfl (evs_cons rfl evs_nil)), rfl⟩) E26 (by decide) ?_; clear hs hf a; intro w a hs hf
  refine gL hf (g_and hf rfl rfl) (by decide) ?_; clear hf a; intro a hf
  refine gL hf (g_mv hf rfl) (by decide) ?_; clear hf a; intro a hf
  refine ggL hf rfl rfl (gyes_t _) (fun hg => g_fa (off' := 0) hf F28_0 rfl rfl) (by decide) ?_; clear hf a; intro a hf
  refine ggL hf rfl rfl (gyes_t _) (fun hg => g_fa (off' := 3) hf F25_3 (ev_gv rfl hg) rfl) (by decide) ?_; clear hf a; intro a hf
  refine ggL hf rfl rfl (gyes_t _) (fun hg => g_ld hf hs T23 (ev_gv rfl hg) (k := 0) rfl rfl) (by decide) ?_; clear hf a; intro a hf
  refine ggL hf rfl rfl (gyes_t _) (fun hg => g_len hf SL23 (ev_gv rfl hg)) (by decide) ?_; clear hf a; intro a hf
  refine ggL hf rfl rfl (gyes_t _) (fun hg => g_leq hf (ev_gv rfl hg) rfl) (by decide) ?_; clear hf a; intro a hf
  refine gL hf (g_and hf rfl rfl) (by decide) ?_; clear hf a; intro a hf
  refine gL hf (g_mv hf rfl) (by decide) ?_; clear hf a; intro a hf
  refine ggL hf rfl rfl (gyes_t _) (fun hg => g_fa (off' := 4) hf F28_1 rfl rfl) (by decide) ?_; clear hf a; intro a hf
  refine ggL hf rfl rfl (gyes_t _) (fun hg => g_ld hf hs T3 (ev_gv rfl hg) (k := 0) rfl rfl) (by decide) ?_; clear hf a; intro a hf
  refine callG hf hs rfl rfl (gyes_t _) (fun hg => ⟨_, _, _, _, c_Fits _ _ _ _, rfl, evs_cons (ev_gv rfl hg) (evs_cons rfl (evs_cons rfl evs_nil)), rfl⟩) E26 (by decide) ?_; clear hs hf a; intro w a hs hf
  refine gL hf (g_and hf rfl rfl) (by decide) ?_; clear hf a; intro a hf
  refine gL hf (g_as hf rfl) (by decide) ?_; clear hf a; intro a hf
  refine e_nil ?_
  refine wp_seq ?_
  refine c_reg ?_
  refine gL hf (g_as hf rfl) (by decide) ?_; clear hf a; intro a hf
  refine e_nil ?_
  refine c_block ?_
  rw [smallH0 k] at hf
  refine c_loop hf hs (List.range' 3 2 ++ List.range' 39 26) (σ := Nat) (fun i => [(3, .bool (hckB k)), (4, .int .i64 (i : Nat))]) (fun i => _) (fun i => i ≤ k.ws.length) (fun i => k.ws.length - i) 0 (Nat.zero_le _) (.cons rfl (.cons rfl .nil)) rfl ?_
  intro i a w hJ hf hs
  refine wp_seq ?_
  refine c_reg ?_
  refine gL hf (g_mv hf rfl) (by decide) ?_; clear hf a; intro a hf
  refine gL hf (g_mv hf rfl) (by decide) ?_; clear hf a; intro a hf
  refine ggL hf rfl rfl (gyes_t _) (fun hg => g_mv hf rfl) (by decide) ?_; clear hf a; intro a hf
  refine ggL hf rfl rfl (gyes_t _) (fun hg => g_fa (off' := 7) hf F28_4 rfl rfl) (by decide) ?_; clear hf a; intro a hf
  refine ggL hf rfl rfl (gyes_t _) (fun hg => g_ld hf hs T26 (ev_gv rfl hg) (k := 0) rfl rfl) (by decide) ?_; clear hf a; intro a hf
  refine ggL hf rfl rfl (gyes_t _) (fun hg => g_len hf SL26 (ev_gv rfl hg)) (by decide) ?_; clear hf a; intro a hf
  refine ggL hf rfl rfl (gyes_t _) (fun hg => g_lss hf (ev_gv rfl hg) (ev_gv rfl hg)) (by decide) ?_; clear hf a; intro a hf
  refine gL hf (g_and hf rfl rfl) (by decide) ?_; clear hf a; intro a hf
  refine e_nil ?_
  refine c_cond hf rfl (fun hc1 => ?_) (fun hc1 => ?_)
  · skip
    obtain ⟨hck, hkl⟩ := (Bool.and_eq_true _ _).mp hc1
    replace hkl := of_decide_eq_true hkl
    have hi : i < k.ws.length := by omega
    refine c_skip (q_thenN ?_)
    refine c_blockS ?_
    refine c_reg1 ?_
    refine gL hf (g_fa (off' := 7) hf F28_4 rfl rfl) (by decide) ?_; clear hf a; intro a hf
    refine gL hf (g_ld hf hs T26 rfl (k := 0) rfl rfl) (by decide) ?_; clear hf a; intro a hf
    refine gL hf (g_mv hf rfl) (by decide) ?_; clear hf a; intro a hf
    (first | (refine gL hf (g_ixE hf hs (.tail _ (.tail _ (.head _))) SL26 rfl rfl (by omega)) (by decide) ?_) | (refine gL hf (g_ixD hf hs (.tail _ (.tail _ (.head _))) SL26 rfl rfl (by omega)) (by decide) ?_)); clear hf a; intro a hf
    refine gL hf (g_faD (j' := 2) hf hs (.tail _ (.tail _ (.head _))) F47_2 rfl (by omega) rfl) (by decide) ?_; clear hf a; intro a hf
    refine gL hf (g_ldEP hf hs (.tail _ (.tail _ (.head _))) T40 rfl rfl (by omega)) (by decide) ?_; clear hf a; intro a hf
    refine callL hf hs (c_Right _ _ _ _ _) rfl rfl rfl E62 (by decide) ?_; clear hs hf a; intro w a hs hf
    refine gL hf (g_mv hf rfl) (by decide) ?_; clear hf a; intro a hf
    refine ggL hf rfl rfl (gyes_t _) (fun hg => g_fa (off' := 7) hf F28_4 rfl rfl) (by decide) ?_; clear hf a; intro a hf
    refine ggL hf rfl rfl (gyes_t _) (fun hg => g_ld hf hs T26 (ev_gv rfl hg) (k := 0) rfl rfl) (by decide) ?_; clear hf a; intro a hf
    refine ggL hf rfl rfl (gyes_t _) (fun hg => g_mv hf rfl) (by decide) ?_; clear hf a; intro a hf
    (first | (refine ggL hf rfl rfl (gyes_t _) (fun hg => g_ixE hf hs (.tail _ (.tail _ (.head _))) SL26 (ev_gv rfl hg) (ev_gv rfl hg) (by omega)) (by decide) ?_) | (refine ggL hf rfl rfl (gyes_t _) (fun hg => g_ixD hf hs (.tail _ (.tail _ (.head _))) SL26 (ev_gv rfl hg) (ev_gv rfl hg) (by omega)) (by decide) ?_)); clear hf a; intro a hf
    refine ggL hf rfl rfl (gyes_t _) (fun hg => g_faD (j' := 4) hf hs (.tail _ (.tail _ (.head _))) F47_3 (ev_gv rfl hg) (by omega) rfl) (by decide) ?_; clear hf a; intro a hf
    refine ggL hf rfl rfl (gyes_t _) (fun hg => g_ldEP hf hs (.tail _ (.tail _ (.head _))) T40 (ev_gv rfl hg) rfl (by omega)) (by decide) ?_; clear hf a; intro a hf
    refine callG hf hs rfl rfl (gyes_t _) (fun hg => ⟨_, _, _, _, c_Right _ _ _ _ _, rfl, evs_cons (ev_gv rfl hg) (evs_cons rfl (evs_cons rfl evs_nil)), rfl⟩) E62 (by decide) ?_; clear hs hf a; intro w a hs hf
    refine gL hf (g_and hf rfl rfl) (by decide) ?_; clear hf a; intro a hf
    refine gL hf (g_as hf rfl) (by decide) ?_; clear hf a; intro a hf
    refine e_nil1 (q_blkN (q_thenN ?_))
    refine c_reg1 ?_
    refine gL hf (g_mv hf rfl) (by decide) ?_; clear hf a; intro a hf
    refine gL hf (g_addI hf rfl rfl (by omega)) (by decide) ?_; clear hf a; intro a hf
    refine gL hf (g_as hf rfl) (by decide) ?_; clear hf a; intro a hf
    refine e_nil1 (q_thenN ?_)
    rw [smallH1 hck hi] at hf
    exact ⟨i + 1, (by omega), (by omega), hf.back (by repeat (first | (with_reducible exact Ext.base) | ((with_reducible refine Ext.cons ?_ ?_); (· rfl)) | ((with_reducible refine Ext.over ?_ ?_ ?_); (· rfl); (· rfl)))) (allKeys rfl) (.cons rfl (.cons rfl .nil)), hs.dropN 0⟩
  · skip
    refine c_exit (q_thenX (q_thenX (q_blkX (q_thenN ?_))))
    refine c_reg ?_
    refine gL hf (g_mv hf rfl) (by decide) ?_; clear hf a; intro a hf
    refine gL hf (g_as hf rfl) (by decide) ?_; clear hf a; intro a hf
    refine e_nil ?_
    refine c_ret ?_
    refine e_ret1 hf rfl rfl ?_
    exact ⟨rfl, hs.below⟩

theorem c_sheet09 (w0 : World) :
    Calls Tryd.prog 63 #[] w0 (RetX w0 (fun v w0' => ∃ bf br, v = tpV bf br ∧ TpIn bf br w0.heap.size w0')) := by
  refine c_enter (n := 11) Tryd.func63 rfl rfl (Nat.le_of_ble_eq_true rfl) ?_; intro a hf; simp only [zipR] at hf
  have hs := St.start w0 [] (by simp)
  refine c_reg ?_
  refine vL hf (v_alloc hs T25 rfl) (by decide) ?_; clear hs hf a; rintro _ w ⟨b1, rfl, hs⟩ a hf
  refine e_nil ?_
  refine c_reg ?_
  refine callL hf hs (c_Only _ _) rfl rfl rfl E60 (by decide) ?_; clear hs hf a; intro w a hs hf
  refine callL hf hs (c_Sp _ _ _) rfl rfl rfl E52 (by decide) ?_; clear hs hf a; intro w a hs hf
  refine gL hf (g_bld hf [[.int .i64 0], [.int .i64 0, .int .i64 0], [.int .i64 0, .int .i64 0]] (.cons rfl (.cons rfl (.cons rfl .nil))) (fun _ => by kernel_rfl)) (by decide) ?_; clear hf a; intro a hf
  refine callL hf hs (c_Sp _ _ _) rfl rfl rfl E52 (by decide) ?_; clear hs hf a; intro w a hs hf
  refine callL hf hs (c_Sp _ _ _) rfl rfl rfl E52 (by decide) ?_; clear hs hf a; intro w a hs hf
  refine gL hf (g_bld hf [[.int .i64 0], [.int .i64 0, .int .i64 0], [.int .i64 0, .int .i64 0]] (.cons rfl (.cons rfl (.cons rfl .nil))) (fun _ => by kernel_rfl)) (by decide) ?_; clear hf a; intro a hf
  refine vL hf (v_lits (len := 2) hf hs SL22 T117 (.cons rfl (.cons rfl .nil)) rfl rfl rfl rfl (by decide) rfl) (by decide) ?_; clear hs hf a; rintro _ w ⟨b2, rfl, hs⟩ a hf
  refine gL hf (g_bld hf [[.int .i64 0], [.int .i64 0]] (.cons rfl (.cons rfl .nil)) (fun _ => by kernel_rfl)) (by decide) ?_; clear hf a; intro a hf
  refine vL hf (v_lits (len := 1) hf hs SL23 T51 (.cons rfl .nil) rfl rfl rfl rfl (by decide) rfl) (by decide) ?_; clear hs hf a; rintro _ w ⟨b3, rfl, hs⟩ a hf
  refine gL hf (g_bld hf [[.int .i64 0], [.int .i64 0], [.slice none 0 0], [.slice none 0 0]] (.cons rfl (.cons rfl (.cons rfl (.cons rfl .nil)))) (fun _ => by kernel_rfl)) (by decide) ?_; clear hf a; intro a hf
  refine uL (u_stW hf hs T25 rfl rfl rfl (k := 2) rfl rfl rfl) ?_; clear hs; intro w hs; dsimp only [List.set] at hs
  refine e_nil ?_
  refine c_ret ?_
  refine e_res hf hs rfl (.cellA T25 rfl (k := 2) rfl rfl .nil) rfl ?_
  exact ⟨_, rfl, hs.below, b2, b3, rfl, (hs.own _ _ (.tail _ (.head _))).1, (hs.own _ _ (.head _)).1, (hs.own _ _ (.tail _ (.head _))).2, (hs.own _ _ (.head _)).2⟩

theorem c_hands09 (w0 : World) :
    Calls Tryd.prog 64 #[] w0 (RetX w0 (fun v w0' => ∃ bf br b1 bw, v = tpBV bf br bw ∧ TpB bf br b1 bw w0.heap.size w0')) := by
  refine c_enter (n := 8) Tryd.func64 rfl rfl (Nat.le_of_ble_eq_true rfl) ?_; intro a hf; simp only [zipR] at hf
  have hs := St.start w0 [] (by simp)
  refine c_reg ?_
  refine vL hf (v_alloc hs T28 rfl) (by decide) ?_; clear hs hf a; rintro _ w ⟨b1, rfl, hs⟩ a hf
  refine e_nil ?_
  refine c_reg ?_
  refine callX hf hs (c_sheet09 _) rfl rfl rfl E63 (by decide) ?_; intro v w1 a hR hb hs1 hf; obtain ⟨bf, br, rfl, hch⟩ := hR; replace hs := hs.fresh hs1 (tpFresh (m := w0.heap.size) hch hs.below.size); clear hs1 hb
  refine vL hf (v_lits (len := 2) hf hs SL31 T3 (.cons rfl (.cons rfl .nil)) rfl rfl rfl rfl (by decide) rfl) (by decide) ?_; clear hs hf a; rintro _ w ⟨b2, rfl, hs⟩ a hf
  refine callL hf hs (c_Sp _ _ _) rfl rfl rfl E52 (by decide) ?_; clear hs hf a; intro w a hs hf
  refine callL hf hs (c_Only _ _) rfl rfl rfl E60 (by decide) ?_; clear hs hf a; intro w a hs hf
  refine gL hf (g_bld hf [[.int .i64 0], [.slice none 0 0], [.int .i64 0, .int .i64 0], [.int .i64 0, .int .i64 0]] (.cons rfl (.cons rfl (.cons rfl (.cons rfl .nil)))) (fun _ => by kernel_rfl)) (by decide) ?_; clear hf a; intro a hf
  refine vL hf (v_lits (len := 1) hf hs SL26 T47 (.cons rfl .nil) rfl rfl rfl rfl (by decide) rfl) (by decide) ?_; clear hs hf a; rintro _ w ⟨b3, rfl, hs⟩ a hf
  refine gL hf (g_bld hf [[.int .i64 0, .int .i64 0, .slice none 0 0, .slice none 0 0], [.int .i64 0], [.int .i64 0], [.int .i64 0], [.slice none 0 0]] (.cons rfl (.cons rfl (.cons rfl (.cons rfl (.cons rfl .nil))))) (fun _ => by kernel_rfl)) (by decide) ?_; clear hf a; intro a hf
  refine uL (u_stW hf hs T28 rfl rfl rfl (k := 2) rfl rfl rfl) ?_; clear hs; intro w hs; dsimp only [List.set] at hs
  refine e_nil ?_
  refine c_ret ?_
  refine e_res hf hs rfl (.cellA T28 rfl (k := 2) rfl rfl .nil) rfl ?_
  exact ⟨_, rfl, hs.below, bf, br, b2, b3, rfl, hs.rd (.head _), (hs.own _ _ (.tail _ (.head _))).1, (hs.own _ _ (.head _)).1, (hs.own _ _ (.tail _ (.head _))).2, (hs.own _ _ (.head _)).2⟩

end Go.Proofs.YtjjcopeedcdokaaDoor

set_option linter.unusedVariables false
set_option linter.unusedSimpArgs false
namespace Go.Proofs.YtjjcopeedcdokaaDoor
open Go.RowKit
theorem c_folded09 (ge : TypeId) (gz : Nat × Nat) (te : TypeId) (tz : Nat × Nat) (w0 : World) (hG : BlkIs 1 sidesA ge gz w0) (hT : BlkIs 0 toldA te tz w0) :
    Calls Tryd.prog 17 #[] w0 (Ret w0 (.bool true)) := by
  refine c_enter (n := 79) Tryd.func17 rfl rfl (Nat.le_of_ble_eq_true rfl) ?_; intro a hf; simp only [zipR] at hf
  have hs := St.start w0 [BlkIs 1 sidesA ge gz, BlkIs 0 toldA te tz] (stab_app hG.st1 hT.st1)
  refine c_reg ?_
  refine gL hf (g_as hf rfl) (by decide) ?_; clear hf a; intro a hf
  refine e_nil ?_
  refine c_reg ?_
  refine callX hf hs (c_sheet09 _) rfl rfl rfl E63 (by decide) ?_; intro v w1 a hR hb hs1 hf; obtain ⟨bf1, br1, rfl, hch1⟩ := hR; replace hs := hs.fresh hs1 (tpFresh (m := w0.heap.size) hch1 hs.below.size); clear hs1 hb
  refine callX hf hs (c_Order shT (some ⟨bf1, 0, none⟩) 2 (some ⟨br1, 0, none⟩) 1 ge gz _ (hs.rd (.head _)).sh (hs.rd (.tail _ (.head _)))) rfl rfl rfl E19 (by decide) ?_; intro v w1 a hR hb hs1 hf; obtain ⟨Ao, co, rfl, hou⟩ := hR; rw [t_order] at hou hf; replace hs := hs.fresh hs1 (outFresh hou); clear hs1 hb
  refine gL hf (g_mv hf rfl) (by decide) ?_; clear hf a; intro a hf
  refine gL hf (g_ext hf rfl rfl) (by decide) ?_; clear hf a; intro a hf
  refine gL hf (g_ext hf rfl rfl) (by decide) ?_; clear hf a; intro a hf
  refine gL hf (g_as hf rfl) (by decide) ?_; clear hf a; intro a hf
  refine gL hf (g_as hf rfl) (by decide) ?_; clear hf a; intro a hf
  refine e_nil ?_
  refine c_reg ?_
  refine callX hf hs (c_sheet09 _) rfl rfl rfl E63 (by decide) ?_; intro v w1 a hR hb hs1 hf; obtain ⟨bf2, br2, rfl, hch2⟩ := hR; replace hs := hs.fresh hs1 (tpFresh (m := w0.heap.size) hch2 hs.below.size); clear hs1 hb
  refine vL hf (v_lits (len := 2) hf hs SL31 T3 (.cons rfl (.cons rfl .nil)) rfl rfl rfl rfl (by decide) rfl) (by decide) ?_; clear hs hf a; rintro _ w ⟨b1, rfl, hs⟩ a hf
  have h9 := c_Does shT (some ⟨bf2, 0, none⟩) 2 (some ⟨br2, 0, none⟩) 1 _ 2 [0, 1] ge gz t_check _ (hs.rd (.head _)).sh (show Rd encI 1 (some ⟨b1, 0, none⟩) 2 [0, 1] w from rd_of_flat (sz := 1) (fun _ => rfl) (by decide) (hs.own _ _ (.head _)).2 rfl (by decide) rfl) (hs.rd (.tail _ (.tail _ (.tail _ (.head _)))))
  rw [t_does] at h9; dsimp only at h9
  refine callL hf hs (h9) rfl rfl rfl E51 (by decide) ?_; clear hs hf a; intro w a hs hf
  refine gL hf (g_mv hf rfl) (by decide) ?_; clear hf a; intro a hf
  refine gL hf (g_ext hf rfl rfl) (by decide) ?_; clear hf a; intro a hf
  refine gL hf (g_ext hf rfl rfl) (by decide) ?_; clear hf a; intro a hf
  refine gL hf (g_as hf rfl) (by decide) ?_; clear hf a; intro a hf
  refine gL hf (g_as hf rfl) (by decide) ?_; clear hf a; intro a hf
  refine e_nil ?_
  refine c_reg ?_
  refine callX hf hs (c_hands09 _) rfl rfl rfl E64 (by decide) ?_; intro v w1 a hR hb hs1 hf; obtain ⟨bf3, br3, p3, bw3, rfl, hbc⟩ := hR; replace hs := hs.fresh hs1 (tpBFresh (m := w0.heap.size) hbc hs.below.size); clear hs1 hb
  have h9 := c_PassesH (bkT (some ⟨p3, 0, none⟩)) (some ⟨bf3, 0, none⟩) 2 (some ⟨br3, 0, none⟩) 1 (some ⟨bw3, 0, none⟩) 1 ge gz 0 _ (hs.rd (.head _)).bk (hs.rd (.tail _ (.tail _ (.tail _ (.tail _ (.head _)))))) te tz (hs.rd (.tail _ (.tail _ (.tail _ (.tail _ (.tail _ (.head _)))))))
  rw [show tellP (bkT (some ⟨p3, 0, none⟩)) 0 0 = ((19, 22), 0) from t_pass _] at h9; dsimp only at h9
  refine callL hf hs (h9) rfl rfl rfl E23 (by decide) ?_; clear hs hf a; intro w a hs hf
  refine gL hf (g_mv hf rfl) (by decide) ?_; clear hf a; intro a hf
  refine gL hf (g_ext hf rfl rfl) (by decide) ?_; clear hf a; intro a hf
  refine gL hf (g_ext hf rfl rfl) (by decide) ?_; clear hf a; intro a hf
  refine vL hf (v_alloc hs T40 rfl) (by decide) ?_; clear hs hf a; rintro _ w ⟨b2, rfl, hs⟩ a hf
  refine uL (u_stW hf hs T40 rfl rfl rfl (k := 0) rfl rfl rfl) ?_; clear hs; intro w hs; dsimp only [List.set] at hs
  refine gL hf (g_as hf rfl) (by decide) ?_; clear hf a; intro a hf
  refine e_nil ?_
  refine c_reg ?_
  refine callX hf hs (c_hands09 _) rfl rfl rfl E64 (by decide) ?_; intro v w1 a hR hb hs1 hf; obtain ⟨bf4, br4, p4, bw4, rfl, hbc⟩ := hR; replace hs := hs.fresh hs1 (tpBFresh (m := w0.heap.size) hbc hs.below.size); clear hs1 hb
  have h9 := c_GetsH (bkT (some ⟨p4, 0, none⟩)) (some ⟨bf4, 0, none⟩) 2 (some ⟨br4, 0, none⟩) 1 (some ⟨bw4, 0, none⟩) 1 ge gz 0 _ (hs.rd (.head _)).bk (hs.rd (.tail _ (.tail _ (.tail _ (.tail _ (.tail _ (.head _))))))) te tz (hs.rd (.tail _ (.tail _ (.tail _ (.tail _ (.tail _ (.tail _ (.head _))))))))
  rw [show tellP (bkT (some ⟨p4, 0, none⟩)) 0 2 = ((3, 13), 0) from t_gets _] at h9; dsimp only at h9
  refine callL hf hs (h9) rfl rfl rfl E38 (by decide) ?_; clear hs hf a; intro w a hs hf
  refine gL hf (g_mv hf rfl) (by decide) ?_; clear hf a; intro a hf
  refine gL hf (g_ext hf rfl rfl) (by decide) ?_; clear hf a; intro a hf
  refine gL hf (g_ext hf rfl rfl) (by decide) ?_; clear hf a; intro a hf
  refine vL hf (v_alloc hs T40 rfl) (by decide) ?_; clear hs hf a; rintro _ w ⟨b3, rfl, hs⟩ a hf
  refine uL (u_stW hf hs T40 rfl rfl rfl (k := 0) rfl rfl rfl) ?_; clear hs; intro w hs; dsimp only [List.set] at hs
  refine gL hf (g_as hf rfl) (by decide) ?_; clear hf a; intro a hf
  refine e_nil ?_
  refine c_reg ?_
  refine callX hf hs (c_hands09 _) rfl rfl rfl E64 (by decide) ?_; intro v w1 a hR hb hs1 hf; obtain ⟨bf5, br5, p5, bw5, rfl, hbc⟩ := hR; replace hs := hs.fresh hs1 (tpBFresh (m := w0.heap.size) hbc hs.below.size); clear hs1 hb
  have h9 := c_GrossesH (bkT (some ⟨p5, 0, none⟩)) (some ⟨bf5, 0, none⟩) 2 (some ⟨br5, 0, none⟩) 1 (some ⟨bw5, 0, none⟩) 1 ge gz  _ (hs.rd (.head _)).bk (hs.rd (.tail _ (.tail _ (.tail _ (.tail _ (.tail _ (.tail _ (.head _)))))))) te tz (hs.rd (.tail _ (.tail _ (.tail _ (.tail _ (.tail _ (.tail _ (.tail _ (.head _)))))))))
  rw [show grossP (bkT (some ⟨p5, 0, none⟩)) = ((1, 2), 0) from t_gross _] at h9; dsimp only at h9
  refine callL hf hs (h9) rfl rfl rfl E25 (by decide) ?_; clear hs hf a; intro w a hs hf
  refine gL hf (g_mv hf rfl) (by decide) ?_; clear hf a; intro a hf
  refine gL hf (g_ext hf rfl rfl) (by decide) ?_; clear hf a; intro a hf
  refine gL hf (g_ext hf rfl rfl) (by decide) ?_; clear hf a; intro a hf
  refine vL hf (v_alloc hs T40 rfl) (by decide) ?_; clear hs hf a; rintro _ w ⟨b4, rfl, hs⟩ a hf
  refine uL (u_stW hf hs T40 rfl rfl rfl (k := 0) rfl rfl rfl) ?_; clear hs; intro w hs; dsimp only [List.set] at hs
  refine gL hf (g_as hf rfl) (by decide) ?_; clear hf a; intro a hf
  refine e_nil ?_
  refine c_draw _ 43 Mx rfl hs (fun _ h => h) ?_; intro w hs hS
  refine gA hf hS (i := 0) rfl (by kernel_rfl) (fun w hs => g_mv hf rfl) (by decide) ?_; clear hf a; intro a hf
  refine gA hf hS (i := 1) rfl (by kernel_rfl) (fun w hs => g_eql hf rfl rfl) (by decide) ?_; clear hf a; intro a hf; replace hf := hf.setV (v' := .bool true) rfl
  refine gA hf hS (i := 2) rfl (by kernel_rfl) (fun w hs => g_mv hf rfl) (by decide) ?_; clear hf a; intro a hf
  refine ggA (G := true) hf hS (i := 3) rfl (by kernel_rfl) rfl rfl rfl (fun _ w hs => g_mv hf rfl) (by decide) ?_; clear hf a; intro a hf
  refine ggA (G := true) hf hS (i := 4) rfl (by kernel_rfl) rfl rfl rfl (fun _ w hs => g_eql hf rfl rfl) (by decide) ?_; clear hf a; intro a hf; replace hf := hf.setV (v' := .bool true) rfl
  refine gA hf hS (i := 5) rfl (by kernel_rfl) (fun w hs => g_pick hf rfl rfl rfl) (by decide) ?_; clear hf a; intro a hf; replace hf := hf.setV (v' := .bool true) rfl
  refine gA hf hS (i := 6) rfl (by kernel_rfl) (fun w hs => g_mv hf rfl) (by decide) ?_; clear hf a; intro a hf
  refine ggA (G := true) hf hS (i := 7) rfl (by kernel_rfl) rfl rfl rfl (fun _ w hs => g_mv hf rfl) (by decide) ?_; clear hf a; intro a hf
  refine ggA (G := true) hf hS (i := 8) rfl (by kernel_rfl) rfl rfl rfl (fun _ w hs => g_eql hf rfl rfl) (by decide) ?_; clear hf a; intro a hf; replace hf := hf.setV (v' := .bool true) rfl
  refine gA hf hS (i := 9) rfl (by kernel_rfl) (fun w hs => g_pick hf rfl rfl rfl) (by decide) ?_; clear hf a; intro a hf; replace hf := hf.setV (v' := .bool true) rfl
  refine gA hf hS (i := 10) rfl (by kernel_rfl) (fun w hs => g_mv hf rfl) (by decide) ?_; clear hf a; intro a hf
  refine ggA (G := true) hf hS (i := 11) rfl (by kernel_rfl) rfl rfl rfl (fun _ w hs => g_mv hf rfl) (by decide) ?_; clear hf a; intro a hf
  refine ggA (G := true) hf hS (i := 12) rfl (by kernel_rfl) rfl rfl rfl (fun _ w hs => g_eql hf rfl rfl) (by decide) ?_; clear hf a; intro a hf; replace hf := hf.setV (v' := .bool true) rfl
  refine gA hf hS (i := 13) rfl (by kernel_rfl) (fun w hs => g_pick hf rfl rfl rfl) (by decide) ?_; clear hf a; intro a hf; replace hf := hf.setV (v' := .bool true) rfl
  refine gA hf hS (i := 14) rfl (by kernel_rfl) (fun w hs => g_mv hf rfl) (by decide) ?_; clear hf a; intro a hf
  refine ggA (G := true) hf hS (i := 15) rfl (by kernel_rfl) rfl rfl rfl (fun _ w hs => g_mv hf rfl) (by decide) ?_; clear hf a; intro a hf
  refine ggA (G := true) hf hS (i := 16) rfl (by kernel_rfl) rfl rfl rfl (fun _ w hs => g_eql hf rfl rfl) (by decide) ?_; clear hf a; intro a hf; replace hf := hf.setV (v' := .bool true) rfl
  refine gA hf hS (i := 17) rfl (by kernel_rfl) (fun w hs => g_pick hf rfl rfl rfl) (by decide) ?_; clear hf a; intro a hf; replace hf := hf.setV (v' := .bool true) rfl
  refine gA hf hS (i := 18) rfl (by kernel_rfl) (fun w hs => g_mv hf rfl) (by decide) ?_; clear hf a; intro a hf
  refine ggA (G := true) hf hS (i := 19) rfl (by kernel_rfl) rfl rfl rfl (fun _ w hs => g_mv hf rfl) (by decide) ?_; clear hf a; intro a hf
  refine one (i := 20) (by kernel_rfl) ?_
  refine oVY hf (i := 20) rfl rfl rfl rfl (v_lits (len := 2) hf hs SL31 T3 (.cons rfl (.cons rfl .nil)) rfl rfl rfl rfl (by decide) rfl) (by decide) (fun _ _ ⟨_, _, h⟩ => h.sub (.cons _ (.refl _))) ?_; clear hs hf hS a; rintro _ w ⟨b5, rfl, hs⟩ hS a hf
  refine one (i := 21) (by kernel_rfl) ?_
  refine oCallG hf hs rfl rfl rfl (G := true) rfl (fun hg => ⟨_, _, _, _, c_Alike _ _ [1, 0] _ _ [1, 0] _ (hs.rd (.tail _ (.tail _ (.tail _ (.tail _ (.head _)))))) (show Rd encI 1 (some ⟨b5, 0, none⟩) 2 [1, 0] w from rd_of_flat (sz := 1) (fun _ => rfl) (by decide) (hs.own _ _ (.head _)).2 rfl (by decide) rfl), rfl, evs_cons rfl (evs_cons rfl evs_nil), rfl⟩) E44 (by decide) (fun _ h => h.sub (.cons _ (.refl _))) ?_; clear hs hf hS a; intro w a hs hS hf
  refine gA hf hS (i := 22) rfl (by kernel_rfl) (fun w hs => g_pick hf rfl rfl rfl) (by decide) ?_; clear hf a; intro a hf; replace hf := hf.setV (v' := .bool true) rfl
  refine gA hf hS (i := 23) rfl (by kernel_rfl) (fun w hs => g_mv hf rfl) (by decide) ?_; clear hf a; intro a hf
  refine ggA (G := true) hf hS (i := 24) rfl (by kernel_rfl) rfl rfl rfl (fun _ w hs => g_mv hf rfl) (by decide) ?_; clear hf a; intro a hf
  refine ggA (G := true) hf hS (i := 25) rfl (by kernel_rfl) rfl rfl rfl (fun _ w hs => g_eql hf rfl rfl) (by decide) ?_; clear hf a; intro a hf; replace hf := hf.setV (v' := .bool true) rfl
  refine gA hf hS (i := 26) rfl (by kernel_rfl) (fun w hs => g_pick hf rfl rfl rfl) (by decide) ?_; clear hf a; intro a hf; replace hf := hf.setV (v' := .bool true) rfl
  refine gA hf hS (i := 27) rfl (by kernel_rfl) (fun w hs => g_mv hf rfl) (by decide) ?_; clear hf a; intro a hf
  refine ggA (G := true) hf hS (i := 28) rfl (by kernel_rfl) rfl rfl rfl (fun _ w hs => g_ldW hf hs T40 rfl (k := 2) rfl rfl) (by decide) ?_; clear hf a; intro a hf
  refine one (i := 29) (by kernel_rfl) ?_
  refine oCallG hf hs rfl rfl rfl (G := true) rfl (fun hg => ⟨_, _, _, _, c_Sp _ _ _, rfl, evs_cons rfl (evs_cons rfl evs_nil), rfl⟩) E52 (by decide) (fun _ h => h.sub (.cons _ (.refl _))) ?_; clear hs hf hS a; intro w a hs hS hf
  refine ggA (G := true) hf hS (i := 30) rfl (by kernel_rfl) rfl rfl rfl (fun _ w hs => g_eqS hf Q40 rfl rfl) (by decide) ?_; clear hf a; intro a hf; replace hf := hf.setV (v' := .bool true) rfl
  refine gA hf hS (i := 31) rfl (by kernel_rfl) (fun w hs => g_pick hf rfl rfl rfl) (by decide) ?_; clear hf a; intro a hf; replace hf := hf.setV (v' := .bool true) rfl
  refine gA hf hS (i := 32) rfl (by kernel_rfl) (fun w hs => g_mv hf rfl) (by decide) ?_; clear hf a; intro a hf
  refine ggA (G := true) hf hS (i := 33) rfl (by kernel_rfl) rfl rfl rfl (fun _ w hs => g_ldW hf hs T40 rfl (k := 1) rfl rfl) (by decide) ?_; clear hf a; intro a hf
  refine one (i := 34) (by kernel_rfl) ?_
  refine oCallG hf hs rfl rfl rfl (G := true) rfl (fun hg => ⟨_, _, _, _, c_Sp _ _ _, rfl, evs_cons rfl (evs_cons rfl evs_nil), rfl⟩) E52 (by decide) (fun _ h => h.sub (.cons _ (.refl _))) ?_; clear hs hf hS a; intro w a hs hS hf
  refine ggA (G := true) hf hS (i := 35) rfl (by kernel_rfl) rfl rfl rfl (fun _ w hs => g_eqS hf Q40 rfl rfl) (by decide) ?_; clear hf a; intro a hf; replace hf := hf.setV (v' := .bool true) rfl
  refine gA hf hS (i := 36) rfl (by kernel_rfl) (fun w hs => g_pick hf rfl rfl rfl) (by decide) ?_; clear hf a; intro a hf; replace hf := hf.setV (v' := .bool true) rfl
  refine gA hf hS (i := 37) rfl (by kernel_rfl) (fun w hs => g_mv hf rfl) (by decide) ?_; clear hf a; intro a hf
  refine ggA (G := true) hf hS (i := 38) rfl (by kernel_rfl) rfl rfl rfl (fun _ w hs => g_ldW hf hs T40 rfl (k := 0) rfl rfl) (by decide) ?_; clear hf a; intro a hf
  refine one (i := 39) (by kernel_rfl) ?_
  refine oCallG hf hs rfl rfl rfl (G := true) rfl (fun hg => ⟨_, _, _, _, c_Sp _ _ _, rfl, evs_cons rfl (evs_cons rfl evs_nil), rfl⟩) E52 (by decide) (fun _ h => h.sub (.cons _ (.refl _))) ?_; clear hs hf hS a; intro w a hs hS hf
  refine ggA (G := true) hf hS (i := 40) rfl (by kernel_rfl) rfl rfl rfl (fun _ w hs => g_eqS hf Q40 rfl rfl) (by decide) ?_; clear hf a; intro a hf; replace hf := hf.setV (v' := .bool true) rfl
  refine gA hf hS (i := 41) rfl (by kernel_rfl) (fun w hs => g_pick hf rfl rfl rfl) (by decide) ?_; clear hf a; intro a hf; replace hf := hf.setV (v' := .bool true) rfl
  refine gA hf hS (i := 42) rfl (by kernel_rfl) (fun w hs => g_as hf rfl) (by decide) ?_; clear hf a; intro a hf
  refine e_done (by kernel_rfl) ?_
  refine c_ret ?_
  refine e_ret1 hf rfl rfl ?_
  exact ⟨rfl, hs.below⟩

end Go.Proofs.YtjjcopeedcdokaaDoor

set_option linter.unusedVariables false
set_option linter.unusedSimpArgs false
namespace Go.Proofs.YtjjcopeedcdokaaDoor
open Go.RowKit
/-- If all fold in an order that does nobody need be taught. -/
theorem all_teach {k : Bk} (hb : hckB k = true) (hd : ∀ x ∈ k.ws, doesK k x = 2) (hw : wrongL k = []) : (teachP k).2 = 4 := by
  have hv := hck_iff.1 hb
  rcases (teach_cases hb).resolve_left (fun h9 => h9.1 hw) with ⟨_, ⟨_, h3⟩ | ⟨ho, h3⟩⟩
  · rw [h3]
  · rw [h3]
    rcases most_cases (moreZ k (orderP k.sh).1) k.ws.length with ⟨h4, _⟩ | ⟨a, ha, h4, hp, _⟩
    · rw [h4]
    · exfalso
      have hx := hv.wk ha
      have hrt := wrong_nil hw ha
      have hord := order_ord hv.ck ho
      have h5 := ends0 hv hx hrt
      have h6 := ends0 hv (reO_v hx hord.1 none 0) (by rw [right_reO]; exact hrt)
      have h7 := hd _ (getD_mem ha)
      have h8 : doesK k (reO (k.ws.getD a default) (orderP k.sh).1 none 0) = 2 := order_does hv.ck ho
      unfold moreZ at hp
      rw [h5, h6, h7, h8] at hp
      simp only at hp
      have : (reO (k.ws.getD a default) (orderP k.sh).1 none 0).bl = (k.ws.getD a default).bl := rfl
      rw [this] at hp; simp at hp
theorem all_pass {k : Bk} (hv : BkV k) {x : Wkr} (hx : WkrV k.sh x) (hd : doesK k x = 2) (hr : rightB x = true) : ofZ k 0 x = (x.bl, min x.bh (x.sheets - x.tl)) := by
  rw [ends0 hv hx hr, hd]; rfl
end Go.Proofs.YtjjcopeedcdokaaDoor

set_option linter.unusedVariables false
set_option linter.unusedSimpArgs false
namespace Go.Proofs.YtjjcopeedcdokaaDoor
open Go.RowKit
theorem c_all09 (k : Bk) (fA : Option Addr) (fc : Nat) (rA : Option Addr) (rc : Nat) (wA : Option Addr) (wc : Nat) (ge : TypeId) (gz : Nat × Nat) (hck : hckB k = true) (hd : ∀ x ∈ k.ws, doesK k x = 2) (w0 : World) (h : BkIn k fA fc rA rc wA wc w0) (hG : BlkIs 1 sidesA ge gz w0) (te : TypeId) (tz : Nat × Nat) (hT : BlkIs 0 toldA te tz w0) :
    Calls Tryd.prog 30 #[.agg #[.int .i64 k.sh.wide, .int .i64 k.sh.high, .slice fA k.sh.flaps.length fc, .slice rA k.sh.rules.length rc, .int .i64 k.gross, .int .i64 k.pay, .int .i64 k.fine, .slice wA k.ws.length wc]] w0 (Ret w0 (.bool true)) := by
  have hv := hck_iff.1 hck; have hwn := hv.n
  refine c_enter (n := 81) Tryd.func30 rfl rfl (Nat.le_of_ble_eq_true rfl) ?_; intro a hf; simp only [zipR] at hf
  have hs := St.start w0 [Rd encF 5 fA k.sh.flaps.length k.sh.flaps, Rd encR 2 rA k.sh.rules.length k.sh.rules, Rd encW 6 wA k.ws.length k.ws, OrdD k.ws, BlkIs 1 sidesA ge gz, BlkIs 0 toldA te tz] (stab_app (stab_app h.stab hG.st1) hT.st1)
  have hwm := h.W.2.1
  refine c_reg ?_
  refine vL hf (v_boxA hf hs rfl) (by decide) ?_; clear hs hf a; rintro _ w ⟨b1, rfl, hs⟩ a hf
  refine gL hf (g_as hf rfl) (by decide) ?_; clear hf a; intro a hf
  refine e_nil ?_
  refine c_reg ?_
  refine gL hf (g_ldW hf hs T28 rfl (k := 0) rfl rfl) (by decide) ?_; clear hf a; intro a hf
  refine callX hf hs (c_WrongH k _ _ _ _ _ _ ge gz _ ⟨⟨hs.rd (.head _), hs.rd (.tail _ (.head _)), h.sh.fc_, h.sh.rc_⟩, hs.rd (.tail _ (.tail _ (.head _))), h.wc_, hs.rd (.tail _ (.tail _ (.tail _ (.head _))))⟩ (hs.rd (.tail _ (.tail _ (.tail _ (.tail _ (.head _))))))) rfl rfl rfl E20 (by decide) ?_; intro v w1 a hR hb hs1 hf; obtain ⟨Ap, cp, rfl, hou⟩ := hR; replace hs := hs.fresh hs1 (outFresh hou); clear hs1 hb
  refine gL hf (g_mv hf rfl) (by decide) ?_; clear hf a; intro a hf
  refine gL hf (g_ext hf rfl rfl) (by decide) ?_; clear hf a; intro a hf
  refine gL hf (g_ext hf rfl rfl) (by decide) ?_; clear hf a; intro a hf
  refine gL hf (g_as hf rfl) (by decide) ?_; clear hf a; intro a hf
  refine gL hf (g_as hf rfl) (by decide) ?_; clear hf a; intro a hf
  refine e_nil ?_
  refine c_reg ?_
  refine gL hf (g_ldW hf hs T28 rfl (k := 0) rfl rfl) (by decide) ?_; clear hf a; intro a hf
  refine callL hf hs (c_TeachH k _ _ _ _ _ _ ge gz  _ ⟨⟨hs.rd (.tail _ (.head _)), hs.rd (.tail _ (.tail _ (.head _))), h.sh.fc_, h.sh.rc_⟩, hs.rd (.tail _ (.tail _ (.tail _ (.head _)))), h.wc_, hs.rd (.tail _ (.tail _ (.tail _ (.tail _ (.head _)))))⟩ (hs.rd (.tail _ (.tail _ (.tail _ (.tail _ (.tail _ (.head _))))))) te tz (hs.rd (.tail _ (.tail _ (.tail _ (.tail _ (.tail _ (.tail _ (.head _))))))))) rfl rfl rfl E21 (by decide) ?_; clear hs hf a; intro w a hs hf
  refine gL hf (g_mv hf rfl) (by decide) ?_; clear hf a; intro a hf
  refine gL hf (g_ext hf rfl rfl) (by decide) ?_; clear hf a; intro a hf
  refine gL hf (g_ext hf rfl rfl) (by decide) ?_; clear hf a; intro a hf
  refine gL hf (g_as hf rfl) (by decide) ?_; clear hf a; intro a hf
  refine gL hf (g_as hf rfl) (by decide) ?_; clear hf a; intro a hf
  refine e_nil ?_
  refine wp_seq ?_
  refine c_reg ?_
  refine gL hf (g_mv hf rfl) (by decide) ?_; clear hf a; intro a hf
  refine gL hf (g_neq hf rfl rfl) (by decide) ?_; clear hf a; intro a hf
  refine gL hf (g_mv hf rfl) (by decide) ?_; clear hf a; intro a hf
  refine ggL hf rfl rfl (gyes_f _) (fun hg => g_mv hf rfl) (by decide) ?_; clear hf a; intro a hf
  refine ggL hf rfl rfl (gyes_f _) (fun hg => g_len hf SL31 (ev_gv rfl hg)) (by decide) ?_; clear hf a; intro a hf
  refine ggL hf rfl rfl (gyes_f _) (fun hg => g_eql hf (ev_gv rfl hg) rfl) (by decide) ?_; clear hf a; intro a hf
  refine ggL hf rfl rfl (gyes_f _) (fun hg => g_mv hf (ev_gv rfl hg)) (by decide) ?_; clear hf a; intro a hf
  refine ggL hf rfl rfl (gyes_gt _ _) (fun hg => g_mv hf rfl) (by decide) ?_; clear hf a; intro a hf
  refine ggL hf rfl rfl (gyes_gt _ _) (fun hg => g_neq hf (ev_gv rfl hg) rfl) (by decide) ?_; clear hf a; intro a hf
  refine ggL hf rfl rfl (gyes_f _) (fun hg => g_and hf (ev_gv rfl hg) (ev_gvand rfl hg)) (by decide) ?_; clear hf a; intro a hf
  refine gL hf (g_or hf rfl rfl) (by decide) ?_; clear hf a; intro a hf
  refine gL hf (g_mv hf rfl) (by decide) ?_; clear hf a; intro a hf
  refine ggL hf rfl rfl (gyes_f _) (fun hg => g_mv hf rfl) (by decide) ?_; clear hf a; intro a hf
  refine ggL hf rfl rfl (gyes_f _) (fun hg => g_len hf SL31 (ev_gv rfl hg)) (by decide) ?_; clear hf a; intro a hf
  refine ggL hf rfl rfl (gyes_f _) (fun hg => g_gtr hf (ev_gv rfl hg) rfl) (by decide) ?_; clear hf a; intro a hf
  refine ggL hf rfl rfl (gyes_f _) (fun hg => g_mv hf (ev_gv rfl hg)) (by decide) ?_; clear hf a; intro a hf
  refine ggL hf rfl rfl (gyes_gt _ _) (fun hg => g_mv hf rfl) (by decide) ?_; clear hf a; intro a hf
  refine ggL hf rfl rfl (gyes_gt _ _) (fun hg => g_neq hf (ev_gv rfl hg) rfl) (by decide) ?_; clear hf a; intro a hf
  refine ggL hf rfl rfl (gyes_f _) (fun hg => g_and hf (ev_gv rfl hg) (ev_gvand rfl hg)) (by decide) ?_; clear hf a; intro a hf
  refine gL hf (g_or hf rfl rfl) (by decide) ?_; clear hf a; intro a hf
  refine e_nil ?_
  refine c_cond hf rfl (fun hc1 => ?_) (fun hc1 => ?_)
  · skip
    exfalso; rw [wrongP_ok hck] at hc1; by_cases hw : wrongL k = []; (rw [hw, all_teach hck hd hw] at hc1; simp at hc1); (rw [teach_wrong hck hw] at hc1; have h9 := List.length_pos_iff.2 hw; simp at hc1; first | omega | exact hw hc1)
  · skip
    refine c_skip (q_thenN ?_)
    refine wp_seq ?_
    refine c_reg ?_
    refine gL hf (g_as hf rfl) (by decide) ?_; clear hf a; intro a hf
    refine e_nil ?_
    refine c_block ?_
    refine c_loop hf hs (List.range' 2 1 ++ List.range' 7 4 ++ List.range' 41 40) (σ := Nat) (fun i => [(7, .int .i64 (i : Nat))]) (fun i => _) (fun i => i ≤ k.ws.length) (fun i => k.ws.length - i) 0 (Nat.zero_le _) (.cons rfl .nil) rfl ?_
    intro i a w hJ hf hs
    refine wp_seq ?_
    refine c_reg ?_
    refine gL hf (g_mv hf rfl) (by decide) ?_; clear hf a; intro a hf
    refine gL hf (g_fa (off' := 7) hf F28_4 rfl rfl) (by decide) ?_; clear hf a; intro a hf
    refine gL hf (g_ld hf hs T26 rfl (k := 0) rfl rfl) (by decide) ?_; clear hf a; intro a hf
    refine gL hf (g_len hf SL26 rfl) (by decide) ?_; clear hf a; intro a hf
    refine gL hf (g_lss hf rfl rfl) (by decide) ?_; clear hf a; intro a hf
    refine e_nil ?_
    refine c_cond hf rfl (fun hc2 => ?_) (fun hc2 => ?_)
    · try simp only [decide_eq_true_eq, decide_eq_false_iff_not] at hc2
      have hi : i < k.ws.length := by omega
      have hx := hv.wk hi
      have hx1 := hx.b0; have hx2 := hx.b1; have hx3 := hx.b2; have hx4 := hx.t0; have hx5 := hx.t1; have hx6 := hx.t2; have hx7 := hx.s0; have hx8 := hx.s1
      refine c_skip (q_thenN ?_)
      refine c_blockS ?_
      refine c_reg ?_
      refine gL hf (g_fa (off' := 7) hf F28_4 rfl rfl) (by decide) ?_; clear hf a; intro a hf
      refine gL hf (g_ld hf hs T26 rfl (k := 0) rfl rfl) (by decide) ?_; clear hf a; intro a hf
      refine gL hf (g_mv hf rfl) (by decide) ?_; clear hf a; intro a hf
      (first | (refine gL hf (g_ixE hf hs (.tail _ (.tail _ (.tail _ (.head _)))) SL26 rfl rfl (by omega)) (by decide) ?_) | (refine gL hf (g_ixD hf hs (.tail _ (.tail _ (.tail _ (.head _)))) SL26 rfl rfl (by omega)) (by decide) ?_)); clear hf a; intro a hf
      refine gL hf (g_ldEW hf hs (.tail _ (.tail _ (.tail _ (.head _)))) T47 rfl rfl (by omega)) (by decide) ?_; clear hf a; intro a hf
      refine vL hf (v_alloc hs T47 rfl) (by decide) ?_; clear hs hf a; rintro _ w ⟨b2, rfl, hs⟩ a hf
      refine uL (u_stW hf hs T47 rfl rfl rfl (k := 0) rfl rfl rfl) ?_; clear hs; intro w hs; dsimp only [List.set] at hs
      refine e_nil ?_
      refine c_reg ?_
      refine gL hf (g_ldW hf hs T28 rfl (k := 1) rfl rfl) (by decide) ?_; clear hf a; intro a hf
      refine gL hf (g_mv hf rfl) (by decide) ?_; clear hf a; intro a hf
      have h9 := c_PassesH k _ _ _ _ _ _ ge gz ((i : Nat) : Int) _ ⟨⟨hs.rd (.tail _ (.head _)), hs.rd (.tail _ (.tail _ (.head _))), h.sh.fc_, h.sh.rc_⟩, hs.rd (.tail _ (.tail _ (.tail _ (.head _)))), h.wc_, hs.rd (.tail _ (.tail _ (.tail _ (.tail _ (.head _)))))⟩ (hs.rd (.tail _ (.tail _ (.tail _ (.tail _ (.tail _ (.head _))))))) te tz (hs.rd (.tail _ (.tail _ (.tail _ (.tail _ (.tail _ (.tail _ (.head _))))))))
      rw [tk_eq hck hi 0] at h9
      refine callL hf hs (h9) rfl rfl rfl E23 (by decide) ?_; clear hs hf a; intro w a hs hf
      refine gL hf (g_mv hf rfl) (by decide) ?_; clear hf a; intro a hf
      refine gL hf (g_ext hf rfl rfl) (by decide) ?_; clear hf a; intro a hf
      refine gL hf (g_ext hf rfl rfl) (by decide) ?_; clear hf a; intro a hf
      refine vL hf (v_alloc hs T40 rfl) (by decide) ?_; clear hs hf a; rintro _ w ⟨b3, rfl, hs⟩ a hf
      refine uL (u_stW hf hs T40 rfl rfl rfl (k := 0) rfl rfl rfl) ?_; clear hs; intro w hs; dsimp only [List.set] at hs
      refine gL hf (g_as hf rfl) (by decide) ?_; clear hf a; intro a hf
      refine e_nil ?_
      refine wp_seq ?_
      refine c_reg ?_
      refine gL hf (g_mv hf rfl) (by decide) ?_; clear hf a; intro a hf
      refine gL hf (g_eql hf rfl rfl) (by decide) ?_; clear hf a; intro a hf
      refine e_nil ?_
      refine c_cond hf rfl (fun hc3 => ?_) (fun hc3 => ?_)
      · skip
        refine c_exit (q_thenX (q_blkX (q_thenN ?_)))
        refine c_reg1 ?_
        refine gL hf (g_mv hf rfl) (by decide) ?_; clear hf a; intro a hf
        refine gL hf (g_addI hf rfl rfl (by omega)) (by decide) ?_; clear hf a; intro a hf
        refine gL hf (g_as hf rfl) (by decide) ?_; clear hf a; intro a hf
        refine e_nil1 (q_thenN ?_)
        exact ⟨i + 1, (by omega), (by omega), hf.back (by repeat (first | (with_reducible exact Ext.base) | ((with_reducible refine Ext.cons ?_ ?_); (· rfl)) | ((with_reducible refine Ext.over ?_ ?_ ?_); (· rfl); (· rfl)))) (allKeys rfl) (.cons rfl .nil), hs.dropN 2⟩
      · skip
        have hrt : rightB (k.ws.getD i default) = true := by cases h9 : rightB (k.ws.getD i default) with | true => rfl | false => rw [tk_no h9] at hc3; simp at hc3
        refine c_skip (q_thenN ?_)
        refine c_draw _ 20 Mx rfl hs (fun _ h => h) ?_; intro w hs hS
        refine gA hf hS (i := 0) rfl (by kernel_rfl) (fun w hs => g_mv hf rfl) (by decide) ?_; clear hf a; intro a hf
        refine gA hf hS (i := 1) rfl (by kernel_rfl) (fun w hs => g_neq hf rfl rfl) (by decide) ?_; clear hf a; intro a hf
        refine gA hf hS (i := 2) rfl (by kernel_rfl) (fun w hs => g_mv hf rfl) (by decide) ?_; clear hf a; intro a hf
        refine ggA hf hS (i := 3) rfl (by kernel_rfl) rfl rfl (gyes_f _) (fun hg w hs => g_ldW hf hs T40 rfl (k := 0) rfl rfl) (by decide) ?_; clear hf a; intro a hf
        refine ggA hf hS (i := 4) rfl (by kernel_rfl) rfl rfl (gyes_f _) (fun hg w hs => g_fa (off' := 2) hf F47_2 rfl rfl) (by decide) ?_; clear hf a; intro a hf
        refine ggA hf hS (i := 5) rfl (by kernel_rfl) rfl rfl (gyes_f _) (fun hg w hs => g_fa (off' := 2) hf F40_0 (ev_gv rfl hg) rfl) (by decide) ?_; clear hf a; intro a hf
        refine ggA hf hS (i := 6) rfl (by kernel_rfl) rfl rfl (gyes_f _) (fun hg w hs => g_ld hf hs T3 (ev_gv rfl hg) (k := 1) rfl rfl) (by decide) ?_; clear hf a; intro a hf
        refine ggA hf hS (i := 7) rfl (by kernel_rfl) rfl rfl (gyes_f _) (fun hg w hs => g_fa (off' := 2) hf F47_2 rfl rfl) (by decide) ?_; clear hf a; intro a hf
        refine ggA hf hS (i := 8) rfl (by kernel_rfl) rfl rfl (gyes_f _) (fun hg w hs => g_fa (off' := 3) hf F40_1 (ev_gv rfl hg) rfl) (by decide) ?_; clear hf a; intro a hf
        refine ggA hf hS (i := 9) rfl (by kernel_rfl) rfl rfl (gyes_f _) (fun hg w hs => g_ld hf hs T3 (ev_gv rfl hg) (k := 1) rfl rfl) (by decide) ?_; clear hf a; intro a hf
        refine ggA hf hS (i := 10) rfl (by kernel_rfl) rfl rfl (gyes_f _) (fun hg w hs => g_fa (off' := 0) hf F47_0 rfl rfl) (by decide) ?_; clear hf a; intro a hf
        refine ggA hf hS (i := 11) rfl (by kernel_rfl) rfl rfl (gyes_f _) (fun hg w hs => g_ld hf hs T3 (ev_gv rfl hg) (k := 1) rfl rfl) (by decide) ?_; clear hf a; intro a hf
        refine ggA hf hS (i := 12) rfl (by kernel_rfl) rfl rfl (gyes_f _) (fun hg w hs => g_fa (off' := 4) hf F47_3 rfl rfl) (by decide) ?_; clear hf a; intro a hf
        refine ggA hf hS (i := 13) rfl (by kernel_rfl) rfl rfl (gyes_f _) (fun hg w hs => g_fa (off' := 4) hf F40_0 (ev_gv rfl hg) rfl) (by decide) ?_; clear hf a; intro a hf
        refine ggA hf hS (i := 14) rfl (by kernel_rfl) rfl rfl (gyes_f _) (fun hg w hs => g_ld hf hs T3 (ev_gv rfl hg) (k := 1) rfl rfl) (by decide) ?_; clear hf a; intro a hf
        refine ggA hf hS (i := 15) rfl (by kernel_rfl) rfl rfl (gyes_f _) (fun hg w hs => g_subI hf (ev_gv rfl hg) (ev_gv rfl hg) (by omega)) (by decide) ?_; clear hf a; intro a hf
        refine ggA hf hS (i := 16) rfl (by kernel_rfl) rfl rfl (gyes_f _) (fun hg w hs => g_min hf (ev_gv rfl hg) (ev_gv rfl hg)) (by decide) ?_; clear hf a; intro a hf
        refine one (i := 17) (by kernel_rfl) ?_
        refine oCallG hf hs rfl rfl rfl (gyes_f _) (fun hg => ⟨_, _, _, _, c_Sp _ _ _, rfl, evs_cons (ev_gv rfl hg) (evs_cons (ev_gv rfl hg) evs_nil), rfl⟩) E52 (by decide) (fun _ h => h.sub (.refl _)) ?_; clear hs hf hS a; intro w a hs hS hf
        refine ggA hf hS (i := 18) rfl (by kernel_rfl) rfl rfl (gyes_f _) (fun hg w hs => g_neS hf Q40 (ev_gv rfl hg) (ev_gv rfl hg)) (by decide) ?_; clear hf a; intro a hf
        refine gA hf hS (i := 19) rfl (by kernel_rfl) (fun w hs => g_or hf rfl rfl) (by decide) ?_; clear hf a; intro a hf
        refine e_done (by kernel_rfl) ?_
        refine c_cond hf rfl (fun hc4 => ?_) (fun hc4 => ?_)
        · skip
          exfalso; rw [tk_yes hrt, all_pass hv hx (hd _ (getD_mem hi)) hrt] at hc4; simp at hc4
        · skip
          refine c_skip (q_blkN (q_thenN ?_))
          refine c_reg1 ?_
          refine gL hf (g_mv hf rfl) (by decide) ?_; clear hf a; intro a hf
          refine gL hf (g_addI hf rfl rfl (by omega)) (by decide) ?_; clear hf a; intro a hf
          refine gL hf (g_as hf rfl) (by decide) ?_; clear hf a; intro a hf
          refine e_nil1 (q_thenN ?_)
          exact ⟨i + 1, (by omega), (by omega), hf.back (by repeat (first | (with_reducible exact Ext.base) | ((with_reducible refine Ext.cons ?_ ?_); (· rfl)) | ((with_reducible refine Ext.over ?_ ?_ ?_); (· rfl); (· rfl)))) (allKeys rfl) (.cons rfl .nil), hs.dropN 2⟩
    · try simp only [decide_eq_true_eq, decide_eq_false_iff_not] at hc2
      have hie : i = k.ws.length := by omega
      subst hie
      refine c_exit (q_thenX (q_thenX (q_blkX (q_thenN ?_))))
      refine c_reg ?_
      refine gL hf (g_as hf rfl) (by decide) ?_; clear hf a; intro a hf
      refine e_nil ?_
      refine c_ret ?_
      refine e_ret1 hf rfl rfl ?_
      exact ⟨rfl, hs.below⟩

end Go.Proofs.YtjjcopeedcdokaaDoor

set_option linter.unusedVariables false
set_option linter.unusedSimpArgs false
namespace Go.Proofs.YtjjcopeedcdokaaDoor
open Go.RowKit
/-- So many workers, from the first one on, take another order. -/
def wsTo (ws : List Wkr) (l : List Int) (A : Option Addr) (c n : Nat) : List Wkr := (ws.take n).map (fun x => reO x l A c) ++ ws.drop n
theorem wsTo_zero (ws : List Wkr) (l : List Int) (A : Option Addr) (c : Nat) : wsTo ws l A c 0 = ws := by simp [wsTo]
theorem wsTo_len (ws : List Wkr) (l : List Int) (A : Option Addr) (c n : Nat) : (wsTo ws l A c n).length = ws.length := by simp [wsTo]; omega
theorem wsTo_all (ws : List Wkr) (l : List Int) (A : Option Addr) (c : Nat) : wsTo ws l A c ws.length = ws.map fun x => reO x l A c := by simp [wsTo]
theorem wsTo_get {ws : List Wkr} {l : List Int} {A : Option Addr} {c i : Nat} (hi : i < ws.length) : (wsTo ws l A c i).getD i default = ws.getD i default := by
  unfold wsTo
  rw [List.getD_eq_getElem?_getD, List.getElem?_append_right (by simp; omega)]
  simp [List.getD_eq_getElem?_getD, Nat.min_eq_left (Nat.le_of_lt hi)]
theorem wsTo_succ {ws : List Wkr} {l : List Int} {A : Option Addr} {c i : Nat} (hi : i < ws.length) : wsTo ws l A c (i + 1) = (wsTo ws l A c i).set i (reO (ws.getD i default) l A c) := by
  unfold wsTo
  have hl : ((ws.take i).map fun x => reO x l A c).length = i := by simp; omega
  rw [List.set_append_right _ _ (by omega), hl, Nat.sub_self, show ws.drop i = ws.getD i default :: ws.drop (i + 1) by rw [List.getD_eq_getElem?_getD, List.getElem?_eq_getElem hi, Option.getD_some, ← List.drop_eq_getElem_cons hi], List.set_cons_zero, show ws.take (i + 1) = ws.take i ++ [ws.getD i default] by rw [List.getD_eq_getElem?_getD, List.getElem?_eq_getElem hi, Option.getD_some, List.take_succ_eq_append_getElem hi], List.map_append, List.map_singleton, List.append_assoc, List.singleton_append]
/-- The cell of one worker's order turned. -/
theorem acc_to {ws : List Wkr} {l : List Int} {A : Option Addr} {c i q : Nat} {bc : Nat} {cs : Array Value} (hi : i < ws.length) (hq : q = i * 6 + 1) (h : AccOK encW 6 (wsTo ws l A c i) (some (bc, cs))) :
    q < cs.size ∧ AccOK encW 6 (wsTo ws l A c (i + 1)) (some (bc, cs.setIfInBounds q (.slice A l.length c))) := by
  have := accW_set (l := wsTo ws l A c i) (x' := reO (ws.getD i default) l A c) (i := i) (r := 1) (q := q) (v := .slice A l.length c) (bc := bc) (cs := cs) (by rw [wsTo_len]; exact hi) (by decide) hq (by rw [wsTo_get hi]; rfl) h
  rwa [← wsTo_succ hi] at this
theorem ordD_to {ws : List Wkr} {X : List Nat} {w : World} {l : List Int} {A : Option Addr} {c : Nat} (hlc : l.length ≤ c) (h : Stable X w (Rd encI 1 A l.length l)) : Stable X w (OrdD (wsTo ws l A c ws.length)) := fun w' hl x hx => by
  rw [wsTo_all] at hx
  obtain ⟨y, _, rfl⟩ := List.mem_map.1 hx
  exact ⟨hlc, h w' hl⟩
/-- The same book with other rules, all workers folding in one order. -/
def topK (k : Bk) (rs : List Rule) (l : List Int) (A : Option Addr) (c : Nat) : Bk := { k with sh := { k.sh with rules := rs }, ws := wsTo k.ws l A c k.ws.length }
theorem topK_ws (k : Bk) (rs : List Rule) (l : List Int) (A : Option Addr) (c : Nat) : (topK k rs l A c).ws.length = k.ws.length := wsTo_len _ _ _ _ _
theorem topK_v {k : Bk} (hv : BkV k) {rs : List Rule} (hr : rs.Sublist k.sh.rules) {l : List Int} (ho : ordB k.sh l = true) (A : Option Addr) (c : Nat) : BkV (topK k rs l A c) :=
  ⟨valid_check (valid_sub (valid_of hv.ck) hr), hv.g1, hv.g2, hv.p1, hv.p2, hv.f1, hv.f2, by rw [topK_ws]; exact hv.n, fun x hx => by
    have hx' : x ∈ wsTo k.ws l A c k.ws.length := hx
    rw [wsTo_all] at hx'
    obtain ⟨y, hy, rfl⟩ := List.mem_map.1 hx'
    have h := hv.w y hy
    exact ⟨ho, h.s0, h.s1, h.b0, h.b1, h.b2, h.b3, h.t0, h.t1, h.t2, h.t3⟩⟩
theorem topK_d {k : Bk} {rs : List Rule} {l : List Int} {A : Option Addr} {c : Nat} (hd : (doesP { k.sh with rules := rs } l).1 = 2) : ∀ x ∈ (topK k rs l A c).ws, doesK (topK k rs l A c) x = 2 := fun x hx => by
  have hx' : x ∈ wsTo k.ws l A c k.ws.length := hx
  rw [wsTo_all] at hx'
  obtain ⟨y, hy, rfl⟩ := List.mem_map.1 hx'
  exact hd
theorem free_does {b : Sheet} (hck : checkB b = true) {l : List Int} (ho : ordB b l = true) : (doesP { b with rules := [] } l).1 = 2 := by
  rw [does_ok (b := { b with rules := [] }) (valid_check (valid_sub (valid_of hck) (List.nil_sublist _))) ho]; rfl
/-- Without the rules that must go the sheet folds. -/
theorem drop_folds {b : Sheet} (hck : checkB b = true) : (dropP b).2 = 0 ∧ growsB (dropP b).1 b.rules.length = true ∧ (orderP (unB b (dropP b).1)).2 = 0 := by
  obtain ⟨t, ht, h1, h2, _⟩ := drop_spec hck
  rw [h1, un_out]
  refine ⟨rfl, out_grows _ _, ?_⟩
  rcases top_ring (valid_check (valid_drop (valid_of hck) ((t : Nat) : Int))) with ⟨h3, _⟩ | ⟨_, h3⟩
  · rw [h3] at h2; cases h2
  · exact h3
abbrev dpL (k : Bk) : List Int := (dropP k.sh).1
abbrev dpR (k : Bk) : List Rule := unR k.sh (dpL k) k.sh.rules.length
abbrev dpO (k : Bk) : List Int := (orderP (unB k.sh (dpL k))).1
theorem topX_ok {k : Bk} (hb : hckB k = true) (A : Option Addr) (c : Nat) : hckB (topK k (dpR k) (dpO k) A c) = true ∧ ∀ x ∈ (topK k (dpR k) (dpO k) A c).ws, doesK (topK k (dpR k) (dpO k) A c) x = 2 := by
  have hv := hck_iff.1 hb
  obtain ⟨_, _, h3⟩ := drop_folds hv.ck
  have hck2 := valid_check (valid_un (valid_of hv.ck) (dpL k))
  exact ⟨hck_iff.2 (topK_v hv (un_sub _ _) (order_ord hck2 h3).1 A c), topK_d (order_does hck2 h3)⟩
/-- The worker that a number chooses. -/
def whoJ (k : Bk) (n : Int) : Nat := (spin n ((k.ws.length : Nat) : Int)).toNat
theorem who_eq {k : Bk} (h : 0 < k.ws.length) (n : Int) : spin n ((k.ws.length : Nat) : Int) = ((whoJ k n : Nat) : Int) ∧ whoJ k n < k.ws.length := by
  obtain ⟨i, h1, h2⟩ := some_nat (n := n) h
  unfold whoJ
  rw [h1]; exact ⟨by omega, by omega⟩
abbrev whoW (k : Bk) (n : Int) : Wkr := k.ws.getD (whoJ k n) default
theorem topY_ok {k : Bk} (hb : hckB k = true) (n : Int) : hckB (topK k [] (whoW k n).order (whoW k n).oA (whoW k n).oc) = true ∧ ∀ x ∈ (topK k [] (whoW k n).order (whoW k n).oA (whoW k n).oc).ws, doesK (topK k [] (whoW k n).order (whoW k n).oA (whoW k n).oc) x = 2 := by
  have hv := hck_iff.1 hb
  by_cases h : 0 < k.ws.length
  · have ho := (hv.wk (who_eq h n).2).ord
    exact ⟨hck_iff.2 (topK_v hv (List.nil_sublist _) ho _ _), topK_d (free_does hv.ck ho)⟩
  · have h0 : k.ws = [] := List.eq_nil_of_length_eq_zero (by omega)
    refine ⟨hck_iff.2 ⟨valid_check (valid_sub (valid_of hv.ck) (List.nil_sublist _)), hv.g1, hv.g2, hv.p1, hv.p2, hv.f1, hv.f2, by rw [topK_ws]; exact hv.n, fun x hx => ?_⟩, fun x hx => ?_⟩ <;>
    · have : x ∈ wsTo k.ws (whoW k n).order (whoW k n).oA (whoW k n).oc k.ws.length := hx
      rw [wsTo_all, h0] at this; simp at this
theorem whoD {k : Bk} {X : List Nat} {w : World} (h : Stable X w (OrdD k.ws)) (n : Int) : Stable X w (OrdD (wsTo k.ws (whoW k n).order (whoW k n).oA (whoW k n).oc k.ws.length)) := fun w' hl x hx => by
  rw [wsTo_all] at hx
  obtain ⟨y, hy, rfl⟩ := List.mem_map.1 hx
  have hp : 0 < k.ws.length := List.length_pos_of_mem hy
  have h9 := h w' hl (whoW k n) (getD_mem (who_eq hp n).2)
  exact h9
theorem acc_size {cs : Array Value} {q : Nat} {v : Value} : (cs.setIfInBounds q v).size = cs.size := Array.size_setIfInBounds
end Go.Proofs.YtjjcopeedcdokaaDoor

set_option linter.unusedVariables false
set_option linter.unusedSimpArgs false
namespace Go.Proofs.YtjjcopeedcdokaaDoor
open Go.RowKit
theorem c_TopSheets (k : Bk) (fA : Option Addr) (fc : Nat) (rA : Option Addr) (rc : Nat) (wA : Option Addr) (wc : Nat) (ge : TypeId) (gz : Nat × Nat) (n : Int) (w0 : World) (h : BkIn k fA fc rA rc wA wc w0) (hG : BlkIs 1 sidesA ge gz w0) (te : TypeId) (tz : Nat × Nat) (hT : BlkIs 0 toldA te tz w0) :
    Calls Tryd.prog 4 #[.agg #[.int .i64 k.sh.wide, .int .i64 k.sh.high, .slice fA k.sh.flaps.length fc, .slice rA k.sh.rules.length rc, .int .i64 k.gross, .int .i64 k.pay, .int .i64 k.fine, .slice wA k.ws.length wc], .int .i64 n] w0 (Ret w0 (.bool true)) := by
  refine c_enter (n := 118) Tryd.func4 rfl rfl (Nat.le_of_ble_eq_true rfl) ?_; intro a hf; simp only [zipR] at hf
  have hs := St.start w0 [Rd encF 5 fA k.sh.flaps.length k.sh.flaps, Rd encR 2 rA k.sh.rules.length k.sh.rules, Rd encW 6 wA k.ws.length k.ws, OrdD k.ws, BlkIs 1 sidesA ge gz, BlkIs 0 toldA te tz] (stab_app (stab_app h.stab hG.st1) hT.st1)
  have hwm := h.W.2.1
  refine c_reg ?_
  refine vL hf (v_boxA hf hs rfl) (by decide) ?_; clear hs hf a; rintro _ w ⟨b1, rfl, hs⟩ a hf
  refine gL hf (g_as hf rfl) (by decide) ?_; clear hf a; intro a hf
  refine e_nil ?_
  refine wp_seq ?_
  refine c_reg ?_
  refine gL hf (g_ldW hf hs T28 rfl (k := 0) rfl rfl) (by decide) ?_; clear hf a; intro a hf
  refine callL hf hs (c_small k _ _ _ _ _ _ ge gz _ ⟨⟨hs.rd (.head _), hs.rd (.tail _ (.head _)), h.sh.fc_, h.sh.rc_⟩, hs.rd (.tail _ (.tail _ (.head _))), h.wc_, hs.rd (.tail _ (.tail _ (.tail _ (.head _))))⟩ (hs.rd (.tail _ (.tail _ (.tail _ (.tail _ (.head _))))))) rfl rfl rfl E16 (by decide) ?_; clear hs hf a; intro w a hs hf
  refine gL hf (g_not hf rfl) (by decide) ?_; clear hf a; intro a hf
  refine e_nil ?_
  refine c_cond hf rfl (fun hc1 => ?_) (fun hc1 => ?_)
  · skip
    refine c_reg ?_
    refine callL hf hs (c_folded09 ge gz te tz _ (hs.rd (.tail _ (.tail _ (.tail _ (.tail _ (.head _)))))) (hs.rd (.tail _ (.tail _ (.tail _ (.tail _ (.tail _ (.head _)))))))) rfl rfl rfl E17 (by decide) ?_; clear hs hf a; intro w a hs hf
    refine gL hf (g_as hf rfl) (by decide) ?_; clear hf a; intro a hf
    refine e_nil ?_
    refine c_ret (q_thenR ?_)
    refine e_ret1 hf rfl rfl ?_
    exact ⟨rfl, hs.below⟩
  · skip
    have hck : hckB k = true := by simpa using hc1
    have hv := hck_iff.1 hck; have hwn := hv.n; have hrl := (valid_of hv.ck).rules
    obtain ⟨hdz1, hdz2, hdz3⟩ := drop_folds hv.ck
    refine c_skip (q_thenN ?_)
    refine c_reg ?_
    refine gL hf (g_fa (off' := 0) hf F28_0 rfl rfl) (by decide) ?_; clear hf a; intro a hf
    refine gL hf (g_ldP hf hs T25 rfl (k := 0) rfl rfl) (by decide) ?_; clear hf a; intro a hf
    refine callX hf hs (c_Drop k.sh _ _ _ _ ge gz _ ⟨hs.rd (.head _), hs.rd (.tail _ (.head _)), h.sh.fc_, h.sh.rc_⟩ (hs.rd (.tail _ (.tail _ (.tail _ (.tail _ (.head _))))))) rfl rfl rfl E28 (by decide) ?_; intro v w1 a hR hb hs1 hf; obtain ⟨Ad, cd, rfl, hod⟩ := hR; replace hs := hs.fresh hs1 (outFresh hod); clear hs1 hb
    refine gL hf (g_mv hf rfl) (by decide) ?_; clear hf a; intro a hf
    refine gL hf (g_ext hf rfl rfl) (by decide) ?_; clear hf a; intro a hf
    refine gL hf (g_ext hf rfl rfl) (by decide) ?_; clear hf a; intro a hf
    refine gL hf (g_as hf rfl) (by decide) ?_; clear hf a; intro a hf
    refine gL hf (g_as hf rfl) (by decide) ?_; clear hf a; intro a hf
    refine e_nil ?_
    refine wp_seq ?_
    refine c_reg ?_
    refine gL hf (g_mv hf rfl) (by decide) ?_; clear hf a; intro a hf
    refine gL hf (g_neq hf rfl rfl) (by decide) ?_; clear hf a; intro a hf
    refine gL hf (g_mv hf rfl) (by decide) ?_; clear hf a; intro a hf
    refine ggL hf rfl rfl (gyes_f _) (fun hg => g_mv hf rfl) (by decide) ?_; clear hf a; intro a hf
    refine ggL hf rfl rfl (gyes_f _) (fun hg => g_fa (off' := 0) hf F28_0 rfl rfl) (by decide) ?_; clear hf a; intro a hf
    refine ggL hf rfl rfl (gyes_f _) (fun hg => g_fa (off' := 3) hf F25_3 (ev_gv rfl hg) rfl) (by decide) ?_; clear hf a; intro a hf
    refine ggL hf rfl rfl (gyes_f _) (fun hg => g_ld hf hs T23 (ev_gv rfl hg) (k := 0) rfl rfl) (by decide) ?_; clear hf a; intro a hf
    refine ggL hf rfl rfl (gyes_f _) (fun hg => g_len hf SL23 (ev_gv rfl hg)) (by decide) ?_; clear hf a; intro a hf
    refine callG hf hs rfl rfl (gyes_f _) (fun hg => ⟨_, _, _, _, c_Grows _ _ _ _ (by omega) _ (hs.rd (.head _)), rfl, evs_cons (ev_gv rfl hg) (evs_cons (ev_gv rfl hg) evs_nil), rfl⟩) E29 (by decide) ?_; clear hs hf a; intro w a hs hf
    refine ggL hf rfl rfl (gyes_f _) (fun hg => g_not hf (ev_gv rfl hg)) (by decide) ?_; clear hf a; intro a hf
    refine gL hf (g_or hf rfl rfl) (by decide) ?_; clear hf a; intro a hf
    refine e_nil ?_
    refine c_cond hf rfl (fun hc2 => ?_) (fun hc2 => ?_)
    · skip
      exfalso; rw [hdz1, hdz2] at hc2; simp at hc2
    · skip
      refine c_skip (q_thenN ?_)
      refine c_reg ?_
      refine gL hf (g_ldW hf hs T28 rfl (k := 0) rfl rfl) (by decide) ?_; clear hf a; intro a hf
      refine vL hf (v_alloc hs T28 rfl) (by decide) ?_; clear hs hf a; rintro _ w ⟨b2, rfl, hs⟩ a hf
      refine uL (u_stW hf hs T28 rfl rfl rfl (k := 0) rfl rfl rfl) ?_; clear hs; intro w hs; dsimp only [List.set] at hs
      refine e_nil ?_
      refine c_reg ?_
      refine gL hf (g_fa (off' := 0) hf F28_0 rfl rfl) (by decide) ?_; clear hf a; intro a hf
      refine gL hf (g_fa (off' := 3) hf F25_3 rfl rfl) (by decide) ?_; clear hf a; intro a hf
      refine uL (u_st hf hs T23 rfl rfl rfl (k := 0) rfl (Nat.le_of_ble_eq_true rfl)) ?_; clear hs; intro w hs; dsimp only [List.set] at hs
      refine e_nil ?_
      refine c_reg ?_
      refine gL hf (g_ldW hf hs T28 rfl (k := 0) rfl rfl) (by decide) ?_; clear hf a; intro a hf
      refine vL hf (v_alloc hs T28 rfl) (by decide) ?_; clear hs hf a; rintro _ w ⟨b3, rfl, hs⟩ a hf
      refine uL (u_stW hf hs T28 rfl rfl rfl (k := 0) rfl rfl rfl) ?_; clear hs; intro w hs; dsimp only [List.set] at hs
      refine e_nil ?_
      refine wp_seq ?_
      refine c_reg ?_
      refine gL hf (g_as hf rfl) (by decide) ?_; clear hf a; intro a hf
      refine e_nil ?_
      refine c_block ?_
      refine c_loop hf hs (List.range' 9 1 ++ List.range' 38 25) (σ := (Nat × Acc)) (fun s => [(9, .int .i64 (s.1 : Nat))]) (fun s => (b3, .cells #[.int .i64 k.sh.wide, .int .i64 k.sh.high, .slice fA k.sh.flaps.length fc, .slice none 0 0, .int .i64 k.gross, .int .i64 k.pay, .int .i64 k.fine, .slice wA k.ws.length wc] 28 (0, 0)) :: (b2, .cells #[.int .i64 k.sh.wide, .int .i64 k.sh.high, .slice fA k.sh.flaps.length fc, accV 2 (unR k.sh (dpL k) s.1).length s.2, .int .i64 k.gross, .int .i64 k.pay, .int .i64 k.fine, .slice wA k.ws.length wc] 28 (0, 0)) :: (b1, .cells #[.int .i64 k.sh.wide, .int .i64 k.sh.high, .slice fA k.sh.flaps.length fc, .slice rA k.sh.rules.length rc, .int .i64 k.gross, .int .i64 k.pay, .int .i64 k.fine, .slice wA k.ws.length wc] 28 (0, 0)) :: accH 51 s.2) (fun s => s.1 ≤ k.sh.rules.length ∧ AccOK encR 2 (unR k.sh (dpL k) s.1) s.2) (fun s => k.sh.rules.length - s.1) (0, none) ⟨Nat.zero_le _, rfl⟩ (.cons rfl .nil) rfl ?_
      intro ⟨j, oy⟩ a w hJ hf hs
      dsimp only at hJ hf hs
      obtain ⟨hjle, hoy⟩ := hJ
      have hul := un_le k.sh (dpL k) j
      refine wp_seq ?_
      refine c_reg ?_
      refine gL hf (g_mv hf rfl) (by decide) ?_; clear hf a; intro a hf
      refine gL hf (g_fa (off' := 0) hf F28_0 rfl rfl) (by decide) ?_; clear hf a; intro a hf
      refine gL hf (g_fa (off' := 3) hf F25_3 rfl rfl) (by decide) ?_; clear hf a; intro a hf
      refine gL hf (g_ld hf hs T23 rfl (k := 2) rfl rfl) (by decide) ?_; clear hf a; intro a hf
      refine gL hf (g_len hf SL23 rfl) (by decide) ?_; clear hf a; intro a hf
      refine gL hf (g_lss hf rfl rfl) (by decide) ?_; clear hf a; intro a hf
      refine e_nil ?_
      refine c_cond hf rfl (fun hc3 => ?_) (fun hc3 => ?_)
      · try simp only [decide_eq_true_eq, decide_eq_false_iff_not] at hc3
        refine c_skip (q_thenN ?_)
        refine c_blockS ?_
        refine c_reg ?_
        refine gL hf (g_mv hf rfl) (by decide) ?_; clear hf a; intro a hf
        refine gL hf (g_mv hf rfl) (by decide) ?_; clear hf a; intro a hf
        refine callL hf hs (c_IndexR _ _ _ (dpL k) _ _ (hs.rd (.head _))) rfl rfl rfl E24 (by decide) ?_; clear hs hf a; intro w a hs hf
        refine gL hf (g_lss hf rfl rfl) (by decide) ?_; clear hf a; intro a hf
        refine e_nil ?_
        refine c_cond hf rfl (fun hc4 => ?_) (fun hc4 => ?_)
        · try simp only [decide_eq_true_eq, decide_eq_false_iff_not] at hc4
          have hni : ((j : Nat) : Int) ∉ (dpL k) := indexZ_neg hc4
          refine c_draw1 _ 14 Mx rfl hs (fun _ h => h.sub (.cons_cons _ (.cons _ (.cons_cons _ (List.nil_sublist _))))) ?_; intro w hs hS
          refine gA hf hS (i := 0) rfl (by kernel_rfl) (fun w hs => g_fa (off' := 0) hf F28_0 rfl rfl) (by decide) ?_; clear hf a; intro a hf
          refine gA hf hS (i := 1) rfl (by kernel_rfl) (fun w hs => g_fa (off' := 3) hf F25_3 rfl rfl) (by decide) ?_; clear hf a; intro a hf
          refine gA hf hS (i := 3) rfl (by kernel_rfl) (fun w hs => g_fa (off' := 0) hf F28_0 rfl rfl) (by decide) ?_; clear hf a; intro a hf
          refine gA hf hS (i := 4) rfl (by kernel_rfl) (fun w hs => g_fa (off' := 3) hf F25_3 rfl rfl) (by decide) ?_; clear hf a; intro a hf
          refine gA hf hS (i := 5) rfl (by kernel_rfl) (fun w hs => g_ld hf hs T23 rfl (k := 1) rfl rfl) (by decide) ?_; clear hf a; intro a hf
          refine gA hf hS (i := 6) rfl (by kernel_rfl) (fun w hs => g_mv hf rfl) (by decide) ?_; clear hf a; intro a hf
          (first | (refine gA hf hS (i := 7) rfl (by kernel_rfl) (fun w hs => g_ixE hf hs (.tail _ (.tail _ (.head _))) SL23 rfl rfl (by omega)) (by decide) ?_) | (refine gA hf hS (i := 7) rfl (by kernel_rfl) (fun w hs => g_ixD hf hs (.tail _ (.tail _ (.head _))) SL23 rfl rfl (by omega)) (by decide) ?_)); clear hf a; intro a hf
          refine gA hf hS (i := 8) rfl (by kernel_rfl) (fun w hs => g_ldEW hf hs (.tail _ (.tail _ (.head _))) T51 rfl rfl (by omega)) (by decide) ?_; clear hf a; intro a hf
          refine two (i := 2) (j := 9) (by kernel_rfl) ?_ ?_
          · skip
            refine oV hf rfl (goesV_of_gets (g_ld hf hs T23 rfl (k := 1) rfl rfl)) (by decide) (fun _ _ h => by rw [h.2]; exact hS) ?_; rintro _ w ⟨rfl, rfl⟩ hS a hf
            refine one (i := 9) (by kernel_rfl) ?_
            refine oV hf rfl (v_lits (len := 1) hf hs SL23 T51 (.cons rfl .nil) rfl rfl rfl rfl (by decide) rfl) (by decide) (fun _ _ ⟨_, _, h⟩ => h.sub (.cons _ (.cons_cons _ (.cons _ (.cons_cons _ (List.nil_sublist _)))))) ?_; clear hs hf hS a; rintro _ w ⟨b4, rfl, hs⟩ hS a hf
            refine one (i := 10) (by kernel_rfl) ?_
            refine oV hf rfl (v_accN (e := 51) (R := []) (o := oy) hf 4 hs (by simp) hoy AP23 (enc := encR) (l := unR k.sh (dpL k) j) (l' := [k.sh.rules.getD j default]) (fun _ => rfl) (by decide) (by intro x v hv9; simp only [encR, List.mem_cons, List.not_mem_nil, or_false] at hv9; rcases hv9 with rfl | rfl <;> rfl) rfl rfl rfl (rd_single (enc := encR) rfl (hs.own _ _ (.head _)).2) (by omega) (by decide)) (by decide) (fun _ _ ⟨_, _, _, h⟩ => h.sub (.cons _ (.cons_cons _ (.cons _ (.cons_cons _ (List.nil_sublist _)))))) ?_; clear hs hf hS a; rintro _ w ⟨oy2, rfl, hoy2, hs⟩ hS a hf; dsimp only [List.take, List.cons_append, List.nil_append] at hs; rw [List.append_nil] at hs
            rw [show (unR k.sh (dpL k) j).length + 1 = (unR k.sh (dpL k) (j + 1)).length by rw [un_yes hni, List.length_append]; rfl] at hf; rw [← un_yes hni] at hoy2
            refine gA hf hS (i := 11) rfl (by kernel_rfl) (fun w hs => g_fa (off' := 0) hf F28_0 rfl rfl) (by decide) ?_; clear hf a; intro a hf
            refine gA hf hS (i := 12) rfl (by kernel_rfl) (fun w hs => g_fa (off' := 3) hf F25_3 rfl rfl) (by decide) ?_; clear hf a; intro a hf
            refine one (i := 13) (by kernel_rfl) ?_
            refine oU rfl (u_st hf hs T23 rfl rfl (plain_acc _ _ _) (k := 2) rfl (Nat.le_of_ble_eq_true rfl)) (fun _ h => h.sub (.cons _ (.cons_cons _ (.cons _ (.cons_cons _ (List.nil_sublist _)))))) ?_; clear hs hS; intro w hs hS; dsimp only [List.set] at hs
            refine e_done1 (by kernel_rfl) ?_
            refine q_blkN (q_thenN ?_)
            refine c_reg1 ?_
            refine gL hf (g_mv hf rfl) (by decide) ?_; clear hf a; intro a hf
            refine gL hf (g_addI hf rfl rfl (by omega)) (by decide) ?_; clear hf a; intro a hf
            refine gL hf (g_as hf rfl) (by decide) ?_; clear hf a; intro a hf
            refine e_nil1 (q_thenN ?_)
            first | exact ⟨(j + 1, oy2), ⟨by dsimp only; omega, hoy2⟩, (by dsimp only; omega), hf.back (by repeat (first | (with_reducible exact Ext.base) | ((with_reducible refine Ext.cons ?_ ?_); (· rfl)) | ((with_reducible refine Ext.over ?_ ?_ ?_); (· rfl); (· rfl)))) (allKeys rfl) (.cons rfl .nil), (by first | exact hs.dropN 1 | (rw [← un_no hyi] at hs; exact hs.dropN 0))⟩ | exact ⟨(j + 1, oy), ⟨by dsimp only; omega, by dsimp only; rw [un_no hyi]; exact hoy⟩, (by dsimp only; omega), hf.back (by repeat (first | (with_reducible exact Ext.base) | ((with_reducible refine Ext.cons ?_ ?_); (· rfl)) | ((with_reducible refine Ext.over ?_ ?_ ?_); (· rfl); (· rfl)))) (allKeys rfl) (.cons rfl .nil), (by first | exact hs.dropN 1 | (rw [← un_no hyi] at hs; exact hs.dropN 0))⟩
          · skip
            refine oV hf rfl (v_lits (len := 1) hf hs SL23 T51 (.cons rfl .nil) rfl rfl rfl rfl (by decide) rfl) (by decide) (fun _ _ ⟨_, _, h⟩ => h.sub (.cons _ (.cons_cons _ (.cons _ (.cons_cons _ (List.nil_sublist _)))))) ?_; clear hs hf hS a; rintro _ w ⟨b4, rfl, hs⟩ hS a hf
            refine one (i := 2) (by kernel_rfl) ?_
            refine oV hf rfl (goesV_of_gets (g_ld hf hs T23 rfl (k := 2) rfl rfl)) (by decide) (fun _ _ h => by rw [h.2]; exact hS) ?_; rintro _ w ⟨rfl, rfl⟩ hS a hf
            refine one (i := 10) (by kernel_rfl) ?_
            refine oV hf rfl (v_accN (e := 51) (R := []) (o := oy) hf 4 hs (by simp) hoy AP23 (enc := encR) (l := unR k.sh (dpL k) j) (l' := [k.sh.rules.getD j default]) (fun _ => rfl) (by decide) (by intro x v hv9; simp only [encR, List.mem_cons, List.not_mem_nil, or_false] at hv9; rcases hv9 with rfl | rfl <;> rfl) rfl rfl rfl (rd_single (enc := encR) rfl (hs.own _ _ (.head _)).2) (by omega) (by decide)) (by decide) (fun _ _ ⟨_, _, _, h⟩ => h.sub (.cons _ (.cons_cons _ (.cons _ (.cons_cons _ (List.nil_sublist _)))))) ?_; clear hs hf hS a; rintro _ w ⟨oy2, rfl, hoy2, hs⟩ hS a hf; dsimp only [List.take, List.cons_append, List.nil_append] at hs; rw [List.append_nil] at hs
            rw [show (unR k.sh (dpL k) j).length + 1 = (unR k.sh (dpL k) (j + 1)).length by rw [un_yes hni, List.length_append]; rfl] at hf; rw [← un_yes hni] at hoy2
            refine gA hf hS (i := 11) rfl (by kernel_rfl) (fun w hs => g_fa (off' := 0) hf F28_0 rfl rfl) (by decide) ?_; clear hf a; intro a hf
            refine gA hf hS (i := 12) rfl (by kernel_rfl) (fun w hs => g_fa (off' := 3) hf F25_3 rfl rfl) (by decide) ?_; clear hf a; intro a hf
            refine one (i := 13) (by kernel_rfl) ?_
            refine oU rfl (u_st hf hs T23 rfl rfl (plain_acc _ _ _) (k := 2) rfl (Nat.le_of_ble_eq_true rfl)) (fun _ h => h.sub (.cons _ (.cons_cons _ (.cons _ (.cons_cons _ (List.nil_sublist _)))))) ?_; clear hs hS; intro w hs hS; dsimp only [List.set] at hs
            refine e_done1 (by kernel_rfl) ?_
            refine q_blkN (q_thenN ?_)
            refine c_reg1 ?_
            refine gL hf (g_mv hf rfl) (by decide) ?_; clear hf a; intro a hf
            refine gL hf (g_addI hf rfl rfl (by omega)) (by decide) ?_; clear hf a; intro a hf
            refine gL hf (g_as hf rfl) (by decide) ?_; clear hf a; intro a hf
            refine e_nil1 (q_thenN ?_)
            first | exact ⟨(j + 1, oy2), ⟨by dsimp only; omega, hoy2⟩, (by dsimp only; omega), hf.back (by repeat (first | (with_reducible exact Ext.base) | ((with_reducible refine Ext.cons ?_ ?_); (· rfl)) | ((with_reducible refine Ext.over ?_ ?_ ?_); (· rfl); (· rfl)))) (allKeys rfl) (.cons rfl .nil), (by first | exact hs.dropN 1 | (rw [← un_no hyi] at hs; exact hs.dropN 0))⟩ | exact ⟨(j + 1, oy), ⟨by dsimp only; omega, by dsimp only; rw [un_no hyi]; exact hoy⟩, (by dsimp only; omega), hf.back (by repeat (first | (with_reducible exact Ext.base) | ((with_reducible refine Ext.cons ?_ ?_); (· rfl)) | ((with_reducible refine Ext.over ?_ ?_ ?_); (· rfl); (· rfl)))) (allKeys rfl) (.cons rfl .nil), (by first | exact hs.dropN 1 | (rw [← un_no hyi] at hs; exact hs.dropN 0))⟩
        · try simp only [decide_eq_true_eq, decide_eq_false_iff_not] at hc4
          have hyi : ((j : Nat) : Int) ∈ (dpL k) := indexZ_pos hc4
          refine c_skip (q_blkN (q_thenN ?_))
          refine c_reg1 ?_
          refine gL hf (g_mv hf rfl) (by decide) ?_; clear hf a; intro a hf
          refine gL hf (g_addI hf rfl rfl (by omega)) (by decide) ?_; clear hf a; intro a hf
          refine gL hf (g_as hf rfl) (by decide) ?_; clear hf a; intro a hf
          refine e_nil1 (q_thenN ?_)
          first | exact ⟨(j + 1, oy2), ⟨by dsimp only; omega, hoy2⟩, (by dsimp only; omega), hf.back (by repeat (first | (with_reducible exact Ext.base) | ((with_reducible refine Ext.cons ?_ ?_); (· rfl)) | ((with_reducible refine Ext.over ?_ ?_ ?_); (· rfl); (· rfl)))) (allKeys rfl) (.cons rfl .nil), (by first | exact hs.dropN 1 | (rw [← un_no hyi] at hs; exact hs.dropN 0))⟩ | exact ⟨(j + 1, oy), ⟨by dsimp only; omega, by dsimp only; rw [un_no hyi]; exact hoy⟩, (by dsimp only; omega), hf.back (by repeat (first | (with_reducible exact Ext.base) | ((with_reducible refine Ext.cons ?_ ?_); (· rfl)) | ((with_reducible refine Ext.over ?_ ?_ ?_); (· rfl); (· rfl)))) (allKeys rfl) (.cons rfl .nil), (by first | exact hs.dropN 1 | (rw [← un_no hyi] at hs; exact hs.dropN 0))⟩
      · try simp only [decide_eq_true_eq, decide_eq_false_iff_not] at hc3
        obtain rfl : j = k.sh.rules.length := by omega
        obtain ⟨A3, c3, e3, hl3, hs⟩ := hs.freeze (R := []) (e := 51) (o := oy) (enc := encR) (sz := 2) 3 (by simp) hoy (fun _ => rfl) (by decide)
        dsimp only [List.take, List.cons_append, List.nil_append, List.append_nil] at hs
        rw [e3] at hs
        clear hoy e3 hul
        refine c_exit (q_thenX (q_thenX (q_blkX (q_thenN ?_))))
        refine c_reg ?_
        refine gL hf (g_fa (off' := 0) hf F28_0 rfl rfl) (by decide) ?_; clear hf a; intro a hf
        refine gL hf (g_ldP hf hs T25 rfl (k := 1) rfl rfl) (by decide) ?_; clear hf a; intro a hf
        refine callX hf hs (c_Order (unB k.sh (dpL k)) fA fc A3 c3 ge gz _ ⟨hs.rd (.tail _ (.tail _ (.head _))), hs.rd (.head _), h.sh.fc_, hl3⟩ (hs.rd (.tail _ (.tail _ (.tail _ (.tail _ (.tail _ (.tail _ (.head _))))))))) rfl rfl rfl E19 (by decide) ?_; intro v w1 a hR hb hs1 hf; obtain ⟨Ao, co, rfl, hoo⟩ := hR; replace hs := hs.fresh hs1 (outFresh hoo); clear hs1 hb
        refine gL hf (g_mv hf rfl) (by decide) ?_; clear hf a; intro a hf
        refine gL hf (g_ext hf rfl rfl) (by decide) ?_; clear hf a; intro a hf
        refine gL hf (g_ext hf rfl rfl) (by decide) ?_; clear hf a; intro a hf
        refine gL hf (g_as hf rfl) (by decide) ?_; clear hf a; intro a hf
        refine gL hf (g_as hf rfl) (by decide) ?_; clear hf a; intro a hf
        refine e_nil ?_
        refine wp_seq ?_
        refine c_reg ?_
        refine gL hf (g_mv hf rfl) (by decide) ?_; clear hf a; intro a hf
        refine gL hf (g_neq hf rfl rfl) (by decide) ?_; clear hf a; intro a hf
        refine e_nil ?_
        refine c_cond hf rfl (fun hc5 => ?_) (fun hc5 => ?_)
        · skip
          exfalso; rw [hdz3] at hc5; simp at hc5
        · skip
          refine c_skip (q_thenN ?_)
          refine c_drawJ _ 12 (fun a w => ∃ ox oy, AccOK encW 6 k.ws ox ∧ AccOK encW 6 k.ws oy ∧ Fr [] a 118 [(2, .pointer (some ⟨b1, 0, none⟩)), (7, .pointer (some ⟨b2, 0, none⟩)), (8, .pointer (some ⟨b3, 0, none⟩)), (10, .slice Ao (dpO k).length co), (1, .int .i64 n)] ∧ St (Base.of w0) [Rd encI 1 Ao (dpO k).length (dpO k), Rd encR 2 A3 (dpR k).length (dpR k), Rd encI 1 Ad (dpL k).length (dpL k), Rd encF 5 fA k.sh.flaps.length k.sh.flaps, Rd encR 2 rA k.sh.rules.length k.sh.rules, Rd encW 6 wA k.ws.length k.ws, OrdD k.ws, BlkIs 1 sidesA ge gz, BlkIs 0 toldA te tz] ((b3, .cells #[.int .i64 k.sh.wide, .int .i64 k.sh.high, .slice fA k.sh.flaps.length fc, .slice none 0 0, .int .i64 k.gross, .int .i64 k.pay, .int .i64 k.fine, accV 6 k.ws.length oy] 28 (0, 0)) :: (b2, .cells #[.int .i64 k.sh.wide, .int .i64 k.sh.high, .slice fA k.sh.flaps.length fc, .slice A3 (dpR k).length c3, .int .i64 k.gross, .int .i64 k.pay, .int .i64 k.fine, accV 6 k.ws.length ox] 28 (0, 0)) :: (b1, .cells #[.int .i64 k.sh.wide, .int .i64 k.sh.high, .slice fA k.sh.flaps.length fc, .slice rA k.sh.rules.length rc, .int .i64 k.gross, .int .i64 k.pay, .int .i64 k.fine, .slice wA k.ws.length wc] 28 (0, 0)) :: (accH 47 ox ++ accH 47 oy)) w) Mx rfl hs (fun _ h => h.sub (.cons _ (.cons _ (.refl _)))) ?_ ?_
          · intro w hs hS
            refine gA hf hS (i := 1) rfl (by kernel_rfl) (fun w hs => g_fa (off' := 7) hf F28_4 rfl rfl) (by decide) ?_; clear hf a; intro a hf
            refine gA hf hS (i := 2) rfl (by kernel_rfl) (fun w hs => g_ld hf hs T26 rfl (k := 0) rfl rfl) (by decide) ?_; clear hf a; intro a hf
            refine gA hf hS (i := 5) rfl (by kernel_rfl) (fun w hs => g_fa (off' := 7) hf F28_4 rfl rfl) (by decide) ?_; clear hf a; intro a hf
            refine gA hf hS (i := 6) rfl (by kernel_rfl) (fun w hs => g_ld hf hs T26 rfl (k := 0) rfl rfl) (by decide) ?_; clear hf a; intro a hf
            refine two (i := 0) (j := 4) (by kernel_rfl) ?_ ?_
            · skip
              refine oV hf rfl (v_lits (len := 0) hf hs SL26 T47 .nil rfl rfl rfl rfl (by decide) rfl) (by decide) (fun _ _ ⟨_, _, h⟩ => h.sub (.cons _ (.cons _ (.cons _ (.refl _))))) ?_; clear hs hf hS a; rintro _ w ⟨b4, rfl, hs⟩ hS a hf
              refine two (i := 3) (j := 4) (by kernel_rfl) ?_ ?_
              · skip
                refine oV hf rfl (v_accN (e := 47) (o := some (b4, #[])) (l := []) (l' := k.ws) (len := 0) hf 0 hs rfl ⟨0, rfl, Nat.le_refl _, by omega, rfl⟩ AP26 (enc := encW) (fun _ => rfl) (by decide) (by intro x v hv9; simp only [encW, List.mem_cons, List.not_mem_nil, or_false] at hv9; rcases hv9 with rfl | rfl | rfl | rfl | rfl | rfl <;> rfl) rfl rfl rfl (hs.rd (.tail _ (.tail _ (.tail _ (.tail _ (.tail _ (.head _))))))) (by omega) (by decide)) (by decide) (fun _ _ ⟨_, _, _, h⟩ => h.sub ((((List.Sublist.cons _ (List.Sublist.cons _ (.refl _)))).trans (List.sublist_append_right (accH 47 _) _)).trans (List.sublist_append_right _ _))) ?_; clear hs hf hS a; rintro _ w ⟨ox, rfl, hox, hs⟩ hS a hf; dsimp only [List.take, List.cons_append, List.nil_append] at hs
                rw [List.nil_append] at hox; simp only [Nat.zero_add] at hf
                replace hs := hs.swapN (X := accH 47 ox) 0 rfl; dsimp only [List.take, List.cons_append, List.nil_append] at hs
                refine gA hf hS (i := 8) rfl (by kernel_rfl) (fun w hs => g_fa (off' := 7) hf F28_4 rfl rfl) (by decide) ?_; clear hf a; intro a hf
                refine one (i := 4) (by kernel_rfl) ?_
                refine oV hf rfl (v_lits (len := 0) hf hs SL26 T47 .nil rfl rfl rfl rfl (by decide) rfl) (by decide) (fun _ _ ⟨_, _, h⟩ => h.sub (.cons _ (.cons _ (.cons _ (.cons_cons _ (List.nil_sublist _)))))) ?_; clear hs hf hS a; rintro _ w ⟨b5, rfl, hs⟩ hS a hf
                refine one (i := 7) (by kernel_rfl) ?_
                refine oV hf rfl (v_accN (e := 47) (o := some (b5, #[])) (l := []) (l' := k.ws) (len := 0) hf 0 hs rfl ⟨0, rfl, Nat.le_refl _, by omega, rfl⟩ AP26 (enc := encW) (fun _ => rfl) (by decide) (by intro x v hv9; simp only [encW, List.mem_cons, List.not_mem_nil, or_false] at hv9; rcases hv9 with rfl | rfl | rfl | rfl | rfl | rfl <;> rfl) rfl rfl rfl (hs.rd (.tail _ (.tail _ (.tail _ (.tail _ (.tail _ (.head _))))))) (by omega) (by decide)) (by decide) (fun _ _ ⟨_, _, _, h⟩ => h.sub ((((List.Sublist.cons _ (List.Sublist.cons _ (List.Sublist.cons_cons _ (List.nil_sublist _))))).trans (List.sublist_append_right (accH 47 _) _)).trans (List.sublist_append_right _ _))) ?_; clear hs hf hS a; rintro _ w ⟨oy, rfl, hoy, hs⟩ hS a hf; dsimp only [List.take, List.cons_append, List.nil_append] at hs
                rw [List.nil_append] at hoy; simp only [Nat.zero_add] at hf
                replace hs := hs.swapN (X := accH 47 oy) 0 rfl; dsimp only [List.take, List.cons_append, List.nil_append] at hs
                refine one (i := 9) (by kernel_rfl) ?_
                refine oU rfl (u_st hf hs T26 rfl rfl (plain_acc _ _ _) (k := 1) rfl (Nat.le_of_ble_eq_true rfl)) (fun _ h => h.sub (.cons _ (.cons _ (.cons_cons _ (List.nil_sublist _))))) ?_; clear hs hS; intro w hs hS; dsimp only [List.set] at hs
                refine gA hf hS (i := 10) rfl (by kernel_rfl) (fun w hs => g_fa (off' := 7) hf F28_4 rfl rfl) (by decide) ?_; clear hf a; intro a hf
                refine one (i := 11) (by kernel_rfl) ?_
                refine oU rfl (u_st hf hs T26 rfl rfl (plain_acc _ _ _) (k := 0) rfl (Nat.le_of_ble_eq_true rfl)) (fun _ h => h.sub (.cons _ (.cons _ (.cons_cons _ (List.nil_sublist _))))) ?_; clear hs hS; intro w hs hS; dsimp only [List.set] at hs
                refine e_doneJ (by kernel_rfl) ?_
                exact ⟨ox, oy, hox, hoy, hf.only (.cons rfl (.cons rfl (.cons rfl (.cons rfl (.cons rfl .nil))))), hs⟩
              · skip
                refine oV hf rfl (v_lits (len := 0) hf hs SL26 T47 .nil rfl rfl rfl rfl (by decide) rfl) (by decide) (fun _ _ ⟨_, _, h⟩ => h.sub (.cons _ (.cons _ (.cons _ (.cons _ (.refl _)))))) ?_; clear hs hf hS a; rintro _ w ⟨b5, rfl, hs⟩ hS a hf
                refine one (i := 3) (by kernel_rfl) ?_
                refine oV hf rfl (v_accN (e := 47) (o := some (b4, #[])) (l := []) (l' := k.ws) (len := 0) hf 1 hs rfl ⟨0, rfl, Nat.le_refl _, by omega, rfl⟩ AP26 (enc := encW) (fun _ => rfl) (by decide) (by intro x v hv9; simp only [encW, List.mem_cons, List.not_mem_nil, or_false] at hv9; rcases hv9 with rfl | rfl | rfl | rfl | rfl | rfl <;> rfl) rfl rfl rfl (hs.rd (.tail _ (.tail _ (.tail _ (.tail _ (.tail _ (.head _))))))) (by omega) (by decide)) (by decide) (fun _ _ ⟨_, _, _, h⟩ => h.sub ((((List.Sublist.cons _ (List.Sublist.cons _ (.refl _)))).trans (List.sublist_append_right (accH 47 _) _)).trans (List.sublist_append_right _ _))) ?_; clear hs hf hS a; rintro _ w ⟨ox, rfl, hox, hs⟩ hS a hf; dsimp only [List.take, List.cons_append, List.nil_append] at hs
                rw [List.nil_append] at hox; simp only [Nat.zero_add] at hf
                replace hs := hs.swapN (X := accH 47 ox) 1 rfl; dsimp only [List.take, List.cons_append, List.nil_append] at hs
                refine gA hf hS (i := 8) rfl (by kernel_rfl) (fun w hs => g_fa (off' := 7) hf F28_4 rfl rfl) (by decide) ?_; clear hf a; intro a hf
                refine one (i := 7) (by kernel_rfl) ?_
                refine oV hf rfl (v_accN (e := 47) (o := some (b5, #[])) (l := []) (l' := k.ws) (len := 0) hf 0 hs rfl ⟨0, rfl, Nat.le_refl _, by omega, rfl⟩ AP26 (enc := encW) (fun _ => rfl) (by decide) (by intro x v hv9; simp only [encW, List.mem_cons, List.not_mem_nil, or_false] at hv9; rcases hv9 with rfl | rfl | rfl | rfl | rfl | rfl <;> rfl) rfl rfl rfl (hs.rd (.tail _ (.tail _ (.tail _ (.tail _ (.tail _ (.head _))))))) (by omega) (by decide)) (by decide) (fun _ _ ⟨_, _, _, h⟩ => h.sub ((((List.Sublist.cons _ (List.Sublist.cons _ (List.Sublist.cons_cons _ (List.nil_sublist _))))).trans (List.sublist_append_right (accH 47 _) _)).trans (List.sublist_append_right _ _))) ?_; clear hs hf hS a; rintro _ w ⟨oy, rfl, hoy, hs⟩ hS a hf; dsimp only [List.take, List.cons_append, List.nil_append] at hs
                rw [List.nil_append] at hoy; simp only [Nat.zero_add] at hf
                replace hs := hs.swapN (X := accH 47 oy) 0 rfl; dsimp only [List.take, List.cons_append, List.nil_append] at hs
                refine one (i := 9) (by kernel_rfl) ?_
                refine oU rfl (u_st hf hs T26 rfl rfl (plain_acc _ _ _) (k := 1) rfl (Nat.le_of_ble_eq_true rfl)) (fun _ h => h.sub (.cons _ (.cons _ (.cons_cons _ (List.nil_sublist _))))) ?_; clear hs hS; intro w hs hS; dsimp only [List.set] at hs
                refine gA hf hS (i := 10) rfl (by kernel_rfl) (fun w hs => g_fa (off' := 7) hf F28_4 rfl rfl) (by decide) ?_; clear hf a; intro a hf
                refine one (i := 11) (by kernel_rfl) ?_
                refine oU rfl (u_st hf hs T26 rfl rfl (plain_acc _ _ _) (k := 0) rfl (Nat.le_of_ble_eq_true rfl)) (fun _ h => h.sub (.cons _ (.cons _ (.cons_cons _ (List.nil_sublist _))))) ?_; clear hs hS; intro w hs hS; dsimp only [List.set] at hs
                refine e_doneJ (by kernel_rfl) ?_
                exact ⟨ox, oy, hox, hoy, hf.only (.cons rfl (.cons rfl (.cons rfl (.cons rfl (.cons rfl .nil))))), hs⟩
            · skip
              refine oV hf rfl (v_lits (len := 0) hf hs SL26 T47 .nil rfl rfl rfl rfl (by decide) rfl) (by decide) (fun _ _ ⟨_, _, h⟩ => h.sub (.cons _ (.cons _ (.cons _ (.refl _))))) ?_; clear hs hf hS a; rintro _ w ⟨b4, rfl, hs⟩ hS a hf
              refine one (i := 0) (by kernel_rfl) ?_
              refine oV hf rfl (v_lits (len := 0) hf hs SL26 T47 .nil rfl rfl rfl rfl (by decide) rfl) (by decide) (fun _ _ ⟨_, _, h⟩ => h.sub (.cons _ (.cons _ (.cons _ (.cons _ (.refl _)))))) ?_; clear hs hf hS a; rintro _ w ⟨b5, rfl, hs⟩ hS a hf
              refine one (i := 3) (by kernel_rfl) ?_
              refine oV hf rfl (v_accN (e := 47) (o := some (b5, #[])) (l := []) (l' := k.ws) (len := 0) hf 0 hs rfl ⟨0, rfl, Nat.le_refl _, by omega, rfl⟩ AP26 (enc := encW) (fun _ => rfl) (by decide) (by intro x v hv9; simp only [encW, List.mem_cons, List.not_mem_nil, or_false] at hv9; rcases hv9 with rfl | rfl | rfl | rfl | rfl | rfl <;> rfl) rfl rfl rfl (hs.rd (.tail _ (.tail _ (.tail _ (.tail _ (.tail _ (.head _))))))) (by omega) (by decide)) (by decide) (fun _ _ ⟨_, _, _, h⟩ => h.sub ((((List.Sublist.cons _ (List.Sublist.cons _ (List.Sublist.cons _ (.refl _))))).trans (List.sublist_append_right (accH 47 _) _)).trans (List.sublist_append_right _ _))) ?_; clear hs hf hS a; rintro _ w ⟨ox, rfl, hox, hs⟩ hS a hf; dsimp only [List.take, List.cons_append, List.nil_append] at hs
              rw [List.nil_append] at hox; simp only [Nat.zero_add] at hf
              replace hs := hs.swapN (X := accH 47 ox) 0 rfl; dsimp only [List.take, List.cons_append, List.nil_append] at hs
              refine gA hf hS (i := 8) rfl (by kernel_rfl) (fun w hs => g_fa (off' := 7) hf F28_4 rfl rfl) (by decide) ?_; clear hf a; intro a hf
              refine one (i := 7) (by kernel_rfl) ?_
              refine oV hf rfl (v_accN (e := 47) (o := some (b4, #[])) (l := []) (l' := k.ws) (len := 0) hf 0 hs rfl ⟨0, rfl, Nat.le_refl _, by omega, rfl⟩ AP26 (enc := encW) (fun _ => rfl) (by decide) (by intro x v hv9; simp only [encW, List.mem_cons, List.not_mem_nil, or_false] at hv9; rcases hv9 with rfl | rfl | rfl | rfl | rfl | rfl <;> rfl) rfl rfl rfl (hs.rd (.tail _ (.tail _ (.tail _ (.tail _ (.tail _ (.head _))))))) (by omega) (by decide)) (by decide) (fun _ _ ⟨_, _, _, h⟩ => h.sub ((((List.Sublist.cons _ (List.Sublist.cons _ (List.Sublist.cons_cons _ (List.nil_sublist _))))).trans (List.sublist_append_right (accH 47 _) _)).trans (List.sublist_append_right _ _))) ?_; clear hs hf hS a; rintro _ w ⟨oy, rfl, hoy, hs⟩ hS a hf; dsimp only [List.take, List.cons_append, List.nil_append] at hs
              rw [List.nil_append] at hoy; simp only [Nat.zero_add] at hf
              replace hs := hs.swapN (X := accH 47 oy) 0 rfl; dsimp only [List.take, List.cons_append, List.nil_append] at hs
              refine one (i := 9) (by kernel_rfl) ?_
              refine oU rfl (u_st hf hs T26 rfl rfl (plain_acc _ _ _) (k := 1) rfl (Nat.le_of_ble_eq_true rfl)) (fun _ h => h.sub (.cons _ (.cons _ (.cons_cons _ (List.nil_sublist _))))) ?_; clear hs hS; intro w hs hS; dsimp only [List.set] at hs
              refine gA hf hS (i := 10) rfl (by kernel_rfl) (fun w hs => g_fa (off' := 7) hf F28_4 rfl rfl) (by decide) ?_; clear hf a; intro a hf
              refine one (i := 11) (by kernel_rfl) ?_
              refine oU rfl (u_st hf hs T26 rfl rfl (plain_acc _ _ _) (k := 0) rfl (Nat.le_of_ble_eq_true rfl)) (fun _ h => h.sub (.cons _ (.cons _ (.cons_cons _ (List.nil_sublist _))))) ?_; clear hs hS; intro w hs hS; dsimp only [List.set] at hs
              refine e_doneJ (by kernel_rfl) ?_
              exact ⟨ox, oy, hox, hoy, hf.only (.cons rfl (.cons rfl (.cons rfl (.cons rfl (.cons rfl .nil))))), hs⟩
          · clear hs hf a; rintro a w ⟨ox, oy, hox, hoy, hf, hs⟩
            refine wp_seq ?_
            refine c_reg ?_
            refine gL hf (g_as hf rfl) (by decide) ?_; clear hf a; intro a hf
            refine e_nil ?_
            refine c_block ?_
            refine c_loop hf hs (List.range' 12 1 ++ List.range' 81 28) (σ := (Nat × Acc × Acc)) (fun s => [(12, .int .i64 (s.1 : Nat))]) (fun s => (b3, .cells #[.int .i64 k.sh.wide, .int .i64 k.sh.high, .slice fA k.sh.flaps.length fc, .slice none 0 0, .int .i64 k.gross, .int .i64 k.pay, .int .i64 k.fine, accV 6 k.ws.length s.2.2] 28 (0, 0)) :: (b2, .cells #[.int .i64 k.sh.wide, .int .i64 k.sh.high, .slice fA k.sh.flaps.length fc, .slice A3 (dpR k).length c3, .int .i64 k.gross, .int .i64 k.pay, .int .i64 k.fine, accV 6 k.ws.length s.2.1] 28 (0, 0)) :: (b1, .cells #[.int .i64 k.sh.wide, .int .i64 k.sh.high, .slice fA k.sh.flaps.length fc, .slice rA k.sh.rules.length rc, .int .i64 k.gross, .int .i64 k.pay, .int .i64 k.fine, .slice wA k.ws.length wc] 28 (0, 0)) :: (accH 47 s.2.1 ++ accH 47 s.2.2)) (fun s => s.1 ≤ k.ws.length ∧ AccOK encW 6 (wsTo k.ws (dpO k) Ao co s.1) s.2.1 ∧ AccOK encW 6 (wsTo k.ws (whoW k n).order (whoW k n).oA (whoW k n).oc s.1) s.2.2) (fun s => k.ws.length - s.1) (0, ox, oy) ⟨Nat.zero_le _, by rw [wsTo_zero]; exact hox, by rw [wsTo_zero]; exact hoy⟩ (.cons rfl .nil) rfl ?_
            intro ⟨i, ax, ay⟩ a w hJ hf hs
            dsimp only at hJ hf hs
            obtain ⟨hile, hax, hay⟩ := hJ
            refine wp_seq ?_
            refine c_reg ?_
            refine gL hf (g_mv hf rfl) (by decide) ?_; clear hf a; intro a hf
            refine gL hf (g_fa (off' := 7) hf F28_4 rfl rfl) (by decide) ?_; clear hf a; intro a hf
            refine gL hf (g_ld hf hs T26 rfl (k := 2) rfl rfl) (by decide) ?_; clear hf a; intro a hf
            refine gL hf (g_len hf SL26 rfl) (by decide) ?_; clear hf a; intro a hf
            refine gL hf (g_lss hf rfl rfl) (by decide) ?_; clear hf a; intro a hf
            refine e_nil ?_
            refine c_cond hf rfl (fun hc6 => ?_) (fun hc6 => ?_)
            · try simp only [decide_eq_true_eq, decide_eq_false_iff_not] at hc6
              have hi : i < k.ws.length := by omega
              obtain ⟨bcx, csx, rfl⟩ := acc_some hax (by rw [wsTo_len]; omega)
              obtain ⟨bcy, csy, rfl⟩ := acc_some hay (by rw [wsTo_len]; omega)
              dsimp only [accV, accH, List.cons_append, List.nil_append] at hs
              refine c_skip (q_thenN ?_)
              refine c_blockS ?_
              refine c_reg ?_
              refine gL hf (g_fa (off' := 7) hf F28_4 rfl rfl) (by decide) ?_; clear hf a; intro a hf
              refine gL hf (g_ld hf hs T26 rfl (k := 1) rfl rfl) (by decide) ?_; clear hf a; intro a hf
              refine gL hf (g_mv hf rfl) (by decide) ?_; clear hf a; intro a hf
              refine gL hf (g_mv hf rfl) (by decide) ?_; clear hf a; intro a hf
              refine gL hf (g_ixO hf SL26 rfl rfl (by omega)) (by decide) ?_; clear hf a; intro a hf
              refine gL hf (g_fa hf F47_1 rfl rfl) (by decide) ?_; clear hf a; intro a hf
              refine uL (u_st hf hs T31 rfl rfl rfl (k := 3) rfl (acc_to hi (by omega) hax).1) ?_; clear hs; intro w hs; dsimp only [List.set] at hs
              have hax2 := (acc_to (q := (0 + i * 6 + 1)) hi (by omega) hax).2
              have hszx : (csx.setIfInBounds (0 + i * 6 + 1) (.slice Ao (dpO k).length co)).size = csx.size := acc_size
              refine e_nil ?_
              refine c_draw1 _ 16 Mx rfl hs (fun _ h => h.sub (.cons_cons _ (.cons_cons _ (.cons_cons _ (.cons_cons _ (List.nil_sublist _)))))) ?_; intro w hs hS
              refine gA hf hS (i := 0) rfl (by kernel_rfl) (fun w hs => g_fa (off' := 7) hf F28_4 rfl rfl) (by decide) ?_; clear hf a; intro a hf
              refine gA hf hS (i := 1) rfl (by kernel_rfl) (fun w hs => g_ld hf hs T26 rfl (k := 0) rfl rfl) (by decide) ?_; clear hf a; intro a hf
              refine gA hf hS (i := 2) rfl (by kernel_rfl) (fun w hs => g_mv hf rfl) (by decide) ?_; clear hf a; intro a hf
              refine gA hf hS (i := 3) rfl (by kernel_rfl) (fun w hs => g_fa (off' := 7) hf F28_4 rfl rfl) (by decide) ?_; clear hf a; intro a hf
              refine gA hf hS (i := 4) rfl (by kernel_rfl) (fun w hs => g_ld hf hs T26 rfl (k := 2) rfl rfl) (by decide) ?_; clear hf a; intro a hf
              refine gA hf hS (i := 5) rfl (by kernel_rfl) (fun w hs => g_mv hf rfl) (by decide) ?_; clear hf a; intro a hf
              refine gA hf hS (i := 6) rfl (by kernel_rfl) (fun w hs => g_fa (off' := 7) hf F28_4 rfl rfl) (by decide) ?_; clear hf a; intro a hf
              refine gA hf hS (i := 7) rfl (by kernel_rfl) (fun w hs => g_ld hf hs T26 rfl (k := 2) rfl rfl) (by decide) ?_; clear hf a; intro a hf
              refine gA hf hS (i := 8) rfl (by kernel_rfl) (fun w hs => g_len hf SL26 rfl) (by decide) ?_; clear hf a; intro a hf
              refine one (i := 9) (by kernel_rfl) ?_
              refine oCall hf hs rfl (c_Spin _ _ (by omega) _) rfl rfl rfl E22 (by decide) (fun _ h => h.sub (.cons_cons _ (.cons_cons _ (.cons_cons _ (.cons_cons _ (List.nil_sublist _)))))) ?_; clear hs hf hS a; intro w a hs hS hf
              obtain ⟨hje, hjl⟩ := who_eq (k := k) (by omega) n
              rw [hje] at hf
              (first | (refine gA hf hS (i := 10) rfl (by kernel_rfl) (fun w hs => g_ixE hf hs (.tail _ (.tail _ (.tail _ (.tail _ (.tail _ (.head _)))))) SL26 rfl rfl (by omega)) (by decide) ?_) | (refine gA hf hS (i := 10) rfl (by kernel_rfl) (fun w hs => g_ixD hf hs (.tail _ (.tail _ (.tail _ (.tail _ (.tail _ (.head _)))))) SL26 rfl rfl (by omega)) (by decide) ?_)); clear hf a; intro a hf
              refine gA hf hS (i := 11) rfl (by kernel_rfl) (fun w hs => g_faD (j' := 1) hf hs (.tail _ (.tail _ (.tail _ (.tail _ (.tail _ (.head _)))))) F47_1 rfl (by omega) rfl) (by decide) ?_; clear hf a; intro a hf
              refine gA hf hS (i := 12) rfl (by kernel_rfl) (fun w hs => g_ldE hf hs (.tail _ (.tail _ (.tail _ (.tail _ (.tail _ (.head _)))))) T31 rfl rfl (by omega)) (by decide) ?_; clear hf a; intro a hf
              refine gA hf hS (i := 13) rfl (by kernel_rfl) (fun w hs => g_ixO hf SL26 rfl rfl (by omega)) (by decide) ?_; clear hf a; intro a hf
              refine gA hf hS (i := 14) rfl (by kernel_rfl) (fun w hs => g_fa hf F47_1 rfl rfl) (by decide) ?_; clear hf a; intro a hf
              refine one (i := 15) (by kernel_rfl) ?_
              refine oU rfl (u_st hf hs T31 rfl rfl rfl (k := 4) rfl (acc_to hi (by omega) hay).1) (fun _ h => h.sub (.cons_cons _ (.cons_cons _ (.cons_cons _ (.cons_cons _ (List.nil_sublist _)))))) ?_; clear hs hS; intro w hs hS; dsimp only [List.set] at hs
              have hay2 := (acc_to (q := (0 + i * 6 + 1)) hi (by omega) hay).2
              have hszy : (csy.setIfInBounds (0 + i * 6 + 1) (.slice (whoW k n).oA (whoW k n).order.length (whoW k n).oc)).size = csy.size := acc_size
              rw [← hszx, ← hszy] at hs
              refine e_done1 (by kernel_rfl) ?_
              refine q_blkN (q_thenN ?_)
              refine c_reg1 ?_
              refine gL hf (g_mv hf rfl) (by decide) ?_; clear hf a; intro a hf
              refine gL hf (g_addI hf rfl rfl (by omega)) (by decide) ?_; clear hf a; intro a hf
              refine gL hf (g_as hf rfl) (by decide) ?_; clear hf a; intro a hf
              refine e_nil1 (q_thenN ?_)
              exact ⟨(i + 1, some (bcx, csx.setIfInBounds (0 + i * 6 + 1) (.slice Ao (dpO k).length co)), some (bcy, csy.setIfInBounds (0 + i * 6 + 1) (.slice (whoW k n).oA (whoW k n).order.length (whoW k n).oc))), ⟨by dsimp only; omega, hax2, hay2⟩, (by dsimp only; omega), hf.back (by repeat (first | (with_reducible exact Ext.base) | ((with_reducible refine Ext.cons ?_ ?_); (· rfl)) | ((with_reducible refine Ext.over ?_ ?_ ?_); (· rfl); (· rfl)))) (allKeys rfl) (.cons rfl .nil), hs⟩
            · try simp only [decide_eq_true_eq, decide_eq_false_iff_not] at hc6
              have hie : i = k.ws.length := by omega
              subst hie
              obtain ⟨Ax, cx, ex, hlx, hs⟩ := hs.freeze (R := accH 47 ay) (e := 47) (o := ax) (enc := encW) (sz := 6) 3 rfl hax (fun _ => rfl) (by decide)
              dsimp only [List.take, List.cons_append, List.nil_append] at hs
              obtain ⟨Ay, cy, ey, hly, hs⟩ := hs.freeze (R := []) (e := 47) (o := ay) (enc := encW) (sz := 6) 3 (by simp) hay (fun _ => rfl) (by decide)
              dsimp only [List.take, List.cons_append, List.nil_append, List.append_nil] at hs
              rw [wsTo_len] at ex ey hlx hly
              rw [ex, ey] at hs
              replace hs := hs.addD (ordD_to (ws := k.ws) hoo.1 (hs.data _ (.tail _ (.tail _ (.head _)))))
              replace hs := hs.addD (whoD (hs.data _ (.tail _ (.tail _ (.tail _ (.tail _ (.tail _ (.tail _ (.tail _ (.tail _ (.tail _ (.head _))))))))))) n)
              refine c_exit (q_thenX (q_thenX (q_blkX (q_thenN ?_))))
              refine c_reg ?_
              refine gL hf (g_ldW hf hs T28 rfl (k := 1) rfl rfl) (by decide) ?_; clear hf a; intro a hf
              obtain ⟨hb9, hd9⟩ := topX_ok hck Ao co
              have h9 := c_all09 (topK k (dpR k) (dpO k) Ao co) fA fc A3 c3 Ax cx ge gz hb9 hd9 _ (show BkIn (topK k (dpR k) (dpO k) Ao co) fA fc A3 c3 Ax cx _ from ⟨⟨hs.rd (.tail _ (.tail _ (.tail _ (.tail _ (.tail _ (.tail _ (.tail _ (.head _)))))))), hs.rd (.tail _ (.tail _ (.tail _ (.tail _ (.tail _ (.head _)))))), h.sh.fc_, hl3⟩, hs.rd (.tail _ (.tail _ (.tail _ (.head _)))), by rw [topK_ws]; exact hlx, hs.rd (.tail _ (.head _))⟩) (hs.rd (.tail _ (.tail _ (.tail _ (.tail _ (.tail _ (.tail _ (.tail _ (.tail _ (.tail _ (.tail _ (.tail _ (.head _))))))))))))) te tz (hs.rd (.tail _ (.tail _ (.tail _ (.tail _ (.tail _ (.tail _ (.tail _ (.tail _ (.tail _ (.tail _ (.tail _ (.tail _ (.head _))))))))))))))
              simp only [topK_ws] at h9
              refine callL hf hs (h9) rfl rfl rfl E30 (by decide) ?_; clear hs hf a; intro w a hs hf
              refine gL hf (g_mv hf rfl) (by decide) ?_; clear hf a; intro a hf
              refine ggL hf rfl rfl (gyes_t _) (fun hg => g_ldW hf hs T28 rfl (k := 0) rfl rfl) (by decide) ?_; clear hf a; intro a hf
              obtain ⟨hb9, hd9⟩ := topY_ok hck n
              have h9 := c_all09 (topK k [] (whoW k n).order (whoW k n).oA (whoW k n).oc) fA fc none 0 Ay cy ge gz hb9 hd9 _ (show BkIn (topK k [] (whoW k n).order (whoW k n).oA (whoW k n).oc) fA fc none 0 Ay cy _ from ⟨⟨hs.rd (.tail _ (.tail _ (.tail _ (.tail _ (.tail _ (.tail _ (.tail _ (.head _)))))))), rd_nil, h.sh.fc_, (Nat.le_refl _)⟩, hs.rd (.tail _ (.tail _ (.head _))), by rw [topK_ws]; exact hly, hs.rd (.head _)⟩) (hs.rd (.tail _ (.tail _ (.tail _ (.tail _ (.tail _ (.tail _ (.tail _ (.tail _ (.tail _ (.tail _ (.tail _ (.head _))))))))))))) te tz (hs.rd (.tail _ (.tail _ (.tail _ (.tail _ (.tail _ (.tail _ (.tail _ (.tail _ (.tail _ (.tail _ (.tail _ (.tail _ (.head _))))))))))))))
              simp only [topK_ws] at h9
              refine callG hf hs rfl rfl (gyes_t _) (fun hg => ⟨_, _, _, _, h9, rfl, evs_cons (ev_gv rfl hg) evs_nil, rfl⟩) E30 (by decide) ?_; clear hs hf a; intro w a hs hf
              refine gL hf (g_and hf rfl rfl) (by decide) ?_; clear hf a; intro a hf
              refine gL hf (g_mv hf rfl) (by decide) ?_; clear hf a; intro a hf
              refine callG hf hs rfl rfl (gyes_t _) (fun hg => ⟨_, _, _, _, c_folded09 ge gz te tz _ (hs.rd (.tail _ (.tail _ (.tail _ (.tail _ (.tail _ (.tail _ (.tail _ (.tail _ (.tail _ (.tail _ (.tail _ (.head _))))))))))))) (hs.rd (.tail _ (.tail _ (.tail _ (.tail _ (.tail _ (.tail _ (.tail _ (.tail _ (.tail _ (.tail _ (.tail _ (.tail _ (.head _)))))))))))))), rfl, evs_nil, rfl⟩) E17 (by decide) ?_; clear hs hf a; intro w a hs hf
              refine gL hf (g_and hf rfl rfl) (by decide) ?_; clear hf a; intro a hf
              refine gL hf (g_as hf rfl) (by decide) ?_; clear hf a; intro a hf
              refine e_nil ?_
              refine c_ret ?_
              refine e_ret1 hf rfl rfl ?_
              exact ⟨rfl, hs.below⟩

end Go.Proofs.YtjjcopeedcdokaaDoor

set_option linter.unusedVariables false
namespace Go.Proofs.YtjjcopeedcdokaaDoor
open Go.ChangeShapes Go.WideShapes Go.ChangeAt Go.RowKit
set_option maxRecDepth 100000 in
theorem lifted4 (os : Os) (started : os.Started) (H : Type) (enc : TypeId × Value → H) :
    ReturnsInHanded {} Tryd.checked os 4 .any (fun w args => (Rows.topSheetsSpec.pre enc Tryd.prog Tryd.f4 [] false w args ∧ laidMetH Tryd.prog laid1 w) ∧ sizedMet enc Tryd.prog Tryd.f4 (OpenSpec.ofChange Rows.topSheetsSpec) false w args)
      (Rows.topSheetsSpec.post enc Tryd.prog Tryd.f4 false true false false) := by
  refine returnsInHanded_of_change_and (C := Tryd.checked) (X := fun w _ => laidMetH Tryd.prog laid1 w) (fun _ _ _ hh h => h.of_heap hh) pOwn started (by kernel_rfl) Tryd.func4
    (ChangeSpec.witness_shaped (enc := enc) (C := Tryd.checked) (os := os) (X := fun w _ => laidMetH Tryd.prog laid1 w) false (World.doorLaid Tryd.prog 600 os) #[.agg #[.int .i64 0, .int .i64 0, .slice none 0 0, .slice none 0 0, .int .i64 0, .int .i64 0, .int .i64 0, .slice none 0 0], .int .i64 0] 8 rfl (World.shaped_of_RefB (by kernel_rfl) (by kernel_rfl)) (by kernel_rfl) (by kernel_rfl) (by kernel_rfl) (door_met os _)) ?_
  intro W base args ds gs before hval0 hW _ _ hL _
  have hval : ∀ (j : Nat) t v, Tryd.f4.params[j]? = some t → args[j]? = some v → Value.okWide Tryd.prog W .any base t v := hval0
  have hW' := hW
  obtain ⟨p, q, hA0, hV, rfl, hfz, hnd⟩ := hW
  have hA : DataW.TrodAll enc Tryd.prog W 0 (fun _ => true) true Tryd.f4.params.toList args.toList ds p := hA0
  have hA9 := hA
  rw [Tryd.params4] at hA hval
  obtain ⟨v0, v1, d0, d1, p0, p1, rfl, rfl, rfl, h0, h1⟩ := trodAll_two hA
  obtain ⟨rfl, rfl⟩ := trodVars_none hV
  obtain ⟨k, fA, fc, rA, rc, wA, wc, rfl, hbk⟩ := open_book (hval 0 28 v0 rfl rfl) h0
  obtain ⟨i, rfl, rfl, rfl, wi⟩ := open_int Tryd.underlying3 (hval 1 3 v1 rfl rfl) h1
  obtain ⟨ge, gz, hG⟩ := of_laid hL
  obtain ⟨te, tz, hT⟩ := of_told hL
  refine (c_TopSheets k fA fc rA rc wA wc ge gz i W hbk hG te tz hT).mono fun e W' ⟨he, hb⟩ => ?_
  subst he
  exact ⟨_, rfl, law_post rfl rfl rfl (by kernel_rfl) hW' rfl hA9 hb⟩
theorem row4 : Rows.TopSheetsSaid :=
  OpenClaim.holds_of_wide 4 Tryd.f4 rfl rfl rfl rfl rfl rfl rfl ⟨rfl, rfl, rfl, rfl, rfl⟩ rfl rfl rfl rfl rfl (by kernel_rfl) Tryd.func4 (by kernel_rfl)
    (of_decide_eq_true (by kernel_rfl)) (by unfold Func.isWrapper; first | (rw [if_pos (by decide +kernel)]; kernel_rfl) | (rw [if_neg (by decide +kernel)]; exact ⟨rfl, rfl⟩))
    (fun os started H enc _ => lifted4 os started H enc)
/-- The card. -/
theorem topSheets_holds : Rows.TopSheetsCardSaid :=
  Claim7.holds_tied_plain_at .later [] [.funcs, .funcs] true (true, "812014c6ba21101d15e02d82012ffa61e4b3f2f84e9c736658d12c12a3cb442a") false
    row4 (fun _ h => by cases h) (by kernel_rfl) (fun _ h => by cases h) topSheets_row_tie rfl ⟨rfl, rfl⟩ (by kernel_rfl) rfl
    (fun f fn hf hfn => by
      obtain rfl : f = 4 := Option.some.inj ((show Tryd.prog.funcNamed "lucifer/lucifertop.TopSheets" = some 4 by kernel_rfl).symm.trans hf) |>.symm
      obtain rfl : fn = Tryd.f4 := (Option.some.inj (Tryd.func4.symm.trans hfn)).symm
      exact ⟨by kernel_rfl, fun j t ht => by
        rw [Tryd.params4] at ht
        have hm : t ∈ [28, 3] := by simpa using Array.mem_of_getElem? ht
        have hall : ([28, 3].all fun u => !Tryd.prog.wantsStandIn u) = true := by kernel_rfl
        exact (show Tryd.prog.wantsStandIn t = false by simpa using List.all_eq_true.1 hall t hm)⟩)
    (by kernel_rfl)
#print axioms topSheets_holds
end Go.Proofs.YtjjcopeedcdokaaDoor

