/- Part 2 of the proof of FoldDrops: laws of the engine, plain facts and contracts of the functions that the law reaches. Conditions: none beyond those of each theorem. -/
import Derived.Test.YtpjhffockmnjbaaDoorFoldDropsA
import Derived.Scope
set_option linter.unusedVariables false
set_option linter.unusedSimpArgs false
namespace Go.Proofs.YtpjhffockmnjbaaDoor
open Go.RowKit

/-! ### The plain side: the orders, one behind the other -/
def ordStep (b : Sheet) (mp : MP) (p : List Int) (d : List Bool) (f : List Int → List Bool → List (List Int)) (i : Nat) : List (List Int) :=
  if (d.getD i false || stopB b mp d i) = true then [] else f (p ++ [(i : Int)]) (d.set i true)
def ordsF (b : Sheet) (mp : MP) : Nat → List Int → List Bool → List (List Int)
  | 0, p, d => [p]
  | k + 1, p, d => (List.range b.flaps.length).flatMap (ordStep b mp p d (ordsF b mp k))
def allOrds (b : Sheet) (mp : MP) : List (List Int) := ordsF b mp b.flaps.length [] (List.replicate 7 false)
/-- The same, of the sheet alone. -/
def stopP (b : Sheet) (d : List Bool) (i : Int) : Bool := b.rules.any fun r => r.over == i && decide (0 < cellN b 2 r.over r.under) && !d.getD r.under.toNat false
def ordStepP (b : Sheet) (p : List Int) (d : List Bool) (f : List Int → List Bool → List (List Int)) (i : Nat) : List (List Int) :=
  if (d.getD i false || stopP b d i) = true then [] else f (p ++ [(i : Int)]) (d.set i true)
def ordsP (b : Sheet) : Nat → List Int → List Bool → List (List Int)
  | 0, p, d => [p]
  | k + 1, p, d => (List.range b.flaps.length).flatMap (ordStepP b p d (ordsP b k))
def allO (b : Sheet) : List (List Int) := ordsP b b.flaps.length [] (List.replicate 7 false)
theorem stop_eq {b : Sheet} (hv : Valid b) {mp : MP} (hm : meetsOK b mp) (d : List Bool) (i : Int) : stopB b mp d i = stopP b d i := by
  unfold stopB stopP
  rw [Bool.eq_iff_iff, List.any_eq_true, List.any_eq_true]
  constructor
  · rintro ⟨r, hr, h⟩
    refine ⟨r, hr, ?_⟩
    rw [stopAt, meets_rule hv hm hr] at h; exact h
  · rintro ⟨r, hr, h⟩
    refine ⟨r, hr, ?_⟩
    rw [stopAt, meets_rule hv hm hr]; exact h
theorem ords_eq {b : Sheet} (hv : Valid b) {mp : MP} (hm : meetsOK b mp) : ∀ (k : Nat) (p : List Int) (d : List Bool), ordsF b mp k p d = ordsP b k p d
  | 0, p, d => rfl
  | k + 1, p, d => by
    have h1 : ordsF b mp k = ordsP b k := by funext p d; exact ords_eq hv hm k p d
    have h2 : ordStep b mp p d (ordsF b mp k) = ordStepP b p d (ordsP b k) := by
      funext i; unfold ordStep ordStepP; rw [stop_eq hv hm, h1]
    simp only [ordsF, ordsP, h2]
theorem allOrds_eq {b : Sheet} (hv : Valid b) {mp : MP} (hm : meetsOK b mp) : allOrds b mp = allO b := ords_eq hv hm _ _ _
theorem ordsP_length (b : Sheet) : ∀ (k : Nat) (p : List Int) (d : List Bool), ∀ x ∈ ordsP b k p d, x.length = p.length + k
  | 0, p, d, x, h => by simp [ordsP] at h; simp [h]
  | k + 1, p, d, x, h => by
    simp only [ordsP, List.mem_flatMap, ordStepP] at h
    obtain ⟨i, _, hi⟩ := h
    split at hi
    · cases hi
    · have := ordsP_length b k _ _ x hi; simp at this; omega
theorem fm_len {α : Type} (g : Nat → List α) (m : Nat) (h : ∀ i, (g i).length ≤ m) : ∀ n, ((List.range n).flatMap g).length ≤ n * m
  | 0 => by simp
  | n + 1 => by
    have h1 := fm_len g m h n
    have h2 := h n
    rw [List.range_succ, List.flatMap_append, List.length_append, Nat.add_mul]
    simp only [List.flatMap_cons, List.flatMap_nil, List.append_nil]
    omega
theorem ordsP_len (b : Sheet) : ∀ (k : Nat) (p : List Int) (d : List Bool), (ordsP b k p d).length ≤ b.flaps.length ^ k
  | 0, p, d => by simp [ordsP]
  | k + 1, p, d => by
    rw [Nat.pow_succ, Nat.mul_comm]
    refine fm_len _ _ (fun i => ?_) _
    unfold ordStepP
    split
    · simp
    · exact ordsP_len b k _ _
theorem allO_le {b : Sheet} (hv : Valid b) : (allO b).length ≤ 823543 := by
  refine Nat.le_trans (ordsP_len b _ _ _) ?_
  have := hv.many
  calc b.flaps.length ^ b.flaps.length ≤ 7 ^ b.flaps.length := Nat.pow_le_pow_left this.2 _
    _ ≤ 7 ^ 7 := Nat.pow_le_pow_right (by decide) this.2
    _ = 823543 := by decide
def orderP (b : Sheet) : List Int × Int := if askE b true = 0 then (match allO b with | [] => ([], 4) | x :: _ => (x, 0)) else ([], askE b true)
def countP (b : Sheet) : Int × Int := if askE b true = 0 then ((allO b).length, 0) else (0, askE b true)
/-- A list that is handed back: in new memory. -/
def Out (l : List Int) (A : Option Addr) (c : Nat) (w w' : World) : Prop := l.length ≤ c ∧ Rd encI 1 A l.length l w' ∧ ∀ b o, A = some ⟨b, o, none⟩ → w.heap.size ≤ b
theorem fm_succ {α : Type} (g : Nat → List α) (i : Nat) : (List.range (i + 1)).flatMap g = (List.range i).flatMap g ++ g i := by
  rw [List.range_succ, List.flatMap_append]; simp
theorem fm_prefix {α : Type} (g : Nat → List α) {i n : Nat} (h : i ≤ n) : (List.range i).flatMap g <+: (List.range n).flatMap g := by
  obtain ⟨m, rfl⟩ := Nat.le.dest h
  rw [List.range_add, List.flatMap_append]
  exact List.prefix_append _ _
theorem dn_plain (d : List Bool) : (d.map Value.bool).all plain = true := by
  simp [List.all_eq_true, plain]

/-! ### A base whose owner hands control away -/
abbrev Kept (M0 : Nat) := { K : World → Prop // ∀ A B, K A → Below M0 A B → K B }
def Base.it (we : World) (X : List Nat) (M0 : Nat) (hX : ∀ i ∈ X, i < M0) (hM : M0 ≤ we.heap.size) (K : Kept M0) : Base where
  mine := fun i => we.heap.size ≤ i
  ex := X
  rel := fun w => Later X we w ∧ K.1 w
  new := fun w h i hi => Nat.le_trans h.1.1 hi
  exno := fun w h i hi => by have := hX i hi; have := h.1.1; omega
  exm := fun i hi => by have := hX i hi; omega
  closed := fun a b h k => ⟨⟨Nat.le_trans h.1.1 k.size, fun i hi hn => (k.block i (Nat.lt_of_lt_of_le hi h.1.1) (by omega)).trans (h.1.2 i hi hn)⟩,
    K.2 _ _ h.2 ⟨k.os, k.tape, k.output, k.size, fun i hi => k.block i (by have := h.1.1; omega) (by omega)⟩⟩
section
variable {we w w' : World} {X : List Nat} {M0 : Nat} {hX : ∀ i ∈ X, i < M0} {hM : M0 ≤ we.heap.size} {K K' : Kept M0} {Ds : List (World → Prop)} {H : Own}
theorem St.startI (hX : ∀ i ∈ X, i < M0) (hM : M0 ≤ we.heap.size) (K : Kept M0) (hK : K.1 we) (h : ∀ D ∈ Ds, Stable X we D) : St (Base.it we X M0 hX hM K) Ds [] we :=
  ⟨⟨Later.refl _ _, hK⟩, by simp, by simp, fun D hD => by simpa [Base.it] using h D hD⟩
/-- Behind a call that gave control away. -/
theorem St.yielded (hs : St (Base.it we X M0 hX hM K) Ds H w) (hl : Later X w w') (hK : K'.1 w') : St (Base.it we X M0 hX hM K') Ds H w' := by
  refine ⟨⟨hs.below.1.trans hl, hK⟩, fun b o hm => ⟨(hs.own b o hm).1, ?_⟩, hs.nodup, fun D hD => ?_⟩
  · have h1 : we.heap.size ≤ b := (hs.own b o hm).1
    exact (hl.2 b (hs.lt hm) (fun hx => by have := hX b hx; omega)).trans (hs.own b o hm).2
  · exact (hs.data D hD).later ⟨hl.1, fun i hi hn => hl.2 i hi fun hx => hn (List.mem_append_left _ hx)⟩
theorem St.later (hs : St (Base.it we X M0 hX hM K) Ds H w) : Later X we w := hs.below.1
theorem St.kept (hs : St (Base.it we X M0 hX hM K) Ds H w) : K.1 w := hs.below.2
end
theorem AccOK.rdb {α : Type} {enc : α → List Value} {sz : Nat} (hE : ∀ x, (enc x).length = sz) (hsz : 0 < sz) {w : World} {l : List α} {b : Nat} {cs : Array Value} {e : TypeId} (h : AccOK enc sz l (some (b, cs))) (hb : w.heap[b]? = some (.cells cs e (0, 0))) : Rd enc sz (some ⟨b, 0, none⟩) l.length l w := by
  obtain ⟨cap, h1, h2, h3, h4⟩ := h
  exact rd_of_flat hE hsz hb rfl (by omega) h4

theorem AccOK.cap {α : Type} {enc : α → List Value} {sz : Nat} (hsz : 0 < sz) {l : List α} {b : Nat} {cs : Array Value} (h : AccOK enc sz l (some (b, cs))) : l.length ≤ cs.size / sz := by
  obtain ⟨cap, h1, h2, h3, h4⟩ := h
  rw [h1, Nat.mul_div_cancel _ hsz]; exact h2

/-! ### Steps -/
section
variable {P : Program} {Q : Exit → Act → World → Prop} {ds : List Deferred} {a : Act} {n : Nat} {L : Regs} {w : World} {Ds : List (World → Prop)} {ops : Array Oper} {S : World → Prop} {i d : Nat} {t : TypeId} {p : String} {af : Array Edge}
theorem q_scopeN (h : Q .normal a w) : Exit.noGoto Q .normal a w := h
theorem q_scopeR (h : Q .ret a w) : Exit.noGoto Q .ret a w := h
theorem q_scopeX {id : Nat} (h : Q (.exit id) a w) : Exit.noGoto Q (.exit id) a w := h
/-- A loop whose base turns with its state. -/
theorem c_loopB {body : Code} {σ : Type} (B : σ → Base) (hf : Fr ds a n L) (ms : List Nat) (N : σ → Regs) (G : σ → Own) (J : σ → Prop) (μ : σ → Nat) (s0 : σ) (hs : St (B s0) Ds (G s0) w) (hJ : J s0) (hN : Has L (N s0))
    (h : ∀ s a w, J s → Fr ds a n (N s ++ dropR ms L) → St (B s) Ds (G s) w → body.wp P (Exit.then (fun a' w' => ∃ s', J s' ∧ μ s' < μ s ∧ Fr ds a' n (N s' ++ dropR ms L) ∧ St (B s') Ds (G s') w') Q) a w) : (Code.loop body).wp P Q a w :=
  (wpIn_wide (n := 0)).1 (r_loop (r := none) (m := 0) B hf ms N G J μ s0 hs hJ hN fun s a w hJ hf hs => (wpIn_wide (n := 0)).2 (h s a w hJ hf hs))
/-- What a contract says that gives control away. -/
abbrev RetR (R : Value → World → Prop) : Ending → World → Prop := fun e w' => ∃ v, e = .returned v ∧ R v w'
theorem oCallB {KK : Act → World → Prop} (hf : Fr ds a n L) {f : Operand} {args : List Operand} {ats : Array TypeId} {k : FuncId} {us caps vs vs' : List Value} {R : Value → World → Prop} (hi : ops[i]? = some ⟨some d, .call { callee := .value f, args := args.toArray, argTypes := ats }, t, p, af, none⟩)
    (hc : Calls P k vs'.toArray w (RetR R)) (hfn : ev L f = some (.func (.func k) us.toArray caps.toArray)) (hargs : evs L args = some vs) (hv : us ++ vs ++ caps = vs') (hk : Enters P k) (hd : d < n) (hS : ∀ v w', R v w' → S w')
    (h : ∀ v w' a', R v w' → S w' → Fr ds a' n ((d, v) :: L) → KK a' w') : wpOp P ops Q i (fun a' w' => S w' ∧ KK a' w') a w := by
  refine wpOp_none hi rfl ?_
  unfold Oper.wp
  rw [run_call hf hfn hargs hk _ rfl, hv]
  simp only [Oper.upon]
  refine Calls.mono hc fun e w' ⟨v, he, hR⟩ => ?_
  subst he
  exact ⟨hS v w' hR, h v w' _ hR (hS v w' hR) (hf.put hd v)⟩
theorem callB {rest : List Oper} (hf : Fr ds a n L) {f : Operand} {args : List Operand} {ats : Array TypeId} {k : FuncId} {us caps vs vs' : List Value} {R : Value → World → Prop}
    (hc : Calls P k vs'.toArray w (RetR R)) (hfn : ev L f = some (.func (.func k) us.toArray caps.toArray)) (hargs : evs L args = some vs) (hv : us ++ vs ++ caps = vs') (hk : Enters P k) (hd : d < n)
    (h : ∀ v w' a', R v w' → Fr ds a' n ((d, v) :: L) → wpList P ops Q rest a' w') : wpList P ops Q (⟨some d, .call { callee := .value f, args := args.toArray, argTypes := ats }, t, p, af, none⟩ :: rest) a w := by
  refine wpList_none rfl ?_
  unfold Oper.wp
  rw [run_call hf hfn hargs hk _ rfl, hv]
  simp only [Oper.upon]
  refine Calls.mono hc fun e w' ⟨v, he, hR⟩ => ?_
  subst he
  exact h v w' _ hR (hf.put hd v)
end

/-! ### The context of the orders -/
structure OnCtx where
  b : Sheet
  fA : Option Addr
  fc : Nat
  rA : Option Addr
  rc : Nat
  mb : Nat
  mp : MP
  l : Nat
  X : List Nat
  M0 : Nat
  hX : ∀ i ∈ X, i < M0
  J : List (List Int) → Kept M0
  Jx : List (List Int) → World → Prop
  W : World
  w3 : World
  bs : Nat
  yb : Nat
  tb : Nat
  nb : Nat
  hv : Valid b
  hM : M0 = W.heap.size
  hW : Later X W w3
  hF : Stable X w3 (Rd encF 5 fA b.flaps.length b.flaps)
  hR : Stable X w3 (Rd encR 2 rA b.rules.length b.rules)
  hMp : Stable X w3 (MapIs mb mp)
  hfc : b.flaps.length ≤ fc
  hrc : b.rules.length ≤ rc
  hS : Stable X w3 (BlkIs bs (sh5 b fA fc rA rc mb).toArray 69 (0, 0))
  hYb : Stable X w3 (BlkIs yb #[.func (.yield l) #[] #[]] 104 (0, 0))
  hT : Stable X w3 (BlkIs tb #[.func (.func 97) #[.agg (sh5 b fA fc rA rc mb).toArray] #[]] 105 (0, 0))
  hN : Stable X w3 (BlkIs nb #[.func (.func 98) #[] #[.pointer (some ⟨bs, 0, none⟩), .pointer (some ⟨yb, 0, none⟩), .pointer (some ⟨tb, 0, none⟩), .pointer (some ⟨nb, 0, none⟩)]] 106 (0, 0))
  hY : ∀ pre x A c W1, (J pre).1 W1 → Later X W W1 → pre ++ [x] <+: allOrds b mp → Rd encI 1 A x.length x W1 → x.length ≤ c → (∀ b o, A = some ⟨b, o, none⟩ → M0 ≤ b) →
      YieldAt Fence.wide 0 Tryd.prog l #[.slice A x.length c] W1 fun e W' => Later X W1 W' ∧ ((e = .returned (.bool true) ∧ (J (pre ++ [x])).1 W') ∨ (e = .returned (.bool false) ∧ Jx (pre ++ [x]) W'))
def OnCtx.Ds (c : OnCtx) : List (World → Prop) := [Rd encF 5 c.fA c.b.flaps.length c.b.flaps, Rd encR 2 c.rA c.b.rules.length c.b.rules, MapIs c.mb c.mp, BlkIs c.bs (sh5 c.b c.fA c.fc c.rA c.rc c.mb).toArray 69 (0, 0), BlkIs c.yb #[.func (.yield c.l) #[] #[]] 104 (0, 0),
  BlkIs c.tb #[.func (.func 97) #[.agg (sh5 c.b c.fA c.fc c.rA c.rc c.mb).toArray] #[]] 105 (0, 0), BlkIs c.nb #[.func (.func 98) #[] #[.pointer (some ⟨c.bs, 0, none⟩), .pointer (some ⟨c.yb, 0, none⟩), .pointer (some ⟨c.tb, 0, none⟩), .pointer (some ⟨c.nb, 0, none⟩)]] 106 (0, 0)]
theorem OnCtx.stab (c : OnCtx) : ∀ D ∈ c.Ds, Stable c.X c.w3 D := by
  intro D hD
  simp only [OnCtx.Ds, List.mem_cons, List.not_mem_nil, or_false] at hD
  rcases hD with rfl | rfl | rfl | rfl | rfl | rfl | rfl
  · exact c.hF
  · exact c.hR
  · exact c.hMp
  · exact c.hS
  · exact c.hYb
  · exact c.hT
  · exact c.hN
theorem OnCtx.start (c : OnCtx) {w : World} {p : List Int} {A : Option Addr} (hM : c.M0 ≤ w.heap.size) (hl3 : Later c.X c.w3 w) (K : Kept c.M0) (hK : K.1 w) (hp : Rd encI 1 A p.length p w) (hA : ∀ b o, A = some ⟨b, o, none⟩ → c.M0 ≤ b) : St (Base.it w c.X c.M0 c.hX hM K) (Rd encI 1 A p.length p :: c.Ds) [] w :=
  St.startI _ _ _ hK fun D hD => by
    rcases List.mem_cons.1 hD with rfl | hD
    · exact hp.stable fun b o e hm => by have := hA b o e; have := c.hX b hm; omega
    · exact (c.stab D hD).later hl3
/-- What the closure promises, k flaps being left. -/
def OnR (c : OnCtx) (k : Nat) (pre : List (List Int)) (p : List Int) (d : List Bool) (w : World) (v : Value) (w' : World) : Prop :=
  ∃ r, v = .bool r ∧ Later c.X w w' ∧ (r = true → (c.J (pre ++ ordsF c.b c.mp k p d)).1 w') ∧ (r = false → ∃ q, q ≠ [] ∧ q <+: ordsF c.b c.mp k p d ∧ c.Jx (pre ++ q) w')
def OnSpec (c : OnCtx) (k : Nat) : Prop := ∀ (w : World) (pre : List (List Int)) (p : List Int) (d : List Bool) (A : Option Addr) (cp : Nat), Later c.X c.w3 w → (c.J pre).1 w → pre ++ ordsF c.b c.mp k p d <+: allOrds c.b c.mp → p.length + k = c.b.flaps.length → d.length = 7 → Rd encI 1 A p.length p w → (∀ b o, A = some ⟨b, o, none⟩ → c.M0 ≤ b) → p.length ≤ cp →
  Calls Tryd.prog 98 #[.slice A p.length cp, .agg (dnA d), .pointer (some ⟨c.bs, 0, none⟩), .pointer (some ⟨c.yb, 0, none⟩), .pointer (some ⟨c.tb, 0, none⟩), .pointer (some ⟨c.nb, 0, none⟩)] w (RetR (OnR c k pre p d w))
end Go.Proofs.YtpjhffockmnjbaaDoor
set_option linter.unusedVariables false
set_option linter.unusedSimpArgs false
namespace Go.Proofs.YtpjhffockmnjbaaDoor
open Go.RowKit
abbrev rnA (r : List Int) : Array Value := (r.map fun x => Value.int .i64 x).toArray
theorem rn_get {r : List Int} {i : Int} (h : 0 ≤ i ∧ i < r.length) : (rnA r)[0 + i.toNat * 1]? = some (.int .i64 (r.getD i.toNat 0)) := by
  have hi : i.toNat < r.length := by omega
  simp [List.getD_eq_getElem?_getD, List.getElem?_eq_getElem hi]
theorem rn_set {r : List Int} {i : Nat} {x : Int} : (rnA r).setIfInBounds (0 + i * 1) (.int .i64 x) = rnA (r.set i x) := by simp
theorem rn_zero (n : Nat) : (List.replicate n (Value.int .i64 0)).toArray = rnA (List.replicate n 0) := by rw [rnA, List.map_replicate]
theorem rn_size {r : List Int} : (rnA r).size = r.length := by simp
def overP (b : Sheet) (i j : Int) : Bool := decide (0 < cellN b 2 i j) && b.rules.any fun x => sameR x ⟨i, j⟩
theorem overT_eq {b : Sheet} {mp : MP} (hm : meetsOK b mp) {i j : Int} (hi : inN b i) (hj : inN b j) : overT b mp i j = overP b i j := by
  unfold overT overP
  rw [hm i j, if_pos ⟨hi, hj⟩]
def inStep (b : Sheet) (f : Int) (r : List Int) (u : Int) : List Int := if overP b f u = true then r.set f.toNat (max (r.getD f.toNat 0) (r.getD u.toNat 0 + 1)) else r
def inAt (b : Sheet) (l : List Int) (f : Int) (r : List Int) (m : Nat) : List Int := (l.take m).foldl (inStep b f) (r.set f.toNat 1)
def outStep (b : Sheet) (l : List Int) (s : List Int × Int) (f : Int) : List Int × Int := (inAt b l f s.1 l.length, max s.2 ((inAt b l f s.1 l.length).getD f.toNat 0))
def outAt (b : Sheet) (l : List Int) (k : Nat) : List Int × Int := (l.take k).foldl (outStep b l) (List.replicate l.length 0, 0)
def roundN (b : Sheet) (l : List Int) : Int := (outAt b l l.length).2
def roundP (b : Sheet) : Int × Int := if askE b true = 0 then (match allO b with | [] => (0, 4) | x :: _ => (roundN b x, 0)) else (0, askE b true)
theorem inAt_succ {b : Sheet} {l : List Int} {f : Int} {r : List Int} {m : Nat} (h : m < l.length) : inAt b l f r (m + 1) = inStep b f (inAt b l f r m) (l.getD m default) := by
  unfold inAt; rw [take_succ_getD h, List.foldl_append]; rfl
theorem outAt_succ {b : Sheet} {l : List Int} {k : Nat} (h : k < l.length) : outAt b l (k + 1) = outStep b l (outAt b l k) (l.getD k default) := by
  unfold outAt; rw [take_succ_getD h, List.foldl_append]; rfl
theorem inStep_len (b : Sheet) (f : Int) (r : List Int) (u : Int) : (inStep b f r u).length = r.length := by unfold inStep; split <;> simp
theorem foldl_len {α : Type} {f : List Int → α → List Int} (h : ∀ r u, (f r u).length = r.length) : ∀ (us : List α) (r : List Int), (us.foldl f r).length = r.length
  | [], r => rfl
  | u :: us, r => by rw [List.foldl_cons, foldl_len h us, h]
theorem inAt_len (b : Sheet) (l : List Int) (f : Int) (r : List Int) (m : Nat) : (inAt b l f r m).length = r.length := by unfold inAt; rw [foldl_len (inStep_len b f)]; simp
theorem outAt_len (b : Sheet) (l : List Int) : ∀ (k : Nat), k ≤ l.length → (outAt b l k).1.length = l.length
  | 0, _ => by simp [outAt]
  | k + 1, h => by rw [outAt_succ (by omega)]; unfold outStep; rw [inAt_len]; exact outAt_len b l k (by omega)
def rbd (r : List Int) (B : Int) : Prop := ∀ i, 0 ≤ r.getD i 0 ∧ r.getD i 0 ≤ B
theorem rbd_set {r : List Int} {B x : Int} (h : rbd r B) (hx : 0 ≤ x ∧ x ≤ B) (k : Nat) : rbd (r.set k x) B := by
  intro i
  have h0 := h i
  rw [List.getD_eq_getElem?_getD] at h0 ⊢
  rw [List.getElem?_set]
  split
  · split
    · simpa using hx
    · simp; omega
  · exact h0
theorem rbd_mono {r : List Int} {B C : Int} (h : rbd r B) (hB : B ≤ C) : rbd r C := fun i => ⟨(h i).1, Int.le_trans (h i).2 hB⟩
theorem rbd_step {b : Sheet} {f : Int} {r : List Int} {B : Int} (h : rbd r B) (u : Int) : rbd (inStep b f r u) (B + 1) := by
  unfold inStep
  split
  · have h1 := h f.toNat
    have h2 := h u.toNat
    exact rbd_set (rbd_mono h (by omega)) (by omega) _
  · exact rbd_mono h (by omega)
theorem rbd_in {b : Sheet} {l : List Int} {f : Int} {r : List Int} {B : Int} (h : rbd r B) (hB : 1 ≤ B) : ∀ m : Nat, m ≤ l.length → rbd (inAt b l f r m) (B + m)
  | 0, _ => by simpa [inAt] using rbd_set h (by omega) _
  | m + 1, hm => by
    rw [inAt_succ (by omega)]
    have := rbd_step (b := b) (f := f) (rbd_in (b := b) (l := l) (f := f) h hB m (by omega)) (l.getD m default)
    exact rbd_mono this (by omega)
theorem rbd_out {b : Sheet} {l : List Int} (hl : l.length ≤ 7) : ∀ k : Nat, k ≤ l.length → rbd (outAt b l k).1 (1 + k * 7) ∧ 0 ≤ (outAt b l k).2
  | 0, _ => ⟨fun i => by
      simp only [outAt, List.take_zero, List.foldl_nil, List.getD_eq_getElem?_getD, List.getElem?_replicate]
      split <;> simp, by simp [outAt]⟩
  | k + 1, hk => by
    obtain ⟨h1, h2⟩ := rbd_out (b := b) hl k (by omega)
    rw [outAt_succ (by omega)]
    have h3 := rbd_in (b := b) (l := l) (f := l.getD k default) h1 (by omega) l.length (Nat.le_refl _)
    exact ⟨rbd_mono h3 (by omega), by unfold outStep; dsimp only; omega⟩
theorem rbd_mid {b : Sheet} {l : List Int} (hl : l.length ≤ 7) {k m : Nat} (hk : k ≤ l.length) (hm : m ≤ l.length) (f : Int) (i : Nat) : 0 ≤ (inAt b l f (outAt b l k).1 m).getD i 0 ∧ (inAt b l f (outAt b l k).1 m).getD i 0 ≤ 100 := by
  have h1 := (rbd_out (b := b) hl k hk).1
  have h2 := rbd_in (b := b) (l := l) (f := f) h1 (by omega) m hm i
  omega
theorem ordsP_in (b : Sheet) : ∀ (k : Nat) (p : List Int) (d : List Bool), (∀ y ∈ p, inN b y) → ∀ x ∈ ordsP b k p d, ∀ y ∈ x, inN b y
  | 0, p, d, hp, x, h => by simp [ordsP] at h; subst h; exact hp
  | k + 1, p, d, hp, x, h => by
    simp only [ordsP, List.mem_flatMap, ordStepP, List.mem_range] at h
    obtain ⟨i, hi, hx⟩ := h
    split at hx
    · cases hx
    · refine ordsP_in b k _ _ (fun y hy => ?_) x hx
      rcases List.mem_append.1 hy with hy | hy
      · exact hp y hy
      · rcases List.mem_singleton.1 hy with rfl
        exact ⟨by omega, by omega⟩
theorem allO_in {b : Sheet} {x : List Int} (h : x ∈ allO b) : x.length = b.flaps.length ∧ ∀ y ∈ x, inN b y :=
  ⟨by have := ordsP_length b _ _ _ x h; simpa using this, ordsP_in b _ _ _ (by simp) x h⟩
def cmpZ (x y : List Int) : Int := if earlierB x y = true then -1 else if x = y then 0 else 1
theorem cmp_long {x y : List Int} {k : Nat} (hk : k < x.length) (hy : k = y.length) (hp : ∀ j, j < k → x.getD j default = y.getD j default) : cmpZ x y = 1 := by
  have h1 := earlier_end (l := x) (m := y) (k := k) (by omega) (by omega) (.inr hy) hp
  have h2 : x ≠ y := fun e => by subst e; omega
  rw [cmpZ, h1, if_neg (by simp; omega), if_neg h2]
theorem cmp_at {x y : List Int} {k : Nat} (hk : k < x.length) (hy : k < y.length) (hp : ∀ j, j < k → x.getD j default = y.getD j default) (hne : x.getD k default ≠ y.getD k default) : cmpZ x y = if x.getD k default < y.getD k default then -1 else if y.getD k default < x.getD k default then 1 else 0 := by
  have h1 := earlier_at hk hy hp hne
  have h2 : x ≠ y := fun e => by subst e; exact hne rfl
  rw [cmpZ, h1]
  by_cases h : x.getD k default < y.getD k default
  · rw [if_pos (by simpa using h), if_pos h]
  · rw [if_neg (by simpa using h), if_neg h2, if_neg h, if_pos (by omega)]
theorem cmp_end {x y : List Int} (hy : x.length ≤ y.length) (hp : ∀ j, j < x.length → x.getD j default = y.getD j default) : cmpZ x y = if x.length < y.length then -1 else 0 := by
  have h1 := earlier_end (l := x) (m := y) (k := x.length) (by omega) hy (.inl rfl) hp
  rw [cmpZ, h1]
  by_cases h : x.length < y.length
  · rw [if_pos (by simpa using h), if_pos h]
  · have : x = y := list_eq_of_getD (by omega) hp
    rw [if_neg (by simpa using h), if_neg h, if_pos this]
end Go.Proofs.YtpjhffockmnjbaaDoor
set_option linter.unusedVariables false
set_option linter.unusedSimpArgs false
namespace Go.Proofs.YtpjhffockmnjbaaDoor
open Go.RowKit
def shortF (x : Flap) (k : Int) : Flap := { x with rh := x.rh - k }
def shortB (b : Sheet) (i k : Int) : Sheet := { b with flaps := b.flaps.set i.toNat (shortF (flapA b i) k) }
theorem short_len (b : Sheet) (i k : Int) : (shortB b i k).flaps.length = b.flaps.length := by simp [shortB]
theorem valid_short {b : Sheet} (hv : Valid b) {i k : Int} (hi : inN b i) (hk : 0 ≤ k ∧ k ≤ (flapA b i).rh - (flapA b i).rl) : Valid (shortB b i k) := by
  have hm := hv.flap (flapA b i) (getD_mem (by have := hi.1; have := hi.2; omega))
  refine ⟨hv.wide, hv.high, by rw [short_len]; exact hv.many, hv.rules, fun x hx => ?_, fun r hr => by rw [short_len]; exact hv.rule r hr, hv.distinct⟩
  rcases List.mem_or_eq_of_mem_set hx with hx | rfl
  · exact hv.flap x hx
  · simp only [shortF]
    refine ⟨hm.1, hm.2.1, hm.2.2.1, by omega, hm.2.2.2.2.1, hm.2.2.2.2.2.1, fun h => ?_, fun h => ?_⟩
    · have := hm.2.2.2.2.2.2.1 h; show _ ∧ _; exact ⟨by show (flapA b i).rh - k ≤ b.wide; omega, this.2⟩
    · have := hm.2.2.2.2.2.2.2 h; exact ⟨by show (flapA b i).rh - k ≤ b.high; omega, this.2⟩
theorem flap_far {b : Sheet} (hv : Valid b) {i : Int} (hi : inN b i) : 1 ≤ (flapA b i).rl ∧ (flapA b i).rl ≤ (flapA b i).rh ∧ (flapA b i).rh ≤ 99 := by
  have hm := getD_mem (l := b.flaps) (i := i.toNat) (by have := hi.1; have := hi.2; omega)
  have h1 := hv.flap _ hm
  have h2 := (hv.far hm true).2
  exact ⟨h1.2.2.1, h1.2.2.2.1, by simpa [farF] using h2⟩
def foldsP (b : Sheet) : Bool := decide (allO b ≠ [])
def shortN (b : Sheet) (i : Int) : Nat := ((flapA b i).rh - (flapA b i).rl + 1).toNat
/-- The least shortening with which a sheet folds. -/
def shorterP (b : Sheet) (i : Int) : Int × Int := if askE b (flapB b.flaps.length i) = 0 then
    (match (List.range (shortN b i)).find? fun k => foldsP (shortB b i (k : Nat)) with | some k => (((k : Nat) : Int), 0) | none => (0, 4))
  else (0, askE b (flapB b.flaps.length i))
theorem shorter_hit {b : Sheet} {i : Int} {k : Nat} (he : askE b (flapB b.flaps.length i) = 0) (hk : k < shortN b i) (hp : ∀ j, j < k → foldsP (shortB b i (j : Nat)) = false) (h : foldsP (shortB b i (k : Nat)) = true) : shorterP b i = (((k : Nat) : Int), 0) := by
  have : (List.range (shortN b i)).find? (fun k => foldsP (shortB b i (k : Nat))) = some k := by
    rw [List.find?_range_eq_some]
    exact ⟨h, List.mem_range.2 hk, fun j hj => by simpa using hp j hj⟩
  rw [shorterP, if_pos he, this]
theorem shorter_none {b : Sheet} {i : Int} (he : askE b (flapB b.flaps.length i) = 0) (hp : ∀ j, j < shortN b i → foldsP (shortB b i (j : Nat)) = false) : shorterP b i = (0, 4) := by
  have : (List.range (shortN b i)).find? (fun k => foldsP (shortB b i (k : Nat))) = none := by
    rw [List.find?_eq_none]
    intro j hj
    rw [hp j (List.mem_range.1 hj)]; decide
  rw [shorterP, if_pos he, this]
theorem flapB_in {b : Sheet} {i : Int} (h : flapB b.flaps.length i = true) : inN b i := by
  have := fitsB_iff.1 h; exact ⟨by omega, by omega⟩
/-- The row of flaps with that flap's greatest reach turned. -/
theorem acc_short {b : Sheet} {i k : Int} {bc : Nat} {cs : Array Value} (hi : inN b i) (h : AccOK encF 5 b.flaps (some (bc, cs))) : cs[0 + i.toNat * 5 + 1 + 1]? = some (.int .i64 (flapA b i).rh) ∧ 0 + i.toNat * 5 + 1 + 1 < cs.size ∧ AccOK encF 5 (shortB b i k).flaps (some (bc, cs.setIfInBounds (0 + i.toNat * 5 + 1 + 1) (.int .i64 ((flapA b i).rh - k)))) := by
  obtain ⟨cap, h1, h2, h3, h4⟩ := h
  have hlt : i.toNat < b.flaps.length := by have := hi.1; have := hi.2; omega
  have hE : ∀ x : Flap, (encF x).length = 5 := fun _ => rfl
  have hcell : ∀ j r, j < b.flaps.length → r < 5 → cs.toList[j * 5 + r]? = (b.flaps[j]?).bind fun x => (encF x)[r]? := fun j r hj hr => by
    have h5 := flat_get hE b.flaps j r hr
    rw [← h4, List.getElem?_take] at h5
    rw [if_pos (by omega)] at h5
    exact h5
  have hget : b.flaps[i.toNat]? = some (flapA b i) := by rw [flapA, List.getD_eq_getElem?_getD, List.getElem?_eq_getElem hlt]; rfl
  refine ⟨?_, by omega, cap, by simpa using h1, by rw [short_len]; exact h2, h3, ?_⟩
  · have := hcell i.toNat 2 hlt (by omega)
    rw [hget] at this
    rw [show 0 + i.toNat * 5 + 1 + 1 = i.toNat * 5 + 2 by omega]
    simpa [encF] using this
  · rw [short_len]
    apply List.ext_getElem?
    intro q
    by_cases hq : q < b.flaps.length * 5
    · have hqq : q = q / 5 * 5 + q % 5 := by omega
      have hr : q % 5 < 5 := Nat.mod_lt _ (by omega)
      have hj : q / 5 < b.flaps.length := by omega
      rw [List.getElem?_take, if_pos hq]
      have e2 : ((shortB b i k).flaps.flatMap encF)[q]? = ((shortB b i k).flaps[q / 5]?).bind fun x => (encF x)[q % 5]? := by
        have := flat_get hE (shortB b i k).flaps (q / 5) (q % 5) hr
        rwa [← hqq] at this
      rw [e2]
      have e3 := hcell (q / 5) (q % 5) hj hr
      rw [← hqq] at e3
      rw [Array.toList_setIfInBounds, List.getElem?_set]
      simp only [shortB, List.getElem?_set]
      by_cases hij : i.toNat = q / 5
      · by_cases h2' : q % 5 = 2
        · rw [if_pos (show 0 + i.toNat * 5 + 1 + 1 = q by omega), if_pos (show 0 + i.toNat * 5 + 1 + 1 < cs.toList.length by rw [Array.length_toList]; omega), if_pos hij, if_pos hlt]
          simp [h2', encF, shortF]
        · rw [if_neg (show ¬ 0 + i.toNat * 5 + 1 + 1 = q by omega), e3, if_pos hij, if_pos hlt, ← hij, hget]
          have : q % 5 = 0 ∨ q % 5 = 1 ∨ q % 5 = 3 ∨ q % 5 = 4 := by omega
          rcases this with h | h | h | h <;> simp [h, encF, shortF]
      · rw [if_neg (show ¬ 0 + i.toNat * 5 + 1 + 1 = q by omega), e3, if_neg hij]
    · rw [List.getElem?_take, if_neg hq, List.getElem?_eq_none]
      rw [flat_length hE, short_len]; omega
/-- Does a flap that reaches so far lie on a square? -/
def coverB (b : Sheet) (x : Flap) (r c q : Int) : Bool := if x.side = 0 then decide (c < r) && fitsB q x.al x.ah else if x.side = 1 then decide (b.wide - r ≤ c) && fitsB q x.al x.ah
  else if x.side = 2 then decide (q < r) && fitsB c x.al x.ah else decide (b.high - r ≤ q) && fitsB c x.al x.ah
/-- Do two flaps that reach so far share a square? -/
def bothB (b : Sheet) (i r j s : Int) (c q : Nat) : Bool := coverB b (flapA b i) r (c : Nat) (q : Nat) && coverB b (flapA b j) s (c : Nat) (q : Nat)
def squareB (b : Sheet) (i r j s : Int) : Bool := (List.range b.wide.toNat).any fun c => (List.range b.high.toNat).any fun q => bothB b i r j s c q
theorem square_yes {b : Sheet} {i r j s : Int} {c q : Nat} (hc : ((c : Nat) : Int) < b.wide) (hq : ((q : Nat) : Int) < b.high) (h : bothB b i r j s c q = true) : squareB b i r j s = true :=
  List.any_eq_true.2 ⟨c, List.mem_range.2 (by omega), List.any_eq_true.2 ⟨q, List.mem_range.2 (by omega), h⟩⟩
theorem square_no {b : Sheet} {i r j s : Int} (h : ∀ c : Nat, ((c : Nat) : Int) < b.wide → ∀ q : Nat, ((q : Nat) : Int) < b.high → bothB b i r j s c q = false) : squareB b i r j s = false := by
  unfold squareB
  rw [List.any_eq_false]
  intro c hc
  rw [Bool.not_eq_true, List.any_eq_false]
  intro q hq
  rw [Bool.not_eq_true]
  exact h c (by have := List.mem_range.1 hc; omega) q (by have := List.mem_range.1 hq; omega)
end Go.Proofs.YtpjhffockmnjbaaDoor
set_option linter.unusedVariables false
set_option linter.unusedSimpArgs false
namespace Go.Proofs.YtpjhffockmnjbaaDoor
open Go.RowKit
section
variable {P : Program} {Q : Exit → Act → World → Prop} {ds : List Deferred} {a : Act} {n : Nat} {L : Regs} {w : World}
/-- A loop, whose base and whose data may turn with the state. -/
theorem c_loopD {body : Code} {σ : Type} (B : σ → Base) (DF : σ → List (World → Prop)) (hf : Fr ds a n L) (ms : List Nat) (N : σ → Regs) (G : σ → Own) (J : σ → Prop) (μ : σ → Nat) (s0 : σ) (hs : St (B s0) (DF s0) (G s0) w) (hJ : J s0) (hN : Has L (N s0))
    (h : ∀ s a w, J s → Fr ds a n (N s ++ dropR ms L) → St (B s) (DF s) (G s) w → body.wp P (Exit.then (fun a' w' => ∃ s', J s' ∧ μ s' < μ s ∧ Fr ds a' n (N s' ++ dropR ms L) ∧ St (B s') (DF s') (G s') w') Q) a w) : (Code.loop body).wp P Q a w := by
  classical
  let I : Act → World → Prop := fun a w => ∃ s, J s ∧ Fr ds a n (N s ++ dropR ms L) ∧ St (B s) (DF s) (G s) w
  let M : Act → World → Nat → Prop := fun a w m => ∃ s, J s ∧ Fr ds a n (N s ++ dropR ms L) ∧ St (B s) (DF s) (G s) w ∧ μ s = m
  have ex : ∀ a w, I a w → ∃ m, M a w m ∧ ∀ m', M a w m' → m ≤ m' := by
    rintro a w ⟨s, h1, h2, h3⟩
    have : ∀ k, (∃ m, m ≤ k ∧ M a w m) → ∃ m, M a w m ∧ ∀ m', M a w m' → m ≤ m' := by
      intro k
      induction k with
      | zero => rintro ⟨m, hm, hM⟩; exact ⟨m, hM, fun m' _ => by omega⟩
      | succ k ih =>
        rintro ⟨m, hm, hM⟩
        by_cases hk : ∃ m, m ≤ k ∧ M a w m
        · exact ih hk
        · exact ⟨m, hM, fun m' hm' => by
            rcases Nat.lt_or_ge k m' with h | h
            · omega
            · exact absurd ⟨m', h, hm'⟩ hk⟩
    exact this (μ s) ⟨μ s, Nat.le_refl _, s, h1, h2, h3, rfl⟩
  refine wp_loop I (fun a w => if hI : I a w then (ex a w hI).choose else 0) ⟨s0, hJ, hf.over ms hN.spec, hs⟩ ?_
  intro a w hI
  obtain ⟨⟨s, h1, h2, h3, h4⟩, hmin⟩ := (ex a w hI).choose_spec
  refine wp_mono (h s a w h1 h2 h3) ?_
  intro e a' w' he
  cases e with
  | normal =>
    obtain ⟨s', k1, k2, k3, k4⟩ := he
    have hI' : I a' w' := ⟨s', k1, k3, k4⟩
    refine ⟨hI', ?_⟩
    rw [dif_pos hI', dif_pos hI, ← h4]
    exact Nat.lt_of_le_of_lt ((ex a' w' hI').choose_spec.2 (μ s') ⟨s', k1, k3, k4, rfl⟩) k2
  | _ => exact he

end

/-! ### The ring, as it is sought -/
def headI (r : List Int) : Int := r.getD 0 default
def lastI (r : List Int) : Int := r.getD (r.length - 1) default
def ringLt (best : Option (List Int)) (r : List Int) : Bool := match best with
  | none => true
  | some l => decide (r.length < l.length)
def ring1 (b : Sheet) (r : List Int) (best : Option (List Int)) : Option (List Int) := if (decide ((1 : Int) < (r.length : Nat)) && overP b (headI r) (lastI r) && ringLt best r) = true then some r else best
def ringCut (best : Option (List Int)) (r : List Int) : Bool := match best with
  | none => false
  | some l => decide (l.length ≤ r.length)
def ringStep (b : Sheet) (r : List Int) (f : List Int → Option (List Int) → Option (List Int)) (best : Option (List Int)) (i : Nat) : Option (List Int) :=
  if (decide (headI r < (i : Nat)) && (!decide (((i : Nat) : Int) ∈ r) && overP b (i : Nat) (lastI r))) = true then f (r ++ [((i : Nat) : Int)]) best else best
def ringF (b : Sheet) : Nat → List Int → Option (List Int) → Option (List Int)
  | 0, r, best => best
  | k + 1, r, best => if ringCut (ring1 b r best) r = true then ring1 b r best else (List.range b.flaps.length).foldl (ringStep b r (ringF b k)) (ring1 b r best)
/-- How many flaps are not in a row. -/
def freeN (b : Sheet) (r : List Int) : Nat := ((List.range b.flaps.length).filter fun i => !decide (((i : Nat) : Int) ∈ r)).length
theorem freeN_lt {b : Sheet} {r : List Int} {i : Nat} (hi : i < b.flaps.length) (h : ((i : Nat) : Int) ∉ r) : freeN b (r ++ [((i : Nat) : Int)]) < freeN b r := by
  unfold freeN
  have h1 : ((List.range b.flaps.length).filter fun j => !decide (((j : Nat) : Int) ∈ r ++ [((i : Nat) : Int)])) = ((List.range b.flaps.length).filter fun j => !decide (((j : Nat) : Int) ∈ r)).filter fun j => !decide (j = i) := by
    rw [List.filter_filter]
    congr 1
    funext j
    by_cases h1 : ((j : Nat) : Int) ∈ r <;> by_cases h2 : j = i <;> simp [h1, h2] <;> omega
  rw [h1]
  refine List.length_filter_lt_length_iff_exists.2 ⟨i, List.mem_filter.2 ⟨List.mem_range.2 hi, by simpa using h⟩, by simp⟩
theorem freeN_le (b : Sheet) (r : List Int) : freeN b r ≤ b.flaps.length := by
  have := List.length_filter_le (fun i => !decide (((i : Nat) : Int) ∈ r)) (List.range b.flaps.length)
  simpa [freeN] using this
/-- The ring's answer. -/
def ringP (b : Sheet) : List Int × Int := if askE b true = 0 then
    (match (List.range b.flaps.length).foldl (fun best i => ringF b 8 [((i : Nat) : Int)] best) none with | some l => (l, 0) | none => ([], 4))
  else ([], askE b true)
end Go.Proofs.YtpjhffockmnjbaaDoor
set_option linter.unusedVariables false
set_option linter.unusedSimpArgs false
namespace Go.Proofs.YtpjhffockmnjbaaDoor
open Go.RowKit
abbrev Best := Option (Option Addr × List Int)
def bA : Best → Option Addr
  | none => none
  | some p => p.1
def bN : Best → Nat
  | none => 0
  | some p => p.2.length
def bL (o : Best) : Option (List Int) := o.map (·.2)
abbrev bV (o : Best) : Value := .slice (bA o) (bN o) (bN o)
def bOK (bb M : Nat) (o : Best) : World → Prop := fun w => ∀ A l, o = some (A, l) → Rd encI 1 A l.length l w ∧ l ≠ [] ∧ ∀ bk off, A = some ⟨bk, off, none⟩ → bk ≠ bb ∧ M ≤ bk
theorem bOK.stable {bb M : Nat} {o : Best} {w : World} (h : bOK bb M o w) : Stable [bb] w (bOK bb M o) := by
  intro w' hw A l e
  obtain ⟨h1, h2, h3⟩ := h A l e
  exact ⟨h1.stable (fun bk off e hm => (h3 bk off e).1 (List.mem_singleton.1 hm)) w' hw, h2, h3⟩
theorem bOK.isNone {bb M : Nat} {o : Best} {w : World} (h : bOK bb M o w) : (bA o).isNone = o.isNone := by
  cases o with
  | none => rfl
  | some p =>
    obtain ⟨A, l⟩ := p
    obtain ⟨h1, h2, _⟩ := h A l rfl
    have := h1.isSome (List.length_pos_iff.2 h2)
    obtain ⟨ad, rfl⟩ := Option.isSome_iff_exists.1 this
    rfl
structure RingCtx where
  b : Sheet
  fA : Option Addr
  fc : Nat
  rA : Option Addr
  rc : Nat
  mb : Nat
  mp : MP
  w3 : World
  sb : Nat
  bb : Nat
  nb : Nat
  M : Nat
  hMl : M ≤ w3.heap.size
  hv : Valid b
  hm : meetsOK b mp
  hfc : b.flaps.length ≤ fc
  hrc : b.rules.length ≤ rc
  hF : Stable [bb] w3 (Rd encF 5 fA b.flaps.length b.flaps)
  hR : Stable [bb] w3 (Rd encR 2 rA b.rules.length b.rules)
  hMp : Stable [bb] w3 (MapIs mb mp)
  hS : Stable [bb] w3 (BlkIs sb (sh5 b fA fc rA rc mb).toArray 69 (0, 0))
  hN : Stable [bb] w3 (BlkIs nb #[.func (.func 69) #[] #[.pointer (some ⟨sb, 0, none⟩), .pointer (some ⟨bb, 0, none⟩), .pointer (some ⟨nb, 0, none⟩)]] 84 (0, 0))
def RingCtx.Ds (c : RingCtx) : List (World → Prop) := [Rd encF 5 c.fA c.b.flaps.length c.b.flaps, Rd encR 2 c.rA c.b.rules.length c.b.rules, MapIs c.mb c.mp, BlkIs c.sb (sh5 c.b c.fA c.fc c.rA c.rc c.mb).toArray 69 (0, 0),
  BlkIs c.nb #[.func (.func 69) #[] #[.pointer (some ⟨c.sb, 0, none⟩), .pointer (some ⟨c.bb, 0, none⟩), .pointer (some ⟨c.nb, 0, none⟩)]] 84 (0, 0)]
theorem RingCtx.stab (c : RingCtx) : ∀ D ∈ c.Ds, Stable [c.bb] c.w3 D := by
  intro D hD
  simp only [RingCtx.Ds, List.mem_cons, List.not_mem_nil, or_false] at hD
  rcases hD with rfl | rfl | rfl | rfl | rfl
  · exact c.hF
  · exact c.hR
  · exact c.hMp
  · exact c.hS
  · exact c.hN
theorem noE {w : World} {X : List Nat} : ∀ i ∈ ([] : List Nat), i < w.heap.size ∧ i ∉ X := by simp
/-- The state in which the closure begins, and in which it stands behind each call of itself. -/
theorem RingCtx.at_ (c : RingCtx) {we w : World} {r : List Int} {A : Option Addr} {o : Best} (hl : Later [c.bb] c.w3 w) (hrel : w.os = we.os ∧ w.tape = we.tape ∧ w.output = we.output ∧ Later [c.bb] we w) (hb : w.heap[c.bb]? = some (.cells #[bV o] 27 (0, 0))) (ho : bOK c.bb c.M o w) (hr : Rd encI 1 A r.length r w) (hA : ∀ bk off, A = some ⟨bk, off, none⟩ → bk ≠ c.bb ∧ c.M ≤ bk) :
    St (Base.rnd we [c.bb] [] noE) (Rd encI 1 A r.length r :: bOK c.bb c.M o :: c.Ds) [(c.bb, .cells #[bV o] 27 (0, 0))] w := by
  refine ⟨hrel, fun b' o' hm => ?_, by simp, fun D hD => ?_⟩
  · rcases List.mem_singleton.1 hm with e
    cases e
    exact ⟨.inl (by simp), hb⟩
  · show Stable ([] ++ [c.bb]) w D
    rcases List.mem_cons.1 hD with rfl | hD
    · exact hr.stable fun bk off e hm => (hA bk off e).1 (by simpa using hm)
    · rcases List.mem_cons.1 hD with rfl | hD
      · exact ho.stable
      · exact (c.stab D hD).later hl
def RingR (c : RingCtx) (k : Nat) (r : List Int) (o : Best) (w : World) (v : Value) (w' : World) : Prop :=
  v = .tuple #[] ∧ ∃ o', bL o' = ringF c.b k r (bL o) ∧ bOK c.bb c.M o' w' ∧ w'.heap[c.bb]? = some (.cells #[bV o'] 27 (0, 0)) ∧ w'.os = w.os ∧ w'.tape = w.tape ∧ w'.output = w.output ∧ Later [c.bb] w w'
def RingSpec (c : RingCtx) (k : Nat) : Prop := ∀ (w : World) (r : List Int) (A : Option Addr) (cp : Nat) (o : Best), Later [c.bb] c.w3 w → w.heap[c.bb]? = some (.cells #[bV o] 27 (0, 0)) → bOK c.bb c.M o w → r ≠ [] → (∀ y ∈ r, inN c.b y) → freeN c.b r < k → r.length + freeN c.b r ≤ c.b.flaps.length → Rd encI 1 A r.length r w → (∀ bk off, A = some ⟨bk, off, none⟩ → bk ≠ c.bb ∧ c.M ≤ bk) → r.length ≤ cp →
  Calls Tryd.prog 69 #[.slice A r.length cp, .pointer (some ⟨c.sb, 0, none⟩), .pointer (some ⟨c.bb, 0, none⟩), .pointer (some ⟨c.nb, 0, none⟩)] w (RetR (RingR c k r o w))
theorem ringLt_eq {bb M : Nat} {o : Best} {w : World} (h : bOK bb M o w) (r : List Int) : ((bA o).isNone || decide (((r.length : Nat) : Int) < ((bN o : Nat) : Int))) = ringLt (bL o) r := by
  rw [h.isNone]
  cases o with
  | none => rfl
  | some p => simp [bN, bL, ringLt]
theorem ringCut_eq {bb M : Nat} {o : Best} {w : World} (h : bOK bb M o w) (r : List Int) : (!(bA o).isNone && decide (((bN o : Nat) : Int) ≤ ((r.length : Nat) : Int))) = ringCut (bL o) r := by
  rw [h.isNone]
  cases o with
  | none => rfl
  | some p => simp [bN, bL, ringCut]
theorem range_fold_skip {b : Sheet} {r : List Int} {f : List Int → Option (List Int) → Option (List Int)} {x : Option (List Int)} : ∀ i : Nat, ((i : Nat) : Int) ≤ headI r + 1 → (List.range i).foldl (ringStep b r f) x = x
  | 0, _ => rfl
  | i + 1, h => by
    rw [List.range_succ, List.foldl_append, range_fold_skip i (by omega)]
    simp only [List.foldl_cons, List.foldl_nil, ringStep]
    rw [show decide (headI r < ((i : Nat) : Int)) = false by simp; omega]
    simp
theorem range_fold_succ {b : Sheet} {r : List Int} {f : List Int → Option (List Int) → Option (List Int)} {x : Option (List Int)} (i : Nat) : (List.range (i + 1)).foldl (ringStep b r f) x = ringStep b r f ((List.range i).foldl (ringStep b r f) x) i := by
  rw [List.range_succ, List.foldl_append]; rfl
end Go.Proofs.YtpjhffockmnjbaaDoor
set_option linter.unusedVariables false
set_option linter.unusedSimpArgs false
namespace Go.Proofs.YtpjhffockmnjbaaDoor
open Go.RowKit
/-- Is a number an element of a set? -/
def bitI (s : Int) (k : Nat) : Bool := andI (s / 2 ^ k) 1 == 1
def outL (s : Int) (n : Nat) : List Int := ((List.range n).filter (bitI s)).map fun k => ((k : Nat) : Int)
def keepR (b : Sheet) (s : Int) (n : Nat) : List Rule := ((List.range n).filter fun k => !bitI s k).map fun k => b.rules.getD k default
def dropB (b : Sheet) (s : Int) : Sheet := { b with rules := keepR b s b.rules.length }
theorem out_yes {s : Int} {k : Nat} (h : bitI s k = true) : outL s (k + 1) = outL s k ++ [((k : Nat) : Int)] := by
  simp [outL, List.range_succ, h]
theorem out_no {s : Int} {k : Nat} (h : bitI s k = false) : outL s (k + 1) = outL s k := by
  simp [outL, List.range_succ, h]
theorem keep_yes {b : Sheet} {s : Int} {k : Nat} (h : bitI s k = true) : keepR b s (k + 1) = keepR b s k := by
  simp [keepR, List.range_succ, h]
theorem keep_no {b : Sheet} {s : Int} {k : Nat} (h : bitI s k = false) : keepR b s (k + 1) = keepR b s k ++ [b.rules.getD k default] := by
  simp [keepR, List.range_succ, h]
theorem out_le (s : Int) (n : Nat) : (outL s n).length ≤ n := by
  have := List.length_filter_le (bitI s) (List.range n)
  simpa [outL] using this
theorem keep_le (b : Sheet) (s : Int) (n : Nat) : (keepR b s n).length ≤ n := by
  have := List.length_filter_le (fun k => !bitI s k) (List.range n)
  simpa [keepR] using this
theorem map_getD {α : Type} [Inhabited α] (l : List α) : (List.range l.length).map (fun k => l.getD k default) = l := by
  apply List.ext_getElem (by simp)
  intro i h1 h2
  simp [List.getD_eq_getElem?_getD, List.getElem?_eq_getElem h2]
theorem keep_sub (b : Sheet) (s : Int) : (keepR b s b.rules.length).Sublist b.rules := by
  have h := (List.filter_sublist (p := fun k => !bitI s k) (l := List.range b.rules.length)).map fun k => b.rules.getD k default
  rwa [map_getD] at h
theorem distinct_iff {l : List Rule} : (∀ i j : Nat, i < j → j < l.length → l.getD i default ≠ l.getD j default) ↔ l.Nodup := by
  rw [List.nodup_iff_pairwise_ne, List.pairwise_iff_getElem]
  constructor
  · intro h i j hi hj hij
    have := h i j hij hj
    rw [List.getD_eq_getElem?_getD, List.getD_eq_getElem?_getD, List.getElem?_eq_getElem hi, List.getElem?_eq_getElem hj] at this
    simpa using this
  · intro h i j hij hj
    rw [List.getD_eq_getElem?_getD, List.getD_eq_getElem?_getD, List.getElem?_eq_getElem (by omega), List.getElem?_eq_getElem hj]
    exact h i j (by omega) hj hij
theorem valid_sub {b : Sheet} (hv : Valid b) {l : List Rule} (h : l.Sublist b.rules) : Valid { b with rules := l } :=
  ⟨hv.wide, hv.high, hv.many, Nat.le_trans h.length_le hv.rules, hv.flap, fun r hr => hv.rule r (h.subset hr), distinct_iff.2 ((distinct_iff.1 hv.distinct).sublist h)⟩
theorem valid_drop {b : Sheet} (hv : Valid b) (s : Int) : Valid (dropB b s) := valid_sub hv (keep_sub b s)
def dropBad (o : Option (List Int)) (l : List Int) : Bool := o.isSome && (decide (((o.getD []).length : Nat) < ((l.length : Nat) : Int)) || ((((l.length : Nat) : Int) == (((o.getD []).length : Nat) : Int)) && decide (0 ≤ cmpZ l (o.getD []))))
def dropStep (b : Sheet) (o : Option (List Int)) (s : Nat) : Option (List Int) :=
  if dropBad o (outL (s : Nat) b.rules.length) = true then o else if foldsP (dropB b (s : Nat)) = true then some (outL (s : Nat) b.rules.length) else o
def dropF (b : Sheet) (n : Nat) : Option (List Int) := (List.range n).foldl (dropStep b) none
/-- The fewest rules that must go. -/
def dropP (b : Sheet) : List Int × Int := if askE b true = 0 then ((dropF b (2 ^ b.rules.length)).getD [], 0) else ([], askE b true)
theorem dropF_succ (b : Sheet) (n : Nat) : dropF b (n + 1) = dropStep b (dropF b n) n := by
  simp [dropF, List.range_succ]
theorem pow_wrap {n : Nat} (h : n ≤ 10) : IntKind.i64.wrap (1 * 2 ^ ((n : Nat) : Int).toNat) = ((2 ^ n : Nat) : Int) := by
  have h1 : 2 ^ n ≤ 1024 := Nat.pow_le_pow_right (n := 2) (by decide) h
  have h2 : (1 : Int) * 2 ^ ((n : Nat) : Int).toNat = ((2 ^ n : Nat) : Int) := by simp
  rw [h2]
  generalize 2 ^ n = q at h1
  exact wrap_in (by omega)
theorem plain_acc (sz n : Nat) (o : Acc) : plain (accV sz n o) = true := by
  cases o <;> rfl
section
variable {w0 : Base} {Ds : List (World → Prop)} {w : World} {K X Y : Own}
theorem St.swapN (k : Nat) (hs : St w0 Ds K w) (hK : K = K.take k ++ (X ++ Y)) : St w0 Ds (K.take k ++ (Y ++ X)) w := by
  refine hs.perm ?_
  obtain ⟨T, hT⟩ : ∃ T, K.take k = T := ⟨_, rfl⟩
  rw [hT] at hK ⊢
  rw [hK]
  exact List.Perm.append_left _ List.perm_append_comm
theorem rd_single {α : Type} {enc : α → List Value} {x : α} {vs : List Value} {b : Nat} {e : TypeId} {fz : Nat × Nat} {sz : Nat} (he : enc x = vs) (hb : w.heap[b]? = some (.cells vs.toArray e fz)) : Rd enc sz (some ⟨b, 0, none⟩) 1 [x] w := by
  refine rd_of_block hb rfl (by omega) fun i y hy j u hu => ?_
  cases i with
  | zero =>
    simp at hy; subst hy
    rw [he] at hu
    simpa using hu
  | succ i => simp at hy
theorem acc_new {sz n : Nat} {o : Acc} {A : Option Addr} {c m : Nat} (h : ∀ q, o = some q → m ≤ q.1) (e : accV sz n o = .slice A n c) : ∀ bk off, A = some ⟨bk, off, none⟩ → m ≤ bk := by
  intro bk off hA
  cases o with
  | none => simp [accV] at e; rw [hA] at e; cases e.1
  | some q =>
    obtain ⟨q1, q2⟩ := q
    simp only [accV, Value.slice.injEq] at e
    rw [hA] at e
    have := h _ rfl
    have h1 := e.1
    simp at h1
    omega
end
end Go.Proofs.YtpjhffockmnjbaaDoor
set_option linter.unusedVariables false
set_option linter.unusedSimpArgs false
namespace Go.Proofs.YtpjhffockmnjbaaDoor
open Go.RowKit
def chapB (rl rh : Int) : Sheet := ⟨10, 8, [⟨0, rl, rh, 0, 7⟩, ⟨1, 4, 5, 0, 7⟩, ⟨2, 3, 3, 2, 7⟩, ⟨3, 2, 2, 8, 9⟩], [⟨1, 0⟩, ⟨2, 1⟩, ⟨0, 2⟩, ⟨3, 1⟩]⟩
def chF (rl rh : Int) : Array Value := ((chapB rl rh).flaps.flatMap encF).toArray
def chR : Array Value := ((chapB 0 0).rules.flatMap encR).toArray
abbrev chV (bf br : Nat) : Value := .agg #[.int .i64 10, .int .i64 8, .slice (some ⟨bf, 0, none⟩) 4 4, .slice (some ⟨br, 0, none⟩) 4 4]
/-- The chapter's sheet lies in two blocks, no older than m. -/
def ChIn (rl rh : Int) (bf br m : Nat) (w : World) : Prop := m ≤ bf ∧ m ≤ br ∧ bf ≠ br ∧ w.heap[bf]? = some (.cells (chF rl rh) 49 (0, 0)) ∧ w.heap[br]? = some (.cells chR 64 (0, 0))
theorem ChIn.sh {rl rh : Int} {bf br m : Nat} {w : World} (h : ChIn rl rh bf br m w) : ShIn (chapB rl rh) (some ⟨bf, 0, none⟩) 4 (some ⟨br, 0, none⟩) 4 w :=
  ⟨rd_of_flat (sz := 5) (len := 4) (fun _ => rfl) (by decide) h.2.2.2.1 rfl (by decide) rfl, rd_of_flat (sz := 2) (len := 4) (fun _ => rfl) (by decide) h.2.2.2.2 rfl (by decide) rfl, Nat.le_refl _, Nat.le_refl _⟩
theorem fresh_of {w w' : World} {D : World → Prop} (h : Stable (List.range w.heap.size) w' D) : Fresh w w' D :=
  fun w'' hs hb => h w'' ⟨hs, fun i hi hn => hb i (by simpa using hn) hi⟩
theorem chFresh {w w' : World} {rl rh : Int} {bf br m : Nat} (h : ChIn rl rh bf br w.heap.size w') (hm : m ≤ w.heap.size) : Fresh w w' (ChIn rl rh bf br m) := by
  obtain ⟨h1, h2, h3, h4, h5⟩ := h
  exact fun w'' hs hb => ⟨Nat.le_trans hm h1, Nat.le_trans hm h2, h3, (hb bf h1 (Array.getElem?_eq_some_iff.1 h4).1).trans h4, (hb br h2 (Array.getElem?_eq_some_iff.1 h5).1).trans h5⟩
theorem outFresh {w w' : World} {l : List Int} {A : Option Addr} {c : Nat} (h : Out l A c w w') : Fresh w w' (Rd encI 1 A l.length l) :=
  fresh_of (h.2.1.stable fun bk off e hm => by
    have := h.2.2 bk off e
    simp at hm
    omega)
section
variable {P : Program} {ops : Array Oper} {Q : Exit → Act → World → Prop} {rest : List Oper} {ds : List Deferred} {a : Act} {n : Nat} {L : Regs} {w : World} {t : TypeId} {p : String} {af : Array Edge} {o : Op} {d : Option Nat}
theorem gKnown (hf : Fr ds a n L) {j r : Nat} {want : Bool} {u : Value} (hj : (ops[j]?).bind (·.dst) = some r) (hu : ev L (.tmp r) = some u) (hG : gyes u want = true) (h : wpList P ops Q (⟨d, o, t, p, af, none⟩ :: rest) a w) : wpList P ops Q (⟨d, o, t, p, af, some (j, want)⟩ :: rest) a w := by
  unfold wpList at h ⊢
  rw [wanted_of hf rfl hj hu, hG, if_pos rfl]
  rw [if_pos (by simp [Region.wanted])] at h
  exact h
end
theorem k_meet : meetP (chapB 5 6) 0 1 = (1, 0) := by decide +kernel
theorem k_does : doesP (chapB 5 6) [1, 2, 0, 3] = (1, 0) := by decide +kernel
theorem k_ring : ringP (chapB 5 6) = ([0, 1, 2], 0) := by decide +kernel
theorem k_order : orderP (chapB 5 6) = ([], 4) := by decide +kernel
theorem k_drop : dropP (chapB 5 6) = ([0], 0) := by decide +kernel
theorem k_order2 : orderP (chapB 5 5) = ([1, 2, 0, 3], 0) := by decide +kernel
theorem k_count2 : countP (chapB 5 5) = (3, 0) := by decide +kernel
theorem k_round2 : roundP (chapB 5 5) = (3, 0) := by decide +kernel
theorem k_short : shorterP (chapB 5 6) 0 = (1, 0) := by decide +kernel
end Go.Proofs.YtpjhffockmnjbaaDoor
set_option linter.unusedVariables false
set_option linter.unusedSimpArgs false
namespace Go.Proofs.YtpjhffockmnjbaaDoor
open Go.RowKit
theorem sound0 (b : Sheet) : ((((((if checkB b = true then (0 : Int) else 40) == 0) && fitsB b.wide 1 99) && fitsB b.high 1 99) && fitsB ((b.flaps.length : Nat) : Int) 1 7) && decide (((b.rules.length : Nat) : Int) ≤ 10)) = checkB b := by
  cases h : checkB b with
  | false => rfl
  | true =>
    have hv := valid_of h
    have h1 := hv.wide; have h2 := hv.high; have h3 := hv.many; have h4 := hv.rules
    simp only [fitsB, if_true, Bool.and_eq_true, decide_eq_true_eq]
    refine ⟨⟨⟨⟨rfl, ?_⟩, ?_⟩, ?_⟩, ?_⟩ <;> omega
theorem sound1 {b : Sheet} (h : checkB b = true) {k : Nat} (hk : k < b.flaps.length) : ((fitsB (b.flaps.getD k default).side 0 3 && spanB (b.flaps.getD k default).rl (b.flaps.getD k default).rh 1 99) && spanB (b.flaps.getD k default).al (b.flaps.getD k default).ah 0 98) = checkB b := by
  have hv := valid_of h
  have h1 := hv.wide; have h2 := hv.high
  have h3 := hv.flap _ (getD_mem (l := b.flaps) (i := k) hk)
  rw [h]
  simp only [fitsB, spanB, Bool.and_eq_true, decide_eq_true_eq]
  omega
theorem sound2 {b : Sheet} (h : checkB b = true) {k : Nat} (hk : k < b.rules.length) : (fitsB (b.rules.getD k default).over 0 (((b.flaps.length : Nat) : Int) - 1) && fitsB (b.rules.getD k default).under 0 (((b.flaps.length : Nat) : Int) - 1)) = checkB b := by
  have hv := valid_of h
  have h3 := hv.rule _ (getD_mem (l := b.rules) (i := k) hk)
  rw [h]
  simp only [fitsB, Bool.and_eq_true, decide_eq_true_eq]
  omega
/-! ### Flaps that meet -/
def hitB (b : Sheet) (x y : Flap) (r s : Int) : Bool := lapB (colLo b x r) (colHi b x r) (colLo b y s) (colHi b y s) && lapB (rowLo b x r) (rowHi b x r) (rowLo b y s) (rowHi b y s)
theorem touch_hit (b : Sheet) (i j : Int) (m : Bool) : touchB b i j m = hitB b (flapA b i) (flapA b j) (farF (flapA b i) m) (farF (flapA b j) m) := rfl
theorem flap_ok {b : Sheet} (hv : Valid b) {i : Int} (hi : inN b i) : flapA b i ∈ b.flaps := getD_mem (l := b.flaps) (i := i.toNat) (by have := hi.1; have := hi.2; omega)
theorem area_ok {b : Sheet} (hv : Valid b) {x : Flap} (hx : x ∈ b.flaps) {r : Int} (h1 : x.rl ≤ r) (h2 : r ≤ x.rh) : 0 ≤ colLo b x r ∧ colLo b x r ≤ colHi b x r ∧ colHi b x r < b.wide ∧ 0 ≤ rowLo b x r ∧ rowLo b x r ≤ rowHi b x r ∧ rowHi b x r < b.high := by
  obtain ⟨s1, s2, s3, s4, s5, s6, s7, s8⟩ := hv.flap x hx
  have hw := hv.wide; have hh := hv.high
  have hs : x.side = 0 ∨ x.side = 1 ∨ x.side = 2 ∨ x.side = 3 := by omega
  rcases hs with h | h | h | h <;> simp only [colLo, colHi, rowLo, rowHi, h] <;> simp <;> omega
theorem cover_iff {b : Sheet} (hv : Valid b) {x : Flap} (hx : x ∈ b.flaps) {r c q : Int} (hc : 0 ≤ c ∧ c < b.wide) (hq : 0 ≤ q ∧ q < b.high) : coverB b x r c q = true ↔ colLo b x r ≤ c ∧ c ≤ colHi b x r ∧ rowLo b x r ≤ q ∧ q ≤ rowHi b x r := by
  obtain ⟨s1, s2, s3, s4, s5, s6, s7, s8⟩ := hv.flap x hx
  have hs : x.side = 0 ∨ x.side = 1 ∨ x.side = 2 ∨ x.side = 3 := by omega
  rcases hs with h | h | h | h <;> simp only [coverB, colLo, colHi, rowLo, rowHi, h, fitsB] <;> simp <;> omega
theorem hit_iff {b : Sheet} {x y : Flap} {r s : Int} : hitB b x y r s = true ↔ colLo b x r ≤ colHi b y s ∧ colLo b y s ≤ colHi b x r ∧ rowLo b x r ≤ rowHi b y s ∧ rowLo b y s ≤ rowHi b x r := by
  simp only [hitB, lapB, Bool.and_eq_true, decide_eq_true_eq, and_assoc]
theorem square_hit {b : Sheet} (hv : Valid b) {i j r s : Int} (hi : inN b i) (hj : inN b j) (hr : (flapA b i).rl ≤ r ∧ r ≤ (flapA b i).rh) (hs : (flapA b j).rl ≤ s ∧ s ≤ (flapA b j).rh) : squareB b i r j s = hitB b (flapA b i) (flapA b j) r s := by
  have a1 := area_ok hv (flap_ok hv hi) hr.1 hr.2
  have a2 := area_ok hv (flap_ok hv hj) hs.1 hs.2
  rw [Bool.eq_iff_iff, hit_iff]
  unfold squareB
  simp only [List.any_eq_true, List.mem_range, bothB, Bool.and_eq_true]
  constructor
  · rintro ⟨c, hc, q, hq, h1, h2⟩
    rw [cover_iff hv (flap_ok hv hi) (by omega) (by omega)] at h1
    rw [cover_iff hv (flap_ok hv hj) (by omega) (by omega)] at h2
    omega
  · intro h
    refine ⟨(max (colLo b (flapA b i) r) (colLo b (flapA b j) s)).toNat, by omega, (max (rowLo b (flapA b i) r) (rowLo b (flapA b j) s)).toNat, by omega, ?_, ?_⟩
    · rw [cover_iff hv (flap_ok hv hi) (by omega) (by omega)]; omega
    · rw [cover_iff hv (flap_ok hv hj) (by omega) (by omega)]; omega
theorem area_mono {b : Sheet} {x : Flap} {r s : Int} (h : r ≤ s) : colLo b x s ≤ colLo b x r ∧ colHi b x r ≤ colHi b x s ∧ rowLo b x s ≤ rowLo b x r ∧ rowHi b x r ≤ rowHi b x s := by
  unfold colLo colHi rowLo rowHi
  refine ⟨?_, ?_, ?_, ?_⟩ <;> (repeat' split) <;> omega
theorem hit_mono {b : Sheet} {x y : Flap} {r s r' s' : Int} (hr : r ≤ r') (hs : s ≤ s') (h : hitB b x y r s = true) : hitB b x y r' s' = true := by
  rw [hit_iff] at h ⊢
  have := area_mono (b := b) (x := x) hr
  have := area_mono (b := b) (x := y) hs
  omega
theorem hit_comm (b : Sheet) (x y : Flap) (r s : Int) : hitB b x y r s = hitB b y x s r := by
  rw [Bool.eq_iff_iff, hit_iff, hit_iff]; omega
theorem touch_comm (b : Sheet) (i j : Int) (m : Bool) : touchB b i j m = touchB b j i m := by
  rw [touch_hit, touch_hit, hit_comm]
theorem touch_mono {b : Sheet} (hv : Valid b) {i j : Int} (hi : inN b i) (hj : inN b j) (h : touchB b i j false = true) : touchB b i j true = true := by
  rw [touch_hit] at h ⊢
  have h1 := hv.flap _ (flap_ok hv hi); have h2 := hv.flap _ (flap_ok hv hj)
  exact hit_mono (by simp only [farF]; exact h1.2.2.2.1) (by simp only [farF]; exact h2.2.2.2.1) h
theorem cell_comm (b : Sheet) (i j : Int) : cellN b 2 i j = cellN b 2 j i := by
  unfold cellN
  rw [touch_comm b i j, touch_comm b i j]
  simp only [show (i ≠ j) = (j ≠ i) from propext ⟨Ne.symm, Ne.symm⟩]
theorem cell_eq {b : Sheet} (hv : Valid b) {i j : Int} (hi : inN b i) (hj : inN b j) (hne : i ≠ j) : cellN b 2 i j = if touchB b i j false = true then 2 else if touchB b i j true = true then 1 else 0 := by
  unfold cellN
  by_cases h : touchB b i j false = true
  · have := touch_mono hv hi hj h
    simp [h, this, hne]
  · by_cases h' : touchB b i j true = true <;> simp [h, h', hne]
theorem cell_rng (b : Sheet) (i j : Int) : 0 ≤ cellN b 2 i j ∧ cellN b 2 i j ≤ 2 := by
  unfold cellN; constructor <;> (repeat' split) <;> omega
theorem met_low {b : Sheet} (hv : Valid b) {i j : Int} (hi : inN b i) (hj : inN b j) (hne : i ≠ j) : (cellN b 2 i j == 2) = squareB b i (flapA b i).rl j (flapA b j).rl := by
  have h1 := hv.flap _ (flap_ok hv hi); have h2 := hv.flap _ (flap_ok hv hj)
  rw [square_hit hv hi hj ⟨Int.le_refl _, h1.2.2.2.1⟩ ⟨Int.le_refl _, h2.2.2.2.1⟩, cell_eq hv hi hj hne]
  have h3 : touchB b i j false = hitB b (flapA b i) (flapA b j) (flapA b i).rl (flapA b j).rl := rfl
  rw [← h3]
  cases touchB b i j false
  · by_cases h' : touchB b i j true = true <;> simp [h']
  · simp
theorem met_high {b : Sheet} (hv : Valid b) {i j : Int} (hi : inN b i) (hj : inN b j) (hne : i ≠ j) : decide (0 < cellN b 2 i j) = squareB b i (flapA b i).rh j (flapA b j).rh := by
  have h1 := hv.flap _ (flap_ok hv hi); have h2 := hv.flap _ (flap_ok hv hj)
  rw [square_hit hv hi hj ⟨h1.2.2.2.1, Int.le_refl _⟩ ⟨h2.2.2.2.1, Int.le_refl _⟩, cell_eq hv hi hj hne]
  have h3 : touchB b i j true = hitB b (flapA b i) (flapA b j) (flapA b i).rh (flapA b j).rh := rfl
  rw [← h3]
  by_cases h : touchB b i j false = true
  · rw [touch_mono hv hi hj h]; simp [h]
  · cases h' : touchB b i j true <;> simp [h]
theorem met_true {b : Sheet} (hv : Valid b) {i j r s : Int} (hi : inN b i) (hj : inN b j) (hne : i ≠ j) (hr : (flapA b i).rl ≤ r ∧ r ≤ (flapA b i).rh) (hs : (flapA b j).rl ≤ s ∧ s ≤ (flapA b j).rh) : ((cellN b 2 i j == 2 && !squareB b i r j s) || (cellN b 2 i j == 0 && squareB b i r j s)) = false := by
  have e1 := met_low hv hi hj hne
  have e2 := met_high hv hi hj hne
  have h1 := hv.flap _ (flap_ok hv hi); have h2 := hv.flap _ (flap_ok hv hj)
  rw [square_hit hv hi hj ⟨Int.le_refl _, h1.2.2.2.1⟩ ⟨Int.le_refl _, h2.2.2.2.1⟩] at e1
  rw [square_hit hv hi hj ⟨h1.2.2.2.1, Int.le_refl _⟩ ⟨h2.2.2.2.1, Int.le_refl _⟩] at e2
  rw [square_hit hv hi hj hr hs, e1]
  have m1 := hit_mono (b := b) (x := flapA b i) (y := flapA b j) hr.1 hs.1
  have m2 := hit_mono (b := b) (x := flapA b i) (y := flapA b j) hr.2 hs.2
  cases hh : hitB b (flapA b i) (flapA b j) r s with
  | false =>
    cases hl : hitB b (flapA b i) (flapA b j) (flapA b i).rl (flapA b j).rl with
    | false => simp
    | true => rw [m1 hl] at hh; cases hh
  | true =>
    rw [m2 hh] at e2
    have := of_decide_eq_true e2
    have hz : (cellN b 2 i j == 0) = false := by simp; omega
    rw [hz]; simp
theorem spin_rng (n : Int) {m : Int} (h : 1 ≤ m) : 0 ≤ spin n m ∧ spin n m < m := by
  unfold spin
  have h1 := Int.tmod_lt_of_pos n (show 0 < m by omega)
  have h2 := Int.lt_tmod_of_pos n (show 0 < m by omega)
  rw [if_neg (by omega)]
  split <;> omega
theorem other_ne {n k m : Int} (hm : 2 ≤ m) (hn : 0 ≤ n ∧ n < m) : spin (n + 1 + spin k (m - 1)) m ≠ n := by
  have h1 := spin_rng k (m := m - 1) (by omega)
  have h2 : 0 ≤ n + 1 + spin k (m - 1) := by omega
  intro h
  unfold spin at h
  rw [if_neg (by omega)] at h
  have h3 : (n + 1 + (if m - 1 < 1 then 0 else if k.tmod (m - 1) < 0 then k.tmod (m - 1) + (m - 1) else k.tmod (m - 1))) = n + 1 + spin k (m - 1) := rfl
  rw [h3, Int.tmod_eq_emod_of_nonneg h2] at h
  have h4 := Int.emod_nonneg (n + 1 + spin k (m - 1)) (show m ≠ 0 by omega)
  rw [if_neg (by omega)] at h
  by_cases h5 : n + 1 + spin k (m - 1) < m
  · rw [Int.emod_eq_of_lt h2 h5] at h; omega
  · rw [show n + 1 + spin k (m - 1) = (n + 1 + spin k (m - 1) - m) + m * 1 by omega, Int.add_mul_emod_self_left, Int.emod_eq_of_lt (by omega) (by omega)] at h; omega
theorem meetP_ok {b : Sheet} (hck : checkB b = true) {i j : Int} (hi : inN b i) (hj : inN b j) (hne : i ≠ j) : meetP b i j = (cellN b 2 i j, 0) := by
  have h1 : meetOk b i j = true := by
    have := hi.1; have := hi.2; have := hj.1; have := hj.2
    simp only [meetOk, flapB, fitsB, Bool.and_eq_true, decide_eq_true_eq, bne_iff_ne]
    omega
  have h2 : askE b (meetOk b i j) = 0 := by rw [h1]; simp [askE, hck]
  simp [meetP, h2]
theorem reach_rng {b : Sheet} (hv : Valid b) {i : Int} (hi : inN b i) (bits : List Int) : (flapA b i).rl ≤ reachZ b i.toNat bits ∧ reachZ b i.toNat bits ≤ (flapA b i).rh ∧ 0 ≤ reachZ b i.toNat bits ∧ reachZ b i.toNat bits ≤ 99 := by
  have h1 := flap_far hv hi
  have h2 := drawnZ_range (lo := (flapA b i).rl) (hi := (flapA b i).rh) (itemZ bits i.toNat) h1.2.1
  have h3 : reachZ b i.toNat bits = drawnZ (flapA b i).rl (flapA b i).rh (itemZ bits i.toNat) := rfl
  omega
end Go.Proofs.YtpjhffockmnjbaaDoor
set_option linter.unusedVariables false
set_option linter.unusedSimpArgs false
namespace Go.Proofs.YtpjhffockmnjbaaDoor
open Go.RowKit
theorem c_within (n lo hi : Int) (w0 : World) :
    Calls Tryd.prog 58 #[.int .i64 n, .int .i64 lo, .int .i64 hi] w0 (Ret w0 (.bool (fitsB n lo hi))) := by
  refine c_enter (n := 15) Tryd.func58 rfl rfl (Nat.le_of_ble_eq_true rfl) ?_; intro a hf; simp only [zipR] at hf
  have hs := St.start w0 [] (by simp)
  refine c_reg ?_
  refine gL hf (g_as hf rfl) (by decide) ?_; clear hf a; intro a hf
  refine e_nil ?_
  refine c_reg ?_
  refine gL hf (g_mv hf rfl) (by decide) ?_; clear hf a; intro a hf
  refine gL hf (g_mv hf rfl) (by decide) ?_; clear hf a; intro a hf
  refine gL hf (g_leq hf rfl rfl) (by decide) ?_; clear hf a; intro a hf
  refine gL hf (g_mv hf rfl) (by decide) ?_; clear hf a; intro a hf
  refine ggL hf rfl rfl (gyes_t _) (fun hg => g_mv hf rfl) (by decide) ?_; clear hf a; intro a hf
  refine ggL hf rfl rfl (gyes_t _) (fun hg => g_mv hf rfl) (by decide) ?_; clear hf a; intro a hf
  refine ggL hf rfl rfl (gyes_t _) (fun hg => g_leq hf (ev_gv rfl hg) (ev_gv rfl hg)) (by decide) ?_; clear hf a; intro a hf
  refine gL hf (g_and hf rfl rfl) (by decide) ?_; clear hf a; intro a hf
  refine gL hf (g_as hf rfl) (by decide) ?_; clear hf a; intro a hf
  refine e_nil ?_
  refine c_ret ?_
  refine e_ret1 hf rfl rfl ?_
  exact ⟨rfl, hs.below⟩

theorem c_Fits (n lo hi : Int) (w0 : World) :
    Calls Tryd.prog 39 #[.int .i64 n, .int .i64 lo, .int .i64 hi] w0 (Ret w0 (.bool (fitsB n lo hi))) := by
  refine c_enter (n := 15) Tryd.func39 rfl rfl (Nat.le_of_ble_eq_true rfl) ?_; intro a hf; simp only [zipR] at hf
  have hs := St.start w0 [] (by simp)
  refine c_reg ?_
  refine gL hf (g_as hf rfl) (by decide) ?_; clear hf a; intro a hf
  refine e_nil ?_
  refine c_reg ?_
  refine gL hf (g_mv hf rfl) (by decide) ?_; clear hf a; intro a hf
  refine gL hf (g_mv hf rfl) (by decide) ?_; clear hf a; intro a hf
  refine gL hf (g_leq hf rfl rfl) (by decide) ?_; clear hf a; intro a hf
  refine gL hf (g_mv hf rfl) (by decide) ?_; clear hf a; intro a hf
  refine ggL hf rfl rfl (gyes_t _) (fun hg => g_mv hf rfl) (by decide) ?_; clear hf a; intro a hf
  refine ggL hf rfl rfl (gyes_t _) (fun hg => g_mv hf rfl) (by decide) ?_; clear hf a; intro a hf
  refine ggL hf rfl rfl (gyes_t _) (fun hg => g_leq hf (ev_gv rfl hg) (ev_gv rfl hg)) (by decide) ?_; clear hf a; intro a hf
  refine gL hf (g_and hf rfl rfl) (by decide) ?_; clear hf a; intro a hf
  refine gL hf (g_as hf rfl) (by decide) ?_; clear hf a; intro a hf
  refine e_nil ?_
  refine c_ret ?_
  refine e_ret1 hf rfl rfl ?_
  exact ⟨rfl, hs.below⟩

theorem c_isSpan (sl sh lo hi : Int) (w0 : World) :
    Calls Tryd.prog 59 #[.agg #[.int .i64 sl, .int .i64 sh], .int .i64 lo, .int .i64 hi] w0 (Ret w0 (.bool (spanB sl sh lo hi))) := by
  refine c_enter (n := 24) Tryd.func59 rfl rfl (Nat.le_of_ble_eq_true rfl) ?_; intro a hf; simp only [zipR] at hf
  have hs := St.start w0 [] (by simp)
  refine c_reg ?_
  refine vL hf (v_boxA hf hs rfl) (by decide) ?_; clear hs hf a; rintro _ w ⟨b1, rfl, hs⟩ a hf
  refine gL hf (g_as hf rfl) (by decide) ?_; clear hf a; intro a hf
  refine e_nil ?_
  refine c_reg ?_
  refine gL hf (g_mv hf rfl) (by decide) ?_; clear hf a; intro a hf
  refine gL hf (g_fa (off' := 0) hf F47_0 rfl rfl) (by decide) ?_; clear hf a; intro a hf
  refine gL hf (g_ld hf hs T3 rfl (k := 0) rfl rfl) (by decide) ?_; clear hf a; intro a hf
  refine gL hf (g_leq hf rfl rfl) (by decide) ?_; clear hf a; intro a hf
  refine gL hf (g_mv hf rfl) (by decide) ?_; clear hf a; intro a hf
  refine ggL hf rfl rfl (gyes_t _) (fun hg => g_fa (off' := 0) hf F47_0 rfl rfl) (by decide) ?_; clear hf a; intro a hf
  refine ggL hf rfl rfl (gyes_t _) (fun hg => g_ld hf hs T3 (ev_gv rfl hg) (k := 0) rfl rfl) (by decide) ?_; clear hf a; intro a hf
  refine ggL hf rfl rfl (gyes_t _) (fun hg => g_fa (off' := 1) hf F47_1 rfl rfl) (by decide) ?_; clear hf a; intro a hf
  refine ggL hf rfl rfl (gyes_t _) (fun hg => g_ld hf hs T3 (ev_gv rfl hg) (k := 0) rfl rfl) (by decide) ?_; clear hf a; intro a hf
  refine ggL hf rfl rfl (gyes_t _) (fun hg => g_leq hf (ev_gv rfl hg) (ev_gv rfl hg)) (by decide) ?_; clear hf a; intro a hf
  refine gL hf (g_and hf rfl rfl) (by decide) ?_; clear hf a; intro a hf
  refine gL hf (g_mv hf rfl) (by decide) ?_; clear hf a; intro a hf
  refine ggL hf rfl rfl (gyes_t _) (fun hg => g_fa (off' := 1) hf F47_1 rfl rfl) (by decide) ?_; clear hf a; intro a hf
  refine ggL hf rfl rfl (gyes_t _) (fun hg => g_ld hf hs T3 (ev_gv rfl hg) (k := 0) rfl rfl) (by decide) ?_; clear hf a; intro a hf
  refine ggL hf rfl rfl (gyes_t _) (fun hg => g_mv hf rfl) (by decide) ?_; clear hf a; intro a hf
  refine ggL hf rfl rfl (gyes_t _) (fun hg => g_leq hf (ev_gv rfl hg) (ev_gv rfl hg)) (by decide) ?_; clear hf a; intro a hf
  refine gL hf (g_and hf rfl rfl) (by decide) ?_; clear hf a; intro a hf
  refine gL hf (g_as hf rfl) (by decide) ?_; clear hf a; intro a hf
  refine e_nil ?_
  refine c_ret ?_
  refine e_ret1 hf rfl rfl ?_
  exact ⟨rfl, hs.below⟩

theorem c_Right (sl sh lo hi : Int) (w0 : World) :
    Calls Tryd.prog 80 #[.agg #[.int .i64 sl, .int .i64 sh], .int .i64 lo, .int .i64 hi] w0 (Ret w0 (.bool (spanB sl sh lo hi))) := by
  refine c_enter (n := 24) Tryd.func80 rfl rfl (Nat.le_of_ble_eq_true rfl) ?_; intro a hf; simp only [zipR] at hf
  have hs := St.start w0 [] (by simp)
  refine c_reg ?_
  refine vL hf (v_boxA hf hs rfl) (by decide) ?_; clear hs hf a; rintro _ w ⟨b1, rfl, hs⟩ a hf
  refine gL hf (g_as hf rfl) (by decide) ?_; clear hf a; intro a hf
  refine e_nil ?_
  refine c_reg ?_
  refine gL hf (g_mv hf rfl) (by decide) ?_; clear hf a; intro a hf
  refine gL hf (g_fa (off' := 0) hf F47_0 rfl rfl) (by decide) ?_; clear hf a; intro a hf
  refine gL hf (g_ld hf hs T3 rfl (k := 0) rfl rfl) (by decide) ?_; clear hf a; intro a hf
  refine gL hf (g_leq hf rfl rfl) (by decide) ?_; clear hf a; intro a hf
  refine gL hf (g_mv hf rfl) (by decide) ?_; clear hf a; intro a hf
  refine ggL hf rfl rfl (gyes_t _) (fun hg => g_fa (off' := 0) hf F47_0 rfl rfl) (by decide) ?_; clear hf a; intro a hf
  refine ggL hf rfl rfl (gyes_t _) (fun hg => g_ld hf hs T3 (ev_gv rfl hg) (k := 0) rfl rfl) (by decide) ?_; clear hf a; intro a hf
  refine ggL hf rfl rfl (gyes_t _) (fun hg => g_fa (off' := 1) hf F47_1 rfl rfl) (by decide) ?_; clear hf a; intro a hf
  refine ggL hf rfl rfl (gyes_t _) (fun hg => g_ld hf hs T3 (ev_gv rfl hg) (k := 0) rfl rfl) (by decide) ?_; clear hf a; intro a hf
  refine ggL hf rfl rfl (gyes_t _) (fun hg => g_leq hf (ev_gv rfl hg) (ev_gv rfl hg)) (by decide) ?_; clear hf a; intro a hf
  refine gL hf (g_and hf rfl rfl) (by decide) ?_; clear hf a; intro a hf
  refine gL hf (g_mv hf rfl) (by decide) ?_; clear hf a; intro a hf
  refine ggL hf rfl rfl (gyes_t _) (fun hg => g_fa (off' := 1) hf F47_1 rfl rfl) (by decide) ?_; clear hf a; intro a hf
  refine ggL hf rfl rfl (gyes_t _) (fun hg => g_ld hf hs T3 (ev_gv rfl hg) (k := 0) rfl rfl) (by decide) ?_; clear hf a; intro a hf
  refine ggL hf rfl rfl (gyes_t _) (fun hg => g_mv hf rfl) (by decide) ?_; clear hf a; intro a hf
  refine ggL hf rfl rfl (gyes_t _) (fun hg => g_leq hf (ev_gv rfl hg) (ev_gv rfl hg)) (by decide) ?_; clear hf a; intro a hf
  refine gL hf (g_and hf rfl rfl) (by decide) ?_; clear hf a; intro a hf
  refine gL hf (g_as hf rfl) (by decide) ?_; clear hf a; intro a hf
  refine e_nil ?_
  refine c_ret ?_
  refine e_ret1 hf rfl rfl ?_
  exact ⟨rfl, hs.below⟩

theorem c_Sp (lo hi : Int) (w0 : World) :
    Calls Tryd.prog 52 #[.int .i64 lo, .int .i64 hi] w0 (Ret w0 (.agg #[.int .i64 lo, .int .i64 hi])) := by
  refine c_enter (n := 8) Tryd.func52 rfl rfl (Nat.le_of_ble_eq_true rfl) ?_; intro a hf; simp only [zipR] at hf
  have hs := St.start w0 [] (by simp)
  refine c_reg ?_
  refine vL hf (v_alloc hs T47 rfl) (by decide) ?_; clear hs hf a; rintro _ w ⟨b1, rfl, hs⟩ a hf
  refine e_nil ?_
  refine c_reg ?_
  refine gL hf (g_mv hf rfl) (by decide) ?_; clear hf a; intro a hf
  refine gL hf (g_mv hf rfl) (by decide) ?_; clear hf a; intro a hf
  refine gL hf (g_bld hf [[.int .i64 0], [.int .i64 0]] (.cons rfl (.cons rfl .nil)) (fun _ => by kernel_rfl)) (by decide) ?_; clear hf a; intro a hf
  refine uL (u_stW hf hs T47 rfl rfl rfl (k := 0) rfl rfl rfl) ?_; clear hs; intro w hs; dsimp only [List.set] at hs
  refine e_nil ?_
  refine c_ret ?_
  refine e_res hf hs rfl (.cellA T47 rfl (k := 0) rfl rfl .nil) rfl ?_
  exact ⟨rfl, hs.below⟩

theorem c_Only (n : Int) (w0 : World) :
    Calls Tryd.prog 86 #[.int .i64 n] w0 (Ret w0 (.agg #[.int .i64 n, .int .i64 n])) := by
  refine c_enter (n := 6) Tryd.func86 rfl rfl (Nat.le_of_ble_eq_true rfl) ?_; intro a hf; simp only [zipR] at hf
  have hs := St.start w0 [] (by simp)
  refine c_reg ?_
  refine vL hf (v_alloc hs T47 rfl) (by decide) ?_; clear hs hf a; rintro _ w ⟨b1, rfl, hs⟩ a hf
  refine e_nil ?_
  refine c_reg ?_
  refine gL hf (g_mv hf rfl) (by decide) ?_; clear hf a; intro a hf
  refine gL hf (g_mv hf rfl) (by decide) ?_; clear hf a; intro a hf
  refine callL hf hs (c_Sp _ _ _) rfl rfl rfl E52 (by decide) ?_; clear hs hf a; intro w a hs hf
  refine uL (u_stW hf hs T47 rfl rfl rfl (k := 0) rfl rfl rfl) ?_; clear hs; intro w hs; dsimp only [List.set] at hs
  refine e_nil ?_
  refine c_ret ?_
  refine e_res hf hs rfl (.cellA T47 rfl (k := 0) rfl rfl .nil) rfl ?_
  exact ⟨rfl, hs.below⟩

theorem c_Void (lo hi : Int) (w0 : World) :
    Calls Tryd.prog 88 #[.agg #[.int .i64 lo, .int .i64 hi]] w0 (Ret w0 (.bool (decide (hi < lo)))) := by
  refine c_enter (n := 8) Tryd.func88 rfl rfl (Nat.le_of_ble_eq_true rfl) ?_; intro a hf; simp only [zipR] at hf
  have hs := St.start w0 [] (by simp)
  refine c_reg ?_
  refine vL hf (v_boxA hf hs rfl) (by decide) ?_; clear hs hf a; rintro _ w ⟨b1, rfl, hs⟩ a hf
  refine gL hf (g_as hf rfl) (by decide) ?_; clear hf a; intro a hf
  refine e_nil ?_
  refine c_reg ?_
  refine gL hf (g_fa (off' := 1) hf F47_1 rfl rfl) (by decide) ?_; clear hf a; intro a hf
  refine gL hf (g_ld hf hs T3 rfl (k := 0) rfl rfl) (by decide) ?_; clear hf a; intro a hf
  refine gL hf (g_fa (off' := 0) hf F47_0 rfl rfl) (by decide) ?_; clear hf a; intro a hf
  refine gL hf (g_ld hf hs T3 rfl (k := 0) rfl rfl) (by decide) ?_; clear hf a; intro a hf
  refine gL hf (g_lss hf rfl rfl) (by decide) ?_; clear hf a; intro a hf
  refine gL hf (g_as hf rfl) (by decide) ?_; clear hf a; intro a hf
  refine e_nil ?_
  refine c_ret ?_
  refine e_ret1 hf rfl rfl ?_
  exact ⟨rfl, hs.below⟩

theorem c_Shared (al ah bl bh : Int) (w0 : World) :
    Calls Tryd.prog 89 #[.agg #[.int .i64 al, .int .i64 ah], .agg #[.int .i64 bl, .int .i64 bh]] w0 (Ret w0 (.agg #[.int .i64 (max al bl), .int .i64 (min ah bh)])) := by
  refine c_enter (n := 16) Tryd.func89 rfl rfl (Nat.le_of_ble_eq_true rfl) ?_; intro a hf; simp only [zipR] at hf
  have hs := St.start w0 [] (by simp)
  refine c_reg ?_
  refine vL hf (v_boxA hf hs rfl) (by decide) ?_; clear hs hf a; rintro _ w ⟨b1, rfl, hs⟩ a hf
  refine vL hf (v_boxA hf hs rfl) (by decide) ?_; clear hs hf a; rintro _ w ⟨b2, rfl, hs⟩ a hf
  refine vL hf (v_alloc hs T47 rfl) (by decide) ?_; clear hs hf a; rintro _ w ⟨b3, rfl, hs⟩ a hf
  refine e_nil ?_
  refine c_reg ?_
  refine gL hf (g_fa (off' := 0) hf F47_0 rfl rfl) (by decide) ?_; clear hf a; intro a hf
  refine gL hf (g_ld hf hs T3 rfl (k := 2) rfl rfl) (by decide) ?_; clear hf a; intro a hf
  refine gL hf (g_fa (off' := 0) hf F47_0 rfl rfl) (by decide) ?_; clear hf a; intro a hf
  refine gL hf (g_ld hf hs T3 rfl (k := 1) rfl rfl) (by decide) ?_; clear hf a; intro a hf
  refine gL hf (g_max hf rfl rfl) (by decide) ?_; clear hf a; intro a hf
  refine gL hf (g_fa (off' := 1) hf F47_1 rfl rfl) (by decide) ?_; clear hf a; intro a hf
  refine gL hf (g_ld hf hs T3 rfl (k := 2) rfl rfl) (by decide) ?_; clear hf a; intro a hf
  refine gL hf (g_fa (off' := 1) hf F47_1 rfl rfl) (by decide) ?_; clear hf a; intro a hf
  refine gL hf (g_ld hf hs T3 rfl (k := 1) rfl rfl) (by decide) ?_; clear hf a; intro a hf
  refine gL hf (g_min hf rfl rfl) (by decide) ?_; clear hf a; intro a hf
  refine callL hf hs (c_Sp _ _ _) rfl rfl rfl E52 (by decide) ?_; clear hs hf a; intro w a hs hf
  refine uL (u_stW hf hs T47 rfl rfl rfl (k := 0) rfl rfl rfl) ?_; clear hs; intro w hs; dsimp only [List.set] at hs
  refine e_nil ?_
  refine c_ret ?_
  refine e_res hf hs rfl (.cellA T47 rfl (k := 0) rfl rfl .nil) rfl ?_
  exact ⟨rfl, hs.below⟩

theorem c_far (x : Flap) (most : Bool) (w0 : World) :
    Calls Tryd.prog 87 #[.agg #[.int .i64 x.side, .int .i64 x.rl, .int .i64 x.rh, .int .i64 x.al, .int .i64 x.ah], .bool most] w0 (Ret w0 (.int .i64 (farF x most))) := by
  refine c_enter (n := 12) Tryd.func87 rfl rfl (Nat.le_of_ble_eq_true rfl) ?_; intro a hf; simp only [zipR] at hf
  have hs := St.start w0 [] (by simp)
  refine c_reg ?_
  refine vL hf (v_boxA hf hs rfl) (by decide) ?_; clear hs hf a; rintro _ w ⟨b1, rfl, hs⟩ a hf
  refine gL hf (g_as hf rfl) (by decide) ?_; clear hf a; intro a hf
  refine e_nil ?_
  refine wp_seq ?_
  refine c_reg ?_
  refine gL hf (g_mv hf rfl) (by decide) ?_; clear hf a; intro a hf
  refine e_nil ?_
  refine c_cond hf rfl (fun hc1 => ?_) (fun hc1 => ?_)
  · try simp only [decide_eq_true_eq, decide_eq_false_iff_not] at hc1
    refine c_reg ?_
    refine gL hf (g_fa (off' := 1) hf F49_1 rfl rfl) (by decide) ?_; clear hf a; intro a hf
    refine gL hf (g_fa (off' := 2) hf F47_1 rfl rfl) (by decide) ?_; clear hf a; intro a hf
    refine gL hf (g_ld hf hs T3 rfl (k := 0) rfl rfl) (by decide) ?_; clear hf a; intro a hf
    refine gL hf (g_as hf rfl) (by decide) ?_; clear hf a; intro a hf
    refine e_nil ?_
    refine c_ret (q_thenR ?_)
    refine e_ret1 hf rfl rfl ?_
    exact ⟨by simp [farF, *], hs.below⟩
  · try simp only [decide_eq_true_eq, decide_eq_false_iff_not] at hc1
    refine c_skip (q_thenN ?_)
    refine c_reg ?_
    refine gL hf (g_fa (off' := 1) hf F49_1 rfl rfl) (by decide) ?_; clear hf a; intro a hf
    refine gL hf (g_fa (off' := 1) hf F47_0 rfl rfl) (by decide) ?_; clear hf a; intro a hf
    refine gL hf (g_ld hf hs T3 rfl (k := 0) rfl rfl) (by decide) ?_; clear hf a; intro a hf
    refine gL hf (g_as hf rfl) (by decide) ?_; clear hf a; intro a hf
    refine e_nil ?_
    refine c_ret ?_
    refine e_ret1 hf rfl rfl ?_
    exact ⟨by simp [farF, *], hs.below⟩

theorem c_standing (x : Flap) (w0 : World) :
    Calls Tryd.prog 93 #[.agg #[.int .i64 x.side, .int .i64 x.rl, .int .i64 x.rh, .int .i64 x.al, .int .i64 x.ah]] w0 (Ret w0 (.bool (decide (x.side < 2)))) := by
  refine c_enter (n := 6) Tryd.func93 rfl rfl (Nat.le_of_ble_eq_true rfl) ?_; intro a hf; simp only [zipR] at hf
  have hs := St.start w0 [] (by simp)
  refine c_reg ?_
  refine vL hf (v_boxA hf hs rfl) (by decide) ?_; clear hs hf a; rintro _ w ⟨b1, rfl, hs⟩ a hf
  refine gL hf (g_as hf rfl) (by decide) ?_; clear hf a; intro a hf
  refine e_nil ?_
  refine c_reg ?_
  refine gL hf (g_fa (off' := 0) hf F49_0 rfl rfl) (by decide) ?_; clear hf a; intro a hf
  refine gL hf (g_ld hf hs T3 rfl (k := 0) rfl rfl) (by decide) ?_; clear hf a; intro a hf
  refine gL hf (g_lss hf rfl rfl) (by decide) ?_; clear hf a; intro a hf
  refine gL hf (g_as hf rfl) (by decide) ?_; clear hf a; intro a hf
  refine e_nil ?_
  refine c_ret ?_
  refine e_ret1 hf rfl rfl ?_
  exact ⟨rfl, hs.below⟩

theorem c_Has (sl sh n : Int) (w0 : World) :
    Calls Tryd.prog 107 #[.agg #[.int .i64 sl, .int .i64 sh], .int .i64 n] w0 (Ret w0 (.bool (fitsB n sl sh))) := by
  refine c_enter (n := 11) Tryd.func107 rfl rfl (Nat.le_of_ble_eq_true rfl) ?_; intro a hf; simp only [zipR] at hf
  have hs := St.start w0 [] (by simp)
  refine c_reg ?_
  refine vL hf (v_boxA hf hs rfl) (by decide) ?_; clear hs hf a; rintro _ w ⟨b1, rfl, hs⟩ a hf
  refine gL hf (g_as hf rfl) (by decide) ?_; clear hf a; intro a hf
  refine e_nil ?_
  refine c_reg ?_
  refine gL hf (g_mv hf rfl) (by decide) ?_; clear hf a; intro a hf
  refine gL hf (g_fa (off' := 0) hf F47_0 rfl rfl) (by decide) ?_; clear hf a; intro a hf
  refine gL hf (g_ld hf hs T3 rfl (k := 0) rfl rfl) (by decide) ?_; clear hf a; intro a hf
  refine gL hf (g_fa (off' := 1) hf F47_1 rfl rfl) (by decide) ?_; clear hf a; intro a hf
  refine gL hf (g_ld hf hs T3 rfl (k := 0) rfl rfl) (by decide) ?_; clear hf a; intro a hf
  refine callL hf hs (c_Fits _ _ _ _) rfl rfl rfl E39 (by decide) ?_; clear hs hf a; intro w a hs hf
  refine gL hf (g_as hf rfl) (by decide) ?_; clear hf a; intro a hf
  refine e_nil ?_
  refine c_ret ?_
  refine e_ret1 hf rfl rfl ?_
  exact ⟨rfl, hs.below⟩

theorem c_overlaps (sl sh tl th : Int) (w0 : World) :
    Calls Tryd.prog 112 #[.agg #[.int .i64 sl, .int .i64 sh], .agg #[.int .i64 tl, .int .i64 th]] w0 (Ret w0 (.bool (decide (sl ≤ th) && decide (tl ≤ sh)))) := by
  refine c_enter (n := 17) Tryd.func112 rfl rfl (Nat.le_of_ble_eq_true rfl) ?_; intro a hf; simp only [zipR] at hf
  have hs := St.start w0 [] (by simp)
  refine c_reg ?_
  refine vL hf (v_boxA hf hs rfl) (by decide) ?_; clear hs hf a; rintro _ w ⟨b1, rfl, hs⟩ a hf
  refine vL hf (v_boxA hf hs rfl) (by decide) ?_; clear hs hf a; rintro _ w ⟨b2, rfl, hs⟩ a hf
  refine gL hf (g_as hf rfl) (by decide) ?_; clear hf a; intro a hf
  refine e_nil ?_
  refine c_reg ?_
  refine gL hf (g_fa (off' := 0) hf F47_0 rfl rfl) (by decide) ?_; clear hf a; intro a hf
  refine gL hf (g_ld hf hs T3 rfl (k := 1) rfl rfl) (by decide) ?_; clear hf a; intro a hf
  refine gL hf (g_fa (off' := 1) hf F47_1 rfl rfl) (by decide) ?_; clear hf a; intro a hf
  refine gL hf (g_ld hf hs T3 rfl (k := 0) rfl rfl) (by decide) ?_; clear hf a; intro a hf
  refine gL hf (g_leq hf rfl rfl) (by decide) ?_; clear hf a; intro a hf
  refine gL hf (g_mv hf rfl) (by decide) ?_; clear hf a; intro a hf
  refine ggL hf rfl rfl (gyes_t _) (fun hg => g_fa (off' := 0) hf F47_0 rfl rfl) (by decide) ?_; clear hf a; intro a hf
  refine ggL hf rfl rfl (gyes_t _) (fun hg => g_ld hf hs T3 (ev_gv rfl hg) (k := 0) rfl rfl) (by decide) ?_; clear hf a; intro a hf
  refine ggL hf rfl rfl (gyes_t _) (fun hg => g_fa (off' := 1) hf F47_1 rfl rfl) (by decide) ?_; clear hf a; intro a hf
  refine ggL hf rfl rfl (gyes_t _) (fun hg => g_ld hf hs T3 (ev_gv rfl hg) (k := 1) rfl rfl) (by decide) ?_; clear hf a; intro a hf
  refine ggL hf rfl rfl (gyes_t _) (fun hg => g_leq hf (ev_gv rfl hg) (ev_gv rfl hg)) (by decide) ?_; clear hf a; intro a hf
  refine gL hf (g_and hf rfl rfl) (by decide) ?_; clear hf a; intro a hf
  refine gL hf (g_as hf rfl) (by decide) ?_; clear hf a; intro a hf
  refine e_nil ?_
  refine c_ret ?_
  refine e_ret1 hf rfl rfl ?_
  exact ⟨rfl, hs.below⟩

theorem c_isNaN (x : Int) (w0 : World) :
    Calls Tryd.prog 113 #[.int .i64 x] w0 (Ret w0 (.bool false)) := by
  refine c_enter (n := 6) Tryd.func113 rfl rfl (Nat.le_of_ble_eq_true rfl) ?_; intro a hf; simp only [zipR] at hf
  have hs := St.start w0 [] (by simp)
  refine c_reg ?_
  refine gL hf (g_as hf rfl) (by decide) ?_; clear hf a; intro a hf
  refine e_nil ?_
  refine c_reg ?_
  refine gL hf (g_mv hf rfl) (by decide) ?_; clear hf a; intro a hf
  refine gL hf (g_mv hf rfl) (by decide) ?_; clear hf a; intro a hf
  refine gL hf (g_neq hf rfl rfl) (by decide) ?_; clear hf a; intro a hf
  refine gL hf (g_as hf rfl) (by decide) ?_; clear hf a; intro a hf
  refine e_nil ?_
  refine c_ret ?_
  refine e_ret1 hf rfl rfl ?_
  exact ⟨by simp, hs.below⟩

theorem c_cmp (x y : Int) (w0 : World) :
    Calls Tryd.prog 106 #[.int .i64 x, .int .i64 y] w0 (Ret w0 (.int .i64 (if x < y then -1 else if y < x then 1 else 0))) := by
  refine c_enter (n := 20) Tryd.func106 rfl rfl (Nat.le_of_ble_eq_true rfl) ?_; intro a hf; simp only [zipR] at hf
  have hs := St.start w0 [] (by simp)
  refine c_reg ?_
  refine gL hf (g_as hf rfl) (by decide) ?_; clear hf a; intro a hf
  refine e_nil ?_
  refine c_reg ?_
  refine gL hf (g_mv hf rfl) (by decide) ?_; clear hf a; intro a hf
  refine callL hf hs (c_isNaN _ _) rfl rfl rfl E113 (by decide) ?_; clear hs hf a; intro w a hs hf
  refine gL hf (g_as hf rfl) (by decide) ?_; clear hf a; intro a hf
  refine e_nil ?_
  refine c_reg ?_
  refine gL hf (g_mv hf rfl) (by decide) ?_; clear hf a; intro a hf
  refine callL hf hs (c_isNaN _ _) rfl rfl rfl E113 (by decide) ?_; clear hs hf a; intro w a hs hf
  refine gL hf (g_as hf rfl) (by decide) ?_; clear hf a; intro a hf
  refine e_nil ?_
  refine wp_seq ?_
  refine c_reg ?_
  refine gL hf (g_mv hf rfl) (by decide) ?_; clear hf a; intro a hf
  refine e_nil ?_
  refine c_cond hf rfl (fun hc1 => ?_) (fun hc1 => ?_)
  · try simp only [decide_eq_true_eq, decide_eq_false_iff_not] at hc1
    cases hc1
  · try simp only [decide_eq_true_eq, decide_eq_false_iff_not] at hc1
    refine c_skip (q_thenN ?_)
    refine wp_seq ?_
    refine c_reg ?_
    refine gL hf (g_mv hf rfl) (by decide) ?_; clear hf a; intro a hf
    refine e_nil ?_
    refine c_cond hf rfl (fun hc2 => ?_) (fun hc2 => ?_)
    · try simp only [decide_eq_true_eq, decide_eq_false_iff_not] at hc2
      cases hc2
    · try simp only [decide_eq_true_eq, decide_eq_false_iff_not] at hc2
      refine c_skip (q_thenN ?_)
      refine wp_seq ?_
      refine c_reg ?_
      refine gL hf (g_mv hf rfl) (by decide) ?_; clear hf a; intro a hf
      refine gL hf (g_mv hf rfl) (by decide) ?_; clear hf a; intro a hf
      refine gL hf (g_lss hf rfl rfl) (by decide) ?_; clear hf a; intro a hf
      refine e_nil ?_
      refine c_cond hf rfl (fun hc3 => ?_) (fun hc3 => ?_)
      · try simp only [decide_eq_true_eq, decide_eq_false_iff_not] at hc3
        refine c_reg ?_
        refine gL hf (g_as hf rfl) (by decide) ?_; clear hf a; intro a hf
        refine e_nil ?_
        refine c_ret (q_thenR ?_)
        refine e_ret1 hf rfl rfl ?_
        refine ⟨?_, hs.below⟩; repeat (first | rw [if_pos (by assumption)] | rw [if_neg (by omega)])
      · try simp only [decide_eq_true_eq, decide_eq_false_iff_not] at hc3
        refine c_skip (q_thenN ?_)
        refine wp_seq ?_
        refine c_reg ?_
        refine gL hf (g_mv hf rfl) (by decide) ?_; clear hf a; intro a hf
        refine gL hf (g_mv hf rfl) (by decide) ?_; clear hf a; intro a hf
        refine gL hf (g_gtr hf rfl rfl) (by decide) ?_; clear hf a; intro a hf
        refine e_nil ?_
        refine c_cond hf rfl (fun hc4 => ?_) (fun hc4 => ?_)
        · try simp only [decide_eq_true_eq, decide_eq_false_iff_not] at hc4
          refine c_reg ?_
          refine gL hf (g_as hf rfl) (by decide) ?_; clear hf a; intro a hf
          refine e_nil ?_
          refine c_ret (q_thenR ?_)
          refine e_ret1 hf rfl rfl ?_
          refine ⟨?_, hs.below⟩; repeat (first | rw [if_pos (by assumption)] | rw [if_neg (by omega)])
        · try simp only [decide_eq_true_eq, decide_eq_false_iff_not] at hc4
          refine c_skip (q_thenN ?_)
          refine c_reg ?_
          refine gL hf (g_as hf rfl) (by decide) ?_; clear hf a; intro a hf
          refine e_nil ?_
          refine c_ret ?_
          refine e_ret1 hf rfl rfl ?_
          refine ⟨?_, hs.below⟩; repeat (first | rw [if_pos (by assumption)] | rw [if_neg (by omega)])

theorem c_least1 (lo hi : Int) (w0 : World) :
    Calls Tryd.prog 110 #[.agg #[.int .i64 lo, .int .i64 hi]] w0 (Ret w0 (.int .i64 lo)) := by
  refine c_enter (n := 5) Tryd.func110 rfl rfl (Nat.le_of_ble_eq_true rfl) ?_; intro a hf; simp only [zipR] at hf
  have hs := St.start w0 [] (by simp)
  refine c_reg ?_
  refine vL hf (v_boxA hf hs rfl) (by decide) ?_; clear hs hf a; rintro _ w ⟨b1, rfl, hs⟩ a hf
  refine gL hf (g_as hf rfl) (by decide) ?_; clear hf a; intro a hf
  refine e_nil ?_
  refine c_reg ?_
  refine gL hf (g_fa (off' := 0) hf F47_0 rfl rfl) (by decide) ?_; clear hf a; intro a hf
  refine gL hf (g_ld hf hs T3 rfl (k := 0) rfl rfl) (by decide) ?_; clear hf a; intro a hf
  refine gL hf (g_as hf rfl) (by decide) ?_; clear hf a; intro a hf
  refine e_nil ?_
  refine c_ret ?_
  refine e_ret1 hf rfl rfl ?_
  exact ⟨rfl, hs.below⟩

theorem c_most1 (lo hi : Int) (w0 : World) :
    Calls Tryd.prog 111 #[.agg #[.int .i64 lo, .int .i64 hi]] w0 (Ret w0 (.int .i64 hi)) := by
  refine c_enter (n := 5) Tryd.func111 rfl rfl (Nat.le_of_ble_eq_true rfl) ?_; intro a hf; simp only [zipR] at hf
  have hs := St.start w0 [] (by simp)
  refine c_reg ?_
  refine vL hf (v_boxA hf hs rfl) (by decide) ?_; clear hs hf a; rintro _ w ⟨b1, rfl, hs⟩ a hf
  refine gL hf (g_as hf rfl) (by decide) ?_; clear hf a; intro a hf
  refine e_nil ?_
  refine c_reg ?_
  refine gL hf (g_fa (off' := 1) hf F47_1 rfl rfl) (by decide) ?_; clear hf a; intro a hf
  refine gL hf (g_ld hf hs T3 rfl (k := 0) rfl rfl) (by decide) ?_; clear hf a; intro a hf
  refine gL hf (g_as hf rfl) (by decide) ?_; clear hf a; intro a hf
  refine e_nil ?_
  refine c_ret ?_
  refine e_ret1 hf rfl rfl ?_
  exact ⟨rfl, hs.below⟩

theorem c_least (w0 : World) :
    Calls Tryd.prog 103 #[] w0 (Ret w0 (.agg #[.func (.func 110) #[] #[]])) := by
  refine c_enter (n := 2) Tryd.func103 rfl rfl (Nat.le_of_ble_eq_true rfl) ?_; intro a hf; simp only [zipR] at hf
  have hs := St.start w0 [] (by simp)
  refine c_reg ?_
  refine vL hf (v_alloc hs T112 rfl) (by decide) ?_; clear hs hf a; rintro _ w ⟨b1, rfl, hs⟩ a hf
  refine e_nil ?_
  refine c_reg ?_
  refine gL hf (g_bld hf [[.nilFunc]] (.cons rfl .nil) (fun _ => by kernel_rfl)) (by decide) ?_; clear hf a; intro a hf
  refine uL (u_stW hf hs T112 rfl rfl rfl (k := 0) rfl rfl rfl) ?_; clear hs; intro w hs; dsimp only [List.set] at hs
  refine e_nil ?_
  refine c_ret ?_
  refine e_res hf hs rfl (.cellA T112 rfl (k := 0) rfl rfl .nil) rfl ?_
  exact ⟨rfl, hs.below⟩

theorem c_most (w0 : World) :
    Calls Tryd.prog 104 #[] w0 (Ret w0 (.agg #[.func (.func 111) #[] #[]])) := by
  refine c_enter (n := 2) Tryd.func104 rfl rfl (Nat.le_of_ble_eq_true rfl) ?_; intro a hf; simp only [zipR] at hf
  have hs := St.start w0 [] (by simp)
  refine c_reg ?_
  refine vL hf (v_alloc hs T112 rfl) (by decide) ?_; clear hs hf a; rintro _ w ⟨b1, rfl, hs⟩ a hf
  refine e_nil ?_
  refine c_reg ?_
  refine gL hf (g_bld hf [[.nilFunc]] (.cons rfl .nil) (fun _ => by kernel_rfl)) (by decide) ?_; clear hf a; intro a hf
  refine uL (u_stW hf hs T112 rfl rfl rfl (k := 0) rfl rfl rfl) ?_; clear hs; intro w hs; dsimp only [List.set] at hs
  refine e_nil ?_
  refine c_ret ?_
  refine e_res hf hs rfl (.cellA T112 rfl (k := 0) rfl rfl .nil) rfl ?_
  exact ⟨rfl, hs.below⟩

theorem c_none (w0 : World) :
    Calls Tryd.prog 94 #[] w0 (Ret w0 (.agg #[.bool false, .bool false, .bool false, .bool false, .bool false, .bool false, .bool false])) := by
  refine c_enter (n := 3) Tryd.func94 rfl rfl (Nat.le_of_ble_eq_true rfl) ?_; intro a hf; simp only [zipR] at hf
  have hs := St.start w0 [] (by simp)
  refine c_reg ?_
  refine vL hf (v_alloc hs T102 rfl) (by decide) ?_; clear hs hf a; rintro _ w ⟨b1, rfl, hs⟩ a hf
  refine e_nil ?_
  refine c_reg ?_
  refine vL hf (v_alloc hs T102 rfl) (by decide) ?_; clear hs hf a; rintro _ w ⟨b2, rfl, hs⟩ a hf
  refine e_nil ?_
  refine c_reg ?_
  refine gL hf (g_ldW hf hs T102 rfl (k := 0) rfl rfl) (by decide) ?_; clear hf a; intro a hf
  refine uL (u_stW hf hs T102 rfl rfl rfl (k := 1) rfl rfl rfl) ?_; clear hs; intro w hs; dsimp only [List.set] at hs
  refine e_nil ?_
  refine c_ret ?_
  refine e_res hf hs rfl (.cellA T102 rfl (k := 1) rfl rfl .nil) rfl ?_
  exact ⟨rfl, hs.below⟩

theorem c_flap (s rl rh al ah : Int) (w0 : World) :
    Calls Tryd.prog 108 #[.int .i64 s, .agg #[.int .i64 rl, .int .i64 rh], .agg #[.int .i64 al, .int .i64 ah]] w0 (Ret w0 (.agg #[.int .i64 s, .int .i64 rl, .int .i64 rh, .int .i64 al, .int .i64 ah])) := by
  refine c_enter (n := 11) Tryd.func108 rfl rfl (Nat.le_of_ble_eq_true rfl) ?_; intro a hf; simp only [zipR] at hf
  have hs := St.start w0 [] (by simp)
  refine c_reg ?_
  refine vL hf (v_boxA hf hs rfl) (by decide) ?_; clear hs hf a; rintro _ w ⟨b1, rfl, hs⟩ a hf
  refine vL hf (v_boxA hf hs rfl) (by decide) ?_; clear hs hf a; rintro _ w ⟨b2, rfl, hs⟩ a hf
  refine vL hf (v_alloc hs T49 rfl) (by decide) ?_; clear hs hf a; rintro _ w ⟨b3, rfl, hs⟩ a hf
  refine e_nil ?_
  refine c_reg ?_
  refine gL hf (g_mv hf rfl) (by decide) ?_; clear hf a; intro a hf
  refine gL hf (g_ldW hf hs T47 rfl (k := 2) rfl rfl) (by decide) ?_; clear hf a; intro a hf
  refine gL hf (g_ldW hf hs T47 rfl (k := 1) rfl rfl) (by decide) ?_; clear hf a; intro a hf
  refine gL hf (g_bld hf [[.int .i64 0], [.int .i64 0, .int .i64 0], [.int .i64 0, .int .i64 0]] (.cons rfl (.cons rfl (.cons rfl .nil))) (fun _ => by kernel_rfl)) (by decide) ?_; clear hf a; intro a hf
  refine uL (u_stW hf hs T49 rfl rfl rfl (k := 0) rfl rfl rfl) ?_; clear hs; intro w hs; dsimp only [List.set] at hs
  refine e_nil ?_
  refine c_ret ?_
  refine e_res hf hs rfl (.cellA T49 rfl (k := 0) rfl rfl .nil) rfl ?_
  exact ⟨rfl, hs.below⟩

theorem c_Spin (n m : Int) (hm : m ≤ 9223372036854775807) (w0 : World) :
    Calls Tryd.prog 38 #[.int .i64 n, .int .i64 m] w0 (Ret w0 (.int .i64 (spin n m))) := by
  refine c_enter (n := 17) Tryd.func38 rfl rfl (Nat.le_of_ble_eq_true rfl) ?_; intro a hf; simp only [zipR] at hf
  have hs := St.start w0 [] (by simp)
  have hlt := fun h : 0 < m => Int.tmod_lt_of_pos n h
  have hgt := fun h : 0 < m => Int.lt_tmod_of_pos n h
  refine c_reg ?_
  refine gL hf (g_as hf rfl) (by decide) ?_; clear hf a; intro a hf
  refine e_nil ?_
  refine wp_seq ?_
  refine c_reg ?_
  refine gL hf (g_mv hf rfl) (by decide) ?_; clear hf a; intro a hf
  refine gL hf (g_lss hf rfl rfl) (by decide) ?_; clear hf a; intro a hf
  refine e_nil ?_
  refine c_cond hf rfl (fun hc1 => ?_) (fun hc1 => ?_)
  · try simp only [decide_eq_true_eq, decide_eq_false_iff_not] at hc1
    refine c_reg ?_
    refine gL hf (g_as hf rfl) (by decide) ?_; clear hf a; intro a hf
    refine e_nil ?_
    refine c_ret (q_thenR ?_)
    refine e_ret1 hf rfl rfl ?_
    exact ⟨by simp [spin, *] <;> omega, hs.below⟩
  · try simp only [decide_eq_true_eq, decide_eq_false_iff_not] at hc1
    refine c_skip (q_thenN ?_)
    refine c_reg ?_
    refine gL hf (g_mv hf rfl) (by decide) ?_; clear hf a; intro a hf
    refine gL hf (g_mv hf rfl) (by decide) ?_; clear hf a; intro a hf
    refine gL hf (g_rem hf rfl rfl (by omega)) (by decide) ?_; clear hf a; intro a hf
    refine gL hf (g_as hf rfl) (by decide) ?_; clear hf a; intro a hf
    refine e_nil ?_
    refine wp_seq ?_
    refine c_reg ?_
    refine gL hf (g_mv hf rfl) (by decide) ?_; clear hf a; intro a hf
    refine gL hf (g_lss hf rfl rfl) (by decide) ?_; clear hf a; intro a hf
    refine e_nil ?_
    refine c_cond hf rfl (fun hc2 => ?_) (fun hc2 => ?_)
    · try simp only [decide_eq_true_eq, decide_eq_false_iff_not] at hc2
      refine c_reg1 ?_
      refine gL hf (g_mv hf rfl) (by decide) ?_; clear hf a; intro a hf
      refine gL hf (g_mv hf rfl) (by decide) ?_; clear hf a; intro a hf
      refine gL hf (g_addI hf rfl rfl (by have := hgt (by omega); omega)) (by decide) ?_; clear hf a; intro a hf
      refine gL hf (g_as hf rfl) (by decide) ?_; clear hf a; intro a hf
      refine e_nil1 (q_thenN ?_)
      refine c_reg ?_
      refine gL hf (g_mv hf rfl) (by decide) ?_; clear hf a; intro a hf
      refine gL hf (g_as hf rfl) (by decide) ?_; clear hf a; intro a hf
      refine e_nil ?_
      refine c_ret ?_
      refine e_ret1 hf rfl rfl ?_
      exact ⟨by simp [spin, *] <;> omega, hs.below⟩
    · try simp only [decide_eq_true_eq, decide_eq_false_iff_not] at hc2
      refine c_skip (q_thenN ?_)
      refine c_reg ?_
      refine gL hf (g_mv hf rfl) (by decide) ?_; clear hf a; intro a hf
      refine gL hf (g_as hf rfl) (by decide) ?_; clear hf a; intro a hf
      refine e_nil ?_
      refine c_ret ?_
      refine e_ret1 hf rfl rfl ?_
      exact ⟨by simp [spin, *] <;> omega, hs.below⟩

theorem c_isFlap (wd hg : Int) (fA : Option Addr) (fn fc : Nat) (rA : Option Addr) (rn rc : Nat) (n : Int) (hfn : fn ≤ 9223372036854775807) (w0 : World) :
    Calls Tryd.prog 55 #[.agg #[.int .i64 wd, .int .i64 hg, .slice fA fn fc, .slice rA rn rc], .int .i64 n] w0 (Ret w0 (.bool (flapB fn n))) := by
  refine c_enter (n := 11) Tryd.func55 rfl rfl (Nat.le_of_ble_eq_true rfl) ?_; intro a hf; simp only [zipR] at hf
  have hs := St.start w0 [] (by simp)
  refine c_reg ?_
  refine vL hf (v_boxA hf hs rfl) (by decide) ?_; clear hs hf a; rintro _ w ⟨b1, rfl, hs⟩ a hf
  refine gL hf (g_as hf rfl) (by decide) ?_; clear hf a; intro a hf
  refine e_nil ?_
  refine c_reg ?_
  refine gL hf (g_mv hf rfl) (by decide) ?_; clear hf a; intro a hf
  refine gL hf (g_fa (off' := 2) hf F25_2 rfl rfl) (by decide) ?_; clear hf a; intro a hf
  refine gL hf (g_ld hf hs T22 rfl (k := 0) rfl rfl) (by decide) ?_; clear hf a; intro a hf
  refine gL hf (g_len hf SL22 rfl) (by decide) ?_; clear hf a; intro a hf
  refine gL hf (g_subI hf rfl rfl (by omega)) (by decide) ?_; clear hf a; intro a hf
  refine callL hf hs (c_within _ _ _ _) rfl rfl rfl E58 (by decide) ?_; clear hs hf a; intro w a hs hf
  refine gL hf (g_as hf rfl) (by decide) ?_; clear hf a; intro a hf
  refine e_nil ?_
  refine c_ret ?_
  refine e_ret1 hf rfl rfl ?_
  exact ⟨rfl, hs.below⟩

theorem c_isFlapR (wd hg : Int) (fA : Option Addr) (fn fc : Nat) (rA : Option Addr) (rn rc : Nat) (n : Int) (hfn : fn ≤ 9223372036854775807) (w0 : World) :
    Calls Tryd.prog 56 #[.agg #[.int .i64 wd, .int .i64 hg, .slice fA fn fc, .slice rA rn rc], .int .i64 n] w0 (Ret w0 (.bool (flapB fn n))) := by
  refine c_enter (n := 11) Tryd.func56 rfl rfl (Nat.le_of_ble_eq_true rfl) ?_; intro a hf; simp only [zipR] at hf
  have hs := St.start w0 [] (by simp)
  refine c_reg ?_
  refine vL hf (v_boxA hf hs rfl) (by decide) ?_; clear hs hf a; rintro _ w ⟨b1, rfl, hs⟩ a hf
  refine gL hf (g_as hf rfl) (by decide) ?_; clear hf a; intro a hf
  refine e_nil ?_
  refine c_reg ?_
  refine gL hf (g_mv hf rfl) (by decide) ?_; clear hf a; intro a hf
  refine gL hf (g_fa (off' := 2) hf F25_2 rfl rfl) (by decide) ?_; clear hf a; intro a hf
  refine gL hf (g_ld hf hs T22 rfl (k := 0) rfl rfl) (by decide) ?_; clear hf a; intro a hf
  refine gL hf (g_len hf SL22 rfl) (by decide) ?_; clear hf a; intro a hf
  refine gL hf (g_subI hf rfl rfl (by omega)) (by decide) ?_; clear hf a; intro a hf
  refine callL hf hs (c_Fits _ _ _ _) rfl rfl rfl E39 (by decide) ?_; clear hs hf a; intro w a hs hf
  refine gL hf (g_as hf rfl) (by decide) ?_; clear hf a; intro a hf
  refine e_nil ?_
  refine c_ret ?_
  refine e_ret1 hf rfl rfl ?_
  exact ⟨rfl, hs.below⟩

theorem c_left (wd hg : Int) (fA : Option Addr) (fn fc : Nat) (rA : Option Addr) (rn rc : Nat) (mp : Option Nat) (x : Flap) (reach : Int) (h1 : 0 ≤ wd ∧ wd ≤ 99) (h2 : 0 ≤ hg ∧ hg ≤ 99) (h3 : 0 ≤ reach ∧ reach ≤ 99) (w0 : World) :
    Calls Tryd.prog 130 #[.agg #[.int .i64 wd, .int .i64 hg, .slice fA fn fc, .slice rA rn rc, .map mp], .agg #[.int .i64 x.side, .int .i64 x.rl, .int .i64 x.rh, .int .i64 x.al, .int .i64 x.ah], .int .i64 reach] w0 (Ret w0 (.agg #[.int .i64 0, .int .i64 (reach - 1), .int .i64 x.al, .int .i64 x.ah])) := by
  refine c_enter (n := 13) Tryd.func130 rfl rfl (Nat.le_of_ble_eq_true rfl) ?_; intro a hf; simp only [zipR] at hf
  have hs := St.start w0 [] (by simp)
  refine c_reg ?_
  refine vL hf (v_boxA hf hs rfl) (by decide) ?_; clear hs hf a; rintro _ w ⟨b1, rfl, hs⟩ a hf
  refine vL hf (v_boxA hf hs rfl) (by decide) ?_; clear hs hf a; rintro _ w ⟨b2, rfl, hs⟩ a hf
  refine vL hf (v_alloc hs T120 rfl) (by decide) ?_; clear hs hf a; rintro _ w ⟨b3, rfl, hs⟩ a hf
  refine e_nil ?_
  refine c_reg ?_
  refine gL hf (g_mv hf rfl) (by decide) ?_; clear hf a; intro a hf
  refine gL hf (g_subI hf rfl rfl (by omega)) (by decide) ?_; clear hf a; intro a hf
  refine gL hf (g_bld hf [[.int .i64 0], [.int .i64 0]] (.cons rfl .nil) (fun _ => by kernel_rfl)) (by decide) ?_; clear hf a; intro a hf
  refine gL hf (g_fa (off' := 3) hf F49_2 rfl rfl) (by decide) ?_; clear hf a; intro a hf
  refine gL hf (g_ldP hf hs T47 rfl (k := 1) rfl rfl) (by decide) ?_; clear hf a; intro a hf
  refine gL hf (g_bld hf [[.int .i64 0, .int .i64 0], [.int .i64 0, .int .i64 0]] (.cons rfl (.cons rfl .nil)) (fun _ => by kernel_rfl)) (by decide) ?_; clear hf a; intro a hf
  refine uL (u_stW hf hs T120 rfl rfl rfl (k := 0) rfl rfl rfl) ?_; clear hs; intro w hs; dsimp only [List.set] at hs
  refine e_nil ?_
  refine c_ret ?_
  refine e_res hf hs rfl (.cellA T120 rfl (k := 0) rfl rfl .nil) rfl ?_
  exact ⟨rfl, hs.below⟩

theorem c_right (wd hg : Int) (fA : Option Addr) (fn fc : Nat) (rA : Option Addr) (rn rc : Nat) (mp : Option Nat) (x : Flap) (reach : Int) (h1 : 0 ≤ wd ∧ wd ≤ 99) (h2 : 0 ≤ hg ∧ hg ≤ 99) (h3 : 0 ≤ reach ∧ reach ≤ 99) (w0 : World) :
    Calls Tryd.prog 131 #[.agg #[.int .i64 wd, .int .i64 hg, .slice fA fn fc, .slice rA rn rc, .map mp], .agg #[.int .i64 x.side, .int .i64 x.rl, .int .i64 x.rh, .int .i64 x.al, .int .i64 x.ah], .int .i64 reach] w0 (Ret w0 (.agg #[.int .i64 (wd - reach), .int .i64 (wd - 1), .int .i64 x.al, .int .i64 x.ah])) := by
  refine c_enter (n := 20) Tryd.func131 rfl rfl (Nat.le_of_ble_eq_true rfl) ?_; intro a hf; simp only [zipR] at hf
  have hs := St.start w0 [] (by simp)
  refine c_reg ?_
  refine vL hf (v_boxA hf hs rfl) (by decide) ?_; clear hs hf a; rintro _ w ⟨b1, rfl, hs⟩ a hf
  refine vL hf (v_boxA hf hs rfl) (by decide) ?_; clear hs hf a; rintro _ w ⟨b2, rfl, hs⟩ a hf
  refine vL hf (v_alloc hs T120 rfl) (by decide) ?_; clear hs hf a; rintro _ w ⟨b3, rfl, hs⟩ a hf
  refine e_nil ?_
  refine c_reg ?_
  refine gL hf (g_fa (off' := 0) hf F69_0 rfl rfl) (by decide) ?_; clear hf a; intro a hf
  refine gL hf (g_fa (off' := 0) hf F25_0 rfl rfl) (by decide) ?_; clear hf a; intro a hf
  refine gL hf (g_ld hf hs T3 rfl (k := 2) rfl rfl) (by decide) ?_; clear hf a; intro a hf
  refine gL hf (g_mv hf rfl) (by decide) ?_; clear hf a; intro a hf
  refine gL hf (g_subI hf rfl rfl (by omega)) (by decide) ?_; clear hf a; intro a hf
  refine gL hf (g_fa (off' := 0) hf F69_0 rfl rfl) (by decide) ?_; clear hf a; intro a hf
  refine gL hf (g_fa (off' := 0) hf F25_0 rfl rfl) (by decide) ?_; clear hf a; intro a hf
  refine gL hf (g_ld hf hs T3 rfl (k := 2) rfl rfl) (by decide) ?_; clear hf a; intro a hf
  refine gL hf (g_subI hf rfl rfl (by omega)) (by decide) ?_; clear hf a; intro a hf
  refine gL hf (g_bld hf [[.int .i64 0], [.int .i64 0]] (.cons rfl (.cons rfl .nil)) (fun _ => by kernel_rfl)) (by decide) ?_; clear hf a; intro a hf
  refine gL hf (g_fa (off' := 3) hf F49_2 rfl rfl) (by decide) ?_; clear hf a; intro a hf
  refine gL hf (g_ldP hf hs T47 rfl (k := 1) rfl rfl) (by decide) ?_; clear hf a; intro a hf
  refine gL hf (g_bld hf [[.int .i64 0, .int .i64 0], [.int .i64 0, .int .i64 0]] (.cons rfl (.cons rfl .nil)) (fun _ => by kernel_rfl)) (by decide) ?_; clear hf a; intro a hf
  refine uL (u_stW hf hs T120 rfl rfl rfl (k := 0) rfl rfl rfl) ?_; clear hs; intro w hs; dsimp only [List.set] at hs
  refine e_nil ?_
  refine c_ret ?_
  refine e_res hf hs rfl (.cellA T120 rfl (k := 0) rfl rfl .nil) rfl ?_
  exact ⟨rfl, hs.below⟩

theorem c_top (wd hg : Int) (fA : Option Addr) (fn fc : Nat) (rA : Option Addr) (rn rc : Nat) (mp : Option Nat) (x : Flap) (reach : Int) (h1 : 0 ≤ wd ∧ wd ≤ 99) (h2 : 0 ≤ hg ∧ hg ≤ 99) (h3 : 0 ≤ reach ∧ reach ≤ 99) (w0 : World) :
    Calls Tryd.prog 132 #[.agg #[.int .i64 wd, .int .i64 hg, .slice fA fn fc, .slice rA rn rc, .map mp], .agg #[.int .i64 x.side, .int .i64 x.rl, .int .i64 x.rh, .int .i64 x.al, .int .i64 x.ah], .int .i64 reach] w0 (Ret w0 (.agg #[.int .i64 x.al, .int .i64 x.ah, .int .i64 0, .int .i64 (reach - 1)])) := by
  refine c_enter (n := 13) Tryd.func132 rfl rfl (Nat.le_of_ble_eq_true rfl) ?_; intro a hf; simp only [zipR] at hf
  have hs := St.start w0 [] (by simp)
  refine c_reg ?_
  refine vL hf (v_boxA hf hs rfl) (by decide) ?_; clear hs hf a; rintro _ w ⟨b1, rfl, hs⟩ a hf
  refine vL hf (v_boxA hf hs rfl) (by decide) ?_; clear hs hf a; rintro _ w ⟨b2, rfl, hs⟩ a hf
  refine vL hf (v_alloc hs T120 rfl) (by decide) ?_; clear hs hf a; rintro _ w ⟨b3, rfl, hs⟩ a hf
  refine e_nil ?_
  refine c_reg ?_
  refine gL hf (g_fa (off' := 3) hf F49_2 rfl rfl) (by decide) ?_; clear hf a; intro a hf
  refine gL hf (g_ldP hf hs T47 rfl (k := 1) rfl rfl) (by decide) ?_; clear hf a; intro a hf
  refine gL hf (g_mv hf rfl) (by decide) ?_; clear hf a; intro a hf
  refine gL hf (g_subI hf rfl rfl (by omega)) (by decide) ?_; clear hf a; intro a hf
  refine gL hf (g_bld hf [[.int .i64 0], [.int .i64 0]] (.cons rfl .nil) (fun _ => by kernel_rfl)) (by decide) ?_; clear hf a; intro a hf
  refine gL hf (g_bld hf [[.int .i64 0, .int .i64 0], [.int .i64 0, .int .i64 0]] (.cons rfl (.cons rfl .nil)) (fun _ => by kernel_rfl)) (by decide) ?_; clear hf a; intro a hf
  refine uL (u_stW hf hs T120 rfl rfl rfl (k := 0) rfl rfl rfl) ?_; clear hs; intro w hs; dsimp only [List.set] at hs
  refine e_nil ?_
  refine c_ret ?_
  refine e_res hf hs rfl (.cellA T120 rfl (k := 0) rfl rfl .nil) rfl ?_
  exact ⟨rfl, hs.below⟩

theorem c_bottom (wd hg : Int) (fA : Option Addr) (fn fc : Nat) (rA : Option Addr) (rn rc : Nat) (mp : Option Nat) (x : Flap) (reach : Int) (h1 : 0 ≤ wd ∧ wd ≤ 99) (h2 : 0 ≤ hg ∧ hg ≤ 99) (h3 : 0 ≤ reach ∧ reach ≤ 99) (w0 : World) :
    Calls Tryd.prog 133 #[.agg #[.int .i64 wd, .int .i64 hg, .slice fA fn fc, .slice rA rn rc, .map mp], .agg #[.int .i64 x.side, .int .i64 x.rl, .int .i64 x.rh, .int .i64 x.al, .int .i64 x.ah], .int .i64 reach] w0 (Ret w0 (.agg #[.int .i64 x.al, .int .i64 x.ah, .int .i64 (hg - reach), .int .i64 (hg - 1)])) := by
  refine c_enter (n := 20) Tryd.func133 rfl rfl (Nat.le_of_ble_eq_true rfl) ?_; intro a hf; simp only [zipR] at hf
  have hs := St.start w0 [] (by simp)
  refine c_reg ?_
  refine vL hf (v_boxA hf hs rfl) (by decide) ?_; clear hs hf a; rintro _ w ⟨b1, rfl, hs⟩ a hf
  refine vL hf (v_boxA hf hs rfl) (by decide) ?_; clear hs hf a; rintro _ w ⟨b2, rfl, hs⟩ a hf
  refine vL hf (v_alloc hs T120 rfl) (by decide) ?_; clear hs hf a; rintro _ w ⟨b3, rfl, hs⟩ a hf
  refine e_nil ?_
  refine c_reg ?_
  refine gL hf (g_fa (off' := 3) hf F49_2 rfl rfl) (by decide) ?_; clear hf a; intro a hf
  refine gL hf (g_ldP hf hs T47 rfl (k := 1) rfl rfl) (by decide) ?_; clear hf a; intro a hf
  refine gL hf (g_fa (off' := 0) hf F69_0 rfl rfl) (by decide) ?_; clear hf a; intro a hf
  refine gL hf (g_fa (off' := 1) hf F25_1 rfl rfl) (by decide) ?_; clear hf a; intro a hf
  refine gL hf (g_ld hf hs T3 rfl (k := 2) rfl rfl) (by decide) ?_; clear hf a; intro a hf
  refine gL hf (g_mv hf rfl) (by decide) ?_; clear hf a; intro a hf
  refine gL hf (g_subI hf rfl rfl (by omega)) (by decide) ?_; clear hf a; intro a hf
  refine gL hf (g_fa (off' := 0) hf F69_0 rfl rfl) (by decide) ?_; clear hf a; intro a hf
  refine gL hf (g_fa (off' := 1) hf F25_1 rfl rfl) (by decide) ?_; clear hf a; intro a hf
  refine gL hf (g_ld hf hs T3 rfl (k := 2) rfl rfl) (by decide) ?_; clear hf a; intro a hf
  refine gL hf (g_subI hf rfl rfl (by omega)) (by decide) ?_; clear hf a; intro a hf
  refine gL hf (g_bld hf [[.int .i64 0], [.int .i64 0]] (.cons rfl (.cons rfl .nil)) (fun _ => by kernel_rfl)) (by decide) ?_; clear hf a; intro a hf
  refine gL hf (g_bld hf [[.int .i64 0, .int .i64 0], [.int .i64 0, .int .i64 0]] (.cons rfl (.cons rfl .nil)) (fun _ => by kernel_rfl)) (by decide) ?_; clear hf a; intro a hf
  refine uL (u_stW hf hs T120 rfl rfl rfl (k := 0) rfl rfl rfl) ?_; clear hs; intro w hs; dsimp only [List.set] at hs
  refine e_nil ?_
  refine c_ret ?_
  refine e_res hf hs rfl (.cellA T120 rfl (k := 0) rfl rfl .nil) rfl ?_
  exact ⟨rfl, hs.below⟩

theorem c_In (s n : Int) (hn : 0 ≤ n ∧ n ≤ 63) (w0 : World) :
    Calls Tryd.prog 84 #[.int .i64 s, .int .i64 n] w0 (Ret w0 (.bool (andI (s / 2 ^ n.toNat) 1 == 1))) := by
  refine c_enter (n := 10) Tryd.func84 rfl rfl (Nat.le_of_ble_eq_true rfl) ?_; intro a hf; simp only [zipR] at hf
  have hs := St.start w0 [] (by simp)
  refine c_reg ?_
  refine gL hf (g_as hf rfl) (by decide) ?_; clear hf a; intro a hf
  refine e_nil ?_
  refine c_reg ?_
  refine gL hf (g_mv hf rfl) (by decide) ?_; clear hf a; intro a hf
  refine gL hf (g_mv hf rfl) (by decide) ?_; clear hf a; intro a hf
  refine gL hf (g_shr hf rfl rfl (by omega)) (by decide) ?_; clear hf a; intro a hf
  refine gL hf (g_band hf rfl rfl) (by decide) ?_; clear hf a; intro a hf
  refine gL hf (g_eql hf rfl rfl) (by decide) ?_; clear hf a; intro a hf
  refine gL hf (g_as hf rfl) (by decide) ?_; clear hf a; intro a hf
  refine e_nil ?_
  refine c_ret ?_
  refine e_ret1 hf rfl rfl ?_
  exact ⟨rfl, hs.below⟩

end Go.Proofs.YtpjhffockmnjbaaDoor
set_option linter.unusedVariables false
set_option linter.unusedSimpArgs false
namespace Go.Proofs.YtpjhffockmnjbaaDoor
open Go.RowKit
theorem c_Index (A : Option Addr) (n c : Nat) (l : List Int) (v : Int) (w0 : World) (h : Rd encI 1 A n l w0) :
    Calls Tryd.prog 63 #[.slice A n c, .int .i64 v] w0 (Ret w0 (.int .i64 (indexZ (fun x => v == x) l))) := by
  refine c_enter (n := 19) Tryd.func63 rfl rfl (Nat.le_of_ble_eq_true rfl) ?_; intro a hf; simp only [zipR] at hf
  have hs := St.start w0 [Rd encI 1 A n l] (by simpa using h.stable (by simp))
  have hn := h.1; have hm := h.2.1
  refine c_reg ?_
  refine gL hf (g_as hf rfl) (by decide) ?_; clear hf a; intro a hf
  refine e_nil ?_
  refine wp_seq ?_
  refine c_reg ?_
  refine gL hf (g_mv hf rfl) (by decide) ?_; clear hf a; intro a hf
  refine gL hf (g_len hf SL27 rfl) (by decide) ?_; clear hf a; intro a hf
  refine gL hf (g_mv hf rfl) (by decide) ?_; clear hf a; intro a hf
  refine e_nil ?_
  refine c_block ?_
  refine c_loop hf hs [4, 5, 8, 9, 10, 11, 12, 13, 14, 15, 16, 17, 18] (σ := Nat) (fun k => [(8, .int .i64 (k : Nat))]) (fun k => _) (fun k => k ≤ n ∧ ∀ j, j < k → (v == (l.getD j default)) = false) (fun k => n - k) 0 ⟨by omega, by omega⟩ (.cons rfl .nil) rfl ?_
  intro k a w hJ hf hs
  obtain ⟨hk, hp⟩ := hJ
  refine c_reg ?_
  refine gL hf (g_lss hf rfl rfl) (by decide) ?_; clear hf a; intro a hf
  refine e_nil ?_
  refine c_condS hf rfl (fun hc1 => ?_) (fun hc1 => ?_)
  · try simp only [decide_eq_true_eq, decide_eq_false_iff_not] at hc1
    refine c_skip (q_thenN ?_)
    refine c_blockS ?_
    refine c_reg ?_
    refine gL hf (g_mv hf rfl) (by decide) ?_; clear hf a; intro a hf
    refine gL hf (g_as hf rfl) (by decide) ?_; clear hf a; intro a hf
    refine e_nil ?_
    refine c_reg ?_
    refine gL hf (g_mv hf rfl) (by decide) ?_; clear hf a; intro a hf
    refine gL hf (g_mv hf rfl) (by decide) ?_; clear hf a; intro a hf
    refine gL hf (g_mv hf rfl) (by decide) ?_; clear hf a; intro a hf
    (first | (refine gL hf (g_ixE hf hs (.head _) SL27 rfl rfl (by omega)) (by decide) ?_) | (refine gL hf (g_ixD hf hs (.head _) SL27 rfl rfl (by omega)) (by decide) ?_)); clear hf a; intro a hf
    refine gL hf (g_ldE hf hs (.head _) T3 rfl rfl (by omega)) (by decide) ?_; clear hf a; intro a hf
    refine gL hf (g_eql hf rfl rfl) (by decide) ?_; clear hf a; intro a hf
    refine e_nil ?_
    refine c_cond hf rfl (fun hc2 => ?_) (fun hc2 => ?_)
    · try simp only [decide_eq_true_eq, decide_eq_false_iff_not] at hc2
      refine c_reg ?_
      refine gL hf (g_mv hf rfl) (by decide) ?_; clear hf a; intro a hf
      refine gL hf (g_as hf rfl) (by decide) ?_; clear hf a; intro a hf
      refine e_nil ?_
      refine c_ret (q_blkR (q_thenR (q_thenR (q_blkR (q_thenR ?_)))))
      refine e_ret1 hf rfl rfl ?_
      exact ⟨by rw [indexZ_found (by omega) hp (by assumption)], hs.below⟩
    · try simp only [decide_eq_true_eq, decide_eq_false_iff_not] at hc2
      refine c_skip (q_blkN (q_thenN ?_))
      refine c_reg1 ?_
      refine gL hf (g_addI hf rfl rfl (by omega)) (by decide) ?_; clear hf a; intro a hf
      refine gL hf (g_mv hf rfl) (by decide) ?_; clear hf a; intro a hf
      refine e_nil1 (q_thenN ?_)
      exact ⟨k + 1, ⟨by omega, lt_succ hp (by assumption)⟩, (by omega), hf.back (by repeat (first | (with_reducible exact Ext.base) | ((with_reducible refine Ext.cons ?_ ?_); (· rfl)) | ((with_reducible refine Ext.over ?_ ?_ ?_); (· rfl); (· rfl)))) (allKeys rfl) (.cons rfl .nil), hs.dropN 0⟩
  · try simp only [decide_eq_true_eq, decide_eq_false_iff_not] at hc1
    refine c_exit (q_thenX (q_thenX (q_blkX (q_thenN ?_))))
    refine c_reg ?_
    refine gL hf (g_as hf rfl) (by decide) ?_; clear hf a; intro a hf
    refine e_nil ?_
    refine c_ret ?_
    refine e_ret1 hf rfl rfl ?_
    exact ⟨by rw [indexZ_none (fun j hj => hp j (by omega))], hs.below⟩

theorem c_IndexR (A : Option Addr) (n c : Nat) (l : List Int) (v : Int) (w0 : World) (h : Rd encI 1 A n l w0) :
    Calls Tryd.prog 44 #[.slice A n c, .int .i64 v] w0 (Ret w0 (.int .i64 (indexZ (fun x => x == v) l))) := by
  refine c_enter (n := 19) Tryd.func44 rfl rfl (Nat.le_of_ble_eq_true rfl) ?_; intro a hf; simp only [zipR] at hf
  have hs := St.start w0 [Rd encI 1 A n l] (by simpa using h.stable (by simp))
  have hn := h.1; have hm := h.2.1
  refine c_reg ?_
  refine gL hf (g_as hf rfl) (by decide) ?_; clear hf a; intro a hf
  refine e_nil ?_
  refine wp_seq ?_
  refine c_reg ?_
  refine gL hf (g_as hf rfl) (by decide) ?_; clear hf a; intro a hf
  refine e_nil ?_
  refine c_block ?_
  refine c_loop hf hs [4, 5, 6, 7, 8, 9, 10, 11, 12, 13, 14, 15, 16, 17, 18] (σ := Nat) (fun k => [(5, .int .i64 (k : Nat))]) (fun k => _) (fun k => k ≤ n ∧ ∀ j, j < k → ((l.getD j default) == v) = false) (fun k => n - k) 0 ⟨by omega, by omega⟩ (.cons rfl .nil) rfl ?_
  intro k a w hJ hf hs
  obtain ⟨hk, hp⟩ := hJ
  refine wp_seq ?_
  refine c_reg ?_
  refine gL hf (g_mv hf rfl) (by decide) ?_; clear hf a; intro a hf
  refine gL hf (g_mv hf rfl) (by decide) ?_; clear hf a; intro a hf
  refine gL hf (g_len hf SL27 rfl) (by decide) ?_; clear hf a; intro a hf
  refine gL hf (g_lss hf rfl rfl) (by decide) ?_; clear hf a; intro a hf
  refine e_nil ?_
  refine c_cond hf rfl (fun hc1 => ?_) (fun hc1 => ?_)
  · try simp only [decide_eq_true_eq, decide_eq_false_iff_not] at hc1
    refine c_skip (q_thenN ?_)
    refine c_blockS ?_
    refine c_reg ?_
    refine gL hf (g_mv hf rfl) (by decide) ?_; clear hf a; intro a hf
    refine gL hf (g_mv hf rfl) (by decide) ?_; clear hf a; intro a hf
    (first | (refine gL hf (g_ixE hf hs (.head _) SL27 rfl rfl (by omega)) (by decide) ?_) | (refine gL hf (g_ixD hf hs (.head _) SL27 rfl rfl (by omega)) (by decide) ?_)); clear hf a; intro a hf
    refine gL hf (g_ldE hf hs (.head _) T3 rfl rfl (by omega)) (by decide) ?_; clear hf a; intro a hf
    refine gL hf (g_mv hf rfl) (by decide) ?_; clear hf a; intro a hf
    refine gL hf (g_eql hf rfl rfl) (by decide) ?_; clear hf a; intro a hf
    refine e_nil ?_
    refine c_cond hf rfl (fun hc2 => ?_) (fun hc2 => ?_)
    · try simp only [decide_eq_true_eq, decide_eq_false_iff_not] at hc2
      refine c_reg ?_
      refine gL hf (g_mv hf rfl) (by decide) ?_; clear hf a; intro a hf
      refine gL hf (g_as hf rfl) (by decide) ?_; clear hf a; intro a hf
      refine e_nil ?_
      refine c_ret (q_blkR (q_thenR (q_thenR (q_blkR (q_thenR ?_)))))
      refine e_ret1 hf rfl rfl ?_
      exact ⟨by rw [indexZ_found (by omega) hp (by assumption)], hs.below⟩
    · try simp only [decide_eq_true_eq, decide_eq_false_iff_not] at hc2
      refine c_skip (q_blkN (q_thenN ?_))
      refine c_reg1 ?_
      refine gL hf (g_mv hf rfl) (by decide) ?_; clear hf a; intro a hf
      refine gL hf (g_addI hf rfl rfl (by omega)) (by decide) ?_; clear hf a; intro a hf
      refine gL hf (g_as hf rfl) (by decide) ?_; clear hf a; intro a hf
      refine e_nil1 (q_thenN ?_)
      exact ⟨k + 1, ⟨by omega, lt_succ hp (by assumption)⟩, (by omega), hf.back (by repeat (first | (with_reducible exact Ext.base) | ((with_reducible refine Ext.cons ?_ ?_); (· rfl)) | ((with_reducible refine Ext.over ?_ ?_ ?_); (· rfl); (· rfl)))) (allKeys rfl) (.cons rfl .nil), hs.dropN 0⟩
  · try simp only [decide_eq_true_eq, decide_eq_false_iff_not] at hc1
    refine c_exit (q_thenX (q_thenX (q_blkX (q_thenN ?_))))
    refine c_reg ?_
    refine gL hf (g_as hf rfl) (by decide) ?_; clear hf a; intro a hf
    refine e_nil ?_
    refine c_ret ?_
    refine e_ret1 hf rfl rfl ?_
    exact ⟨by rw [indexZ_none (fun j hj => hp j (by omega))], hs.below⟩

theorem c_IndexS (A : Option Addr) (n c : Nat) (l : List Rule) (v : Rule) (w0 : World) (h : Rd encR 2 A n l w0) :
    Calls Tryd.prog 92 #[.slice A n c, .agg #[.int .i64 v.over, .int .i64 v.under]] w0 (Ret w0 (.int .i64 (indexZ (fun x => v.over == x.over && v.under == x.under) l))) := by
  refine c_enter (n := 19) Tryd.func92 rfl rfl (Nat.le_of_ble_eq_true rfl) ?_; intro a hf; simp only [zipR] at hf
  have hs := St.start w0 [Rd encR 2 A n l] (by simpa using h.stable (by simp))
  have hn := h.1; have hm := h.2.1
  refine c_reg ?_
  refine vL hf (v_boxA hf hs rfl) (by decide) ?_; clear hs hf a; rintro _ w ⟨b1, rfl, hs⟩ a hf
  refine gL hf (g_as hf rfl) (by decide) ?_; clear hf a; intro a hf
  refine e_nil ?_
  refine wp_seq ?_
  refine c_reg ?_
  refine gL hf (g_mv hf rfl) (by decide) ?_; clear hf a; intro a hf
  refine gL hf (g_len hf SL23 rfl) (by decide) ?_; clear hf a; intro a hf
  refine gL hf (g_mv hf rfl) (by decide) ?_; clear hf a; intro a hf
  refine e_nil ?_
  refine c_block ?_
  refine c_loop hf hs [4, 5, 8, 9, 10, 11, 12, 13, 14, 15, 16, 17, 18] (σ := Nat) (fun k => [(8, .int .i64 (k : Nat))]) (fun k => _) (fun k => k ≤ n ∧ ∀ j, j < k → (v.over == ((l.getD j default)).over && v.under == ((l.getD j default)).under) = false) (fun k => n - k) 0 ⟨by omega, by omega⟩ (.cons rfl .nil) rfl ?_
  intro k a w hJ hf hs
  obtain ⟨hk, hp⟩ := hJ
  refine c_reg ?_
  refine gL hf (g_lss hf rfl rfl) (by decide) ?_; clear hf a; intro a hf
  refine e_nil ?_
  refine c_condS hf rfl (fun hc1 => ?_) (fun hc1 => ?_)
  · try simp only [decide_eq_true_eq, decide_eq_false_iff_not] at hc1
    refine c_skip (q_thenN ?_)
    refine c_blockS ?_
    refine c_reg ?_
    refine gL hf (g_mv hf rfl) (by decide) ?_; clear hf a; intro a hf
    refine gL hf (g_as hf rfl) (by decide) ?_; clear hf a; intro a hf
    refine e_nil ?_
    refine c_draw _ 6 Mx rfl hs (fun _ h => h) ?_; intro w hs hS
    refine gA hf hS (i := 0) rfl (by kernel_rfl) (fun w hs => g_ldW hf hs T64 rfl (k := 0) rfl rfl) (by decide) ?_; clear hf a; intro a hf
    refine gA hf hS (i := 1) rfl (by kernel_rfl) (fun w hs => g_mv hf rfl) (by decide) ?_; clear hf a; intro a hf
    refine gA hf hS (i := 2) rfl (by kernel_rfl) (fun w hs => g_mv hf rfl) (by decide) ?_; clear hf a; intro a hf
    (first | (refine gA hf hS (i := 3) rfl (by kernel_rfl) (fun w hs => g_ixE hf hs (.head _) SL23 rfl rfl (by omega)) (by decide) ?_) | (refine gA hf hS (i := 3) rfl (by kernel_rfl) (fun w hs => g_ixD hf hs (.head _) SL23 rfl rfl (by omega)) (by decide) ?_)); clear hf a; intro a hf
    refine gA hf hS (i := 4) rfl (by kernel_rfl) (fun w hs => g_ldEW hf hs (.head _) T64 rfl rfl (by omega)) (by decide) ?_; clear hf a; intro a hf
    refine gA hf hS (i := 5) rfl (by kernel_rfl) (fun w hs => g_eqS hf Q64 rfl rfl) (by decide) ?_; clear hf a; intro a hf
    refine e_done (by kernel_rfl) ?_
    refine c_cond hf rfl (fun hc2 => ?_) (fun hc2 => ?_)
    · try simp only [decide_eq_true_eq, decide_eq_false_iff_not] at hc2
      refine c_reg ?_
      refine gL hf (g_mv hf rfl) (by decide) ?_; clear hf a; intro a hf
      refine gL hf (g_as hf rfl) (by decide) ?_; clear hf a; intro a hf
      refine e_nil ?_
      refine c_ret (q_blkR (q_thenR (q_thenR (q_blkR (q_thenR ?_)))))
      refine e_ret1 hf rfl rfl ?_
      exact ⟨by rw [indexZ_found (by omega) hp (by assumption)], hs.below⟩
    · try simp only [decide_eq_true_eq, decide_eq_false_iff_not] at hc2
      refine c_skip (q_blkN (q_thenN ?_))
      refine c_reg1 ?_
      refine gL hf (g_addI hf rfl rfl (by omega)) (by decide) ?_; clear hf a; intro a hf
      refine gL hf (g_mv hf rfl) (by decide) ?_; clear hf a; intro a hf
      refine e_nil1 (q_thenN ?_)
      exact ⟨k + 1, ⟨by omega, lt_succ hp (by assumption)⟩, (by omega), hf.back (by repeat (first | (with_reducible exact Ext.base) | ((with_reducible refine Ext.cons ?_ ?_); (· rfl)) | ((with_reducible refine Ext.over ?_ ?_ ?_); (· rfl); (· rfl)))) (allKeys rfl) (.cons rfl .nil), hs.dropN 0⟩
  · try simp only [decide_eq_true_eq, decide_eq_false_iff_not] at hc1
    refine c_exit (q_thenX (q_thenX (q_blkX (q_thenN ?_))))
    refine c_reg ?_
    refine gL hf (g_as hf rfl) (by decide) ?_; clear hf a; intro a hf
    refine e_nil ?_
    refine c_ret ?_
    refine e_ret1 hf rfl rfl ?_
    exact ⟨by rw [indexZ_none (fun j hj => hp j (by omega))], hs.below⟩

end Go.Proofs.YtpjhffockmnjbaaDoor
set_option linter.unusedVariables false
set_option linter.unusedSimpArgs false
namespace Go.Proofs.YtpjhffockmnjbaaDoor
open Go.RowKit
theorem c_Contains (A : Option Addr) (n c : Nat) (l : List Int) (v : Int) (w0 : World) (h : Rd encI 1 A n l w0) :
    Calls Tryd.prog 71 #[.slice A n c, .int .i64 v] w0 (Ret w0 (.bool (l.any fun x => v == x))) := by
  refine c_enter (n := 9) Tryd.func71 rfl rfl (Nat.le_of_ble_eq_true rfl) ?_; intro a hf; simp only [zipR] at hf
  have hs := St.start w0 [Rd encI 1 A n l] h.st1
  refine c_reg ?_
  refine gL hf (g_as hf rfl) (by decide) ?_; clear hf a; intro a hf
  refine e_nil ?_
  refine c_reg ?_
  refine gL hf (g_mv hf rfl) (by decide) ?_; clear hf a; intro a hf
  refine gL hf (g_mv hf rfl) (by decide) ?_; clear hf a; intro a hf
  refine callL hf hs (c_Index _ _ _ _ _ _ (hs.rd (.head _))) rfl rfl rfl E63 (by decide) ?_; clear hs hf a; intro w a hs hf
  refine gL hf (g_geq hf rfl rfl) (by decide) ?_; clear hf a; intro a hf
  refine gL hf (g_as hf rfl) (by decide) ?_; clear hf a; intro a hf
  refine e_nil ?_
  refine c_ret ?_
  refine e_ret1 hf rfl rfl ?_
  exact ⟨by rw [indexZ_ge], hs.below⟩

theorem c_ContainsS (A : Option Addr) (n c : Nat) (l : List Rule) (v : Rule) (w0 : World) (h : Rd encR 2 A n l w0) :
    Calls Tryd.prog 60 #[.slice A n c, .agg #[.int .i64 v.over, .int .i64 v.under]] w0 (Ret w0 (.bool (l.any fun x => sameR v x))) := by
  refine c_enter (n := 9) Tryd.func60 rfl rfl (Nat.le_of_ble_eq_true rfl) ?_; intro a hf; simp only [zipR] at hf
  have hs := St.start w0 [Rd encR 2 A n l] h.st1
  refine c_reg ?_
  refine vL hf (v_boxA hf hs rfl) (by decide) ?_; clear hs hf a; rintro _ w ⟨b1, rfl, hs⟩ a hf
  refine gL hf (g_as hf rfl) (by decide) ?_; clear hf a; intro a hf
  refine e_nil ?_
  refine c_reg ?_
  refine gL hf (g_mv hf rfl) (by decide) ?_; clear hf a; intro a hf
  refine gL hf (g_ldW hf hs T64 rfl (k := 0) rfl rfl) (by decide) ?_; clear hf a; intro a hf
  refine callL hf hs (c_IndexS _ _ _ _ v _ (hs.rd (.head _))) rfl rfl rfl E92 (by decide) ?_; clear hs hf a; intro w a hs hf
  refine gL hf (g_geq hf rfl rfl) (by decide) ?_; clear hf a; intro a hf
  refine gL hf (g_as hf rfl) (by decide) ?_; clear hf a; intro a hf
  refine e_nil ?_
  refine c_ret ?_
  refine e_ret1 hf rfl rfl ?_
  exact ⟨by rw [indexZ_ge]; rfl, hs.below⟩

theorem c_place (A : Option Addr) (n c : Nat) (l : List Int) (v : Int) (w0 : World) (h : Rd encI 1 A n l w0) :
    Calls Tryd.prog 81 #[.slice A n c, .int .i64 v] w0 (Ret w0 (.int .i64 (indexZ (fun x => x == v) l))) := by
  refine c_enter (n := 8) Tryd.func81 rfl rfl (Nat.le_of_ble_eq_true rfl) ?_; intro a hf; simp only [zipR] at hf
  have hs := St.start w0 [Rd encI 1 A n l] h.st1
  refine c_reg ?_
  refine gL hf (g_as hf rfl) (by decide) ?_; clear hf a; intro a hf
  refine e_nil ?_
  refine c_reg ?_
  refine gL hf (g_mv hf rfl) (by decide) ?_; clear hf a; intro a hf
  refine gL hf (g_mv hf rfl) (by decide) ?_; clear hf a; intro a hf
  refine callL hf hs (c_IndexR _ _ _ _ _ _ (hs.rd (.head _))) rfl rfl rfl E44 (by decide) ?_; clear hs hf a; intro w a hs hf
  refine gL hf (g_as hf rfl) (by decide) ?_; clear hf a; intro a hf
  refine e_nil ?_
  refine c_ret ?_
  refine e_ret1 hf rfl rfl ?_
  exact ⟨rfl, hs.below⟩

theorem c_cols (b : Sheet) (fA : Option Addr) (fc : Nat) (rA : Option Addr) (rc : Nat) (x : Flap) (r : Int) (h1 : 0 ≤ b.wide ∧ b.wide ≤ 99) (h2 : 0 ≤ b.high ∧ b.high ≤ 99) (h3 : 0 ≤ r ∧ r ≤ 99) (w0 : World) (h : ShIn b fA fc rA rc w0) :
    Calls Tryd.prog 90 #[.agg #[.int .i64 b.wide, .int .i64 b.high, .slice fA b.flaps.length fc, .slice rA b.rules.length rc], .agg #[.int .i64 x.side, .int .i64 x.rl, .int .i64 x.rh, .int .i64 x.al, .int .i64 x.ah], .int .i64 r] w0 (Ret w0 (.agg #[.int .i64 (colLo b x r), .int .i64 (colHi b x r)])) := by
  refine c_enter (n := 26) Tryd.func90 rfl rfl (Nat.le_of_ble_eq_true rfl) ?_; intro a hf; simp only [zipR] at hf
  have hs := St.start w0 [Rd encF 5 fA b.flaps.length b.flaps, Rd encR 2 rA b.rules.length b.rules] h.stab
  have hfm := h.F.2.1; have hrm := h.R.2.1
  refine c_reg ?_
  refine vL hf (v_boxA hf hs rfl) (by decide) ?_; clear hs hf a; rintro _ w ⟨b1, rfl, hs⟩ a hf
  refine vL hf (v_boxA hf hs rfl) (by decide) ?_; clear hs hf a; rintro _ w ⟨b2, rfl, hs⟩ a hf
  refine vL hf (v_alloc hs T47 rfl) (by decide) ?_; clear hs hf a; rintro _ w ⟨b3, rfl, hs⟩ a hf
  refine e_nil ?_
  refine wp_seq ?_
  refine c_reg ?_
  refine gL hf (g_fa (off' := 0) hf F49_0 rfl rfl) (by decide) ?_; clear hf a; intro a hf
  refine gL hf (g_ld hf hs T3 rfl (k := 1) rfl rfl) (by decide) ?_; clear hf a; intro a hf
  refine e_nil ?_
  refine c_block ?_
  refine c_reg ?_
  refine gL hf (g_eql hf rfl rfl) (by decide) ?_; clear hf a; intro a hf
  refine gL hf (g_as hf rfl) (by decide) ?_; clear hf a; intro a hf
  refine e_nil ?_
  refine c_cond hf rfl (fun hc1 => ?_) (fun hc1 => ?_)
  · try simp only [decide_eq_true_eq, decide_eq_false_iff_not] at hc1
    refine c_reg ?_
    refine gL hf (g_mv hf rfl) (by decide) ?_; clear hf a; intro a hf
    refine gL hf (g_subI hf rfl rfl (by omega)) (by decide) ?_; clear hf a; intro a hf
    refine callL hf hs (c_Sp _ _ _) rfl rfl rfl E52 (by decide) ?_; clear hs hf a; intro w a hs hf
    refine uL (u_stW hf hs T47 rfl rfl rfl (k := 0) rfl rfl rfl) ?_; clear hs; intro w hs; dsimp only [List.set] at hs
    refine e_nil ?_
    refine c_ret (q_blkR (q_thenR ?_))
    refine e_res hf hs rfl (.cellA T47 rfl (k := 0) rfl rfl .nil) rfl ?_
    exact ⟨by simp_all [colLo, colHi], hs.below⟩
  · try simp only [decide_eq_true_eq, decide_eq_false_iff_not] at hc1
    refine c_reg ?_
    refine gL hf (g_eql hf rfl rfl) (by decide) ?_; clear hf a; intro a hf
    refine gL hf (g_as hf rfl) (by decide) ?_; clear hf a; intro a hf
    refine e_nil ?_
    refine c_cond hf rfl (fun hc2 => ?_) (fun hc2 => ?_)
    · try simp only [decide_eq_true_eq, decide_eq_false_iff_not] at hc2
      refine c_reg ?_
      refine gL hf (g_fa (off' := 0) hf F25_0 rfl rfl) (by decide) ?_; clear hf a; intro a hf
      refine gL hf (g_ld hf hs T3 rfl (k := 2) rfl rfl) (by decide) ?_; clear hf a; intro a hf
      refine gL hf (g_mv hf rfl) (by decide) ?_; clear hf a; intro a hf
      refine gL hf (g_subI hf rfl rfl (by omega)) (by decide) ?_; clear hf a; intro a hf
      refine gL hf (g_fa (off' := 0) hf F25_0 rfl rfl) (by decide) ?_; clear hf a; intro a hf
      refine gL hf (g_ld hf hs T3 rfl (k := 2) rfl rfl) (by decide) ?_; clear hf a; intro a hf
      refine gL hf (g_subI hf rfl rfl (by omega)) (by decide) ?_; clear hf a; intro a hf
      refine callL hf hs (c_Sp _ _ _) rfl rfl rfl E52 (by decide) ?_; clear hs hf a; intro w a hs hf
      refine uL (u_stW hf hs T47 rfl rfl rfl (k := 0) rfl rfl rfl) ?_; clear hs; intro w hs; dsimp only [List.set] at hs
      refine e_nil ?_
      refine c_ret (q_blkR (q_thenR ?_))
      refine e_res hf hs rfl (.cellA T47 rfl (k := 0) rfl rfl .nil) rfl ?_
      exact ⟨by simp_all [colLo, colHi], hs.below⟩
    · try simp only [decide_eq_true_eq, decide_eq_false_iff_not] at hc2
      refine c_skip (q_blkN (q_thenN ?_))
      refine c_reg ?_
      refine gL hf (g_fa (off' := 3) hf F49_2 rfl rfl) (by decide) ?_; clear hf a; intro a hf
      refine gL hf (g_ldP hf hs T47 rfl (k := 1) rfl rfl) (by decide) ?_; clear hf a; intro a hf
      refine uL (u_stW hf hs T47 rfl rfl rfl (k := 0) rfl rfl rfl) ?_; clear hs; intro w hs; dsimp only [List.set] at hs
      refine e_nil ?_
      refine c_ret ?_
      refine e_res hf hs rfl (.cellA T47 rfl (k := 0) rfl rfl .nil) rfl ?_
      exact ⟨by simp_all [colLo, colHi], hs.below⟩

theorem c_rows (b : Sheet) (fA : Option Addr) (fc : Nat) (rA : Option Addr) (rc : Nat) (x : Flap) (r : Int) (h1 : 0 ≤ b.wide ∧ b.wide ≤ 99) (h2 : 0 ≤ b.high ∧ b.high ≤ 99) (h3 : 0 ≤ r ∧ r ≤ 99) (w0 : World) (h : ShIn b fA fc rA rc w0) :
    Calls Tryd.prog 91 #[.agg #[.int .i64 b.wide, .int .i64 b.high, .slice fA b.flaps.length fc, .slice rA b.rules.length rc], .agg #[.int .i64 x.side, .int .i64 x.rl, .int .i64 x.rh, .int .i64 x.al, .int .i64 x.ah], .int .i64 r] w0 (Ret w0 (.agg #[.int .i64 (rowLo b x r), .int .i64 (rowHi b x r)])) := by
  refine c_enter (n := 26) Tryd.func91 rfl rfl (Nat.le_of_ble_eq_true rfl) ?_; intro a hf; simp only [zipR] at hf
  have hs := St.start w0 [Rd encF 5 fA b.flaps.length b.flaps, Rd encR 2 rA b.rules.length b.rules] h.stab
  have hfm := h.F.2.1; have hrm := h.R.2.1
  refine c_reg ?_
  refine vL hf (v_boxA hf hs rfl) (by decide) ?_; clear hs hf a; rintro _ w ⟨b1, rfl, hs⟩ a hf
  refine vL hf (v_boxA hf hs rfl) (by decide) ?_; clear hs hf a; rintro _ w ⟨b2, rfl, hs⟩ a hf
  refine vL hf (v_alloc hs T47 rfl) (by decide) ?_; clear hs hf a; rintro _ w ⟨b3, rfl, hs⟩ a hf
  refine e_nil ?_
  refine wp_seq ?_
  refine c_reg ?_
  refine gL hf (g_fa (off' := 0) hf F49_0 rfl rfl) (by decide) ?_; clear hf a; intro a hf
  refine gL hf (g_ld hf hs T3 rfl (k := 1) rfl rfl) (by decide) ?_; clear hf a; intro a hf
  refine e_nil ?_
  refine c_block ?_
  refine c_reg ?_
  refine gL hf (g_eql hf rfl rfl) (by decide) ?_; clear hf a; intro a hf
  refine gL hf (g_as hf rfl) (by decide) ?_; clear hf a; intro a hf
  refine e_nil ?_
  refine c_cond hf rfl (fun hc1 => ?_) (fun hc1 => ?_)
  · try simp only [decide_eq_true_eq, decide_eq_false_iff_not] at hc1
    refine c_reg ?_
    refine gL hf (g_mv hf rfl) (by decide) ?_; clear hf a; intro a hf
    refine gL hf (g_subI hf rfl rfl (by omega)) (by decide) ?_; clear hf a; intro a hf
    refine callL hf hs (c_Sp _ _ _) rfl rfl rfl E52 (by decide) ?_; clear hs hf a; intro w a hs hf
    refine uL (u_stW hf hs T47 rfl rfl rfl (k := 0) rfl rfl rfl) ?_; clear hs; intro w hs; dsimp only [List.set] at hs
    refine e_nil ?_
    refine c_ret (q_blkR (q_thenR ?_))
    refine e_res hf hs rfl (.cellA T47 rfl (k := 0) rfl rfl .nil) rfl ?_
    exact ⟨by simp_all [rowLo, rowHi], hs.below⟩
  · try simp only [decide_eq_true_eq, decide_eq_false_iff_not] at hc1
    refine c_reg ?_
    refine gL hf (g_eql hf rfl rfl) (by decide) ?_; clear hf a; intro a hf
    refine gL hf (g_as hf rfl) (by decide) ?_; clear hf a; intro a hf
    refine e_nil ?_
    refine c_cond hf rfl (fun hc2 => ?_) (fun hc2 => ?_)
    · try simp only [decide_eq_true_eq, decide_eq_false_iff_not] at hc2
      refine c_reg ?_
      refine gL hf (g_fa (off' := 1) hf F25_1 rfl rfl) (by decide) ?_; clear hf a; intro a hf
      refine gL hf (g_ld hf hs T3 rfl (k := 2) rfl rfl) (by decide) ?_; clear hf a; intro a hf
      refine gL hf (g_mv hf rfl) (by decide) ?_; clear hf a; intro a hf
      refine gL hf (g_subI hf rfl rfl (by omega)) (by decide) ?_; clear hf a; intro a hf
      refine gL hf (g_fa (off' := 1) hf F25_1 rfl rfl) (by decide) ?_; clear hf a; intro a hf
      refine gL hf (g_ld hf hs T3 rfl (k := 2) rfl rfl) (by decide) ?_; clear hf a; intro a hf
      refine gL hf (g_subI hf rfl rfl (by omega)) (by decide) ?_; clear hf a; intro a hf
      refine callL hf hs (c_Sp _ _ _) rfl rfl rfl E52 (by decide) ?_; clear hs hf a; intro w a hs hf
      refine uL (u_stW hf hs T47 rfl rfl rfl (k := 0) rfl rfl rfl) ?_; clear hs; intro w hs; dsimp only [List.set] at hs
      refine e_nil ?_
      refine c_ret (q_blkR (q_thenR ?_))
      refine e_res hf hs rfl (.cellA T47 rfl (k := 0) rfl rfl .nil) rfl ?_
      exact ⟨by simp_all [rowLo, rowHi], hs.below⟩
    · try simp only [decide_eq_true_eq, decide_eq_false_iff_not] at hc2
      refine c_skip (q_blkN (q_thenN ?_))
      refine c_reg ?_
      refine gL hf (g_fa (off' := 3) hf F49_2 rfl rfl) (by decide) ?_; clear hf a; intro a hf
      refine gL hf (g_ldP hf hs T47 rfl (k := 1) rfl rfl) (by decide) ?_; clear hf a; intro a hf
      refine uL (u_stW hf hs T47 rfl rfl rfl (k := 0) rfl rfl rfl) ?_; clear hs; intro w hs; dsimp only [List.set] at hs
      refine e_nil ?_
      refine c_ret ?_
      refine e_res hf hs rfl (.cellA T47 rfl (k := 0) rfl rfl .nil) rfl ?_
      exact ⟨by simp_all [rowLo, rowHi], hs.below⟩

theorem c_isRight (b : Sheet) (fA : Option Addr) (fc : Nat) (rA : Option Addr) (rc : Nat) (x : Flap) (h1 : 0 ≤ b.wide ∧ b.wide ≤ 99) (h2 : 0 ≤ b.high ∧ b.high ≤ 99) (w0 : World) (h : ShIn b fA fc rA rc w0) :
    Calls Tryd.prog 61 #[.agg #[.int .i64 b.wide, .int .i64 b.high, .slice fA b.flaps.length fc, .slice rA b.rules.length rc], .agg #[.int .i64 x.side, .int .i64 x.rl, .int .i64 x.rh, .int .i64 x.al, .int .i64 x.ah]] w0 (Ret w0 (.bool (flapOK b x))) := by
  refine c_enter (n := 43) Tryd.func61 rfl rfl (Nat.le_of_ble_eq_true rfl) ?_; intro a hf; simp only [zipR] at hf
  have hs := St.start w0 [Rd encF 5 fA b.flaps.length b.flaps, Rd encR 2 rA b.rules.length b.rules] h.stab
  have hfm := h.F.2.1; have hrm := h.R.2.1
  refine c_reg ?_
  refine vL hf (v_boxA hf hs rfl) (by decide) ?_; clear hs hf a; rintro _ w ⟨b1, rfl, hs⟩ a hf
  refine vL hf (v_boxA hf hs rfl) (by decide) ?_; clear hs hf a; rintro _ w ⟨b2, rfl, hs⟩ a hf
  refine gL hf (g_as hf rfl) (by decide) ?_; clear hf a; intro a hf
  refine e_nil ?_
  refine wp_seq ?_
  refine c_reg ?_
  refine gL hf (g_ldW hf hs T49 rfl (k := 0) rfl rfl) (by decide) ?_; clear hf a; intro a hf
  refine callL hf hs (c_standing _ _) rfl rfl rfl E93 (by decide) ?_; clear hs hf a; intro w a hs hf
  refine e_nil ?_
  refine c_cond hf rfl (fun hc1 => ?_) (fun hc1 => ?_)
  · try simp only [decide_eq_true_eq, decide_eq_false_iff_not] at hc1
    refine c_reg ?_
    refine gL hf (g_fa (off' := 0) hf F49_0 rfl rfl) (by decide) ?_; clear hf a; intro a hf
    refine gL hf (g_ld hf hs T3 rfl (k := 0) rfl rfl) (by decide) ?_; clear hf a; intro a hf
    refine callL hf hs (c_Fits _ _ _ _) rfl rfl rfl E39 (by decide) ?_; clear hs hf a; intro w a hs hf
    refine gL hf (g_mv hf rfl) (by decide) ?_; clear hf a; intro a hf
    refine ggL hf rfl rfl (gyes_t _) (fun hg => g_fa (off' := 1) hf F49_1 rfl rfl) (by decide) ?_; clear hf a; intro a hf
    refine ggL hf rfl rfl (gyes_t _) (fun hg => g_ldP hf hs T47 (ev_gv rfl hg) (k := 0) rfl rfl) (by decide) ?_; clear hf a; intro a hf
    refine ggL hf rfl rfl (gyes_t _) (fun hg => g_fa (off' := 0) hf F25_0 rfl rfl) (by decide) ?_; clear hf a; intro a hf
    refine ggL hf rfl rfl (gyes_t _) (fun hg => g_ld hf hs T3 (ev_gv rfl hg) (k := 1) rfl rfl) (by decide) ?_; clear hf a; intro a hf
    refine callG hf hs rfl rfl (gyes_t _) (fun hg => ⟨_, _, _, _, c_Right _ _ _ _ _, rfl, evs_cons (ev_gv rfl hg) (evs_cons rfl (evs_cons (ev_gv rfl hg) evs_nil)), rfl⟩) E80 (by decide) ?_; clear hs hf a; intro w a hs hf
    refine gL hf (g_and hf rfl rfl) (by decide) ?_; clear hf a; intro a hf
    refine gL hf (g_mv hf rfl) (by decide) ?_; clear hf a; intro a hf
    refine ggL hf rfl rfl (gyes_t _) (fun hg => g_fa (off' := 3) hf F49_2 rfl rfl) (by decide) ?_; clear hf a; intro a hf
    refine ggL hf rfl rfl (gyes_t _) (fun hg => g_ldP hf hs T47 (ev_gv rfl hg) (k := 0) rfl rfl) (by decide) ?_; clear hf a; intro a hf
    refine ggL hf rfl rfl (gyes_t _) (fun hg => g_fa (off' := 1) hf F25_1 rfl rfl) (by decide) ?_; clear hf a; intro a hf
    refine ggL hf rfl rfl (gyes_t _) (fun hg => g_ld hf hs T3 (ev_gv rfl hg) (k := 1) rfl rfl) (by decide) ?_; clear hf a; intro a hf
    refine ggL hf rfl rfl (gyes_t _) (fun hg => g_subI hf (ev_gv rfl hg) rfl (by omega)) (by decide) ?_; clear hf a; intro a hf
    refine callG hf hs rfl rfl (gyes_t _) (fun hg => ⟨_, _, _, _, c_Right _ _ _ _ _, rfl, evs_cons (ev_gv rfl hg) (evs_cons rfl (evs_cons (ev_gv rfl hg) evs_nil)), rfl⟩) E80 (by decide) ?_; clear hs hf a; intro w a hs hf
    refine gL hf (g_and hf rfl rfl) (by decide) ?_; clear hf a; intro a hf
    refine gL hf (g_as hf rfl) (by decide) ?_; clear hf a; intro a hf
    refine e_nil ?_
    refine c_ret (q_thenR ?_)
    refine e_ret1 hf rfl rfl ?_
    exact ⟨by rw [flapOK, if_pos hc1], hs.below⟩
  · try simp only [decide_eq_true_eq, decide_eq_false_iff_not] at hc1
    refine c_skip (q_thenN ?_)
    refine c_reg ?_
    refine gL hf (g_fa (off' := 0) hf F49_0 rfl rfl) (by decide) ?_; clear hf a; intro a hf
    refine gL hf (g_ld hf hs T3 rfl (k := 0) rfl rfl) (by decide) ?_; clear hf a; intro a hf
    refine callL hf hs (c_Fits _ _ _ _) rfl rfl rfl E39 (by decide) ?_; clear hs hf a; intro w a hs hf
    refine gL hf (g_mv hf rfl) (by decide) ?_; clear hf a; intro a hf
    refine ggL hf rfl rfl (gyes_t _) (fun hg => g_fa (off' := 1) hf F49_1 rfl rfl) (by decide) ?_; clear hf a; intro a hf
    refine ggL hf rfl rfl (gyes_t _) (fun hg => g_ldP hf hs T47 (ev_gv rfl hg) (k := 0) rfl rfl) (by decide) ?_; clear hf a; intro a hf
    refine ggL hf rfl rfl (gyes_t _) (fun hg => g_fa (off' := 1) hf F25_1 rfl rfl) (by decide) ?_; clear hf a; intro a hf
    refine ggL hf rfl rfl (gyes_t _) (fun hg => g_ld hf hs T3 (ev_gv rfl hg) (k := 1) rfl rfl) (by decide) ?_; clear hf a; intro a hf
    refine callG hf hs rfl rfl (gyes_t _) (fun hg => ⟨_, _, _, _, c_Right _ _ _ _ _, rfl, evs_cons (ev_gv rfl hg) (evs_cons rfl (evs_cons (ev_gv rfl hg) evs_nil)), rfl⟩) E80 (by decide) ?_; clear hs hf a; intro w a hs hf
    refine gL hf (g_and hf rfl rfl) (by decide) ?_; clear hf a; intro a hf
    refine gL hf (g_mv hf rfl) (by decide) ?_; clear hf a; intro a hf
    refine ggL hf rfl rfl (gyes_t _) (fun hg => g_fa (off' := 3) hf F49_2 rfl rfl) (by decide) ?_; clear hf a; intro a hf
    refine ggL hf rfl rfl (gyes_t _) (fun hg => g_ldP hf hs T47 (ev_gv rfl hg) (k := 0) rfl rfl) (by decide) ?_; clear hf a; intro a hf
    refine ggL hf rfl rfl (gyes_t _) (fun hg => g_fa (off' := 0) hf F25_0 rfl rfl) (by decide) ?_; clear hf a; intro a hf
    refine ggL hf rfl rfl (gyes_t _) (fun hg => g_ld hf hs T3 (ev_gv rfl hg) (k := 1) rfl rfl) (by decide) ?_; clear hf a; intro a hf
    refine ggL hf rfl rfl (gyes_t _) (fun hg => g_subI hf (ev_gv rfl hg) rfl (by omega)) (by decide) ?_; clear hf a; intro a hf
    refine callG hf hs rfl rfl (gyes_t _) (fun hg => ⟨_, _, _, _, c_Right _ _ _ _ _, rfl, evs_cons (ev_gv rfl hg) (evs_cons rfl (evs_cons (ev_gv rfl hg) evs_nil)), rfl⟩) E80 (by decide) ?_; clear hs hf a; intro w a hs hf
    refine gL hf (g_and hf rfl rfl) (by decide) ?_; clear hf a; intro a hf
    refine gL hf (g_as hf rfl) (by decide) ?_; clear hf a; intro a hf
    refine e_nil ?_
    refine c_ret ?_
    refine e_ret1 hf rfl rfl ?_
    exact ⟨by rw [flapOK, if_neg hc1], hs.below⟩

theorem c_meet (b : Sheet) (fA : Option Addr) (fc : Nat) (rA : Option Addr) (rc : Nat) (i j : Int) (m : Bool) (hv : Valid b) (hi : 0 ≤ i ∧ i < b.flaps.length) (hj : 0 ≤ j ∧ j < b.flaps.length) (w0 : World) (h : ShIn b fA fc rA rc w0) :
    Calls Tryd.prog 57 #[.agg #[.int .i64 b.wide, .int .i64 b.high, .slice fA b.flaps.length fc, .slice rA b.rules.length rc], .int .i64 i, .int .i64 j, .bool m] w0 (Ret w0 (.bool (meetB b i.toNat j.toNat m))) := by
  refine c_enter (n := 53) Tryd.func57 rfl rfl (Nat.le_of_ble_eq_true rfl) ?_; intro a hf; simp only [zipR] at hf
  have hs := St.start w0 [Rd encF 5 fA b.flaps.length b.flaps, Rd encR 2 rA b.rules.length b.rules] h.stab
  have hfm := h.F.2.1; have hrm := h.R.2.1
  have hx := getD_mem (l := b.flaps) (i := i.toNat) (by omega); have hy := getD_mem (l := b.flaps) (i := j.toNat) (by omega)
  have h1 := hv.wide; have h2 := hv.high; have h3 := hv.far hx m; have h4 := hv.far hy m
  refine c_reg ?_
  refine vL hf (v_boxA hf hs rfl) (by decide) ?_; clear hs hf a; rintro _ w ⟨b1, rfl, hs⟩ a hf
  refine gL hf (g_as hf rfl) (by decide) ?_; clear hf a; intro a hf
  refine e_nil ?_
  refine c_drawJ _ 14 (fun a w => ∃ bx by_, Fr [] a 53 [(9, .pointer (some ⟨bx, 0, none⟩)), (10, .pointer (some ⟨by_, 0, none⟩)), (4, .pointer (some ⟨b1, 0, none⟩)), (3, .bool m)] ∧ St w0 [Rd encF 5 fA b.flaps.length b.flaps, Rd encR 2 rA b.rules.length b.rules] [(bx, .cells (encF (b.flaps.getD i.toNat default)).toArray 49 (0, 0)), (by_, .cells (encF (b.flaps.getD j.toNat default)).toArray 49 (0, 0)), (b1, .cells #[.int .i64 b.wide, .int .i64 b.high, .slice fA b.flaps.length fc, .slice rA b.rules.length rc] 25 (0, 0))] w) Mx rfl hs (fun _ h => h) ?_ ?_
  · intro w hs hS
    refine gA hf hS (i := 0) rfl (by kernel_rfl) (fun w hs => g_fa (off' := 2) hf F25_2 rfl rfl) (by decide) ?_; clear hf a; intro a hf
    refine gA hf hS (i := 1) rfl (by kernel_rfl) (fun w hs => g_ld hf hs T22 rfl (k := 0) rfl rfl) (by decide) ?_; clear hf a; intro a hf
    refine gA hf hS (i := 2) rfl (by kernel_rfl) (fun w hs => g_mv hf rfl) (by decide) ?_; clear hf a; intro a hf
    (first | (refine gA hf hS (i := 3) rfl (by kernel_rfl) (fun w hs => g_ixE hf hs (.head _) SL22 rfl rfl (by omega)) (by decide) ?_) | (refine gA hf hS (i := 3) rfl (by kernel_rfl) (fun w hs => g_ixD hf hs (.head _) SL22 rfl rfl (by omega)) (by decide) ?_)); clear hf a; intro a hf
    refine gA hf hS (i := 4) rfl (by kernel_rfl) (fun w hs => g_ldEW hf hs (.head _) T49 rfl rfl (by omega)) (by decide) ?_; clear hf a; intro a hf
    refine gA hf hS (i := 5) rfl (by kernel_rfl) (fun w hs => g_fa (off' := 2) hf F25_2 rfl rfl) (by decide) ?_; clear hf a; intro a hf
    refine gA hf hS (i := 6) rfl (by kernel_rfl) (fun w hs => g_ld hf hs T22 rfl (k := 0) rfl rfl) (by decide) ?_; clear hf a; intro a hf
    refine gA hf hS (i := 7) rfl (by kernel_rfl) (fun w hs => g_mv hf rfl) (by decide) ?_; clear hf a; intro a hf
    (first | (refine gA hf hS (i := 8) rfl (by kernel_rfl) (fun w hs => g_ixE hf hs (.head _) SL22 rfl rfl (by omega)) (by decide) ?_) | (refine gA hf hS (i := 8) rfl (by kernel_rfl) (fun w hs => g_ixD hf hs (.head _) SL22 rfl rfl (by omega)) (by decide) ?_)); clear hf a; intro a hf
    refine gA hf hS (i := 9) rfl (by kernel_rfl) (fun w hs => g_ldEW hf hs (.head _) T49 rfl rfl (by omega)) (by decide) ?_; clear hf a; intro a hf
    refine two (i := 10) (j := 11) (by kernel_rfl) ?_ ?_
    · skip
      refine oV hf rfl (v_alloc hs T49 rfl) (by decide) (fun _ _ ⟨_, _, h⟩ => h.sub (.cons _ (.refl _))) ?_; clear hs hf hS a; rintro _ w ⟨b2, rfl, hs⟩ hS a hf
      refine one (i := 11) (by kernel_rfl) ?_
      refine oV hf rfl (v_alloc hs T49 rfl) (by decide) (fun _ _ ⟨_, _, h⟩ => h.sub (.cons _ (.cons _ (.refl _)))) ?_; clear hs hf hS a; rintro _ w ⟨b3, rfl, hs⟩ hS a hf
      refine one (i := 12) (by kernel_rfl) ?_
      refine oU rfl (u_stW hf hs T49 rfl rfl rfl (k := 1) rfl rfl rfl) (fun _ h => h.sub (.cons _ (.cons _ (.refl _)))) ?_; clear hs hS; intro w hs hS; dsimp only [List.set] at hs
      refine one (i := 13) (by kernel_rfl) ?_
      refine oU rfl (u_stW hf hs T49 rfl rfl rfl (k := 0) rfl rfl rfl) (fun _ h => h.sub (.cons _ (.cons _ (.refl _)))) ?_; clear hs hS; intro w hs hS; dsimp only [List.set] at hs
      refine e_doneJ (by kernel_rfl) ?_
      first | exact ⟨_, _, hf.only (.cons rfl (.cons rfl (.cons rfl (.cons rfl .nil)))), hs⟩ | exact ⟨_, _, hf.only (.cons rfl (.cons rfl (.cons rfl (.cons rfl .nil)))), hs.perm (.swap _ _ _)⟩
    · skip
      refine oV hf rfl (v_alloc hs T49 rfl) (by decide) (fun _ _ ⟨_, _, h⟩ => h.sub (.cons _ (.refl _))) ?_; clear hs hf hS a; rintro _ w ⟨b2, rfl, hs⟩ hS a hf
      refine one (i := 10) (by kernel_rfl) ?_
      refine oV hf rfl (v_alloc hs T49 rfl) (by decide) (fun _ _ ⟨_, _, h⟩ => h.sub (.cons _ (.cons _ (.refl _)))) ?_; clear hs hf hS a; rintro _ w ⟨b3, rfl, hs⟩ hS a hf
      refine one (i := 12) (by kernel_rfl) ?_
      refine oU rfl (u_stW hf hs T49 rfl rfl rfl (k := 0) rfl rfl rfl) (fun _ h => h.sub (.cons _ (.cons _ (.refl _)))) ?_; clear hs hS; intro w hs hS; dsimp only [List.set] at hs
      refine one (i := 13) (by kernel_rfl) ?_
      refine oU rfl (u_stW hf hs T49 rfl rfl rfl (k := 1) rfl rfl rfl) (fun _ h => h.sub (.cons _ (.cons _ (.refl _)))) ?_; clear hs hS; intro w hs hS; dsimp only [List.set] at hs
      refine e_doneJ (by kernel_rfl) ?_
      first | exact ⟨_, _, hf.only (.cons rfl (.cons rfl (.cons rfl (.cons rfl .nil)))), hs⟩ | exact ⟨_, _, hf.only (.cons rfl (.cons rfl (.cons rfl (.cons rfl .nil)))), hs.perm (.swap _ _ _)⟩
  · clear hs hf a; rintro a w ⟨b2, b3, hf, hs⟩
    refine c_draw _ 8 Mx rfl hs (fun _ h => h) ?_; intro w hs hS
    refine gA hf hS (i := 0) rfl (by kernel_rfl) (fun w hs => g_ldW hf hs T49 rfl (k := 0) rfl rfl) (by decide) ?_; clear hf a; intro a hf
    refine gA hf hS (i := 1) rfl (by kernel_rfl) (fun w hs => g_mv hf rfl) (by decide) ?_; clear hf a; intro a hf
    refine gA hf hS (i := 3) rfl (by kernel_rfl) (fun w hs => g_ldW hf hs T49 rfl (k := 1) rfl rfl) (by decide) ?_; clear hf a; intro a hf
    refine gA hf hS (i := 4) rfl (by kernel_rfl) (fun w hs => g_mv hf rfl) (by decide) ?_; clear hf a; intro a hf
    refine one (i := 2) (by kernel_rfl) ?_
    refine oCall hf hs rfl (c_far _ _ _) rfl rfl rfl E87 (by decide) (fun _ h => h.sub (.refl _)) ?_; clear hs hf hS a; intro w a hs hS hf
    refine one (i := 5) (by kernel_rfl) ?_
    refine oCall hf hs rfl (c_far _ _ _) rfl rfl rfl E87 (by decide) (fun _ h => h.sub (.refl _)) ?_; clear hs hf hS a; intro w a hs hS hf
    refine gA hf hS (i := 6) rfl (by kernel_rfl) (fun w hs => g_as hf rfl) (by decide) ?_; clear hf a; intro a hf
    refine gA hf hS (i := 7) rfl (by kernel_rfl) (fun w hs => g_as hf rfl) (by decide) ?_; clear hf a; intro a hf
    refine e_done (by kernel_rfl) ?_
    refine c_draw _ 25 Mx rfl hs (fun _ h => h) ?_; intro w hs hS
    refine gA hf hS (i := 0) rfl (by kernel_rfl) (fun w hs => g_ldW hf hs T25 rfl (k := 2) rfl rfl) (by decide) ?_; clear hf a; intro a hf
    refine gA hf hS (i := 1) rfl (by kernel_rfl) (fun w hs => g_ldW hf hs T49 rfl (k := 0) rfl rfl) (by decide) ?_; clear hf a; intro a hf
    refine gA hf hS (i := 2) rfl (by kernel_rfl) (fun w hs => g_mv hf rfl) (by decide) ?_; clear hf a; intro a hf
    refine gA hf hS (i := 4) rfl (by kernel_rfl) (fun w hs => g_ldW hf hs T25 rfl (k := 2) rfl rfl) (by decide) ?_; clear hf a; intro a hf
    refine gA hf hS (i := 5) rfl (by kernel_rfl) (fun w hs => g_ldW hf hs T49 rfl (k := 1) rfl rfl) (by decide) ?_; clear hf a; intro a hf
    refine gA hf hS (i := 6) rfl (by kernel_rfl) (fun w hs => g_mv hf rfl) (by decide) ?_; clear hf a; intro a hf
    refine one (i := 3) (by kernel_rfl) ?_
    refine oCall hf hs rfl (c_cols b _ _ _ _ _ _ (by omega) (by omega) (by omega) _ ⟨hs.rd (.head _), hs.rd (.tail _ (.head _)), h.fc_, h.rc_⟩) rfl rfl rfl E90 (by decide) (fun _ h => h.sub (.refl _)) ?_; clear hs hf hS a; intro w a hs hS hf
    refine one (i := 7) (by kernel_rfl) ?_
    refine oCall hf hs rfl (c_cols b _ _ _ _ _ _ (by omega) (by omega) (by omega) _ ⟨hs.rd (.head _), hs.rd (.tail _ (.head _)), h.fc_, h.rc_⟩) rfl rfl rfl E90 (by decide) (fun _ h => h.sub (.refl _)) ?_; clear hs hf hS a; intro w a hs hS hf
    refine one (i := 8) (by kernel_rfl) ?_
    refine oCall hf hs rfl (c_Shared _ _ _ _ _) rfl rfl rfl E89 (by decide) (fun _ h => h.sub (.refl _)) ?_; clear hs hf hS a; intro w a hs hS hf
    refine one (i := 9) (by kernel_rfl) ?_
    refine oCall hf hs rfl (c_Void _ _ _) rfl rfl rfl E88 (by decide) (fun _ h => h.sub (.refl _)) ?_; clear hs hf hS a; intro w a hs hS hf
    refine gA hf hS (i := 10) rfl (by kernel_rfl) (fun w hs => g_not hf rfl) (by decide) ?_; clear hf a; intro a hf
    refine gA hf hS (i := 11) rfl (by kernel_rfl) (fun w hs => g_mv hf rfl) (by decide) ?_; clear hf a; intro a hf
    refine ggA hf hS (i := 12) rfl (by kernel_rfl) rfl rfl (gyes_t _) (fun hg w hs => g_ldW hf hs T25 rfl (k := 2) rfl rfl) (by decide) ?_; clear hf a; intro a hf
    refine ggA hf hS (i := 13) rfl (by kernel_rfl) rfl rfl (gyes_t _) (fun hg w hs => g_ldW hf hs T49 rfl (k := 0) rfl rfl) (by decide) ?_; clear hf a; intro a hf
    refine ggA hf hS (i := 14) rfl (by kernel_rfl) rfl rfl (gyes_t _) (fun hg w hs => g_mv hf rfl) (by decide) ?_; clear hf a; intro a hf
    refine ggA hf hS (i := 16) rfl (by kernel_rfl) rfl rfl (gyes_t _) (fun hg w hs => g_ldW hf hs T25 rfl (k := 2) rfl rfl) (by decide) ?_; clear hf a; intro a hf
    refine ggA hf hS (i := 17) rfl (by kernel_rfl) rfl rfl (gyes_t _) (fun hg w hs => g_ldW hf hs T49 rfl (k := 1) rfl rfl) (by decide) ?_; clear hf a; intro a hf
    refine ggA hf hS (i := 18) rfl (by kernel_rfl) rfl rfl (gyes_t _) (fun hg w hs => g_mv hf rfl) (by decide) ?_; clear hf a; intro a hf
    refine one (i := 15) (by kernel_rfl) ?_
    refine oCallG hf hs rfl rfl rfl (gyes_t _) (fun hg => ⟨_, _, _, _, c_rows b _ _ _ _ _ _ (by omega) (by omega) (by omega) _ ⟨hs.rd (.head _), hs.rd (.tail _ (.head _)), h.fc_, h.rc_⟩, rfl, evs_cons (ev_gv rfl hg) (evs_cons (ev_gv rfl hg) (evs_cons (ev_gv rfl hg) evs_nil)), rfl⟩) E91 (by decide) (fun _ h => h.sub (.refl _)) ?_; clear hs hf hS a; intro w a hs hS hf
    refine one (i := 19) (by kernel_rfl) ?_
    refine oCallG hf hs rfl rfl rfl (gyes_t _) (fun hg => ⟨_, _, _, _, c_rows b _ _ _ _ _ _ (by omega) (by omega) (by omega) _ ⟨hs.rd (.head _), hs.rd (.tail _ (.head _)), h.fc_, h.rc_⟩, rfl, evs_cons (ev_gv rfl hg) (evs_cons (ev_gv rfl hg) (evs_cons (ev_gv rfl hg) evs_nil)), rfl⟩) E91 (by decide) (fun _ h => h.sub (.refl _)) ?_; clear hs hf hS a; intro w a hs hS hf
    refine one (i := 20) (by kernel_rfl) ?_
    refine oCallG hf hs rfl rfl rfl (gyes_t _) (fun hg => ⟨_, _, _, _, c_Shared _ _ _ _ _, rfl, evs_cons (ev_gv rfl hg) (evs_cons (ev_gv rfl hg) evs_nil), rfl⟩) E89 (by decide) (fun _ h => h.sub (.refl _)) ?_; clear hs hf hS a; intro w a hs hS hf
    refine one (i := 21) (by kernel_rfl) ?_
    refine oCallG hf hs rfl rfl rfl (gyes_t _) (fun hg => ⟨_, _, _, _, c_Void _ _ _, rfl, evs_cons (ev_gv rfl hg) evs_nil, rfl⟩) E88 (by decide) (fun _ h => h.sub (.refl _)) ?_; clear hs hf hS a; intro w a hs hS hf
    refine ggA hf hS (i := 22) rfl (by kernel_rfl) rfl rfl (gyes_t _) (fun hg w hs => g_not hf (ev_gv rfl hg)) (by decide) ?_; clear hf a; intro a hf
    refine gA hf hS (i := 23) rfl (by kernel_rfl) (fun w hs => g_and hf rfl rfl) (by decide) ?_; clear hf a; intro a hf
    refine gA hf hS (i := 24) rfl (by kernel_rfl) (fun w hs => g_as hf rfl) (by decide) ?_; clear hf a; intro a hf
    refine e_done (by kernel_rfl) ?_
    refine c_ret ?_
    refine e_ret1 hf rfl rfl ?_
    exact ⟨rfl, hs.below⟩

end Go.Proofs.YtpjhffockmnjbaaDoor
set_option linter.unusedVariables false
set_option linter.unusedSimpArgs false
namespace Go.Proofs.YtpjhffockmnjbaaDoor
open Go.RowKit
theorem c_over (b : Sheet) (fA : Option Addr) (fc : Nat) (rA : Option Addr) (rc : Nat) (i j : Int) (m : Bool) (hv : Valid b) (w0 : World) (h : ShIn b fA fc rA rc w0) :
    Calls Tryd.prog 95 #[.agg #[.int .i64 b.wide, .int .i64 b.high, .slice fA b.flaps.length fc, .slice rA b.rules.length rc], .int .i64 i, .int .i64 j, .bool m] w0 (Ret w0 (.bool (overB b i j m))) := by
  refine c_enter (n := 40) Tryd.func95 rfl rfl (Nat.le_of_ble_eq_true rfl) ?_; intro a hf; simp only [zipR] at hf
  have hs := St.start w0 [Rd encF 5 fA b.flaps.length b.flaps, Rd encR 2 rA b.rules.length b.rules] h.stab
  have hfm := h.F.2.1; have hrm := h.R.2.1
  refine c_reg ?_
  refine vL hf (v_boxA hf hs rfl) (by decide) ?_; clear hs hf a; rintro _ w ⟨b1, rfl, hs⟩ a hf
  refine gL hf (g_as hf rfl) (by decide) ?_; clear hf a; intro a hf
  refine e_nil ?_
  refine wp_seq ?_
  refine c_reg ?_
  refine gL hf (g_as hf rfl) (by decide) ?_; clear hf a; intro a hf
  refine e_nil ?_
  refine c_block ?_
  refine c_loop hf hs (List.range' 8 32) (σ := Nat) (fun k => [(9, .int .i64 (k : Nat))]) (fun k => _) (fun k => k ≤ b.rules.length ∧ ∀ z, z < k → ((b.rules.getD z default).over == i && (b.rules.getD z default).under == j) = false) (fun k => b.rules.length - k) 0 ⟨by omega, fun z hz => absurd hz (by omega)⟩ (.cons rfl .nil) rfl ?_
  intro k a w hJ hf hs
  obtain ⟨hk, hp⟩ := hJ
  refine wp_seq ?_
  refine c_reg ?_
  refine gL hf (g_mv hf rfl) (by decide) ?_; clear hf a; intro a hf
  refine gL hf (g_fa (off' := 3) hf F25_3 rfl rfl) (by decide) ?_; clear hf a; intro a hf
  refine gL hf (g_ld hf hs T23 rfl (k := 0) rfl rfl) (by decide) ?_; clear hf a; intro a hf
  refine gL hf (g_len hf SL23 rfl) (by decide) ?_; clear hf a; intro a hf
  refine gL hf (g_lss hf rfl rfl) (by decide) ?_; clear hf a; intro a hf
  refine e_nil ?_
  refine c_cond hf rfl (fun hc1 => ?_) (fun hc1 => ?_)
  · try simp only [decide_eq_true_eq, decide_eq_false_iff_not] at hc1
    refine c_skip (q_thenN ?_)
    refine c_blockS ?_
    refine c_reg ?_
    refine gL hf (g_fa (off' := 3) hf F25_3 rfl rfl) (by decide) ?_; clear hf a; intro a hf
    refine gL hf (g_ld hf hs T23 rfl (k := 0) rfl rfl) (by decide) ?_; clear hf a; intro a hf
    refine gL hf (g_mv hf rfl) (by decide) ?_; clear hf a; intro a hf
    (first | (refine gL hf (g_ixE hf hs (.tail _ (.head _)) SL23 rfl rfl (by omega)) (by decide) ?_) | (refine gL hf (g_ixD hf hs (.tail _ (.head _)) SL23 rfl rfl (by omega)) (by decide) ?_)); clear hf a; intro a hf
    refine gL hf (g_faD (j' := 0) hf hs (.tail _ (.head _)) F64_0 rfl (by omega) rfl) (by decide) ?_; clear hf a; intro a hf
    refine gL hf (g_ldE hf hs (.tail _ (.head _)) T3 rfl rfl (by omega)) (by decide) ?_; clear hf a; intro a hf
    refine gL hf (g_mv hf rfl) (by decide) ?_; clear hf a; intro a hf
    refine gL hf (g_eql hf rfl rfl) (by decide) ?_; clear hf a; intro a hf
    refine gL hf (g_mv hf rfl) (by decide) ?_; clear hf a; intro a hf
    refine ggL hf rfl rfl (gyes_t _) (fun hg => g_fa (off' := 3) hf F25_3 rfl rfl) (by decide) ?_; clear hf a; intro a hf
    refine ggL hf rfl rfl (gyes_t _) (fun hg => g_ld hf hs T23 (ev_gv rfl hg) (k := 0) rfl rfl) (by decide) ?_; clear hf a; intro a hf
    refine ggL hf rfl rfl (gyes_t _) (fun hg => g_mv hf rfl) (by decide) ?_; clear hf a; intro a hf
    (first | (refine ggL hf rfl rfl (gyes_t _) (fun hg => g_ixE hf hs (.tail _ (.head _)) SL23 (ev_gv rfl hg) (ev_gv rfl hg) (by omega)) (by decide) ?_) | (refine ggL hf rfl rfl (gyes_t _) (fun hg => g_ixD hf hs (.tail _ (.head _)) SL23 (ev_gv rfl hg) (ev_gv rfl hg) (by omega)) (by decide) ?_)); clear hf a; intro a hf
    refine ggL hf rfl rfl (gyes_t _) (fun hg => g_faD (j' := 1) hf hs (.tail _ (.head _)) F64_1 (ev_gv rfl hg) (by omega) rfl) (by decide) ?_; clear hf a; intro a hf
    refine ggL hf rfl rfl (gyes_t _) (fun hg => g_ldE hf hs (.tail _ (.head _)) T3 (ev_gv rfl hg) rfl (by omega)) (by decide) ?_; clear hf a; intro a hf
    refine ggL hf rfl rfl (gyes_t _) (fun hg => g_mv hf rfl) (by decide) ?_; clear hf a; intro a hf
    refine ggL hf rfl rfl (gyes_t _) (fun hg => g_eql hf (ev_gv rfl hg) (ev_gv rfl hg)) (by decide) ?_; clear hf a; intro a hf
    refine gL hf (g_and hf rfl rfl) (by decide) ?_; clear hf a; intro a hf
    refine e_nil ?_
    refine c_cond hf rfl (fun hc2 => ?_) (fun hc2 => ?_)
    · try simp only [decide_eq_true_eq, decide_eq_false_iff_not] at hc2
      have hr := hv.rule _ (getD_mem (l := b.rules) (i := k) (by omega))
      have he := overB_found (m := m) (by omega) hc2
      simp only [Bool.and_eq_true, beq_iff_eq] at hc2
      rw [hc2.1, hc2.2] at hr
      refine c_reg ?_
      refine gL hf (g_ldW hf hs T25 rfl (k := 0) rfl rfl) (by decide) ?_; clear hf a; intro a hf
      refine gL hf (g_mv hf rfl) (by decide) ?_; clear hf a; intro a hf
      refine gL hf (g_mv hf rfl) (by decide) ?_; clear hf a; intro a hf
      refine gL hf (g_mv hf rfl) (by decide) ?_; clear hf a; intro a hf
      refine callL hf hs (c_meet b _ _ _ _ _ _ _ hv (by omega) (by omega) _ ⟨hs.rd (.head _), hs.rd (.tail _ (.head _)), h.fc_, h.rc_⟩) rfl rfl rfl E57 (by decide) ?_; clear hs hf a; intro w a hs hf
      refine gL hf (g_as hf rfl) (by decide) ?_; clear hf a; intro a hf
      refine e_nil ?_
      refine c_ret (q_blkR (q_thenR (q_thenR (q_blkR (q_thenR ?_)))))
      refine e_ret1 hf rfl rfl ?_
      exact ⟨by rw [he], hs.below⟩
    · try simp only [decide_eq_true_eq, decide_eq_false_iff_not] at hc2
      refine c_skip (q_blkN (q_thenN ?_))
      refine c_reg1 ?_
      refine gL hf (g_mv hf rfl) (by decide) ?_; clear hf a; intro a hf
      refine gL hf (g_addI hf rfl rfl (by omega)) (by decide) ?_; clear hf a; intro a hf
      refine gL hf (g_as hf rfl) (by decide) ?_; clear hf a; intro a hf
      refine e_nil1 (q_thenN ?_)
      exact ⟨k + 1, ⟨by omega, lt_succ hp hc2⟩, (by omega), hf.back (by repeat (first | (with_reducible exact Ext.base) | ((with_reducible refine Ext.cons ?_ ?_); (· rfl)) | ((with_reducible refine Ext.over ?_ ?_ ?_); (· rfl); (· rfl)))) (allKeys rfl) (.cons rfl .nil), hs.dropN 0⟩
  · try simp only [decide_eq_true_eq, decide_eq_false_iff_not] at hc1
    refine c_exit (q_thenX (q_thenX (q_blkX (q_thenN ?_))))
    refine c_reg ?_
    refine gL hf (g_as hf rfl) (by decide) ?_; clear hf a; intro a hf
    refine e_nil ?_
    refine c_ret ?_
    refine e_ret1 hf rfl rfl ?_
    exact ⟨by rw [overB_none (fun z hz => hp z (by omega))], hs.below⟩

theorem c_doesR (b : Sheet) (fA : Option Addr) (fc : Nat) (rA : Option Addr) (rc : Nat) (oA : Option Addr) (oc : Nat) (l : List Int) (m : Bool) (hv : Valid b) (w0 : World) (h : ShIn b fA fc rA rc w0) (ho : Rd encI 1 oA l.length l w0) :
    Calls Tryd.prog 66 #[.agg #[.int .i64 b.wide, .int .i64 b.high, .slice fA b.flaps.length fc, .slice rA b.rules.length rc], .slice oA l.length oc, .bool m] w0 (Ret w0 (.bool (doesB b l m))) := by
  refine c_enter (n := 34) Tryd.func66 rfl rfl (Nat.le_of_ble_eq_true rfl) ?_; intro a hf; simp only [zipR] at hf
  have hs := St.start w0 [Rd encF 5 fA b.flaps.length b.flaps, Rd encR 2 rA b.rules.length b.rules, Rd encI 1 oA l.length l] (stab_app h.stab ho.st1)
  have hfm := h.F.2.1; have hrm := h.R.2.1; have hlm := ho.2.1
  refine c_reg ?_
  refine vL hf (v_boxA hf hs rfl) (by decide) ?_; clear hs hf a; rintro _ w ⟨b1, rfl, hs⟩ a hf
  refine gL hf (g_as hf rfl) (by decide) ?_; clear hf a; intro a hf
  refine e_nil ?_
  refine wp_seq ?_
  refine c_reg ?_
  refine gL hf (g_as hf rfl) (by decide) ?_; clear hf a; intro a hf
  refine e_nil ?_
  refine c_block ?_
  refine c_loop hf hs (List.range' 6 28) (σ := Nat) (fun i => [(7, .int .i64 (i : Nat))]) (fun i => _) (fun i => i ≤ l.length ∧ ∀ x, x < i → ∀ y, x < y → y < l.length → overB b (l.getD x default) (l.getD y default) m = false) (fun i => l.length - i) 0 ⟨by omega, fun z hz => absurd hz (by omega)⟩ (.cons rfl .nil) rfl ?_
  intro i a w hJ hf hs
  obtain ⟨hi, hp⟩ := hJ
  refine wp_seq ?_
  refine c_reg ?_
  refine gL hf (g_mv hf rfl) (by decide) ?_; clear hf a; intro a hf
  refine gL hf (g_mv hf rfl) (by decide) ?_; clear hf a; intro a hf
  refine gL hf (g_len hf SL27 rfl) (by decide) ?_; clear hf a; intro a hf
  refine gL hf (g_lss hf rfl rfl) (by decide) ?_; clear hf a; intro a hf
  refine e_nil ?_
  refine c_cond hf rfl (fun hc1 => ?_) (fun hc1 => ?_)
  · try simp only [decide_eq_true_eq, decide_eq_false_iff_not] at hc1
    refine c_skip (q_thenN ?_)
    refine c_blockS ?_
    refine c_reg ?_
    refine gL hf (g_mv hf rfl) (by decide) ?_; clear hf a; intro a hf
    refine gL hf (g_addI hf rfl rfl (by omega)) (by decide) ?_; clear hf a; intro a hf
    refine gL hf (g_as hf rfl) (by decide) ?_; clear hf a; intro a hf
    refine e_nil ?_
    refine c_block ?_
    refine c_loop hf hs [6, 8, 17, 18, 19, 20, 21, 22, 23, 24, 25, 26, 27, 28, 29, 30, 31, 32, 33] (σ := Nat) (fun k => [(8, .int .i64 (k : Nat))]) (fun k => _) (fun k => i + 1 ≤ k ∧ k ≤ l.length ∧ ∀ y, y < k → i < y → overB b (l.getD i default) (l.getD y default) m = false) (fun k => l.length - k) (i + 1) ⟨by omega, by omega, fun z hz hz2 => absurd hz (by omega)⟩ (.cons rfl .nil) rfl ?_
    intro k a w hJ hf hs
    obtain ⟨hk0, hk, hq⟩ := hJ
    refine wp_seq ?_
    refine c_reg ?_
    refine gL hf (g_mv hf rfl) (by decide) ?_; clear hf a; intro a hf
    refine gL hf (g_mv hf rfl) (by decide) ?_; clear hf a; intro a hf
    refine gL hf (g_len hf SL27 rfl) (by decide) ?_; clear hf a; intro a hf
    refine gL hf (g_lss hf rfl rfl) (by decide) ?_; clear hf a; intro a hf
    refine e_nil ?_
    refine c_cond hf rfl (fun hc2 => ?_) (fun hc2 => ?_)
    · try simp only [decide_eq_true_eq, decide_eq_false_iff_not] at hc2
      refine c_skip (q_thenN ?_)
      refine c_blockS ?_
      refine c_draw _ 11 Mx rfl hs (fun _ h => h) ?_; intro w hs hS
      refine gA hf hS (i := 0) rfl (by kernel_rfl) (fun w hs => g_ldW hf hs T25 rfl (k := 0) rfl rfl) (by decide) ?_; clear hf a; intro a hf
      refine gA hf hS (i := 1) rfl (by kernel_rfl) (fun w hs => g_mv hf rfl) (by decide) ?_; clear hf a; intro a hf
      refine gA hf hS (i := 2) rfl (by kernel_rfl) (fun w hs => g_mv hf rfl) (by decide) ?_; clear hf a; intro a hf
      (first | (refine gA hf hS (i := 3) rfl (by kernel_rfl) (fun w hs => g_ixE hf hs (.tail _ (.tail _ (.head _))) SL27 rfl rfl (by omega)) (by decide) ?_) | (refine gA hf hS (i := 3) rfl (by kernel_rfl) (fun w hs => g_ixD hf hs (.tail _ (.tail _ (.head _))) SL27 rfl rfl (by omega)) (by decide) ?_)); clear hf a; intro a hf
      refine gA hf hS (i := 4) rfl (by kernel_rfl) (fun w hs => g_ldE hf hs (.tail _ (.tail _ (.head _))) T3 rfl rfl (by omega)) (by decide) ?_; clear hf a; intro a hf
      refine gA hf hS (i := 5) rfl (by kernel_rfl) (fun w hs => g_mv hf rfl) (by decide) ?_; clear hf a; intro a hf
      refine gA hf hS (i := 6) rfl (by kernel_rfl) (fun w hs => g_mv hf rfl) (by decide) ?_; clear hf a; intro a hf
      (first | (refine gA hf hS (i := 7) rfl (by kernel_rfl) (fun w hs => g_ixE hf hs (.tail _ (.tail _ (.head _))) SL27 rfl rfl (by omega)) (by decide) ?_) | (refine gA hf hS (i := 7) rfl (by kernel_rfl) (fun w hs => g_ixD hf hs (.tail _ (.tail _ (.head _))) SL27 rfl rfl (by omega)) (by decide) ?_)); clear hf a; intro a hf
      refine gA hf hS (i := 8) rfl (by kernel_rfl) (fun w hs => g_ldE hf hs (.tail _ (.tail _ (.head _))) T3 rfl rfl (by omega)) (by decide) ?_; clear hf a; intro a hf
      refine gA hf hS (i := 9) rfl (by kernel_rfl) (fun w hs => g_mv hf rfl) (by decide) ?_; clear hf a; intro a hf
      refine one (i := 10) (by kernel_rfl) ?_
      refine oCall hf hs rfl (c_over b _ _ _ _ _ _ _ hv _ ⟨hs.rd (.head _), hs.rd (.tail _ (.head _)), h.fc_, h.rc_⟩) rfl rfl rfl E95 (by decide) (fun _ h => h.sub (.refl _)) ?_; clear hs hf hS a; intro w a hs hS hf
      refine e_done (by kernel_rfl) ?_
      refine c_cond hf rfl (fun hc3 => ?_) (fun hc3 => ?_)
      · try simp only [decide_eq_true_eq, decide_eq_false_iff_not] at hc3
        refine c_reg ?_
        refine gL hf (g_as hf rfl) (by decide) ?_; clear hf a; intro a hf
        refine e_nil ?_
        refine c_ret (q_blkR (q_thenR (q_thenR (q_blkR (q_blkR (q_thenR (q_thenR (q_blkR (q_thenR ?_)))))))))
        refine e_ret1 hf rfl rfl ?_
        exact ⟨by rw [doesB_no (by omega) (by omega) hc3], hs.below⟩
      · try simp only [decide_eq_true_eq, decide_eq_false_iff_not] at hc3
        refine c_skip (q_blkN (q_thenN ?_))
        refine c_reg1 ?_
        refine gL hf (g_mv hf rfl) (by decide) ?_; clear hf a; intro a hf
        refine gL hf (g_addI hf rfl rfl (by omega)) (by decide) ?_; clear hf a; intro a hf
        refine gL hf (g_as hf rfl) (by decide) ?_; clear hf a; intro a hf
        refine e_nil1 (q_thenN ?_)
        exact ⟨k + 1, ⟨by omega, by omega, lt_succ hq (fun _ => hc3)⟩, (by omega), hf.back (by repeat (first | (with_reducible exact Ext.base) | ((with_reducible refine Ext.cons ?_ ?_); (· rfl)) | ((with_reducible refine Ext.over ?_ ?_ ?_); (· rfl); (· rfl)))) (allKeys rfl) (.cons rfl .nil), hs.dropN 0⟩
    · try simp only [decide_eq_true_eq, decide_eq_false_iff_not] at hc2
      refine c_exit (q_thenX (q_thenX (q_blkX (q_blkN (q_thenN ?_)))))
      refine c_reg1 ?_
      refine gL hf (g_mv hf rfl) (by decide) ?_; clear hf a; intro a hf
      refine gL hf (g_addI hf rfl rfl (by omega)) (by decide) ?_; clear hf a; intro a hf
      refine gL hf (g_as hf rfl) (by decide) ?_; clear hf a; intro a hf
      refine e_nil1 (q_thenN ?_)
      exact ⟨i + 1, ⟨by omega, lt_succ hp (fun y h1 h2 => hq y (by omega) h1)⟩, (by omega), hf.back (by repeat (first | (with_reducible exact Ext.base) | ((with_reducible refine Ext.cons ?_ ?_); (· rfl)) | ((with_reducible refine Ext.over ?_ ?_ ?_); (· rfl); (· rfl)))) (allKeys rfl) (.cons rfl .nil), hs.dropN 0⟩
  · try simp only [decide_eq_true_eq, decide_eq_false_iff_not] at hc1
    refine c_exit (q_thenX (q_thenX (q_blkX (q_thenN ?_))))
    refine c_reg ?_
    refine gL hf (g_as hf rfl) (by decide) ?_; clear hf a; intro a hf
    refine e_nil ?_
    refine c_ret ?_
    refine e_ret1 hf rfl rfl ?_
    exact ⟨by rw [doesB_yes (fun x hx => hp x (by omega))], hs.below⟩

theorem c_CheckR (b : Sheet) (fA : Option Addr) (fc : Nat) (rA : Option Addr) (rc : Nat)  (w0 : World) (h : ShIn b fA fc rA rc w0) :
    Calls Tryd.prog 18 #[.agg #[.int .i64 b.wide, .int .i64 b.high, .slice fA b.flaps.length fc, .slice rA b.rules.length rc]] w0 (Ret w0 (.int .i64 (if checkB b then 0 else 40))) := by
  refine c_enter (n := 94) Tryd.func18 rfl rfl (Nat.le_of_ble_eq_true rfl) ?_; intro a hf; simp only [zipR] at hf
  have hs := St.start w0 [Rd encF 5 fA b.flaps.length b.flaps, Rd encR 2 rA b.rules.length b.rules] h.stab
  have hfm := h.F.2.1; have hrm := h.R.2.1
  refine c_reg ?_
  refine vL hf (v_boxA hf hs rfl) (by decide) ?_; clear hs hf a; rintro _ w ⟨b1, rfl, hs⟩ a hf
  refine gL hf (g_as hf rfl) (by decide) ?_; clear hf a; intro a hf
  refine e_nil ?_
  refine c_reg ?_
  refine gL hf (g_fa (off' := 0) hf F25_0 rfl rfl) (by decide) ?_; clear hf a; intro a hf
  refine gL hf (g_ld hf hs T3 rfl (k := 0) rfl rfl) (by decide) ?_; clear hf a; intro a hf
  refine callL hf hs (c_Fits _ _ _ _) rfl rfl rfl E39 (by decide) ?_; clear hs hf a; intro w a hs hf
  refine gL hf (g_mv hf rfl) (by decide) ?_; clear hf a; intro a hf
  refine ggL hf rfl rfl (gyes_t _) (fun hg => g_fa (off' := 1) hf F25_1 rfl rfl) (by decide) ?_; clear hf a; intro a hf
  refine ggL hf rfl rfl (gyes_t _) (fun hg => g_ld hf hs T3 (ev_gv rfl hg) (k := 0) rfl rfl) (by decide) ?_; clear hf a; intro a hf
  refine callG hf hs rfl rfl (gyes_t _) (fun hg => ⟨_, _, _, _, c_Fits _ _ _ _, rfl, evs_cons (ev_gv rfl hg) (evs_cons rfl (evs_cons rfl evs_nil)), rfl⟩) E39 (by decide) ?_; clear hs hf a; intro w a hs hf
  refine gL hf (g_and hf rfl rfl) (by decide) ?_; clear hf a; intro a hf
  refine gL hf (g_mv hf rfl) (by decide) ?_; clear hf a; intro a hf
  refine ggL hf rfl rfl (gyes_t _) (fun hg => g_fa (off' := 2) hf F25_2 rfl rfl) (by decide) ?_; clear hf a; intro a hf
  refine ggL hf rfl rfl (gyes_t _) (fun hg => g_ld hf hs T22 (ev_gv rfl hg) (k := 0) rfl rfl) (by decide) ?_; clear hf a; intro a hf
  refine ggL hf rfl rfl (gyes_t _) (fun hg => g_len hf SL22 (ev_gv rfl hg)) (by decide) ?_; clear hf a; intro a hf
  refine callG hf hs rfl rfl (gyes_t _) (fun hg => ⟨_, _, _, _, c_Fits _ _ _ _, rfl, evs_cons (ev_gv rfl hg) (evs_cons rfl (evs_cons rfl evs_nil)), rfl⟩) E39 (by decide) ?_; clear hs hf a; intro w a hs hf
  refine gL hf (g_and hf rfl rfl) (by decide) ?_; clear hf a; intro a hf
  refine gL hf (g_mv hf rfl) (by decide) ?_; clear hf a; intro a hf
  refine ggL hf rfl rfl (gyes_t _) (fun hg => g_fa (off' := 3) hf F25_3 rfl rfl) (by decide) ?_; clear hf a; intro a hf
  refine ggL hf rfl rfl (gyes_t _) (fun hg => g_ld hf hs T23 (ev_gv rfl hg) (k := 0) rfl rfl) (by decide) ?_; clear hf a; intro a hf
  refine ggL hf rfl rfl (gyes_t _) (fun hg => g_len hf SL23 (ev_gv rfl hg)) (by decide) ?_; clear hf a; intro a hf
  refine ggL hf rfl rfl (gyes_t _) (fun hg => g_leq hf (ev_gv rfl hg) rfl) (by decide) ?_; clear hf a; intro a hf
  refine gL hf (g_and hf rfl rfl) (by decide) ?_; clear hf a; intro a hf
  refine gL hf (g_as hf rfl) (by decide) ?_; clear hf a; intro a hf
  refine e_nil ?_
  refine wp_seq ?_
  refine c_reg ?_
  refine gL hf (g_as hf rfl) (by decide) ?_; clear hf a; intro a hf
  refine e_nil ?_
  refine c_block ?_
  have e0 : (fitsB b.wide 1 99 && fitsB b.high 1 99 && fitsB (b.flaps.length : Int) 1 7 && decide ((b.rules.length : Int) ≤ 10)) = okF b 0 := by simp [okF, baseOK]
  rw [e0] at hf
  refine c_loop hf hs [3, 4, 28, 29, 30, 31, 32, 33, 34, 35, 36, 37, 38, 39, 40, 41, 42, 43, 44] (σ := Nat) (fun k => [(3, .bool (okF b k)), (4, .int .i64 (k : Nat))]) (fun k => _) (fun k => k ≤ b.flaps.length) (fun k => b.flaps.length - k) 0 (by omega) (.cons rfl (.cons rfl .nil)) rfl ?_
  intro k a w hJ hf hs
  refine wp_seq ?_
  refine c_reg ?_
  refine gL hf (g_mv hf rfl) (by decide) ?_; clear hf a; intro a hf
  refine gL hf (g_mv hf rfl) (by decide) ?_; clear hf a; intro a hf
  refine ggL hf rfl rfl (gyes_t _) (fun hg => g_mv hf rfl) (by decide) ?_; clear hf a; intro a hf
  refine ggL hf rfl rfl (gyes_t _) (fun hg => g_fa (off' := 2) hf F25_2 rfl rfl) (by decide) ?_; clear hf a; intro a hf
  refine ggL hf rfl rfl (gyes_t _) (fun hg => g_ld hf hs T22 (ev_gv rfl hg) (k := 0) rfl rfl) (by decide) ?_; clear hf a; intro a hf
  refine ggL hf rfl rfl (gyes_t _) (fun hg => g_len hf SL22 (ev_gv rfl hg)) (by decide) ?_; clear hf a; intro a hf
  refine ggL hf rfl rfl (gyes_t _) (fun hg => g_lss hf (ev_gv rfl hg) (ev_gv rfl hg)) (by decide) ?_; clear hf a; intro a hf
  refine gL hf (g_and hf rfl rfl) (by decide) ?_; clear hf a; intro a hf
  refine e_nil ?_
  refine c_cond hf rfl (fun hc1 => ?_) (fun hc1 => ?_)
  · try simp only [decide_eq_true_eq, decide_eq_false_iff_not] at hc1
    simp only [Bool.and_eq_true, decide_eq_true_eq] at hc1
    have hb := okF_base hc1.1
    refine c_skip (q_thenN ?_)
    refine c_blockS ?_
    refine c_draw1 _ 8 Mx rfl hs (fun _ h => h) ?_; intro w hs hS
    refine gA hf hS (i := 0) rfl (by kernel_rfl) (fun w hs => g_ldW hf hs T25 rfl (k := 0) rfl rfl) (by decide) ?_; clear hf a; intro a hf
    refine gA hf hS (i := 1) rfl (by kernel_rfl) (fun w hs => g_fa (off' := 2) hf F25_2 rfl rfl) (by decide) ?_; clear hf a; intro a hf
    refine gA hf hS (i := 2) rfl (by kernel_rfl) (fun w hs => g_ld hf hs T22 rfl (k := 0) rfl rfl) (by decide) ?_; clear hf a; intro a hf
    refine gA hf hS (i := 3) rfl (by kernel_rfl) (fun w hs => g_mv hf rfl) (by decide) ?_; clear hf a; intro a hf
    (first | (refine gA hf hS (i := 4) rfl (by kernel_rfl) (fun w hs => g_ixE hf hs (.head _) SL22 rfl rfl (by omega)) (by decide) ?_) | (refine gA hf hS (i := 4) rfl (by kernel_rfl) (fun w hs => g_ixD hf hs (.head _) SL22 rfl rfl (by omega)) (by decide) ?_)); clear hf a; intro a hf
    refine gA hf hS (i := 5) rfl (by kernel_rfl) (fun w hs => g_ldEW hf hs (.head _) T49 rfl rfl (by omega)) (by decide) ?_; clear hf a; intro a hf
    refine one (i := 6) (by kernel_rfl) ?_
    refine oCall hf hs rfl (c_isRight b _ _ _ _ _ (by omega) (by omega) _ ⟨hs.rd (.head _), hs.rd (.tail _ (.head _)), h.fc_, h.rc_⟩) rfl rfl rfl E61 (by decide) (fun _ h => h.sub (.refl _)) ?_; clear hs hf hS a; intro w a hs hS hf
    refine gA hf hS (i := 7) rfl (by kernel_rfl) (fun w hs => g_as hf rfl) (by decide) ?_; clear hf a; intro a hf
    refine e_done1 (by kernel_rfl) ?_
    refine q_blkN (q_thenN ?_)
    refine c_reg1 ?_
    refine gL hf (g_mv hf rfl) (by decide) ?_; clear hf a; intro a hf
    refine gL hf (g_addI hf rfl rfl (by omega)) (by decide) ?_; clear hf a; intro a hf
    refine gL hf (g_as hf rfl) (by decide) ?_; clear hf a; intro a hf
    refine e_nil1 (q_thenN ?_)
    have e1 := okF_succ (b := b) (k := k) (by omega); rw [hc1.1, Bool.true_and] at e1; rw [← e1] at hf
    exact ⟨k + 1, (by omega), (by omega), hf.back (by repeat (first | (with_reducible exact Ext.base) | ((with_reducible refine Ext.cons ?_ ?_); (· rfl)) | ((with_reducible refine Ext.over ?_ ?_ ?_); (· rfl); (· rfl)))) (allKeys rfl) (.cons rfl (.cons rfl .nil)), hs.dropN 0⟩
  · try simp only [decide_eq_true_eq, decide_eq_false_iff_not] at hc1
    refine c_exit (q_thenX (q_thenX (q_blkX (q_thenN ?_))))
    refine wp_seq ?_
    refine c_reg ?_
    refine gL hf (g_as hf rfl) (by decide) ?_; clear hf a; intro a hf
    refine e_nil ?_
    refine c_block ?_
    have e2 := okF_stop (by omega) hc1; rw [e2, show okF b b.flaps.length = okR b 0 by simp [okR]] at hf
    refine c_loop hf hs (List.range' 3 1 ++ List.range' 5 3 ++ List.range' 45 47) (σ := Nat) (fun i => [(3, .bool (okR b i)), (5, .int .i64 (i : Nat))]) (fun i => _) (fun i => i ≤ b.rules.length) (fun i => b.rules.length - i) 0 (by omega) (.cons rfl (.cons rfl .nil)) rfl ?_
    intro i a w hJ hf hs
    refine wp_seq ?_
    refine c_reg ?_
    refine gL hf (g_mv hf rfl) (by decide) ?_; clear hf a; intro a hf
    refine gL hf (g_mv hf rfl) (by decide) ?_; clear hf a; intro a hf
    refine ggL hf rfl rfl (gyes_t _) (fun hg => g_mv hf rfl) (by decide) ?_; clear hf a; intro a hf
    refine ggL hf rfl rfl (gyes_t _) (fun hg => g_fa (off' := 3) hf F25_3 rfl rfl) (by decide) ?_; clear hf a; intro a hf
    refine ggL hf rfl rfl (gyes_t _) (fun hg => g_ld hf hs T23 (ev_gv rfl hg) (k := 0) rfl rfl) (by decide) ?_; clear hf a; intro a hf
    refine ggL hf rfl rfl (gyes_t _) (fun hg => g_len hf SL23 (ev_gv rfl hg)) (by decide) ?_; clear hf a; intro a hf
    refine ggL hf rfl rfl (gyes_t _) (fun hg => g_lss hf (ev_gv rfl hg) (ev_gv rfl hg)) (by decide) ?_; clear hf a; intro a hf
    refine gL hf (g_and hf rfl rfl) (by decide) ?_; clear hf a; intro a hf
    refine e_nil ?_
    refine c_cond hf rfl (fun hc2 => ?_) (fun hc2 => ?_)
    · try simp only [decide_eq_true_eq, decide_eq_false_iff_not] at hc2
      simp only [Bool.and_eq_true, decide_eq_true_eq] at hc2
      refine c_skip (q_thenN ?_)
      refine c_blockS ?_
      refine c_reg ?_
      refine gL hf (g_fa (off' := 3) hf F25_3 rfl rfl) (by decide) ?_; clear hf a; intro a hf
      refine gL hf (g_ld hf hs T23 rfl (k := 0) rfl rfl) (by decide) ?_; clear hf a; intro a hf
      refine gL hf (g_mv hf rfl) (by decide) ?_; clear hf a; intro a hf
      (first | (refine gL hf (g_ixE hf hs (.tail _ (.head _)) SL23 rfl rfl (by omega)) (by decide) ?_) | (refine gL hf (g_ixD hf hs (.tail _ (.head _)) SL23 rfl rfl (by omega)) (by decide) ?_)); clear hf a; intro a hf
      refine gL hf (g_ldEW hf hs (.tail _ (.head _)) T64 rfl rfl (by omega)) (by decide) ?_; clear hf a; intro a hf
      refine vL hf (v_alloc hs T64 rfl) (by decide) ?_; clear hs hf a; rintro _ w ⟨b2, rfl, hs⟩ a hf
      refine uL (u_stW hf hs T64 rfl rfl rfl (k := 0) rfl rfl rfl) ?_; clear hs; intro w hs; dsimp only [List.set] at hs
      refine e_nil ?_
      refine c_reg ?_
      refine gL hf (g_ldW hf hs T25 rfl (k := 1) rfl rfl) (by decide) ?_; clear hf a; intro a hf
      refine gL hf (g_fa (off' := 0) hf F64_0 rfl rfl) (by decide) ?_; clear hf a; intro a hf
      refine gL hf (g_ld hf hs T3 rfl (k := 0) rfl rfl) (by decide) ?_; clear hf a; intro a hf
      refine callL hf hs (c_isFlapR _ _ _ _ _ _ _ _ _ (by omega) _) rfl rfl rfl E56 (by decide) ?_; clear hs hf a; intro w a hs hf
      refine gL hf (g_mv hf rfl) (by decide) ?_; clear hf a; intro a hf
      refine ggL hf rfl rfl (gyes_t _) (fun hg => g_ldW hf hs T25 rfl (k := 1) rfl rfl) (by decide) ?_; clear hf a; intro a hf
      refine ggL hf rfl rfl (gyes_t _) (fun hg => g_fa (off' := 1) hf F64_1 rfl rfl) (by decide) ?_; clear hf a; intro a hf
      refine ggL hf rfl rfl (gyes_t _) (fun hg => g_ld hf hs T3 (ev_gv rfl hg) (k := 0) rfl rfl) (by decide) ?_; clear hf a; intro a hf
      refine callG hf hs rfl rfl (gyes_t _) (fun hg => ⟨_, _, _, _, c_isFlapR _ _ _ _ _ _ _ _ _ (by omega) _, rfl, evs_cons (ev_gv rfl hg) (evs_cons (ev_gv rfl hg) evs_nil), rfl⟩) E56 (by decide) ?_; clear hs hf a; intro w a hs hf
      refine gL hf (g_and hf rfl rfl) (by decide) ?_; clear hf a; intro a hf
      refine gL hf (g_mv hf rfl) (by decide) ?_; clear hf a; intro a hf
      refine ggL hf rfl rfl (gyes_t _) (fun hg => g_fa (off' := 0) hf F64_0 rfl rfl) (by decide) ?_; clear hf a; intro a hf
      refine ggL hf rfl rfl (gyes_t _) (fun hg => g_ld hf hs T3 (ev_gv rfl hg) (k := 0) rfl rfl) (by decide) ?_; clear hf a; intro a hf
      refine ggL hf rfl rfl (gyes_t _) (fun hg => g_fa (off' := 1) hf F64_1 rfl rfl) (by decide) ?_; clear hf a; intro a hf
      refine ggL hf rfl rfl (gyes_t _) (fun hg => g_ld hf hs T3 (ev_gv rfl hg) (k := 0) rfl rfl) (by decide) ?_; clear hf a; intro a hf
      refine ggL hf rfl rfl (gyes_t _) (fun hg => g_neq hf (ev_gv rfl hg) (ev_gv rfl hg)) (by decide) ?_; clear hf a; intro a hf
      refine gL hf (g_and hf rfl rfl) (by decide) ?_; clear hf a; intro a hf
      refine gL hf (g_as hf rfl) (by decide) ?_; clear hf a; intro a hf
      refine e_nil ?_
      refine c_reg ?_
      refine gL hf (g_as hf rfl) (by decide) ?_; clear hf a; intro a hf
      refine e_nil ?_
      refine c_block ?_
      have e5 := okS_zero (b := b) (i := i); have e6 : (flapB b.flaps.length (b.rules.getD i default).over && flapB b.flaps.length (b.rules.getD i default).under && (b.rules.getD i default).over != (b.rules.getD i default).under) = okS b i 0 := by rw [e5]; rfl
      rw [e6] at hf
      refine c_loop hf hs [3, 7, 77, 78, 79, 80, 81, 82, 83, 84, 85, 86, 87, 88, 89, 90, 91] (σ := Nat) (fun m => [(3, .bool (okS b i m)), (7, .int .i64 (m : Nat))]) (fun m => _) (fun m => m ≤ i) (fun m => i - m) 0 (by omega) (.cons rfl (.cons rfl .nil)) rfl ?_
      intro m a w hJ hf hs
      refine wp_seq ?_
      refine c_reg ?_
      refine gL hf (g_mv hf rfl) (by decide) ?_; clear hf a; intro a hf
      refine gL hf (g_mv hf rfl) (by decide) ?_; clear hf a; intro a hf
      refine ggL hf rfl rfl (gyes_t _) (fun hg => g_mv hf rfl) (by decide) ?_; clear hf a; intro a hf
      refine ggL hf rfl rfl (gyes_t _) (fun hg => g_mv hf rfl) (by decide) ?_; clear hf a; intro a hf
      refine ggL hf rfl rfl (gyes_t _) (fun hg => g_lss hf (ev_gv rfl hg) (ev_gv rfl hg)) (by decide) ?_; clear hf a; intro a hf
      refine gL hf (g_and hf rfl rfl) (by decide) ?_; clear hf a; intro a hf
      refine e_nil ?_
      refine c_cond hf rfl (fun hc3 => ?_) (fun hc3 => ?_)
      · try simp only [decide_eq_true_eq, decide_eq_false_iff_not] at hc3
        simp only [Bool.and_eq_true, decide_eq_true_eq] at hc3
        refine c_skip (q_thenN ?_)
        refine c_blockS ?_
        refine c_draw1 _ 8 Mx rfl hs (fun _ h => h) ?_; intro w hs hS
        refine gA hf hS (i := 0) rfl (by kernel_rfl) (fun w hs => g_fa (off' := 3) hf F25_3 rfl rfl) (by decide) ?_; clear hf a; intro a hf
        refine gA hf hS (i := 1) rfl (by kernel_rfl) (fun w hs => g_ld hf hs T23 rfl (k := 1) rfl rfl) (by decide) ?_; clear hf a; intro a hf
        refine gA hf hS (i := 2) rfl (by kernel_rfl) (fun w hs => g_mv hf rfl) (by decide) ?_; clear hf a; intro a hf
        (first | (refine gA hf hS (i := 3) rfl (by kernel_rfl) (fun w hs => g_ixE hf hs (.tail _ (.head _)) SL23 rfl rfl (by omega)) (by decide) ?_) | (refine gA hf hS (i := 3) rfl (by kernel_rfl) (fun w hs => g_ixD hf hs (.tail _ (.head _)) SL23 rfl rfl (by omega)) (by decide) ?_)); clear hf a; intro a hf
        refine gA hf hS (i := 4) rfl (by kernel_rfl) (fun w hs => g_ldEW hf hs (.tail _ (.head _)) T64 rfl rfl (by omega)) (by decide) ?_; clear hf a; intro a hf
        refine gA hf hS (i := 5) rfl (by kernel_rfl) (fun w hs => g_ldW hf hs T64 rfl (k := 0) rfl rfl) (by decide) ?_; clear hf a; intro a hf
        refine gA hf hS (i := 6) rfl (by kernel_rfl) (fun w hs => g_neS hf Q64 rfl rfl) (by decide) ?_; clear hf a; intro a hf
        refine gA hf hS (i := 7) rfl (by kernel_rfl) (fun w hs => g_as hf rfl) (by decide) ?_; clear hf a; intro a hf
        refine e_done1 (by kernel_rfl) ?_
        refine q_blkN (q_thenN ?_)
        refine c_reg1 ?_
        refine gL hf (g_mv hf rfl) (by decide) ?_; clear hf a; intro a hf
        refine gL hf (g_addI hf rfl rfl (by omega)) (by decide) ?_; clear hf a; intro a hf
        refine gL hf (g_as hf rfl) (by decide) ?_; clear hf a; intro a hf
        refine e_nil1 (q_thenN ?_)
        have e7 := okS_succ (b := b) (i := i) (m := m) (by omega); rw [hc3.1, Bool.true_and, sameR_comm] at e7; rw [show (!((b.rules.getD m default).over == (b.rules.getD i default).over && (b.rules.getD m default).under == (b.rules.getD i default).under)) = okS b i (m + 1) from e7.symm] at hf
        exact ⟨m + 1, (by omega), (by omega), hf.back (by repeat (first | (with_reducible exact Ext.base) | ((with_reducible refine Ext.cons ?_ ?_); (· rfl)) | ((with_reducible refine Ext.over ?_ ?_ ?_); (· rfl); (· rfl)))) (allKeys rfl) (.cons rfl (.cons rfl .nil)), hs.dropN 0⟩
      · try simp only [decide_eq_true_eq, decide_eq_false_iff_not] at hc3
        refine c_exit (q_thenX (q_thenX (q_blkX (q_blkN (q_thenN ?_)))))
        refine c_reg1 ?_
        refine gL hf (g_mv hf rfl) (by decide) ?_; clear hf a; intro a hf
        refine gL hf (g_addI hf rfl rfl (by omega)) (by decide) ?_; clear hf a; intro a hf
        refine gL hf (g_as hf rfl) (by decide) ?_; clear hf a; intro a hf
        refine e_nil1 (q_thenN ?_)
        have e3 := okS_stop (by omega) hc3; rw [e3] at hf; have e4 := okR_succ (b := b) (i := i); rw [hc2.1, Bool.true_and] at e4; rw [← e4] at hf
        exact ⟨i + 1, (by omega), (by omega), hf.back (by repeat (first | (with_reducible exact Ext.base) | ((with_reducible refine Ext.cons ?_ ?_); (· rfl)) | ((with_reducible refine Ext.over ?_ ?_ ?_); (· rfl); (· rfl)))) (allKeys rfl) (.cons rfl (.cons rfl .nil)), hs.dropN 1⟩
    · try simp only [decide_eq_true_eq, decide_eq_false_iff_not] at hc2
      rw [okR_stop (by omega) hc2] at hf
      refine c_exit (q_thenX (q_thenX (q_blkX (q_thenN ?_))))
      refine wp_seq ?_
      refine c_reg ?_
      refine gL hf (g_mv hf rfl) (by decide) ?_; clear hf a; intro a hf
      refine gL hf (g_not hf rfl) (by decide) ?_; clear hf a; intro a hf
      refine e_nil ?_
      refine c_cond hf rfl (fun hc4 => ?_) (fun hc4 => ?_)
      · try simp only [decide_eq_true_eq, decide_eq_false_iff_not] at hc4
        refine c_reg ?_
        refine gL hf (g_as hf rfl) (by decide) ?_; clear hf a; intro a hf
        refine e_nil ?_
        refine c_ret (q_thenR ?_)
        refine e_ret1 hf rfl rfl ?_
        exact ⟨by rw [show checkB b = false by simpa using hc4]; rfl, hs.below⟩
      · try simp only [decide_eq_true_eq, decide_eq_false_iff_not] at hc4
        refine c_skip (q_thenN ?_)
        refine c_reg ?_
        refine gL hf (g_as hf rfl) (by decide) ?_; clear hf a; intro a hf
        refine e_nil ?_
        refine c_ret ?_
        refine e_ret1 hf rfl rfl ?_
        exact ⟨by rw [show checkB b = true by simpa using hc4]; rfl, hs.below⟩

end Go.Proofs.YtpjhffockmnjbaaDoor
set_option linter.unusedVariables false
set_option linter.unusedSimpArgs false
namespace Go.Proofs.YtpjhffockmnjbaaDoor
open Go.RowKit
theorem c_Alike (Ax : Option Addr) (cx : Nat) (x : List Int) (Ay : Option Addr) (cy : Nat) (y : List Int)  (w0 : World) (hx : Rd encI 1 Ax x.length x w0) (hy : Rd encI 1 Ay y.length y w0) :
    Calls Tryd.prog 24 #[.slice Ax x.length cx, .slice Ay y.length cy] w0 (Ret w0 (.bool (decide (x = y)))) := by
  refine c_enter (n := 26) Tryd.func24 rfl rfl (Nat.le_of_ble_eq_true rfl) ?_; intro a hf; simp only [zipR] at hf
  have hs := St.start w0 [Rd encI 1 Ax x.length x, Rd encI 1 Ay y.length y] (stab_app hx.st1 hy.st1)
  have hmx := hx.2.1
  have hmy := hy.2.1
  refine c_reg ?_
  refine gL hf (g_as hf rfl) (by decide) ?_; clear hf a; intro a hf
  refine e_nil ?_
  refine wp_seq ?_
  refine c_reg ?_
  refine gL hf (g_mv hf rfl) (by decide) ?_; clear hf a; intro a hf
  refine gL hf (g_len hf SL27 rfl) (by decide) ?_; clear hf a; intro a hf
  refine gL hf (g_mv hf rfl) (by decide) ?_; clear hf a; intro a hf
  refine gL hf (g_len hf SL27 rfl) (by decide) ?_; clear hf a; intro a hf
  refine gL hf (g_neq hf rfl rfl) (by decide) ?_; clear hf a; intro a hf
  refine e_nil ?_
  refine c_cond hf rfl (fun hc1 => ?_) (fun hc1 => ?_)
  · try simp only [decide_eq_true_eq, decide_eq_false_iff_not] at hc1
    refine c_reg ?_
    refine gL hf (g_as hf rfl) (by decide) ?_; clear hf a; intro a hf
    refine e_nil ?_
    refine c_ret (q_thenR ?_)
    refine e_ret1 hf rfl rfl ?_
    exact ⟨by rw [decide_eq_false]; intro e; subst e; simp at hc1, hs.below⟩
  · try simp only [decide_eq_true_eq, decide_eq_false_iff_not] at hc1
    have he : x.length = y.length := by simp at hc1; omega
    refine c_skip (q_thenN ?_)
    refine wp_seq ?_
    refine c_reg ?_
    refine gL hf (g_as hf rfl) (by decide) ?_; clear hf a; intro a hf
    refine e_nil ?_
    refine c_block ?_
    refine c_loop hf hs [4, 5, 11, 12, 13, 14, 15, 16, 17, 18, 19, 20, 21, 22, 23, 24, 25] (σ := Nat) (fun k => [(5, .int .i64 (k : Nat))]) (fun k => _) (fun k => k ≤ x.length ∧ ∀ j, j < k → x.getD j default = y.getD j default) (fun k => x.length - k) 0 ⟨by omega, fun z hz => absurd hz (by omega)⟩ (.cons rfl .nil) rfl ?_
    intro k a w hJ hf hs
    obtain ⟨hk, hp⟩ := hJ
    refine wp_seq ?_
    refine c_reg ?_
    refine gL hf (g_mv hf rfl) (by decide) ?_; clear hf a; intro a hf
    refine gL hf (g_mv hf rfl) (by decide) ?_; clear hf a; intro a hf
    refine gL hf (g_len hf SL27 rfl) (by decide) ?_; clear hf a; intro a hf
    refine gL hf (g_lss hf rfl rfl) (by decide) ?_; clear hf a; intro a hf
    refine e_nil ?_
    refine c_cond hf rfl (fun hc2 => ?_) (fun hc2 => ?_)
    · try simp only [decide_eq_true_eq, decide_eq_false_iff_not] at hc2
      refine c_skip (q_thenN ?_)
      refine c_blockS ?_
      refine c_draw _ 9 Mx rfl hs (fun _ h => h) ?_; intro w hs hS
      refine gA hf hS (i := 0) rfl (by kernel_rfl) (fun w hs => g_mv hf rfl) (by decide) ?_; clear hf a; intro a hf
      refine gA hf hS (i := 1) rfl (by kernel_rfl) (fun w hs => g_mv hf rfl) (by decide) ?_; clear hf a; intro a hf
      (first | (refine gA hf hS (i := 2) rfl (by kernel_rfl) (fun w hs => g_ixE hf hs (.head _) SL27 rfl rfl (by omega)) (by decide) ?_) | (refine gA hf hS (i := 2) rfl (by kernel_rfl) (fun w hs => g_ixD hf hs (.head _) SL27 rfl rfl (by omega)) (by decide) ?_)); clear hf a; intro a hf
      refine gA hf hS (i := 3) rfl (by kernel_rfl) (fun w hs => g_ldE hf hs (.head _) T3 rfl rfl (by omega)) (by decide) ?_; clear hf a; intro a hf
      refine gA hf hS (i := 4) rfl (by kernel_rfl) (fun w hs => g_mv hf rfl) (by decide) ?_; clear hf a; intro a hf
      refine gA hf hS (i := 5) rfl (by kernel_rfl) (fun w hs => g_mv hf rfl) (by decide) ?_; clear hf a; intro a hf
      (first | (refine gA hf hS (i := 6) rfl (by kernel_rfl) (fun w hs => g_ixE hf hs (.tail _ (.head _)) SL27 rfl rfl (by omega)) (by decide) ?_) | (refine gA hf hS (i := 6) rfl (by kernel_rfl) (fun w hs => g_ixD hf hs (.tail _ (.head _)) SL27 rfl rfl (by omega)) (by decide) ?_)); clear hf a; intro a hf
      refine gA hf hS (i := 7) rfl (by kernel_rfl) (fun w hs => g_ldE hf hs (.tail _ (.head _)) T3 rfl rfl (by omega)) (by decide) ?_; clear hf a; intro a hf
      refine gA hf hS (i := 8) rfl (by kernel_rfl) (fun w hs => g_neq hf rfl rfl) (by decide) ?_; clear hf a; intro a hf
      refine e_done (by kernel_rfl) ?_
      refine c_cond hf rfl (fun hc3 => ?_) (fun hc3 => ?_)
      · try simp only [decide_eq_true_eq, decide_eq_false_iff_not] at hc3
        refine c_reg ?_
        refine gL hf (g_as hf rfl) (by decide) ?_; clear hf a; intro a hf
        refine e_nil ?_
        refine c_ret (q_blkR (q_thenR (q_thenR (q_blkR (q_thenR ?_)))))
        refine e_ret1 hf rfl rfl ?_
        exact ⟨by rw [decide_eq_false]; intro e; subst e; simp at hc3, hs.below⟩
      · try simp only [decide_eq_true_eq, decide_eq_false_iff_not] at hc3
        refine c_skip (q_blkN (q_thenN ?_))
        refine c_reg1 ?_
        refine gL hf (g_mv hf rfl) (by decide) ?_; clear hf a; intro a hf
        refine gL hf (g_addI hf rfl rfl (by omega)) (by decide) ?_; clear hf a; intro a hf
        refine gL hf (g_as hf rfl) (by decide) ?_; clear hf a; intro a hf
        refine e_nil1 (q_thenN ?_)
        exact ⟨k + 1, ⟨by omega, lt_succ hp (by simpa using hc3)⟩, (by omega), hf.back (by repeat (first | (with_reducible exact Ext.base) | ((with_reducible refine Ext.cons ?_ ?_); (· rfl)) | ((with_reducible refine Ext.over ?_ ?_ ?_); (· rfl); (· rfl)))) (allKeys rfl) (.cons rfl .nil), hs.dropN 0⟩
    · try simp only [decide_eq_true_eq, decide_eq_false_iff_not] at hc2
      refine c_exit (q_thenX (q_thenX (q_blkX (q_thenN ?_))))
      refine c_reg ?_
      refine gL hf (g_as hf rfl) (by decide) ?_; clear hf a; intro a hf
      refine e_nil ?_
      refine c_ret ?_
      refine e_ret1 hf rfl rfl ?_
      exact ⟨by rw [decide_eq_true (list_eq_of_getD he fun j hj => hp j (by omega))], hs.below⟩

theorem c_Earlier (Ax : Option Addr) (cx : Nat) (x : List Int) (Ay : Option Addr) (cy : Nat) (y : List Int)  (w0 : World) (hx : Rd encI 1 Ax x.length x w0) (hy : Rd encI 1 Ay y.length y w0) :
    Calls Tryd.prog 43 #[.slice Ax x.length cx, .slice Ay y.length cy] w0 (Ret w0 (.bool (earlierB x y))) := by
  refine c_enter (n := 41) Tryd.func43 rfl rfl (Nat.le_of_ble_eq_true rfl) ?_; intro a hf; simp only [zipR] at hf
  have hs := St.start w0 [Rd encI 1 Ax x.length x, Rd encI 1 Ay y.length y] (stab_app hx.st1 hy.st1)
  have hmx := hx.2.1
  have hmy := hy.2.1
  refine c_reg ?_
  refine gL hf (g_as hf rfl) (by decide) ?_; clear hf a; intro a hf
  refine e_nil ?_
  refine wp_seq ?_
  refine c_reg ?_
  refine gL hf (g_as hf rfl) (by decide) ?_; clear hf a; intro a hf
  refine e_nil ?_
  refine c_block ?_
  refine c_loop hf hs (List.range' 4 32) (σ := Nat) (fun k => [(5, .int .i64 (k : Nat))]) (fun k => _) (fun k => k ≤ x.length ∧ k ≤ y.length ∧ ∀ j, j < k → x.getD j default = y.getD j default) (fun k => x.length - k) 0 ⟨by omega, by omega, fun z hz => absurd hz (by omega)⟩ (.cons rfl .nil) rfl ?_
  intro k a w hJ hf hs
  obtain ⟨hk, hk2, hp⟩ := hJ
  refine wp_seq ?_
  refine c_reg ?_
  refine gL hf (g_mv hf rfl) (by decide) ?_; clear hf a; intro a hf
  refine gL hf (g_mv hf rfl) (by decide) ?_; clear hf a; intro a hf
  refine gL hf (g_len hf SL27 rfl) (by decide) ?_; clear hf a; intro a hf
  refine gL hf (g_lss hf rfl rfl) (by decide) ?_; clear hf a; intro a hf
  refine gL hf (g_mv hf rfl) (by decide) ?_; clear hf a; intro a hf
  refine ggL hf rfl rfl (gyes_t _) (fun hg => g_mv hf rfl) (by decide) ?_; clear hf a; intro a hf
  refine ggL hf rfl rfl (gyes_t _) (fun hg => g_mv hf rfl) (by decide) ?_; clear hf a; intro a hf
  refine ggL hf rfl rfl (gyes_t _) (fun hg => g_len hf SL27 (ev_gv rfl hg)) (by decide) ?_; clear hf a; intro a hf
  refine ggL hf rfl rfl (gyes_t _) (fun hg => g_lss hf (ev_gv rfl hg) (ev_gv rfl hg)) (by decide) ?_; clear hf a; intro a hf
  refine gL hf (g_and hf rfl rfl) (by decide) ?_; clear hf a; intro a hf
  refine e_nil ?_
  refine c_cond hf rfl (fun hc1 => ?_) (fun hc1 => ?_)
  · try simp only [decide_eq_true_eq, decide_eq_false_iff_not] at hc1
    simp only [Bool.and_eq_true, decide_eq_true_eq] at hc1
    refine c_skip (q_thenN ?_)
    refine c_blockS ?_
    refine c_draw _ 9 Mx rfl hs (fun _ h => h) ?_; intro w hs hS
    refine gA hf hS (i := 0) rfl (by kernel_rfl) (fun w hs => g_mv hf rfl) (by decide) ?_; clear hf a; intro a hf
    refine gA hf hS (i := 1) rfl (by kernel_rfl) (fun w hs => g_mv hf rfl) (by decide) ?_; clear hf a; intro a hf
    (first | (refine gA hf hS (i := 2) rfl (by kernel_rfl) (fun w hs => g_ixE hf hs (.head _) SL27 rfl rfl (by omega)) (by decide) ?_) | (refine gA hf hS (i := 2) rfl (by kernel_rfl) (fun w hs => g_ixD hf hs (.head _) SL27 rfl rfl (by omega)) (by decide) ?_)); clear hf a; intro a hf
    refine gA hf hS (i := 3) rfl (by kernel_rfl) (fun w hs => g_ldE hf hs (.head _) T3 rfl rfl (by omega)) (by decide) ?_; clear hf a; intro a hf
    refine gA hf hS (i := 4) rfl (by kernel_rfl) (fun w hs => g_mv hf rfl) (by decide) ?_; clear hf a; intro a hf
    refine gA hf hS (i := 5) rfl (by kernel_rfl) (fun w hs => g_mv hf rfl) (by decide) ?_; clear hf a; intro a hf
    (first | (refine gA hf hS (i := 6) rfl (by kernel_rfl) (fun w hs => g_ixE hf hs (.tail _ (.head _)) SL27 rfl rfl (by omega)) (by decide) ?_) | (refine gA hf hS (i := 6) rfl (by kernel_rfl) (fun w hs => g_ixD hf hs (.tail _ (.head _)) SL27 rfl rfl (by omega)) (by decide) ?_)); clear hf a; intro a hf
    refine gA hf hS (i := 7) rfl (by kernel_rfl) (fun w hs => g_ldE hf hs (.tail _ (.head _)) T3 rfl rfl (by omega)) (by decide) ?_; clear hf a; intro a hf
    refine gA hf hS (i := 8) rfl (by kernel_rfl) (fun w hs => g_neq hf rfl rfl) (by decide) ?_; clear hf a; intro a hf
    refine e_done (by kernel_rfl) ?_
    refine c_cond hf rfl (fun hc2 => ?_) (fun hc2 => ?_)
    · try simp only [decide_eq_true_eq, decide_eq_false_iff_not] at hc2
      refine c_draw _ 10 Mx rfl hs (fun _ h => h) ?_; intro w hs hS
      refine gA hf hS (i := 0) rfl (by kernel_rfl) (fun w hs => g_mv hf rfl) (by decide) ?_; clear hf a; intro a hf
      refine gA hf hS (i := 1) rfl (by kernel_rfl) (fun w hs => g_mv hf rfl) (by decide) ?_; clear hf a; intro a hf
      (first | (refine gA hf hS (i := 2) rfl (by kernel_rfl) (fun w hs => g_ixE hf hs (.head _) SL27 rfl rfl (by omega)) (by decide) ?_) | (refine gA hf hS (i := 2) rfl (by kernel_rfl) (fun w hs => g_ixD hf hs (.head _) SL27 rfl rfl (by omega)) (by decide) ?_)); clear hf a; intro a hf
      refine gA hf hS (i := 3) rfl (by kernel_rfl) (fun w hs => g_ldE hf hs (.head _) T3 rfl rfl (by omega)) (by decide) ?_; clear hf a; intro a hf
      refine gA hf hS (i := 4) rfl (by kernel_rfl) (fun w hs => g_mv hf rfl) (by decide) ?_; clear hf a; intro a hf
      refine gA hf hS (i := 5) rfl (by kernel_rfl) (fun w hs => g_mv hf rfl) (by decide) ?_; clear hf a; intro a hf
      (first | (refine gA hf hS (i := 6) rfl (by kernel_rfl) (fun w hs => g_ixE hf hs (.tail _ (.head _)) SL27 rfl rfl (by omega)) (by decide) ?_) | (refine gA hf hS (i := 6) rfl (by kernel_rfl) (fun w hs => g_ixD hf hs (.tail _ (.head _)) SL27 rfl rfl (by omega)) (by decide) ?_)); clear hf a; intro a hf
      refine gA hf hS (i := 7) rfl (by kernel_rfl) (fun w hs => g_ldE hf hs (.tail _ (.head _)) T3 rfl rfl (by omega)) (by decide) ?_; clear hf a; intro a hf
      refine gA hf hS (i := 8) rfl (by kernel_rfl) (fun w hs => g_lss hf rfl rfl) (by decide) ?_; clear hf a; intro a hf
      refine gA hf hS (i := 9) rfl (by kernel_rfl) (fun w hs => g_as hf rfl) (by decide) ?_; clear hf a; intro a hf
      refine e_done (by kernel_rfl) ?_
      refine c_ret (q_blkR (q_thenR (q_thenR (q_blkR (q_thenR ?_)))))
      refine e_ret1 hf rfl rfl ?_
      exact ⟨by rw [earlier_at (by omega) (by omega) hp (by simpa using hc2)], hs.below⟩
    · try simp only [decide_eq_true_eq, decide_eq_false_iff_not] at hc2
      refine c_skip (q_blkN (q_thenN ?_))
      refine c_reg1 ?_
      refine gL hf (g_mv hf rfl) (by decide) ?_; clear hf a; intro a hf
      refine gL hf (g_addI hf rfl rfl (by omega)) (by decide) ?_; clear hf a; intro a hf
      refine gL hf (g_as hf rfl) (by decide) ?_; clear hf a; intro a hf
      refine e_nil1 (q_thenN ?_)
      exact ⟨k + 1, ⟨by omega, by omega, lt_succ hp (by simpa using hc2)⟩, (by omega), hf.back (by repeat (first | (with_reducible exact Ext.base) | ((with_reducible refine Ext.cons ?_ ?_); (· rfl)) | ((with_reducible refine Ext.over ?_ ?_ ?_); (· rfl); (· rfl)))) (allKeys rfl) (.cons rfl .nil), hs.dropN 0⟩
  · try simp only [decide_eq_true_eq, decide_eq_false_iff_not] at hc1
    simp only [Bool.and_eq_false_iff, decide_eq_false_iff_not] at hc1
    refine c_exit (q_thenX (q_thenX (q_blkX (q_thenN ?_))))
    refine c_reg ?_
    refine gL hf (g_mv hf rfl) (by decide) ?_; clear hf a; intro a hf
    refine gL hf (g_len hf SL27 rfl) (by decide) ?_; clear hf a; intro a hf
    refine gL hf (g_mv hf rfl) (by decide) ?_; clear hf a; intro a hf
    refine gL hf (g_len hf SL27 rfl) (by decide) ?_; clear hf a; intro a hf
    refine gL hf (g_lss hf rfl rfl) (by decide) ?_; clear hf a; intro a hf
    refine gL hf (g_as hf rfl) (by decide) ?_; clear hf a; intro a hf
    refine e_nil ?_
    refine c_ret ?_
    refine e_ret1 hf rfl rfl ?_
    exact ⟨by rw [earlier_end hk hk2 (by omega) hp]; simp, hs.below⟩

theorem c_Grows (Ax : Option Addr) (cx : Nat) (x : List Int) (n : Int) (hn : 0 ≤ n ∧ n ≤ 99) (w0 : World) (hx : Rd encI 1 Ax x.length x w0) :
    Calls Tryd.prog 48 #[.slice Ax x.length cx, .int .i64 n] w0 (Ret w0 (.bool (growsB x n))) := by
  refine c_enter (n := 36) Tryd.func48 rfl rfl (Nat.le_of_ble_eq_true rfl) ?_; intro a hf; simp only [zipR] at hf
  have hs := St.start w0 [Rd encI 1 Ax x.length x] hx.st1
  have hmx := hx.2.1
  refine c_reg ?_
  refine gL hf (g_as hf rfl) (by decide) ?_; clear hf a; intro a hf
  refine e_nil ?_
  refine wp_seq ?_
  refine c_reg ?_
  refine gL hf (g_as hf rfl) (by decide) ?_; clear hf a; intro a hf
  refine e_nil ?_
  refine c_block ?_
  refine c_loop hf hs (List.range' 4 32) (σ := Nat) (fun k => [(5, .int .i64 (k : Nat))]) (fun k => _) (fun k => k ≤ x.length ∧ ∀ j, j < k → growsAt x n j = true) (fun k => x.length - k) 0 ⟨by omega, fun z hz => absurd hz (by omega)⟩ (.cons rfl .nil) rfl ?_
  intro k a w hJ hf hs
  obtain ⟨hk, hp⟩ := hJ
  refine wp_seq ?_
  refine c_reg ?_
  refine gL hf (g_mv hf rfl) (by decide) ?_; clear hf a; intro a hf
  refine gL hf (g_mv hf rfl) (by decide) ?_; clear hf a; intro a hf
  refine gL hf (g_len hf SL27 rfl) (by decide) ?_; clear hf a; intro a hf
  refine gL hf (g_lss hf rfl rfl) (by decide) ?_; clear hf a; intro a hf
  refine e_nil ?_
  refine c_cond hf rfl (fun hc1 => ?_) (fun hc1 => ?_)
  · try simp only [decide_eq_true_eq, decide_eq_false_iff_not] at hc1
    refine c_skip (q_thenN ?_)
    refine c_blockS ?_
    refine c_draw _ 24 Mx rfl hs (fun _ h => h) ?_; intro w hs hS
    refine gA hf hS (i := 0) rfl (by kernel_rfl) (fun w hs => g_mv hf rfl) (by decide) ?_; clear hf a; intro a hf
    refine gA hf hS (i := 1) rfl (by kernel_rfl) (fun w hs => g_mv hf rfl) (by decide) ?_; clear hf a; intro a hf
    (first | (refine gA hf hS (i := 2) rfl (by kernel_rfl) (fun w hs => g_ixE hf hs (.head _) SL27 rfl rfl (by omega)) (by decide) ?_) | (refine gA hf hS (i := 2) rfl (by kernel_rfl) (fun w hs => g_ixD hf hs (.head _) SL27 rfl rfl (by omega)) (by decide) ?_)); clear hf a; intro a hf
    refine gA hf hS (i := 3) rfl (by kernel_rfl) (fun w hs => g_ldE hf hs (.head _) T3 rfl rfl (by omega)) (by decide) ?_; clear hf a; intro a hf
    refine gA hf hS (i := 4) rfl (by kernel_rfl) (fun w hs => g_mv hf rfl) (by decide) ?_; clear hf a; intro a hf
    refine gA hf hS (i := 5) rfl (by kernel_rfl) (fun w hs => g_subI hf rfl rfl (by omega)) (by decide) ?_; clear hf a; intro a hf
    refine one (i := 6) (by kernel_rfl) ?_
    refine oCall hf hs rfl (c_Fits _ _ _ _) rfl rfl rfl E39 (by decide) (fun _ h => h.sub (.refl _)) ?_; clear hs hf hS a; intro w a hs hS hf
    refine gA hf hS (i := 7) rfl (by kernel_rfl) (fun w hs => g_not hf rfl) (by decide) ?_; clear hf a; intro a hf
    refine gA hf hS (i := 8) rfl (by kernel_rfl) (fun w hs => g_mv hf rfl) (by decide) ?_; clear hf a; intro a hf
    refine ggA hf hS (i := 9) rfl (by kernel_rfl) rfl rfl (gyes_f _) (fun hg w hs => g_mv hf rfl) (by decide) ?_; clear hf a; intro a hf
    refine ggA hf hS (i := 10) rfl (by kernel_rfl) rfl rfl (gyes_f _) (fun hg w hs => g_gtr hf (ev_gv rfl hg) rfl) (by decide) ?_; clear hf a; intro a hf
    refine ggA hf hS (i := 11) rfl (by kernel_rfl) rfl rfl (gyes_f _) (fun hg w hs => g_mv hf (ev_gv rfl hg)) (by decide) ?_; clear hf a; intro a hf
    refine ggA hf hS (i := 12) rfl (by kernel_rfl) rfl rfl (gyes_gt _ _) (fun hg w hs => g_mv hf rfl) (by decide) ?_; clear hf a; intro a hf
    refine ggA hf hS (i := 13) rfl (by kernel_rfl) rfl rfl (gyes_gt _ _) (fun hg w hs => g_mv hf rfl) (by decide) ?_; clear hf a; intro a hf
    (first | (refine ggA hf hS (i := 14) rfl (by kernel_rfl) rfl rfl (gyes_gt _ _) (fun hg w hs => g_ixE hf hs (.head _) SL27 (ev_gv rfl hg) (ev_gv rfl hg) (by omega)) (by decide) ?_) | (refine ggA hf hS (i := 14) rfl (by kernel_rfl) rfl rfl (gyes_gt _ _) (fun hg w hs => g_ixD hf hs (.head _) SL27 (ev_gv rfl hg) (ev_gv rfl hg) (by omega)) (by decide) ?_)); clear hf a; intro a hf
    refine ggA hf hS (i := 15) rfl (by kernel_rfl) rfl rfl (gyes_gt _ _) (fun hg w hs => g_ldE hf hs (.head _) T3 (ev_gv rfl hg) rfl (by omega)) (by decide) ?_; clear hf a; intro a hf
    refine ggA hf hS (i := 16) rfl (by kernel_rfl) rfl rfl (gyes_gt _ _) (fun hg w hs => g_mv hf rfl) (by decide) ?_; clear hf a; intro a hf
    refine ggA hf hS (i := 17) rfl (by kernel_rfl) rfl rfl (gyes_gt _ _) (fun hg w hs => g_mv hf rfl) (by decide) ?_; clear hf a; intro a hf
    refine ggA hf hS (i := 18) rfl (by kernel_rfl) rfl rfl (gyes_gt _ _) (fun hg w hs => g_subI hf (ev_gv rfl hg) rfl (by have h8 := and_r hg; simp only [decide_eq_true_eq] at h8; omega)) (by decide) ?_; clear hf a; intro a hf
    (first | (refine ggA hf hS (i := 19) rfl (by kernel_rfl) rfl rfl (gyes_gt _ _) (fun hg w hs => g_ixE hf hs (.head _) SL27 (ev_gv rfl hg) (ev_gv rfl hg) (by have h8 := and_r hg; simp only [decide_eq_true_eq] at h8; omega)) (by decide) ?_) | (refine ggA hf hS (i := 19) rfl (by kernel_rfl) rfl rfl (gyes_gt _ _) (fun hg w hs => g_ixD hf hs (.head _) SL27 (ev_gv rfl hg) (ev_gv rfl hg) (by have h8 := and_r hg; simp only [decide_eq_true_eq] at h8; omega)) (by decide) ?_)); clear hf a; intro a hf
    refine ggA hf hS (i := 20) rfl (by kernel_rfl) rfl rfl (gyes_gt _ _) (fun hg w hs => g_ldE hf hs (.head _) T3 (ev_gv rfl hg) rfl (by omega)) (by decide) ?_; clear hf a; intro a hf
    refine ggA hf hS (i := 21) rfl (by kernel_rfl) rfl rfl (gyes_gt _ _) (fun hg w hs => g_leq hf (ev_gv rfl hg) (ev_gv rfl hg)) (by decide) ?_; clear hf a; intro a hf
    refine ggA hf hS (i := 22) rfl (by kernel_rfl) rfl rfl (gyes_f _) (fun hg w hs => g_and hf (ev_gv rfl hg) (ev_gvand rfl hg)) (by decide) ?_; clear hf a; intro a hf
    refine gA hf hS (i := 23) rfl (by kernel_rfl) (fun w hs => g_or hf rfl rfl) (by decide) ?_; clear hf a; intro a hf
    refine e_done (by kernel_rfl) ?_
    refine c_cond hf rfl (fun hc2 => ?_) (fun hc2 => ?_)
    · skip
      rw [growsAt_eq] at hc2
      refine c_reg ?_
      refine gL hf (g_as hf rfl) (by decide) ?_; clear hf a; intro a hf
      refine e_nil ?_
      refine c_ret (q_blkR (q_thenR (q_thenR (q_blkR (q_thenR ?_)))))
      refine e_ret1 hf rfl rfl ?_
      exact ⟨by rw [grows_no (i := k) (by omega) (by simpa using hc2)], hs.below⟩
    · skip
      rw [growsAt_eq] at hc2
      refine c_skip (q_blkN (q_thenN ?_))
      refine c_reg1 ?_
      refine gL hf (g_mv hf rfl) (by decide) ?_; clear hf a; intro a hf
      refine gL hf (g_addI hf rfl rfl (by omega)) (by decide) ?_; clear hf a; intro a hf
      refine gL hf (g_as hf rfl) (by decide) ?_; clear hf a; intro a hf
      refine e_nil1 (q_thenN ?_)
      exact ⟨k + 1, ⟨by omega, lt_succ hp (by simpa using hc2)⟩, (by omega), hf.back (by repeat (first | (with_reducible exact Ext.base) | ((with_reducible refine Ext.cons ?_ ?_); (· rfl)) | ((with_reducible refine Ext.over ?_ ?_ ?_); (· rfl); (· rfl)))) (allKeys rfl) (.cons rfl .nil), hs.dropN 0⟩
  · try simp only [decide_eq_true_eq, decide_eq_false_iff_not] at hc1
    refine c_exit (q_thenX (q_thenX (q_blkX (q_thenN ?_))))
    refine c_reg ?_
    refine gL hf (g_as hf rfl) (by decide) ?_; clear hf a; intro a hf
    refine e_nil ?_
    refine c_ret ?_
    refine e_ret1 hf rfl rfl ?_
    exact ⟨by rw [grows_yes (fun i hi => hp i (by omega))], hs.below⟩

theorem c_Drawn (lo hi n : Int) (hr : -1000 ≤ lo ∧ lo ≤ hi ∧ hi ≤ 1000) (w0 : World) :
    Calls Tryd.prog 47 #[.agg #[.int .i64 lo, .int .i64 hi], .int .i64 n] w0 (Ret w0 (.int .i64 (drawnZ lo hi n))) := by
  refine c_enter (n := 16) Tryd.func47 rfl rfl (Nat.le_of_ble_eq_true rfl) ?_; intro a hf; simp only [zipR] at hf
  have hs := St.start w0 [] (by simp)
  have hd := spin_range n (hi - lo + 1) (by omega)
  refine c_reg ?_
  refine vL hf (v_boxA hf hs rfl) (by decide) ?_; clear hs hf a; rintro _ w ⟨b1, rfl, hs⟩ a hf
  refine gL hf (g_as hf rfl) (by decide) ?_; clear hf a; intro a hf
  refine e_nil ?_
  refine c_draw _ 12 Mx rfl hs (fun _ h => h) ?_; intro w hs hS
  refine gA hf hS (i := 0) rfl (by kernel_rfl) (fun w hs => g_fa (off' := 0) hf F47_0 rfl rfl) (by decide) ?_; clear hf a; intro a hf
  refine gA hf hS (i := 1) rfl (by kernel_rfl) (fun w hs => g_ld hf hs T3 rfl (k := 0) rfl rfl) (by decide) ?_; clear hf a; intro a hf
  refine gA hf hS (i := 2) rfl (by kernel_rfl) (fun w hs => g_mv hf rfl) (by decide) ?_; clear hf a; intro a hf
  refine gA hf hS (i := 3) rfl (by kernel_rfl) (fun w hs => g_fa (off' := 1) hf F47_1 rfl rfl) (by decide) ?_; clear hf a; intro a hf
  refine gA hf hS (i := 4) rfl (by kernel_rfl) (fun w hs => g_ld hf hs T3 rfl (k := 0) rfl rfl) (by decide) ?_; clear hf a; intro a hf
  refine gA hf hS (i := 5) rfl (by kernel_rfl) (fun w hs => g_fa (off' := 0) hf F47_0 rfl rfl) (by decide) ?_; clear hf a; intro a hf
  refine gA hf hS (i := 6) rfl (by kernel_rfl) (fun w hs => g_ld hf hs T3 rfl (k := 0) rfl rfl) (by decide) ?_; clear hf a; intro a hf
  refine gA hf hS (i := 7) rfl (by kernel_rfl) (fun w hs => g_subI hf rfl rfl (by omega)) (by decide) ?_; clear hf a; intro a hf
  refine gA hf hS (i := 8) rfl (by kernel_rfl) (fun w hs => g_addI hf rfl rfl (by omega)) (by decide) ?_; clear hf a; intro a hf
  refine one (i := 9) (by kernel_rfl) ?_
  refine oCall hf hs rfl (c_Spin _ _ (by omega) _) rfl rfl rfl E38 (by decide) (fun _ h => h.sub (.refl _)) ?_; clear hs hf hS a; intro w a hs hS hf
  refine gA hf hS (i := 10) rfl (by kernel_rfl) (fun w hs => g_addI hf rfl rfl (by omega)) (by decide) ?_; clear hf a; intro a hf
  refine gA hf hS (i := 11) rfl (by kernel_rfl) (fun w hs => g_as hf rfl) (by decide) ?_; clear hf a; intro a hf
  refine e_done (by kernel_rfl) ?_
  refine c_ret ?_
  refine e_ret1 hf rfl rfl ?_
  exact ⟨rfl, hs.below⟩

theorem c_Item (Ax : Option Addr) (cx : Nat) (x : List Int) (n : Int) (w0 : World) (hx : Rd encI 1 Ax x.length x w0) :
    Calls Tryd.prog 83 #[.slice Ax x.length cx, .int .i64 n] w0 (Ret w0 (.int .i64 (itemZ x n))) := by
  refine c_enter (n := 15) Tryd.func83 rfl rfl (Nat.le_of_ble_eq_true rfl) ?_; intro a hf; simp only [zipR] at hf
  have hs := St.start w0 [Rd encI 1 Ax x.length x] hx.st1
  have hmx := hx.2.1
  have hd := spin_range n x.length
  refine c_reg ?_
  refine gL hf (g_as hf rfl) (by decide) ?_; clear hf a; intro a hf
  refine e_nil ?_
  refine wp_seq ?_
  refine c_reg ?_
  refine gL hf (g_mv hf rfl) (by decide) ?_; clear hf a; intro a hf
  refine gL hf (g_len hf SL27 rfl) (by decide) ?_; clear hf a; intro a hf
  refine gL hf (g_eql hf rfl rfl) (by decide) ?_; clear hf a; intro a hf
  refine e_nil ?_
  refine c_cond hf rfl (fun hc1 => ?_) (fun hc1 => ?_)
  · try simp only [decide_eq_true_eq, decide_eq_false_iff_not] at hc1
    have h0 : x.length = 0 := by have := eq_of_beq hc1; omega
    refine c_reg ?_
    refine gL hf (g_as hf rfl) (by decide) ?_; clear hf a; intro a hf
    refine e_nil ?_
    refine c_ret (q_thenR ?_)
    refine e_ret1 hf rfl rfl ?_
    exact ⟨by rw [itemZ, if_pos h0], hs.below⟩
  · try simp only [decide_eq_true_eq, decide_eq_false_iff_not] at hc1
    have h0 : x.length ≠ 0 := by intro e; simp [e] at hc1
    refine c_skip (q_thenN ?_)
    refine c_reg ?_
    refine gL hf (g_mv hf rfl) (by decide) ?_; clear hf a; intro a hf
    refine gL hf (g_mv hf rfl) (by decide) ?_; clear hf a; intro a hf
    refine gL hf (g_mv hf rfl) (by decide) ?_; clear hf a; intro a hf
    refine gL hf (g_len hf SL27 rfl) (by decide) ?_; clear hf a; intro a hf
    refine callL hf hs (c_Spin _ _ (by omega) _) rfl rfl rfl E38 (by decide) ?_; clear hs hf a; intro w a hs hf
    (first | (refine gL hf (g_ixE hf hs (.head _) SL27 rfl rfl (by omega)) (by decide) ?_) | (refine gL hf (g_ixD hf hs (.head _) SL27 rfl rfl (by omega)) (by decide) ?_)); clear hf a; intro a hf
    refine gL hf (g_ldE hf hs (.head _) T3 rfl rfl (by omega)) (by decide) ?_; clear hf a; intro a hf
    refine gL hf (g_as hf rfl) (by decide) ?_; clear hf a; intro a hf
    refine e_nil ?_
    refine c_ret ?_
    refine e_ret1 hf rfl rfl ?_
    exact ⟨by rw [itemZ, if_neg h0], hs.below⟩

end Go.Proofs.YtpjhffockmnjbaaDoor
set_option linter.unusedVariables false
set_option linter.unusedSimpArgs false
namespace Go.Proofs.YtpjhffockmnjbaaDoor
open Go.RowKit
theorem c_greatest (Ax : Option Addr) (cx : Nat) (x : List Int) (v : Int) (w0 : World) (hx : Rd encI 1 Ax x.length x w0) :
    Calls Tryd.prog 64 #[.int .i64 v, .slice Ax x.length cx] w0 (Ret w0 (.int .i64 (maxL v x))) := by
  refine c_enter (n := 18) Tryd.func64 rfl rfl (Nat.le_of_ble_eq_true rfl) ?_; intro a hf; simp only [zipR] at hf
  have hs := St.start w0 [Rd encI 1 Ax x.length x] hx.st1
  have hmx := hx.2.1
  refine c_reg ?_
  refine gL hf (g_as hf rfl) (by decide) ?_; clear hf a; intro a hf
  refine e_nil ?_
  refine wp_seq ?_
  refine c_reg ?_
  refine gL hf (g_mv hf rfl) (by decide) ?_; clear hf a; intro a hf
  refine gL hf (g_len hf SL27 rfl) (by decide) ?_; clear hf a; intro a hf
  refine gL hf (g_mv hf rfl) (by decide) ?_; clear hf a; intro a hf
  refine e_nil ?_
  refine c_block ?_
  refine c_loop hf hs [0, 6, 9, 10, 11, 12, 13, 14, 15, 16] (σ := Nat) (fun k => [(0, .int .i64 (maxL v (x.take k))), (9, .int .i64 (k : Nat))]) (fun k => _) (fun k => k ≤ x.length) (fun k => x.length - k) 0 (by omega) (.cons rfl (.cons rfl .nil)) rfl ?_
  intro k a w hJ hf hs
  refine c_reg ?_
  refine gL hf (g_lss hf rfl rfl) (by decide) ?_; clear hf a; intro a hf
  refine e_nil ?_
  refine c_condS hf rfl (fun hc1 => ?_) (fun hc1 => ?_)
  · try simp only [decide_eq_true_eq, decide_eq_false_iff_not] at hc1
    refine c_skip (q_thenN ?_)
    refine c_blockS ?_
    refine c_reg ?_
    (first | (refine gL hf (g_ixE hf hs (.head _) SL27 rfl rfl (by omega)) (by decide) ?_) | (refine gL hf (g_ixD hf hs (.head _) SL27 rfl rfl (by omega)) (by decide) ?_)); clear hf a; intro a hf
    refine gL hf (g_ldE hf hs (.head _) T3 rfl rfl (by omega)) (by decide) ?_; clear hf a; intro a hf
    refine gL hf (g_as hf rfl) (by decide) ?_; clear hf a; intro a hf
    refine e_nil ?_
    refine c_reg1 ?_
    refine gL hf (g_mv hf rfl) (by decide) ?_; clear hf a; intro a hf
    refine gL hf (g_mv hf rfl) (by decide) ?_; clear hf a; intro a hf
    refine gL hf (g_max hf rfl rfl) (by decide) ?_; clear hf a; intro a hf
    refine gL hf (g_as hf rfl) (by decide) ?_; clear hf a; intro a hf
    refine e_nil1 (q_blkN (q_thenN ?_))
    refine c_reg1 ?_
    refine gL hf (g_addI hf rfl rfl (by omega)) (by decide) ?_; clear hf a; intro a hf
    refine gL hf (g_mv hf rfl) (by decide) ?_; clear hf a; intro a hf
    refine e_nil1 (q_thenN ?_)
    rw [← maxL_take (by omega)] at hf
    exact ⟨k + 1, (by omega), (by omega), hf.back (by repeat (first | (with_reducible exact Ext.base) | ((with_reducible refine Ext.cons ?_ ?_); (· rfl)) | ((with_reducible refine Ext.over ?_ ?_ ?_); (· rfl); (· rfl)))) (allKeys rfl) (.cons rfl (.cons rfl .nil)), hs.dropN 0⟩
  · try simp only [decide_eq_true_eq, decide_eq_false_iff_not] at hc1
    refine c_exit (q_thenX (q_thenX (q_blkX (q_thenN ?_))))
    refine c_reg ?_
    refine gL hf (g_mv hf rfl) (by decide) ?_; clear hf a; intro a hf
    refine gL hf (g_as hf rfl) (by decide) ?_; clear hf a; intro a hf
    refine e_nil ?_
    refine c_ret ?_
    refine e_ret1 hf rfl rfl ?_
    exact ⟨by rw [List.take_of_length_le (by omega)], hs.below⟩

theorem c_over1 (r q : Rule) (bq : Nat) (w0 : World) (hq : BlkIs bq #[.int .i64 q.over, .int .i64 q.under] 64 (0, 0) w0) :
    Calls Tryd.prog 101 #[.agg #[.int .i64 r.over, .int .i64 r.under], .pointer (some ⟨bq, 0, none⟩)] w0 (Ret w0 (.bool (sameR r q))) := by
  refine c_enter (n := 7) Tryd.func101 rfl rfl (Nat.le_of_ble_eq_true rfl) ?_; intro a hf; simp only [zipR] at hf
  have hs := St.start w0 [BlkIs bq #[.int .i64 q.over, .int .i64 q.under] 64 (0, 0)] hq.st1
  refine c_reg ?_
  refine vL hf (v_boxA hf hs rfl) (by decide) ?_; clear hs hf a; rintro _ w ⟨b1, rfl, hs⟩ a hf
  refine gL hf (g_as hf rfl) (by decide) ?_; clear hf a; intro a hf
  refine e_nil ?_
  refine c_reg ?_
  refine gL hf (g_ldW hf hs T64 rfl (k := 0) rfl rfl) (by decide) ?_; clear hf a; intro a hf
  refine gL hf (g_ldBW hf hs (.head _) T64 rfl rfl) (by decide) ?_; clear hf a; intro a hf
  refine gL hf (g_eqS hf Q64 rfl rfl) (by decide) ?_; clear hf a; intro a hf
  refine gL hf (g_as hf rfl) (by decide) ?_; clear hf a; intro a hf
  refine e_nil ?_
  refine c_ret ?_
  refine e_ret1 hf rfl rfl ?_
  exact ⟨rfl, hs.below⟩

theorem c_IndexFunc (A : Option Addr) (n c : Nat) (l : List Rule) (q : Rule) (bq : Nat) (w0 : World) (h : Rd encR 2 A n l w0) (hq : BlkIs bq #[.int .i64 q.over, .int .i64 q.under] 64 (0, 0) w0) :
    Calls Tryd.prog 109 #[.slice A n c, .func (.func 101) #[] #[.pointer (some ⟨bq, 0, none⟩)]] w0 (Ret w0 (.int .i64 (indexZ (fun x => sameR x q) l))) := by
  refine c_enter (n := 19) Tryd.func109 rfl rfl (Nat.le_of_ble_eq_true rfl) ?_; intro a hf; simp only [zipR] at hf
  have hs := St.start w0 [Rd encR 2 A n l, BlkIs bq #[.int .i64 q.over, .int .i64 q.under] 64 (0, 0)] (stab_app h.st1 hq.st1)
  have hn := h.1; have hm := h.2.1
  refine c_reg ?_
  refine gL hf (g_as hf rfl) (by decide) ?_; clear hf a; intro a hf
  refine e_nil ?_
  refine wp_seq ?_
  refine c_reg ?_
  refine gL hf (g_mv hf rfl) (by decide) ?_; clear hf a; intro a hf
  refine gL hf (g_len hf SL23 rfl) (by decide) ?_; clear hf a; intro a hf
  refine gL hf (g_mv hf rfl) (by decide) ?_; clear hf a; intro a hf
  refine e_nil ?_
  refine c_block ?_
  refine c_loop hf hs [4, 5, 8, 9, 10, 11, 12, 13, 14, 15, 16, 17, 18] (σ := Nat) (fun k => [(8, .int .i64 (k : Nat))]) (fun k => _) (fun k => k ≤ n ∧ ∀ j, j < k → sameR (l.getD j default) q = false) (fun k => n - k) 0 ⟨by omega, fun z hz => absurd hz (by omega)⟩ (.cons rfl .nil) rfl ?_
  intro k a w hJ hf hs
  obtain ⟨hk, hp⟩ := hJ
  refine c_reg ?_
  refine gL hf (g_lss hf rfl rfl) (by decide) ?_; clear hf a; intro a hf
  refine e_nil ?_
  refine c_condS hf rfl (fun hc1 => ?_) (fun hc1 => ?_)
  · try simp only [decide_eq_true_eq, decide_eq_false_iff_not] at hc1
    refine c_skip (q_thenN ?_)
    refine c_blockS ?_
    refine c_reg ?_
    refine gL hf (g_mv hf rfl) (by decide) ?_; clear hf a; intro a hf
    refine gL hf (g_as hf rfl) (by decide) ?_; clear hf a; intro a hf
    refine e_nil ?_
    refine c_reg ?_
    refine gL hf (g_mv hf rfl) (by decide) ?_; clear hf a; intro a hf
    refine gL hf (g_mv hf rfl) (by decide) ?_; clear hf a; intro a hf
    refine gL hf (g_mv hf rfl) (by decide) ?_; clear hf a; intro a hf
    (first | (refine gL hf (g_ixE hf hs (.head _) SL23 rfl rfl (by omega)) (by decide) ?_) | (refine gL hf (g_ixD hf hs (.head _) SL23 rfl rfl (by omega)) (by decide) ?_)); clear hf a; intro a hf
    refine gL hf (g_ldEW hf hs (.head _) T64 rfl rfl (by omega)) (by decide) ?_; clear hf a; intro a hf
    refine callL hf hs (c_over1 (l.getD k default) q bq _ (hs.rd (.tail _ (.head _)))) rfl rfl rfl E101 (by decide) ?_; clear hs hf a; intro w a hs hf
    refine e_nil ?_
    refine c_cond hf rfl (fun hc2 => ?_) (fun hc2 => ?_)
    · try simp only [decide_eq_true_eq, decide_eq_false_iff_not] at hc2
      refine c_reg ?_
      refine gL hf (g_mv hf rfl) (by decide) ?_; clear hf a; intro a hf
      refine gL hf (g_as hf rfl) (by decide) ?_; clear hf a; intro a hf
      refine e_nil ?_
      refine c_ret (q_blkR (q_thenR (q_thenR (q_blkR (q_thenR ?_)))))
      refine e_ret1 hf rfl rfl ?_
      exact ⟨by rw [indexZ_found (p := fun x => sameR x q) (by omega) hp hc2], hs.below⟩
    · try simp only [decide_eq_true_eq, decide_eq_false_iff_not] at hc2
      refine c_skip (q_blkN (q_thenN ?_))
      refine c_reg1 ?_
      refine gL hf (g_addI hf rfl rfl (by omega)) (by decide) ?_; clear hf a; intro a hf
      refine gL hf (g_mv hf rfl) (by decide) ?_; clear hf a; intro a hf
      refine e_nil1 (q_thenN ?_)
      exact ⟨k + 1, ⟨by omega, lt_succ hp hc2⟩, (by omega), hf.back (by repeat (first | (with_reducible exact Ext.base) | ((with_reducible refine Ext.cons ?_ ?_); (· rfl)) | ((with_reducible refine Ext.over ?_ ?_ ?_); (· rfl); (· rfl)))) (allKeys rfl) (.cons rfl .nil), hs.dropN 0⟩
  · try simp only [decide_eq_true_eq, decide_eq_false_iff_not] at hc1
    refine c_exit (q_thenX (q_thenX (q_blkX (q_thenN ?_))))
    refine c_reg ?_
    refine gL hf (g_as hf rfl) (by decide) ?_; clear hf a; intro a hf
    refine e_nil ?_
    refine c_ret ?_
    refine e_ret1 hf rfl rfl ?_
    exact ⟨by rw [indexZ_none (fun j hj => hp j (by omega))], hs.below⟩

theorem c_ContainsFunc (A : Option Addr) (n c : Nat) (l : List Rule) (q : Rule) (bq : Nat) (w0 : World) (h : Rd encR 2 A n l w0) (hq : BlkIs bq #[.int .i64 q.over, .int .i64 q.under] 64 (0, 0) w0) :
    Calls Tryd.prog 100 #[.slice A n c, .func (.func 101) #[] #[.pointer (some ⟨bq, 0, none⟩)]] w0 (Ret w0 (.bool (l.any fun x => sameR x q))) := by
  refine c_enter (n := 9) Tryd.func100 rfl rfl (Nat.le_of_ble_eq_true rfl) ?_; intro a hf; simp only [zipR] at hf
  have hs := St.start w0 [Rd encR 2 A n l, BlkIs bq #[.int .i64 q.over, .int .i64 q.under] 64 (0, 0)] (stab_app h.st1 hq.st1)
  refine c_reg ?_
  refine gL hf (g_as hf rfl) (by decide) ?_; clear hf a; intro a hf
  refine e_nil ?_
  refine c_reg ?_
  refine gL hf (g_mv hf rfl) (by decide) ?_; clear hf a; intro a hf
  refine gL hf (g_mv hf rfl) (by decide) ?_; clear hf a; intro a hf
  refine callL hf hs (c_IndexFunc _ _ _ l q bq _ (hs.rd (.head _)) (hs.rd (.tail _ (.head _)))) rfl rfl rfl E109 (by decide) ?_; clear hs hf a; intro w a hs hf
  refine gL hf (g_geq hf rfl rfl) (by decide) ?_; clear hf a; intro a hf
  refine gL hf (g_as hf rfl) (by decide) ?_; clear hf a; intro a hf
  refine e_nil ?_
  refine c_ret ?_
  refine e_ret1 hf rfl rfl ?_
  exact ⟨by rw [indexZ_ge], hs.below⟩

theorem c_overT (b : Sheet) (fA : Option Addr) (fc : Nat) (rA : Option Addr) (rc : Nat) (mb : Nat) (mp : MP) (i j : Int) (w0 : World) (h : ShIn b fA fc rA rc w0) (hM : MapIs mb mp w0) :
    Calls Tryd.prog 70 #[.agg #[.int .i64 b.wide, .int .i64 b.high, .slice fA b.flaps.length fc, .slice rA b.rules.length rc, .map (some mb)], .int .i64 i, .int .i64 j] w0 (Ret w0 (.bool (overT b mp i j))) := by
  refine c_enter (n := 25) Tryd.func70 rfl rfl (Nat.le_of_ble_eq_true rfl) ?_; intro a hf; simp only [zipR] at hf
  have hs := St.start w0 [Rd encF 5 fA b.flaps.length b.flaps, Rd encR 2 rA b.rules.length b.rules, MapIs mb mp] (stab_app h.stab hM.st1)
  have hfm := h.F.2.1; have hrm := h.R.2.1
  refine c_reg ?_
  refine vL hf (v_boxA hf hs rfl) (by decide) ?_; clear hs hf a; rintro _ w ⟨b1, rfl, hs⟩ a hf
  refine gL hf (g_as hf rfl) (by decide) ?_; clear hf a; intro a hf
  refine e_nil ?_
  refine c_reg ?_
  refine gL hf (g_mv hf rfl) (by decide) ?_; clear hf a; intro a hf
  refine gL hf (g_mv hf rfl) (by decide) ?_; clear hf a; intro a hf
  refine gL hf (g_bld hf [[.int .i64 0], [.int .i64 0]] (.cons rfl (.cons rfl .nil)) (fun _ => by kernel_rfl)) (by decide) ?_; clear hf a; intro a hf
  refine vL hf (v_alloc hs T64 rfl) (by decide) ?_; clear hs hf a; rintro _ w ⟨b2, rfl, hs⟩ a hf
  refine uL (u_stW hf hs T64 rfl rfl rfl (k := 0) rfl rfl rfl) ?_; clear hs; intro w hs; dsimp only [List.set] at hs
  refine e_nil ?_
  refine c_reg ?_
  refine gL hf (g_fa (off' := 4) hf F69_1 rfl rfl) (by decide) ?_; clear hf a; intro a hf
  refine gL hf (g_ld hf hs T67 rfl (k := 1) rfl rfl) (by decide) ?_; clear hf a; intro a hf
  refine gL hf (g_mv hf rfl) (by decide) ?_; clear hf a; intro a hf
  refine gL hf (g_mv hf rfl) (by decide) ?_; clear hf a; intro a hf
  refine gL hf (g_bld hf [[.int .i64 0], [.int .i64 0]] (.cons rfl (.cons rfl .nil)) (fun _ => by kernel_rfl)) (by decide) ?_; clear hf a; intro a hf
  refine gL hf (g_lookD hf hs (.tail _ (.tail _ (.head _))) MT67 rfl rfl) (by decide) ?_; clear hf a; intro a hf
  refine gL hf (g_gtr hf rfl rfl) (by decide) ?_; clear hf a; intro a hf
  refine gL hf (g_mv hf rfl) (by decide) ?_; clear hf a; intro a hf
  refine ggL hf rfl rfl (gyes_t _) (fun hg => g_fa (off' := 0) hf F69_0 rfl rfl) (by decide) ?_; clear hf a; intro a hf
  refine ggL hf rfl rfl (gyes_t _) (fun hg => g_fa (off' := 3) hf F25_3 (ev_gv rfl hg) rfl) (by decide) ?_; clear hf a; intro a hf
  refine ggL hf rfl rfl (gyes_t _) (fun hg => g_ld hf hs T23 (ev_gv rfl hg) (k := 1) rfl rfl) (by decide) ?_; clear hf a; intro a hf
  refine ggL hf rfl rfl (gyes_t _) (fun hg => g_fn hf rfl rfl) (by decide) ?_; clear hf a; intro a hf
  refine callG hf hs rfl rfl (gyes_t _) (fun hg => ⟨_, _, _, _, c_ContainsFunc _ _ _ b.rules ⟨i, j⟩ _ _ (hs.rd (.tail _ (.head _))) (hs.own _ _ (.head _)).2, rfl, evs_cons (ev_gv rfl hg) (evs_cons (ev_gv rfl hg) evs_nil), rfl⟩) E100 (by decide) ?_; clear hs hf a; intro w a hs hf
  refine gL hf (g_and hf rfl rfl) (by decide) ?_; clear hf a; intro a hf
  refine gL hf (g_as hf rfl) (by decide) ?_; clear hf a; intro a hf
  refine e_nil ?_
  refine c_ret ?_
  refine e_ret1 hf rfl rfl ?_
  exact ⟨rfl, hs.below⟩

theorem c_stopped (b : Sheet) (fA : Option Addr) (fc : Nat) (rA : Option Addr) (rc : Nat) (mb : Nat) (mp : MP) (d : List Bool) (i : Int) (hv : Valid b) (hd : d.length = 7) (w0 : World) (h : ShIn b fA fc rA rc w0) (hM : MapIs mb mp w0) :
    Calls Tryd.prog 97 #[.agg #[.int .i64 b.wide, .int .i64 b.high, .slice fA b.flaps.length fc, .slice rA b.rules.length rc, .map (some mb)], .agg (dnA d), .int .i64 i] w0 (Ret w0 (.bool (stopB b mp d i))) := by
  refine c_enter (n := 40) Tryd.func97 rfl rfl (Nat.le_of_ble_eq_true rfl) ?_; intro a hf; simp only [zipR] at hf
  have hs := St.start w0 [Rd encF 5 fA b.flaps.length b.flaps, Rd encR 2 rA b.rules.length b.rules, MapIs mb mp] (stab_app h.stab hM.st1)
  have hfm := h.F.2.1; have hrm := h.R.2.1
  refine c_reg ?_
  refine vL hf (v_boxA hf hs rfl) (by decide) ?_; clear hs hf a; rintro _ w ⟨b1, rfl, hs⟩ a hf
  refine vL hf (v_boxA hf hs rfl) (by decide) ?_; clear hs hf a; rintro _ w ⟨b2, rfl, hs⟩ a hf
  refine gL hf (g_as hf rfl) (by decide) ?_; clear hf a; intro a hf
  refine e_nil ?_
  refine wp_seq ?_
  refine c_reg ?_
  refine gL hf (g_fa (off' := 0) hf F69_0 rfl rfl) (by decide) ?_; clear hf a; intro a hf
  refine gL hf (g_fa (off' := 3) hf F25_3 rfl rfl) (by decide) ?_; clear hf a; intro a hf
  refine gL hf (g_ld hf hs T23 rfl (k := 1) rfl rfl) (by decide) ?_; clear hf a; intro a hf
  refine gL hf (g_len hf SL23 rfl) (by decide) ?_; clear hf a; intro a hf
  refine gL hf (g_mv hf rfl) (by decide) ?_; clear hf a; intro a hf
  refine e_nil ?_
  refine c_block ?_
  refine c_loop hf hs (List.range' 6 1 ++ List.range' 8 1 ++ List.range' 13 27) (σ := Nat) (fun k => [(13, .int .i64 (k : Nat))]) (fun k => _) (fun k => k ≤ b.rules.length ∧ ∀ j, j < k → stopAt mp d i (b.rules.getD j default) = false) (fun k => b.rules.length - k) 0 ⟨by omega, fun z hz => absurd hz (by omega)⟩ (.cons rfl .nil) rfl ?_
  intro k a w hJ hf hs
  obtain ⟨hk, hp⟩ := hJ
  refine c_reg ?_
  refine gL hf (g_lss hf rfl rfl) (by decide) ?_; clear hf a; intro a hf
  refine e_nil ?_
  refine c_condS hf rfl (fun hc1 => ?_) (fun hc1 => ?_)
  · try simp only [decide_eq_true_eq, decide_eq_false_iff_not] at hc1
    have hr := hv.rule _ (getD_mem (l := b.rules) (i := k) (by omega)); have hmany := hv.many
    refine c_skip (q_thenN ?_)
    refine c_blockS ?_
    refine c_reg ?_
    (first | (refine gL hf (g_ixE hf hs (.tail _ (.head _)) SL23 rfl rfl (by omega)) (by decide) ?_) | (refine gL hf (g_ixD hf hs (.tail _ (.head _)) SL23 rfl rfl (by omega)) (by decide) ?_)); clear hf a; intro a hf
    refine gL hf (g_ldEW hf hs (.tail _ (.head _)) T64 rfl rfl (by omega)) (by decide) ?_; clear hf a; intro a hf
    refine vL hf (v_alloc hs T64 rfl) (by decide) ?_; clear hs hf a; rintro _ w ⟨b3, rfl, hs⟩ a hf
    refine uL (u_stW hf hs T64 rfl rfl rfl (k := 0) rfl rfl rfl) ?_; clear hs; intro w hs; dsimp only [List.set] at hs
    refine e_nil ?_
    refine c_reg ?_
    refine gL hf (g_fa (off' := 0) hf F64_0 rfl rfl) (by decide) ?_; clear hf a; intro a hf
    refine gL hf (g_ld hf hs T3 rfl (k := 0) rfl rfl) (by decide) ?_; clear hf a; intro a hf
    refine gL hf (g_mv hf rfl) (by decide) ?_; clear hf a; intro a hf
    refine gL hf (g_eql hf rfl rfl) (by decide) ?_; clear hf a; intro a hf
    refine gL hf (g_mv hf rfl) (by decide) ?_; clear hf a; intro a hf
    refine ggL hf rfl rfl (gyes_t _) (fun hg => g_fa (off' := 4) hf F69_1 rfl rfl) (by decide) ?_; clear hf a; intro a hf
    refine ggL hf rfl rfl (gyes_t _) (fun hg => g_ld hf hs T67 (ev_gv rfl hg) (k := 2) rfl rfl) (by decide) ?_; clear hf a; intro a hf
    refine ggL hf rfl rfl (gyes_t _) (fun hg => g_fa (off' := 0) hf F64_0 rfl rfl) (by decide) ?_; clear hf a; intro a hf
    refine ggL hf rfl rfl (gyes_t _) (fun hg => g_ld hf hs T3 (ev_gv rfl hg) (k := 0) rfl rfl) (by decide) ?_; clear hf a; intro a hf
    refine ggL hf rfl rfl (gyes_t _) (fun hg => g_fa (off' := 1) hf F64_1 rfl rfl) (by decide) ?_; clear hf a; intro a hf
    refine ggL hf rfl rfl (gyes_t _) (fun hg => g_ld hf hs T3 (ev_gv rfl hg) (k := 0) rfl rfl) (by decide) ?_; clear hf a; intro a hf
    refine ggL hf rfl rfl (gyes_t _) (fun hg => g_bld hf [[.int .i64 0], [.int .i64 0]] (.cons (ev_gv rfl hg) (.cons (ev_gv rfl hg) .nil)) (fun _ => by kernel_rfl)) (by decide) ?_; clear hf a; intro a hf
    refine ggL hf rfl rfl (gyes_t _) (fun hg => g_lookD hf hs (.tail _ (.tail _ (.head _))) MT67 (ev_gv rfl hg) (ev_gv rfl hg)) (by decide) ?_; clear hf a; intro a hf
    refine ggL hf rfl rfl (gyes_t _) (fun hg => g_gtr hf (ev_gv rfl hg) rfl) (by decide) ?_; clear hf a; intro a hf
    refine gL hf (g_and hf rfl rfl) (by decide) ?_; clear hf a; intro a hf
    refine gL hf (g_mv hf rfl) (by decide) ?_; clear hf a; intro a hf
    refine ggL hf rfl rfl (gyes_t _) (fun hg => g_fa (off' := 1) hf F64_1 rfl rfl) (by decide) ?_; clear hf a; intro a hf
    refine ggL hf rfl rfl (gyes_t _) (fun hg => g_ld hf hs T3 (ev_gv rfl hg) (k := 0) rfl rfl) (by decide) ?_; clear hf a; intro a hf
    refine ggL hf rfl rfl (gyes_t _) (fun hg => g_ixA hf AR102 rfl (ev_gv rfl hg) (by omega)) (by decide) ?_; clear hf a; intro a hf
    refine ggL hf rfl rfl (gyes_t _) (fun hg => g_ld hf hs T4 (ev_gv rfl hg) (k := 1) rfl (dn_get hd (by omega))) (by decide) ?_; clear hf a; intro a hf
    refine ggL hf rfl rfl (gyes_t _) (fun hg => g_not hf (ev_gv rfl hg)) (by decide) ?_; clear hf a; intro a hf
    refine gL hf (g_and hf rfl rfl) (by decide) ?_; clear hf a; intro a hf
    refine e_nil ?_
    refine c_cond hf rfl (fun hc2 => ?_) (fun hc2 => ?_)
    · skip
      refine c_reg ?_
      refine gL hf (g_as hf rfl) (by decide) ?_; clear hf a; intro a hf
      refine e_nil ?_
      refine c_ret (q_blkR (q_thenR (q_thenR (q_blkR (q_thenR ?_)))))
      refine e_ret1 hf rfl rfl ?_
      exact ⟨by rw [stop_yes (k := k) (by omega) hc2], hs.below⟩
    · skip
      refine c_skip (q_blkN (q_thenN ?_))
      refine c_reg1 ?_
      refine gL hf (g_addI hf rfl rfl (by omega)) (by decide) ?_; clear hf a; intro a hf
      refine gL hf (g_mv hf rfl) (by decide) ?_; clear hf a; intro a hf
      refine e_nil1 (q_thenN ?_)
      exact ⟨k + 1, ⟨by omega, lt_succ hp hc2⟩, (by omega), hf.back (by repeat (first | (with_reducible exact Ext.base) | ((with_reducible refine Ext.cons ?_ ?_); (· rfl)) | ((with_reducible refine Ext.over ?_ ?_ ?_); (· rfl); (· rfl)))) (allKeys rfl) (.cons rfl .nil), hs.dropN 1⟩
  · try simp only [decide_eq_true_eq, decide_eq_false_iff_not] at hc1
    refine c_exit (q_thenX (q_thenX (q_blkX (q_thenN ?_))))
    refine c_reg ?_
    refine gL hf (g_as hf rfl) (by decide) ?_; clear hf a; intro a hf
    refine e_nil ?_
    refine c_ret ?_
    refine e_ret1 hf rfl rfl ?_
    exact ⟨by rw [stop_no (fun j hj => hp j (by omega))], hs.below⟩

end Go.Proofs.YtpjhffockmnjbaaDoor
