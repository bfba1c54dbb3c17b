/- The law HomeKnown returns true: what is said of single books. Conditions: the tables of the sides and of what is told hold what the text of the program lays. -/
import Derived.Test.YtjjcopeedcdokaaDoorComF
import Derived.Test.YtjjcopeedcdokaaDoorTie
import Derived.Test.YtjjcopeedcdokaaDoorCards
set_option linter.unusedVariables false
set_option linter.unusedSimpArgs false
namespace Go.Proofs.YtjjcopeedcdokaaDoor
open Go.RowKit
section
variable {P : Program} {ds : List Deferred} {a : Act} {n : Nat} {L : Regs} {w w' : World} {t : TypeId} {w0 : Base} {Ds : List (World → Prop)} {H : Own}
theorem g_ixOc (hf : Fr ds a n L) {ts e : TypeId} {sz : Nat} (hT : SlT P ts e sz) {x y : Operand} {b off off' len c : Nat} {k : IntKind} {i : Int} (hx : ev L x = some (.slice (some ⟨b, off, none⟩) len c)) (hy : ev L y = some (.int k i)) (h : 0 ≤ i ∧ i < len) (ho : off + i.toNat * sz = off') :
    Gets P (.indexAddr ts x y) t a w (.pointer (some ⟨b, off', none⟩)) := ho ▸ g_ixO hf hT hx hy h
end
section
variable {b : Sheet} (h : checkB b = false)
include h
end
end Go.Proofs.YtjjcopeedcdokaaDoor

set_option linter.unusedVariables false
set_option linter.unusedSimpArgs false
namespace Go.Proofs.YtjjcopeedcdokaaDoor
open Go.RowKit
section
variable {P : Program} {ds : List Deferred} {a : Act} {n : Nat} {L : Regs} {w : World} {t : TypeId} {w0 : Base} {Ds : List (World → Prop)} {H : Own}
theorem g_fld (hf : Fr ds a n L) {s : TypeId} {f off : Nat} (hT : FvT P s f off) {x : Operand} {cs : Array Value} {v : Value} (hx : ev L x = some (.agg cs)) (hv : cs[off]? = some v) : Gets P (.field s x f) t a w v := by
  intro d p af g
  simp [execOp, hf.eval hx, hT cs v w hv]
variable {mt kt et : TypeId}
end
end Go.Proofs.YtjjcopeedcdokaaDoor

set_option linter.unusedVariables false
set_option linter.unusedSimpArgs false
namespace Go.Proofs.YtjjcopeedcdokaaDoor
open Go.RowKit
theorem SL73 : SlT Tryd.prog 73 28 8 := ⟨fun _ => by kernel_rfl, fun _ => by kernel_rfl⟩
theorem FV28_4 : FvT Tryd.prog 28 4 7 := FvT.mk Tryd.underlying28 rfl (fun w => by kernel_rfl) rfl
theorem E59 : Enters Tryd.prog 59 := fun _ _ => by kernel_rfl
end Go.Proofs.YtjjcopeedcdokaaDoor

set_option linter.unusedVariables false
set_option linter.unusedSimpArgs false
namespace Go.Proofs.YtjjcopeedcdokaaDoor
open Go.RowKit
theorem c_looseH (w0 : World) :
    Calls Tryd.prog 59 #[] w0 (RetX w0 (fun v w0' => ∃ bf br b1 b2 bw, v = chBV bf br bw ∧ BkC 6 150 bf br b1 b2 bw w0.heap.size w0')) := by
  refine c_enter (n := 2) Tryd.func59 rfl rfl (Nat.le_of_ble_eq_true rfl) ?_; intro a hf; simp only [zipR] at hf
  have hs := St.start w0 [] (by simp)
  refine c_reg ?_
  refine vL hf (v_alloc hs T28 rfl) (by decide) ?_; clear hs hf a; rintro _ w ⟨b1, rfl, hs⟩ a hf
  refine e_nil ?_
  refine c_reg ?_
  refine callX hf hs (c_bookH _ _ _) rfl rfl rfl E57 (by decide) ?_; intro v w1 a hR hb hs1 hf; obtain ⟨bf, br, p, q, bw, rfl, hbc⟩ := hR; replace hs := hs.fresh hs1 (bkCFresh (m := w0.heap.size) hbc hs.below.size); clear hs1 hb
  refine uL (u_stW hf hs T28 rfl rfl rfl (k := 0) rfl rfl rfl) ?_; clear hs; intro w hs; dsimp only [List.set] at hs
  refine e_nil ?_
  refine c_ret ?_
  refine e_res hf hs rfl (.cellA T28 rfl (k := 0) rfl rfl .nil) rfl ?_
  exact ⟨_, rfl, hs.below, bf, br, p, q, bw, rfl, hs.rd (.head _)⟩

end Go.Proofs.YtjjcopeedcdokaaDoor

set_option linter.unusedVariables false
set_option linter.unusedSimpArgs false
namespace Go.Proofs.YtjjcopeedcdokaaDoor
open Go.RowKit
section
variable {P : Program} {ds : List Deferred} {a : Act} {n d : Nat} {L : Regs} {w : World} {o : Op} {t : TypeId} {p : String} {af : Array Edge} {ops : Array Oper} {S : World → Prop} {Q : Exit → Act → World → Prop} {i : Nat}
end
def shT : Sheet := ⟨4, 4, [⟨0, 3, 3, 0, 3⟩, ⟨1, 2, 3, 0, 3⟩], [⟨0, 1⟩]⟩
def bkT (o : Option Addr) : Bk := ⟨shT, 10, 7, 1, [⟨25, [1, 0], 19, 22, 2, 2, o, 2⟩]⟩
section
variable (o : Option Addr)
end
def tpF : Array Value := (shT.flaps.flatMap encF).toArray
def tpR : Array Value := (shT.rules.flatMap encR).toArray
def tpW (b1 : Nat) : Array Value := ((bkT (some ⟨b1, 0, none⟩)).ws.flatMap encW).toArray
def TpIn (bf br m : Nat) (w : World) : Prop := m ≤ bf ∧ m ≤ br ∧ w.heap[bf]? = some (.cells tpF 117 (0, 0)) ∧ w.heap[br]? = some (.cells tpR 51 (0, 0))
theorem TpIn.sh {bf br m : Nat} {w : World} (h : TpIn bf br m w) : ShIn shT (some ⟨bf, 0, none⟩) 2 (some ⟨br, 0, none⟩) 1 w :=
  ⟨rd_of_flat (sz := 5) (len := 2) (fun _ => rfl) (by decide) h.2.2.1 rfl (by decide) rfl, rd_of_flat (sz := 2) (len := 1) (fun _ => rfl) (by decide) h.2.2.2 rfl (by decide) rfl, Nat.le_refl _, Nat.le_refl _⟩
structure TpB (bf br b1 bw m : Nat) (w : World) : Prop where
  ch : TpIn bf br m w
  m1 : m ≤ b1
  mw : m ≤ bw
  h1 : w.heap[b1]? = some (.cells #[.int .i64 1, .int .i64 0] 3 (0, 0))
  hw : w.heap[bw]? = some (.cells (tpW b1) 47 (0, 0))
theorem TpB.bk {bf br b1 bw m : Nat} {w : World} (h : TpB bf br b1 bw m w) : BkIn (bkT (some ⟨b1, 0, none⟩)) (some ⟨bf, 0, none⟩) 2 (some ⟨br, 0, none⟩) 1 (some ⟨bw, 0, none⟩) 1 w :=
  ⟨h.ch.sh, rd_of_flat (sz := 6) (len := 1) (fun _ => rfl) (by decide) h.hw rfl (by decide) rfl, Nat.le_refl _, fun x hx => by
    rw [List.mem_singleton.1 hx]
    exact ⟨Nat.le_refl _, rd_of_flat (sz := 1) (len := 2) (fun _ => rfl) (by decide) h.h1 rfl (by decide) rfl⟩⟩
end Go.Proofs.YtjjcopeedcdokaaDoor

set_option linter.unusedVariables false
set_option linter.unusedSimpArgs false
namespace Go.Proofs.YtjjcopeedcdokaaDoor
open Go.RowKit
/-- The book's other four blocks. -/
def BkP (most : Int) (bf br b1 b2 : Nat) (w : World) : Prop := w.heap[bf]? = some (.cells (chF 5 most) 117 (0, 0)) ∧ w.heap[br]? = some (.cells chR 51 (0, 0)) ∧ w.heap[b1]? = some (.cells #[.int .i64 1, .int .i64 2, .int .i64 0, .int .i64 3] 3 (0, 0)) ∧ w.heap[b2]? = some (.cells #[.int .i64 0, .int .i64 1, .int .i64 2, .int .i64 3] 3 (0, 0))
theorem BkP.sh {most : Int} {bf br b1 b2 : Nat} {w : World} (h : BkP most bf br b1 b2 w) : ShIn (chapB 5 most) (some ⟨bf, 0, none⟩) 4 (some ⟨br, 0, none⟩) 4 w :=
  ⟨rd_of_flat (sz := 5) (len := 4) (fun _ => rfl) (by decide) h.1 rfl (by decide) rfl, rd_of_flat (sz := 2) (len := 4) (fun _ => rfl) (by decide) h.2.1 rfl (by decide) rfl, Nat.le_refl _, Nat.le_refl _⟩
theorem BkP.r1 {most : Int} {bf br b1 b2 : Nat} {w : World} (h : BkP most bf br b1 b2 w) : Rd encI 1 (some ⟨b1, 0, none⟩) 4 [1, 2, 0, 3] w := rd_of_flat (sz := 1) (len := 4) (fun _ => rfl) (by decide) h.2.2.1 rfl (by decide) rfl
theorem BkP.r2 {most : Int} {bf br b1 b2 : Nat} {w : World} (h : BkP most bf br b1 b2 w) : Rd encI 1 (some ⟨b2, 0, none⟩) 4 [0, 1, 2, 3] w := rd_of_flat (sz := 1) (len := 4) (fun _ => rfl) (by decide) h.2.2.2 rfl (by decide) rfl
section
variable {w w' : World} {w0 : Base} {Ds : List (World → Prop)} {H : Own}
/-- A book that is handed over: its workers are the caller's to write. -/
theorem St.adoptB (hs : St w0 Ds H w) (hb : Below w.heap.size w w') {most sheets : Int} {bf br b1 b2 bw : Nat} (h : BkC most sheets bf br b1 b2 bw w.heap.size w') : St w0 (BkP most bf br b1 b2 :: Ds) ((bw, .cells (chWs sheets b1 b2) 47 (0, 0)) :: H) w' := by
  obtain ⟨⟨c1, c2, c3, c4, c5⟩, m1, m2, mw, nd, h1, h2, hw⟩ := h
  have hs2 := hs.adopt hb mw hw
  simp only [List.nodup_cons, List.mem_cons, List.not_mem_nil, or_false, not_or, List.nodup_nil, and_true, not_false_eq_true] at nd
  have key : ∀ b o, w'.heap[b]? = some o → w.heap.size ≤ b → b ≠ bw → ∀ w'', Later (w0.ex ++ ids ((bw, .cells (chWs sheets b1 b2) 47 (0, 0)) :: H)) w' w'' → w''.heap[b]? = some o := fun b o hbo hm hne w'' hl => by
    rw [hl.2 b (Array.getElem?_eq_some_iff.1 hbo).1 fun hx => ?_]; exact hbo
    rcases List.mem_append.1 hx with hx | hx
    · have := w0.exno _ hs.below b hx; omega
    · simp only [ids, List.map_cons, List.mem_cons] at hx
      rcases hx with hx | hx
      · exact hne hx
      · exact absurd (hs.lt' hx) (by omega)
  refine hs2.addD fun w'' hl => ⟨key _ _ c4 c1 (fun e => ?_) _ hl, key _ _ c5 c2 (fun e => ?_) _ hl, key _ _ h1 m1 (fun e => ?_) _ hl, key _ _ h2 m2 (fun e => ?_) _ hl⟩ <;> subst e <;> simp_all
end
theorem St.cellsEq {w : World} {w0 : Base} {Ds : List (World → Prop)} {K : Own} (hs : St w0 Ds K w) {j b : Nat} {cs cs' : Array Value} {e : TypeId} {fz : Nat × Nat} (hk : K[j]? = some (b, .cells cs e fz)) (h : cs = cs') : St w0 Ds (K.set j (b, .cells cs' e fz)) w := by
  subst h
  rwa [show K.set j (b, .cells cs e fz) = K from by
    obtain ⟨hj, hv⟩ := List.getElem?_eq_some_iff.1 hk
    rw [← hv, List.set_getElem_self]]
section
variable {k : Bk} (h : hckB k = false)
include h
theorem bad_book : bookE k = 90 := by unfold bookE; rw [h]; rfl
theorem bad_ah (w : Int) : askH k w = 90 := by unfold askH; rw [h]; rfl
theorem bad_tog : togE k = 90 := by unfold togE; rw [h]; rfl
theorem bad_right (w : Int) : rightP k w = (false, 90) := by unfold rightP; rw [bad_ah h]; rfl
theorem bad_tell (w : Int) (what : Nat) : tellP k w what = ((0, 0), 90) := by unfold tellP; rw [bad_ah h]; rfl
theorem bad_total : totalP k = ((0, 0), 90) := by unfold totalP; rw [bad_tog h]; rfl
theorem bad_gross : grossP k = ((0, 0), 90) := by unfold grossP; rw [bad_tog h]; rfl
theorem bad_wrong : wrongP k = ([], 90) := by unfold wrongP; rw [h]; rfl
theorem bad_teach : teachP k = (0, 90) := by unfold teachP; rw [bad_tog h]; rfl
theorem bad_aska : askP k = (0, 90) := by unfold askP; rw [bad_tog h]; rfl
end
/-- A book, and where it lies. -/
structure BE where
  k : Bk
  fA : Option Addr
  fc : Nat
  rA : Option Addr
  rc : Nat
  wA : Option Addr
  wc : Nat
instance : Inhabited BE := ⟨⟨⟨⟨0, 0, [], []⟩, 0, 0, 0, []⟩, none, 0, none, 0, none, 0⟩⟩
def encBE (e : BE) : List Value := [.int .i64 e.k.sh.wide, .int .i64 e.k.sh.high, .slice e.fA e.k.sh.flaps.length e.fc, .slice e.rA e.k.sh.rules.length e.rc, .int .i64 e.k.gross, .int .i64 e.k.pay, .int .i64 e.k.fine, .slice e.wA e.k.ws.length e.wc]
def EIn (e : BE) (w : World) : Prop := hckB e.k = false ∧ BkIn e.k e.fA e.fc e.rA e.rc e.wA e.wc w
def EAll (es : List BE) (w : World) : Prop := ∀ e ∈ es, EIn e w
theorem EAll.stable {es : List BE} {w : World} (h : EAll es w) : Stable [] w (EAll es) := fun w' hl e he => by
  obtain ⟨h1, h2⟩ := h e he
  exact ⟨h1, ⟨h2.sh.F.stable (by simp) w' hl, h2.sh.R.stable (by simp) w' hl, h2.sh.fc_, h2.sh.rc_⟩, h2.W.stable (by simp) w' hl, h2.wc_, h2.O.stable (fun _ _ _ _ _ => by simp) w' hl⟩
theorem EAll.get {es : List BE} {w : World} (h : EAll es w) {n : Nat} (hl : es.length = n) {i : Nat} (hi : i < n) : EIn (es.getD i default) w := h _ (getD_mem (by omega))
theorem eall_nil {w : World} : EAll [] w := fun _ h => by cases h
theorem eall_cons {e : BE} {es : List BE} {w : World} (h : EIn e w) (hl : EAll es w) : EAll (e :: es) w := fun x hx => by
  rcases List.mem_cons.1 hx with rfl | hx
  · exact h
  · exact hl x hx
abbrev ad (b : Nat) : Option Addr := some ⟨b, 0, none⟩
/-- The spoiled books. -/
def e0 : BE := default
def eS (bf br p q bw : Nat) (wd g py fi : Int) : BE := ⟨⟨{ chapB 5 5 with wide := wd }, g, py, fi, [chW1 (ad p), chW2 150 (ad q)]⟩, ad bf, 4, ad br, 4, ad bw, 2⟩
def eW (bf br : Nat) (wA : Option Addr) (wc : Nat) (ws : List Wkr) : BE := ⟨⟨chapB 5 5, 144, 60, 2, ws⟩, ad bf, 4, ad br, 4, wA, wc⟩
section
variable (o1 o2 : Option Addr)
theorem q_r2 : rightP (chBk 5 139 o1 o2) 2 = (false, 91) := by kernel_rfl
theorem q_pm : tellP (chBk 5 139 o1 o2) (-1) 0 = ((0, 0), 91) := by kernel_rfl
theorem q_g2 : tellP (chBk 5 139 o1 o2) 2 2 = ((0, 0), 91) := by kernel_rfl
theorem q_p1 : tellP (chBk 5 139 o1 o2) 1 0 = ((0, 0), 92) := by kernel_rfl
theorem q_m1 : tellP (chBk 5 139 o1 o2) 1 1 = ((0, 0), 92) := by kernel_rfl
theorem q_g1 : tellP (chBk 5 139 o1 o2) 1 2 = ((0, 0), 92) := by kernel_rfl
theorem q_t : totalP (chBk 5 139 o1 o2) = ((0, 0), 92) := by kernel_rfl
theorem q_gr : grossP (chBk 5 139 o1 o2) = ((0, 0), 92) := by kernel_rfl
theorem q_te : teachP (chBk 5 139 o1 o2) = (0, 92) := by kernel_rfl
theorem q_as : askP (chBk 5 139 o1 o2) = (0, 92) := by kernel_rfl
theorem q_op1 : tellP (chBk 5 150 o1 o2) 1 0 = ((0, 0), 0) := by kernel_rfl
theorem q_om0 : tellP (chBk 5 150 o1 o2) 0 1 = ((4, 8), 0) := by kernel_rfl
theorem q_og1 : tellP (chBk 5 150 o1 o2) 1 2 = ((-20, -6), 0) := by kernel_rfl
theorem q_lp : tellP (chBk 6 150 o1 o2) 0 0 = ((0, 290), 0) := by kernel_rfl
theorem q_lg : tellP (chBk 6 150 o1 o2) 0 2 = ((-16, 112), 0) := by kernel_rfl
theorem q_lgr : grossP (chBk 6 150 o1 o2) = ((0, 2), 0) := by kernel_rfl
theorem q_wg : tellP (chBk 5 139 o1 o2) 0 2 = ((104, 112), 0) := by kernel_rfl
theorem q_wr : rightP (chBk 5 139 o1 o2) 1 = (false, 0) := by kernel_rfl
theorem q_ow : wrongP (chBk 5 150 o1 o2) = ([], 0) := by kernel_rfl
theorem q_lt : teachP (chBk 6 150 o1 o2) = (0, 4) := by kernel_rfl
theorem q_la : askP (chBk 6 150 o1 o2) = (0, 0) := by kernel_rfl
end
/-- A book without workers. -/
def kE : Bk := ⟨chapB 5 5, 144, 60, 2, []⟩
theorem e_t : totalP kE = ((0, 0), 0) := by kernel_rfl
theorem e_g : grossP kE = ((0, 0), 0) := by kernel_rfl
theorem e_te : teachP kE = (0, 4) := by kernel_rfl
theorem e_a : askP kE = (0, 4) := by kernel_rfl
abbrev ws2 (s : Int) (p q : Nat) : List Wkr := [chW1 (ad p), chW2 s (ad q)]
end Go.Proofs.YtjjcopeedcdokaaDoor

set_option linter.unusedVariables false
set_option linter.unusedSimpArgs false
namespace Go.Proofs.YtjjcopeedcdokaaDoor
open Go.RowKit
set_option maxHeartbeats 8000000 in
set_option maxRecDepth 100000 in
theorem c_HomeKnown (ge : TypeId) (gz : Nat × Nat) (te : TypeId) (tz : Nat × Nat) (w0 : World) (hG : BlkIs 1 sidesA ge gz w0) (hT : BlkIs 0 toldA te tz w0) :
    Calls Tryd.prog 15 #[] w0 (Ret w0 (.bool true)) := by
  refine c_enter (n := 523) Tryd.func15 rfl rfl (Nat.le_of_ble_eq_true rfl) ?_; intro a hf; simp only [zipR] at hf
  have hs := St.start w0 [BlkIs 1 sidesA ge gz, BlkIs 0 toldA te tz] (stab_app hG.st1 hT.st1)
  refine c_reg ?_
  refine gL hf (g_as hf rfl) (by decide) ?_; clear hf a; intro a hf
  refine e_nil ?_
  refine c_reg ?_
  refine gL hf (g_bld hf [[.int .i64 0, .int .i64 0, .slice none 0 0, .slice none 0 0], [.int .i64 0], [.int .i64 0], [.int .i64 0], [.slice none 0 0]] .nil (fun _ => by kernel_rfl)) (by decide) ?_; clear hf a; intro a hf
  refine callX hf hs (c_ownH _) rfl rfl rfl E56 (by decide) ?_; intro v w1 a hR hb hs1 hf; obtain ⟨bf1, br1, p1, q1, bw1, rfl, hbc⟩ := hR; replace hs := hs.fresh hs1 (bkCFresh (m := w0.heap.size) hbc hs.below.size); clear hs1 hb
  refine callX hf hs (c_ownH _) rfl rfl rfl E56 (by decide) ?_; intro v w1 a hR hb hs1 hf; obtain ⟨bf2, br2, p2, q2, bw2, rfl, hbc⟩ := hR; replace hs := hs.fresh hs1 (bkCFresh (m := w0.heap.size) hbc hs.below.size); clear hs1 hb
  refine callX hf hs (c_ownH _) rfl rfl rfl E56 (by decide) ?_; intro v w1 a hR hb hs1 hf; obtain ⟨bf3, br3, p3, q3, bw3, rfl, hbc⟩ := hR; replace hs := hs.fresh hs1 (bkCFresh (m := w0.heap.size) hbc hs.below.size); clear hs1 hb
  refine callX hf hs (c_ownH _) rfl rfl rfl E56 (by decide) ?_; intro v w1 a hR hb hs1 hf; obtain ⟨bf4, br4, p4, q4, bw4, rfl, hbc⟩ := hR; replace hs := hs.fresh hs1 (bkCFresh (m := w0.heap.size) hbc hs.below.size); clear hs1 hb
  refine callX hf hs (c_ownH _) rfl rfl rfl E56 (by decide) ?_; intro v w1 a hR hb hs1 hf; obtain ⟨bf5, br5, p5, q5, bw5, rfl, hbc⟩ := hR; replace hs := hs.fresh hs1 (bkCFresh (m := w0.heap.size) hbc hs.below.size); clear hs1 hb
  refine callX hf hs (c_ownH _) rfl rfl rfl E56 (by decide) ?_; intro v w1 a hR hb hs1 hf; obtain ⟨bf6, br6, p6, q6, bw6, rfl, hbc⟩ := hR; replace hs := hs.fresh hs1 (bkCFresh (m := w0.heap.size) hbc hs.below.size); clear hs1 hb
  refine callX hf hs (c_ownH _) rfl rfl rfl E56 (by decide) ?_; intro v w1 a hR hb hs1 hf; obtain ⟨bf7, br7, p7, q7, bw7, rfl, hbc⟩ := hR; replace hs := hs.adoptB hb hbc; clear hs1 hb hbc
  refine callX hf hs (c_ownH _) rfl rfl rfl E56 (by decide) ?_; intro v w1 a hR hb hs1 hf; obtain ⟨bf8, br8, p8, q8, bw8, rfl, hbc⟩ := hR; replace hs := hs.adoptB hb hbc; clear hs1 hb hbc
  refine callX hf hs (c_ownH _) rfl rfl rfl E56 (by decide) ?_; intro v w1 a hR hb hs1 hf; obtain ⟨bf9, br9, p9, q9, bw9, rfl, hbc⟩ := hR; replace hs := hs.adoptB hb hbc; clear hs1 hb hbc
  refine callX hf hs (c_ownH _) rfl rfl rfl E56 (by decide) ?_; intro v w1 a hR hb hs1 hf; obtain ⟨bf10, br10, p10, q10, bw10, rfl, hbc⟩ := hR; replace hs := hs.adoptB hb hbc; clear hs1 hb hbc
  refine callX hf hs (c_bookH 5 601 _) rfl rfl rfl E57 (by decide) ?_; intro v w1 a hR hb hs1 hf; obtain ⟨bf11, br11, p11, q11, bw11, rfl, hbc⟩ := hR; replace hs := hs.fresh hs1 (bkCFresh (m := w0.heap.size) hbc hs.below.size); clear hs1 hb
  refine vL hf (v_lits (len := 12) hf hs SL73 T28 (.cons rfl (.cons rfl (.cons rfl (.cons rfl (.cons rfl (.cons rfl (.cons rfl (.cons rfl (.cons rfl (.cons rfl (.cons rfl (.cons rfl .nil)))))))))))) rfl rfl rfl rfl (by decide) rfl) (by decide) ?_; clear hs hf a; rintro _ w ⟨ba, rfl, hs⟩ a hf
  refine gL hf (g_as hf rfl) (by decide) ?_; clear hf a; intro a hf
  refine e_nil ?_
  replace hs := hs.cellsEq (j := 0) (cs' := #[.int .i64 0, .int .i64 0, .slice none 0 0, .slice none 0 0, .int .i64 0, .int .i64 0, .int .i64 0, .slice none 0 0, .int .i64 (10), .int .i64 8, .slice (ad bf1) 4 4, .slice (ad br1) 4 4, .int .i64 (144), .int .i64 (60), .int .i64 (2), .slice (ad bw1) 2 2, .int .i64 (10), .int .i64 8, .slice (ad bf2) 4 4, .slice (ad br2) 4 4, .int .i64 (144), .int .i64 (60), .int .i64 (2), .slice (ad bw2) 2 2, .int .i64 (10), .int .i64 8, .slice (ad bf3) 4 4, .slice (ad br3) 4 4, .int .i64 (144), .int .i64 (60), .int .i64 (2), .slice (ad bw3) 2 2, .int .i64 (10), .int .i64 8, .slice (ad bf4) 4 4, .slice (ad br4) 4 4, .int .i64 (144), .int .i64 (60), .int .i64 (2), .slice (ad bw4) 2 2, .int .i64 (10), .int .i64 8, .slice (ad bf5) 4 4, .slice (ad br5) 4 4, .int .i64 (144), .int .i64 (60), .int .i64 (2), .slice (ad bw5) 2 2, .int .i64 (10), .int .i64 8, .slice (ad bf6) 4 4, .slice (ad br6) 4 4, .int .i64 (144), .int .i64 (60), .int .i64 (2), .slice (ad bw6) 2 2, .int .i64 (10), .int .i64 8, .slice (ad bf7) 4 4, .slice (ad br7) 4 4, .int .i64 (144), .int .i64 (60), .int .i64 (2), .slice (ad bw7) 2 2, .int .i64 (10), .int .i64 8, .slice (ad bf8) 4 4, .slice (ad br8) 4 4, .int .i64 (144), .int .i64 (60), .int .i64 (2), .slice (ad bw8) 2 2, .int .i64 (10), .int .i64 8, .slice (ad bf9) 4 4, .slice (ad br9) 4 4, .int .i64 (144), .int .i64 (60), .int .i64 (2), .slice (ad bw9) 2 2, .int .i64 (10), .int .i64 8, .slice (ad bf10) 4 4, .slice (ad br10) 4 4, .int .i64 (144), .int .i64 (60), .int .i64 (2), .slice (ad bw10) 2 2, .int .i64 (10), .int .i64 8, .slice (ad bf11) 4 4, .slice (ad br11) 4 4, .int .i64 (144), .int .i64 (60), .int .i64 (2), .slice (ad bw11) 2 2]) rfl (by kernel_rfl); dsimp only [List.set] at hs
  refine c_reg ?_
  refine gL hf (g_mv hf rfl) (by decide) ?_; clear hf a; intro a hf
  refine gL hf (g_ixOc (off' := 8) hf SL73 rfl rfl (by omega) rfl) (by decide) ?_; clear hf a; intro a hf
  refine gL hf (g_fa (off' := 8) hf F28_0 rfl rfl) (by decide) ?_; clear hf a; intro a hf
  refine gL hf (g_fa (off' := 8) hf F25_0 rfl rfl) (by decide) ?_; clear hf a; intro a hf
  refine uL (u_st hf hs T3 rfl rfl rfl (k := 0) rfl (Nat.le_of_ble_eq_true rfl)) ?_; clear hs; intro w hs; dsimp only [List.set] at hs
  refine e_nil ?_
  refine c_reg ?_
  refine gL hf (g_mv hf rfl) (by decide) ?_; clear hf a; intro a hf
  refine gL hf (g_ixOc (off' := 16) hf SL73 rfl rfl (by omega) rfl) (by decide) ?_; clear hf a; intro a hf
  refine gL hf (g_fa (off' := 20) hf F28_1 rfl rfl) (by decide) ?_; clear hf a; intro a hf
  refine uL (u_st hf hs T3 rfl rfl rfl (k := 0) rfl (Nat.le_of_ble_eq_true rfl)) ?_; clear hs; intro w hs; dsimp only [List.set] at hs
  refine e_nil ?_
  refine c_reg ?_
  refine gL hf (g_mv hf rfl) (by decide) ?_; clear hf a; intro a hf
  refine gL hf (g_ixOc (off' := 24) hf SL73 rfl rfl (by omega) rfl) (by decide) ?_; clear hf a; intro a hf
  refine gL hf (g_fa (off' := 28) hf F28_1 rfl rfl) (by decide) ?_; clear hf a; intro a hf
  refine uL (u_st hf hs T3 rfl rfl rfl (k := 0) rfl (Nat.le_of_ble_eq_true rfl)) ?_; clear hs; intro w hs; dsimp only [List.set] at hs
  refine e_nil ?_
  refine c_reg ?_
  refine gL hf (g_mv hf rfl) (by decide) ?_; clear hf a; intro a hf
  refine gL hf (g_ixOc (off' := 32) hf SL73 rfl rfl (by omega) rfl) (by decide) ?_; clear hf a; intro a hf
  refine gL hf (g_fa (off' := 37) hf F28_2 rfl rfl) (by decide) ?_; clear hf a; intro a hf
  refine uL (u_st hf hs T3 rfl rfl rfl (k := 0) rfl (Nat.le_of_ble_eq_true rfl)) ?_; clear hs; intro w hs; dsimp only [List.set] at hs
  refine e_nil ?_
  refine c_reg ?_
  refine gL hf (g_mv hf rfl) (by decide) ?_; clear hf a; intro a hf
  refine gL hf (g_ixOc (off' := 40) hf SL73 rfl rfl (by omega) rfl) (by decide) ?_; clear hf a; intro a hf
  refine gL hf (g_fa (off' := 46) hf F28_3 rfl rfl) (by decide) ?_; clear hf a; intro a hf
  refine uL (u_st hf hs T3 rfl rfl rfl (k := 0) rfl (Nat.le_of_ble_eq_true rfl)) ?_; clear hs; intro w hs; dsimp only [List.set] at hs
  refine e_nil ?_
  refine c_reg ?_
  refine gL hf (g_mv hf rfl) (by decide) ?_; clear hf a; intro a hf
  refine callX hf hs (c_ownH _) rfl rfl rfl E56 (by decide) ?_; intro v w1 a hR hb hs1 hf; obtain ⟨bf12, br12, p12, q12, bw12, rfl, hbc⟩ := hR; replace hs := hs.fresh hs1 (bkCFresh (m := w0.heap.size) hbc hs.below.size); clear hs1 hb
  refine gL hf (g_fld hf FV28_4 rfl rfl) (by decide) ?_; clear hf a; intro a hf
  refine callX hf hs (c_ownH _) rfl rfl rfl E56 (by decide) ?_; intro v w1 a hR hb hs1 hf; obtain ⟨bf13, br13, p13, q13, bw13, rfl, hbc⟩ := hR; replace hs := hs.fresh hs1 (bkCFresh (m := w0.heap.size) hbc hs.below.size); clear hs1 hb
  refine gL hf (g_fld hf FV28_4 rfl rfl) (by decide) ?_; clear hf a; intro a hf
  refine vL hf (v_app hf hs AP26 (enc := encW) (fun _ => rfl) (by decide) rfl rfl (l := (ws2 150 p12 q12)) (l' := (ws2 150 p13 q13)) (hs.rd (.tail _ (.head _))).bk.W (hs.rd (.head _)).bk.W (by decide) (Nat.le_refl _) (fun e => by cases e) (by decide) (by decide)) (by decide) ?_; clear hs hf a; rintro _ w ⟨b6x, cs6x, rfl, hok6, hs⟩ a hf
  refine callX hf hs (c_ownH _) rfl rfl rfl E56 (by decide) ?_; intro v w1 a hR hb hs1 hf; obtain ⟨bf14, br14, p14, q14, bw14, rfl, hbc⟩ := hR; replace hs := hs.fresh hs1 (bkCFresh (m := w0.heap.size) hbc hs.below.size); clear hs1 hb
  refine gL hf (g_fld hf FV28_4 rfl rfl) (by decide) ?_; clear hf a; intro a hf
  refine vL hf (v_accN (e := 47) (o := some (b6x, cs6x)) (l := (ws2 150 p12 q12) ++ (ws2 150 p13 q13)) (l' := (ws2 150 p14 q14)) (len := 4) hf 0 hs rfl hok6 AP26 (enc := encW) (fun _ => rfl) (by decide) (by intro x v hv9; simp only [encW, List.mem_cons, List.not_mem_nil, or_false] at hv9; rcases hv9 with rfl | rfl | rfl | rfl | rfl | rfl <;> rfl) rfl rfl rfl (hs.rd (.head _)).bk.W (by decide) (by decide)) (by decide) ?_; clear hs hf a; rintro _ w ⟨o6y, rfl, hok6y, hs⟩ a hf; dsimp only [List.take, List.nil_append] at hs
  obtain ⟨b6y, cs6y, rfl⟩ : ∃ bc cs, o6y = some (bc, cs) := acc_some hok6y (by simp)
  dsimp only [accV] at hf; dsimp only [accH, List.cons_append, List.nil_append] at hs
  refine gL hf (g_ixOc (off' := 48) hf SL73 rfl rfl (by omega) rfl) (by decide) ?_; clear hf a; intro a hf
  refine gL hf (g_fa (off' := 55) hf F28_4 rfl rfl) (by decide) ?_; clear hf a; intro a hf
  refine uL (u_st hf hs T26 rfl rfl rfl (k := 1) rfl (Nat.le_of_ble_eq_true rfl)) ?_; clear hs; intro w hs; dsimp only [List.set] at hs
  refine e_nil ?_
  replace hs := hs.cellsEq (j := 1) (cs' := #[.int .i64 0, .int .i64 0, .slice none 0 0, .slice none 0 0, .int .i64 0, .int .i64 0, .int .i64 0, .slice none 0 0, .int .i64 (0), .int .i64 8, .slice (ad bf1) 4 4, .slice (ad br1) 4 4, .int .i64 (144), .int .i64 (60), .int .i64 (2), .slice (ad bw1) 2 2, .int .i64 (10), .int .i64 8, .slice (ad bf2) 4 4, .slice (ad br2) 4 4, .int .i64 (0), .int .i64 (60), .int .i64 (2), .slice (ad bw2) 2 2, .int .i64 (10), .int .i64 8, .slice (ad bf3) 4 4, .slice (ad br3) 4 4, .int .i64 (145), .int .i64 (60), .int .i64 (2), .slice (ad bw3) 2 2, .int .i64 (10), .int .i64 8, .slice (ad bf4) 4 4, .slice (ad br4) 4 4, .int .i64 (144), .int .i64 (1000), .int .i64 (2), .slice (ad bw4) 2 2, .int .i64 (10), .int .i64 8, .slice (ad bf5) 4 4, .slice (ad br5) 4 4, .int .i64 (144), .int .i64 (60), .int .i64 (-1), .slice (ad bw5) 2 2, .int .i64 (10), .int .i64 8, .slice (ad bf6) 4 4, .slice (ad br6) 4 4, .int .i64 (144), .int .i64 (60), .int .i64 (2), .slice (ad b6y) 6 (cs6y.size / 6), .int .i64 (10), .int .i64 8, .slice (ad bf7) 4 4, .slice (ad br7) 4 4, .int .i64 (144), .int .i64 (60), .int .i64 (2), .slice (ad bw7) 2 2, .int .i64 (10), .int .i64 8, .slice (ad bf8) 4 4, .slice (ad br8) 4 4, .int .i64 (144), .int .i64 (60), .int .i64 (2), .slice (ad bw8) 2 2, .int .i64 (10), .int .i64 8, .slice (ad bf9) 4 4, .slice (ad br9) 4 4, .int .i64 (144), .int .i64 (60), .int .i64 (2), .slice (ad bw9) 2 2, .int .i64 (10), .int .i64 8, .slice (ad bf10) 4 4, .slice (ad br10) 4 4, .int .i64 (144), .int .i64 (60), .int .i64 (2), .slice (ad bw10) 2 2, .int .i64 (10), .int .i64 8, .slice (ad bf11) 4 4, .slice (ad br11) 4 4, .int .i64 (144), .int .i64 (60), .int .i64 (2), .slice (ad bw11) 2 2]) rfl (by kernel_rfl); dsimp only [List.set] at hs
  refine c_reg ?_
  refine gL hf (g_mv hf rfl) (by decide) ?_; clear hf a; intro a hf
  refine gL hf (g_ixOc (off' := 56) hf SL73 rfl rfl (by omega) rfl) (by decide) ?_; clear hf a; intro a hf
  refine gL hf (g_fa (off' := 63) hf F28_4 rfl rfl) (by decide) ?_; clear hf a; intro a hf
  refine gL hf (g_ld hf hs T26 rfl (k := 1) rfl rfl) (by decide) ?_; clear hf a; intro a hf
  refine vL hf (v_lits (len := 3) hf hs SL31 T3 (.cons rfl (.cons rfl (.cons rfl .nil))) rfl rfl rfl rfl (by decide) rfl) (by decide) ?_; clear hs hf a; rintro _ w ⟨bo7, rfl, hs⟩ a hf
  refine gL hf (g_ixOc (off' := 0) hf SL26 rfl rfl (by omega) rfl) (by decide) ?_; clear hf a; intro a hf
  refine gL hf (g_fa (off' := 1) hf F47_1 rfl rfl) (by decide) ?_; clear hf a; intro a hf
  refine uL (u_st hf hs T31 rfl rfl rfl (k := 6) rfl (Nat.le_of_ble_eq_true rfl)) ?_; clear hs; intro w hs; dsimp only [List.set] at hs
  refine e_nil ?_
  refine c_reg ?_
  refine gL hf (g_mv hf rfl) (by decide) ?_; clear hf a; intro a hf
  refine gL hf (g_ixOc (off' := 64) hf SL73 rfl rfl (by omega) rfl) (by decide) ?_; clear hf a; intro a hf
  refine gL hf (g_fa (off' := 71) hf F28_4 rfl rfl) (by decide) ?_; clear hf a; intro a hf
  refine gL hf (g_ld hf hs T26 rfl (k := 2) rfl rfl) (by decide) ?_; clear hf a; intro a hf
  refine vL hf (v_lits (len := 4) hf hs SL31 T3 (.cons rfl (.cons rfl (.cons rfl (.cons rfl .nil)))) rfl rfl rfl rfl (by decide) rfl) (by decide) ?_; clear hs hf a; rintro _ w ⟨bo8, rfl, hs⟩ a hf
  refine gL hf (g_ixOc (off' := 0) hf SL26 rfl rfl (by omega) rfl) (by decide) ?_; clear hf a; intro a hf
  refine gL hf (g_fa (off' := 1) hf F47_1 rfl rfl) (by decide) ?_; clear hf a; intro a hf
  refine uL (u_st hf hs T31 rfl rfl rfl (k := 6) rfl (Nat.le_of_ble_eq_true rfl)) ?_; clear hs; intro w hs; dsimp only [List.set] at hs
  refine e_nil ?_
  refine c_draw _ 8 Mx rfl hs (fun _ h => h.sub (.cons_cons _ (.cons_cons _ (.cons_cons _ (.cons_cons _ (.cons_cons _ (.cons _ (.refl _)))))))) ?_; intro w hs hS
  refine gA hf hS (i := 0) rfl (by kernel_rfl) (fun w hs => g_mv hf rfl) (by decide) ?_; clear hf a; intro a hf
  refine gA hf hS (i := 1) rfl (by kernel_rfl) (fun w hs => g_ixOc (off' := 72) hf SL73 rfl rfl (by omega) rfl) (by decide) ?_; clear hf a; intro a hf
  refine gA hf hS (i := 2) rfl (by kernel_rfl) (fun w hs => g_fa (off' := 79) hf F28_4 rfl rfl) (by decide) ?_; clear hf a; intro a hf
  refine gA hf hS (i := 3) rfl (by kernel_rfl) (fun w hs => g_ld hf hs T26 rfl (k := 3) rfl rfl) (by decide) ?_; clear hf a; intro a hf
  refine one (i := 4) (by kernel_rfl) ?_
  refine oCall hf hs rfl (c_Sp _ _ _) rfl rfl rfl E52 (by decide) (fun _ h => h.sub (.cons_cons _ (.cons_cons _ (.cons_cons _ (.cons_cons _ (.cons_cons _ (.cons _ (.refl _)))))))) ?_; clear hs hf hS a; intro w a hs hS hf
  refine gA hf hS (i := 5) rfl (by kernel_rfl) (fun w hs => g_ixOc (off' := 6) hf SL26 rfl rfl (by omega) rfl) (by decide) ?_; clear hf a; intro a hf
  refine gA hf hS (i := 6) rfl (by kernel_rfl) (fun w hs => g_fa (off' := 8) hf F47_2 rfl rfl) (by decide) ?_; clear hf a; intro a hf
  refine one (i := 7) (by kernel_rfl) ?_
  refine oU rfl (u_stA hf hs T40 rfl rfl rfl (k := 5) rfl rfl (Nat.le_of_ble_eq_true rfl)) (fun _ h => h.sub (.cons_cons _ (.cons_cons _ (.cons_cons _ (.cons_cons _ (.cons_cons _ (.cons _ (.refl _)))))))) ?_; clear hs hS; intro w hs hS; dsimp only [List.set, splat] at hs
  refine e_done (by kernel_rfl) ?_
  refine c_draw _ 8 Mx rfl hs (fun _ h => h.sub (.cons_cons _ (.cons_cons _ (.cons_cons _ (.cons_cons _ (.cons _ (.refl _))))))) ?_; intro w hs hS
  refine gA hf hS (i := 0) rfl (by kernel_rfl) (fun w hs => g_mv hf rfl) (by decide) ?_; clear hf a; intro a hf
  refine gA hf hS (i := 1) rfl (by kernel_rfl) (fun w hs => g_ixOc (off' := 80) hf SL73 rfl rfl (by omega) rfl) (by decide) ?_; clear hf a; intro a hf
  refine gA hf hS (i := 2) rfl (by kernel_rfl) (fun w hs => g_fa (off' := 87) hf F28_4 rfl rfl) (by decide) ?_; clear hf a; intro a hf
  refine gA hf hS (i := 3) rfl (by kernel_rfl) (fun w hs => g_ld hf hs T26 rfl (k := 3) rfl rfl) (by decide) ?_; clear hf a; intro a hf
  refine one (i := 4) (by kernel_rfl) ?_
  refine oCall hf hs rfl (c_Sp _ _ _) rfl rfl rfl E52 (by decide) (fun _ h => h.sub (.cons_cons _ (.cons_cons _ (.cons_cons _ (.cons_cons _ (.cons _ (.refl _))))))) ?_; clear hs hf hS a; intro w a hs hS hf
  refine gA hf hS (i := 5) rfl (by kernel_rfl) (fun w hs => g_ixOc (off' := 6) hf SL26 rfl rfl (by omega) rfl) (by decide) ?_; clear hf a; intro a hf
  refine gA hf hS (i := 6) rfl (by kernel_rfl) (fun w hs => g_fa (off' := 10) hf F47_3 rfl rfl) (by decide) ?_; clear hf a; intro a hf
  refine one (i := 7) (by kernel_rfl) ?_
  refine oU rfl (u_stA hf hs T40 rfl rfl rfl (k := 4) rfl rfl (Nat.le_of_ble_eq_true rfl)) (fun _ h => h.sub (.cons_cons _ (.cons_cons _ (.cons_cons _ (.cons_cons _ (.cons _ (.refl _))))))) ?_; clear hs hS; intro w hs hS; dsimp only [List.set, splat] at hs
  refine e_done (by kernel_rfl) ?_
  refine wp_seq ?_
  have hi0 : EIn e0 w := ⟨by kernel_rfl, ⟨⟨rd_nil, rd_nil, Nat.le_refl _, Nat.le_refl _⟩, rd_nil, Nat.le_refl _, fun x hx => by cases hx⟩⟩
  have hc1 := (hs.rd (.tail _ (.tail _ (.tail _ (.tail _ (.tail _ (.tail _ (.tail _ (.tail _ (.tail _ (.tail _ (.tail _ (.tail _ (.tail _ (.head _))))))))))))))).bk
  have hi1 : EIn (eS bf1 br1 p1 q1 bw1 (0) (144) (60) (2)) w := ⟨by kernel_rfl, ⟨⟨hc1.sh.F, hc1.sh.R, hc1.sh.fc_, hc1.sh.rc_⟩, hc1.W, hc1.wc_, hc1.O⟩⟩
  have hc2 := (hs.rd (.tail _ (.tail _ (.tail _ (.tail _ (.tail _ (.tail _ (.tail _ (.tail _ (.tail _ (.tail _ (.tail _ (.tail _ (.head _)))))))))))))).bk
  have hi2 : EIn (eS bf2 br2 p2 q2 bw2 (10) (0) (60) (2)) w := ⟨by kernel_rfl, ⟨⟨hc2.sh.F, hc2.sh.R, hc2.sh.fc_, hc2.sh.rc_⟩, hc2.W, hc2.wc_, hc2.O⟩⟩
  have hc3 := (hs.rd (.tail _ (.tail _ (.tail _ (.tail _ (.tail _ (.tail _ (.tail _ (.tail _ (.tail _ (.tail _ (.tail _ (.head _))))))))))))).bk
  have hi3 : EIn (eS bf3 br3 p3 q3 bw3 (10) (145) (60) (2)) w := ⟨by kernel_rfl, ⟨⟨hc3.sh.F, hc3.sh.R, hc3.sh.fc_, hc3.sh.rc_⟩, hc3.W, hc3.wc_, hc3.O⟩⟩
  have hc4 := (hs.rd (.tail _ (.tail _ (.tail _ (.tail _ (.tail _ (.tail _ (.tail _ (.tail _ (.tail _ (.tail _ (.head _)))))))))))).bk
  have hi4 : EIn (eS bf4 br4 p4 q4 bw4 (10) (144) (1000) (2)) w := ⟨by kernel_rfl, ⟨⟨hc4.sh.F, hc4.sh.R, hc4.sh.fc_, hc4.sh.rc_⟩, hc4.W, hc4.wc_, hc4.O⟩⟩
  have hc5 := (hs.rd (.tail _ (.tail _ (.tail _ (.tail _ (.tail _ (.tail _ (.tail _ (.tail _ (.tail _ (.head _))))))))))).bk
  have hi5 : EIn (eS bf5 br5 p5 q5 bw5 (10) (144) (60) (-1)) w := ⟨by kernel_rfl, ⟨⟨hc5.sh.F, hc5.sh.R, hc5.sh.fc_, hc5.sh.rc_⟩, hc5.W, hc5.wc_, hc5.O⟩⟩
  have hc6 := (hs.rd (.tail _ (.tail _ (.tail _ (.tail _ (.tail _ (.tail _ (.tail _ (.tail _ (.head _)))))))))).bk
  have hc11 := (hs.rd (.tail _ (.tail _ (.tail _ (.head _))))).bk
  have hc12 := (hs.rd (.tail _ (.tail _ (.head _)))).bk
  have hc13 := (hs.rd (.tail _ (.head _))).bk
  have hc14 := (hs.rd (.head _)).bk
  have hcap6 := hok6y.cap (sz := 6) (by decide)
  have hi6 : EIn (eW bf6 br6 (ad b6y) (cs6y.size / 6) (((ws2 150 p12 q12) ++ (ws2 150 p13 q13)) ++ (ws2 150 p14 q14))) w := ⟨by kernel_rfl, ⟨⟨hc6.sh.F, hc6.sh.R, hc6.sh.fc_, hc6.sh.rc_⟩, hok6y.rdb (sz := 6) (fun _ => rfl) (by decide) (hs.own _ _ (.tail _ (.tail _ (.head _)))).2, hcap6, fun x hx => by
    rcases List.mem_append.1 hx with hx | hx
    · rcases List.mem_append.1 hx with hx | hx
      · exact hc12.O x hx
      · exact hc13.O x hx
    · exact hc14.O x hx⟩⟩
  have hp7 := hs.rd (.tail _ (.tail _ (.tail _ (.tail _ (.tail _ (.tail _ (.tail _ (.head _))))))))
  have hi7 : EIn (eW bf7 br7 (ad bw7) 2 [reO (chW1 (ad p7)) [0, 1, 2] (ad bo7) 3, chW2 150 (ad q7)]) w := ⟨by kernel_rfl, ⟨hp7.sh, rd_of_flat (sz := 6) (len := 2) (fun _ => rfl) (by decide) (hs.own _ _ (.tail _ (.tail _ (.tail _ (.tail _ (.tail _ (.tail _ (.tail _ (.head _))))))))).2 rfl (by decide) rfl, Nat.le_refl _, fun x hx => by
    rcases List.mem_cons.1 hx with rfl | hx
    · exact ⟨Nat.le_refl _, rd_of_flat (sz := 1) (len := 3) (fun _ => rfl) (by decide) (hs.own _ _ (.tail _ (.head _))).2 rfl (by decide) rfl⟩
    · rw [List.mem_singleton.1 hx]; exact ⟨Nat.le_refl _, hp7.r2⟩⟩⟩
  have hp8 := hs.rd (.tail _ (.tail _ (.tail _ (.tail _ (.tail _ (.tail _ (.head _)))))))
  have hi8 : EIn (eW bf8 br8 (ad bw8) 2 [reO (chW1 (ad p8)) [0, 1, 2, 2] (ad bo8) 4, chW2 150 (ad q8)]) w := ⟨by kernel_rfl, ⟨hp8.sh, rd_of_flat (sz := 6) (len := 2) (fun _ => rfl) (by decide) (hs.own _ _ (.tail _ (.tail _ (.tail _ (.tail _ (.tail _ (.tail _ (.head _)))))))).2 rfl (by decide) rfl, Nat.le_refl _, fun x hx => by
    rcases List.mem_cons.1 hx with rfl | hx
    · exact ⟨Nat.le_refl _, rd_of_flat (sz := 1) (len := 4) (fun _ => rfl) (by decide) (hs.own _ _ (.head _)).2 rfl (by decide) rfl⟩
    · rw [List.mem_singleton.1 hx]; exact ⟨Nat.le_refl _, hp8.r2⟩⟩⟩
  have hp9 := hs.rd (.tail _ (.tail _ (.tail _ (.tail _ (.tail _ (.head _))))))
  have hi9 : EIn (eW bf9 br9 (ad bw9) 2 [chW1 (ad p9), { chW2 150 (ad q9) with bl := 140, bh := 151 }]) w := ⟨by kernel_rfl, ⟨hp9.sh, rd_of_flat (sz := 6) (len := 2) (fun _ => rfl) (by decide) (hs.own _ _ (.tail _ (.tail _ (.tail _ (.tail _ (.tail _ (.head _))))))).2 rfl (by decide) rfl, Nat.le_refl _, fun x hx => by
    rcases List.mem_cons.1 hx with rfl | hx
    · exact ⟨Nat.le_refl _, hp9.r1⟩
    · rw [List.mem_singleton.1 hx]; exact ⟨Nat.le_refl _, hp9.r2⟩⟩⟩
  have hp10 := hs.rd (.tail _ (.tail _ (.tail _ (.tail _ (.head _)))))
  have hi10 : EIn (eW bf10 br10 (ad bw10) 2 [chW1 (ad p10), { chW2 150 (ad q10) with tl := 595, th := 601 }]) w := ⟨by kernel_rfl, ⟨hp10.sh, rd_of_flat (sz := 6) (len := 2) (fun _ => rfl) (by decide) (hs.own _ _ (.tail _ (.tail _ (.tail _ (.tail _ (.head _)))))).2 rfl (by decide) rfl, Nat.le_refl _, fun x hx => by
    rcases List.mem_cons.1 hx with rfl | hx
    · exact ⟨Nat.le_refl _, hp10.r1⟩
    · rw [List.mem_singleton.1 hx]; exact ⟨Nat.le_refl _, hp10.r2⟩⟩⟩
  have hi11 : EIn (⟨chBk 5 601 (ad p11) (ad q11), ad bf11, 4, ad br11, 4, ad bw11, 2⟩ : BE) w := ⟨by kernel_rfl, hc11⟩
  have hEA : EAll [e0, (eS bf1 br1 p1 q1 bw1 (0) (144) (60) (2)), (eS bf2 br2 p2 q2 bw2 (10) (0) (60) (2)), (eS bf3 br3 p3 q3 bw3 (10) (145) (60) (2)), (eS bf4 br4 p4 q4 bw4 (10) (144) (1000) (2)), (eS bf5 br5 p5 q5 bw5 (10) (144) (60) (-1)), (eW bf6 br6 (ad b6y) (cs6y.size / 6) (((ws2 150 p12 q12) ++ (ws2 150 p13 q13)) ++ (ws2 150 p14 q14))), (eW bf7 br7 (ad bw7) 2 [reO (chW1 (ad p7)) [0, 1, 2] (ad bo7) 3, chW2 150 (ad q7)]), (eW bf8 br8 (ad bw8) 2 [reO (chW1 (ad p8)) [0, 1, 2, 2] (ad bo8) 4, chW2 150 (ad q8)]), (eW bf9 br9 (ad bw9) 2 [chW1 (ad p9), { chW2 150 (ad q9) with bl := 140, bh := 151 }]), (eW bf10 br10 (ad bw10) 2 [chW1 (ad p10), { chW2 150 (ad q10) with tl := 595, th := 601 }]), (⟨chBk 5 601 (ad p11) (ad q11), ad bf11, 4, ad br11, 4, ad bw11, 2⟩ : BE)] w := (eall_cons hi0 (eall_cons hi1 (eall_cons hi2 (eall_cons hi3 (eall_cons hi4 (eall_cons hi5 (eall_cons hi6 (eall_cons hi7 (eall_cons hi8 (eall_cons hi9 (eall_cons hi10 (eall_cons hi11 eall_nil))))))))))))
  have hKR : Rd encBE 8 (some ⟨ba, 0, none⟩) 12 [e0, (eS bf1 br1 p1 q1 bw1 (0) (144) (60) (2)), (eS bf2 br2 p2 q2 bw2 (10) (0) (60) (2)), (eS bf3 br3 p3 q3 bw3 (10) (145) (60) (2)), (eS bf4 br4 p4 q4 bw4 (10) (144) (1000) (2)), (eS bf5 br5 p5 q5 bw5 (10) (144) (60) (-1)), (eW bf6 br6 (ad b6y) (cs6y.size / 6) (((ws2 150 p12 q12) ++ (ws2 150 p13 q13)) ++ (ws2 150 p14 q14))), (eW bf7 br7 (ad bw7) 2 [reO (chW1 (ad p7)) [0, 1, 2] (ad bo7) 3, chW2 150 (ad q7)]), (eW bf8 br8 (ad bw8) 2 [reO (chW1 (ad p8)) [0, 1, 2, 2] (ad bo8) 4, chW2 150 (ad q8)]), (eW bf9 br9 (ad bw9) 2 [chW1 (ad p9), { chW2 150 (ad q9) with bl := 140, bh := 151 }]), (eW bf10 br10 (ad bw10) 2 [chW1 (ad p10), { chW2 150 (ad q10) with tl := 595, th := 601 }]), (⟨chBk 5 601 (ad p11) (ad q11), ad bf11, 4, ad br11, 4, ad bw11, 2⟩ : BE)] w := rd_of_flat (sz := 8) (len := 12) (fun _ => rfl) (by decide) (hs.own _ _ (.tail _ (.tail _ (.tail _ (.head _))))).2 rfl (by decide) (by kernel_rfl)
  clear hi0 hi1 hi2 hi3 hi4 hi5 hi6 hi7 hi8 hi9 hi10 hi11
  obtain ⟨es, hes⟩ : ∃ x, x = [e0, (eS bf1 br1 p1 q1 bw1 (0) (144) (60) (2)), (eS bf2 br2 p2 q2 bw2 (10) (0) (60) (2)), (eS bf3 br3 p3 q3 bw3 (10) (145) (60) (2)), (eS bf4 br4 p4 q4 bw4 (10) (144) (1000) (2)), (eS bf5 br5 p5 q5 bw5 (10) (144) (60) (-1)), (eW bf6 br6 (ad b6y) (cs6y.size / 6) (((ws2 150 p12 q12) ++ (ws2 150 p13 q13)) ++ (ws2 150 p14 q14))), (eW bf7 br7 (ad bw7) 2 [reO (chW1 (ad p7)) [0, 1, 2] (ad bo7) 3, chW2 150 (ad q7)]), (eW bf8 br8 (ad bw8) 2 [reO (chW1 (ad p8)) [0, 1, 2, 2] (ad bo8) 4, chW2 150 (ad q8)]), (eW bf9 br9 (ad bw9) 2 [chW1 (ad p9), { chW2 150 (ad q9) with bl := 140, bh := 151 }]), (eW bf10 br10 (ad bw10) 2 [chW1 (ad p10), { chW2 150 (ad q10) with tl := 595, th := 601 }]), (⟨chBk 5 601 (ad p11) (ad q11), ad bf11, 4, ad br11, 4, ad bw11, 2⟩ : BE)] := ⟨_, rfl⟩
  rw [← hes] at hEA hKR
  have hesl : es.length = 12 := by rw [hes]; rfl
  clear hes
  replace hs : St (Base.of w0) [Rd encBE 8 (some ⟨ba, 0, none⟩) 12 es, EAll es, BlkIs 1 sidesA ge gz, BlkIs 0 toldA te tz] [] w := (((hs.sub (List.nil_sublist _)).subD (Ds' := [BlkIs 1 sidesA ge gz, BlkIs 0 toldA te tz]) (fun D hD => by (rcases List.mem_cons.1 hD with rfl | hD); (exact (.tail _ (.tail _ (.tail _ (.tail _ (.tail _ (.tail _ (.tail _ (.tail _ (.tail _ (.tail _ (.tail _ (.tail _ (.tail _ (.tail _ (.head _)))))))))))))))); rw [List.mem_singleton.1 hD]; exact (.tail _ (.tail _ (.tail _ (.tail _ (.tail _ (.tail _ (.tail _ (.tail _ (.tail _ (.tail _ (.tail _ (.tail _ (.tail _ (.tail _ (.tail _ (.head _)))))))))))))))))).addD hEA.stable).addD (hKR.stable (by simp))
  replace hf := hf.only (L' := [(1, .slice (some ⟨ba, 0, none⟩) 12 12), (0, .bool false)]) (.cons rfl (.cons rfl .nil))
  refine c_reg ?_
  refine gL hf (g_as hf rfl) (by decide) ?_; clear hf a; intro a hf
  refine e_nil ?_
  refine c_block ?_
  refine c_loop hf hs (List.range' 0 1 ++ List.range' 2 19 ++ List.range' 120 120) (σ := Nat) (fun i => [(2, .int .i64 (i : Nat))]) (fun i => _) (fun i => i ≤ 12) (fun i => 12 - i) 0 (by omega) (.cons rfl .nil) rfl ?_
  intro i a w hJ hf hs
  refine wp_seq ?_
  refine c_reg ?_
  refine gL hf (g_mv hf rfl) (by decide) ?_; clear hf a; intro a hf
  refine gL hf (g_mv hf rfl) (by decide) ?_; clear hf a; intro a hf
  refine gL hf (g_len hf SL73 rfl) (by decide) ?_; clear hf a; intro a hf
  refine gL hf (g_lss hf rfl rfl) (by decide) ?_; clear hf a; intro a hf
  refine e_nil ?_
  refine c_cond hf rfl (fun hc1 => ?_) (fun hc1 => ?_)
  · try simp only [decide_eq_true_eq, decide_eq_false_iff_not] at hc1
    have hi9 : i < 12 := by omega
    have hbi := ((hs.rd (.tail _ (.head _))).get hesl hi9).1
    refine c_skip (q_thenN ?_)
    refine c_blockS ?_
    refine c_reg ?_
    refine gL hf (g_mv hf rfl) (by decide) ?_; clear hf a; intro a hf
    refine gL hf (g_mv hf rfl) (by decide) ?_; clear hf a; intro a hf
    (first | (refine gL hf (g_ixE hf hs (.head _) SL73 rfl rfl (by omega)) (by decide) ?_) | (refine gL hf (g_ixD hf hs (.head _) SL73 rfl rfl (by omega)) (by decide) ?_)); clear hf a; intro a hf
    refine gL hf (g_ldEW hf hs (.head _) T28 rfl rfl (by omega)) (by decide) ?_; clear hf a; intro a hf
    have h9 := c_RightH (es.getD i default).k (es.getD i default).fA (es.getD i default).fc (es.getD i default).rA (es.getD i default).rc (es.getD i default).wA (es.getD i default).wc ge gz (-1) _ ((hs.rd (.tail _ (.head _))).get hesl hi9).2 (hs.rd (.tail _ (.tail _ (.head _))))
    rw [bad_right hbi] at h9; dsimp only at h9
    refine callL hf hs (h9) rfl rfl rfl E31 (by decide) ?_; clear hs hf a; intro w a hs hf
    refine gL hf (g_mv hf rfl) (by decide) ?_; clear hf a; intro a hf
    refine gL hf (g_ext hf rfl rfl) (by decide) ?_; clear hf a; intro a hf
    refine gL hf (g_ext hf rfl rfl) (by decide) ?_; clear hf a; intro a hf
    refine gL hf (g_as hf rfl) (by decide) ?_; clear hf a; intro a hf
    refine gL hf (g_as hf rfl) (by decide) ?_; clear hf a; intro a hf
    refine e_nil ?_
    refine c_reg ?_
    refine gL hf (g_mv hf rfl) (by decide) ?_; clear hf a; intro a hf
    refine gL hf (g_mv hf rfl) (by decide) ?_; clear hf a; intro a hf
    (first | (refine gL hf (g_ixE hf hs (.head _) SL73 rfl rfl (by omega)) (by decide) ?_) | (refine gL hf (g_ixD hf hs (.head _) SL73 rfl rfl (by omega)) (by decide) ?_)); clear hf a; intro a hf
    refine gL hf (g_ldEW hf hs (.head _) T28 rfl rfl (by omega)) (by decide) ?_; clear hf a; intro a hf
    have h9 := c_PassesH (es.getD i default).k (es.getD i default).fA (es.getD i default).fc (es.getD i default).rA (es.getD i default).rc (es.getD i default).wA (es.getD i default).wc ge gz (-1) _ ((hs.rd (.tail _ (.head _))).get hesl hi9).2 (hs.rd (.tail _ (.tail _ (.head _)))) te tz (hs.rd (.tail _ (.tail _ (.tail _ (.head _)))))
    rw [bad_tell hbi] at h9; dsimp only at h9
    refine callL hf hs (h9) rfl rfl rfl E23 (by decide) ?_; clear hs hf a; intro w a hs hf
    refine gL hf (g_mv hf rfl) (by decide) ?_; clear hf a; intro a hf
    refine gL hf (g_ext hf rfl rfl) (by decide) ?_; clear hf a; intro a hf
    refine gL hf (g_ext hf rfl rfl) (by decide) ?_; clear hf a; intro a hf
    refine vL hf (v_alloc hs T40 rfl) (by decide) ?_; clear hs hf a; rintro _ w ⟨b4, rfl, hs⟩ a hf
    refine uL (u_stW hf hs T40 rfl rfl rfl (k := 0) rfl rfl rfl) ?_; clear hs; intro w hs; dsimp only [List.set] at hs
    refine gL hf (g_as hf rfl) (by decide) ?_; clear hf a; intro a hf
    refine e_nil ?_
    refine c_reg ?_
    refine gL hf (g_mv hf rfl) (by decide) ?_; clear hf a; intro a hf
    refine gL hf (g_mv hf rfl) (by decide) ?_; clear hf a; intro a hf
    (first | (refine gL hf (g_ixE hf hs (.head _) SL73 rfl rfl (by omega)) (by decide) ?_) | (refine gL hf (g_ixD hf hs (.head _) SL73 rfl rfl (by omega)) (by decide) ?_)); clear hf a; intro a hf
    refine gL hf (g_ldEW hf hs (.head _) T28 rfl rfl (by omega)) (by decide) ?_; clear hf a; intro a hf
    have h9 := c_MissingH (es.getD i default).k (es.getD i default).fA (es.getD i default).fc (es.getD i default).rA (es.getD i default).rc (es.getD i default).wA (es.getD i default).wc ge gz (-1) _ ((hs.rd (.tail _ (.head _))).get hesl hi9).2 (hs.rd (.tail _ (.tail _ (.head _)))) te tz (hs.rd (.tail _ (.tail _ (.tail _ (.head _)))))
    rw [bad_tell hbi] at h9; dsimp only at h9
    refine callL hf hs (h9) rfl rfl rfl E36 (by decide) ?_; clear hs hf a; intro w a hs hf
    refine gL hf (g_mv hf rfl) (by decide) ?_; clear hf a; intro a hf
    refine gL hf (g_ext hf rfl rfl) (by decide) ?_; clear hf a; intro a hf
    refine gL hf (g_ext hf rfl rfl) (by decide) ?_; clear hf a; intro a hf
    refine vL hf (v_alloc hs T40 rfl) (by decide) ?_; clear hs hf a; rintro _ w ⟨b5, rfl, hs⟩ a hf
    refine uL (u_stW hf hs T40 rfl rfl rfl (k := 0) rfl rfl rfl) ?_; clear hs; intro w hs; dsimp only [List.set] at hs
    refine gL hf (g_as hf rfl) (by decide) ?_; clear hf a; intro a hf
    refine e_nil ?_
    refine c_reg ?_
    refine gL hf (g_mv hf rfl) (by decide) ?_; clear hf a; intro a hf
    refine gL hf (g_mv hf rfl) (by decide) ?_; clear hf a; intro a hf
    (first | (refine gL hf (g_ixE hf hs (.head _) SL73 rfl rfl (by omega)) (by decide) ?_) | (refine gL hf (g_ixD hf hs (.head _) SL73 rfl rfl (by omega)) (by decide) ?_)); clear hf a; intro a hf
    refine gL hf (g_ldEW hf hs (.head _) T28 rfl rfl (by omega)) (by decide) ?_; clear hf a; intro a hf
    have h9 := c_GetsH (es.getD i default).k (es.getD i default).fA (es.getD i default).fc (es.getD i default).rA (es.getD i default).rc (es.getD i default).wA (es.getD i default).wc ge gz (-1) _ ((hs.rd (.tail _ (.head _))).get hesl hi9).2 (hs.rd (.tail _ (.tail _ (.head _)))) te tz (hs.rd (.tail _ (.tail _ (.tail _ (.head _)))))
    rw [bad_tell hbi] at h9; dsimp only at h9
    refine callL hf hs (h9) rfl rfl rfl E38 (by decide) ?_; clear hs hf a; intro w a hs hf
    refine gL hf (g_mv hf rfl) (by decide) ?_; clear hf a; intro a hf
    refine gL hf (g_ext hf rfl rfl) (by decide) ?_; clear hf a; intro a hf
    refine gL hf (g_ext hf rfl rfl) (by decide) ?_; clear hf a; intro a hf
    refine vL hf (v_alloc hs T40 rfl) (by decide) ?_; clear hs hf a; rintro _ w ⟨b6, rfl, hs⟩ a hf
    refine uL (u_stW hf hs T40 rfl rfl rfl (k := 0) rfl rfl rfl) ?_; clear hs; intro w hs; dsimp only [List.set] at hs
    refine gL hf (g_as hf rfl) (by decide) ?_; clear hf a; intro a hf
    refine e_nil ?_
    refine c_reg ?_
    refine gL hf (g_mv hf rfl) (by decide) ?_; clear hf a; intro a hf
    refine gL hf (g_mv hf rfl) (by decide) ?_; clear hf a; intro a hf
    (first | (refine gL hf (g_ixE hf hs (.head _) SL73 rfl rfl (by omega)) (by decide) ?_) | (refine gL hf (g_ixD hf hs (.head _) SL73 rfl rfl (by omega)) (by decide) ?_)); clear hf a; intro a hf
    refine gL hf (g_ldEW hf hs (.head _) T28 rfl rfl (by omega)) (by decide) ?_; clear hf a; intro a hf
    have h9 := c_TotalH (es.getD i default).k (es.getD i default).fA (es.getD i default).fc (es.getD i default).rA (es.getD i default).rc (es.getD i default).wA (es.getD i default).wc ge gz  _ ((hs.rd (.tail _ (.head _))).get hesl hi9).2 (hs.rd (.tail _ (.tail _ (.head _)))) te tz (hs.rd (.tail _ (.tail _ (.tail _ (.head _)))))
    rw [bad_total hbi] at h9; dsimp only at h9
    refine callL hf hs (h9) rfl rfl rfl E27 (by decide) ?_; clear hs hf a; intro w a hs hf
    refine gL hf (g_mv hf rfl) (by decide) ?_; clear hf a; intro a hf
    refine gL hf (g_ext hf rfl rfl) (by decide) ?_; clear hf a; intro a hf
    refine gL hf (g_ext hf rfl rfl) (by decide) ?_; clear hf a; intro a hf
    refine vL hf (v_alloc hs T40 rfl) (by decide) ?_; clear hs hf a; rintro _ w ⟨b7, rfl, hs⟩ a hf
    refine uL (u_stW hf hs T40 rfl rfl rfl (k := 0) rfl rfl rfl) ?_; clear hs; intro w hs; dsimp only [List.set] at hs
    refine gL hf (g_as hf rfl) (by decide) ?_; clear hf a; intro a hf
    refine e_nil ?_
    refine c_reg ?_
    refine gL hf (g_mv hf rfl) (by decide) ?_; clear hf a; intro a hf
    refine gL hf (g_mv hf rfl) (by decide) ?_; clear hf a; intro a hf
    (first | (refine gL hf (g_ixE hf hs (.head _) SL73 rfl rfl (by omega)) (by decide) ?_) | (refine gL hf (g_ixD hf hs (.head _) SL73 rfl rfl (by omega)) (by decide) ?_)); clear hf a; intro a hf
    refine gL hf (g_ldEW hf hs (.head _) T28 rfl rfl (by omega)) (by decide) ?_; clear hf a; intro a hf
    have h9 := c_GrossesH (es.getD i default).k (es.getD i default).fA (es.getD i default).fc (es.getD i default).rA (es.getD i default).rc (es.getD i default).wA (es.getD i default).wc ge gz  _ ((hs.rd (.tail _ (.head _))).get hesl hi9).2 (hs.rd (.tail _ (.tail _ (.head _)))) te tz (hs.rd (.tail _ (.tail _ (.tail _ (.head _)))))
    rw [bad_gross hbi] at h9; dsimp only at h9
    refine callL hf hs (h9) rfl rfl rfl E25 (by decide) ?_; clear hs hf a; intro w a hs hf
    refine gL hf (g_mv hf rfl) (by decide) ?_; clear hf a; intro a hf
    refine gL hf (g_ext hf rfl rfl) (by decide) ?_; clear hf a; intro a hf
    refine gL hf (g_ext hf rfl rfl) (by decide) ?_; clear hf a; intro a hf
    refine vL hf (v_alloc hs T40 rfl) (by decide) ?_; clear hs hf a; rintro _ w ⟨b8, rfl, hs⟩ a hf
    refine uL (u_stW hf hs T40 rfl rfl rfl (k := 0) rfl rfl rfl) ?_; clear hs; intro w hs; dsimp only [List.set] at hs
    refine gL hf (g_as hf rfl) (by decide) ?_; clear hf a; intro a hf
    refine e_nil ?_
    refine c_reg ?_
    refine gL hf (g_mv hf rfl) (by decide) ?_; clear hf a; intro a hf
    refine gL hf (g_mv hf rfl) (by decide) ?_; clear hf a; intro a hf
    (first | (refine gL hf (g_ixE hf hs (.head _) SL73 rfl rfl (by omega)) (by decide) ?_) | (refine gL hf (g_ixD hf hs (.head _) SL73 rfl rfl (by omega)) (by decide) ?_)); clear hf a; intro a hf
    refine gL hf (g_ldEW hf hs (.head _) T28 rfl rfl (by omega)) (by decide) ?_; clear hf a; intro a hf
    refine callX hf hs (c_WrongH (es.getD i default).k (es.getD i default).fA (es.getD i default).fc (es.getD i default).rA (es.getD i default).rc (es.getD i default).wA (es.getD i default).wc ge gz _ ((hs.rd (.tail _ (.head _))).get hesl hi9).2 (hs.rd (.tail _ (.tail _ (.head _))))) rfl rfl rfl E20 (by decide) ?_; intro v w1 a hR hb hs1 hf; obtain ⟨A9, c9, rfl, _⟩ := hR; rw [bad_wrong hbi] at hf; replace hs := hs1; clear hs1 hb
    refine gL hf (g_mv hf rfl) (by decide) ?_; clear hf a; intro a hf
    refine gL hf (g_ext hf rfl rfl) (by decide) ?_; clear hf a; intro a hf
    refine gL hf (g_ext hf rfl rfl) (by decide) ?_; clear hf a; intro a hf
    refine gL hf (g_as hf rfl) (by decide) ?_; clear hf a; intro a hf
    refine gL hf (g_as hf rfl) (by decide) ?_; clear hf a; intro a hf
    refine e_nil ?_
    refine c_reg ?_
    refine gL hf (g_mv hf rfl) (by decide) ?_; clear hf a; intro a hf
    refine gL hf (g_mv hf rfl) (by decide) ?_; clear hf a; intro a hf
    (first | (refine gL hf (g_ixE hf hs (.head _) SL73 rfl rfl (by omega)) (by decide) ?_) | (refine gL hf (g_ixD hf hs (.head _) SL73 rfl rfl (by omega)) (by decide) ?_)); clear hf a; intro a hf
    refine gL hf (g_ldEW hf hs (.head _) T28 rfl rfl (by omega)) (by decide) ?_; clear hf a; intro a hf
    have h9 := c_TeachH (es.getD i default).k (es.getD i default).fA (es.getD i default).fc (es.getD i default).rA (es.getD i default).rc (es.getD i default).wA (es.getD i default).wc ge gz  _ ((hs.rd (.tail _ (.head _))).get hesl hi9).2 (hs.rd (.tail _ (.tail _ (.head _)))) te tz (hs.rd (.tail _ (.tail _ (.tail _ (.head _)))))
    rw [bad_teach hbi] at h9; dsimp only at h9
    refine callL hf hs (h9) rfl rfl rfl E21 (by decide) ?_; clear hs hf a; intro w a hs hf
    refine gL hf (g_mv hf rfl) (by decide) ?_; clear hf a; intro a hf
    refine gL hf (g_ext hf rfl rfl) (by decide) ?_; clear hf a; intro a hf
    refine gL hf (g_ext hf rfl rfl) (by decide) ?_; clear hf a; intro a hf
    refine gL hf (g_as hf rfl) (by decide) ?_; clear hf a; intro a hf
    refine gL hf (g_as hf rfl) (by decide) ?_; clear hf a; intro a hf
    refine e_nil ?_
    refine c_reg ?_
    refine gL hf (g_mv hf rfl) (by decide) ?_; clear hf a; intro a hf
    refine gL hf (g_mv hf rfl) (by decide) ?_; clear hf a; intro a hf
    (first | (refine gL hf (g_ixE hf hs (.head _) SL73 rfl rfl (by omega)) (by decide) ?_) | (refine gL hf (g_ixD hf hs (.head _) SL73 rfl rfl (by omega)) (by decide) ?_)); clear hf a; intro a hf
    refine gL hf (g_ldEW hf hs (.head _) T28 rfl rfl (by omega)) (by decide) ?_; clear hf a; intro a hf
    have h9 := c_AskH (es.getD i default).k (es.getD i default).fA (es.getD i default).fc (es.getD i default).rA (es.getD i default).rc (es.getD i default).wA (es.getD i default).wc ge gz  _ ((hs.rd (.tail _ (.head _))).get hesl hi9).2 (hs.rd (.tail _ (.tail _ (.head _)))) te tz (hs.rd (.tail _ (.tail _ (.tail _ (.head _)))))
    rw [bad_aska hbi] at h9; dsimp only at h9
    refine callL hf hs (h9) rfl rfl rfl E46 (by decide) ?_; clear hs hf a; intro w a hs hf
    refine gL hf (g_mv hf rfl) (by decide) ?_; clear hf a; intro a hf
    refine gL hf (g_ext hf rfl rfl) (by decide) ?_; clear hf a; intro a hf
    refine gL hf (g_ext hf rfl rfl) (by decide) ?_; clear hf a; intro a hf
    refine gL hf (g_as hf rfl) (by decide) ?_; clear hf a; intro a hf
    refine gL hf (g_as hf rfl) (by decide) ?_; clear hf a; intro a hf
    refine e_nil ?_
    refine c_reg ?_
    refine gL hf (g_mv hf rfl) (by decide) ?_; clear hf a; intro a hf
    refine gL hf (g_mv hf rfl) (by decide) ?_; clear hf a; intro a hf
    (first | (refine gL hf (g_ixE hf hs (.head _) SL73 rfl rfl (by omega)) (by decide) ?_) | (refine gL hf (g_ixD hf hs (.head _) SL73 rfl rfl (by omega)) (by decide) ?_)); clear hf a; intro a hf
    refine gL hf (g_ldEW hf hs (.head _) T28 rfl rfl (by omega)) (by decide) ?_; clear hf a; intro a hf
    refine callL hf hs (c_CheckH (es.getD i default).k (es.getD i default).fA (es.getD i default).fc (es.getD i default).rA (es.getD i default).rc (es.getD i default).wA (es.getD i default).wc ge gz _ ((hs.rd (.tail _ (.head _))).get hesl hi9).2 (hs.rd (.tail _ (.tail _ (.head _))))) rfl rfl rfl E33 (by decide) ?_; clear hs hf a; intro w a hs hf
    rw [bad_book hbi] at hf
    refine gL hf (g_neq hf rfl rfl) (by decide) ?_; clear hf a; intro a hf
    refine gL hf (g_mv hf rfl) (by decide) ?_; clear hf a; intro a hf
    refine gKnown hf rfl rfl rfl ?_
    refine gL hf (g_mv hf rfl) (by decide) ?_; clear hf a; intro a hf
    refine gKnown hf rfl rfl rfl ?_
    refine gL hf (g_neq hf rfl rfl) (by decide) ?_; clear hf a; intro a hf
    refine gL hf (g_pick hf rfl rfl rfl) (by decide) ?_; clear hf a; intro a hf
    refine gL hf (g_mv hf rfl) (by decide) ?_; clear hf a; intro a hf
    refine gKnown hf rfl rfl rfl ?_
    refine gL hf (g_mv hf rfl) (by decide) ?_; clear hf a; intro a hf
    refine gKnown hf rfl rfl rfl ?_
    refine gL hf (g_neq hf rfl rfl) (by decide) ?_; clear hf a; intro a hf
    refine gL hf (g_pick hf rfl rfl rfl) (by decide) ?_; clear hf a; intro a hf
    refine gL hf (g_mv hf rfl) (by decide) ?_; clear hf a; intro a hf
    refine gKnown hf rfl rfl rfl ?_
    refine gL hf (g_mv hf rfl) (by decide) ?_; clear hf a; intro a hf
    refine gKnown hf rfl rfl rfl ?_
    refine gL hf (g_neq hf rfl rfl) (by decide) ?_; clear hf a; intro a hf
    refine gL hf (g_pick hf rfl rfl rfl) (by decide) ?_; clear hf a; intro a hf
    refine gL hf (g_mv hf rfl) (by decide) ?_; clear hf a; intro a hf
    refine gKnown hf rfl rfl rfl ?_
    refine gL hf (g_mv hf rfl) (by decide) ?_; clear hf a; intro a hf
    refine gKnown hf rfl rfl rfl ?_
    refine gL hf (g_neq hf rfl rfl) (by decide) ?_; clear hf a; intro a hf
    refine gL hf (g_pick hf rfl rfl rfl) (by decide) ?_; clear hf a; intro a hf
    refine gL hf (g_mv hf rfl) (by decide) ?_; clear hf a; intro a hf
    refine gKnown hf rfl rfl rfl ?_
    refine gL hf (g_mv hf rfl) (by decide) ?_; clear hf a; intro a hf
    refine gKnown hf rfl rfl rfl ?_
    refine gL hf (g_neq hf rfl rfl) (by decide) ?_; clear hf a; intro a hf
    refine gL hf (g_pick hf rfl rfl rfl) (by decide) ?_; clear hf a; intro a hf
    refine gL hf (g_mv hf rfl) (by decide) ?_; clear hf a; intro a hf
    refine gKnown hf rfl rfl rfl ?_
    refine gL hf (g_mv hf rfl) (by decide) ?_; clear hf a; intro a hf
    refine gKnown hf rfl rfl rfl ?_
    refine gL hf (g_neq hf rfl rfl) (by decide) ?_; clear hf a; intro a hf
    refine gL hf (g_pick hf rfl rfl rfl) (by decide) ?_; clear hf a; intro a hf
    refine gL hf (g_mv hf rfl) (by decide) ?_; clear hf a; intro a hf
    refine gKnown hf rfl rfl rfl ?_
    refine gL hf (g_mv hf rfl) (by decide) ?_; clear hf a; intro a hf
    refine gKnown hf rfl rfl rfl ?_
    refine gL hf (g_neq hf rfl rfl) (by decide) ?_; clear hf a; intro a hf
    refine gL hf (g_pick hf rfl rfl rfl) (by decide) ?_; clear hf a; intro a hf
    refine gL hf (g_mv hf rfl) (by decide) ?_; clear hf a; intro a hf
    refine gKnown hf rfl rfl rfl ?_
    refine gL hf (g_mv hf rfl) (by decide) ?_; clear hf a; intro a hf
    refine gKnown hf rfl rfl rfl ?_
    refine gL hf (g_neq hf rfl rfl) (by decide) ?_; clear hf a; intro a hf
    refine gL hf (g_pick hf rfl rfl rfl) (by decide) ?_; clear hf a; intro a hf
    refine gL hf (g_mv hf rfl) (by decide) ?_; clear hf a; intro a hf
    refine gKnown hf rfl rfl rfl ?_
    refine gL hf (g_mv hf rfl) (by decide) ?_; clear hf a; intro a hf
    refine gKnown hf rfl rfl rfl ?_
    refine gL hf (g_neq hf rfl rfl) (by decide) ?_; clear hf a; intro a hf
    refine gL hf (g_pick hf rfl rfl rfl) (by decide) ?_; clear hf a; intro a hf
    refine e_nil ?_
    refine c_cond hf rfl (fun hc2 => ?_) (fun hc2 => ?_)
    · skip
      cases hc2
    · skip
      refine c_skip (q_blkN (q_thenN ?_))
      refine c_reg1 ?_
      refine gL hf (g_mv hf rfl) (by decide) ?_; clear hf a; intro a hf
      refine gL hf (g_addI hf rfl rfl (by omega)) (by decide) ?_; clear hf a; intro a hf
      refine gL hf (g_as hf rfl) (by decide) ?_; clear hf a; intro a hf
      refine e_nil1 (q_thenN ?_)
      exact ⟨i + 1, (by omega), (by omega), hf.back (by repeat (first | (with_reducible exact Ext.base) | ((with_reducible refine Ext.cons ?_ ?_); (· rfl)) | ((with_reducible refine Ext.over ?_ ?_ ?_); (· rfl); (· rfl)))) (allKeys rfl) (.cons rfl .nil), hs.dropN 5⟩
  · try simp only [decide_eq_true_eq, decide_eq_false_iff_not] at hc1
    obtain rfl : i = 12 := by omega
    refine c_exit (q_thenX (q_thenX (q_blkX (q_thenN ?_))))
    replace hs := hs.subD (Ds' := [BlkIs 1 sidesA ge gz, BlkIs 0 toldA te tz]) (fun D hD => .tail _ (.tail _ hD))
    replace hf := hf.only (L' := []) .nil
    refine c_reg ?_
    refine callX hf hs (c_wrongBH _) rfl rfl rfl E58 (by decide) ?_; intro v w1 a hR hb hs1 hf; obtain ⟨bf21, br21, p21, q21, bw21, rfl, hbc⟩ := hR; replace hs := hs.fresh hs1 (bkCFresh (m := w0.heap.size) hbc hs.below.size); clear hs1 hb
    have h9 := c_RightH (chK 5 139 p21 q21) (some ⟨bf21, 0, none⟩) 4 (some ⟨br21, 0, none⟩) 4 (some ⟨bw21, 0, none⟩) 2 ge gz 2 _ (hs.rd (.head _)).bk (hs.rd (.tail _ (.head _)))
    rw [show rightP (chK 5 139 p21 q21) 2 = (false, 91) from q_r2 _ _] at h9; dsimp only at h9
    refine callL hf hs (h9) rfl rfl rfl E31 (by decide) ?_; clear hs hf a; intro w a hs hf
    refine gL hf (g_mv hf rfl) (by decide) ?_; clear hf a; intro a hf
    refine gL hf (g_ext hf rfl rfl) (by decide) ?_; clear hf a; intro a hf
    refine gL hf (g_ext hf rfl rfl) (by decide) ?_; clear hf a; intro a hf
    refine gL hf (g_as hf rfl) (by decide) ?_; clear hf a; intro a hf
    refine gL hf (g_as hf rfl) (by decide) ?_; clear hf a; intro a hf
    refine e_nil ?_
    refine c_reg ?_
    refine callX hf hs (c_wrongBH _) rfl rfl rfl E58 (by decide) ?_; intro v w1 a hR hb hs1 hf; obtain ⟨bf22, br22, p22, q22, bw22, rfl, hbc⟩ := hR; replace hs := hs.fresh hs1 (bkCFresh (m := w0.heap.size) hbc hs.below.size); clear hs1 hb
    have h9 := c_PassesH (chK 5 139 p22 q22) (some ⟨bf22, 0, none⟩) 4 (some ⟨br22, 0, none⟩) 4 (some ⟨bw22, 0, none⟩) 2 ge gz (-1) _ (hs.rd (.head _)).bk (hs.rd (.tail _ (.tail _ (.head _)))) te tz (hs.rd (.tail _ (.tail _ (.tail _ (.head _)))))
    rw [show tellP (chK 5 139 p22 q22) (-1) 0 = ((0, 0), 91) from q_pm _ _] at h9; dsimp only at h9
    refine callL hf hs (h9) rfl rfl rfl E23 (by decide) ?_; clear hs hf a; intro w a hs hf
    refine gL hf (g_mv hf rfl) (by decide) ?_; clear hf a; intro a hf
    refine gL hf (g_ext hf rfl rfl) (by decide) ?_; clear hf a; intro a hf
    refine gL hf (g_ext hf rfl rfl) (by decide) ?_; clear hf a; intro a hf
    refine vL hf (v_alloc hs T40 rfl) (by decide) ?_; clear hs hf a; rintro _ w ⟨b4, rfl, hs⟩ a hf
    refine uL (u_stW hf hs T40 rfl rfl rfl (k := 0) rfl rfl rfl) ?_; clear hs; intro w hs; dsimp only [List.set] at hs
    refine gL hf (g_as hf rfl) (by decide) ?_; clear hf a; intro a hf
    refine e_nil ?_
    refine c_reg ?_
    refine callX hf hs (c_wrongBH _) rfl rfl rfl E58 (by decide) ?_; intro v w1 a hR hb hs1 hf; obtain ⟨bf23, br23, p23, q23, bw23, rfl, hbc⟩ := hR; replace hs := hs.fresh hs1 (bkCFresh (m := w0.heap.size) hbc hs.below.size); clear hs1 hb
    have h9 := c_GetsH (chK 5 139 p23 q23) (some ⟨bf23, 0, none⟩) 4 (some ⟨br23, 0, none⟩) 4 (some ⟨bw23, 0, none⟩) 2 ge gz 2 _ (hs.rd (.head _)).bk (hs.rd (.tail _ (.tail _ (.tail _ (.head _))))) te tz (hs.rd (.tail _ (.tail _ (.tail _ (.tail _ (.head _))))))
    rw [show tellP (chK 5 139 p23 q23) 2 2 = ((0, 0), 91) from q_g2 _ _] at h9; dsimp only at h9
    refine callL hf hs (h9) rfl rfl rfl E38 (by decide) ?_; clear hs hf a; intro w a hs hf
    refine gL hf (g_mv hf rfl) (by decide) ?_; clear hf a; intro a hf
    refine gL hf (g_ext hf rfl rfl) (by decide) ?_; clear hf a; intro a hf
    refine gL hf (g_ext hf rfl rfl) (by decide) ?_; clear hf a; intro a hf
    refine vL hf (v_alloc hs T40 rfl) (by decide) ?_; clear hs hf a; rintro _ w ⟨b5, rfl, hs⟩ a hf
    refine uL (u_stW hf hs T40 rfl rfl rfl (k := 0) rfl rfl rfl) ?_; clear hs; intro w hs; dsimp only [List.set] at hs
    refine gL hf (g_as hf rfl) (by decide) ?_; clear hf a; intro a hf
    refine e_nil ?_
    refine c_reg ?_
    refine callX hf hs (c_wrongBH _) rfl rfl rfl E58 (by decide) ?_; intro v w1 a hR hb hs1 hf; obtain ⟨bf24, br24, p24, q24, bw24, rfl, hbc⟩ := hR; replace hs := hs.fresh hs1 (bkCFresh (m := w0.heap.size) hbc hs.below.size); clear hs1 hb
    have h9 := c_PassesH (chK 5 139 p24 q24) (some ⟨bf24, 0, none⟩) 4 (some ⟨br24, 0, none⟩) 4 (some ⟨bw24, 0, none⟩) 2 ge gz 1 _ (hs.rd (.head _)).bk (hs.rd (.tail _ (.tail _ (.tail _ (.tail _ (.head _)))))) te tz (hs.rd (.tail _ (.tail _ (.tail _ (.tail _ (.tail _ (.head _)))))))
    rw [show tellP (chK 5 139 p24 q24) 1 0 = ((0, 0), 92) from q_p1 _ _] at h9; dsimp only at h9
    refine callL hf hs (h9) rfl rfl rfl E23 (by decide) ?_; clear hs hf a; intro w a hs hf
    refine gL hf (g_mv hf rfl) (by decide) ?_; clear hf a; intro a hf
    refine gL hf (g_ext hf rfl rfl) (by decide) ?_; clear hf a; intro a hf
    refine gL hf (g_ext hf rfl rfl) (by decide) ?_; clear hf a; intro a hf
    refine vL hf (v_alloc hs T40 rfl) (by decide) ?_; clear hs hf a; rintro _ w ⟨b6, rfl, hs⟩ a hf
    refine uL (u_stW hf hs T40 rfl rfl rfl (k := 0) rfl rfl rfl) ?_; clear hs; intro w hs; dsimp only [List.set] at hs
    refine gL hf (g_as hf rfl) (by decide) ?_; clear hf a; intro a hf
    refine e_nil ?_
    refine c_reg ?_
    refine callX hf hs (c_wrongBH _) rfl rfl rfl E58 (by decide) ?_; intro v w1 a hR hb hs1 hf; obtain ⟨bf25, br25, p25, q25, bw25, rfl, hbc⟩ := hR; replace hs := hs.fresh hs1 (bkCFresh (m := w0.heap.size) hbc hs.below.size); clear hs1 hb
    have h9 := c_MissingH (chK 5 139 p25 q25) (some ⟨bf25, 0, none⟩) 4 (some ⟨br25, 0, none⟩) 4 (some ⟨bw25, 0, none⟩) 2 ge gz 1 _ (hs.rd (.head _)).bk (hs.rd (.tail _ (.tail _ (.tail _ (.tail _ (.tail _ (.head _))))))) te tz (hs.rd (.tail _ (.tail _ (.tail _ (.tail _ (.tail _ (.tail _ (.head _))))))))
    rw [show tellP (chK 5 139 p25 q25) 1 1 = ((0, 0), 92) from q_m1 _ _] at h9; dsimp only at h9
    refine callL hf hs (h9) rfl rfl rfl E36 (by decide) ?_; clear hs hf a; intro w a hs hf
    refine gL hf (g_mv hf rfl) (by decide) ?_; clear hf a; intro a hf
    refine gL hf (g_ext hf rfl rfl) (by decide) ?_; clear hf a; intro a hf
    refine gL hf (g_ext hf rfl rfl) (by decide) ?_; clear hf a; intro a hf
    refine vL hf (v_alloc hs T40 rfl) (by decide) ?_; clear hs hf a; rintro _ w ⟨b7, rfl, hs⟩ a hf
    refine uL (u_stW hf hs T40 rfl rfl rfl (k := 0) rfl rfl rfl) ?_; clear hs; intro w hs; dsimp only [List.set] at hs
    refine gL hf (g_as hf rfl) (by decide) ?_; clear hf a; intro a hf
    refine e_nil ?_
    refine c_reg ?_
    refine callX hf hs (c_wrongBH _) rfl rfl rfl E58 (by decide) ?_; intro v w1 a hR hb hs1 hf; obtain ⟨bf26, br26, p26, q26, bw26, rfl, hbc⟩ := hR; replace hs := hs.fresh hs1 (bkCFresh (m := w0.heap.size) hbc hs.below.size); clear hs1 hb
    have h9 := c_GetsH (chK 5 139 p26 q26) (some ⟨bf26, 0, none⟩) 4 (some ⟨br26, 0, none⟩) 4 (some ⟨bw26, 0, none⟩) 2 ge gz 1 _ (hs.rd (.head _)).bk (hs.rd (.tail _ (.tail _ (.tail _ (.tail _ (.tail _ (.tail _ (.head _)))))))) te tz (hs.rd (.tail _ (.tail _ (.tail _ (.tail _ (.tail _ (.tail _ (.tail _ (.head _)))))))))
    rw [show tellP (chK 5 139 p26 q26) 1 2 = ((0, 0), 92) from q_g1 _ _] at h9; dsimp only at h9
    refine callL hf hs (h9) rfl rfl rfl E38 (by decide) ?_; clear hs hf a; intro w a hs hf
    refine gL hf (g_mv hf rfl) (by decide) ?_; clear hf a; intro a hf
    refine gL hf (g_ext hf rfl rfl) (by decide) ?_; clear hf a; intro a hf
    refine gL hf (g_ext hf rfl rfl) (by decide) ?_; clear hf a; intro a hf
    refine vL hf (v_alloc hs T40 rfl) (by decide) ?_; clear hs hf a; rintro _ w ⟨b8, rfl, hs⟩ a hf
    refine uL (u_stW hf hs T40 rfl rfl rfl (k := 0) rfl rfl rfl) ?_; clear hs; intro w hs; dsimp only [List.set] at hs
    refine gL hf (g_as hf rfl) (by decide) ?_; clear hf a; intro a hf
    refine e_nil ?_
    refine c_reg ?_
    refine callX hf hs (c_wrongBH _) rfl rfl rfl E58 (by decide) ?_; intro v w1 a hR hb hs1 hf; obtain ⟨bf27, br27, p27, q27, bw27, rfl, hbc⟩ := hR; replace hs := hs.fresh hs1 (bkCFresh (m := w0.heap.size) hbc hs.below.size); clear hs1 hb
    have h9 := c_TotalH (chK 5 139 p27 q27) (some ⟨bf27, 0, none⟩) 4 (some ⟨br27, 0, none⟩) 4 (some ⟨bw27, 0, none⟩) 2 ge gz  _ (hs.rd (.head _)).bk (hs.rd (.tail _ (.tail _ (.tail _ (.tail _ (.tail _ (.tail _ (.tail _ (.head _))))))))) te tz (hs.rd (.tail _ (.tail _ (.tail _ (.tail _ (.tail _ (.tail _ (.tail _ (.tail _ (.head _))))))))))
    rw [show totalP (chK 5 139 p27 q27) = ((0, 0), 92) from q_t _ _] at h9; dsimp only at h9
    refine callL hf hs (h9) rfl rfl rfl E27 (by decide) ?_; clear hs hf a; intro w a hs hf
    refine gL hf (g_mv hf rfl) (by decide) ?_; clear hf a; intro a hf
    refine gL hf (g_ext hf rfl rfl) (by decide) ?_; clear hf a; intro a hf
    refine gL hf (g_ext hf rfl rfl) (by decide) ?_; clear hf a; intro a hf
    refine vL hf (v_alloc hs T40 rfl) (by decide) ?_; clear hs hf a; rintro _ w ⟨b9, rfl, hs⟩ a hf
    refine uL (u_stW hf hs T40 rfl rfl rfl (k := 0) rfl rfl rfl) ?_; clear hs; intro w hs; dsimp only [List.set] at hs
    refine gL hf (g_as hf rfl) (by decide) ?_; clear hf a; intro a hf
    refine e_nil ?_
    refine c_reg ?_
    refine callX hf hs (c_wrongBH _) rfl rfl rfl E58 (by decide) ?_; intro v w1 a hR hb hs1 hf; obtain ⟨bf28, br28, p28, q28, bw28, rfl, hbc⟩ := hR; replace hs := hs.fresh hs1 (bkCFresh (m := w0.heap.size) hbc hs.below.size); clear hs1 hb
    have h9 := c_GrossesH (chK 5 139 p28 q28) (some ⟨bf28, 0, none⟩) 4 (some ⟨br28, 0, none⟩) 4 (some ⟨bw28, 0, none⟩) 2 ge gz  _ (hs.rd (.head _)).bk (hs.rd (.tail _ (.tail _ (.tail _ (.tail _ (.tail _ (.tail _ (.tail _ (.tail _ (.head _)))))))))) te tz (hs.rd (.tail _ (.tail _ (.tail _ (.tail _ (.tail _ (.tail _ (.tail _ (.tail _ (.tail _ (.head _)))))))))))
    rw [show grossP (chK 5 139 p28 q28) = ((0, 0), 92) from q_gr _ _] at h9; dsimp only at h9
    refine callL hf hs (h9) rfl rfl rfl E25 (by decide) ?_; clear hs hf a; intro w a hs hf
    refine gL hf (g_mv hf rfl) (by decide) ?_; clear hf a; intro a hf
    refine gL hf (g_ext hf rfl rfl) (by decide) ?_; clear hf a; intro a hf
    refine gL hf (g_ext hf rfl rfl) (by decide) ?_; clear hf a; intro a hf
    refine vL hf (v_alloc hs T40 rfl) (by decide) ?_; clear hs hf a; rintro _ w ⟨b10, rfl, hs⟩ a hf
    refine uL (u_stW hf hs T40 rfl rfl rfl (k := 0) rfl rfl rfl) ?_; clear hs; intro w hs; dsimp only [List.set] at hs
    refine gL hf (g_as hf rfl) (by decide) ?_; clear hf a; intro a hf
    refine e_nil ?_
    refine c_reg ?_
    refine callX hf hs (c_wrongBH _) rfl rfl rfl E58 (by decide) ?_; intro v w1 a hR hb hs1 hf; obtain ⟨bf29, br29, p29, q29, bw29, rfl, hbc⟩ := hR; replace hs := hs.fresh hs1 (bkCFresh (m := w0.heap.size) hbc hs.below.size); clear hs1 hb
    have h9 := c_TeachH (chK 5 139 p29 q29) (some ⟨bf29, 0, none⟩) 4 (some ⟨br29, 0, none⟩) 4 (some ⟨bw29, 0, none⟩) 2 ge gz  _ (hs.rd (.head _)).bk (hs.rd (.tail _ (.tail _ (.tail _ (.tail _ (.tail _ (.tail _ (.tail _ (.tail _ (.tail _ (.head _))))))))))) te tz (hs.rd (.tail _ (.tail _ (.tail _ (.tail _ (.tail _ (.tail _ (.tail _ (.tail _ (.tail _ (.tail _ (.head _))))))))))))
    rw [show teachP (chK 5 139 p29 q29) = (0, 92) from q_te _ _] at h9; dsimp only at h9
    refine callL hf hs (h9) rfl rfl rfl E21 (by decide) ?_; clear hs hf a; intro w a hs hf
    refine gL hf (g_mv hf rfl) (by decide) ?_; clear hf a; intro a hf
    refine gL hf (g_ext hf rfl rfl) (by decide) ?_; clear hf a; intro a hf
    refine gL hf (g_ext hf rfl rfl) (by decide) ?_; clear hf a; intro a hf
    refine gL hf (g_as hf rfl) (by decide) ?_; clear hf a; intro a hf
    refine gL hf (g_as hf rfl) (by decide) ?_; clear hf a; intro a hf
    refine e_nil ?_
    refine c_reg ?_
    refine callX hf hs (c_wrongBH _) rfl rfl rfl E58 (by decide) ?_; intro v w1 a hR hb hs1 hf; obtain ⟨bf30, br30, p30, q30, bw30, rfl, hbc⟩ := hR; replace hs := hs.fresh hs1 (bkCFresh (m := w0.heap.size) hbc hs.below.size); clear hs1 hb
    have h9 := c_AskH (chK 5 139 p30 q30) (some ⟨bf30, 0, none⟩) 4 (some ⟨br30, 0, none⟩) 4 (some ⟨bw30, 0, none⟩) 2 ge gz  _ (hs.rd (.head _)).bk (hs.rd (.tail _ (.tail _ (.tail _ (.tail _ (.tail _ (.tail _ (.tail _ (.tail _ (.tail _ (.tail _ (.head _)))))))))))) te tz (hs.rd (.tail _ (.tail _ (.tail _ (.tail _ (.tail _ (.tail _ (.tail _ (.tail _ (.tail _ (.tail _ (.tail _ (.head _)))))))))))))
    rw [show askP (chK 5 139 p30 q30) = (0, 92) from q_as _ _] at h9; dsimp only at h9
    refine callL hf hs (h9) rfl rfl rfl E46 (by decide) ?_; clear hs hf a; intro w a hs hf
    refine gL hf (g_mv hf rfl) (by decide) ?_; clear hf a; intro a hf
    refine gL hf (g_ext hf rfl rfl) (by decide) ?_; clear hf a; intro a hf
    refine gL hf (g_ext hf rfl rfl) (by decide) ?_; clear hf a; intro a hf
    refine gL hf (g_as hf rfl) (by decide) ?_; clear hf a; intro a hf
    refine gL hf (g_as hf rfl) (by decide) ?_; clear hf a; intro a hf
    refine e_nil ?_
    refine wp_seq ?_
    refine c_reg ?_
    refine gL hf (g_mv hf rfl) (by decide) ?_; clear hf a; intro a hf
    refine gL hf (g_neq hf rfl rfl) (by decide) ?_; clear hf a; intro a hf
    refine gL hf (g_mv hf rfl) (by decide) ?_; clear hf a; intro a hf
    refine gKnown hf rfl rfl rfl ?_
    refine gL hf (g_mv hf rfl) (by decide) ?_; clear hf a; intro a hf
    refine gKnown hf rfl rfl rfl ?_
    refine gL hf (g_neq hf rfl rfl) (by decide) ?_; clear hf a; intro a hf
    refine gL hf (g_pick hf rfl rfl rfl) (by decide) ?_; clear hf a; intro a hf
    refine gL hf (g_mv hf rfl) (by decide) ?_; clear hf a; intro a hf
    refine gKnown hf rfl rfl rfl ?_
    refine gL hf (g_mv hf rfl) (by decide) ?_; clear hf a; intro a hf
    refine gKnown hf rfl rfl rfl ?_
    refine gL hf (g_neq hf rfl rfl) (by decide) ?_; clear hf a; intro a hf
    refine gL hf (g_pick hf rfl rfl rfl) (by decide) ?_; clear hf a; intro a hf
    refine gL hf (g_mv hf rfl) (by decide) ?_; clear hf a; intro a hf
    refine gKnown hf rfl rfl rfl ?_
    refine gL hf (g_mv hf rfl) (by decide) ?_; clear hf a; intro a hf
    refine gKnown hf rfl rfl rfl ?_
    refine gL hf (g_neq hf rfl rfl) (by decide) ?_; clear hf a; intro a hf
    refine gL hf (g_pick hf rfl rfl rfl) (by decide) ?_; clear hf a; intro a hf
    refine gL hf (g_mv hf rfl) (by decide) ?_; clear hf a; intro a hf
    refine gKnown hf rfl rfl rfl ?_
    refine gL hf (g_mv hf rfl) (by decide) ?_; clear hf a; intro a hf
    refine gKnown hf rfl rfl rfl ?_
    refine gL hf (g_neq hf rfl rfl) (by decide) ?_; clear hf a; intro a hf
    refine gL hf (g_pick hf rfl rfl rfl) (by decide) ?_; clear hf a; intro a hf
    refine gL hf (g_mv hf rfl) (by decide) ?_; clear hf a; intro a hf
    refine gKnown hf rfl rfl rfl ?_
    refine gL hf (g_mv hf rfl) (by decide) ?_; clear hf a; intro a hf
    refine gKnown hf rfl rfl rfl ?_
    refine gL hf (g_neq hf rfl rfl) (by decide) ?_; clear hf a; intro a hf
    refine gL hf (g_pick hf rfl rfl rfl) (by decide) ?_; clear hf a; intro a hf
    refine gL hf (g_mv hf rfl) (by decide) ?_; clear hf a; intro a hf
    refine gKnown hf rfl rfl rfl ?_
    refine gL hf (g_mv hf rfl) (by decide) ?_; clear hf a; intro a hf
    refine gKnown hf rfl rfl rfl ?_
    refine gL hf (g_neq hf rfl rfl) (by decide) ?_; clear hf a; intro a hf
    refine gL hf (g_pick hf rfl rfl rfl) (by decide) ?_; clear hf a; intro a hf
    refine gL hf (g_mv hf rfl) (by decide) ?_; clear hf a; intro a hf
    refine gKnown hf rfl rfl rfl ?_
    refine gL hf (g_mv hf rfl) (by decide) ?_; clear hf a; intro a hf
    refine gKnown hf rfl rfl rfl ?_
    refine gL hf (g_neq hf rfl rfl) (by decide) ?_; clear hf a; intro a hf
    refine gL hf (g_pick hf rfl rfl rfl) (by decide) ?_; clear hf a; intro a hf
    refine gL hf (g_mv hf rfl) (by decide) ?_; clear hf a; intro a hf
    refine gKnown hf rfl rfl rfl ?_
    refine gL hf (g_mv hf rfl) (by decide) ?_; clear hf a; intro a hf
    refine gKnown hf rfl rfl rfl ?_
    refine gL hf (g_neq hf rfl rfl) (by decide) ?_; clear hf a; intro a hf
    refine gL hf (g_pick hf rfl rfl rfl) (by decide) ?_; clear hf a; intro a hf
    refine gL hf (g_mv hf rfl) (by decide) ?_; clear hf a; intro a hf
    refine gKnown hf rfl rfl rfl ?_
    refine gL hf (g_mv hf rfl) (by decide) ?_; clear hf a; intro a hf
    refine gKnown hf rfl rfl rfl ?_
    refine gL hf (g_neq hf rfl rfl) (by decide) ?_; clear hf a; intro a hf
    refine gL hf (g_pick hf rfl rfl rfl) (by decide) ?_; clear hf a; intro a hf
    refine e_nil ?_
    refine c_cond hf rfl (fun hc3 => ?_) (fun hc3 => ?_)
    · skip
      cases hc3
    · skip
      refine c_skip (q_thenN ?_)
      refine c_reg ?_
      refine callX hf hs (c_ownH _) rfl rfl rfl E56 (by decide) ?_; intro v w1 a hR hb hs1 hf; obtain ⟨bf31, br31, p31, q31, bw31, rfl, hbc⟩ := hR; replace hs := hs.fresh hs1 (bkCFresh (m := w0.heap.size) hbc hs.below.size); clear hs1 hb
      have h9 := c_PassesH (chK 5 150 p31 q31) (some ⟨bf31, 0, none⟩) 4 (some ⟨br31, 0, none⟩) 4 (some ⟨bw31, 0, none⟩) 2 ge gz 1 _ (hs.rd (.head _)).bk (hs.rd (.tail _ (.tail _ (.tail _ (.tail _ (.tail _ (.tail _ (.tail _ (.tail _ (.tail _ (.tail _ (.tail _ (.head _))))))))))))) te tz (hs.rd (.tail _ (.tail _ (.tail _ (.tail _ (.tail _ (.tail _ (.tail _ (.tail _ (.tail _ (.tail _ (.tail _ (.tail _ (.head _))))))))))))))
      rw [show tellP (chK 5 150 p31 q31) 1 0 = ((0, 0), 0) from q_op1 _ _] at h9; dsimp only at h9
      refine callL hf hs (h9) rfl rfl rfl E23 (by decide) ?_; clear hs hf a; intro w a hs hf
      refine gL hf (g_mv hf rfl) (by decide) ?_; clear hf a; intro a hf
      refine gL hf (g_ext hf rfl rfl) (by decide) ?_; clear hf a; intro a hf
      refine gL hf (g_ext hf rfl rfl) (by decide) ?_; clear hf a; intro a hf
      refine vL hf (v_alloc hs T40 rfl) (by decide) ?_; clear hs hf a; rintro _ w ⟨b11, rfl, hs⟩ a hf
      refine uL (u_stW hf hs T40 rfl rfl rfl (k := 0) rfl rfl rfl) ?_; clear hs; intro w hs; dsimp only [List.set] at hs
      refine gL hf (g_as hf rfl) (by decide) ?_; clear hf a; intro a hf
      refine e_nil ?_
      refine c_reg ?_
      refine callX hf hs (c_ownH _) rfl rfl rfl E56 (by decide) ?_; intro v w1 a hR hb hs1 hf; obtain ⟨bf32, br32, p32, q32, bw32, rfl, hbc⟩ := hR; replace hs := hs.fresh hs1 (bkCFresh (m := w0.heap.size) hbc hs.below.size); clear hs1 hb
      have h9 := c_MissingH (chK 5 150 p32 q32) (some ⟨bf32, 0, none⟩) 4 (some ⟨br32, 0, none⟩) 4 (some ⟨bw32, 0, none⟩) 2 ge gz 0 _ (hs.rd (.head _)).bk (hs.rd (.tail _ (.tail _ (.tail _ (.tail _ (.tail _ (.tail _ (.tail _ (.tail _ (.tail _ (.tail _ (.tail _ (.tail _ (.head _)))))))))))))) te tz (hs.rd (.tail _ (.tail _ (.tail _ (.tail _ (.tail _ (.tail _ (.tail _ (.tail _ (.tail _ (.tail _ (.tail _ (.tail _ (.tail _ (.head _)))))))))))))))
      rw [show tellP (chK 5 150 p32 q32) 0 1 = ((4, 8), 0) from q_om0 _ _] at h9; dsimp only at h9
      refine callL hf hs (h9) rfl rfl rfl E36 (by decide) ?_; clear hs hf a; intro w a hs hf
      refine gL hf (g_mv hf rfl) (by decide) ?_; clear hf a; intro a hf
      refine gL hf (g_ext hf rfl rfl) (by decide) ?_; clear hf a; intro a hf
      refine gL hf (g_ext hf rfl rfl) (by decide) ?_; clear hf a; intro a hf
      refine vL hf (v_alloc hs T40 rfl) (by decide) ?_; clear hs hf a; rintro _ w ⟨b12, rfl, hs⟩ a hf
      refine uL (u_stW hf hs T40 rfl rfl rfl (k := 0) rfl rfl rfl) ?_; clear hs; intro w hs; dsimp only [List.set] at hs
      refine gL hf (g_as hf rfl) (by decide) ?_; clear hf a; intro a hf
      refine e_nil ?_
      refine c_reg ?_
      refine callX hf hs (c_ownH _) rfl rfl rfl E56 (by decide) ?_; intro v w1 a hR hb hs1 hf; obtain ⟨bf33, br33, p33, q33, bw33, rfl, hbc⟩ := hR; replace hs := hs.fresh hs1 (bkCFresh (m := w0.heap.size) hbc hs.below.size); clear hs1 hb
      have h9 := c_GetsH (chK 5 150 p33 q33) (some ⟨bf33, 0, none⟩) 4 (some ⟨br33, 0, none⟩) 4 (some ⟨bw33, 0, none⟩) 2 ge gz 1 _ (hs.rd (.head _)).bk (hs.rd (.tail _ (.tail _ (.tail _ (.tail _ (.tail _ (.tail _ (.tail _ (.tail _ (.tail _ (.tail _ (.tail _ (.tail _ (.tail _ (.head _))))))))))))))) te tz (hs.rd (.tail _ (.tail _ (.tail _ (.tail _ (.tail _ (.tail _ (.tail _ (.tail _ (.tail _ (.tail _ (.tail _ (.tail _ (.tail _ (.tail _ (.head _))))))))))))))))
      rw [show tellP (chK 5 150 p33 q33) 1 2 = ((-20, -6), 0) from q_og1 _ _] at h9; dsimp only at h9
      refine callL hf hs (h9) rfl rfl rfl E38 (by decide) ?_; clear hs hf a; intro w a hs hf
      refine gL hf (g_mv hf rfl) (by decide) ?_; clear hf a; intro a hf
      refine gL hf (g_ext hf rfl rfl) (by decide) ?_; clear hf a; intro a hf
      refine gL hf (g_ext hf rfl rfl) (by decide) ?_; clear hf a; intro a hf
      refine vL hf (v_alloc hs T40 rfl) (by decide) ?_; clear hs hf a; rintro _ w ⟨b13, rfl, hs⟩ a hf
      refine uL (u_stW hf hs T40 rfl rfl rfl (k := 0) rfl rfl rfl) ?_; clear hs; intro w hs; dsimp only [List.set] at hs
      refine gL hf (g_as hf rfl) (by decide) ?_; clear hf a; intro a hf
      refine e_nil ?_
      refine c_reg ?_
      refine callX hf hs (c_looseH _) rfl rfl rfl E59 (by decide) ?_; intro v w1 a hR hb hs1 hf; obtain ⟨bf34, br34, p34, q34, bw34, rfl, hbc⟩ := hR; replace hs := hs.fresh hs1 (bkCFresh (m := w0.heap.size) hbc hs.below.size); clear hs1 hb
      have h9 := c_PassesH (chK 6 150 p34 q34) (some ⟨bf34, 0, none⟩) 4 (some ⟨br34, 0, none⟩) 4 (some ⟨bw34, 0, none⟩) 2 ge gz 0 _ (hs.rd (.head _)).bk (hs.rd (.tail _ (.tail _ (.tail _ (.tail _ (.tail _ (.tail _ (.tail _ (.tail _ (.tail _ (.tail _ (.tail _ (.tail _ (.tail _ (.tail _ (.head _)))))))))))))))) te tz (hs.rd (.tail _ (.tail _ (.tail _ (.tail _ (.tail _ (.tail _ (.tail _ (.tail _ (.tail _ (.tail _ (.tail _ (.tail _ (.tail _ (.tail _ (.tail _ (.head _)))))))))))))))))
      rw [show tellP (chK 6 150 p34 q34) 0 0 = ((0, 290), 0) from q_lp _ _] at h9; dsimp only at h9
      refine callL hf hs (h9) rfl rfl rfl E23 (by decide) ?_; clear hs hf a; intro w a hs hf
      refine gL hf (g_mv hf rfl) (by decide) ?_; clear hf a; intro a hf
      refine gL hf (g_ext hf rfl rfl) (by decide) ?_; clear hf a; intro a hf
      refine gL hf (g_ext hf rfl rfl) (by decide) ?_; clear hf a; intro a hf
      refine vL hf (v_alloc hs T40 rfl) (by decide) ?_; clear hs hf a; rintro _ w ⟨b14, rfl, hs⟩ a hf
      refine uL (u_stW hf hs T40 rfl rfl rfl (k := 0) rfl rfl rfl) ?_; clear hs; intro w hs; dsimp only [List.set] at hs
      refine gL hf (g_as hf rfl) (by decide) ?_; clear hf a; intro a hf
      refine e_nil ?_
      refine c_reg ?_
      refine callX hf hs (c_looseH _) rfl rfl rfl E59 (by decide) ?_; intro v w1 a hR hb hs1 hf; obtain ⟨bf35, br35, p35, q35, bw35, rfl, hbc⟩ := hR; replace hs := hs.fresh hs1 (bkCFresh (m := w0.heap.size) hbc hs.below.size); clear hs1 hb
      have h9 := c_GetsH (chK 6 150 p35 q35) (some ⟨bf35, 0, none⟩) 4 (some ⟨br35, 0, none⟩) 4 (some ⟨bw35, 0, none⟩) 2 ge gz 0 _ (hs.rd (.head _)).bk (hs.rd (.tail _ (.tail _ (.tail _ (.tail _ (.tail _ (.tail _ (.tail _ (.tail _ (.tail _ (.tail _ (.tail _ (.tail _ (.tail _ (.tail _ (.tail _ (.head _))))))))))))))))) te tz (hs.rd (.tail _ (.tail _ (.tail _ (.tail _ (.tail _ (.tail _ (.tail _ (.tail _ (.tail _ (.tail _ (.tail _ (.tail _ (.tail _ (.tail _ (.tail _ (.tail _ (.head _))))))))))))))))))
      rw [show tellP (chK 6 150 p35 q35) 0 2 = ((-16, 112), 0) from q_lg _ _] at h9; dsimp only at h9
      refine callL hf hs (h9) rfl rfl rfl E38 (by decide) ?_; clear hs hf a; intro w a hs hf
      refine gL hf (g_mv hf rfl) (by decide) ?_; clear hf a; intro a hf
      refine gL hf (g_ext hf rfl rfl) (by decide) ?_; clear hf a; intro a hf
      refine gL hf (g_ext hf rfl rfl) (by decide) ?_; clear hf a; intro a hf
      refine vL hf (v_alloc hs T40 rfl) (by decide) ?_; clear hs hf a; rintro _ w ⟨b15, rfl, hs⟩ a hf
      refine uL (u_stW hf hs T40 rfl rfl rfl (k := 0) rfl rfl rfl) ?_; clear hs; intro w hs; dsimp only [List.set] at hs
      refine gL hf (g_as hf rfl) (by decide) ?_; clear hf a; intro a hf
      refine e_nil ?_
      refine c_reg ?_
      refine callX hf hs (c_looseH _) rfl rfl rfl E59 (by decide) ?_; intro v w1 a hR hb hs1 hf; obtain ⟨bf36, br36, p36, q36, bw36, rfl, hbc⟩ := hR; replace hs := hs.fresh hs1 (bkCFresh (m := w0.heap.size) hbc hs.below.size); clear hs1 hb
      have h9 := c_GrossesH (chK 6 150 p36 q36) (some ⟨bf36, 0, none⟩) 4 (some ⟨br36, 0, none⟩) 4 (some ⟨bw36, 0, none⟩) 2 ge gz  _ (hs.rd (.head _)).bk (hs.rd (.tail _ (.tail _ (.tail _ (.tail _ (.tail _ (.tail _ (.tail _ (.tail _ (.tail _ (.tail _ (.tail _ (.tail _ (.tail _ (.tail _ (.tail _ (.tail _ (.head _)))))))))))))))))) te tz (hs.rd (.tail _ (.tail _ (.tail _ (.tail _ (.tail _ (.tail _ (.tail _ (.tail _ (.tail _ (.tail _ (.tail _ (.tail _ (.tail _ (.tail _ (.tail _ (.tail _ (.tail _ (.head _)))))))))))))))))))
      rw [show grossP (chK 6 150 p36 q36) = ((0, 2), 0) from q_lgr _ _] at h9; dsimp only at h9
      refine callL hf hs (h9) rfl rfl rfl E25 (by decide) ?_; clear hs hf a; intro w a hs hf
      refine gL hf (g_mv hf rfl) (by decide) ?_; clear hf a; intro a hf
      refine gL hf (g_ext hf rfl rfl) (by decide) ?_; clear hf a; intro a hf
      refine gL hf (g_ext hf rfl rfl) (by decide) ?_; clear hf a; intro a hf
      refine vL hf (v_alloc hs T40 rfl) (by decide) ?_; clear hs hf a; rintro _ w ⟨b16, rfl, hs⟩ a hf
      refine uL (u_stW hf hs T40 rfl rfl rfl (k := 0) rfl rfl rfl) ?_; clear hs; intro w hs; dsimp only [List.set] at hs
      refine gL hf (g_as hf rfl) (by decide) ?_; clear hf a; intro a hf
      refine e_nil ?_
      refine c_reg ?_
      refine callX hf hs (c_wrongBH _) rfl rfl rfl E58 (by decide) ?_; intro v w1 a hR hb hs1 hf; obtain ⟨bf37, br37, p37, q37, bw37, rfl, hbc⟩ := hR; replace hs := hs.fresh hs1 (bkCFresh (m := w0.heap.size) hbc hs.below.size); clear hs1 hb
      have h9 := c_GetsH (chK 5 139 p37 q37) (some ⟨bf37, 0, none⟩) 4 (some ⟨br37, 0, none⟩) 4 (some ⟨bw37, 0, none⟩) 2 ge gz 0 _ (hs.rd (.head _)).bk (hs.rd (.tail _ (.tail _ (.tail _ (.tail _ (.tail _ (.tail _ (.tail _ (.tail _ (.tail _ (.tail _ (.tail _ (.tail _ (.tail _ (.tail _ (.tail _ (.tail _ (.tail _ (.head _))))))))))))))))))) te tz (hs.rd (.tail _ (.tail _ (.tail _ (.tail _ (.tail _ (.tail _ (.tail _ (.tail _ (.tail _ (.tail _ (.tail _ (.tail _ (.tail _ (.tail _ (.tail _ (.tail _ (.tail _ (.tail _ (.head _))))))))))))))))))))
      rw [show tellP (chK 5 139 p37 q37) 0 2 = ((104, 112), 0) from q_wg _ _] at h9; dsimp only at h9
      refine callL hf hs (h9) rfl rfl rfl E38 (by decide) ?_; clear hs hf a; intro w a hs hf
      refine gL hf (g_mv hf rfl) (by decide) ?_; clear hf a; intro a hf
      refine gL hf (g_ext hf rfl rfl) (by decide) ?_; clear hf a; intro a hf
      refine gL hf (g_ext hf rfl rfl) (by decide) ?_; clear hf a; intro a hf
      refine vL hf (v_alloc hs T40 rfl) (by decide) ?_; clear hs hf a; rintro _ w ⟨b17, rfl, hs⟩ a hf
      refine uL (u_stW hf hs T40 rfl rfl rfl (k := 0) rfl rfl rfl) ?_; clear hs; intro w hs; dsimp only [List.set] at hs
      refine gL hf (g_as hf rfl) (by decide) ?_; clear hf a; intro a hf
      refine e_nil ?_
      refine c_reg ?_
      refine callX hf hs (c_wrongBH _) rfl rfl rfl E58 (by decide) ?_; intro v w1 a hR hb hs1 hf; obtain ⟨bf38, br38, p38, q38, bw38, rfl, hbc⟩ := hR; replace hs := hs.fresh hs1 (bkCFresh (m := w0.heap.size) hbc hs.below.size); clear hs1 hb
      have h9 := c_RightH (chK 5 139 p38 q38) (some ⟨bf38, 0, none⟩) 4 (some ⟨br38, 0, none⟩) 4 (some ⟨bw38, 0, none⟩) 2 ge gz 1 _ (hs.rd (.head _)).bk (hs.rd (.tail _ (.tail _ (.tail _ (.tail _ (.tail _ (.tail _ (.tail _ (.tail _ (.tail _ (.tail _ (.tail _ (.tail _ (.tail _ (.tail _ (.tail _ (.tail _ (.tail _ (.tail _ (.head _))))))))))))))))))))
      rw [show rightP (chK 5 139 p38 q38) 1 = (false, 0) from q_wr _ _] at h9; dsimp only at h9
      refine callL hf hs (h9) rfl rfl rfl E31 (by decide) ?_; clear hs hf a; intro w a hs hf
      refine gL hf (g_mv hf rfl) (by decide) ?_; clear hf a; intro a hf
      refine gL hf (g_ext hf rfl rfl) (by decide) ?_; clear hf a; intro a hf
      refine gL hf (g_ext hf rfl rfl) (by decide) ?_; clear hf a; intro a hf
      refine gL hf (g_as hf rfl) (by decide) ?_; clear hf a; intro a hf
      refine gL hf (g_as hf rfl) (by decide) ?_; clear hf a; intro a hf
      refine e_nil ?_
      refine c_reg ?_
      refine callX hf hs (c_ownH _) rfl rfl rfl E56 (by decide) ?_; intro v w1 a hR hb hs1 hf; obtain ⟨bf39, br39, p39, q39, bw39, rfl, hbc⟩ := hR; replace hs := hs.fresh hs1 (bkCFresh (m := w0.heap.size) hbc hs.below.size); clear hs1 hb
      refine callX hf hs (c_WrongH (chK 5 150 p39 q39) (some ⟨bf39, 0, none⟩) 4 (some ⟨br39, 0, none⟩) 4 (some ⟨bw39, 0, none⟩) 2 ge gz _ (hs.rd (.head _)).bk (hs.rd (.tail _ (.tail _ (.tail _ (.tail _ (.tail _ (.tail _ (.tail _ (.tail _ (.tail _ (.tail _ (.tail _ (.tail _ (.tail _ (.tail _ (.tail _ (.tail _ (.tail _ (.tail _ (.tail _ (.head _)))))))))))))))))))))) rfl rfl rfl E20 (by decide) ?_; intro v w1 a hR hb hs1 hf; obtain ⟨A39, c39, rfl, hou⟩ := hR; rw [show wrongP (chK 5 150 p39 q39) = ([], 0) from q_ow _ _] at hou hf; replace hs := hs.fresh hs1 (outFresh hou); clear hs1 hb
      refine gL hf (g_mv hf rfl) (by decide) ?_; clear hf a; intro a hf
      refine gL hf (g_ext hf rfl rfl) (by decide) ?_; clear hf a; intro a hf
      refine gL hf (g_ext hf rfl rfl) (by decide) ?_; clear hf a; intro a hf
      refine gL hf (g_as hf rfl) (by decide) ?_; clear hf a; intro a hf
      refine gL hf (g_as hf rfl) (by decide) ?_; clear hf a; intro a hf
      refine e_nil ?_
      refine c_reg ?_
      refine callX hf hs (c_looseH _) rfl rfl rfl E59 (by decide) ?_; intro v w1 a hR hb hs1 hf; obtain ⟨bf40, br40, p40, q40, bw40, rfl, hbc⟩ := hR; replace hs := hs.fresh hs1 (bkCFresh (m := w0.heap.size) hbc hs.below.size); clear hs1 hb
      have h9 := c_TeachH (chK 6 150 p40 q40) (some ⟨bf40, 0, none⟩) 4 (some ⟨br40, 0, none⟩) 4 (some ⟨bw40, 0, none⟩) 2 ge gz  _ (hs.rd (.head _)).bk (hs.rd (.tail _ (.tail _ (.tail _ (.tail _ (.tail _ (.tail _ (.tail _ (.tail _ (.tail _ (.tail _ (.tail _ (.tail _ (.tail _ (.tail _ (.tail _ (.tail _ (.tail _ (.tail _ (.tail _ (.tail _ (.tail _ (.head _))))))))))))))))))))))) te tz (hs.rd (.tail _ (.tail _ (.tail _ (.tail _ (.tail _ (.tail _ (.tail _ (.tail _ (.tail _ (.tail _ (.tail _ (.tail _ (.tail _ (.tail _ (.tail _ (.tail _ (.tail _ (.tail _ (.tail _ (.tail _ (.tail _ (.tail _ (.head _))))))))))))))))))))))))
      rw [show teachP (chK 6 150 p40 q40) = (0, 4) from q_lt _ _] at h9; dsimp only at h9
      refine callL hf hs (h9) rfl rfl rfl E21 (by decide) ?_; clear hs hf a; intro w a hs hf
      refine gL hf (g_mv hf rfl) (by decide) ?_; clear hf a; intro a hf
      refine gL hf (g_ext hf rfl rfl) (by decide) ?_; clear hf a; intro a hf
      refine gL hf (g_ext hf rfl rfl) (by decide) ?_; clear hf a; intro a hf
      refine gL hf (g_as hf rfl) (by decide) ?_; clear hf a; intro a hf
      refine e_nil ?_
      refine wp_seq ?_
      refine c_draw _ 81 Mx rfl hs (fun _ h => h) ?_; intro w hs hS
      refine gA hf hS (i := 0) rfl (by kernel_rfl) (fun w hs => g_mv hf rfl) (by decide) ?_; clear hf a; intro a hf
      refine gA hf hS (i := 1) rfl (by kernel_rfl) (fun w hs => g_neq hf rfl rfl) (by decide) ?_; clear hf a; intro a hf; replace hf := hf.setV (v' := .bool false) rfl
      refine gA hf hS (i := 2) rfl (by kernel_rfl) (fun w hs => g_mv hf rfl) (by decide) ?_; clear hf a; intro a hf
      refine ggA (G := true) hf hS (i := 3) rfl (by kernel_rfl) rfl rfl rfl (fun _ w hs => g_ldW hf hs T40 rfl (k := 6) rfl rfl) (by decide) ?_; clear hf a; intro a hf
      refine one (i := 4) (by kernel_rfl) ?_
      refine oCallG hf hs rfl rfl rfl (G := true) rfl (fun hg => ⟨_, _, _, _, c_Only _ _, rfl, evs_cons rfl evs_nil, rfl⟩) E60 (by decide) (fun _ h => h.sub (.refl _)) ?_; clear hs hf hS a; intro w a hs hS hf
      refine ggA (G := true) hf hS (i := 5) rfl (by kernel_rfl) rfl rfl rfl (fun _ w hs => g_neS hf Q40 rfl rfl) (by decide) ?_; clear hf a; intro a hf; replace hf := hf.setV (v' := .bool false) rfl
      refine gA hf hS (i := 6) rfl (by kernel_rfl) (fun w hs => g_pick hf rfl rfl rfl) (by decide) ?_; clear hf a; intro a hf; replace hf := hf.setV (v' := .bool false) rfl
      refine gA hf hS (i := 7) rfl (by kernel_rfl) (fun w hs => g_mv hf rfl) (by decide) ?_; clear hf a; intro a hf
      refine ggA (G := true) hf hS (i := 8) rfl (by kernel_rfl) rfl rfl rfl (fun _ w hs => g_mv hf rfl) (by decide) ?_; clear hf a; intro a hf
      refine ggA (G := true) hf hS (i := 9) rfl (by kernel_rfl) rfl rfl rfl (fun _ w hs => g_neq hf rfl rfl) (by decide) ?_; clear hf a; intro a hf; replace hf := hf.setV (v' := .bool false) rfl
      refine gA hf hS (i := 10) rfl (by kernel_rfl) (fun w hs => g_pick hf rfl rfl rfl) (by decide) ?_; clear hf a; intro a hf; replace hf := hf.setV (v' := .bool false) rfl
      refine gA hf hS (i := 11) rfl (by kernel_rfl) (fun w hs => g_mv hf rfl) (by decide) ?_; clear hf a; intro a hf
      refine ggA (G := true) hf hS (i := 12) rfl (by kernel_rfl) rfl rfl rfl (fun _ w hs => g_ldW hf hs T40 rfl (k := 5) rfl rfl) (by decide) ?_; clear hf a; intro a hf
      refine one (i := 13) (by kernel_rfl) ?_
      refine oCallG hf hs rfl rfl rfl (G := true) rfl (fun hg => ⟨_, _, _, _, c_Sp _ _ _, rfl, evs_cons rfl (evs_cons rfl evs_nil), rfl⟩) E52 (by decide) (fun _ h => h.sub (.refl _)) ?_; clear hs hf hS a; intro w a hs hS hf
      refine ggA (G := true) hf hS (i := 14) rfl (by kernel_rfl) rfl rfl rfl (fun _ w hs => g_neS hf Q40 rfl rfl) (by decide) ?_; clear hf a; intro a hf; replace hf := hf.setV (v' := .bool false) rfl
      refine gA hf hS (i := 15) rfl (by kernel_rfl) (fun w hs => g_pick hf rfl rfl rfl) (by decide) ?_; clear hf a; intro a hf; replace hf := hf.setV (v' := .bool false) rfl
      refine gA hf hS (i := 16) rfl (by kernel_rfl) (fun w hs => g_mv hf rfl) (by decide) ?_; clear hf a; intro a hf
      refine ggA (G := true) hf hS (i := 17) rfl (by kernel_rfl) rfl rfl rfl (fun _ w hs => g_mv hf rfl) (by decide) ?_; clear hf a; intro a hf
      refine ggA (G := true) hf hS (i := 18) rfl (by kernel_rfl) rfl rfl rfl (fun _ w hs => g_neq hf rfl rfl) (by decide) ?_; clear hf a; intro a hf; replace hf := hf.setV (v' := .bool false) rfl
      refine gA hf hS (i := 19) rfl (by kernel_rfl) (fun w hs => g_pick hf rfl rfl rfl) (by decide) ?_; clear hf a; intro a hf; replace hf := hf.setV (v' := .bool false) rfl
      refine gA hf hS (i := 20) rfl (by kernel_rfl) (fun w hs => g_mv hf rfl) (by decide) ?_; clear hf a; intro a hf
      refine ggA (G := true) hf hS (i := 21) rfl (by kernel_rfl) rfl rfl rfl (fun _ w hs => g_ldW hf hs T40 rfl (k := 4) rfl rfl) (by decide) ?_; clear hf a; intro a hf
      refine one (i := 22) (by kernel_rfl) ?_
      refine oCallG hf hs rfl rfl rfl (G := true) rfl (fun hg => ⟨_, _, _, _, c_Sp _ _ _, rfl, evs_cons rfl (evs_cons rfl evs_nil), rfl⟩) E52 (by decide) (fun _ h => h.sub (.refl _)) ?_; clear hs hf hS a; intro w a hs hS hf
      refine ggA (G := true) hf hS (i := 23) rfl (by kernel_rfl) rfl rfl rfl (fun _ w hs => g_neS hf Q40 rfl rfl) (by decide) ?_; clear hf a; intro a hf; replace hf := hf.setV (v' := .bool false) rfl
      refine gA hf hS (i := 24) rfl (by kernel_rfl) (fun w hs => g_pick hf rfl rfl rfl) (by decide) ?_; clear hf a; intro a hf; replace hf := hf.setV (v' := .bool false) rfl
      refine gA hf hS (i := 25) rfl (by kernel_rfl) (fun w hs => g_mv hf rfl) (by decide) ?_; clear hf a; intro a hf
      refine ggA (G := true) hf hS (i := 26) rfl (by kernel_rfl) rfl rfl rfl (fun _ w hs => g_mv hf rfl) (by decide) ?_; clear hf a; intro a hf
      refine ggA (G := true) hf hS (i := 27) rfl (by kernel_rfl) rfl rfl rfl (fun _ w hs => g_neq hf rfl rfl) (by decide) ?_; clear hf a; intro a hf; replace hf := hf.setV (v' := .bool false) rfl
      refine gA hf hS (i := 28) rfl (by kernel_rfl) (fun w hs => g_pick hf rfl rfl rfl) (by decide) ?_; clear hf a; intro a hf; replace hf := hf.setV (v' := .bool false) rfl
      refine gA hf hS (i := 29) rfl (by kernel_rfl) (fun w hs => g_mv hf rfl) (by decide) ?_; clear hf a; intro a hf
      refine ggA (G := true) hf hS (i := 30) rfl (by kernel_rfl) rfl rfl rfl (fun _ w hs => g_ldW hf hs T40 rfl (k := 3) rfl rfl) (by decide) ?_; clear hf a; intro a hf
      refine one (i := 31) (by kernel_rfl) ?_
      refine oCallG hf hs rfl rfl rfl (G := true) rfl (fun hg => ⟨_, _, _, _, c_Sp _ _ _, rfl, evs_cons rfl (evs_cons rfl evs_nil), rfl⟩) E52 (by decide) (fun _ h => h.sub (.refl _)) ?_; clear hs hf hS a; intro w a hs hS hf
      refine ggA (G := true) hf hS (i := 32) rfl (by kernel_rfl) rfl rfl rfl (fun _ w hs => g_neS hf Q40 rfl rfl) (by decide) ?_; clear hf a; intro a hf; replace hf := hf.setV (v' := .bool false) rfl
      refine gA hf hS (i := 33) rfl (by kernel_rfl) (fun w hs => g_pick hf rfl rfl rfl) (by decide) ?_; clear hf a; intro a hf; replace hf := hf.setV (v' := .bool false) rfl
      refine gA hf hS (i := 34) rfl (by kernel_rfl) (fun w hs => g_mv hf rfl) (by decide) ?_; clear hf a; intro a hf
      refine ggA (G := true) hf hS (i := 35) rfl (by kernel_rfl) rfl rfl rfl (fun _ w hs => g_mv hf rfl) (by decide) ?_; clear hf a; intro a hf
      refine ggA (G := true) hf hS (i := 36) rfl (by kernel_rfl) rfl rfl rfl (fun _ w hs => g_neq hf rfl rfl) (by decide) ?_; clear hf a; intro a hf; replace hf := hf.setV (v' := .bool false) rfl
      refine gA hf hS (i := 37) rfl (by kernel_rfl) (fun w hs => g_pick hf rfl rfl rfl) (by decide) ?_; clear hf a; intro a hf; replace hf := hf.setV (v' := .bool false) rfl
      refine gA hf hS (i := 38) rfl (by kernel_rfl) (fun w hs => g_mv hf rfl) (by decide) ?_; clear hf a; intro a hf
      refine ggA (G := true) hf hS (i := 39) rfl (by kernel_rfl) rfl rfl rfl (fun _ w hs => g_ldW hf hs T40 rfl (k := 2) rfl rfl) (by decide) ?_; clear hf a; intro a hf
      refine one (i := 40) (by kernel_rfl) ?_
      refine oCallG hf hs rfl rfl rfl (G := true) rfl (fun hg => ⟨_, _, _, _, c_Sp _ _ _, rfl, evs_cons rfl (evs_cons rfl evs_nil), rfl⟩) E52 (by decide) (fun _ h => h.sub (.refl _)) ?_; clear hs hf hS a; intro w a hs hS hf
      refine ggA (G := true) hf hS (i := 41) rfl (by kernel_rfl) rfl rfl rfl (fun _ w hs => g_neS hf Q40 rfl rfl) (by decide) ?_; clear hf a; intro a hf; replace hf := hf.setV (v' := .bool false) rfl
      refine gA hf hS (i := 42) rfl (by kernel_rfl) (fun w hs => g_pick hf rfl rfl rfl) (by decide) ?_; clear hf a; intro a hf; replace hf := hf.setV (v' := .bool false) rfl
      refine gA hf hS (i := 43) rfl (by kernel_rfl) (fun w hs => g_mv hf rfl) (by decide) ?_; clear hf a; intro a hf
      refine ggA (G := true) hf hS (i := 44) rfl (by kernel_rfl) rfl rfl rfl (fun _ w hs => g_mv hf rfl) (by decide) ?_; clear hf a; intro a hf
      refine ggA (G := true) hf hS (i := 45) rfl (by kernel_rfl) rfl rfl rfl (fun _ w hs => g_neq hf rfl rfl) (by decide) ?_; clear hf a; intro a hf; replace hf := hf.setV (v' := .bool false) rfl
      refine gA hf hS (i := 46) rfl (by kernel_rfl) (fun w hs => g_pick hf rfl rfl rfl) (by decide) ?_; clear hf a; intro a hf; replace hf := hf.setV (v' := .bool false) rfl
      refine gA hf hS (i := 47) rfl (by kernel_rfl) (fun w hs => g_mv hf rfl) (by decide) ?_; clear hf a; intro a hf
      refine ggA (G := true) hf hS (i := 48) rfl (by kernel_rfl) rfl rfl rfl (fun _ w hs => g_ldW hf hs T40 rfl (k := 1) rfl rfl) (by decide) ?_; clear hf a; intro a hf
      refine one (i := 49) (by kernel_rfl) ?_
      refine oCallG hf hs rfl rfl rfl (G := true) rfl (fun hg => ⟨_, _, _, _, c_Sp _ _ _, rfl, evs_cons rfl (evs_cons rfl evs_nil), rfl⟩) E52 (by decide) (fun _ h => h.sub (.refl _)) ?_; clear hs hf hS a; intro w a hs hS hf
      refine ggA (G := true) hf hS (i := 50) rfl (by kernel_rfl) rfl rfl rfl (fun _ w hs => g_neS hf Q40 rfl rfl) (by decide) ?_; clear hf a; intro a hf; replace hf := hf.setV (v' := .bool false) rfl
      refine gA hf hS (i := 51) rfl (by kernel_rfl) (fun w hs => g_pick hf rfl rfl rfl) (by decide) ?_; clear hf a; intro a hf; replace hf := hf.setV (v' := .bool false) rfl
      refine gA hf hS (i := 52) rfl (by kernel_rfl) (fun w hs => g_mv hf rfl) (by decide) ?_; clear hf a; intro a hf
      refine ggA (G := true) hf hS (i := 53) rfl (by kernel_rfl) rfl rfl rfl (fun _ w hs => g_mv hf rfl) (by decide) ?_; clear hf a; intro a hf
      refine ggA (G := true) hf hS (i := 54) rfl (by kernel_rfl) rfl rfl rfl (fun _ w hs => g_neq hf rfl rfl) (by decide) ?_; clear hf a; intro a hf; replace hf := hf.setV (v' := .bool false) rfl
      refine gA hf hS (i := 55) rfl (by kernel_rfl) (fun w hs => g_pick hf rfl rfl rfl) (by decide) ?_; clear hf a; intro a hf; replace hf := hf.setV (v' := .bool false) rfl
      refine gA hf hS (i := 56) rfl (by kernel_rfl) (fun w hs => g_mv hf rfl) (by decide) ?_; clear hf a; intro a hf
      refine ggA (G := true) hf hS (i := 57) rfl (by kernel_rfl) rfl rfl rfl (fun _ w hs => g_ldW hf hs T40 rfl (k := 0) rfl rfl) (by decide) ?_; clear hf a; intro a hf
      refine one (i := 58) (by kernel_rfl) ?_
      refine oCallG hf hs rfl rfl rfl (G := true) rfl (fun hg => ⟨_, _, _, _, c_Sp _ _ _, rfl, evs_cons rfl (evs_cons rfl evs_nil), rfl⟩) E52 (by decide) (fun _ h => h.sub (.refl _)) ?_; clear hs hf hS a; intro w a hs hS hf
      refine ggA (G := true) hf hS (i := 59) rfl (by kernel_rfl) rfl rfl rfl (fun _ w hs => g_neS hf Q40 rfl rfl) (by decide) ?_; clear hf a; intro a hf; replace hf := hf.setV (v' := .bool false) rfl
      refine gA hf hS (i := 60) rfl (by kernel_rfl) (fun w hs => g_pick hf rfl rfl rfl) (by decide) ?_; clear hf a; intro a hf; replace hf := hf.setV (v' := .bool false) rfl
      refine gA hf hS (i := 61) rfl (by kernel_rfl) (fun w hs => g_mv hf rfl) (by decide) ?_; clear hf a; intro a hf
      refine ggA (G := true) hf hS (i := 62) rfl (by kernel_rfl) rfl rfl rfl (fun _ w hs => g_mv hf rfl) (by decide) ?_; clear hf a; intro a hf
      refine ggA (G := true) hf hS (i := 63) rfl (by kernel_rfl) rfl rfl rfl (fun _ w hs => g_neq hf rfl rfl) (by decide) ?_; clear hf a; intro a hf; replace hf := hf.setV (v' := .bool false) rfl
      refine gA hf hS (i := 64) rfl (by kernel_rfl) (fun w hs => g_pick hf rfl rfl rfl) (by decide) ?_; clear hf a; intro a hf; replace hf := hf.setV (v' := .bool false) rfl
      refine gA hf hS (i := 65) rfl (by kernel_rfl) (fun w hs => g_mv hf rfl) (by decide) ?_; clear hf a; intro a hf
      refine ggA (G := true) hf hS (i := 66) rfl (by kernel_rfl) rfl rfl rfl (fun _ w hs => g_mv hf rfl) (by decide) ?_; clear hf a; intro a hf
      refine gA hf hS (i := 67) rfl (by kernel_rfl) (fun w hs => g_pick hf rfl rfl rfl) (by decide) ?_; clear hf a; intro a hf; replace hf := hf.setV (v' := .bool false) rfl
      refine gA hf hS (i := 68) rfl (by kernel_rfl) (fun w hs => g_mv hf rfl) (by decide) ?_; clear hf a; intro a hf
      refine ggA (G := true) hf hS (i := 69) rfl (by kernel_rfl) rfl rfl rfl (fun _ w hs => g_mv hf rfl) (by decide) ?_; clear hf a; intro a hf
      refine ggA (G := true) hf hS (i := 70) rfl (by kernel_rfl) rfl rfl rfl (fun _ w hs => g_neq hf rfl rfl) (by decide) ?_; clear hf a; intro a hf; replace hf := hf.setV (v' := .bool false) rfl
      refine gA hf hS (i := 71) rfl (by kernel_rfl) (fun w hs => g_pick hf rfl rfl rfl) (by decide) ?_; clear hf a; intro a hf; replace hf := hf.setV (v' := .bool false) rfl
      refine gA hf hS (i := 72) rfl (by kernel_rfl) (fun w hs => g_mv hf rfl) (by decide) ?_; clear hf a; intro a hf
      refine ggA (G := true) hf hS (i := 73) rfl (by kernel_rfl) rfl rfl rfl (fun _ w hs => g_mv hf rfl) (by decide) ?_; clear hf a; intro a hf
      refine ggA (G := true) hf hS (i := 74) rfl (by kernel_rfl) rfl rfl rfl (fun _ w hs => g_len hf SL31 rfl) (by decide) ?_; clear hf a; intro a hf
      refine ggA (G := true) hf hS (i := 75) rfl (by kernel_rfl) rfl rfl rfl (fun _ w hs => g_neq hf rfl rfl) (by decide) ?_; clear hf a; intro a hf; replace hf := hf.setV (v' := .bool false) rfl
      refine gA hf hS (i := 76) rfl (by kernel_rfl) (fun w hs => g_pick hf rfl rfl rfl) (by decide) ?_; clear hf a; intro a hf; replace hf := hf.setV (v' := .bool false) rfl
      refine gA hf hS (i := 77) rfl (by kernel_rfl) (fun w hs => g_mv hf rfl) (by decide) ?_; clear hf a; intro a hf
      refine ggA (G := true) hf hS (i := 78) rfl (by kernel_rfl) rfl rfl rfl (fun _ w hs => g_mv hf rfl) (by decide) ?_; clear hf a; intro a hf
      refine ggA (G := true) hf hS (i := 79) rfl (by kernel_rfl) rfl rfl rfl (fun _ w hs => g_neq hf rfl rfl) (by decide) ?_; clear hf a; intro a hf; replace hf := hf.setV (v' := .bool false) rfl
      refine gA hf hS (i := 80) rfl (by kernel_rfl) (fun w hs => g_pick hf rfl rfl rfl) (by decide) ?_; clear hf a; intro a hf; replace hf := hf.setV (v' := .bool false) rfl
      refine e_done (by kernel_rfl) ?_
      refine c_cond hf rfl (fun hc4 => ?_) (fun hc4 => ?_)
      · skip
        cases hc4
      · skip
        refine c_skip (q_thenN ?_)
        refine c_reg ?_
        refine callX hf hs (c_ownH _) rfl rfl rfl E56 (by decide) ?_; intro v w1 a hR hb hs1 hf; obtain ⟨bf41, br41, p41, q41, bw41, rfl, hbc⟩ := hR; replace hs := hs.fresh hs1 (bkCFresh (m := w0.heap.size) hbc hs.below.size); clear hs1 hb
        refine vL hf (v_alloc hs T28 rfl) (by decide) ?_; clear hs hf a; rintro _ w ⟨b18, rfl, hs⟩ a hf
        refine uL (u_stW hf hs T28 rfl rfl rfl (k := 0) rfl rfl rfl) ?_; clear hs; intro w hs; dsimp only [List.set] at hs
        refine e_nil ?_
        refine c_reg ?_
        refine gL hf (g_fa (off' := 7) hf F28_4 rfl rfl) (by decide) ?_; clear hf a; intro a hf
        refine uL (u_st hf hs T26 rfl rfl rfl (k := 0) rfl (Nat.le_of_ble_eq_true rfl)) ?_; clear hs; intro w hs; dsimp only [List.set] at hs
        refine e_nil ?_
        refine c_reg ?_
        refine gL hf (g_ldW hf hs T28 rfl (k := 0) rfl rfl) (by decide) ?_; clear hf a; intro a hf
        have h9 := c_TotalH kE (some ⟨bf41, 0, none⟩) 4 (some ⟨br41, 0, none⟩) 4 none 0 ge gz _ (show BkIn kE (some ⟨bf41, 0, none⟩) 4 (some ⟨br41, 0, none⟩) 4 none 0 _ from ⟨⟨(hs.rd (.head _)).bk.sh.F, (hs.rd (.head _)).bk.sh.R, Nat.le_refl _, Nat.le_refl _⟩, rd_nil, Nat.le_refl _, fun x hx => by cases hx⟩) (hs.rd (.tail _ (.tail _ (.tail _ (.tail _ (.tail _ (.tail _ (.tail _ (.tail _ (.tail _ (.tail _ (.tail _ (.tail _ (.tail _ (.tail _ (.tail _ (.tail _ (.tail _ (.tail _ (.tail _ (.tail _ (.tail _ (.tail _ (.head _)))))))))))))))))))))))) te tz (hs.rd (.tail _ (.tail _ (.tail _ (.tail _ (.tail _ (.tail _ (.tail _ (.tail _ (.tail _ (.tail _ (.tail _ (.tail _ (.tail _ (.tail _ (.tail _ (.tail _ (.tail _ (.tail _ (.tail _ (.tail _ (.tail _ (.tail _ (.tail _ (.head _)))))))))))))))))))))))))
        rw [e_t] at h9; dsimp only at h9
        refine callL hf hs (h9) rfl rfl rfl E27 (by decide) ?_; clear hs hf a; intro w a hs hf
        refine gL hf (g_mv hf rfl) (by decide) ?_; clear hf a; intro a hf
        refine gL hf (g_ext hf rfl rfl) (by decide) ?_; clear hf a; intro a hf
        refine gL hf (g_ext hf rfl rfl) (by decide) ?_; clear hf a; intro a hf
        refine uL (u_stW hf hs T40 rfl rfl rfl (k := 7) rfl rfl rfl) ?_; clear hs; intro w hs; dsimp only [List.set] at hs
        refine gL hf (g_as hf rfl) (by decide) ?_; clear hf a; intro a hf
        refine e_nil ?_
        refine c_reg ?_
        refine gL hf (g_ldW hf hs T28 rfl (k := 0) rfl rfl) (by decide) ?_; clear hf a; intro a hf
        have h9 := c_GrossesH kE (some ⟨bf41, 0, none⟩) 4 (some ⟨br41, 0, none⟩) 4 none 0 ge gz _ (show BkIn kE (some ⟨bf41, 0, none⟩) 4 (some ⟨br41, 0, none⟩) 4 none 0 _ from ⟨⟨(hs.rd (.head _)).bk.sh.F, (hs.rd (.head _)).bk.sh.R, Nat.le_refl _, Nat.le_refl _⟩, rd_nil, Nat.le_refl _, fun x hx => by cases hx⟩) (hs.rd (.tail _ (.tail _ (.tail _ (.tail _ (.tail _ (.tail _ (.tail _ (.tail _ (.tail _ (.tail _ (.tail _ (.tail _ (.tail _ (.tail _ (.tail _ (.tail _ (.tail _ (.tail _ (.tail _ (.tail _ (.tail _ (.tail _ (.head _)))))))))))))))))))))))) te tz (hs.rd (.tail _ (.tail _ (.tail _ (.tail _ (.tail _ (.tail _ (.tail _ (.tail _ (.tail _ (.tail _ (.tail _ (.tail _ (.tail _ (.tail _ (.tail _ (.tail _ (.tail _ (.tail _ (.tail _ (.tail _ (.tail _ (.tail _ (.tail _ (.head _)))))))))))))))))))))))))
        rw [e_g] at h9; dsimp only at h9
        refine callL hf hs (h9) rfl rfl rfl E25 (by decide) ?_; clear hs hf a; intro w a hs hf
        refine gL hf (g_mv hf rfl) (by decide) ?_; clear hf a; intro a hf
        refine gL hf (g_ext hf rfl rfl) (by decide) ?_; clear hf a; intro a hf
        refine gL hf (g_ext hf rfl rfl) (by decide) ?_; clear hf a; intro a hf
        refine uL (u_stW hf hs T40 rfl rfl rfl (k := 6) rfl rfl rfl) ?_; clear hs; intro w hs; dsimp only [List.set] at hs
        refine gL hf (g_as hf rfl) (by decide) ?_; clear hf a; intro a hf
        refine e_nil ?_
        refine c_reg ?_
        refine gL hf (g_ldW hf hs T28 rfl (k := 0) rfl rfl) (by decide) ?_; clear hf a; intro a hf
        have h9 := c_TeachH kE (some ⟨bf41, 0, none⟩) 4 (some ⟨br41, 0, none⟩) 4 none 0 ge gz _ (show BkIn kE (some ⟨bf41, 0, none⟩) 4 (some ⟨br41, 0, none⟩) 4 none 0 _ from ⟨⟨(hs.rd (.head _)).bk.sh.F, (hs.rd (.head _)).bk.sh.R, Nat.le_refl _, Nat.le_refl _⟩, rd_nil, Nat.le_refl _, fun x hx => by cases hx⟩) (hs.rd (.tail _ (.tail _ (.tail _ (.tail _ (.tail _ (.tail _ (.tail _ (.tail _ (.tail _ (.tail _ (.tail _ (.tail _ (.tail _ (.tail _ (.tail _ (.tail _ (.tail _ (.tail _ (.tail _ (.tail _ (.tail _ (.tail _ (.head _)))))))))))))))))))))))) te tz (hs.rd (.tail _ (.tail _ (.tail _ (.tail _ (.tail _ (.tail _ (.tail _ (.tail _ (.tail _ (.tail _ (.tail _ (.tail _ (.tail _ (.tail _ (.tail _ (.tail _ (.tail _ (.tail _ (.tail _ (.tail _ (.tail _ (.tail _ (.tail _ (.head _)))))))))))))))))))))))))
        rw [e_te] at h9; dsimp only at h9
        refine callL hf hs (h9) rfl rfl rfl E21 (by decide) ?_; clear hs hf a; intro w a hs hf
        refine gL hf (g_mv hf rfl) (by decide) ?_; clear hf a; intro a hf
        refine gL hf (g_ext hf rfl rfl) (by decide) ?_; clear hf a; intro a hf
        refine gL hf (g_ext hf rfl rfl) (by decide) ?_; clear hf a; intro a hf
        refine gL hf (g_as hf rfl) (by decide) ?_; clear hf a; intro a hf
        refine e_nil ?_
        refine c_reg ?_
        refine gL hf (g_ldW hf hs T28 rfl (k := 0) rfl rfl) (by decide) ?_; clear hf a; intro a hf
        have h9 := c_AskH kE (some ⟨bf41, 0, none⟩) 4 (some ⟨br41, 0, none⟩) 4 none 0 ge gz _ (show BkIn kE (some ⟨bf41, 0, none⟩) 4 (some ⟨br41, 0, none⟩) 4 none 0 _ from ⟨⟨(hs.rd (.head _)).bk.sh.F, (hs.rd (.head _)).bk.sh.R, Nat.le_refl _, Nat.le_refl _⟩, rd_nil, Nat.le_refl _, fun x hx => by cases hx⟩) (hs.rd (.tail _ (.tail _ (.tail _ (.tail _ (.tail _ (.tail _ (.tail _ (.tail _ (.tail _ (.tail _ (.tail _ (.tail _ (.tail _ (.tail _ (.tail _ (.tail _ (.tail _ (.tail _ (.tail _ (.tail _ (.tail _ (.tail _ (.head _)))))))))))))))))))))))) te tz (hs.rd (.tail _ (.tail _ (.tail _ (.tail _ (.tail _ (.tail _ (.tail _ (.tail _ (.tail _ (.tail _ (.tail _ (.tail _ (.tail _ (.tail _ (.tail _ (.tail _ (.tail _ (.tail _ (.tail _ (.tail _ (.tail _ (.tail _ (.tail _ (.head _)))))))))))))))))))))))))
        rw [e_a] at h9; dsimp only at h9
        refine callL hf hs (h9) rfl rfl rfl E46 (by decide) ?_; clear hs hf a; intro w a hs hf
        refine gL hf (g_mv hf rfl) (by decide) ?_; clear hf a; intro a hf
        refine gL hf (g_ext hf rfl rfl) (by decide) ?_; clear hf a; intro a hf
        refine gL hf (g_ext hf rfl rfl) (by decide) ?_; clear hf a; intro a hf
        refine gL hf (g_as hf rfl) (by decide) ?_; clear hf a; intro a hf
        refine e_nil ?_
        refine c_reg ?_
        refine callX hf hs (c_looseH _) rfl rfl rfl E59 (by decide) ?_; intro v w1 a hR hb hs1 hf; obtain ⟨bf42, br42, p42, q42, bw42, rfl, hbc⟩ := hR; replace hs := hs.fresh hs1 (bkCFresh (m := w0.heap.size) hbc hs.below.size); clear hs1 hb
        have h9 := c_AskH (chK 6 150 p42 q42) (some ⟨bf42, 0, none⟩) 4 (some ⟨br42, 0, none⟩) 4 (some ⟨bw42, 0, none⟩) 2 ge gz  _ (hs.rd (.head _)).bk (hs.rd (.tail _ (.tail _ (.tail _ (.tail _ (.tail _ (.tail _ (.tail _ (.tail _ (.tail _ (.tail _ (.tail _ (.tail _ (.tail _ (.tail _ (.tail _ (.tail _ (.tail _ (.tail _ (.tail _ (.tail _ (.tail _ (.tail _ (.tail _ (.head _))))))))))))))))))))))))) te tz (hs.rd (.tail _ (.tail _ (.tail _ (.tail _ (.tail _ (.tail _ (.tail _ (.tail _ (.tail _ (.tail _ (.tail _ (.tail _ (.tail _ (.tail _ (.tail _ (.tail _ (.tail _ (.tail _ (.tail _ (.tail _ (.tail _ (.tail _ (.tail _ (.tail _ (.head _))))))))))))))))))))))))))
        rw [show askP (chK 6 150 p42 q42) = (0, 0) from q_la _ _] at h9; dsimp only at h9
        refine callL hf hs (h9) rfl rfl rfl E46 (by decide) ?_; clear hs hf a; intro w a hs hf
        refine gL hf (g_mv hf rfl) (by decide) ?_; clear hf a; intro a hf
        refine gL hf (g_ext hf rfl rfl) (by decide) ?_; clear hf a; intro a hf
        refine gL hf (g_ext hf rfl rfl) (by decide) ?_; clear hf a; intro a hf
        refine gL hf (g_as hf rfl) (by decide) ?_; clear hf a; intro a hf
        refine gL hf (g_as hf rfl) (by decide) ?_; clear hf a; intro a hf
        refine e_nil ?_
        refine c_draw _ 38 Mx rfl hs (fun _ h => h) ?_; intro w hs hS
        refine gA hf hS (i := 0) rfl (by kernel_rfl) (fun w hs => g_mv hf rfl) (by decide) ?_; clear hf a; intro a hf
        refine gA hf hS (i := 1) rfl (by kernel_rfl) (fun w hs => g_eql hf rfl rfl) (by decide) ?_; clear hf a; intro a hf; replace hf := hf.setV (v' := .bool true) rfl
        refine gA hf hS (i := 2) rfl (by kernel_rfl) (fun w hs => g_mv hf rfl) (by decide) ?_; clear hf a; intro a hf
        refine ggA (G := true) hf hS (i := 3) rfl (by kernel_rfl) rfl rfl rfl (fun _ w hs => g_ldW hf hs T40 rfl (k := 7) rfl rfl) (by decide) ?_; clear hf a; intro a hf
        refine one (i := 4) (by kernel_rfl) ?_
        refine oCallG hf hs rfl rfl rfl (G := true) rfl (fun hg => ⟨_, _, _, _, c_Only _ _, rfl, evs_cons rfl evs_nil, rfl⟩) E60 (by decide) (fun _ h => h.sub (.refl _)) ?_; clear hs hf hS a; intro w a hs hS hf
        refine ggA (G := true) hf hS (i := 5) rfl (by kernel_rfl) rfl rfl rfl (fun _ w hs => g_eqS hf Q40 rfl rfl) (by decide) ?_; clear hf a; intro a hf; replace hf := hf.setV (v' := .bool true) rfl
        refine gA hf hS (i := 6) rfl (by kernel_rfl) (fun w hs => g_pick hf rfl rfl rfl) (by decide) ?_; clear hf a; intro a hf; replace hf := hf.setV (v' := .bool true) rfl
        refine gA hf hS (i := 7) rfl (by kernel_rfl) (fun w hs => g_mv hf rfl) (by decide) ?_; clear hf a; intro a hf
        refine ggA (G := true) hf hS (i := 8) rfl (by kernel_rfl) rfl rfl rfl (fun _ w hs => g_mv hf rfl) (by decide) ?_; clear hf a; intro a hf
        refine ggA (G := true) hf hS (i := 9) rfl (by kernel_rfl) rfl rfl rfl (fun _ w hs => g_eql hf rfl rfl) (by decide) ?_; clear hf a; intro a hf; replace hf := hf.setV (v' := .bool true) rfl
        refine gA hf hS (i := 10) rfl (by kernel_rfl) (fun w hs => g_pick hf rfl rfl rfl) (by decide) ?_; clear hf a; intro a hf; replace hf := hf.setV (v' := .bool true) rfl
        refine gA hf hS (i := 11) rfl (by kernel_rfl) (fun w hs => g_mv hf rfl) (by decide) ?_; clear hf a; intro a hf
        refine ggA (G := true) hf hS (i := 12) rfl (by kernel_rfl) rfl rfl rfl (fun _ w hs => g_ldW hf hs T40 rfl (k := 6) rfl rfl) (by decide) ?_; clear hf a; intro a hf
        refine one (i := 13) (by kernel_rfl) ?_
        refine oCallG hf hs rfl rfl rfl (G := true) rfl (fun hg => ⟨_, _, _, _, c_Only _ _, rfl, evs_cons rfl evs_nil, rfl⟩) E60 (by decide) (fun _ h => h.sub (.refl _)) ?_; clear hs hf hS a; intro w a hs hS hf
        refine ggA (G := true) hf hS (i := 14) rfl (by kernel_rfl) rfl rfl rfl (fun _ w hs => g_eqS hf Q40 rfl rfl) (by decide) ?_; clear hf a; intro a hf; replace hf := hf.setV (v' := .bool true) rfl
        refine gA hf hS (i := 15) rfl (by kernel_rfl) (fun w hs => g_pick hf rfl rfl rfl) (by decide) ?_; clear hf a; intro a hf; replace hf := hf.setV (v' := .bool true) rfl
        refine gA hf hS (i := 16) rfl (by kernel_rfl) (fun w hs => g_mv hf rfl) (by decide) ?_; clear hf a; intro a hf
        refine ggA (G := true) hf hS (i := 17) rfl (by kernel_rfl) rfl rfl rfl (fun _ w hs => g_mv hf rfl) (by decide) ?_; clear hf a; intro a hf
        refine ggA (G := true) hf hS (i := 18) rfl (by kernel_rfl) rfl rfl rfl (fun _ w hs => g_eql hf rfl rfl) (by decide) ?_; clear hf a; intro a hf; replace hf := hf.setV (v' := .bool true) rfl
        refine gA hf hS (i := 19) rfl (by kernel_rfl) (fun w hs => g_pick hf rfl rfl rfl) (by decide) ?_; clear hf a; intro a hf; replace hf := hf.setV (v' := .bool true) rfl
        refine gA hf hS (i := 20) rfl (by kernel_rfl) (fun w hs => g_mv hf rfl) (by decide) ?_; clear hf a; intro a hf
        refine ggA (G := true) hf hS (i := 21) rfl (by kernel_rfl) rfl rfl rfl (fun _ w hs => g_mv hf rfl) (by decide) ?_; clear hf a; intro a hf
        refine ggA (G := true) hf hS (i := 22) rfl (by kernel_rfl) rfl rfl rfl (fun _ w hs => g_eql hf rfl rfl) (by decide) ?_; clear hf a; intro a hf; replace hf := hf.setV (v' := .bool true) rfl
        refine gA hf hS (i := 23) rfl (by kernel_rfl) (fun w hs => g_pick hf rfl rfl rfl) (by decide) ?_; clear hf a; intro a hf; replace hf := hf.setV (v' := .bool true) rfl
        refine gA hf hS (i := 24) rfl (by kernel_rfl) (fun w hs => g_mv hf rfl) (by decide) ?_; clear hf a; intro a hf
        refine ggA (G := true) hf hS (i := 25) rfl (by kernel_rfl) rfl rfl rfl (fun _ w hs => g_mv hf rfl) (by decide) ?_; clear hf a; intro a hf
        refine ggA (G := true) hf hS (i := 26) rfl (by kernel_rfl) rfl rfl rfl (fun _ w hs => g_eql hf rfl rfl) (by decide) ?_; clear hf a; intro a hf; replace hf := hf.setV (v' := .bool true) rfl
        refine gA hf hS (i := 27) rfl (by kernel_rfl) (fun w hs => g_pick hf rfl rfl rfl) (by decide) ?_; clear hf a; intro a hf; replace hf := hf.setV (v' := .bool true) rfl
        refine gA hf hS (i := 28) rfl (by kernel_rfl) (fun w hs => g_mv hf rfl) (by decide) ?_; clear hf a; intro a hf
        refine ggA (G := true) hf hS (i := 29) rfl (by kernel_rfl) rfl rfl rfl (fun _ w hs => g_mv hf rfl) (by decide) ?_; clear hf a; intro a hf
        refine ggA (G := true) hf hS (i := 30) rfl (by kernel_rfl) rfl rfl rfl (fun _ w hs => g_eql hf rfl rfl) (by decide) ?_; clear hf a; intro a hf; replace hf := hf.setV (v' := .bool true) rfl
        refine gA hf hS (i := 31) rfl (by kernel_rfl) (fun w hs => g_pick hf rfl rfl rfl) (by decide) ?_; clear hf a; intro a hf; replace hf := hf.setV (v' := .bool true) rfl
        refine gA hf hS (i := 32) rfl (by kernel_rfl) (fun w hs => g_mv hf rfl) (by decide) ?_; clear hf a; intro a hf
        refine gA hf hS (i := 33) rfl (by kernel_rfl) (fun w hs => g_pick hf rfl rfl rfl) (by decide) ?_; clear hf a; intro a hf; replace hf := hf.setV (v' := .bool true) rfl
        refine gA hf hS (i := 34) rfl (by kernel_rfl) (fun w hs => g_mv hf rfl) (by decide) ?_; clear hf a; intro a hf
        refine one (i := 35) (by kernel_rfl) ?_
        refine oCallG hf hs rfl rfl rfl (G := true) rfl (fun hg => ⟨_, _, _, _, c_paid ge gz te tz _ (hs.rd (.tail _ (.tail _ (.tail _ (.tail _ (.tail _ (.tail _ (.tail _ (.tail _ (.tail _ (.tail _ (.tail _ (.tail _ (.tail _ (.tail _ (.tail _ (.tail _ (.tail _ (.tail _ (.tail _ (.tail _ (.tail _ (.tail _ (.tail _ (.head _))))))))))))))))))))))))) (hs.rd (.tail _ (.tail _ (.tail _ (.tail _ (.tail _ (.tail _ (.tail _ (.tail _ (.tail _ (.tail _ (.tail _ (.tail _ (.tail _ (.tail _ (.tail _ (.tail _ (.tail _ (.tail _ (.tail _ (.tail _ (.tail _ (.tail _ (.tail _ (.tail _ (.head _)))))))))))))))))))))))))), rfl, evs_nil, rfl⟩) E40 (by decide) (fun _ h => h.sub (.refl _)) ?_; clear hs hf hS a; intro w a hs hS hf
        refine gA hf hS (i := 36) rfl (by kernel_rfl) (fun w hs => g_pick hf rfl rfl rfl) (by decide) ?_; clear hf a; intro a hf; replace hf := hf.setV (v' := .bool true) rfl
        refine gA hf hS (i := 37) rfl (by kernel_rfl) (fun w hs => g_as hf rfl) (by decide) ?_; clear hf a; intro a hf
        refine e_done (by kernel_rfl) ?_
        refine c_ret ?_
        refine e_ret1 hf rfl rfl ?_
        exact ⟨rfl, hs.below⟩

end Go.Proofs.YtjjcopeedcdokaaDoor

set_option linter.unusedVariables false
namespace Go.Proofs.YtjjcopeedcdokaaDoor
open Go.ChangeShapes Go.WideShapes Go.ChangeAt Go.RowKit
set_option maxRecDepth 100000 in
theorem lifted15 (os : Os) (started : os.Started) (H : Type) (enc : TypeId × Value → H) :
    ReturnsInHanded {} Tryd.checked os 15 .any (fun w args => (Rows.homeKnownSpec.pre enc Tryd.prog Tryd.f15 [] false w args ∧ laidMetH Tryd.prog laid1 w) ∧ sizedMet enc Tryd.prog Tryd.f15 (OpenSpec.ofChange Rows.homeKnownSpec) false w args)
      (Rows.homeKnownSpec.post enc Tryd.prog Tryd.f15 false true false false) := by
  refine returnsInHanded_of_change_and (C := Tryd.checked) (X := fun w _ => laidMetH Tryd.prog laid1 w) (fun _ _ _ hh h => h.of_heap hh) pOwn started (by kernel_rfl) Tryd.func15
    (ChangeSpec.witness_shaped (enc := enc) (C := Tryd.checked) (os := os) (X := fun w _ => laidMetH Tryd.prog laid1 w) false (World.doorLaid Tryd.prog 600 os) #[] 8 rfl (World.shaped_of_RefB (by kernel_rfl) (by kernel_rfl)) (by kernel_rfl) (by kernel_rfl) (by kernel_rfl) (door_met os _)) ?_
  intro W base args ds gs before hval0 hW _ _ hL _
  have hval : ∀ (j : Nat) t v, Tryd.f15.params[j]? = some t → args[j]? = some v → Value.okWide Tryd.prog W .any base t v := hval0
  have hW' := hW
  obtain ⟨p, q, hA0, hV, rfl, hfz, hnd⟩ := hW
  have hA : DataW.TrodAll enc Tryd.prog W 0 (fun _ => true) true Tryd.f15.params.toList args.toList ds p := hA0
  have hA9 := hA
  rw [Tryd.params15] at hA hval
  obtain ⟨hargs0, rfl, rfl⟩ := trodAll_nil hA
  obtain rfl : args = #[] := by cases args; simp_all
  obtain ⟨rfl, rfl⟩ := trodVars_none hV
  obtain ⟨ge, gz, hG⟩ := of_laid hL
  obtain ⟨te, tz, hT⟩ := of_told hL
  refine (c_HomeKnown ge gz te tz W hG hT).mono fun e W' ⟨he, hb⟩ => ?_
  subst he
  exact ⟨_, rfl, law_post rfl rfl rfl (by kernel_rfl) hW' rfl hA9 hb⟩
theorem row15 : Rows.HomeKnownSaid :=
  OpenClaim.holds_of_wide 15 Tryd.f15 rfl rfl rfl rfl rfl rfl rfl ⟨rfl, rfl, rfl, rfl, rfl⟩ rfl rfl rfl rfl rfl (by kernel_rfl) Tryd.func15 (by kernel_rfl)
    (of_decide_eq_true (by kernel_rfl)) (by unfold Func.isWrapper; first | (rw [if_pos (by decide +kernel)]; kernel_rfl) | (rw [if_neg (by decide +kernel)]; exact ⟨rfl, rfl⟩))
    (fun os started H enc _ => lifted15 os started H enc)
/-- The card. -/
theorem homeKnown_holds : Rows.HomeKnownCardSaid :=
  Claim7.holds_tied_plain_at .later [] [.funcs, .funcs] true (true, "812014c6ba21101d15e02d82012ffa61e4b3f2f84e9c736658d12c12a3cb442a") false
    row15 (fun _ h => by cases h) (by kernel_rfl) (fun _ h => by cases h) homeKnown_row_tie rfl ⟨rfl, rfl⟩ (by kernel_rfl) rfl
    (fun f fn hf hfn => by
      obtain rfl : f = 15 := Option.some.inj ((show Tryd.prog.funcNamed "lucifer/luciferlaw09.HomeKnown" = some 15 by kernel_rfl).symm.trans hf) |>.symm
      obtain rfl : fn = Tryd.f15 := (Option.some.inj (Tryd.func15.symm.trans hfn)).symm
      exact ⟨by kernel_rfl, fun j t ht => by
        rw [Tryd.params15] at ht
        simp at ht⟩)
    (by kernel_rfl)
#print axioms homeKnown_holds
end Go.Proofs.YtjjcopeedcdokaaDoor

