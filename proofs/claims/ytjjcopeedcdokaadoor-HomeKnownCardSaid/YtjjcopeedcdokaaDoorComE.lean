/- Part ComE of the proofs of the laws of home workers: laws of the engine, plain facts and contracts of the functions that they reach. Conditions: none beyond those of each theorem. -/
import Derived.Test.YtjjcopeedcdokaaDoorComD
set_option linter.unusedVariables false
set_option linter.unusedSimpArgs false
namespace Go.Proofs.YtjjcopeedcdokaaDoor
open Go.RowKit
theorem c_sheetH (most : Int) (w0 : World) :
    Calls Tryd.prog 98 #[.int .i64 most] w0 (RetX w0 (fun v w0' => ∃ bf br, v = chV bf br ∧ ChIn 5 most bf br w0.heap.size w0')) := by
  refine c_enter (n := 23) Tryd.func98 rfl rfl (Nat.le_of_ble_eq_true rfl) ?_; intro a hf; simp only [zipR] at hf
  have hs := St.start w0 [] (by simp)
  refine c_reg ?_
  refine vL hf (v_alloc hs T25 rfl) (by decide) ?_; clear hs hf a; rintro _ w ⟨b1, rfl, hs⟩ a hf
  refine e_nil ?_
  refine c_reg ?_
  refine gL hf (g_mv hf rfl) (by decide) ?_; clear hf a; intro a hf
  refine callL hf hs (c_Sp _ _ _) rfl rfl rfl E52 (by decide) ?_; clear hs hf a; intro w a hs hf
  refine callL hf hs (c_Sp _ _ _) rfl rfl rfl E52 (by decide) ?_; clear hs hf a; intro w a hs hf
  refine gL hf (g_bld hf [[.int .i64 0], [.int .i64 0, .int .i64 0], [.int .i64 0, .int .i64 0]] (.cons rfl (.cons rfl (.cons rfl .nil))) (fun _ => by kernel_rfl)) (by decide) ?_; clear hf a; intro a hf
  refine callL hf hs (c_Sp _ _ _) rfl rfl rfl E52 (by decide) ?_; clear hs hf a; intro w a hs hf
  refine callL hf hs (c_Sp _ _ _) rfl rfl rfl E52 (by decide) ?_; clear hs hf a; intro w a hs hf
  refine gL hf (g_bld hf [[.int .i64 0], [.int .i64 0, .int .i64 0], [.int .i64 0, .int .i64 0]] (.cons rfl (.cons rfl (.cons rfl .nil))) (fun _ => by kernel_rfl)) (by decide) ?_; clear hf a; intro a hf
  refine callL hf hs (c_Only _ _) rfl rfl rfl E60 (by decide) ?_; clear hs hf a; intro w a hs hf
  refine callL hf hs (c_Sp _ _ _) rfl rfl rfl E52 (by decide) ?_; clear hs hf a; intro w a hs hf
  refine gL hf (g_bld hf [[.int .i64 0], [.int .i64 0, .int .i64 0], [.int .i64 0, .int .i64 0]] (.cons rfl (.cons rfl (.cons rfl .nil))) (fun _ => by kernel_rfl)) (by decide) ?_; clear hf a; intro a hf
  refine callL hf hs (c_Only _ _) rfl rfl rfl E60 (by decide) ?_; clear hs hf a; intro w a hs hf
  refine callL hf hs (c_Sp _ _ _) rfl rfl rfl E52 (by decide) ?_; clear hs hf a; intro w a hs hf
  refine gL hf (g_bld hf [[.int .i64 0], [.int .i64 0, .int .i64 0], [.int .i64 0, .int .i64 0]] (.cons rfl (.cons rfl (.cons rfl .nil))) (fun _ => by kernel_rfl)) (by decide) ?_; clear hf a; intro a hf
  refine vL hf (v_lits (len := 4) hf hs SL22 T117 (.cons rfl (.cons rfl (.cons rfl (.cons rfl .nil)))) rfl rfl rfl rfl (by decide) rfl) (by decide) ?_; clear hs hf a; rintro _ w ⟨b2, rfl, hs⟩ a hf
  refine gL hf (g_bld hf [[.int .i64 0], [.int .i64 0]] (.cons rfl (.cons rfl .nil)) (fun _ => by kernel_rfl)) (by decide) ?_; clear hf a; intro a hf
  refine gL hf (g_bld hf [[.int .i64 0], [.int .i64 0]] (.cons rfl (.cons rfl .nil)) (fun _ => by kernel_rfl)) (by decide) ?_; clear hf a; intro a hf
  refine gL hf (g_bld hf [[.int .i64 0], [.int .i64 0]] (.cons rfl (.cons rfl .nil)) (fun _ => by kernel_rfl)) (by decide) ?_; clear hf a; intro a hf
  refine gL hf (g_bld hf [[.int .i64 0], [.int .i64 0]] (.cons rfl (.cons rfl .nil)) (fun _ => by kernel_rfl)) (by decide) ?_; clear hf a; intro a hf
  refine vL hf (v_lits (len := 4) hf hs SL23 T51 (.cons rfl (.cons rfl (.cons rfl (.cons rfl .nil)))) rfl rfl rfl rfl (by decide) rfl) (by decide) ?_; clear hs hf a; rintro _ w ⟨b3, rfl, hs⟩ a hf
  refine gL hf (g_bld hf [[.int .i64 0], [.int .i64 0], [.slice none 0 0], [.slice none 0 0]] (.cons rfl (.cons rfl (.cons rfl (.cons rfl .nil)))) (fun _ => by kernel_rfl)) (by decide) ?_; clear hf a; intro a hf
  refine uL (u_stW hf hs T25 rfl rfl rfl (k := 2) rfl rfl rfl) ?_; clear hs; intro w hs; dsimp only [List.set] at hs
  refine e_nil ?_
  refine c_ret ?_
  refine e_res hf hs rfl (.cellA T25 rfl (k := 2) rfl rfl .nil) rfl ?_
  exact ⟨_, rfl, hs.below, b2, b3, rfl, (hs.own _ _ (.tail _ (.head _))).1, (hs.own _ _ (.head _)).1, fun e => by have hn := hs.nodup; rw [e] at hn; simp [ids] at hn, (hs.own _ _ (.tail _ (.head _))).2, (hs.own _ _ (.head _)).2⟩

theorem c_bookH (most sheets : Int) (w0 : World) :
    Calls Tryd.prog 57 #[.int .i64 most, .int .i64 sheets] w0 (RetX w0 (fun v w0' => ∃ bf br b1 b2 bw, v = chBV bf br bw ∧ BkC most sheets bf br b1 b2 bw w0.heap.size w0')) := by
  refine c_enter (n := 18) Tryd.func57 rfl rfl (Nat.le_of_ble_eq_true rfl) ?_; intro a hf; simp only [zipR] at hf
  have hs := St.start w0 [] (by simp)
  refine c_reg ?_
  refine vL hf (v_alloc hs T28 rfl) (by decide) ?_; clear hs hf a; rintro _ w ⟨b1, rfl, hs⟩ a hf
  refine e_nil ?_
  refine c_reg ?_
  refine gL hf (g_mv hf rfl) (by decide) ?_; clear hf a; intro a hf
  refine callX hf hs (c_sheetH _ _) rfl rfl rfl E98 (by decide) ?_; intro v w1 a hR hb hs1 hf; obtain ⟨bf, br, rfl, hch⟩ := hR; replace hs := hs.fresh hs1 (chFresh (m := w0.heap.size) hch hs.below.size); clear hs1 hb
  refine vL hf (v_lits (len := 4) hf hs SL31 T3 (.cons rfl (.cons rfl (.cons rfl (.cons rfl .nil)))) rfl rfl rfl rfl (by decide) rfl) (by decide) ?_; clear hs hf a; rintro _ w ⟨b2, rfl, hs⟩ a hf
  refine callL hf hs (c_Sp _ _ _) rfl rfl rfl E52 (by decide) ?_; clear hs hf a; intro w a hs hf
  refine callL hf hs (c_Sp _ _ _) rfl rfl rfl E52 (by decide) ?_; clear hs hf a; intro w a hs hf
  refine gL hf (g_bld hf [[.int .i64 0], [.slice none 0 0], [.int .i64 0, .int .i64 0], [.int .i64 0, .int .i64 0]] (.cons rfl (.cons rfl (.cons rfl (.cons rfl .nil)))) (fun _ => by kernel_rfl)) (by decide) ?_; clear hf a; intro a hf
  refine gL hf (g_mv hf rfl) (by decide) ?_; clear hf a; intro a hf
  refine vL hf (v_lits (len := 4) hf hs SL31 T3 (.cons rfl (.cons rfl (.cons rfl (.cons rfl .nil)))) rfl rfl rfl rfl (by decide) rfl) (by decide) ?_; clear hs hf a; rintro _ w ⟨b3, rfl, hs⟩ a hf
  refine callL hf hs (c_Sp _ _ _) rfl rfl rfl E52 (by decide) ?_; clear hs hf a; intro w a hs hf
  refine callL hf hs (c_Sp _ _ _) rfl rfl rfl E52 (by decide) ?_; clear hs hf a; intro w a hs hf
  refine gL hf (g_bld hf [[.int .i64 0], [.slice none 0 0], [.int .i64 0, .int .i64 0], [.int .i64 0, .int .i64 0]] (.cons rfl (.cons rfl (.cons rfl (.cons rfl .nil)))) (fun _ => by kernel_rfl)) (by decide) ?_; clear hf a; intro a hf
  refine vL hf (v_lits (len := 2) hf hs SL26 T47 (.cons rfl (.cons rfl .nil)) rfl rfl rfl rfl (by decide) rfl) (by decide) ?_; clear hs hf a; rintro _ w ⟨b4, rfl, hs⟩ a hf
  refine gL hf (g_bld hf [[.int .i64 0, .int .i64 0, .slice none 0 0, .slice none 0 0], [.int .i64 0], [.int .i64 0], [.int .i64 0], [.slice none 0 0]] (.cons rfl (.cons rfl (.cons rfl (.cons rfl (.cons rfl .nil))))) (fun _ => by kernel_rfl)) (by decide) ?_; clear hf a; intro a hf
  refine uL (u_stW hf hs T28 rfl rfl rfl (k := 3) rfl rfl rfl) ?_; clear hs; intro w hs; dsimp only [List.set] at hs
  refine e_nil ?_
  refine c_ret ?_
  refine e_res hf hs rfl (.cellA T28 rfl (k := 3) rfl rfl .nil) rfl ?_
  have hst := hs.data _ (.head _)
  have hnf := hst.notin (b := bf) fun w9 h9 => h9.2.2.2.1
  have hnr := hst.notin (b := br) fun w9 h9 => h9.2.2.2.2
  have hnd := hs.nodup
  have hch2 := hs.rd (.head _)
  simp only [ids, List.map_cons, List.map_nil, List.mem_append, List.mem_cons, List.not_mem_nil, or_false, not_or] at hnf hnr hnd
  simp only [List.nodup_cons, List.mem_cons, List.not_mem_nil, or_false, not_or, List.nodup_nil, and_true, not_false_eq_true] at hnd
  exact ⟨_, rfl, hs.below, bf, br, b2, b3, b4, rfl, hch2, (hs.own _ _ (.tail _ (.tail _ (.head _)))).1, (hs.own _ _ (.tail _ (.head _))).1, (hs.own _ _ (.head _)).1, by simp only [List.nodup_cons, List.mem_cons, List.not_mem_nil, or_false, not_or, List.nodup_nil, and_true, not_false_eq_true]; refine ⟨⟨?_, ?_, ?_, ?_⟩, ⟨?_, ?_, ?_⟩, ⟨?_, ?_⟩, hch2.2.2.1⟩ <;> first | exact hnd.1.1 | exact hnd.1.2.1 | exact hnd.2.1.1 | (intro e; subst e; simp_all), (hs.own _ _ (.tail _ (.tail _ (.head _)))).2, (hs.own _ _ (.tail _ (.head _))).2, (hs.own _ _ (.head _)).2⟩

end Go.Proofs.YtjjcopeedcdokaaDoor

set_option linter.unusedVariables false
set_option linter.unusedSimpArgs false
namespace Go.Proofs.YtjjcopeedcdokaaDoor
open Go.RowKit
theorem c_ownH (w0 : World) :
    Calls Tryd.prog 56 #[] w0 (RetX w0 (fun v w0' => ∃ bf br b1 b2 bw, v = chBV bf br bw ∧ BkC 5 150 bf br b1 b2 bw w0.heap.size w0')) := by
  refine c_enter (n := 2) Tryd.func56 rfl rfl (Nat.le_of_ble_eq_true rfl) ?_; intro a hf; simp only [zipR] at hf
  have hs := St.start w0 [] (by simp)
  refine c_reg ?_
  refine vL hf (v_alloc hs T28 rfl) (by decide) ?_; clear hs hf a; rintro _ w ⟨b1, rfl, hs⟩ a hf
  refine e_nil ?_
  refine c_reg ?_
  refine callX hf hs (c_bookH _ _ _) rfl rfl rfl E57 (by decide) ?_; intro v w1 a hR hb hs1 hf; obtain ⟨bf, br, p, q, bw, rfl, hbc⟩ := hR; replace hs := hs.fresh hs1 (bkCFresh (m := w0.heap.size) hbc hs.below.size); clear hs1 hb
  refine uL (u_stW hf hs T28 rfl rfl rfl (k := 0) rfl rfl rfl) ?_; clear hs; intro w hs; dsimp only [List.set] at hs
  refine e_nil ?_
  refine c_ret ?_
  refine e_res hf hs rfl (.cellA T28 rfl (k := 0) rfl rfl .nil) rfl ?_
  exact ⟨_, rfl, hs.below, bf, br, p, q, bw, rfl, hs.rd (.head _)⟩

theorem c_wrongBH (w0 : World) :
    Calls Tryd.prog 58 #[] w0 (RetX w0 (fun v w0' => ∃ bf br b1 b2 bw, v = chBV bf br bw ∧ BkC 5 139 bf br b1 b2 bw w0.heap.size w0')) := by
  refine c_enter (n := 2) Tryd.func58 rfl rfl (Nat.le_of_ble_eq_true rfl) ?_; intro a hf; simp only [zipR] at hf
  have hs := St.start w0 [] (by simp)
  refine c_reg ?_
  refine vL hf (v_alloc hs T28 rfl) (by decide) ?_; clear hs hf a; rintro _ w ⟨b1, rfl, hs⟩ a hf
  refine e_nil ?_
  refine c_reg ?_
  refine callX hf hs (c_bookH _ _ _) rfl rfl rfl E57 (by decide) ?_; intro v w1 a hR hb hs1 hf; obtain ⟨bf, br, p, q, bw, rfl, hbc⟩ := hR; replace hs := hs.fresh hs1 (bkCFresh (m := w0.heap.size) hbc hs.below.size); clear hs1 hb
  refine uL (u_stW hf hs T28 rfl rfl rfl (k := 0) rfl rfl rfl) ?_; clear hs; intro w hs; dsimp only [List.set] at hs
  refine e_nil ?_
  refine c_ret ?_
  refine e_res hf hs rfl (.cellA T28 rfl (k := 0) rfl rfl .nil) rfl ?_
  exact ⟨_, rfl, hs.below, bf, br, p, q, bw, rfl, hs.rd (.head _)⟩

set_option maxHeartbeats 1000000 in
theorem c_paid (ge : TypeId) (gz : Nat × Nat) (te : TypeId) (tz : Nat × Nat) (w0 : World) (hG : BlkIs 1 sidesA ge gz w0) (hT : BlkIs 0 toldA te tz w0) :
    Calls Tryd.prog 40 #[] w0 (Ret w0 (.bool true)) := by
  refine c_enter (n := 133) Tryd.func40 rfl rfl (Nat.le_of_ble_eq_true rfl) ?_; intro a hf; simp only [zipR] at hf
  have hs := St.start w0 [BlkIs 1 sidesA ge gz, BlkIs 0 toldA te tz] (stab_app hG.st1 hT.st1)
  refine c_reg ?_
  refine gL hf (g_as hf rfl) (by decide) ?_; clear hf a; intro a hf
  refine e_nil ?_
  refine c_reg ?_
  refine callX hf hs (c_ownH _) rfl rfl rfl E56 (by decide) ?_; intro v w1 a hR hb hs1 hf; obtain ⟨bf1, br1, p1, q1, bw1, rfl, hbc⟩ := hR; replace hs := hs.fresh hs1 (bkCFresh (m := w0.heap.size) hbc hs.below.size); clear hs1 hb
  have h9 := c_PassesH (chK 5 150 p1 q1) (some ⟨bf1, 0, none⟩) 4 (some ⟨br1, 0, none⟩) 4 (some ⟨bw1, 0, none⟩) 2 ge gz 0 _ (hs.rd (.head _)).bk (hs.rd (.tail _ (.head _))) te tz (hs.rd (.tail _ (.tail _ (.head _))))
  rw [show tellP (chK 5 150 p1 q1) 0 0 = ((288, 290), 0) from k_passes _ _] at h9; dsimp only at h9
  refine callL hf hs (h9) rfl rfl rfl E23 (by decide) ?_; clear hs hf a; intro w a hs hf
  refine gL hf (g_mv hf rfl) (by decide) ?_; clear hf a; intro a hf
  refine gL hf (g_ext hf rfl rfl) (by decide) ?_; clear hf a; intro a hf
  refine gL hf (g_ext hf rfl rfl) (by decide) ?_; clear hf a; intro a hf
  refine vL hf (v_alloc hs T40 rfl) (by decide) ?_; clear hs hf a; rintro _ w ⟨b1, rfl, hs⟩ a hf
  refine uL (u_stW hf hs T40 rfl rfl rfl (k := 0) rfl rfl rfl) ?_; clear hs; intro w hs; dsimp only [List.set] at hs
  refine gL hf (g_as hf rfl) (by decide) ?_; clear hf a; intro a hf
  refine e_nil ?_
  refine c_reg ?_
  refine callX hf hs (c_ownH _) rfl rfl rfl E56 (by decide) ?_; intro v w1 a hR hb hs1 hf; obtain ⟨bf2, br2, p2, q2, bw2, rfl, hbc⟩ := hR; replace hs := hs.fresh hs1 (bkCFresh (m := w0.heap.size) hbc hs.below.size); clear hs1 hb
  have h9 := c_MissingH (chK 5 150 p2 q2) (some ⟨bf2, 0, none⟩) 4 (some ⟨br2, 0, none⟩) 4 (some ⟨bw2, 0, none⟩) 2 ge gz 1 _ (hs.rd (.head _)).bk (hs.rd (.tail _ (.tail _ (.head _)))) te tz (hs.rd (.tail _ (.tail _ (.tail _ (.head _)))))
  rw [show tellP (chK 5 150 p2 q2) 1 1 = ((3, 10), 0) from k_missing _ _] at h9; dsimp only at h9
  refine callL hf hs (h9) rfl rfl rfl E36 (by decide) ?_; clear hs hf a; intro w a hs hf
  refine gL hf (g_mv hf rfl) (by decide) ?_; clear hf a; intro a hf
  refine gL hf (g_ext hf rfl rfl) (by decide) ?_; clear hf a; intro a hf
  refine gL hf (g_ext hf rfl rfl) (by decide) ?_; clear hf a; intro a hf
  refine vL hf (v_alloc hs T40 rfl) (by decide) ?_; clear hs hf a; rintro _ w ⟨b2, rfl, hs⟩ a hf
  refine uL (u_stW hf hs T40 rfl rfl rfl (k := 0) rfl rfl rfl) ?_; clear hs; intro w hs; dsimp only [List.set] at hs
  refine gL hf (g_as hf rfl) (by decide) ?_; clear hf a; intro a hf
  refine e_nil ?_
  refine c_reg ?_
  refine callX hf hs (c_ownH _) rfl rfl rfl E56 (by decide) ?_; intro v w1 a hR hb hs1 hf; obtain ⟨bf3, br3, p3, q3, bw3, rfl, hbc⟩ := hR; replace hs := hs.fresh hs1 (bkCFresh (m := w0.heap.size) hbc hs.below.size); clear hs1 hb
  have h9 := c_GetsH (chK 5 150 p3 q3) (some ⟨bf3, 0, none⟩) 4 (some ⟨br3, 0, none⟩) 4 (some ⟨bw3, 0, none⟩) 2 ge gz 0 _ (hs.rd (.head _)).bk (hs.rd (.tail _ (.tail _ (.tail _ (.head _))))) te tz (hs.rd (.tail _ (.tail _ (.tail _ (.tail _ (.head _))))))
  rw [show tellP (chK 5 150 p3 q3) 0 2 = ((104, 112), 0) from k_gets _ _] at h9; dsimp only at h9
  refine callL hf hs (h9) rfl rfl rfl E38 (by decide) ?_; clear hs hf a; intro w a hs hf
  refine gL hf (g_mv hf rfl) (by decide) ?_; clear hf a; intro a hf
  refine gL hf (g_ext hf rfl rfl) (by decide) ?_; clear hf a; intro a hf
  refine gL hf (g_ext hf rfl rfl) (by decide) ?_; clear hf a; intro a hf
  refine vL hf (v_alloc hs T40 rfl) (by decide) ?_; clear hs hf a; rintro _ w ⟨b3, rfl, hs⟩ a hf
  refine uL (u_stW hf hs T40 rfl rfl rfl (k := 0) rfl rfl rfl) ?_; clear hs; intro w hs; dsimp only [List.set] at hs
  refine gL hf (g_as hf rfl) (by decide) ?_; clear hf a; intro a hf
  refine e_nil ?_
  refine c_reg ?_
  refine callX hf hs (c_ownH _) rfl rfl rfl E56 (by decide) ?_; intro v w1 a hR hb hs1 hf; obtain ⟨bf4, br4, p4, q4, bw4, rfl, hbc⟩ := hR; replace hs := hs.fresh hs1 (bkCFresh (m := w0.heap.size) hbc hs.below.size); clear hs1 hb
  have h9 := c_TotalH (chK 5 150 p4 q4) (some ⟨bf4, 0, none⟩) 4 (some ⟨br4, 0, none⟩) 4 (some ⟨bw4, 0, none⟩) 2 ge gz  _ (hs.rd (.head _)).bk (hs.rd (.tail _ (.tail _ (.tail _ (.tail _ (.head _)))))) te tz (hs.rd (.tail _ (.tail _ (.tail _ (.tail _ (.tail _ (.head _)))))))
  rw [show totalP (chK 5 150 p4 q4) = ((84, 106), 0) from k_total _ _] at h9; dsimp only at h9
  refine callL hf hs (h9) rfl rfl rfl E27 (by decide) ?_; clear hs hf a; intro w a hs hf
  refine gL hf (g_mv hf rfl) (by decide) ?_; clear hf a; intro a hf
  refine gL hf (g_ext hf rfl rfl) (by decide) ?_; clear hf a; intro a hf
  refine gL hf (g_ext hf rfl rfl) (by decide) ?_; clear hf a; intro a hf
  refine vL hf (v_alloc hs T40 rfl) (by decide) ?_; clear hs hf a; rintro _ w ⟨b4, rfl, hs⟩ a hf
  refine uL (u_stW hf hs T40 rfl rfl rfl (k := 0) rfl rfl rfl) ?_; clear hs; intro w hs; dsimp only [List.set] at hs
  refine gL hf (g_as hf rfl) (by decide) ?_; clear hf a; intro a hf
  refine e_nil ?_
  refine c_reg ?_
  refine callX hf hs (c_ownH _) rfl rfl rfl E56 (by decide) ?_; intro v w1 a hR hb hs1 hf; obtain ⟨bf5, br5, p5, q5, bw5, rfl, hbc⟩ := hR; replace hs := hs.fresh hs1 (bkCFresh (m := w0.heap.size) hbc hs.below.size); clear hs1 hb
  have h9 := c_GrossesH (chK 5 150 p5 q5) (some ⟨bf5, 0, none⟩) 4 (some ⟨br5, 0, none⟩) 4 (some ⟨bw5, 0, none⟩) 2 ge gz  _ (hs.rd (.head _)).bk (hs.rd (.tail _ (.tail _ (.tail _ (.tail _ (.tail _ (.head _))))))) te tz (hs.rd (.tail _ (.tail _ (.tail _ (.tail _ (.tail _ (.tail _ (.head _))))))))
  rw [show grossP (chK 5 150 p5 q5) = ((2, 2), 0) from k_gross _ _] at h9; dsimp only at h9
  refine callL hf hs (h9) rfl rfl rfl E25 (by decide) ?_; clear hs hf a; intro w a hs hf
  refine gL hf (g_mv hf rfl) (by decide) ?_; clear hf a; intro a hf
  refine gL hf (g_ext hf rfl rfl) (by decide) ?_; clear hf a; intro a hf
  refine gL hf (g_ext hf rfl rfl) (by decide) ?_; clear hf a; intro a hf
  refine vL hf (v_alloc hs T40 rfl) (by decide) ?_; clear hs hf a; rintro _ w ⟨b5, rfl, hs⟩ a hf
  refine uL (u_stW hf hs T40 rfl rfl rfl (k := 0) rfl rfl rfl) ?_; clear hs; intro w hs; dsimp only [List.set] at hs
  refine gL hf (g_as hf rfl) (by decide) ?_; clear hf a; intro a hf
  refine e_nil ?_
  refine wp_seq ?_
  refine c_draw _ 43 Mx rfl hs (fun _ h => h) ?_; intro w hs hS
  refine gA hf hS (i := 0) rfl (by kernel_rfl) (fun w hs => g_mv hf rfl) (by decide) ?_; clear hf a; intro a hf
  refine gA hf hS (i := 1) rfl (by kernel_rfl) (fun w hs => g_neq hf rfl rfl) (by decide) ?_; clear hf a; intro a hf; replace hf := hf.setV (v' := .bool false) rfl
  refine gA hf hS (i := 2) rfl (by kernel_rfl) (fun w hs => g_mv hf rfl) (by decide) ?_; clear hf a; intro a hf
  refine ggA (G := true) hf hS (i := 3) rfl (by kernel_rfl) rfl rfl rfl (fun _ w hs => g_mv hf rfl) (by decide) ?_; clear hf a; intro a hf
  refine ggA (G := true) hf hS (i := 4) rfl (by kernel_rfl) rfl rfl rfl (fun _ w hs => g_neq hf rfl rfl) (by decide) ?_; clear hf a; intro a hf; replace hf := hf.setV (v' := .bool false) rfl
  refine gA hf hS (i := 5) rfl (by kernel_rfl) (fun w hs => g_pick hf rfl rfl rfl) (by decide) ?_; clear hf a; intro a hf; replace hf := hf.setV (v' := .bool false) rfl
  refine gA hf hS (i := 6) rfl (by kernel_rfl) (fun w hs => g_mv hf rfl) (by decide) ?_; clear hf a; intro a hf
  refine ggA (G := true) hf hS (i := 7) rfl (by kernel_rfl) rfl rfl rfl (fun _ w hs => g_mv hf rfl) (by decide) ?_; clear hf a; intro a hf
  refine ggA (G := true) hf hS (i := 8) rfl (by kernel_rfl) rfl rfl rfl (fun _ w hs => g_neq hf rfl rfl) (by decide) ?_; clear hf a; intro a hf; replace hf := hf.setV (v' := .bool false) rfl
  refine gA hf hS (i := 9) rfl (by kernel_rfl) (fun w hs => g_pick hf rfl rfl rfl) (by decide) ?_; clear hf a; intro a hf; replace hf := hf.setV (v' := .bool false) rfl
  refine gA hf hS (i := 10) rfl (by kernel_rfl) (fun w hs => g_mv hf rfl) (by decide) ?_; clear hf a; intro a hf
  refine ggA (G := true) hf hS (i := 11) rfl (by kernel_rfl) rfl rfl rfl (fun _ w hs => g_mv hf rfl) (by decide) ?_; clear hf a; intro a hf
  refine ggA (G := true) hf hS (i := 12) rfl (by kernel_rfl) rfl rfl rfl (fun _ w hs => g_neq hf rfl rfl) (by decide) ?_; clear hf a; intro a hf; replace hf := hf.setV (v' := .bool false) rfl
  refine gA hf hS (i := 13) rfl (by kernel_rfl) (fun w hs => g_pick hf rfl rfl rfl) (by decide) ?_; clear hf a; intro a hf; replace hf := hf.setV (v' := .bool false) rfl
  refine gA hf hS (i := 14) rfl (by kernel_rfl) (fun w hs => g_mv hf rfl) (by decide) ?_; clear hf a; intro a hf
  refine ggA (G := true) hf hS (i := 15) rfl (by kernel_rfl) rfl rfl rfl (fun _ w hs => g_mv hf rfl) (by decide) ?_; clear hf a; intro a hf
  refine ggA (G := true) hf hS (i := 16) rfl (by kernel_rfl) rfl rfl rfl (fun _ w hs => g_neq hf rfl rfl) (by decide) ?_; clear hf a; intro a hf; replace hf := hf.setV (v' := .bool false) rfl
  refine gA hf hS (i := 17) rfl (by kernel_rfl) (fun w hs => g_pick hf rfl rfl rfl) (by decide) ?_; clear hf a; intro a hf; replace hf := hf.setV (v' := .bool false) rfl
  refine gA hf hS (i := 18) rfl (by kernel_rfl) (fun w hs => g_mv hf rfl) (by decide) ?_; clear hf a; intro a hf
  refine ggA (G := true) hf hS (i := 19) rfl (by kernel_rfl) rfl rfl rfl (fun _ w hs => g_ldW hf hs T40 rfl (k := 4) rfl rfl) (by decide) ?_; clear hf a; intro a hf
  refine one (i := 20) (by kernel_rfl) ?_
  refine oCallG hf hs rfl rfl rfl (G := true) rfl (fun hg => ⟨_, _, _, _, c_Sp _ _ _, rfl, evs_cons rfl (evs_cons rfl evs_nil), rfl⟩) E52 (by decide) (fun _ h => h.sub (.refl _)) ?_; clear hs hf hS a; intro w a hs hS hf
  refine ggA (G := true) hf hS (i := 21) rfl (by kernel_rfl) rfl rfl rfl (fun _ w hs => g_neS hf Q40 rfl rfl) (by decide) ?_; clear hf a; intro a hf; replace hf := hf.setV (v' := .bool false) rfl
  refine gA hf hS (i := 22) rfl (by kernel_rfl) (fun w hs => g_pick hf rfl rfl rfl) (by decide) ?_; clear hf a; intro a hf; replace hf := hf.setV (v' := .bool false) rfl
  refine gA hf hS (i := 23) rfl (by kernel_rfl) (fun w hs => g_mv hf rfl) (by decide) ?_; clear hf a; intro a hf
  refine ggA (G := true) hf hS (i := 24) rfl (by kernel_rfl) rfl rfl rfl (fun _ w hs => g_ldW hf hs T40 rfl (k := 3) rfl rfl) (by decide) ?_; clear hf a; intro a hf
  refine one (i := 25) (by kernel_rfl) ?_
  refine oCallG hf hs rfl rfl rfl (G := true) rfl (fun hg => ⟨_, _, _, _, c_Sp _ _ _, rfl, evs_cons rfl (evs_cons rfl evs_nil), rfl⟩) E52 (by decide) (fun _ h => h.sub (.refl _)) ?_; clear hs hf hS a; intro w a hs hS hf
  refine ggA (G := true) hf hS (i := 26) rfl (by kernel_rfl) rfl rfl rfl (fun _ w hs => g_neS hf Q40 rfl rfl) (by decide) ?_; clear hf a; intro a hf; replace hf := hf.setV (v' := .bool false) rfl
  refine gA hf hS (i := 27) rfl (by kernel_rfl) (fun w hs => g_pick hf rfl rfl rfl) (by decide) ?_; clear hf a; intro a hf; replace hf := hf.setV (v' := .bool false) rfl
  refine gA hf hS (i := 28) rfl (by kernel_rfl) (fun w hs => g_mv hf rfl) (by decide) ?_; clear hf a; intro a hf
  refine ggA (G := true) hf hS (i := 29) rfl (by kernel_rfl) rfl rfl rfl (fun _ w hs => g_ldW hf hs T40 rfl (k := 2) rfl rfl) (by decide) ?_; clear hf a; intro a hf
  refine one (i := 30) (by kernel_rfl) ?_
  refine oCallG hf hs rfl rfl rfl (G := true) rfl (fun hg => ⟨_, _, _, _, c_Sp _ _ _, rfl, evs_cons rfl (evs_cons rfl evs_nil), rfl⟩) E52 (by decide) (fun _ h => h.sub (.refl _)) ?_; clear hs hf hS a; intro w a hs hS hf
  refine ggA (G := true) hf hS (i := 31) rfl (by kernel_rfl) rfl rfl rfl (fun _ w hs => g_neS hf Q40 rfl rfl) (by decide) ?_; clear hf a; intro a hf; replace hf := hf.setV (v' := .bool false) rfl
  refine gA hf hS (i := 32) rfl (by kernel_rfl) (fun w hs => g_pick hf rfl rfl rfl) (by decide) ?_; clear hf a; intro a hf; replace hf := hf.setV (v' := .bool false) rfl
  refine gA hf hS (i := 33) rfl (by kernel_rfl) (fun w hs => g_mv hf rfl) (by decide) ?_; clear hf a; intro a hf
  refine ggA (G := true) hf hS (i := 34) rfl (by kernel_rfl) rfl rfl rfl (fun _ w hs => g_ldW hf hs T40 rfl (k := 1) rfl rfl) (by decide) ?_; clear hf a; intro a hf
  refine one (i := 35) (by kernel_rfl) ?_
  refine oCallG hf hs rfl rfl rfl (G := true) rfl (fun hg => ⟨_, _, _, _, c_Sp _ _ _, rfl, evs_cons rfl (evs_cons rfl evs_nil), rfl⟩) E52 (by decide) (fun _ h => h.sub (.refl _)) ?_; clear hs hf hS a; intro w a hs hS hf
  refine ggA (G := true) hf hS (i := 36) rfl (by kernel_rfl) rfl rfl rfl (fun _ w hs => g_neS hf Q40 rfl rfl) (by decide) ?_; clear hf a; intro a hf; replace hf := hf.setV (v' := .bool false) rfl
  refine gA hf hS (i := 37) rfl (by kernel_rfl) (fun w hs => g_pick hf rfl rfl rfl) (by decide) ?_; clear hf a; intro a hf; replace hf := hf.setV (v' := .bool false) rfl
  refine gA hf hS (i := 38) rfl (by kernel_rfl) (fun w hs => g_mv hf rfl) (by decide) ?_; clear hf a; intro a hf
  refine ggA (G := true) hf hS (i := 39) rfl (by kernel_rfl) rfl rfl rfl (fun _ w hs => g_ldW hf hs T40 rfl (k := 0) rfl rfl) (by decide) ?_; clear hf a; intro a hf
  refine one (i := 40) (by kernel_rfl) ?_
  refine oCallG hf hs rfl rfl rfl (G := true) rfl (fun hg => ⟨_, _, _, _, c_Only _ _, rfl, evs_cons rfl evs_nil, rfl⟩) E60 (by decide) (fun _ h => h.sub (.refl _)) ?_; clear hs hf hS a; intro w a hs hS hf
  refine ggA (G := true) hf hS (i := 41) rfl (by kernel_rfl) rfl rfl rfl (fun _ w hs => g_neS hf Q40 rfl rfl) (by decide) ?_; clear hf a; intro a hf; replace hf := hf.setV (v' := .bool false) rfl
  refine gA hf hS (i := 42) rfl (by kernel_rfl) (fun w hs => g_pick hf rfl rfl rfl) (by decide) ?_; clear hf a; intro a hf; replace hf := hf.setV (v' := .bool false) rfl
  refine e_done (by kernel_rfl) ?_
  refine c_cond hf rfl (fun hc1 => ?_) (fun hc1 => ?_)
  · skip
    cases hc1
  · skip
    refine c_skip (q_thenN ?_)
    refine c_reg ?_
    refine callX hf hs (c_wrongBH _) rfl rfl rfl E58 (by decide) ?_; intro v w1 a hR hb hs1 hf; obtain ⟨bf9, br9, p9, q9, bw9, rfl, hbc⟩ := hR; replace hs := hs.fresh hs1 (bkCFresh (m := w0.heap.size) hbc hs.below.size); clear hs1 hb
    refine callX hf hs (c_WrongH (chK 5 139 p9 q9) (some ⟨bf9, 0, none⟩) 4 (some ⟨br9, 0, none⟩) 4 (some ⟨bw9, 0, none⟩) 2 ge gz _ (hs.rd (.head _)).bk (hs.rd (.tail _ (.tail _ (.tail _ (.tail _ (.tail _ (.tail _ (.head _))))))))) rfl rfl rfl E20 (by decide) ?_; intro v w1 a hR hb hs1 hf; obtain ⟨A9, c9, rfl, hou⟩ := hR; rw [show wrongP (chK 5 139 p9 q9) = ([1], 0) from k_wrong _ _] at hou hf; replace hs := hs.fresh hs1 (outFresh hou); clear hs1 hb
    refine gL hf (g_mv hf rfl) (by decide) ?_; clear hf a; intro a hf
    refine gL hf (g_ext hf rfl rfl) (by decide) ?_; clear hf a; intro a hf
    refine gL hf (g_ext hf rfl rfl) (by decide) ?_; clear hf a; intro a hf
    refine gL hf (g_as hf rfl) (by decide) ?_; clear hf a; intro a hf
    refine gL hf (g_as hf rfl) (by decide) ?_; clear hf a; intro a hf
    refine e_nil ?_
    refine c_reg ?_
    refine callX hf hs (c_ownH _) rfl rfl rfl E56 (by decide) ?_; intro v w1 a hR hb hs1 hf; obtain ⟨bf6, br6, p6, q6, bw6, rfl, hbc⟩ := hR; replace hs := hs.fresh hs1 (bkCFresh (m := w0.heap.size) hbc hs.below.size); clear hs1 hb
    have h9 := c_RightH (chK 5 150 p6 q6) (some ⟨bf6, 0, none⟩) 4 (some ⟨br6, 0, none⟩) 4 (some ⟨bw6, 0, none⟩) 2 ge gz 1 _ (hs.rd (.head _)).bk (hs.rd (.tail _ (.tail _ (.tail _ (.tail _ (.tail _ (.tail _ (.tail _ (.tail _ (.head _))))))))))
    rw [show rightP (chK 5 150 p6 q6) 1 = (true, 0) from k_right _ _] at h9; dsimp only at h9
    refine callL hf hs (h9) rfl rfl rfl E31 (by decide) ?_; clear hs hf a; intro w a hs hf
    refine gL hf (g_mv hf rfl) (by decide) ?_; clear hf a; intro a hf
    refine gL hf (g_ext hf rfl rfl) (by decide) ?_; clear hf a; intro a hf
    refine gL hf (g_ext hf rfl rfl) (by decide) ?_; clear hf a; intro a hf
    refine gL hf (g_as hf rfl) (by decide) ?_; clear hf a; intro a hf
    refine gL hf (g_as hf rfl) (by decide) ?_; clear hf a; intro a hf
    refine e_nil ?_
    refine c_reg ?_
    refine callX hf hs (c_ownH _) rfl rfl rfl E56 (by decide) ?_; intro v w1 a hR hb hs1 hf; obtain ⟨bf7, br7, p7, q7, bw7, rfl, hbc⟩ := hR; replace hs := hs.fresh hs1 (bkCFresh (m := w0.heap.size) hbc hs.below.size); clear hs1 hb
    have h9 := c_TeachH (chK 5 150 p7 q7) (some ⟨bf7, 0, none⟩) 4 (some ⟨br7, 0, none⟩) 4 (some ⟨bw7, 0, none⟩) 2 ge gz  _ (hs.rd (.head _)).bk (hs.rd (.tail _ (.tail _ (.tail _ (.tail _ (.tail _ (.tail _ (.tail _ (.tail _ (.tail _ (.head _))))))))))) te tz (hs.rd (.tail _ (.tail _ (.tail _ (.tail _ (.tail _ (.tail _ (.tail _ (.tail _ (.tail _ (.tail _ (.head _))))))))))))
    rw [show teachP (chK 5 150 p7 q7) = (1, 0) from k_teach _ _] at h9; dsimp only at h9
    refine callL hf hs (h9) rfl rfl rfl E21 (by decide) ?_; clear hs hf a; intro w a hs hf
    refine gL hf (g_mv hf rfl) (by decide) ?_; clear hf a; intro a hf
    refine gL hf (g_ext hf rfl rfl) (by decide) ?_; clear hf a; intro a hf
    refine gL hf (g_ext hf rfl rfl) (by decide) ?_; clear hf a; intro a hf
    refine gL hf (g_as hf rfl) (by decide) ?_; clear hf a; intro a hf
    refine gL hf (g_as hf rfl) (by decide) ?_; clear hf a; intro a hf
    refine e_nil ?_
    refine c_reg ?_
    refine callX hf hs (c_ownH _) rfl rfl rfl E56 (by decide) ?_; intro v w1 a hR hb hs1 hf; obtain ⟨bf8, br8, p8, q8, bw8, rfl, hbc⟩ := hR; replace hs := hs.fresh hs1 (bkCFresh (m := w0.heap.size) hbc hs.below.size); clear hs1 hb
    have h9 := c_AskH (chK 5 150 p8 q8) (some ⟨bf8, 0, none⟩) 4 (some ⟨br8, 0, none⟩) 4 (some ⟨bw8, 0, none⟩) 2 ge gz  _ (hs.rd (.head _)).bk (hs.rd (.tail _ (.tail _ (.tail _ (.tail _ (.tail _ (.tail _ (.tail _ (.tail _ (.tail _ (.tail _ (.head _)))))))))))) te tz (hs.rd (.tail _ (.tail _ (.tail _ (.tail _ (.tail _ (.tail _ (.tail _ (.tail _ (.tail _ (.tail _ (.tail _ (.head _)))))))))))))
    rw [show askP (chK 5 150 p8 q8) = (1, 0) from k_ask _ _] at h9; dsimp only at h9
    refine callL hf hs (h9) rfl rfl rfl E46 (by decide) ?_; clear hs hf a; intro w a hs hf
    refine gL hf (g_mv hf rfl) (by decide) ?_; clear hf a; intro a hf
    refine gL hf (g_ext hf rfl rfl) (by decide) ?_; clear hf a; intro a hf
    refine gL hf (g_ext hf rfl rfl) (by decide) ?_; clear hf a; intro a hf
    refine gL hf (g_as hf rfl) (by decide) ?_; clear hf a; intro a hf
    refine gL hf (g_as hf rfl) (by decide) ?_; clear hf a; intro a hf
    refine e_nil ?_
    refine c_reg ?_
    refine gL hf (g_mv hf rfl) (by decide) ?_; clear hf a; intro a hf
    refine gL hf (g_eql hf rfl rfl) (by decide) ?_; clear hf a; intro a hf
    refine gL hf (g_mv hf rfl) (by decide) ?_; clear hf a; intro a hf
    refine gKnown hf rfl rfl rfl ?_
    refine gL hf (g_mv hf rfl) (by decide) ?_; clear hf a; intro a hf
    refine gKnown hf rfl rfl rfl ?_
    refine gL hf (g_eql hf rfl rfl) (by decide) ?_; clear hf a; intro a hf
    refine gL hf (g_pick hf rfl rfl rfl) (by decide) ?_; clear hf a; intro a hf
    refine gL hf (g_mv hf rfl) (by decide) ?_; clear hf a; intro a hf
    refine gKnown hf rfl rfl rfl ?_
    refine gL hf (g_mv hf rfl) (by decide) ?_; clear hf a; intro a hf
    refine gKnown hf rfl rfl rfl ?_
    refine gL hf (g_eql hf rfl rfl) (by decide) ?_; clear hf a; intro a hf
    refine gL hf (g_pick hf rfl rfl rfl) (by decide) ?_; clear hf a; intro a hf
    refine gL hf (g_mv hf rfl) (by decide) ?_; clear hf a; intro a hf
    refine gKnown hf rfl rfl rfl ?_
    refine gL hf (g_mv hf rfl) (by decide) ?_; clear hf a; intro a hf
    refine gKnown hf rfl rfl rfl ?_
    refine gL hf (g_eql hf rfl rfl) (by decide) ?_; clear hf a; intro a hf
    refine gL hf (g_pick hf rfl rfl rfl) (by decide) ?_; clear hf a; intro a hf
    refine gL hf (g_mv hf rfl) (by decide) ?_; clear hf a; intro a hf
    refine gKnown hf rfl rfl rfl ?_
    refine gL hf (g_mv hf rfl) (by decide) ?_; clear hf a; intro a hf
    refine gKnown hf rfl rfl rfl ?_
    refine vL hf (v_lits (len := 1) hf hs SL31 T3 (.cons rfl .nil) rfl rfl rfl rfl (by decide) rfl) (by decide) ?_; clear hs hf a; rintro _ w ⟨b6, rfl, hs⟩ a hf
    refine gKnown hf rfl rfl rfl ?_
    refine callL hf hs (c_Alike _ _ [1] _ _ [1] _ (hs.rd (.tail _ (.tail _ (.tail _ (.head _))))) (show Rd encI 1 (some ⟨b6, 0, none⟩) 1 [1] w from rd_of_flat (sz := 1) (fun _ => rfl) (by decide) (hs.own _ _ (.head _)).2 rfl (by decide) rfl)) rfl rfl rfl E44 (by decide) ?_; clear hs hf a; intro w a hs hf
    refine gL hf (g_pick hf rfl rfl rfl) (by decide) ?_; clear hf a; intro a hf
    refine gL hf (g_mv hf rfl) (by decide) ?_; clear hf a; intro a hf
    refine gKnown hf rfl rfl rfl ?_
    refine gL hf (g_mv hf rfl) (by decide) ?_; clear hf a; intro a hf
    refine gL hf (g_pick hf rfl rfl rfl) (by decide) ?_; clear hf a; intro a hf
    refine gL hf (g_mv hf rfl) (by decide) ?_; clear hf a; intro a hf
    refine gKnown hf rfl rfl rfl ?_
    refine gL hf (g_mv hf rfl) (by decide) ?_; clear hf a; intro a hf
    refine gKnown hf rfl rfl rfl ?_
    refine gL hf (g_eql hf rfl rfl) (by decide) ?_; clear hf a; intro a hf
    refine gL hf (g_pick hf rfl rfl rfl) (by decide) ?_; clear hf a; intro a hf
    refine gL hf (g_mv hf rfl) (by decide) ?_; clear hf a; intro a hf
    refine gKnown hf rfl rfl rfl ?_
    refine gL hf (g_mv hf rfl) (by decide) ?_; clear hf a; intro a hf
    refine gKnown hf rfl rfl rfl ?_
    refine gL hf (g_eql hf rfl rfl) (by decide) ?_; clear hf a; intro a hf
    refine gL hf (g_pick hf rfl rfl rfl) (by decide) ?_; clear hf a; intro a hf
    refine gL hf (g_as hf rfl) (by decide) ?_; clear hf a; intro a hf
    refine e_nil ?_
    refine c_ret ?_
    refine e_ret1 hf rfl rfl ?_
    exact ⟨rfl, hs.below⟩

end Go.Proofs.YtjjcopeedcdokaaDoor

set_option linter.unusedVariables false
set_option linter.unusedSimpArgs false
namespace Go.Proofs.YtjjcopeedcdokaaDoor
open Go.RowKit
theorem book_zero (k : Bk) : (bookE k == 0) = hckB k := by unfold bookE; cases hckB k <;> rfl
theorem soundH0 (k : Bk) : (((((((bookE k == 0) && fitsB k.gross 1 144) && fitsB k.pay 0 999) && fitsB k.fine 0 99) && decide (((k.ws.length : Nat) : Int) ≤ 4)) && decide (((k.sh.flaps.length : Nat) : Int) ≤ 7)) && decide (((k.sh.rules.length : Nat) : Int) ≤ 10)) = hckB k := by
  rw [book_zero]
  cases h : hckB k with
  | false => rfl
  | true =>
    have hv := hck_iff.1 h
    have h0 := valid_of hv.ck
    have h1 := hv.g1; have h2 := hv.g2; have h3 := hv.p1; have h4 := hv.p2; have h5 := hv.f1; have h6 := hv.f2; have h7 := hv.n; have h8 := h0.many; have h9 := h0.rules
    simp only [fitsB, Bool.and_eq_true, decide_eq_true_eq]
    refine ⟨⟨⟨⟨⟨⟨trivial, ?_⟩, ?_⟩, ?_⟩, ?_⟩, ?_⟩, ?_⟩ <;> omega
theorem soundH1 {k : Bk} (h : hckB k = true) {i : Nat} (hi : i < k.ws.length) : ((((fitsB (k.ws.getD i default).sheets 0 600 && spanB (k.ws.getD i default).bl (k.ws.getD i default).bh 0 600) && spanB (k.ws.getD i default).tl (k.ws.getD i default).th 0 600) && decide ((k.ws.getD i default).bh - (k.ws.getD i default).bl ≤ 10)) && decide ((k.ws.getD i default).th - (k.ws.getD i default).tl ≤ 10)) = hckB k := by
  have hx := (hck_iff.1 h).wk hi
  have h1 := hx.s0; have h2 := hx.s1; have h3 := hx.b0; have h4 := hx.b1; have h5 := hx.b2; have h6 := hx.b3; have h7 := hx.t0; have h8 := hx.t1; have h9 := hx.t2; have h10 := hx.t3
  rw [h]
  simp only [fitsB, spanB, Bool.and_eq_true, decide_eq_true_eq]
  omega
def truB (x : Wkr) (n : Int) : Int := drawnZ x.bl x.bh n
def truT (x : Wkr) (n : Int) : Int := drawnZ x.tl x.th n
def canB (x : Wkr) (n0 n1 : Int) : Bool := decide (truB x n0 + truT x n1 ≤ x.sheets)
def pasZ (k : Bk) (x : Wkr) (n0 n1 n2 : Int) : Int := if canB x n0 n1 = true then (if doesK k x = 0 then 0 else if doesK k x = 1 then spin n2 (truB x n0 + 1) else truB x n0) else 0
theorem drawn_rng {lo hi : Int} (n : Int) (h : lo ≤ hi) : lo ≤ drawnZ lo hi n ∧ drawnZ lo hi n ≤ hi := by
  unfold drawnZ
  have := spin_rng n (m := hi - lo + 1) (by omega)
  omega
theorem can_mem {b : Sheet} {x : Wkr} (hx : WkrV b x) {n0 n1 : Int} (h : canB x n0 n1 = true) : (truB x n0, truT x n1) ∈ trues x := by
  have h1 := drawn_rng n0 hx.b1; have h2 := drawn_rng n1 hx.t1
  have h3 := of_decide_eq_true h
  exact mem_trues.2 ⟨h1.1, h1.2, h2.1, h2.2, h3⟩
theorem can_right {b : Sheet} {x : Wkr} (hx : WkrV b x) {n0 n1 : Int} (h : canB x n0 n1 = true) : rightB x = true := by
  have := can_mem hx h
  unfold rightB
  cases ht : trues x with
  | nil => rw [ht] at this; cases this
  | cons a l => rfl
theorem pas_rng {k : Bk} (hv : BkV k) {x : Wkr} (hx : WkrV k.sh x) {n0 n1 n2 : Int} (h : canB x n0 n1 = true) : (hp (doesK k x) (truB x n0)).1 ≤ pasZ k x n0 n1 n2 ∧ pasZ k x n0 n1 n2 ≤ (hp (doesK k x) (truB x n0)).2 := by
  have h1 := trues_in hx (can_mem hx h)
  have h0 := h1.n0
  have hd := does_rng hv hx
  have hs := spin_rng n2 (m := truB x n0 + 1) (by omega)
  unfold pasZ hp
  rw [if_pos h]
  rcases (show doesK k x = 0 ∨ doesK k x = 1 ∨ doesK k x = 2 by omega) with e | e | e
  · simp [e]
  · simp [e]; omega
  · simp [e]
/-- What is told of a worker has it. -/
theorem told_has {k : Bk} {x : Wkr} {what : Nat} {c : Int × Int} (hc : c ∈ trues x) : (ofZ k what x).1 ≤ (hspan k x what c).1 ∧ (hspan k x what c).2 ≤ (ofZ k what x).2 := by
  unfold ofZ
  rcases ofP_cases k x what with ⟨h, _⟩ | ⟨s, h, he⟩
  · rw [h] at hc; cases hc
  · rw [h]; exact ⟨he.lo c hc, he.hi c hc⟩
theorem truly_has {k : Bk} (hv : BkV k) {x : Wkr} (hx : WkrV k.sh x) {n0 n1 n2 : Int} (h : canB x n0 n1 = true) :
    ((ofZ k 0 x).1 ≤ pasZ k x n0 n1 n2 ∧ pasZ k x n0 n1 n2 ≤ (ofZ k 0 x).2) ∧ ((ofZ k 1 x).1 ≤ hm x (truB x n0, truT x n1) ∧ hm x (truB x n0, truT x n1) ≤ (ofZ k 1 x).2) ∧
    ((ofZ k 2 x).1 ≤ hgv k (pasZ k x n0 n1 n2) (hm x (truB x n0, truT x n1)) ∧ hgv k (pasZ k x n0 n1 n2) (hm x (truB x n0, truT x n1)) ≤ (ofZ k 2 x).2) := by
  have hm := can_mem hx h
  have h0 := told_has (k := k) (what := 0) hm
  have h1 := told_has (k := k) (what := 1) hm
  have h2 := told_has (k := k) (what := 2) hm
  rw [hspan0] at h0; rw [hspan1] at h1; rw [hspan2] at h2
  have hp := pas_rng hv hx (n2 := n2) h
  have ht := trues_in hx hm
  have h9 : 0 ≤ (Go.Proofs.YtjjcopeedcdokaaDoor.hp (doesK k x) (truB x n0)).1 := (hp_rng (d := doesK k x) (n := truB x n0) ⟨ht.n0, by have := ht.s; have := ht.t0; have := ht.m; omega⟩).1.1
  have g1 := hgv_mono hv (m := Go.Proofs.YtjjcopeedcdokaaDoor.hm x (truB x n0, truT x n1)) h9 hp.1
  have g2 := hgv_mono hv (m := Go.Proofs.YtjjcopeedcdokaaDoor.hm x (truB x n0, truT x n1)) (Int.le_trans h9 hp.1) hp.2
  simp only at h0 h1 h2
  exact ⟨⟨by omega, by omega⟩, h1, by omega, by omega⟩
/-- Coin by coin. -/
theorem coin_end {p g j l : Int} (h : l = p - j * g) (h0 : 0 ≤ l) (h1 : l < g) (hp : 0 ≤ p) : p.tdiv g = j := by
  rw [Int.tdiv_eq_ediv_of_nonneg hp]
  have : p = l + j * g := by omega
  rw [this, Int.add_mul_ediv_right _ _ (by omega), Int.ediv_eq_zero_of_lt h0 h1]; omega
theorem right_mem {b : Sheet} {x : Wkr} (hx : WkrV b x) (h : rightB x = true) : (x.bl, x.tl) ∈ trues x ∧ (min x.bh (x.sheets - x.tl), x.tl) ∈ trues x := by
  have h1 := (rightB_iff hx).1 h
  have h2 := hx.b1; have h3 := hx.t1
  exact ⟨mem_trues.2 (by omega), mem_trues.2 (by omega)⟩
theorem ends0 {k : Bk} (hv : BkV k) {x : Wkr} (hx : WkrV k.sh x) (h : rightB x = true) : ofZ k 0 x = (if doesK k x < 2 then 0 else x.bl, if doesK k x = 0 then 0 else min x.bh (x.sheets - x.tl)) := by
  obtain ⟨m1, m2⟩ := right_mem hx h
  have hd := does_rng hv hx
  have hb0 := hx.b0
  unfold ofZ
  obtain ⟨s, hs, he⟩ := right_some (k := k) 0 h
  rw [hs]
  have a1 := he.lo _ m1; have a2 := he.hi _ m2
  obtain ⟨c1, k1, e1⟩ := he.lo1
  obtain ⟨c2, k2, e2⟩ := he.hi1
  have b1 := mem_trues.1 (show (c1.1, c1.2) ∈ trues x from k1); have b2 := mem_trues.1 (show (c2.1, c2.2) ∈ trues x from k2)
  rw [hspan0] at a1 a2 e1 e2
  unfold hp at a1 a2 e1 e2
  simp only [Option.getD_some]
  rcases (show doesK k x = 0 ∨ doesK k x = 1 ∨ doesK k x = 2 by omega) with e | e | e <;> simp only [e, if_true] at a1 a2 e1 e2 ⊢ <;> simp at a1 a2 e1 e2 ⊢ <;> exact Prod.ext (by simp only; omega) (by simp only; omega)
theorem ends1 {k : Bk} {x : Wkr} (hx : WkrV k.sh x) (h : rightB x = true) : ofZ k 1 x = (max 0 (x.sheets - x.bh - x.th), x.sheets - x.bl - x.tl) := by
  obtain ⟨m1, m2⟩ := right_mem hx h
  have hr := (rightB_iff hx).1 h
  have h1 := hx.b1; have h2 := hx.t1
  have m3 : (min x.bh (x.sheets - x.tl), min x.th (x.sheets - min x.bh (x.sheets - x.tl))) ∈ trues x := mem_trues.2 (by omega)
  unfold ofZ
  obtain ⟨s, hs, he⟩ := right_some (k := k) 1 h
  rw [hs]
  have a1 := he.lo _ m3; have a2 := he.hi _ m1
  obtain ⟨c1, k1, e1⟩ := he.lo1
  obtain ⟨c2, k2, e2⟩ := he.hi1
  have b1 := mem_trues.1 (show (c1.1, c1.2) ∈ trues x from k1); have b2 := mem_trues.1 (show (c2.1, c2.2) ∈ trues x from k2)
  rw [hspan1] at a1 a2 e1 e2
  simp only [hm] at a1 a2 e1 e2
  exact Prod.ext (by simp only [Option.getD_some]; omega) (by simp only [Option.getD_some]; omega)
theorem ends_mono {α : Type} {l : List α} {f g : α → Int × Int} {s t : Int × Int} (h1 : Ends l f s) (h2 : Ends l g t) (h : ∀ c ∈ l, (f c).1 ≤ (g c).1 ∧ (f c).2 ≤ (g c).2) : s.1 ≤ t.1 ∧ s.2 ≤ t.2 := by
  obtain ⟨c1, k1, e1⟩ := h2.lo1
  obtain ⟨c2, k2, e2⟩ := h1.hi1
  have a1 := h1.lo c1 k1; have a2 := h2.hi c2 k2
  have b1 := h c1 k1; have b2 := h c2 k2
  omega
theorem ends_sub {α : Type} {l m : List α} {f : α → Int × Int} {s t : Int × Int} (h1 : Ends l f s) (h2 : Ends m f t) (h : ∀ c ∈ m, c ∈ l) : s.1 ≤ t.1 ∧ t.2 ≤ s.2 := by
  obtain ⟨c1, k1, e1⟩ := h2.lo1
  obtain ⟨c2, k2, e2⟩ := h2.hi1
  have a1 := h1.lo c1 (h c1 k1); have a2 := h1.hi c2 (h c2 k2)
  omega
theorem ofZ_mono {k k' : Bk} {x y : Wkr} {what what' : Nat} (ht : trues x = trues y) (h : ∀ c ∈ trues x, (hspan k x what c).1 ≤ (hspan k' y what' c).1 ∧ (hspan k x what c).2 ≤ (hspan k' y what' c).2) : (ofZ k what x).1 ≤ (ofZ k' what' y).1 ∧ (ofZ k what x).2 ≤ (ofZ k' what' y).2 := by
  unfold ofZ
  rcases ofP_cases k x what with ⟨h1, h2⟩ | ⟨s, h1, h2⟩
  · rcases ofP_cases k' y what' with ⟨h3, h4⟩ | ⟨t, h3, h4⟩
    · rw [h2, h4]; exact ⟨Int.le_refl _, Int.le_refl _⟩
    · obtain ⟨c, hc, _⟩ := h4.lo1; rw [← ht, h1] at hc; cases hc
  · rcases ofP_cases k' y what' with ⟨h3, h4⟩ | ⟨t, h3, h4⟩
    · obtain ⟨c, hc, _⟩ := h2.lo1; rw [ht, h3] at hc; cases hc
    · rw [h1, h3]
      rw [← ht] at h4
      exact ends_mono h2 h4 h
theorem hp_two (d n : Int) (h0 : 0 ≤ n) : (hp d n).1 ≤ n ∧ (hp d n).2 ≤ n ∧ 0 ≤ (hp d n).1 ∧ (hp d n).1 ≤ (hp d n).2 := by
  unfold hp
  split
  · simp only; omega
  · split <;> simp only <;> omega
/-- Who folds in an order that does passes and gets no less. -/
theorem betterH {k : Bk} (hv : BkV k) {x : Wkr} (hx : WkrV k.sh x) {l : List Int} (hd : (doesP k.sh l).1 = 2) (A : Option Addr) (c : Nat) :
    ((ofZ k 0 x).1 ≤ (ofZ k 0 (reO x l A c)).1 ∧ (ofZ k 0 x).2 ≤ (ofZ k 0 (reO x l A c)).2) ∧ (ofZ k 2 x).1 ≤ (ofZ k 2 (reO x l A c)).1 ∧ (ofZ k 2 x).2 ≤ (ofZ k 2 (reO x l A c)).2 := by
  have hd2 : doesK k (reO x l A c) = 2 := hd
  have h2 : ∀ n, hp 2 n = (n, n) := fun n => by unfold hp; rw [if_pos rfl]
  refine ⟨ofZ_mono (y := reO x l A c) rfl fun e he => ?_, ofZ_mono (y := reO x l A c) rfl fun e he => ?_⟩
  · have ht := trues_in hx (n := e.1) (t := e.2) he
    have h3 := hp_two (doesK k x) e.1 ht.n0
    rw [hspan0, hspan0, hd2, h2]; exact ⟨h3.1, h3.2.1⟩
  · have ht := trues_in hx (n := e.1) (t := e.2) he
    have h3 := hp_two (doesK k x) e.1 ht.n0
    rw [hspan2, hspan2, hd2, h2]
    exact ⟨hgv_mono hv h3.2.2.1 h3.1, hgv_mono hv (Int.le_trans h3.2.2.1 h3.2.2.2) h3.2.1⟩
/-- What is told of one of the workers. -/
def tk (k : Bk) (x : Wkr) (what : Nat) : (Int × Int) × Int := if rightB x = true then (ofZ k what x, 0) else ((0, 0), 92)
theorem tk_eq {k : Bk} {i : Nat} (hb : hckB k = true) (hi : i < k.ws.length) (what : Nat) : tellP k ((i : Nat) : Int) what = tk k (k.ws.getD i default) what := by
  rw [tell_ok hb hi]; rfl
theorem tk_err (k : Bk) (x : Wkr) (what : Nat) : (tk k x what).2 = if rightB x = true then 0 else 92 := by unfold tk; split <;> rfl
theorem tk_yes {k : Bk} {x : Wkr} (h : rightB x = true) (what : Nat) : tk k x what = (ofZ k what x, 0) := by unfold tk; rw [if_pos h]
theorem tk_no {k : Bk} {x : Wkr} (h : rightB x = false) (what : Nat) : tk k x what = ((0, 0), 92) := by unfold tk; rw [if_neg (by rw [h]; decide)]
theorem right_ok {k : Bk} {i : Nat} (hb : hckB k = true) (hi : i < k.ws.length) : rightP k ((i : Nat) : Int) = (rightB (k.ws.getD i default), 0) := by
  unfold rightP
  rw [askH_ok hb hi, wkA_nat]; simp
theorem some_nat {n : Int} {m : Nat} (h : 0 < m) : ∃ i : Nat, spin n ((m : Nat) : Int) = ((i : Nat) : Int) ∧ i < m := by
  have := spin_rng n (m := ((m : Nat) : Int)) (by omega)
  exact ⟨(spin n ((m : Nat) : Int)).toNat, by omega, by omega⟩
theorem sound_some {b : Bool} {m : Nat} (h : (!b || (((m : Nat) : Int) == 0)) = false) : b = true ∧ 0 < m := by
  rw [Bool.or_eq_false_iff] at h
  refine ⟨by simpa using h.1, ?_⟩
  have h2 := h.2
  simp only [beq_eq_false_iff_ne] at h2
  omega
theorem ends_dead {b : Sheet} {k : Bk} {x : Wkr} (hx : WkrV b x) : ((((0 : Int) != 0) || (((tk k x 0).2 == 0) != decide (x.bl + x.tl ≤ x.sheets))) || ((tk k x 1).2 != (tk k x 0).2)) = false := by
  have h := rightB_iff hx
  cases hr : rightB x with
  | true => rw [tk_yes hr, tk_yes hr]; simp [h.1 hr]
  | false => rw [tk_no hr, tk_no hr]; simp; exact Int.not_le.1 fun h2 => by rw [h.2 h2] at hr; cases hr
/-- The order that is told does in each truth. -/
theorem ok_does {b : Sheet} (hck : checkB b = true) {l : List Int} (h : Ok b l) (hl : l.length = b.flaps.length) : (doesP b l).1 = 2 := by
  have hv := valid_of hck
  have ho := ok_ord h hl
  rw [does_ok hck ho]
  show 2 - worst b l b.rules.length = 2
  have hz := fold_zero b l b.rules 0 (by omega)
  have : worst b l b.rules.length = 0 := by
    unfold worst
    rw [List.take_length]
    refine hz.2 ⟨rfl, fun r hr hlt => ?_⟩
    have hi := rule_in hv hr
    have m1 := ord_mem ho hi.1; have m2 := ord_mem ho hi.2
    have h9 := (ok_iff hv ho).1 h r hr
    have h8 : cellN b 2 r.over r.under = if touchB b r.over r.under false = true then 2 else if touchB b r.over r.under true = true then 1 else 0 := cell_eq hv hi.1 hi.2 (hv.rule r hr).2.2.2.2
    rw [index_idx m1, index_idx m2] at hlt
    by_cases h7 : 0 < cellN b 2 r.over r.under
    · have := h9 h7; omega
    · have : 0 ≤ cellN b 2 r.over r.under := by rw [h8]; split <;> (try split) <;> omega
      omega
  omega
theorem order_does {b : Sheet} (hck : checkB b = true) (h : (orderP b).2 = 0) : (doesP b (orderP b).1).1 = 2 := by
  obtain ⟨h1, h2⟩ := order_ord hck h
  exact ok_does hck h2 (ordB_iff.1 h1).1
theorem tk_set {k : Bk} (hv : BkV k) {i : Nat} (hi : i < k.ws.length) {l : List Int} (ho : ordB k.sh l = true) (A : Option Addr) (c : Nat) (what : Nat) : tellP (setW k i l A c) ((i : Nat) : Int) what = tk k (reO (k.ws.getD i default) l A c) what := by
  have hvx := setW_v hv hi ho A c
  rw [tk_eq (hck_iff.2 hvx) (by rw [setW_len]; exact hi), setW_get hi]; rfl
theorem right_reO (x : Wkr) (l : List Int) (A : Option Addr) (c : Nat) : rightB (reO x l A c) = rightB x := rfl
/-- If the sheet does not fold nobody is taught. -/
theorem teach_no {k : Bk} (hb : hckB k = true) (h : (orderP k.sh).2 ≠ 0) : (teachP k).2 = if wrongL k = [] then 4 else 92 := by
  unfold teachP togE
  rw [if_pos hb]
  by_cases h2 : wrongL k = []
  · simp [h2, h]
  · simp [h2]
end Go.Proofs.YtjjcopeedcdokaaDoor

set_option linter.unusedVariables false
set_option linter.unusedSimpArgs false
namespace Go.Proofs.YtjjcopeedcdokaaDoor
open Go.RowKit
theorem c_Wraps (al ah bl bh : Int) (w0 : World) :
    Calls Tryd.prog 54 #[.agg #[.int .i64 al, .int .i64 ah], .agg #[.int .i64 bl, .int .i64 bh]] w0 (Ret w0 (.bool (decide (al ≤ bl) && decide (bh ≤ ah)))) := by
  refine c_enter (n := 17) Tryd.func54 rfl rfl (Nat.le_of_ble_eq_true rfl) ?_; intro a hf; simp only [zipR] at hf
  have hs := St.start w0 [] (by simp)
  refine c_reg ?_
  refine vL hf (v_boxA hf hs rfl) (by decide) ?_; clear hs hf a; rintro _ w ⟨b1, rfl, hs⟩ a hf
  refine vL hf (v_boxA hf hs rfl) (by decide) ?_; clear hs hf a; rintro _ w ⟨b2, rfl, hs⟩ a hf
  refine gL hf (g_as hf rfl) (by decide) ?_; clear hf a; intro a hf
  refine e_nil ?_
  refine c_reg ?_
  refine gL hf (g_fa (off' := 0) hf F40_0 rfl rfl) (by decide) ?_; clear hf a; intro a hf
  refine gL hf (g_ld hf hs T3 rfl (k := 1) rfl rfl) (by decide) ?_; clear hf a; intro a hf
  refine gL hf (g_fa (off' := 0) hf F40_0 rfl rfl) (by decide) ?_; clear hf a; intro a hf
  refine gL hf (g_ld hf hs T3 rfl (k := 0) rfl rfl) (by decide) ?_; clear hf a; intro a hf
  refine gL hf (g_leq hf rfl rfl) (by decide) ?_; clear hf a; intro a hf
  refine gL hf (g_mv hf rfl) (by decide) ?_; clear hf a; intro a hf
  refine ggL hf rfl rfl (gyes_t _) (fun hg => g_fa (off' := 1) hf F40_1 rfl rfl) (by decide) ?_; clear hf a; intro a hf
  refine ggL hf rfl rfl (gyes_t _) (fun hg => g_ld hf hs T3 (ev_gv rfl hg) (k := 0) rfl rfl) (by decide) ?_; clear hf a; intro a hf
  refine ggL hf rfl rfl (gyes_t _) (fun hg => g_fa (off' := 1) hf F40_1 rfl rfl) (by decide) ?_; clear hf a; intro a hf
  refine ggL hf rfl rfl (gyes_t _) (fun hg => g_ld hf hs T3 (ev_gv rfl hg) (k := 1) rfl rfl) (by decide) ?_; clear hf a; intro a hf
  refine ggL hf rfl rfl (gyes_t _) (fun hg => g_leq hf (ev_gv rfl hg) (ev_gv rfl hg)) (by decide) ?_; clear hf a; intro a hf
  refine gL hf (g_and hf rfl rfl) (by decide) ?_; clear hf a; intro a hf
  refine gL hf (g_as hf rfl) (by decide) ?_; clear hf a; intro a hf
  refine e_nil ?_
  refine c_ret ?_
  refine e_ret1 hf rfl rfl ?_
  exact ⟨rfl, hs.below⟩

theorem c_soundH (k : Bk) (fA : Option Addr) (fc : Nat) (rA : Option Addr) (rc : Nat) (wA : Option Addr) (wc : Nat) (ge : TypeId) (gz : Nat × Nat)  (w0 : World) (h : BkIn k fA fc rA rc wA wc w0) (hG : BlkIs 1 sidesA ge gz w0) :
    Calls Tryd.prog 48 #[.agg #[.int .i64 k.sh.wide, .int .i64 k.sh.high, .slice fA k.sh.flaps.length fc, .slice rA k.sh.rules.length rc, .int .i64 k.gross, .int .i64 k.pay, .int .i64 k.fine, .slice wA k.ws.length wc]] w0 (Ret w0 (.bool (hckB k))) := by
  refine c_enter (n := 93) Tryd.func48 rfl rfl (Nat.le_of_ble_eq_true rfl) ?_; intro a hf; simp only [zipR] at hf
  have hs := St.start w0 [Rd encF 5 fA k.sh.flaps.length k.sh.flaps, Rd encR 2 rA k.sh.rules.length k.sh.rules, Rd encW 6 wA k.ws.length k.ws, OrdD k.ws, BlkIs 1 sidesA ge gz] (stab_app h.stab hG.st1)
  have hwm := h.W.2.1
  refine c_reg ?_
  refine vL hf (v_boxA hf hs rfl) (by decide) ?_; clear hs hf a; rintro _ w ⟨b1, rfl, hs⟩ a hf
  refine gL hf (g_as hf rfl) (by decide) ?_; clear hf a; intro a hf
  refine e_nil ?_
  refine c_reg ?_
  refine gL hf (g_ldW hf hs T28 rfl (k := 0) rfl rfl) (by decide) ?_; clear hf a; intro a hf
  refine callL hf hs (c_CheckH k _ _ _ _ _ _ ge gz _ ⟨⟨hs.rd (.head _), hs.rd (.tail _ (.head _)), h.sh.fc_, h.sh.rc_⟩, hs.rd (.tail _ (.tail _ (.head _))), h.wc_, hs.rd (.tail _ (.tail _ (.tail _ (.head _))))⟩ (hs.rd (.tail _ (.tail _ (.tail _ (.tail _ (.head _))))))) rfl rfl rfl E33 (by decide) ?_; clear hs hf a; intro w a hs hf
  refine gL hf (g_eql hf rfl rfl) (by decide) ?_; clear hf a; intro a hf
  refine gL hf (g_mv hf rfl) (by decide) ?_; clear hf a; intro a hf
  refine ggL hf rfl rfl (gyes_t _) (fun hg => g_fa (off' := 4) hf F28_1 rfl rfl) (by decide) ?_; clear hf a; intro a hf
  refine ggL hf rfl rfl (gyes_t _) (fun hg => g_ld hf hs T3 (ev_gv rfl hg) (k := 0) rfl rfl) (by decide) ?_; clear hf a; intro a hf
  refine callG hf hs rfl rfl (gyes_t _) (fun hg => ⟨_, _, _, _, c_Fits _ _ _ _, rfl, evs_cons (ev_gv rfl hg) (evs_cons rfl (evs_cons rfl evs_nil)), rfl⟩) E26 (by decide) ?_; clear hs hf a; intro w a hs hf
  refine gL hf (g_and hf rfl rfl) (by decide) ?_; clear hf a; intro a hf
  refine gL hf (g_mv hf rfl) (by decide) ?_; clear hf a; intro a hf
  refine ggL hf rfl rfl (gyes_t _) (fun hg => g_fa (off' := 5) hf F28_2 rfl rfl) (by decide) ?_; clear hf a; intro a hf
  refine ggL hf rfl rfl (gyes_t _) (fun hg => g_ld hf hs T3 (ev_gv rfl hg) (k := 0) rfl rfl) (by decide) ?_; clear hf a; intro a hf
  refine callG hf hs rfl rfl (gyes_t _) (fun hg => ⟨_, _, _, _, c_Fits _ _ _ _, rfl, evs_cons (ev_gv rfl hg) (evs_cons rfl (evs_cons rfl evs_nil)), rfl⟩) E26 (by decide) ?_; clear hs hf a; intro w a hs hf
  refine gL hf (g_and hf rfl rfl) (by decide) ?_; clear hf a; intro a hf
  refine gL hf (g_mv hf rfl) (by decide) ?_; clear hf a; intro a hf
  refine ggL hf rfl rfl (gyes_t _) (fun hg => g_fa (off' := 6) hf F28_3 rfl rfl) (by decide) ?_; clear hf a; intro a hf
  refine ggL hf rfl rfl (gyes_t _) (fun hg => g_ld hf hs T3 (ev_gv rfl hg) (k := 0) rfl rfl) (by decide) ?_; clear hf a; intro a hf
  refine callG hf hs rfl rfl (gyes_t _) (fun hg => ⟨_, _, _, _, c_Fits _ _ _ _, rfl, evs_cons (ev_gv rfl hg) (evs_cons rfl (evs_cons rfl evs_nil)), rfl⟩) E26 (by decide) ?_; clear hs hf a; intro w a hs hf
  refine gL hf (g_and hf rfl rfl) (by decide) ?_; clear hf a; intro a hf
  refine gL hf (g_mv hf rfl) (by decide) ?_; clear hf a; intro a hf
  refine ggL hf rfl rfl (gyes_t _) (fun hg => g_fa (off' := 7) hf F28_4 rfl rfl) (by decide) ?_; clear hf a; intro a hf
  refine ggL hf rfl rfl (gyes_t _) (fun hg => g_ld hf hs T26 (ev_gv rfl hg) (k := 0) rfl rfl) (by decide) ?_; clear hf a; intro a hf
  refine ggL hf rfl rfl (gyes_t _) (fun hg => g_len hf SL26 (ev_gv rfl hg)) (by decide) ?_; clear hf a; intro a hf
  refine ggL hf rfl rfl (gyes_t _) (fun hg => g_leq hf (ev_gv rfl hg) rfl) (by decide) ?_; clear hf a; intro a hf
  refine gL hf (g_and hf rfl rfl) (by decide) ?_; clear hf a; intro a hf
  refine gL hf (g_mv hf rfl) (by decide) ?_; clear hf a; intro a hf
  refine ggL hf rfl rfl (gyes_t _) (fun hg => g_fa (off' := 0) hf F28_0 rfl rfl) (by decide) ?_; clear hf a; intro a hf
  refine ggL hf rfl rfl (gyes_t _) (fun hg => g_fa (off' := 2) hf F25_2 (ev_gv rfl hg) rfl) (by decide) ?_; clear hf a; intro a hf
  refine ggL hf rfl rfl (gyes_t _) (fun hg => g_ld hf hs T22 (ev_gv rfl hg) (k := 0) rfl rfl) (by decide) ?_; clear hf a; intro a hf
  refine ggL hf rfl rfl (gyes_t _) (fun hg => g_len hf SL22 (ev_gv rfl hg)) (by decide) ?_; clear hf a; intro a hf
  refine ggL hf rfl rfl (gyes_t _) (fun hg => g_leq hf (ev_gv rfl hg) rfl) (by decide) ?_; clear hf a; intro a hf
  refine gL hf (g_and hf rfl rfl) (by decide) ?_; clear hf a; intro a hf
  refine gL hf (g_mv hf rfl) (by decide) ?_; clear hf a; intro a hf
  refine ggL hf rfl rfl (gyes_t _) (fun hg => g_fa (off' := 0) hf F28_0 rfl rfl) (by decide) ?_; clear hf a; intro a hf
  refine ggL hf rfl rfl (gyes_t _) (fun hg => g_fa (off' := 3) hf F25_3 (ev_gv rfl hg) rfl) (by decide) ?_; clear hf a; intro a hf
  refine ggL hf rfl rfl (gyes_t _) (fun hg => g_ld hf hs T23 (ev_gv rfl hg) (k := 0) rfl rfl) (by decide) ?_; clear hf a; intro a hf
  refine ggL hf rfl rfl (gyes_t _) (fun hg => g_len hf SL23 (ev_gv rfl hg)) (by decide) ?_; clear hf a; intro a hf
  refine ggL hf rfl rfl (gyes_t _) (fun hg => g_leq hf (ev_gv rfl hg) rfl) (by decide) ?_; clear hf a; intro a hf
  refine gL hf (g_and hf rfl rfl) (by decide) ?_; clear hf a; intro a hf
  refine gL hf (g_as hf rfl) (by decide) ?_; clear hf a; intro a hf
  refine e_nil ?_
  refine wp_seq ?_
  refine c_reg ?_
  refine gL hf (g_as hf rfl) (by decide) ?_; clear hf a; intro a hf
  refine e_nil ?_
  refine c_block ?_
  rw [soundH0 k] at hf
  refine c_loop hf hs (List.range' 3 3 ++ List.range' 44 48) (σ := Nat) (fun i => [(3, .bool (hckB k)), (4, .int .i64 (i : Nat))]) (fun i => _) (fun i => i ≤ k.ws.length) (fun i => k.ws.length - i) 0 (Nat.zero_le _) (.cons rfl (.cons rfl .nil)) rfl ?_
  intro i a w hJ hf hs
  refine wp_seq ?_
  refine c_reg ?_
  refine gL hf (g_mv hf rfl) (by decide) ?_; clear hf a; intro a hf
  refine gL hf (g_mv hf rfl) (by decide) ?_; clear hf a; intro a hf
  refine ggL hf rfl rfl (gyes_t _) (fun hg => g_mv hf rfl) (by decide) ?_; clear hf a; intro a hf
  refine ggL hf rfl rfl (gyes_t _) (fun hg => g_fa (off' := 7) hf F28_4 rfl rfl) (by decide) ?_; clear hf a; intro a hf
  refine ggL hf rfl rfl (gyes_t _) (fun hg => g_ld hf hs T26 (ev_gv rfl hg) (k := 0) rfl rfl) (by decide) ?_; clear hf a; intro a hf
  refine ggL hf rfl rfl (gyes_t _) (fun hg => g_len hf SL26 (ev_gv rfl hg)) (by decide) ?_; clear hf a; intro a hf
  refine ggL hf rfl rfl (gyes_t _) (fun hg => g_lss hf (ev_gv rfl hg) (ev_gv rfl hg)) (by decide) ?_; clear hf a; intro a hf
  refine gL hf (g_and hf rfl rfl) (by decide) ?_; clear hf a; intro a hf
  refine e_nil ?_
  refine c_cond hf rfl (fun hc1 => ?_) (fun hc1 => ?_)
  · skip
    obtain ⟨hck, hkl⟩ := (Bool.and_eq_true _ _).mp hc1
    replace hkl := of_decide_eq_true hkl
    have hi : i < k.ws.length := by omega
    have hv := hck_iff.1 hck; have hx := hv.wk hi
    have hx1 := hx.b0; have hx2 := hx.b1; have hx3 := hx.b2; have hx4 := hx.t0; have hx5 := hx.t1; have hx6 := hx.t2
    refine c_skip (q_thenN ?_)
    refine c_blockS ?_
    refine c_reg ?_
    refine gL hf (g_fa (off' := 7) hf F28_4 rfl rfl) (by decide) ?_; clear hf a; intro a hf
    refine gL hf (g_ld hf hs T26 rfl (k := 0) rfl rfl) (by decide) ?_; clear hf a; intro a hf
    refine gL hf (g_mv hf rfl) (by decide) ?_; clear hf a; intro a hf
    (first | (refine gL hf (g_ixE hf hs (.tail _ (.tail _ (.head _))) SL26 rfl rfl (by omega)) (by decide) ?_) | (refine gL hf (g_ixD hf hs (.tail _ (.tail _ (.head _))) SL26 rfl rfl (by omega)) (by decide) ?_)); clear hf a; intro a hf
    refine gL hf (g_ldEW hf hs (.tail _ (.tail _ (.head _))) T47 rfl rfl (by omega)) (by decide) ?_; clear hf a; intro a hf
    refine vL hf (v_alloc hs T47 rfl) (by decide) ?_; clear hs hf a; rintro _ w ⟨b2, rfl, hs⟩ a hf
    refine uL (u_stW hf hs T47 rfl rfl rfl (k := 0) rfl rfl rfl) ?_; clear hs; intro w hs; dsimp only [List.set] at hs
    refine e_nil ?_
    refine c_reg1 ?_
    refine gL hf (g_fa (off' := 0) hf F47_0 rfl rfl) (by decide) ?_; clear hf a; intro a hf
    refine gL hf (g_ld hf hs T3 rfl (k := 0) rfl rfl) (by decide) ?_; clear hf a; intro a hf
    refine callL hf hs (c_Fits _ _ _ _) rfl rfl rfl E26 (by decide) ?_; clear hs hf a; intro w a hs hf
    refine gL hf (g_mv hf rfl) (by decide) ?_; clear hf a; intro a hf
    refine ggL hf rfl rfl (gyes_t _) (fun hg => g_fa (off' := 2) hf F47_2 rfl rfl) (by decide) ?_; clear hf a; intro a hf
    refine ggL hf rfl rfl (gyes_t _) (fun hg => g_ldP hf hs T40 (ev_gv rfl hg) (k := 0) rfl rfl) (by decide) ?_; clear hf a; intro a hf
    refine callG hf hs rfl rfl (gyes_t _) (fun hg => ⟨_, _, _, _, c_Right _ _ _ _ _, rfl, evs_cons (ev_gv rfl hg) (evs_cons rfl (evs_cons rfl evs_nil)), rfl⟩) E62 (by decide) ?_; clear hs hf a; intro w a hs hf
    refine gL hf (g_and hf rfl rfl) (by decide) ?_; clear hf a; intro a hf
    refine gL hf (g_mv hf rfl) (by decide) ?_; clear hf a; intro a hf
    refine ggL hf rfl rfl (gyes_t _) (fun hg => g_fa (off' := 4) hf F47_3 rfl rfl) (by decide) ?_; clear hf a; intro a hf
    refine ggL hf rfl rfl (gyes_t _) (fun hg => g_ldP hf hs T40 (ev_gv rfl hg) (k := 0) rfl rfl) (by decide) ?_; clear hf a; intro a hf
    refine callG hf hs rfl rfl (gyes_t _) (fun hg => ⟨_, _, _, _, c_Right _ _ _ _ _, rfl, evs_cons (ev_gv rfl hg) (evs_cons rfl (evs_cons rfl evs_nil)), rfl⟩) E62 (by decide) ?_; clear hs hf a; intro w a hs hf
    refine gL hf (g_and hf rfl rfl) (by decide) ?_; clear hf a; intro a hf
    refine gL hf (g_mv hf rfl) (by decide) ?_; clear hf a; intro a hf
    refine ggL hf rfl rfl (gyes_t _) (fun hg => g_fa (off' := 2) hf F47_2 rfl rfl) (by decide) ?_; clear hf a; intro a hf
    refine ggL hf rfl rfl (gyes_t _) (fun hg => g_fa (off' := 3) hf F40_1 (ev_gv rfl hg) rfl) (by decide) ?_; clear hf a; intro a hf
    refine ggL hf rfl rfl (gyes_t _) (fun hg => g_ld hf hs T3 (ev_gv rfl hg) (k := 0) rfl rfl) (by decide) ?_; clear hf a; intro a hf
    refine ggL hf rfl rfl (gyes_t _) (fun hg => g_fa (off' := 2) hf F47_2 rfl rfl) (by decide) ?_; clear hf a; intro a hf
    refine ggL hf rfl rfl (gyes_t _) (fun hg => g_fa (off' := 2) hf F40_0 (ev_gv rfl hg) rfl) (by decide) ?_; clear hf a; intro a hf
    refine ggL hf rfl rfl (gyes_t _) (fun hg => g_ld hf hs T3 (ev_gv rfl hg) (k := 0) rfl rfl) (by decide) ?_; clear hf a; intro a hf
    refine ggL hf rfl rfl (gyes_t _) (fun hg => g_subI hf (ev_gv rfl hg) (ev_gv rfl hg) (by omega)) (by decide) ?_; clear hf a; intro a hf
    refine ggL hf rfl rfl (gyes_t _) (fun hg => g_leq hf (ev_gv rfl hg) rfl) (by decide) ?_; clear hf a; intro a hf
    refine gL hf (g_and hf rfl rfl) (by decide) ?_; clear hf a; intro a hf
    refine gL hf (g_mv hf rfl) (by decide) ?_; clear hf a; intro a hf
    refine ggL hf rfl rfl (gyes_t _) (fun hg => g_fa (off' := 4) hf F47_3 rfl rfl) (by decide) ?_; clear hf a; intro a hf
    refine ggL hf rfl rfl (gyes_t _) (fun hg => g_fa (off' := 5) hf F40_1 (ev_gv rfl hg) rfl) (by decide) ?_; clear hf a; intro a hf
    refine ggL hf rfl rfl (gyes_t _) (fun hg => g_ld hf hs T3 (ev_gv rfl hg) (k := 0) rfl rfl) (by decide) ?_; clear hf a; intro a hf
    refine ggL hf rfl rfl (gyes_t _) (fun hg => g_fa (off' := 4) hf F47_3 rfl rfl) (by decide) ?_; clear hf a; intro a hf
    refine ggL hf rfl rfl (gyes_t _) (fun hg => g_fa (off' := 4) hf F40_0 (ev_gv rfl hg) rfl) (by decide) ?_; clear hf a; intro a hf
    refine ggL hf rfl rfl (gyes_t _) (fun hg => g_ld hf hs T3 (ev_gv rfl hg) (k := 0) rfl rfl) (by decide) ?_; clear hf a; intro a hf
    refine ggL hf rfl rfl (gyes_t _) (fun hg => g_subI hf (ev_gv rfl hg) (ev_gv rfl hg) (by omega)) (by decide) ?_; clear hf a; intro a hf
    refine ggL hf rfl rfl (gyes_t _) (fun hg => g_leq hf (ev_gv rfl hg) rfl) (by decide) ?_; clear hf a; intro a hf
    refine gL hf (g_and hf rfl rfl) (by decide) ?_; clear hf a; intro a hf
    refine gL hf (g_as hf rfl) (by decide) ?_; clear hf a; intro a hf
    refine e_nil1 (q_blkN (q_thenN ?_))
    refine c_reg1 ?_
    refine gL hf (g_mv hf rfl) (by decide) ?_; clear hf a; intro a hf
    refine gL hf (g_addI hf rfl rfl (by omega)) (by decide) ?_; clear hf a; intro a hf
    refine gL hf (g_as hf rfl) (by decide) ?_; clear hf a; intro a hf
    refine e_nil1 (q_thenN ?_)
    rw [soundH1 hck hi] at hf
    exact ⟨i + 1, (by omega), (by omega), hf.back (by repeat (first | (with_reducible exact Ext.base) | ((with_reducible refine Ext.cons ?_ ?_); (· rfl)) | ((with_reducible refine Ext.over ?_ ?_ ?_); (· rfl); (· rfl)))) (allKeys rfl) (.cons rfl (.cons rfl .nil)), hs.dropN 1⟩
  · skip
    refine c_exit (q_thenX (q_thenX (q_blkX (q_thenN ?_))))
    refine c_reg ?_
    refine gL hf (g_mv hf rfl) (by decide) ?_; clear hf a; intro a hf
    refine gL hf (g_as hf rfl) (by decide) ?_; clear hf a; intro a hf
    refine e_nil ?_
    refine c_ret ?_
    refine e_ret1 hf rfl rfl ?_
    exact ⟨rfl, hs.below⟩

theorem c_truly (k : Bk) (fA : Option Addr) (fc : Nat) (rA : Option Addr) (rc : Nat) (wA : Option Addr) (wc : Nat) (ge : TypeId) (gz : Nat × Nat) (i : Nat) (hi : i < k.ws.length) (hv : BkV k) (n0 n1 n2 : Int) (w0 : World) (h : BkIn k fA fc rA rc wA wc w0) (hG : BlkIs 1 sidesA ge gz w0) :
    Calls Tryd.prog 49 #[.agg #[.int .i64 k.sh.wide, .int .i64 k.sh.high, .slice fA k.sh.flaps.length fc, .slice rA k.sh.rules.length rc, .int .i64 k.gross, .int .i64 k.pay, .int .i64 k.fine, .slice wA k.ws.length wc], .int .i64 ((i : Nat) : Int), .agg #[.int .i64 n0, .int .i64 n1, .int .i64 n2]] w0 (Ret w0 (.tuple #[.agg #[.int .i64 (truB (k.ws.getD i default) n0), .int .i64 (truT (k.ws.getD i default) n1), .int .i64 (pasZ k (k.ws.getD i default) n0 n1 n2)], .bool (canB (k.ws.getD i default) n0 n1)])) := by
  have hck := hv.ck
  have hx := hv.wk hi
  refine c_enter (n := 65) Tryd.func49 rfl rfl (Nat.le_of_ble_eq_true rfl) ?_; intro a hf; simp only [zipR] at hf
  have hs := St.start w0 [Rd encF 5 fA k.sh.flaps.length k.sh.flaps, Rd encR 2 rA k.sh.rules.length k.sh.rules, Rd encW 6 wA k.ws.length k.ws, OrdD k.ws, BlkIs 1 sidesA ge gz] (stab_app h.stab hG.st1)
  have hwm := h.W.2.1
  have hx1 := hx.b0; have hx2 := hx.b1; have hx3 := hx.b2; have hx4 := hx.t0; have hx5 := hx.t1; have hx6 := hx.t2; have hx7 := hx.s0; have hx8 := hx.s1
  have hrb := drawn_rng n0 hx.b1; have hrt := drawn_rng n1 hx.t1
  rw [show drawnZ (k.ws.getD i default).bl (k.ws.getD i default).bh n0 = truB (k.ws.getD i default) n0 from rfl] at hrb
  rw [show drawnZ (k.ws.getD i default).tl (k.ws.getD i default).th n1 = truT (k.ws.getD i default) n1 from rfl] at hrt
  refine c_reg ?_
  refine vL hf (v_boxA hf hs rfl) (by decide) ?_; clear hs hf a; rintro _ w ⟨b1, rfl, hs⟩ a hf
  refine vL hf (v_boxA hf hs rfl) (by decide) ?_; clear hs hf a; rintro _ w ⟨b2, rfl, hs⟩ a hf
  refine vL hf (v_alloc hs T58 rfl) (by decide) ?_; clear hs hf a; rintro _ w ⟨b3, rfl, hs⟩ a hf
  refine gL hf (g_as hf rfl) (by decide) ?_; clear hf a; intro a hf
  refine e_nil ?_
  refine c_reg ?_
  refine gL hf (g_fa (off' := 7) hf F28_4 rfl rfl) (by decide) ?_; clear hf a; intro a hf
  refine gL hf (g_ld hf hs T26 rfl (k := 2) rfl rfl) (by decide) ?_; clear hf a; intro a hf
  refine gL hf (g_mv hf rfl) (by decide) ?_; clear hf a; intro a hf
  (first | (refine gL hf (g_ixE hf hs (.tail _ (.tail _ (.head _))) SL26 rfl rfl (by omega)) (by decide) ?_) | (refine gL hf (g_ixD hf hs (.tail _ (.tail _ (.head _))) SL26 rfl rfl (by omega)) (by decide) ?_)); clear hf a; intro a hf
  refine gL hf (g_ldEW hf hs (.tail _ (.tail _ (.head _))) T47 rfl rfl (by omega)) (by decide) ?_; clear hf a; intro a hf
  refine vL hf (v_alloc hs T47 rfl) (by decide) ?_; clear hs hf a; rintro _ w ⟨b4, rfl, hs⟩ a hf
  refine uL (u_stW hf hs T47 rfl rfl rfl (k := 0) rfl rfl rfl) ?_; clear hs; intro w hs; dsimp only [List.set] at hs
  refine e_nil ?_
  refine c_drawJ _ 13 (fun a w => ∃ b5, Fr [] a 65 [(9, .pointer (some ⟨b5, 0, none⟩)), (8, .pointer (some ⟨b4, 0, none⟩)), (6, .pointer (some ⟨b3, 0, none⟩)), (5, .pointer (some ⟨b2, 0, none⟩)), (3, .pointer (some ⟨b1, 0, none⟩))] ∧ St (Base.of w0) [Rd encF 5 fA k.sh.flaps.length k.sh.flaps, Rd encR 2 rA k.sh.rules.length k.sh.rules, Rd encW 6 wA k.ws.length k.ws, OrdD k.ws, BlkIs 1 sidesA ge gz] [(b5, .cells #[.int .i64 (truB (k.ws.getD i default) n0), .int .i64 (truT (k.ws.getD i default) n1), .int .i64 0] 58 (0, 0)), (b4, .cells (encW (k.ws.getD i default)).toArray 47 (0, 0)), (b3, .cells #[.int .i64 0, .int .i64 0, .int .i64 0] 58 (0, 0)), (b2, .cells #[.int .i64 n0, .int .i64 n1, .int .i64 n2] 56 (0, 0)), (b1, .cells #[.int .i64 k.sh.wide, .int .i64 k.sh.high, .slice fA k.sh.flaps.length fc, .slice rA k.sh.rules.length rc, .int .i64 k.gross, .int .i64 k.pay, .int .i64 k.fine, .slice wA k.ws.length wc] 28 (0, 0))] w) Mx rfl hs (fun _ h => h) ?_ ?_
  · intro w hs hS
    refine gA hf hS (i := 0) rfl (by kernel_rfl) (fun w hs => g_fa (off' := 2) hf F47_2 rfl rfl) (by decide) ?_; clear hf a; intro a hf
    refine gA hf hS (i := 1) rfl (by kernel_rfl) (fun w hs => g_ldP hf hs T40 rfl (k := 0) rfl rfl) (by decide) ?_; clear hf a; intro a hf
    refine gA hf hS (i := 2) rfl (by kernel_rfl) (fun w hs => g_ixA hf AR56 rfl rfl (by omega)) (by decide) ?_; clear hf a; intro a hf
    refine gA hf hS (i := 3) rfl (by kernel_rfl) (fun w hs => g_ld hf hs T3 rfl (k := 2) rfl rfl) (by decide) ?_; clear hf a; intro a hf
    refine gA hf hS (i := 5) rfl (by kernel_rfl) (fun w hs => g_fa (off' := 4) hf F47_3 rfl rfl) (by decide) ?_; clear hf a; intro a hf
    refine gA hf hS (i := 6) rfl (by kernel_rfl) (fun w hs => g_ldP hf hs T40 rfl (k := 0) rfl rfl) (by decide) ?_; clear hf a; intro a hf
    refine gA hf hS (i := 7) rfl (by kernel_rfl) (fun w hs => g_ixA hf AR56 rfl rfl (by omega)) (by decide) ?_; clear hf a; intro a hf
    refine gA hf hS (i := 8) rfl (by kernel_rfl) (fun w hs => g_ld hf hs T3 rfl (k := 2) rfl rfl) (by decide) ?_; clear hf a; intro a hf
    refine two (i := 4) (j := 11) (by kernel_rfl) ?_ ?_
    · skip
      refine oCall hf hs rfl (c_Drawn _ _ _ ⟨by omega, by omega, by omega⟩ _) rfl rfl rfl E53 (by decide) (fun _ h => h.sub (.refl _)) ?_; clear hs hf hS a; intro w a hs hS hf
      rw [show drawnZ (k.ws.getD i default).bl (k.ws.getD i default).bh n0 = (truB (k.ws.getD i default) n0) from rfl] at hf
      refine two (i := 9) (j := 11) (by kernel_rfl) ?_ ?_
      · skip
        refine oCall hf hs rfl (c_Drawn _ _ _ ⟨by omega, by omega, by omega⟩ _) rfl rfl rfl E53 (by decide) (fun _ h => h.sub (.refl _)) ?_; clear hs hf hS a; intro w a hs hS hf
        rw [show drawnZ (k.ws.getD i default).tl (k.ws.getD i default).th n1 = (truT (k.ws.getD i default) n1) from rfl] at hf
        refine gA hf hS (i := 10) rfl (by kernel_rfl) (fun w hs => g_bld hf [[.int .i64 0], [.int .i64 0], [.int .i64 0]] (.cons rfl (.cons rfl .nil)) (fun _ => by kernel_rfl)) (by decide) ?_; clear hf a; intro a hf
        refine one (i := 11) (by kernel_rfl) ?_
        refine oV hf rfl (v_alloc hs T58 rfl) (by decide) (fun _ _ ⟨_, _, h⟩ => h.sub (.cons _ (.refl _))) ?_; clear hs hf hS a; rintro _ w ⟨b5, rfl, hs⟩ hS a hf
        refine one (i := 12) (by kernel_rfl) ?_
        refine oU rfl (u_stW hf hs T58 rfl rfl rfl (k := 0) rfl rfl rfl) (fun _ h => h.sub (.cons _ (.refl _))) ?_; clear hs hS; intro w hs hS; dsimp only [List.set] at hs
        refine e_doneJ (by kernel_rfl) ?_
        exact ⟨_, hf.only (.cons rfl (.cons rfl (.cons rfl (.cons rfl (.cons rfl .nil))))), hs⟩
      · skip
        refine oV hf rfl (v_alloc hs T58 rfl) (by decide) (fun _ _ ⟨_, _, h⟩ => h.sub (.cons _ (.refl _))) ?_; clear hs hf hS a; rintro _ w ⟨b5, rfl, hs⟩ hS a hf
        refine one (i := 9) (by kernel_rfl) ?_
        refine oCall hf hs rfl (c_Drawn _ _ _ ⟨by omega, by omega, by omega⟩ _) rfl rfl rfl E53 (by decide) (fun _ h => h.sub (.cons _ (.refl _))) ?_; clear hs hf hS a; intro w a hs hS hf
        rw [show drawnZ (k.ws.getD i default).tl (k.ws.getD i default).th n1 = (truT (k.ws.getD i default) n1) from rfl] at hf
        refine gA hf hS (i := 10) rfl (by kernel_rfl) (fun w hs => g_bld hf [[.int .i64 0], [.int .i64 0], [.int .i64 0]] (.cons rfl (.cons rfl .nil)) (fun _ => by kernel_rfl)) (by decide) ?_; clear hf a; intro a hf
        refine one (i := 12) (by kernel_rfl) ?_
        refine oU rfl (u_stW hf hs T58 rfl rfl rfl (k := 0) rfl rfl rfl) (fun _ h => h.sub (.cons _ (.refl _))) ?_; clear hs hS; intro w hs hS; dsimp only [List.set] at hs
        refine e_doneJ (by kernel_rfl) ?_
        exact ⟨_, hf.only (.cons rfl (.cons rfl (.cons rfl (.cons rfl (.cons rfl .nil))))), hs⟩
    · skip
      refine oV hf rfl (v_alloc hs T58 rfl) (by decide) (fun _ _ ⟨_, _, h⟩ => h.sub (.cons _ (.refl _))) ?_; clear hs hf hS a; rintro _ w ⟨b5, rfl, hs⟩ hS a hf
      refine one (i := 4) (by kernel_rfl) ?_
      refine oCall hf hs rfl (c_Drawn _ _ _ ⟨by omega, by omega, by omega⟩ _) rfl rfl rfl E53 (by decide) (fun _ h => h.sub (.cons _ (.refl _))) ?_; clear hs hf hS a; intro w a hs hS hf
      rw [show drawnZ (k.ws.getD i default).bl (k.ws.getD i default).bh n0 = (truB (k.ws.getD i default) n0) from rfl] at hf
      refine one (i := 9) (by kernel_rfl) ?_
      refine oCall hf hs rfl (c_Drawn _ _ _ ⟨by omega, by omega, by omega⟩ _) rfl rfl rfl E53 (by decide) (fun _ h => h.sub (.cons _ (.refl _))) ?_; clear hs hf hS a; intro w a hs hS hf
      rw [show drawnZ (k.ws.getD i default).tl (k.ws.getD i default).th n1 = (truT (k.ws.getD i default) n1) from rfl] at hf
      refine gA hf hS (i := 10) rfl (by kernel_rfl) (fun w hs => g_bld hf [[.int .i64 0], [.int .i64 0], [.int .i64 0]] (.cons rfl (.cons rfl .nil)) (fun _ => by kernel_rfl)) (by decide) ?_; clear hf a; intro a hf
      refine one (i := 12) (by kernel_rfl) ?_
      refine oU rfl (u_stW hf hs T58 rfl rfl rfl (k := 0) rfl rfl rfl) (fun _ h => h.sub (.cons _ (.refl _))) ?_; clear hs hS; intro w hs hS; dsimp only [List.set] at hs
      refine e_doneJ (by kernel_rfl) ?_
      exact ⟨_, hf.only (.cons rfl (.cons rfl (.cons rfl (.cons rfl (.cons rfl .nil))))), hs⟩
  · clear hs hf a; rintro a w ⟨b5, hf, hs⟩
    refine c_reg ?_
    refine gL hf (g_fa (off' := 0) hf F28_0 rfl rfl) (by decide) ?_; clear hf a; intro a hf
    refine gL hf (g_ldP hf hs T25 rfl (k := 4) rfl rfl) (by decide) ?_; clear hf a; intro a hf
    refine gL hf (g_fa (off' := 1) hf F47_1 rfl rfl) (by decide) ?_; clear hf a; intro a hf
    refine gL hf (g_ld hf hs T31 rfl (k := 1) rfl rfl) (by decide) ?_; clear hf a; intro a hf
    refine callL hf hs (c_Does k.sh _ _ _ _ _ _ (k.ws.getD i default).order ge gz hck _ ⟨hs.rd (.head _), hs.rd (.tail _ (.head _)), h.sh.fc_, h.sh.rc_⟩ ((hs.rd (.tail _ (.tail _ (.tail _ (.head _))))) _ (getD_mem hi)).2 (hs.rd (.tail _ (.tail _ (.tail _ (.tail _ (.head _))))))) rfl rfl rfl E51 (by decide) ?_; clear hs hf a; intro w a hs hf
    rw [does_ok hck hx.ord] at hf
    rw [show 2 - worst k.sh (k.ws.getD i default).order k.sh.rules.length = doesK k (k.ws.getD i default) from by rw [doesK, does_ok hck hx.ord]] at hf
    refine gL hf (g_mv hf rfl) (by decide) ?_; clear hf a; intro a hf
    refine gL hf (g_ext hf rfl rfl) (by decide) ?_; clear hf a; intro a hf
    refine gL hf (g_ext hf rfl rfl) (by decide) ?_; clear hf a; intro a hf
    refine gL hf (g_as hf rfl) (by decide) ?_; clear hf a; intro a hf
    refine gL hf (g_as hf rfl) (by decide) ?_; clear hf a; intro a hf
    refine e_nil ?_
    refine wp_seq ?_
    refine c_reg ?_
    refine gL hf (g_mv hf rfl) (by decide) ?_; clear hf a; intro a hf
    refine gL hf (g_neq hf rfl rfl) (by decide) ?_; clear hf a; intro a hf
    refine gL hf (g_mv hf rfl) (by decide) ?_; clear hf a; intro a hf
    refine ggL hf rfl rfl (gyes_f _) (fun hg => g_fa (off' := 0) hf F58_0 rfl rfl) (by decide) ?_; clear hf a; intro a hf
    refine ggL hf rfl rfl (gyes_f _) (fun hg => g_ld hf hs T3 (ev_gv rfl hg) (k := 0) rfl rfl) (by decide) ?_; clear hf a; intro a hf
    refine ggL hf rfl rfl (gyes_f _) (fun hg => g_fa (off' := 1) hf F58_1 rfl rfl) (by decide) ?_; clear hf a; intro a hf
    refine ggL hf rfl rfl (gyes_f _) (fun hg => g_ld hf hs T3 (ev_gv rfl hg) (k := 0) rfl rfl) (by decide) ?_; clear hf a; intro a hf
    refine ggL hf rfl rfl (gyes_f _) (fun hg => g_addI hf (ev_gv rfl hg) (ev_gv rfl hg) (by omega)) (by decide) ?_; clear hf a; intro a hf
    refine ggL hf rfl rfl (gyes_f _) (fun hg => g_fa (off' := 0) hf F47_0 rfl rfl) (by decide) ?_; clear hf a; intro a hf
    refine ggL hf rfl rfl (gyes_f _) (fun hg => g_ld hf hs T3 (ev_gv rfl hg) (k := 1) rfl rfl) (by decide) ?_; clear hf a; intro a hf
    refine ggL hf rfl rfl (gyes_f _) (fun hg => g_gtr hf (ev_gv rfl hg) (ev_gv rfl hg)) (by decide) ?_; clear hf a; intro a hf
    refine gL hf (g_or hf rfl rfl) (by decide) ?_; clear hf a; intro a hf
    refine e_nil ?_
    refine c_cond hf rfl (fun hc1 => ?_) (fun hc1 => ?_)
    · skip
      have h9 : decide ((k.ws.getD i default).sheets < (truB (k.ws.getD i default) n0) + (truT (k.ws.getD i default) n1)) = true := by simpa using hc1
      have hcan : canB (k.ws.getD i default) n0 n1 = false := decide_eq_false (by have := of_decide_eq_true h9; omega)
      refine c_reg ?_
      refine gL hf (g_ldW hf hs T58 rfl (k := 0) rfl rfl) (by decide) ?_; clear hf a; intro a hf
      refine uL (u_stW hf hs T58 rfl rfl rfl (k := 2) rfl rfl rfl) ?_; clear hs; intro w hs; dsimp only [List.set] at hs
      refine gL hf (g_as hf rfl) (by decide) ?_; clear hf a; intro a hf
      refine e_nil ?_
      refine c_ret (q_thenR ?_)
      refine e_res hf hs rfl (.cellA T58 rfl (k := 2) rfl rfl (.tmp rfl .nil)) rfl ?_
      exact ⟨by rw [pasZ, hcan]; rfl, hs.below⟩
    · skip
      have h9 : decide ((k.ws.getD i default).sheets < (truB (k.ws.getD i default) n0) + (truT (k.ws.getD i default) n1)) = false := by simpa using hc1
      have hcan : canB (k.ws.getD i default) n0 n1 = true := decide_eq_true (by have := of_decide_eq_false h9; omega)
      refine c_skip (q_thenN ?_)
      refine c_reg ?_
      refine gL hf (g_fa (off' := 0) hf F58_0 rfl rfl) (by decide) ?_; clear hf a; intro a hf
      refine gL hf (g_ld hf hs T3 rfl (k := 0) rfl rfl) (by decide) ?_; clear hf a; intro a hf
      refine gL hf (g_fa (off' := 2) hf F58_2 rfl rfl) (by decide) ?_; clear hf a; intro a hf
      refine uL (u_st hf hs T3 rfl rfl rfl (k := 0) rfl (Nat.le_of_ble_eq_true rfl)) ?_; clear hs; intro w hs; dsimp only [List.set] at hs
      refine e_nil ?_
      refine wp_seq ?_
      refine c_reg ?_
      refine gL hf (g_mv hf rfl) (by decide) ?_; clear hf a; intro a hf
      refine gL hf (g_eql hf rfl rfl) (by decide) ?_; clear hf a; intro a hf
      refine e_nil ?_
      refine c_cond hf rfl (fun hc2 => ?_) (fun hc2 => ?_)
      · skip
        have hd0 : doesK k (k.ws.getD i default) = 0 := by simpa using hc2
        refine c_reg1 ?_
        refine gL hf (g_fa (off' := 2) hf F58_2 rfl rfl) (by decide) ?_; clear hf a; intro a hf
        refine uL (u_st hf hs T3 rfl rfl rfl (k := 0) rfl (Nat.le_of_ble_eq_true rfl)) ?_; clear hs; intro w hs; dsimp only [List.set] at hs
        refine e_nil1 (q_thenN ?_)
        refine wp_seq ?_
        refine c_reg ?_
        refine gL hf (g_mv hf rfl) (by decide) ?_; clear hf a; intro a hf
        refine gL hf (g_eql hf rfl rfl) (by decide) ?_; clear hf a; intro a hf
        refine e_nil ?_
        refine c_cond hf rfl (fun hc3 => ?_) (fun hc3 => ?_)
        · skip
          have hd1 : doesK k (k.ws.getD i default) = 1 := by simpa using hc3
          refine c_reg1 ?_
          refine gL hf (g_ixA hf AR56 rfl rfl (by omega)) (by decide) ?_; clear hf a; intro a hf
          refine gL hf (g_ld hf hs T3 rfl (k := 3) rfl rfl) (by decide) ?_; clear hf a; intro a hf
          refine gL hf (g_fa (off' := 0) hf F58_0 rfl rfl) (by decide) ?_; clear hf a; intro a hf
          refine gL hf (g_ld hf hs T3 rfl (k := 0) rfl rfl) (by decide) ?_; clear hf a; intro a hf
          refine gL hf (g_addI hf rfl rfl (by omega)) (by decide) ?_; clear hf a; intro a hf
          refine callL hf hs (c_Spin _ _ (by omega) _) rfl rfl rfl E22 (by decide) ?_; clear hs hf a; intro w a hs hf
          refine gL hf (g_fa (off' := 2) hf F58_2 rfl rfl) (by decide) ?_; clear hf a; intro a hf
          refine uL (u_st hf hs T3 rfl rfl rfl (k := 0) rfl (Nat.le_of_ble_eq_true rfl)) ?_; clear hs; intro w hs; dsimp only [List.set] at hs
          refine e_nil1 (q_thenN ?_)
          refine c_reg ?_
          refine gL hf (g_ldW hf hs T58 rfl (k := 0) rfl rfl) (by decide) ?_; clear hf a; intro a hf
          refine uL (u_stW hf hs T58 rfl rfl rfl (k := 2) rfl rfl rfl) ?_; clear hs; intro w hs; dsimp only [List.set] at hs
          refine gL hf (g_as hf rfl) (by decide) ?_; clear hf a; intro a hf
          refine e_nil ?_
          refine c_ret ?_
          refine e_res hf hs rfl (.cellA T58 rfl (k := 2) rfl rfl (.tmp rfl .nil)) rfl ?_
          refine ⟨?_, hs.below⟩
          rw [pasZ, if_pos hcan, hcan]
          first | (exfalso; omega) | (rw [if_pos hd0]; rfl) | (rw [if_neg hd0, if_pos hd1]; rfl) | (rw [if_neg hd0, if_neg hd1]; rfl)
        · skip
          have hd1 : ¬ doesK k (k.ws.getD i default) = 1 := by simpa using hc3
          refine c_skip (q_thenN ?_)
          refine c_reg ?_
          refine gL hf (g_ldW hf hs T58 rfl (k := 0) rfl rfl) (by decide) ?_; clear hf a; intro a hf
          refine uL (u_stW hf hs T58 rfl rfl rfl (k := 2) rfl rfl rfl) ?_; clear hs; intro w hs; dsimp only [List.set] at hs
          refine gL hf (g_as hf rfl) (by decide) ?_; clear hf a; intro a hf
          refine e_nil ?_
          refine c_ret ?_
          refine e_res hf hs rfl (.cellA T58 rfl (k := 2) rfl rfl (.tmp rfl .nil)) rfl ?_
          refine ⟨?_, hs.below⟩
          rw [pasZ, if_pos hcan, hcan]
          first | (exfalso; omega) | (rw [if_pos hd0]; rfl) | (rw [if_neg hd0, if_pos hd1]; rfl) | (rw [if_neg hd0, if_neg hd1]; rfl)
      · skip
        have hd0 : ¬ doesK k (k.ws.getD i default) = 0 := by simpa using hc2
        refine c_skip (q_thenN ?_)
        refine wp_seq ?_
        refine c_reg ?_
        refine gL hf (g_mv hf rfl) (by decide) ?_; clear hf a; intro a hf
        refine gL hf (g_eql hf rfl rfl) (by decide) ?_; clear hf a; intro a hf
        refine e_nil ?_
        refine c_cond hf rfl (fun hc3 => ?_) (fun hc3 => ?_)
        · skip
          have hd1 : doesK k (k.ws.getD i default) = 1 := by simpa using hc3
          refine c_reg1 ?_
          refine gL hf (g_ixA hf AR56 rfl rfl (by omega)) (by decide) ?_; clear hf a; intro a hf
          refine gL hf (g_ld hf hs T3 rfl (k := 3) rfl rfl) (by decide) ?_; clear hf a; intro a hf
          refine gL hf (g_fa (off' := 0) hf F58_0 rfl rfl) (by decide) ?_; clear hf a; intro a hf
          refine gL hf (g_ld hf hs T3 rfl (k := 0) rfl rfl) (by decide) ?_; clear hf a; intro a hf
          refine gL hf (g_addI hf rfl rfl (by omega)) (by decide) ?_; clear hf a; intro a hf
          refine callL hf hs (c_Spin _ _ (by omega) _) rfl rfl rfl E22 (by decide) ?_; clear hs hf a; intro w a hs hf
          refine gL hf (g_fa (off' := 2) hf F58_2 rfl rfl) (by decide) ?_; clear hf a; intro a hf
          refine uL (u_st hf hs T3 rfl rfl rfl (k := 0) rfl (Nat.le_of_ble_eq_true rfl)) ?_; clear hs; intro w hs; dsimp only [List.set] at hs
          refine e_nil1 (q_thenN ?_)
          refine c_reg ?_
          refine gL hf (g_ldW hf hs T58 rfl (k := 0) rfl rfl) (by decide) ?_; clear hf a; intro a hf
          refine uL (u_stW hf hs T58 rfl rfl rfl (k := 2) rfl rfl rfl) ?_; clear hs; intro w hs; dsimp only [List.set] at hs
          refine gL hf (g_as hf rfl) (by decide) ?_; clear hf a; intro a hf
          refine e_nil ?_
          refine c_ret ?_
          refine e_res hf hs rfl (.cellA T58 rfl (k := 2) rfl rfl (.tmp rfl .nil)) rfl ?_
          refine ⟨?_, hs.below⟩
          rw [pasZ, if_pos hcan, hcan]
          first | (exfalso; omega) | (rw [if_pos hd0]; rfl) | (rw [if_neg hd0, if_pos hd1]; rfl) | (rw [if_neg hd0, if_neg hd1]; rfl)
        · skip
          have hd1 : ¬ doesK k (k.ws.getD i default) = 1 := by simpa using hc3
          refine c_skip (q_thenN ?_)
          refine c_reg ?_
          refine gL hf (g_ldW hf hs T58 rfl (k := 0) rfl rfl) (by decide) ?_; clear hf a; intro a hf
          refine uL (u_stW hf hs T58 rfl rfl rfl (k := 2) rfl rfl rfl) ?_; clear hs; intro w hs; dsimp only [List.set] at hs
          refine gL hf (g_as hf rfl) (by decide) ?_; clear hf a; intro a hf
          refine e_nil ?_
          refine c_ret ?_
          refine e_res hf hs rfl (.cellA T58 rfl (k := 2) rfl rfl (.tmp rfl .nil)) rfl ?_
          refine ⟨?_, hs.below⟩
          rw [pasZ, if_pos hcan, hcan]
          first | (exfalso; omega) | (rw [if_pos hd0]; rfl) | (rw [if_neg hd0, if_pos hd1]; rfl) | (rw [if_neg hd0, if_neg hd1]; rfl)

end Go.Proofs.YtjjcopeedcdokaaDoor

