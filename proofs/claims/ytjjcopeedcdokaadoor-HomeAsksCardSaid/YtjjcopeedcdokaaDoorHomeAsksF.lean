/- Part 6 of the proof of HomeAsks: laws of the engine, plain facts and contracts of the functions that the law reaches. Conditions: none beyond those of each theorem. -/
import Derived.Test.YtjjcopeedcdokaaDoorHomeAsksE
set_option linter.unusedVariables false
set_option linter.unusedSimpArgs false
namespace Go.Proofs.YtjjcopeedcdokaaDoor
open Go.RowKit
theorem c_sheetH (most : Int) (w0 : World) :
    Calls Tryd.prog 98 #[.int .i64 most] w0 (RetX w0 (fun v w0' => ∃ bf br, v = chV bf br ∧ ChIn 5 most bf br w0.heap.size w0')) := by
  refine c_enter (n := 23) Tryd.func98 rfl rfl (Nat.le_of_ble_eq_true rfl) ?_; intro a hf; simp only [zipR] at hf
  have hs := St.start w0 [] (by simp)
  refine c_reg ?_
  refine vL hf (v_alloc hs T25 rfl) (by decide) ?_; clear hs hf a; rintro _ w ⟨b1, rfl, hs⟩ a hf
  refine e_nil ?_
  refine c_reg ?_
  refine gL hf (g_mv hf rfl) (by decide) ?_; clear hf a; intro a hf
  refine callL hf hs (c_Sp _ _ _) rfl rfl rfl E52 (by decide) ?_; clear hs hf a; intro w a hs hf
  refine callL hf hs (c_Sp _ _ _) rfl rfl rfl E52 (by decide) ?_; clear hs hf a; intro w a hs hf
  refine gL hf (g_bld hf [[.int .i64 0], [.int .i64 0, .int .i64 0], [.int .i64 0, .int .i64 0]] (.cons rfl (.cons rfl (.cons rfl .nil))) (fun _ => by kernel_rfl)) (by decide) ?_; clear hf a; intro a hf
  refine callL hf hs (c_Sp _ _ _) rfl rfl rfl E52 (by decide) ?_; clear hs hf a; intro w a hs hf
  refine callL hf hs (c_Sp _ _ _) rfl rfl rfl E52 (by decide) ?_; clear hs hf a; intro w a hs hf
  refine gL hf (g_bld hf [[.int .i64 0], [.int .i64 0, .int .i64 0], [.int .i64 0, .int .i64 0]] (.cons rfl (.cons rfl (.cons rfl .nil))) (fun _ => by kernel_rfl)) (by decide) ?_; clear hf a; intro a hf
  refine callL hf hs (c_Only _ _) rfl rfl rfl E60 (by decide) ?_; clear hs hf a; intro w a hs hf
  refine callL hf hs (c_Sp _ _ _) rfl rfl rfl E52 (by decide) ?_; clear hs hf a; intro w a hs hf
  refine gL hf (g_bld hf [[.int .i64 0], [.int .i64 0, .int .i64 0], [.int .i64 0, .int .i64 0]] (.cons rfl (.cons rfl (.cons rfl .nil))) (fun _ => by kernel_rfl)) (by decide) ?_; clear hf a; intro a hf
  refine callL hf hs (c_Only _ _) rfl rfl rfl E60 (by decide) ?_; clear hs hf a; intro w a hs hf
  refine callL hf hs (c_Sp _ _ _) rfl rfl rfl E52 (by decide) ?_; clear hs hf a; intro w a hs hf
  refine gL hf (g_bld hf [[.int .i64 0], [.int .i64 0, .int .i64 0], [.int .i64 0, .int .i64 0]] (.cons rfl (.cons rfl (.cons rfl .nil))) (fun _ => by kernel_rfl)) (by decide) ?_; clear hf a; intro a hf
  refine vL hf (v_lits (len := 4) hf hs SL22 T117 (.cons rfl (.cons rfl (.cons rfl (.cons rfl .nil)))) rfl rfl rfl rfl (by decide) rfl) (by decide) ?_; clear hs hf a; rintro _ w ⟨b2, rfl, hs⟩ a hf
  refine gL hf (g_bld hf [[.int .i64 0], [.int .i64 0]] (.cons rfl (.cons rfl .nil)) (fun _ => by kernel_rfl)) (by decide) ?_; clear hf a; intro a hf
  refine gL hf (g_bld hf [[.int .i64 0], [.int .i64 0]] (.cons rfl (.cons rfl .nil)) (fun _ => by kernel_rfl)) (by decide) ?_; clear hf a; intro a hf
  refine gL hf (g_bld hf [[.int .i64 0], [.int .i64 0]] (.cons rfl (.cons rfl .nil)) (fun _ => by kernel_rfl)) (by decide) ?_; clear hf a; intro a hf
  refine gL hf (g_bld hf [[.int .i64 0], [.int .i64 0]] (.cons rfl (.cons rfl .nil)) (fun _ => by kernel_rfl)) (by decide) ?_; clear hf a; intro a hf
  refine vL hf (v_lits (len := 4) hf hs SL23 T51 (.cons rfl (.cons rfl (.cons rfl (.cons rfl .nil)))) rfl rfl rfl rfl (by decide) rfl) (by decide) ?_; clear hs hf a; rintro _ w ⟨b3, rfl, hs⟩ a hf
  refine gL hf (g_bld hf [[.int .i64 0], [.int .i64 0], [.slice none 0 0], [.slice none 0 0]] (.cons rfl (.cons rfl (.cons rfl (.cons rfl .nil)))) (fun _ => by kernel_rfl)) (by decide) ?_; clear hf a; intro a hf
  refine uL (u_stW hf hs T25 rfl rfl rfl (k := 2) rfl rfl rfl) ?_; clear hs; intro w hs; dsimp only [List.set] at hs
  refine e_nil ?_
  refine c_ret ?_
  refine e_res hf hs rfl (.cellA T25 rfl (k := 2) rfl rfl .nil) rfl ?_
  exact ⟨_, rfl, hs.below, b2, b3, rfl, (hs.own _ _ (.tail _ (.head _))).1, (hs.own _ _ (.head _)).1, fun e => by have hn := hs.nodup; rw [e] at hn; simp [ids] at hn, (hs.own _ _ (.tail _ (.head _))).2, (hs.own _ _ (.head _)).2⟩

theorem c_bookH (most sheets : Int) (w0 : World) :
    Calls Tryd.prog 57 #[.int .i64 most, .int .i64 sheets] w0 (RetX w0 (fun v w0' => ∃ bf br b1 b2 bw, v = chBV bf br bw ∧ BkC most sheets bf br b1 b2 bw w0.heap.size w0')) := by
  refine c_enter (n := 18) Tryd.func57 rfl rfl (Nat.le_of_ble_eq_true rfl) ?_; intro a hf; simp only [zipR] at hf
  have hs := St.start w0 [] (by simp)
  refine c_reg ?_
  refine vL hf (v_alloc hs T28 rfl) (by decide) ?_; clear hs hf a; rintro _ w ⟨b1, rfl, hs⟩ a hf
  refine e_nil ?_
  refine c_reg ?_
  refine gL hf (g_mv hf rfl) (by decide) ?_; clear hf a; intro a hf
  refine callX hf hs (c_sheetH _ _) rfl rfl rfl E98 (by decide) ?_; intro v w1 a hR hb hs1 hf; obtain ⟨bf, br, rfl, hch⟩ := hR; replace hs := hs.fresh hs1 (chFresh (m := w0.heap.size) hch hs.below.size); clear hs1 hb
  refine vL hf (v_lits (len := 4) hf hs SL31 T3 (.cons rfl (.cons rfl (.cons rfl (.cons rfl .nil)))) rfl rfl rfl rfl (by decide) rfl) (by decide) ?_; clear hs hf a; rintro _ w ⟨b2, rfl, hs⟩ a hf
  refine callL hf hs (c_Sp _ _ _) rfl rfl rfl E52 (by decide) ?_; clear hs hf a; intro w a hs hf
  refine callL hf hs (c_Sp _ _ _) rfl rfl rfl E52 (by decide) ?_; clear hs hf a; intro w a hs hf
  refine gL hf (g_bld hf [[.int .i64 0], [.slice none 0 0], [.int .i64 0, .int .i64 0], [.int .i64 0, .int .i64 0]] (.cons rfl (.cons rfl (.cons rfl (.cons rfl .nil)))) (fun _ => by kernel_rfl)) (by decide) ?_; clear hf a; intro a hf
  refine gL hf (g_mv hf rfl) (by decide) ?_; clear hf a; intro a hf
  refine vL hf (v_lits (len := 4) hf hs SL31 T3 (.cons rfl (.cons rfl (.cons rfl (.cons rfl .nil)))) rfl rfl rfl rfl (by decide) rfl) (by decide) ?_; clear hs hf a; rintro _ w ⟨b3, rfl, hs⟩ a hf
  refine callL hf hs (c_Sp _ _ _) rfl rfl rfl E52 (by decide) ?_; clear hs hf a; intro w a hs hf
  refine callL hf hs (c_Sp _ _ _) rfl rfl rfl E52 (by decide) ?_; clear hs hf a; intro w a hs hf
  refine gL hf (g_bld hf [[.int .i64 0], [.slice none 0 0], [.int .i64 0, .int .i64 0], [.int .i64 0, .int .i64 0]] (.cons rfl (.cons rfl (.cons rfl (.cons rfl .nil)))) (fun _ => by kernel_rfl)) (by decide) ?_; clear hf a; intro a hf
  refine vL hf (v_lits (len := 2) hf hs SL26 T47 (.cons rfl (.cons rfl .nil)) rfl rfl rfl rfl (by decide) rfl) (by decide) ?_; clear hs hf a; rintro _ w ⟨b4, rfl, hs⟩ a hf
  refine gL hf (g_bld hf [[.int .i64 0, .int .i64 0, .slice none 0 0, .slice none 0 0], [.int .i64 0], [.int .i64 0], [.int .i64 0], [.slice none 0 0]] (.cons rfl (.cons rfl (.cons rfl (.cons rfl (.cons rfl .nil))))) (fun _ => by kernel_rfl)) (by decide) ?_; clear hf a; intro a hf
  refine uL (u_stW hf hs T28 rfl rfl rfl (k := 3) rfl rfl rfl) ?_; clear hs; intro w hs; dsimp only [List.set] at hs
  refine e_nil ?_
  refine c_ret ?_
  refine e_res hf hs rfl (.cellA T28 rfl (k := 3) rfl rfl .nil) rfl ?_
  have hst := hs.data _ (.head _)
  have hnf := hst.notin (b := bf) fun w9 h9 => h9.2.2.2.1
  have hnr := hst.notin (b := br) fun w9 h9 => h9.2.2.2.2
  have hnd := hs.nodup
  have hch2 := hs.rd (.head _)
  simp only [ids, List.map_cons, List.map_nil, List.mem_append, List.mem_cons, List.not_mem_nil, or_false, not_or] at hnf hnr hnd
  simp only [List.nodup_cons, List.mem_cons, List.not_mem_nil, or_false, not_or, List.nodup_nil, and_true, not_false_eq_true] at hnd
  exact ⟨_, rfl, hs.below, bf, br, b2, b3, b4, rfl, hch2, (hs.own _ _ (.tail _ (.tail _ (.head _)))).1, (hs.own _ _ (.tail _ (.head _))).1, (hs.own _ _ (.head _)).1, by simp only [List.nodup_cons, List.mem_cons, List.not_mem_nil, or_false, not_or, List.nodup_nil, and_true, not_false_eq_true]; refine ⟨⟨?_, ?_, ?_, ?_⟩, ⟨?_, ?_, ?_⟩, ⟨?_, ?_⟩, hch2.2.2.1⟩ <;> first | exact hnd.1.1 | exact hnd.1.2.1 | exact hnd.2.1.1 | (intro e; subst e; simp_all), (hs.own _ _ (.tail _ (.tail _ (.head _)))).2, (hs.own _ _ (.tail _ (.head _))).2, (hs.own _ _ (.head _)).2⟩

end Go.Proofs.YtjjcopeedcdokaaDoor

set_option linter.unusedVariables false
set_option linter.unusedSimpArgs false
namespace Go.Proofs.YtjjcopeedcdokaaDoor
open Go.RowKit
theorem c_ownH (w0 : World) :
    Calls Tryd.prog 56 #[] w0 (RetX w0 (fun v w0' => ∃ bf br b1 b2 bw, v = chBV bf br bw ∧ BkC 5 150 bf br b1 b2 bw w0.heap.size w0')) := by
  refine c_enter (n := 2) Tryd.func56 rfl rfl (Nat.le_of_ble_eq_true rfl) ?_; intro a hf; simp only [zipR] at hf
  have hs := St.start w0 [] (by simp)
  refine c_reg ?_
  refine vL hf (v_alloc hs T28 rfl) (by decide) ?_; clear hs hf a; rintro _ w ⟨b1, rfl, hs⟩ a hf
  refine e_nil ?_
  refine c_reg ?_
  refine callX hf hs (c_bookH _ _ _) rfl rfl rfl E57 (by decide) ?_; intro v w1 a hR hb hs1 hf; obtain ⟨bf, br, p, q, bw, rfl, hbc⟩ := hR; replace hs := hs.fresh hs1 (bkCFresh (m := w0.heap.size) hbc hs.below.size); clear hs1 hb
  refine uL (u_stW hf hs T28 rfl rfl rfl (k := 0) rfl rfl rfl) ?_; clear hs; intro w hs; dsimp only [List.set] at hs
  refine e_nil ?_
  refine c_ret ?_
  refine e_res hf hs rfl (.cellA T28 rfl (k := 0) rfl rfl .nil) rfl ?_
  exact ⟨_, rfl, hs.below, bf, br, p, q, bw, rfl, hs.rd (.head _)⟩

theorem c_wrongBH (w0 : World) :
    Calls Tryd.prog 58 #[] w0 (RetX w0 (fun v w0' => ∃ bf br b1 b2 bw, v = chBV bf br bw ∧ BkC 5 139 bf br b1 b2 bw w0.heap.size w0')) := by
  refine c_enter (n := 2) Tryd.func58 rfl rfl (Nat.le_of_ble_eq_true rfl) ?_; intro a hf; simp only [zipR] at hf
  have hs := St.start w0 [] (by simp)
  refine c_reg ?_
  refine vL hf (v_alloc hs T28 rfl) (by decide) ?_; clear hs hf a; rintro _ w ⟨b1, rfl, hs⟩ a hf
  refine e_nil ?_
  refine c_reg ?_
  refine callX hf hs (c_bookH _ _ _) rfl rfl rfl E57 (by decide) ?_; intro v w1 a hR hb hs1 hf; obtain ⟨bf, br, p, q, bw, rfl, hbc⟩ := hR; replace hs := hs.fresh hs1 (bkCFresh (m := w0.heap.size) hbc hs.below.size); clear hs1 hb
  refine uL (u_stW hf hs T28 rfl rfl rfl (k := 0) rfl rfl rfl) ?_; clear hs; intro w hs; dsimp only [List.set] at hs
  refine e_nil ?_
  refine c_ret ?_
  refine e_res hf hs rfl (.cellA T28 rfl (k := 0) rfl rfl .nil) rfl ?_
  exact ⟨_, rfl, hs.below, bf, br, p, q, bw, rfl, hs.rd (.head _)⟩

set_option maxHeartbeats 1000000 in
theorem c_paid (ge : TypeId) (gz : Nat × Nat) (te : TypeId) (tz : Nat × Nat) (w0 : World) (hG : BlkIs 1 sidesA ge gz w0) (hT : BlkIs 0 toldA te tz w0) :
    Calls Tryd.prog 40 #[] w0 (Ret w0 (.bool true)) := by
  refine c_enter (n := 133) Tryd.func40 rfl rfl (Nat.le_of_ble_eq_true rfl) ?_; intro a hf; simp only [zipR] at hf
  have hs := St.start w0 [BlkIs 1 sidesA ge gz, BlkIs 0 toldA te tz] (stab_app hG.st1 hT.st1)
  refine c_reg ?_
  refine gL hf (g_as hf rfl) (by decide) ?_; clear hf a; intro a hf
  refine e_nil ?_
  refine c_reg ?_
  refine callX hf hs (c_ownH _) rfl rfl rfl E56 (by decide) ?_; intro v w1 a hR hb hs1 hf; obtain ⟨bf1, br1, p1, q1, bw1, rfl, hbc⟩ := hR; replace hs := hs.fresh hs1 (bkCFresh (m := w0.heap.size) hbc hs.below.size); clear hs1 hb
  have h9 := c_PassesH (chK 5 150 p1 q1) (some ⟨bf1, 0, none⟩) 4 (some ⟨br1, 0, none⟩) 4 (some ⟨bw1, 0, none⟩) 2 ge gz 0 _ (hs.rd (.head _)).bk (hs.rd (.tail _ (.head _))) te tz (hs.rd (.tail _ (.tail _ (.head _))))
  rw [show tellP (chK 5 150 p1 q1) 0 0 = ((288, 290), 0) from k_passes _ _] at h9; dsimp only at h9
  refine callL hf hs (h9) rfl rfl rfl E23 (by decide) ?_; clear hs hf a; intro w a hs hf
  refine gL hf (g_mv hf rfl) (by decide) ?_; clear hf a; intro a hf
  refine gL hf (g_ext hf rfl rfl) (by decide) ?_; clear hf a; intro a hf
  refine gL hf (g_ext hf rfl rfl) (by decide) ?_; clear hf a; intro a hf
  refine vL hf (v_alloc hs T40 rfl) (by decide) ?_; clear hs hf a; rintro _ w ⟨b1, rfl, hs⟩ a hf
  refine uL (u_stW hf hs T40 rfl rfl rfl (k := 0) rfl rfl rfl) ?_; clear hs; intro w hs; dsimp only [List.set] at hs
  refine gL hf (g_as hf rfl) (by decide) ?_; clear hf a; intro a hf
  refine e_nil ?_
  refine c_reg ?_
  refine callX hf hs (c_ownH _) rfl rfl rfl E56 (by decide) ?_; intro v w1 a hR hb hs1 hf; obtain ⟨bf2, br2, p2, q2, bw2, rfl, hbc⟩ := hR; replace hs := hs.fresh hs1 (bkCFresh (m := w0.heap.size) hbc hs.below.size); clear hs1 hb
  have h9 := c_MissingH (chK 5 150 p2 q2) (some ⟨bf2, 0, none⟩) 4 (some ⟨br2, 0, none⟩) 4 (some ⟨bw2, 0, none⟩) 2 ge gz 1 _ (hs.rd (.head _)).bk (hs.rd (.tail _ (.tail _ (.head _)))) te tz (hs.rd (.tail _ (.tail _ (.tail _ (.head _)))))
  rw [show tellP (chK 5 150 p2 q2) 1 1 = ((3, 10), 0) from k_missing _ _] at h9; dsimp only at h9
  refine callL hf hs (h9) rfl rfl rfl E36 (by decide) ?_; clear hs hf a; intro w a hs hf
  refine gL hf (g_mv hf rfl) (by decide) ?_; clear hf a; intro a hf
  refine gL hf (g_ext hf rfl rfl) (by decide) ?_; clear hf a; intro a hf
  refine gL hf (g_ext hf rfl rfl) (by decide) ?_; clear hf a; intro a hf
  refine vL hf (v_alloc hs T40 rfl) (by decide) ?_; clear hs hf a; rintro _ w ⟨b2, rfl, hs⟩ a hf
  refine uL (u_stW hf hs T40 rfl rfl rfl (k := 0) rfl rfl rfl) ?_; clear hs; intro w hs; dsimp only [List.set] at hs
  refine gL hf (g_as hf rfl) (by decide) ?_; clear hf a; intro a hf
  refine e_nil ?_
  refine c_reg ?_
  refine callX hf hs (c_ownH _) rfl rfl rfl E56 (by decide) ?_; intro v w1 a hR hb hs1 hf; obtain ⟨bf3, br3, p3, q3, bw3, rfl, hbc⟩ := hR; replace hs := hs.fresh hs1 (bkCFresh (m := w0.heap.size) hbc hs.below.size); clear hs1 hb
  have h9 := c_GetsH (chK 5 150 p3 q3) (some ⟨bf3, 0, none⟩) 4 (some ⟨br3, 0, none⟩) 4 (some ⟨bw3, 0, none⟩) 2 ge gz 0 _ (hs.rd (.head _)).bk (hs.rd (.tail _ (.tail _ (.tail _ (.head _))))) te tz (hs.rd (.tail _ (.tail _ (.tail _ (.tail _ (.head _))))))
  rw [show tellP (chK 5 150 p3 q3) 0 2 = ((104, 112), 0) from k_gets _ _] at h9; dsimp only at h9
  refine callL hf hs (h9) rfl rfl rfl E38 (by decide) ?_; clear hs hf a; intro w a hs hf
  refine gL hf (g_mv hf rfl) (by decide) ?_; clear hf a; intro a hf
  refine gL hf (g_ext hf rfl rfl) (by decide) ?_; clear hf a; intro a hf
  refine gL hf (g_ext hf rfl rfl) (by decide) ?_; clear hf a; intro a hf
  refine vL hf (v_alloc hs T40 rfl) (by decide) ?_; clear hs hf a; rintro _ w ⟨b3, rfl, hs⟩ a hf
  refine uL (u_stW hf hs T40 rfl rfl rfl (k := 0) rfl rfl rfl) ?_; clear hs; intro w hs; dsimp only [List.set] at hs
  refine gL hf (g_as hf rfl) (by decide) ?_; clear hf a; intro a hf
  refine e_nil ?_
  refine c_reg ?_
  refine callX hf hs (c_ownH _) rfl rfl rfl E56 (by decide) ?_; intro v w1 a hR hb hs1 hf; obtain ⟨bf4, br4, p4, q4, bw4, rfl, hbc⟩ := hR; replace hs := hs.fresh hs1 (bkCFresh (m := w0.heap.size) hbc hs.below.size); clear hs1 hb
  have h9 := c_TotalH (chK 5 150 p4 q4) (some ⟨bf4, 0, none⟩) 4 (some ⟨br4, 0, none⟩) 4 (some ⟨bw4, 0, none⟩) 2 ge gz  _ (hs.rd (.head _)).bk (hs.rd (.tail _ (.tail _ (.tail _ (.tail _ (.head _)))))) te tz (hs.rd (.tail _ (.tail _ (.tail _ (.tail _ (.tail _ (.head _)))))))
  rw [show totalP (chK 5 150 p4 q4) = ((84, 106), 0) from k_total _ _] at h9; dsimp only at h9
  refine callL hf hs (h9) rfl rfl rfl E27 (by decide) ?_; clear hs hf a; intro w a hs hf
  refine gL hf (g_mv hf rfl) (by decide) ?_; clear hf a; intro a hf
  refine gL hf (g_ext hf rfl rfl) (by decide) ?_; clear hf a; intro a hf
  refine gL hf (g_ext hf rfl rfl) (by decide) ?_; clear hf a; intro a hf
  refine vL hf (v_alloc hs T40 rfl) (by decide) ?_; clear hs hf a; rintro _ w ⟨b4, rfl, hs⟩ a hf
  refine uL (u_stW hf hs T40 rfl rfl rfl (k := 0) rfl rfl rfl) ?_; clear hs; intro w hs; dsimp only [List.set] at hs
  refine gL hf (g_as hf rfl) (by decide) ?_; clear hf a; intro a hf
  refine e_nil ?_
  refine c_reg ?_
  refine callX hf hs (c_ownH _) rfl rfl rfl E56 (by decide) ?_; intro v w1 a hR hb hs1 hf; obtain ⟨bf5, br5, p5, q5, bw5, rfl, hbc⟩ := hR; replace hs := hs.fresh hs1 (bkCFresh (m := w0.heap.size) hbc hs.below.size); clear hs1 hb
  have h9 := c_GrossesH (chK 5 150 p5 q5) (some ⟨bf5, 0, none⟩) 4 (some ⟨br5, 0, none⟩) 4 (some ⟨bw5, 0, none⟩) 2 ge gz  _ (hs.rd (.head _)).bk (hs.rd (.tail _ (.tail _ (.tail _ (.tail _ (.tail _ (.head _))))))) te tz (hs.rd (.tail _ (.tail _ (.tail _ (.tail _ (.tail _ (.tail _ (.head _))))))))
  rw [show grossP (chK 5 150 p5 q5) = ((2, 2), 0) from k_gross _ _] at h9; dsimp only at h9
  refine callL hf hs (h9) rfl rfl rfl E25 (by decide) ?_; clear hs hf a; intro w a hs hf
  refine gL hf (g_mv hf rfl) (by decide) ?_; clear hf a; intro a hf
  refine gL hf (g_ext hf rfl rfl) (by decide) ?_; clear hf a; intro a hf
  refine gL hf (g_ext hf rfl rfl) (by decide) ?_; clear hf a; intro a hf
  refine vL hf (v_alloc hs T40 rfl) (by decide) ?_; clear hs hf a; rintro _ w ⟨b5, rfl, hs⟩ a hf
  refine uL (u_stW hf hs T40 rfl rfl rfl (k := 0) rfl rfl rfl) ?_; clear hs; intro w hs; dsimp only [List.set] at hs
  refine gL hf (g_as hf rfl) (by decide) ?_; clear hf a; intro a hf
  refine e_nil ?_
  refine wp_seq ?_
  refine c_draw _ 43 Mx rfl hs (fun _ h => h) ?_; intro w hs hS
  refine gA hf hS (i := 0) rfl (by kernel_rfl) (fun w hs => g_mv hf rfl) (by decide) ?_; clear hf a; intro a hf
  refine gA hf hS (i := 1) rfl (by kernel_rfl) (fun w hs => g_neq hf rfl rfl) (by decide) ?_; clear hf a; intro a hf; replace hf := hf.setV (v' := .bool false) rfl
  refine gA hf hS (i := 2) rfl (by kernel_rfl) (fun w hs => g_mv hf rfl) (by decide) ?_; clear hf a; intro a hf
  refine ggA (G := true) hf hS (i := 3) rfl (by kernel_rfl) rfl rfl rfl (fun _ w hs => g_mv hf rfl) (by decide) ?_; clear hf a; intro a hf
  refine ggA (G := true) hf hS (i := 4) rfl (by kernel_rfl) rfl rfl rfl (fun _ w hs => g_neq hf rfl rfl) (by decide) ?_; clear hf a; intro a hf; replace hf := hf.setV (v' := .bool false) rfl
  refine gA hf hS (i := 5) rfl (by kernel_rfl) (fun w hs => g_pick hf rfl rfl rfl) (by decide) ?_; clear hf a; intro a hf; replace hf := hf.setV (v' := .bool false) rfl
  refine gA hf hS (i := 6) rfl (by kernel_rfl) (fun w hs => g_mv hf rfl) (by decide) ?_; clear hf a; intro a hf
  refine ggA (G := true) hf hS (i := 7) rfl (by kernel_rfl) rfl rfl rfl (fun _ w hs => g_mv hf rfl) (by decide) ?_; clear hf a; intro a hf
  refine ggA (G := true) hf hS (i := 8) rfl (by kernel_rfl) rfl rfl rfl (fun _ w hs => g_neq hf rfl rfl) (by decide) ?_; clear hf a; intro a hf; replace hf := hf.setV (v' := .bool false) rfl
  refine gA hf hS (i := 9) rfl (by kernel_rfl) (fun w hs => g_pick hf rfl rfl rfl) (by decide) ?_; clear hf a; intro a hf; replace hf := hf.setV (v' := .bool false) rfl
  refine gA hf hS (i := 10) rfl (by kernel_rfl) (fun w hs => g_mv hf rfl) (by decide) ?_; clear hf a; intro a hf
  refine ggA (G := true) hf hS (i := 11) rfl (by kernel_rfl) rfl rfl rfl (fun _ w hs => g_mv hf rfl) (by decide) ?_; clear hf a; intro a hf
  refine ggA (G := true) hf hS (i := 12) rfl (by kernel_rfl) rfl rfl rfl (fun _ w hs => g_neq hf rfl rfl) (by decide) ?_; clear hf a; intro a hf; replace hf := hf.setV (v' := .bool false) rfl
  refine gA hf hS (i := 13) rfl (by kernel_rfl) (fun w hs => g_pick hf rfl rfl rfl) (by decide) ?_; clear hf a; intro a hf; replace hf := hf.setV (v' := .bool false) rfl
  refine gA hf hS (i := 14) rfl (by kernel_rfl) (fun w hs => g_mv hf rfl) (by decide) ?_; clear hf a; intro a hf
  refine ggA (G := true) hf hS (i := 15) rfl (by kernel_rfl) rfl rfl rfl (fun _ w hs => g_mv hf rfl) (by decide) ?_; clear hf a; intro a hf
  refine ggA (G := true) hf hS (i := 16) rfl (by kernel_rfl) rfl rfl rfl (fun _ w hs => g_neq hf rfl rfl) (by decide) ?_; clear hf a; intro a hf; replace hf := hf.setV (v' := .bool false) rfl
  refine gA hf hS (i := 17) rfl (by kernel_rfl) (fun w hs => g_pick hf rfl rfl rfl) (by decide) ?_; clear hf a; intro a hf; replace hf := hf.setV (v' := .bool false) rfl
  refine gA hf hS (i := 18) rfl (by kernel_rfl) (fun w hs => g_mv hf rfl) (by decide) ?_; clear hf a; intro a hf
  refine ggA (G := true) hf hS (i := 19) rfl (by kernel_rfl) rfl rfl rfl (fun _ w hs => g_ldW hf hs T40 rfl (k := 4) rfl rfl) (by decide) ?_; clear hf a; intro a hf
  refine one (i := 20) (by kernel_rfl) ?_
  refine oCallG hf hs rfl rfl rfl (G := true) rfl (fun hg => ⟨_, _, _, _, c_Sp _ _ _, rfl, evs_cons rfl (evs_cons rfl evs_nil), rfl⟩) E52 (by decide) (fun _ h => h.sub (.refl _)) ?_; clear hs hf hS a; intro w a hs hS hf
  refine ggA (G := true) hf hS (i := 21) rfl (by kernel_rfl) rfl rfl rfl (fun _ w hs => g_neS hf Q40 rfl rfl) (by decide) ?_; clear hf a; intro a hf; replace hf := hf.setV (v' := .bool false) rfl
  refine gA hf hS (i := 22) rfl (by kernel_rfl) (fun w hs => g_pick hf rfl rfl rfl) (by decide) ?_; clear hf a; intro a hf; replace hf := hf.setV (v' := .bool false) rfl
  refine gA hf hS (i := 23) rfl (by kernel_rfl) (fun w hs => g_mv hf rfl) (by decide) ?_; clear hf a; intro a hf
  refine ggA (G := true) hf hS (i := 24) rfl (by kernel_rfl) rfl rfl rfl (fun _ w hs => g_ldW hf hs T40 rfl (k := 3) rfl rfl) (by decide) ?_; clear hf a; intro a hf
  refine one (i := 25) (by kernel_rfl) ?_
  refine oCallG hf hs rfl rfl rfl (G := true) rfl (fun hg => ⟨_, _, _, _, c_Sp _ _ _, rfl, evs_cons rfl (evs_cons rfl evs_nil), rfl⟩) E52 (by decide) (fun _ h => h.sub (.refl _)) ?_; clear hs hf hS a; intro w a hs hS hf
  refine ggA (G := true) hf hS (i := 26) rfl (by kernel_rfl) rfl rfl rfl (fun _ w hs => g_neS hf Q40 rfl rfl) (by decide) ?_; clear hf a; intro a hf; replace hf := hf.setV (v' := .bool false) rfl
  refine gA hf hS (i := 27) rfl (by kernel_rfl) (fun w hs => g_pick hf rfl rfl rfl) (by decide) ?_; clear hf a; intro a hf; replace hf := hf.setV (v' := .bool false) rfl
  refine gA hf hS (i := 28) rfl (by kernel_rfl) (fun w hs => g_mv hf rfl) (by decide) ?_; clear hf a; intro a hf
  refine ggA (G := true) hf hS (i := 29) rfl (by kernel_rfl) rfl rfl rfl (fun _ w hs => g_ldW hf hs T40 rfl (k := 2) rfl rfl) (by decide) ?_; clear hf a; intro a hf
  refine one (i := 30) (by kernel_rfl) ?_
  refine oCallG hf hs rfl rfl rfl (G := true) rfl (fun hg => ⟨_, _, _, _, c_Sp _ _ _, rfl, evs_cons rfl (evs_cons rfl evs_nil), rfl⟩) E52 (by decide) (fun _ h => h.sub (.refl _)) ?_; clear hs hf hS a; intro w a hs hS hf
  refine ggA (G := true) hf hS (i := 31) rfl (by kernel_rfl) rfl rfl rfl (fun _ w hs => g_neS hf Q40 rfl rfl) (by decide) ?_; clear hf a; intro a hf; replace hf := hf.setV (v' := .bool false) rfl
  refine gA hf hS (i := 32) rfl (by kernel_rfl) (fun w hs => g_pick hf rfl rfl rfl) (by decide) ?_; clear hf a; intro a hf; replace hf := hf.setV (v' := .bool false) rfl
  refine gA hf hS (i := 33) rfl (by kernel_rfl) (fun w hs => g_mv hf rfl) (by decide) ?_; clear hf a; intro a hf
  refine ggA (G := true) hf hS (i := 34) rfl (by kernel_rfl) rfl rfl rfl (fun _ w hs => g_ldW hf hs T40 rfl (k := 1) rfl rfl) (by decide) ?_; clear hf a; intro a hf
  refine one (i := 35) (by kernel_rfl) ?_
  refine oCallG hf hs rfl rfl rfl (G := true) rfl (fun hg => ⟨_, _, _, _, c_Sp _ _ _, rfl, evs_cons rfl (evs_cons rfl evs_nil), rfl⟩) E52 (by decide) (fun _ h => h.sub (.refl _)) ?_; clear hs hf hS a; intro w a hs hS hf
  refine ggA (G := true) hf hS (i := 36) rfl (by kernel_rfl) rfl rfl rfl (fun _ w hs => g_neS hf Q40 rfl rfl) (by decide) ?_; clear hf a; intro a hf; replace hf := hf.setV (v' := .bool false) rfl
  refine gA hf hS (i := 37) rfl (by kernel_rfl) (fun w hs => g_pick hf rfl rfl rfl) (by decide) ?_; clear hf a; intro a hf; replace hf := hf.setV (v' := .bool false) rfl
  refine gA hf hS (i := 38) rfl (by kernel_rfl) (fun w hs => g_mv hf rfl) (by decide) ?_; clear hf a; intro a hf
  refine ggA (G := true) hf hS (i := 39) rfl (by kernel_rfl) rfl rfl rfl (fun _ w hs => g_ldW hf hs T40 rfl (k := 0) rfl rfl) (by decide) ?_; clear hf a; intro a hf
  refine one (i := 40) (by kernel_rfl) ?_
  refine oCallG hf hs rfl rfl rfl (G := true) rfl (fun hg => ⟨_, _, _, _, c_Only _ _, rfl, evs_cons rfl evs_nil, rfl⟩) E60 (by decide) (fun _ h => h.sub (.refl _)) ?_; clear hs hf hS a; intro w a hs hS hf
  refine ggA (G := true) hf hS (i := 41) rfl (by kernel_rfl) rfl rfl rfl (fun _ w hs => g_neS hf Q40 rfl rfl) (by decide) ?_; clear hf a; intro a hf; replace hf := hf.setV (v' := .bool false) rfl
  refine gA hf hS (i := 42) rfl (by kernel_rfl) (fun w hs => g_pick hf rfl rfl rfl) (by decide) ?_; clear hf a; intro a hf; replace hf := hf.setV (v' := .bool false) rfl
  refine e_done (by kernel_rfl) ?_
  refine c_cond hf rfl (fun hc1 => ?_) (fun hc1 => ?_)
  · skip
    cases hc1
  · skip
    refine c_skip (q_thenN ?_)
    refine c_reg ?_
    refine callX hf hs (c_wrongBH _) rfl rfl rfl E58 (by decide) ?_; intro v w1 a hR hb hs1 hf; obtain ⟨bf9, br9, p9, q9, bw9, rfl, hbc⟩ := hR; replace hs := hs.fresh hs1 (bkCFresh (m := w0.heap.size) hbc hs.below.size); clear hs1 hb
    refine callX hf hs (c_WrongH (chK 5 139 p9 q9) (some ⟨bf9, 0, none⟩) 4 (some ⟨br9, 0, none⟩) 4 (some ⟨bw9, 0, none⟩) 2 ge gz _ (hs.rd (.head _)).bk (hs.rd (.tail _ (.tail _ (.tail _ (.tail _ (.tail _ (.tail _ (.head _))))))))) rfl rfl rfl E20 (by decide) ?_; intro v w1 a hR hb hs1 hf; obtain ⟨A9, c9, rfl, hou⟩ := hR; rw [show wrongP (chK 5 139 p9 q9) = ([1], 0) from k_wrong _ _] at hou hf; replace hs := hs.fresh hs1 (outFresh hou); clear hs1 hb
    refine gL hf (g_mv hf rfl) (by decide) ?_; clear hf a; intro a hf
    refine gL hf (g_ext hf rfl rfl) (by decide) ?_; clear hf a; intro a hf
    refine gL hf (g_ext hf rfl rfl) (by decide) ?_; clear hf a; intro a hf
    refine gL hf (g_as hf rfl) (by decide) ?_; clear hf a; intro a hf
    refine gL hf (g_as hf rfl) (by decide) ?_; clear hf a; intro a hf
    refine e_nil ?_
    refine c_reg ?_
    refine callX hf hs (c_ownH _) rfl rfl rfl E56 (by decide) ?_; intro v w1 a hR hb hs1 hf; obtain ⟨bf6, br6, p6, q6, bw6, rfl, hbc⟩ := hR; replace hs := hs.fresh hs1 (bkCFresh (m := w0.heap.size) hbc hs.below.size); clear hs1 hb
    have h9 := c_RightH (chK 5 150 p6 q6) (some ⟨bf6, 0, none⟩) 4 (some ⟨br6, 0, none⟩) 4 (some ⟨bw6, 0, none⟩) 2 ge gz 1 _ (hs.rd (.head _)).bk (hs.rd (.tail _ (.tail _ (.tail _ (.tail _ (.tail _ (.tail _ (.tail _ (.tail _ (.head _))))))))))
    rw [show rightP (chK 5 150 p6 q6) 1 = (true, 0) from k_right _ _] at h9; dsimp only at h9
    refine callL hf hs (h9) rfl rfl rfl E31 (by decide) ?_; clear hs hf a; intro w a hs hf
    refine gL hf (g_mv hf rfl) (by decide) ?_; clear hf a; intro a hf
    refine gL hf (g_ext hf rfl rfl) (by decide) ?_; clear hf a; intro a hf
    refine gL hf (g_ext hf rfl rfl) (by decide) ?_; clear hf a; intro a hf
    refine gL hf (g_as hf rfl) (by decide) ?_; clear hf a; intro a hf
    refine gL hf (g_as hf rfl) (by decide) ?_; clear hf a; intro a hf
    refine e_nil ?_
    refine c_reg ?_
    refine callX hf hs (c_ownH _) rfl rfl rfl E56 (by decide) ?_; intro v w1 a hR hb hs1 hf; obtain ⟨bf7, br7, p7, q7, bw7, rfl, hbc⟩ := hR; replace hs := hs.fresh hs1 (bkCFresh (m := w0.heap.size) hbc hs.below.size); clear hs1 hb
    have h9 := c_TeachH (chK 5 150 p7 q7) (some ⟨bf7, 0, none⟩) 4 (some ⟨br7, 0, none⟩) 4 (some ⟨bw7, 0, none⟩) 2 ge gz  _ (hs.rd (.head _)).bk (hs.rd (.tail _ (.tail _ (.tail _ (.tail _ (.tail _ (.tail _ (.tail _ (.tail _ (.tail _ (.head _))))))))))) te tz (hs.rd (.tail _ (.tail _ (.tail _ (.tail _ (.tail _ (.tail _ (.tail _ (.tail _ (.tail _ (.tail _ (.head _))))))))))))
    rw [show teachP (chK 5 150 p7 q7) = (1, 0) from k_teach _ _] at h9; dsimp only at h9
    refine callL hf hs (h9) rfl rfl rfl E21 (by decide) ?_; clear hs hf a; intro w a hs hf
    refine gL hf (g_mv hf rfl) (by decide) ?_; clear hf a; intro a hf
    refine gL hf (g_ext hf rfl rfl) (by decide) ?_; clear hf a; intro a hf
    refine gL hf (g_ext hf rfl rfl) (by decide) ?_; clear hf a; intro a hf
    refine gL hf (g_as hf rfl) (by decide) ?_; clear hf a; intro a hf
    refine gL hf (g_as hf rfl) (by decide) ?_; clear hf a; intro a hf
    refine e_nil ?_
    refine c_reg ?_
    refine callX hf hs (c_ownH _) rfl rfl rfl E56 (by decide) ?_; intro v w1 a hR hb hs1 hf; obtain ⟨bf8, br8, p8, q8, bw8, rfl, hbc⟩ := hR; replace hs := hs.fresh hs1 (bkCFresh (m := w0.heap.size) hbc hs.below.size); clear hs1 hb
    have h9 := c_AskH (chK 5 150 p8 q8) (some ⟨bf8, 0, none⟩) 4 (some ⟨br8, 0, none⟩) 4 (some ⟨bw8, 0, none⟩) 2 ge gz  _ (hs.rd (.head _)).bk (hs.rd (.tail _ (.tail _ (.tail _ (.tail _ (.tail _ (.tail _ (.tail _ (.tail _ (.tail _ (.tail _ (.head _)))))))))))) te tz (hs.rd (.tail _ (.tail _ (.tail _ (.tail _ (.tail _ (.tail _ (.tail _ (.tail _ (.tail _ (.tail _ (.tail _ (.head _)))))))))))))
    rw [show askP (chK 5 150 p8 q8) = (1, 0) from k_ask _ _] at h9; dsimp only at h9
    refine callL hf hs (h9) rfl rfl rfl E46 (by decide) ?_; clear hs hf a; intro w a hs hf
    refine gL hf (g_mv hf rfl) (by decide) ?_; clear hf a; intro a hf
    refine gL hf (g_ext hf rfl rfl) (by decide) ?_; clear hf a; intro a hf
    refine gL hf (g_ext hf rfl rfl) (by decide) ?_; clear hf a; intro a hf
    refine gL hf (g_as hf rfl) (by decide) ?_; clear hf a; intro a hf
    refine gL hf (g_as hf rfl) (by decide) ?_; clear hf a; intro a hf
    refine e_nil ?_
    refine c_reg ?_
    refine gL hf (g_mv hf rfl) (by decide) ?_; clear hf a; intro a hf
    refine gL hf (g_eql hf rfl rfl) (by decide) ?_; clear hf a; intro a hf
    refine gL hf (g_mv hf rfl) (by decide) ?_; clear hf a; intro a hf
    refine gKnown hf rfl rfl rfl ?_
    refine gL hf (g_mv hf rfl) (by decide) ?_; clear hf a; intro a hf
    refine gKnown hf rfl rfl rfl ?_
    refine gL hf (g_eql hf rfl rfl) (by decide) ?_; clear hf a; intro a hf
    refine gL hf (g_pick hf rfl rfl rfl) (by decide) ?_; clear hf a; intro a hf
    refine gL hf (g_mv hf rfl) (by decide) ?_; clear hf a; intro a hf
    refine gKnown hf rfl rfl rfl ?_
    refine gL hf (g_mv hf rfl) (by decide) ?_; clear hf a; intro a hf
    refine gKnown hf rfl rfl rfl ?_
    refine gL hf (g_eql hf rfl rfl) (by decide) ?_; clear hf a; intro a hf
    refine gL hf (g_pick hf rfl rfl rfl) (by decide) ?_; clear hf a; intro a hf
    refine gL hf (g_mv hf rfl) (by decide) ?_; clear hf a; intro a hf
    refine gKnown hf rfl rfl rfl ?_
    refine gL hf (g_mv hf rfl) (by decide) ?_; clear hf a; intro a hf
    refine gKnown hf rfl rfl rfl ?_
    refine gL hf (g_eql hf rfl rfl) (by decide) ?_; clear hf a; intro a hf
    refine gL hf (g_pick hf rfl rfl rfl) (by decide) ?_; clear hf a; intro a hf
    refine gL hf (g_mv hf rfl) (by decide) ?_; clear hf a; intro a hf
    refine gKnown hf rfl rfl rfl ?_
    refine gL hf (g_mv hf rfl) (by decide) ?_; clear hf a; intro a hf
    refine gKnown hf rfl rfl rfl ?_
    refine vL hf (v_lits (len := 1) hf hs SL31 T3 (.cons rfl .nil) rfl rfl rfl rfl (by decide) rfl) (by decide) ?_; clear hs hf a; rintro _ w ⟨b6, rfl, hs⟩ a hf
    refine gKnown hf rfl rfl rfl ?_
    refine callL hf hs (c_Alike _ _ [1] _ _ [1] _ (hs.rd (.tail _ (.tail _ (.tail _ (.head _))))) (show Rd encI 1 (some ⟨b6, 0, none⟩) 1 [1] w from rd_of_flat (sz := 1) (fun _ => rfl) (by decide) (hs.own _ _ (.head _)).2 rfl (by decide) rfl)) rfl rfl rfl E44 (by decide) ?_; clear hs hf a; intro w a hs hf
    refine gL hf (g_pick hf rfl rfl rfl) (by decide) ?_; clear hf a; intro a hf
    refine gL hf (g_mv hf rfl) (by decide) ?_; clear hf a; intro a hf
    refine gKnown hf rfl rfl rfl ?_
    refine gL hf (g_mv hf rfl) (by decide) ?_; clear hf a; intro a hf
    refine gL hf (g_pick hf rfl rfl rfl) (by decide) ?_; clear hf a; intro a hf
    refine gL hf (g_mv hf rfl) (by decide) ?_; clear hf a; intro a hf
    refine gKnown hf rfl rfl rfl ?_
    refine gL hf (g_mv hf rfl) (by decide) ?_; clear hf a; intro a hf
    refine gKnown hf rfl rfl rfl ?_
    refine gL hf (g_eql hf rfl rfl) (by decide) ?_; clear hf a; intro a hf
    refine gL hf (g_pick hf rfl rfl rfl) (by decide) ?_; clear hf a; intro a hf
    refine gL hf (g_mv hf rfl) (by decide) ?_; clear hf a; intro a hf
    refine gKnown hf rfl rfl rfl ?_
    refine gL hf (g_mv hf rfl) (by decide) ?_; clear hf a; intro a hf
    refine gKnown hf rfl rfl rfl ?_
    refine gL hf (g_eql hf rfl rfl) (by decide) ?_; clear hf a; intro a hf
    refine gL hf (g_pick hf rfl rfl rfl) (by decide) ?_; clear hf a; intro a hf
    refine gL hf (g_as hf rfl) (by decide) ?_; clear hf a; intro a hf
    refine e_nil ?_
    refine c_ret ?_
    refine e_ret1 hf rfl rfl ?_
    exact ⟨rfl, hs.below⟩

end Go.Proofs.YtjjcopeedcdokaaDoor

set_option linter.unusedVariables false
set_option linter.unusedSimpArgs false
namespace Go.Proofs.YtjjcopeedcdokaaDoor
open Go.RowKit
theorem c_HomeAsks (k : Bk) (fA : Option Addr) (fc : Nat) (rA : Option Addr) (rc : Nat) (wA : Option Addr) (wc : Nat) (ge : TypeId) (gz : Nat × Nat)  (w0 : World) (h : BkIn k fA fc rA rc wA wc w0) (hG : BlkIs 1 sidesA ge gz w0) (te : TypeId) (tz : Nat × Nat) (hT : BlkIs 0 toldA te tz w0) :
    Calls Tryd.prog 7 #[.agg #[.int .i64 k.sh.wide, .int .i64 k.sh.high, .slice fA k.sh.flaps.length fc, .slice rA k.sh.rules.length rc, .int .i64 k.gross, .int .i64 k.pay, .int .i64 k.fine, .slice wA k.ws.length wc]] w0 (Ret w0 (.bool true)) := by
  refine c_enter (n := 46) Tryd.func7 rfl rfl (Nat.le_of_ble_eq_true rfl) ?_; intro a hf; simp only [zipR] at hf
  have hs := St.start w0 [Rd encF 5 fA k.sh.flaps.length k.sh.flaps, Rd encR 2 rA k.sh.rules.length k.sh.rules, Rd encW 6 wA k.ws.length k.ws, OrdD k.ws, BlkIs 1 sidesA ge gz, BlkIs 0 toldA te tz] (stab_app (stab_app h.stab hG.st1) hT.st1)
  have hwm := h.W.2.1
  refine c_reg ?_
  refine vL hf (v_boxA hf hs rfl) (by decide) ?_; clear hs hf a; rintro _ w ⟨b1, rfl, hs⟩ a hf
  refine gL hf (g_as hf rfl) (by decide) ?_; clear hf a; intro a hf
  refine e_nil ?_
  refine c_reg ?_
  refine gL hf (g_ldW hf hs T28 rfl (k := 0) rfl rfl) (by decide) ?_; clear hf a; intro a hf
  refine callL hf hs (c_TeachH k _ _ _ _ _ _ ge gz  _ ⟨⟨hs.rd (.head _), hs.rd (.tail _ (.head _)), h.sh.fc_, h.sh.rc_⟩, hs.rd (.tail _ (.tail _ (.head _))), h.wc_, hs.rd (.tail _ (.tail _ (.tail _ (.head _))))⟩ (hs.rd (.tail _ (.tail _ (.tail _ (.tail _ (.head _)))))) te tz (hs.rd (.tail _ (.tail _ (.tail _ (.tail _ (.tail _ (.head _)))))))) rfl rfl rfl E21 (by decide) ?_; clear hs hf a; intro w a hs hf
  refine gL hf (g_mv hf rfl) (by decide) ?_; clear hf a; intro a hf
  refine gL hf (g_ext hf rfl rfl) (by decide) ?_; clear hf a; intro a hf
  refine gL hf (g_ext hf rfl rfl) (by decide) ?_; clear hf a; intro a hf
  refine gL hf (g_as hf rfl) (by decide) ?_; clear hf a; intro a hf
  refine gL hf (g_as hf rfl) (by decide) ?_; clear hf a; intro a hf
  refine e_nil ?_
  refine c_reg ?_
  refine gL hf (g_ldW hf hs T28 rfl (k := 0) rfl rfl) (by decide) ?_; clear hf a; intro a hf
  refine callL hf hs (c_TeachR k _ _ _ _ _ _  _ ⟨⟨hs.rd (.head _), hs.rd (.tail _ (.head _)), h.sh.fc_, h.sh.rc_⟩, hs.rd (.tail _ (.tail _ (.head _))), h.wc_, hs.rd (.tail _ (.tail _ (.tail _ (.head _))))⟩) rfl rfl rfl E45 (by decide) ?_; clear hs hf a; intro w a hs hf
  refine gL hf (g_mv hf rfl) (by decide) ?_; clear hf a; intro a hf
  refine gL hf (g_ext hf rfl rfl) (by decide) ?_; clear hf a; intro a hf
  refine gL hf (g_ext hf rfl rfl) (by decide) ?_; clear hf a; intro a hf
  refine gL hf (g_as hf rfl) (by decide) ?_; clear hf a; intro a hf
  refine gL hf (g_as hf rfl) (by decide) ?_; clear hf a; intro a hf
  refine e_nil ?_
  refine wp_seq ?_
  refine c_reg ?_
  refine gL hf (g_mv hf rfl) (by decide) ?_; clear hf a; intro a hf
  refine gL hf (g_mv hf rfl) (by decide) ?_; clear hf a; intro a hf
  refine gL hf (g_neq hf rfl rfl) (by decide) ?_; clear hf a; intro a hf
  refine gL hf (g_mv hf rfl) (by decide) ?_; clear hf a; intro a hf
  refine ggL hf rfl rfl (gyes_f _) (fun hg => g_mv hf rfl) (by decide) ?_; clear hf a; intro a hf
  refine ggL hf rfl rfl (gyes_f _) (fun hg => g_mv hf rfl) (by decide) ?_; clear hf a; intro a hf
  refine ggL hf rfl rfl (gyes_f _) (fun hg => g_neq hf (ev_gv rfl hg) (ev_gv rfl hg)) (by decide) ?_; clear hf a; intro a hf
  refine gL hf (g_or hf rfl rfl) (by decide) ?_; clear hf a; intro a hf
  refine e_nil ?_
  refine c_cond hf rfl (fun hc1 => ?_) (fun hc1 => ?_)
  · skip
    simp at hc1
  · skip
    refine c_skip (q_thenN ?_)
    refine c_reg ?_
    refine gL hf (g_ldW hf hs T28 rfl (k := 0) rfl rfl) (by decide) ?_; clear hf a; intro a hf
    refine callL hf hs (c_AskH k _ _ _ _ _ _ ge gz  _ ⟨⟨hs.rd (.head _), hs.rd (.tail _ (.head _)), h.sh.fc_, h.sh.rc_⟩, hs.rd (.tail _ (.tail _ (.head _))), h.wc_, hs.rd (.tail _ (.tail _ (.tail _ (.head _))))⟩ (hs.rd (.tail _ (.tail _ (.tail _ (.tail _ (.head _)))))) te tz (hs.rd (.tail _ (.tail _ (.tail _ (.tail _ (.tail _ (.head _)))))))) rfl rfl rfl E46 (by decide) ?_; clear hs hf a; intro w a hs hf
    refine gL hf (g_mv hf rfl) (by decide) ?_; clear hf a; intro a hf
    refine gL hf (g_ext hf rfl rfl) (by decide) ?_; clear hf a; intro a hf
    refine gL hf (g_ext hf rfl rfl) (by decide) ?_; clear hf a; intro a hf
    refine gL hf (g_as hf rfl) (by decide) ?_; clear hf a; intro a hf
    refine gL hf (g_as hf rfl) (by decide) ?_; clear hf a; intro a hf
    refine e_nil ?_
    refine c_reg ?_
    refine gL hf (g_ldW hf hs T28 rfl (k := 0) rfl rfl) (by decide) ?_; clear hf a; intro a hf
    refine callL hf hs (c_AskR k _ _ _ _ _ _  _ ⟨⟨hs.rd (.head _), hs.rd (.tail _ (.head _)), h.sh.fc_, h.sh.rc_⟩, hs.rd (.tail _ (.tail _ (.head _))), h.wc_, hs.rd (.tail _ (.tail _ (.tail _ (.head _))))⟩) rfl rfl rfl E47 (by decide) ?_; clear hs hf a; intro w a hs hf
    refine gL hf (g_mv hf rfl) (by decide) ?_; clear hf a; intro a hf
    refine gL hf (g_ext hf rfl rfl) (by decide) ?_; clear hf a; intro a hf
    refine gL hf (g_ext hf rfl rfl) (by decide) ?_; clear hf a; intro a hf
    refine gL hf (g_as hf rfl) (by decide) ?_; clear hf a; intro a hf
    refine gL hf (g_as hf rfl) (by decide) ?_; clear hf a; intro a hf
    refine e_nil ?_
    refine c_reg ?_
    refine gL hf (g_mv hf rfl) (by decide) ?_; clear hf a; intro a hf
    refine gL hf (g_mv hf rfl) (by decide) ?_; clear hf a; intro a hf
    refine gL hf (g_eql hf rfl rfl) (by decide) ?_; clear hf a; intro a hf
    refine gL hf (g_mv hf rfl) (by decide) ?_; clear hf a; intro a hf
    refine ggL hf rfl rfl (gyes_t _) (fun hg => g_mv hf rfl) (by decide) ?_; clear hf a; intro a hf
    refine ggL hf rfl rfl (gyes_t _) (fun hg => g_mv hf rfl) (by decide) ?_; clear hf a; intro a hf
    refine ggL hf rfl rfl (gyes_t _) (fun hg => g_eql hf (ev_gv rfl hg) (ev_gv rfl hg)) (by decide) ?_; clear hf a; intro a hf
    refine gL hf (g_and hf rfl rfl) (by decide) ?_; clear hf a; intro a hf
    refine gL hf (g_mv hf rfl) (by decide) ?_; clear hf a; intro a hf
    refine callG hf hs rfl rfl (gyes_t _) (fun hg => ⟨_, _, _, _, c_paid ge gz te tz _ (hs.rd (.tail _ (.tail _ (.tail _ (.tail _ (.head _)))))) (hs.rd (.tail _ (.tail _ (.tail _ (.tail _ (.tail _ (.head _))))))), rfl, evs_nil, rfl⟩) E40 (by decide) ?_; clear hs hf a; intro w a hs hf
    refine gL hf (g_and hf rfl rfl) (by decide) ?_; clear hf a; intro a hf
    refine gL hf (g_as hf rfl) (by decide) ?_; clear hf a; intro a hf
    refine e_nil ?_
    refine c_ret ?_
    refine e_ret1 hf rfl rfl ?_
    exact ⟨by simp, hs.below⟩

end Go.Proofs.YtjjcopeedcdokaaDoor

