/- clock: pad, bares, awake -/
import Derived.Test.YthjnfbpimcdndaaB
set_option linter.unusedVariables false
set_option linter.unusedSimpArgs false
namespace Go.Proofs.Ythjnfbpimcdndaa
open Go.Sep Go.RowKit

/-- Refs as many as places. -/
def padL (rs : List Bool) (n : Nat) : List Bool := rs.take n ++ List.replicate (n - rs.length) false
theorem pad_len (rs : List Bool) (n : Nat) : (padL rs n).length = n := by simp [padL]; omega
theorem pad_set {rs : List Bool} {n i : Nat} (h1 : i < n) (h2 : i < rs.length) : (rs.take i ++ List.replicate (n - i) false).set i (rs.getD i false) = rs.take (i + 1) ++ List.replicate (n - (i + 1)) false := by
  rw [List.set_append_right _ _ (by simp; omega)]
  simp only [List.length_take, Nat.min_eq_left (Nat.le_of_lt h2), Nat.sub_self]
  obtain ⟨m, hm⟩ : ∃ m, n - i = m + 1 := ⟨n - i - 1, by omega⟩
  have e : rs.getD i false = rs[i] := by simp [List.getD_eq_getElem?_getD, h2]
  rw [hm, List.replicate_succ, List.set_cons_zero, List.take_succ_eq_append_getElem h2, show n - (i + 1) = m from by omega, e]
  simp only [List.append_assoc, List.cons_append, List.nil_append]
/-- How many can go and have no ref. -/
def bareM (cs rs : List Bool) (n : Nat) : Nat := ((List.range n).filter (fun j => cs.getD j false && !rs.getD j false)).length
theorem bare_yes {cs rs : List Bool} {n : Nat} (h : (cs.getD n false && !rs.getD n false) = true) : bareM cs rs (n + 1) = bareM cs rs n + 1 := by
  simp only [bareM, List.range_succ, List.filter_append, List.filter_cons, List.filter_nil, h, if_true, List.length_append, List.length_cons, List.length_nil]
theorem bare_no {cs rs : List Bool} {n : Nat} (h : (cs.getD n false && !rs.getD n false) = false) : bareM cs rs (n + 1) = bareM cs rs n := by
  simp only [bareM, List.range_succ, List.filter_append, List.filter_cons, List.filter_nil, h, Bool.false_eq_true, if_false, List.append_nil]
theorem bare_le (cs rs : List Bool) (n : Nat) : bareM cs rs n ≤ n := Nat.le_trans (List.length_filter_le _ _) (by simp)
set_option maxRecDepth 100000 in
set_option maxHeartbeats 1000000 in
theorem pad_spec {va : Value} (rs : List Bool) (n : Nat) (hn : n ≤ 65536) : Con Try.prog 15 [va, .int .i64 (n : Int)] (fun w => RdV w va encB rs) [] (fun v : Value => v) (fun _ => True) (fun v => [rowE v 4 encB (padL rs n)]) := by
  intro w hl hH
  refine enter (n := 28) (vs := [va, .int .i64 (n : Int)]) (St w [] []) Try.func15 rfl rfl rfl (St.init hH) ?_
  refine c_seq ?_
  refine c_region _ rfl ?_
  refine l_q rfl (q_assign rfl rfl) rfl rfl ?_
  refine l_nil ?_
  refine k_then ?_
  refine c_seq ?_
  refine c_region _ rfl ?_
  refine l_q rfl (q_move rfl rfl) rfl rfl ?_
  refine l_e rfl ?_
  refine e_makeSlice encB false n rfl rfl rfl Try.underlying22 info4 rfl rfl rfl rfl rfl rfl rfl (by simp only [byt4]; omega) (by omega) ?_
  intro v
  refine l_q rfl (q_assign rfl rfl) rfl rfl ?_
  refine l_nil ?_
  refine k_then ?_
  refine c_seq ?_
  refine c_seq ?_
  refine c_region _ rfl ?_
  refine l_q rfl (q_assign rfl rfl) rfl rfl ?_
  refine l_nil ?_
  refine k_then ?_
  refine c_block ?_
  refine c_loop1 (fun (i : Nat) => [(0, va), (1, .int .i64 (n : Int)), (5, v), (6, .int .i64 (i : Int))]) (fun (i : Nat) => St w [] [rowE v 4 encB (rs.take i ++ List.replicate (n - i) false)]) (fun (i : Nat) => i ≤ n ∧ i ≤ rs.length) (fun (i : Nat) => n - i) (0) ⟨Nat.zero_le _, Nat.zero_le _⟩ (Sub.cons rfl (Sub.cons rfl (Sub.cons rfl (Sub.cons rfl (Sub.nil))))) (fun _ h => h) ?_
  intro i hp
  refine c_seq ?_
  refine c_seq ?_
  obtain ⟨h1, h2⟩ := hp
  have hol : (rs.take i ++ List.replicate (n - i) false).length = n := by simp; omega
  refine c_region _ rfl ?_
  refine l_q rfl (q_move rfl rfl) rfl rfl ?_
  refine l_q rfl (q_move rfl rfl) rfl rfl ?_
  refine l_q rfl (q_lss rfl rfl rfl) rfl rfl ?_
  refine l_q rfl (q_move rfl rfl) rfl rfl ?_
  refine Pre.caseB 12 rfl (fun hn => ?_) (fun hn => ?_)
  · simp only [decide_eq_true_eq, decide_eq_false_iff_not, Bool.not_eq_true', Bool.not_eq_false'] at hn
    refine l_q rfl (q_move rfl rfl) rfl rfl ?_
    refine l_q rfl (q_move rfl rfl) rfl rfl ?_
    refine l_q rfl (q_lenV rfl Try.underlying22 rfl (fun _ h => hl.keep h (by simp [dom]))) rfl rfl ?_
    refine l_q rfl (q_lss rfl rfl rfl) rfl rfl ?_
    refine l_q rfl (q_pick_t rfl rfl rfl) rfl rfl ?_
    refine l_nil ?_
    refine k_then ?_
    refine Pre.caseB 17 rfl (fun hl2 => ?_) (fun hl2 => ?_)
    · simp only [decide_eq_true_eq, decide_eq_false_iff_not, Bool.not_eq_true', Bool.not_eq_false'] at hl2
      refine c_true rfl ?_
      refine c_skip ?_
      refine k_then ?_
      refine c_seq ?_
      refine c_block ?_
      refine c_region _ rfl ?_
      refine l_q rfl (q_move rfl rfl) rfl rfl ?_
      refine l_q rfl (q_move rfl rfl) rfl rfl ?_
      refine l_q rfl (q_move rfl rfl) rfl rfl ?_
      refine l_q rfl (q_move rfl rfl) rfl rfl ?_
      refine l_q rfl (q_indexV i rfl Try.underlying22 Try.sizeOf4 rfl (fun _ h => hl.keep h (by simp [dom])) rfl rfl (by omega)) rfl rfl ?_
      refine l_q rfl (q_loadV i 0 rfl Try.isAgg4 rfl rfl (fun _ h => hl.keep h (by simp [dom])) (gb (by omega)) rfl) rfl rfl ?_
      refine l_q rfl (q_indexV i rfl Try.underlying22 Try.sizeOf4 rfl (fun _ h => h.rd 0 rfl) rfl rfl (by omega)) rfl rfl ?_
      refine l_e rfl ?_
      refine e_storeV i 0 (rs.getD i false) rfl rfl Try.sizeOf4 rfl rfl rfl (gb (by omega)) (by decide) rfl ?_
      refine l_nil ?_
      refine k_block ?_
      refine k_then ?_
      refine c_region _ rfl ?_
      refine l_q rfl (q_move rfl rfl) rfl rfl ?_
      refine l_q rfl (q_inc rfl rfl rfl (by omega)) rfl rfl ?_
      refine l_q rfl (q_assign rfl rfl) rfl rfl ?_
      refine l_nil ?_
      refine row_eq (pad_set (by omega) (by omega)) ?_
      exact k_round (i + 1) (by omega) ⟨by omega, by omega⟩ (Sub.cons rfl (Sub.cons rfl (Sub.cons rfl (Sub.cons rfl (Sub.nil))))) (fun _ h => h)
    · simp only [decide_eq_true_eq, decide_eq_false_iff_not, Bool.not_eq_true', Bool.not_eq_false'] at hl2
      have hfin : rs.take i ++ List.replicate (n - i) false = padL rs n := by
        have : i = rs.length := by omega
        subst this; unfold padL; rw [List.take_of_length_le (Nat.le_refl _), List.take_of_length_le h1]
      refine c_false rfl ?_
      refine c_exit ?_
      refine k_then_exit ?_
      refine k_then_exit ?_
      refine k_block_exit ?_
      refine k_then ?_
      refine c_seq ?_
      refine c_region _ rfl ?_
      refine l_q rfl (q_move rfl rfl) rfl rfl ?_
      refine l_q rfl (q_assign rfl rfl) rfl rfl ?_
      refine l_nil ?_
      refine k_then ?_
      refine c_ret ?_
      refine r_one rfl rfl ?_
      exact fun _ h => ⟨v, rfl, trivial, by rw [← hfin]; exact h⟩
  · simp only [decide_eq_true_eq, decide_eq_false_iff_not, Bool.not_eq_true', Bool.not_eq_false'] at hn
    have hfin : rs.take i ++ List.replicate (n - i) false = padL rs n := by
      have : i = n := by omega
      subst this; unfold padL; rw [Nat.sub_self, Nat.sub_eq_zero_of_le h2]
    refine l_not rfl rfl rfl ?_
    refine l_not rfl rfl rfl ?_
    refine l_not rfl rfl rfl ?_
    refine l_not rfl rfl rfl ?_
    refine l_q rfl (q_pick_f rfl rfl rfl) rfl rfl ?_
    refine l_nil ?_
    refine k_then ?_
    refine c_false rfl ?_
    refine c_exit ?_
    refine k_then_exit ?_
    refine k_then_exit ?_
    refine k_block_exit ?_
    refine k_then ?_
    refine c_seq ?_
    refine c_region _ rfl ?_
    refine l_q rfl (q_move rfl rfl) rfl rfl ?_
    refine l_q rfl (q_assign rfl rfl) rfl rfl ?_
    refine l_nil ?_
    refine k_then ?_
    refine c_ret ?_
    refine r_one rfl rfl ?_
    exact fun _ h => ⟨v, rfl, trivial, by rw [← hfin]; exact h⟩
set_option maxRecDepth 100000 in
set_option maxHeartbeats 1000000 in
theorem bares_spec {va vb : Value} (cs rs : List Bool) (hn : cs.length ≤ 65536) (hr : cs.length ≤ rs.length) : Con Try.prog 16 [va, vb] (fun w => RdV w va encB cs ∧ RdV w vb encB rs) [] (fun _ : Unit => .int .i64 (bareM cs rs cs.length : Int)) (fun _ => True) (fun _ => []) := by
  intro w hE hH
  obtain ⟨ha, hb⟩ := hE
  refine enter (n := 27) (vs := [va, vb]) (St w [] []) Try.func16 rfl rfl rfl (St.init hH) ?_
  refine c_seq ?_
  refine c_region _ rfl ?_
  refine l_q rfl (q_assign rfl rfl) rfl rfl ?_
  refine l_nil ?_
  refine k_then ?_
  refine c_seq ?_
  refine c_region _ rfl ?_
  refine l_q rfl (q_assign rfl rfl) rfl rfl ?_
  refine l_nil ?_
  refine k_then ?_
  refine c_seq ?_
  refine c_seq ?_
  refine c_region _ rfl ?_
  refine l_q rfl (q_assign rfl rfl) rfl rfl ?_
  refine l_nil ?_
  refine k_then ?_
  refine c_block ?_
  refine c_loop1 (fun (i : Nat) => [(0, va), (1, vb), (5, .int .i64 (bareM cs rs i : Int)), (6, .int .i64 (i : Int))]) (fun (i : Nat) => St w [] []) (fun (i : Nat) => i ≤ cs.length) (fun (i : Nat) => cs.length - i) (0) (Nat.zero_le _) (Sub.cons rfl (Sub.cons rfl (Sub.cons rfl (Sub.cons rfl (Sub.nil))))) (fun _ h => h) ?_
  intro i h1
  refine c_seq ?_
  refine c_seq ?_
  have hbl := bare_le cs rs i
  refine c_region _ rfl ?_
  refine l_q rfl (q_move rfl rfl) rfl rfl ?_
  refine l_q rfl (q_move rfl rfl) rfl rfl ?_
  refine l_q rfl (q_lenV rfl Try.underlying22 rfl (fun _ h => ha.keep h (by simp [dom]))) rfl rfl ?_
  refine l_q rfl (q_lss rfl rfl rfl) rfl rfl ?_
  refine l_nil ?_
  refine k_then ?_
  refine Pre.caseB 10 rfl (fun hi => ?_) (fun hi => ?_)
  · simp only [decide_eq_true_eq, decide_eq_false_iff_not, Bool.not_eq_true', Bool.not_eq_false'] at hi
    refine c_true rfl ?_
    refine c_skip ?_
    refine k_then ?_
    refine c_seq ?_
    refine c_block ?_
    refine c_seq ?_
    refine c_region _ rfl ?_
    refine l_q rfl (q_move rfl rfl) rfl rfl ?_
    refine l_q rfl (q_move rfl rfl) rfl rfl ?_
    refine l_q rfl (q_indexV i rfl Try.underlying22 Try.sizeOf4 rfl (fun _ h => ha.keep h (by simp [dom])) rfl rfl (by omega)) rfl rfl ?_
    refine l_q rfl (q_loadV i 0 rfl Try.isAgg4 rfl rfl (fun _ h => ha.keep h (by simp [dom])) (gb (by omega)) rfl) rfl rfl ?_
    refine l_q rfl (q_move rfl rfl) rfl rfl ?_
    refine Pre.caseB 17 rfl (fun hc => ?_) (fun hc => ?_)
    · refine l_q rfl (q_move rfl rfl) rfl rfl ?_
      refine l_q rfl (q_move rfl rfl) rfl rfl ?_
      refine l_q rfl (q_indexV i rfl Try.underlying22 Try.sizeOf4 rfl (fun _ h => hb.keep h (by simp [dom])) rfl rfl (by omega)) rfl rfl ?_
      refine l_q rfl (q_loadV i 0 rfl Try.isAgg4 rfl rfl (fun _ h => hb.keep h (by simp [dom])) (gb (by omega)) rfl) rfl rfl ?_
      refine l_q rfl (q_not rfl rfl) rfl rfl ?_
      refine l_q rfl (q_pick_t rfl rfl rfl) rfl rfl ?_
      refine l_nil ?_
      refine k_then ?_
      refine Pre.caseB 23 rfl (fun hr2 => ?_) (fun hr2 => ?_)
      · have hy := bare_yes (cs := cs) (rs := rs) (n := i) (by rw [hc, hr2]; rfl)
        refine c_true rfl ?_
        refine c_region _ rfl ?_
        refine l_q rfl (q_move rfl rfl) rfl rfl ?_
        refine l_q rfl (q_inc rfl rfl rfl (by omega)) rfl rfl ?_
        refine l_q rfl (q_assign rfl rfl) rfl rfl ?_
        refine l_nil ?_
        refine k_block ?_
        refine k_then ?_
        refine c_region _ rfl ?_
        refine l_q rfl (q_move rfl rfl) rfl rfl ?_
        refine l_q rfl (q_inc rfl rfl rfl (by omega)) rfl rfl ?_
        refine l_q rfl (q_assign rfl rfl) rfl rfl ?_
        refine l_nil ?_
        exact k_round (i + 1) (by omega) (by omega) (Sub.cons rfl (Sub.cons rfl (Sub.consE rfl (by rw [hy]) (Sub.cons rfl Sub.nil)))) (fun _ h => h)
      · have hy := bare_no (cs := cs) (rs := rs) (n := i) (by rw [hr2, Bool.and_false])
        refine c_false rfl ?_
        refine c_skip ?_
        refine k_block ?_
        refine k_then ?_
        refine c_region _ rfl ?_
        refine l_q rfl (q_move rfl rfl) rfl rfl ?_
        refine l_q rfl (q_inc rfl rfl rfl (by omega)) rfl rfl ?_
        refine l_q rfl (q_assign rfl rfl) rfl rfl ?_
        refine l_nil ?_
        exact k_round (i + 1) (by omega) (by omega) (Sub.cons rfl (Sub.cons rfl (Sub.consE rfl (by rw [hy]) (Sub.cons rfl Sub.nil)))) (fun _ h => h)
    · have hy := bare_no (cs := cs) (rs := rs) (n := i) (by rw [hc, Bool.false_and])
      refine l_not rfl rfl rfl ?_
      refine l_not rfl rfl rfl ?_
      refine l_not rfl rfl rfl ?_
      refine l_not rfl rfl rfl ?_
      refine l_not rfl rfl rfl ?_
      refine l_q rfl (q_pick_f rfl rfl rfl) rfl rfl ?_
      refine l_nil ?_
      refine k_then ?_
      refine c_false rfl ?_
      refine c_skip ?_
      refine k_block ?_
      refine k_then ?_
      refine c_region _ rfl ?_
      refine l_q rfl (q_move rfl rfl) rfl rfl ?_
      refine l_q rfl (q_inc rfl rfl rfl (by omega)) rfl rfl ?_
      refine l_q rfl (q_assign rfl rfl) rfl rfl ?_
      refine l_nil ?_
      exact k_round (i + 1) (by omega) (by omega) (Sub.cons rfl (Sub.cons rfl (Sub.consE rfl (by rw [hy]) (Sub.cons rfl Sub.nil)))) (fun _ h => h)
  · simp only [decide_eq_true_eq, decide_eq_false_iff_not, Bool.not_eq_true', Bool.not_eq_false'] at hi
    have hie : i = cs.length := by omega
    subst hie
    refine c_false rfl ?_
    refine c_exit ?_
    refine k_then_exit ?_
    refine k_then_exit ?_
    refine k_block_exit ?_
    refine k_then ?_
    refine c_seq ?_
    refine c_region _ rfl ?_
    refine l_q rfl (q_move rfl rfl) rfl rfl ?_
    refine l_q rfl (q_assign rfl rfl) rfl rfl ?_
    refine l_nil ?_
    refine k_then ?_
    refine c_ret ?_
    refine r_one rfl rfl ?_
    exact fun _ h => ⟨(), rfl, trivial, h⟩
set_option maxRecDepth 100000 in
set_option maxHeartbeats 1000000 in
theorem awake_spec : Con Try.prog 8 [] (fun _ => True) [] (fun _ : Unit => .bool true) (fun _ => True) (fun _ => []) := by
  intro w hl hH
  refine enter (n := 81) (vs := []) (St w [] []) Try.func8 rfl rfl rfl (St.init hH) ?_
  refine c_seq ?_
  refine c_region _ rfl ?_
  refine l_q rfl (q_assign rfl rfl) rfl rfl ?_
  refine l_nil ?_
  refine k_then ?_
  refine c_seq ?_
  refine c_region _ rfl ?_
  refine l_e rfl ?_
  refine e_buildSliceV (sz := 1) [.const (.bool true), .const (.bool true), .const (.bool true)] rfl rfl rfl rfl rfl Try.underlying22 Try.sizeOf4 rfl Try.zeroValue4 rfl ?_
  intro b1
  refine l_e rfl ?_
  refine e_buildSliceV (sz := 1) [.const (.bool true), .const (.bool false), .const (.bool true)] rfl rfl rfl rfl rfl Try.underlying22 Try.sizeOf4 rfl Try.zeroValue4 rfl ?_
  intro b2
  refine l_e rfl ?_
  refine e_call_01 (sweep_spec [true, true, true] [true, false, true] 0 (by decide) (by decide)) rfl rfl rfl Try.call9 rfl (fun _ h => ⟨lit_rd (h.at 1 rfl) encB [true, true, true] rfl rfl, lit_rd (h.at 0 rfl) encB [true, false, true] rfl rfl⟩) ?_
  intro vl _
  refine l_q rfl (q_move rfl rfl) rfl rfl ?_
  refine l_q rfl (q_extract rfl rfl rfl) rfl rfl ?_
  refine l_q rfl (q_extract rfl rfl rfl) rfl rfl ?_
  refine l_q rfl (q_extract rfl rfl rfl) rfl rfl ?_
  refine l_q rfl (q_assign rfl rfl) rfl rfl ?_
  refine l_q rfl (q_assign rfl rfl) rfl rfl ?_
  refine l_q rfl (q_assign rfl rfl) rfl rfl ?_
  refine l_nil ?_
  refine k_then ?_
  refine c_seq ?_
  refine c_region _ rfl ?_
  refine l_e rfl ?_
  refine e_call_01 (sweep_spec [] [] 5 (by decide) (by decide)) rfl rfl rfl Try.call9 rfl (fun _ _ => ⟨rd_empty encB, rd_empty encB⟩) ?_
  intro vk _
  refine l_q rfl (q_move rfl rfl) rfl rfl ?_
  refine l_q rfl (q_extract rfl rfl rfl) rfl rfl ?_
  refine l_q rfl (q_extract rfl rfl rfl) rfl rfl ?_
  refine l_q rfl (q_extract rfl rfl rfl) rfl rfl ?_
  refine l_q rfl (q_assign rfl rfl) rfl rfl ?_
  refine l_q rfl (q_assign rfl rfl) rfl rfl ?_
  refine l_q rfl (q_assign rfl rfl) rfl rfl ?_
  refine l_nil ?_
  refine k_then ?_
  refine c_seq ?_
  refine c_region _ rfl ?_
  refine l_e rfl ?_
  refine e_buildSliceV (sz := 1) [.const (.bool true), .const (.bool true)] rfl rfl rfl rfl rfl Try.underlying22 Try.sizeOf4 rfl Try.zeroValue4 rfl ?_
  intro b3
  refine l_e rfl ?_
  refine e_buildSliceV (sz := 1) [.const (.bool true), .const (.bool false)] rfl rfl rfl rfl rfl Try.underlying22 Try.sizeOf4 rfl Try.zeroValue4 rfl ?_
  intro b4
  refine l_e rfl ?_
  refine e_call_01 (order_spec [true, true] [true, false] 0 (by decide) (by decide)) rfl rfl rfl Try.call13 rfl (fun _ h => ⟨lit_rd (h.at 1 rfl) encB [true, true] rfl rfl, lit_rd (h.at 0 rfl) encB [true, false] rfl rfl⟩) ?_
  intro vo _
  refine l_q rfl (q_assign rfl rfl) rfl rfl ?_
  refine l_nil ?_
  refine k_then ?_
  refine c_seq ?_
  refine c_region _ rfl ?_
  refine l_q rfl (q_move rfl rfl) rfl rfl ?_
  refine l_q rfl (q_eql rfl rfl rfl) rfl rfl ?_
  refine l_q rfl (q_move rfl rfl) rfl rfl ?_
  have hl1 : 3 = (swM [true, true, true] [true, false, true] 0).2.length := by decide +kernel
  have hl2 : 2 = (nints (ordM ([true, true].length + 1) [true, true] [true, false] 0)).length := by decide +kernel
  refine Pre.setB (t := 25) (c := true) rfl (by decide +kernel) ?_
  refine l_q rfl (q_move rfl rfl) rfl rfl ?_
  refine l_q rfl (q_eql rfl rfl rfl) rfl rfl ?_
  refine l_q rfl (q_pick_t rfl rfl rfl) rfl rfl ?_
  refine l_q rfl (q_move rfl rfl) rfl rfl ?_
  refine Pre.setB (t := 29) (c := true) rfl (by decide +kernel) ?_
  refine l_q rfl (q_move rfl rfl) rfl rfl ?_
  refine l_q rfl (q_lenV rfl Try.underlying22 rfl (fun _ h => h.rd 4 rfl)) rfl rfl ?_
  refine l_q rfl (q_eql rfl rfl rfl) rfl rfl ?_
  refine l_q rfl (q_pick_t rfl rfl rfl) rfl rfl ?_
  refine l_q rfl (q_move rfl rfl) rfl rfl ?_
  refine Pre.setB (t := 34) (c := true) rfl (by decide +kernel) ?_
  refine l_q rfl (q_move rfl rfl) rfl rfl ?_
  refine l_q rfl (q_indexV 0 rfl Try.underlying22 Try.sizeOf4 rfl (fun _ h => h.rd 4 rfl) rfl rfl (by omega)) rfl rfl ?_
  refine l_q rfl (q_loadV 0 0 rfl Try.isAgg4 rfl rfl (fun _ h => h.rd 4 rfl) (show (swM [true, true, true] [true, false, true] 0).2[0]? = some false by decide +kernel) rfl) rfl rfl ?_
  refine l_q rfl (q_not rfl rfl) rfl rfl ?_
  refine l_q rfl (q_pick_t rfl rfl rfl) rfl rfl ?_
  refine l_q rfl (q_move rfl rfl) rfl rfl ?_
  refine Pre.setB (t := 40) (c := true) rfl (by decide +kernel) ?_
  refine l_q rfl (q_move rfl rfl) rfl rfl ?_
  refine l_q rfl (q_indexV 1 rfl Try.underlying22 Try.sizeOf4 rfl (fun _ h => h.rd 4 rfl) rfl rfl (by omega)) rfl rfl ?_
  refine l_q rfl (q_loadV 1 0 rfl Try.isAgg4 rfl rfl (fun _ h => h.rd 4 rfl) (show (swM [true, true, true] [true, false, true] 0).2[1]? = some false by decide +kernel) rfl) rfl rfl ?_
  refine l_q rfl (q_not rfl rfl) rfl rfl ?_
  refine l_q rfl (q_pick_t rfl rfl rfl) rfl rfl ?_
  refine l_q rfl (q_move rfl rfl) rfl rfl ?_
  refine Pre.setB (t := 46) (c := true) rfl (by decide +kernel) ?_
  refine l_q rfl (q_move rfl rfl) rfl rfl ?_
  refine l_q rfl (q_indexV 2 rfl Try.underlying22 Try.sizeOf4 rfl (fun _ h => h.rd 4 rfl) rfl rfl (by omega)) rfl rfl ?_
  refine l_q rfl (q_loadV 2 0 rfl Try.isAgg4 rfl rfl (fun _ h => h.rd 4 rfl) (show (swM [true, true, true] [true, false, true] 0).2[2]? = some true by decide +kernel) rfl) rfl rfl ?_
  refine l_q rfl (q_pick_t rfl rfl rfl) rfl rfl ?_
  refine l_q rfl (q_move rfl rfl) rfl rfl ?_
  refine Pre.setB (t := 51) (c := true) rfl (by decide +kernel) ?_
  refine l_q rfl (q_move rfl rfl) rfl rfl ?_
  refine l_q rfl (q_eql rfl rfl rfl) rfl rfl ?_
  refine l_q rfl (q_pick_t rfl rfl rfl) rfl rfl ?_
  refine l_q rfl (q_move rfl rfl) rfl rfl ?_
  refine Pre.setB (t := 55) (c := true) rfl (by decide +kernel) ?_
  refine l_q rfl (q_move rfl rfl) rfl rfl ?_
  refine l_q rfl (q_eql rfl rfl rfl) rfl rfl ?_
  refine l_q rfl (q_pick_t rfl rfl rfl) rfl rfl ?_
  refine l_q rfl (q_move rfl rfl) rfl rfl ?_
  refine Pre.setB (t := 59) (c := true) rfl (by decide +kernel) ?_
  refine l_q rfl (q_move rfl rfl) rfl rfl ?_
  refine l_q rfl (q_lenV rfl Try.underlying22 rfl (fun _ h => h.rd 3 rfl)) rfl rfl ?_
  refine l_q rfl (q_eql rfl rfl rfl) rfl rfl ?_
  refine l_q rfl (q_pick_t rfl rfl rfl) rfl rfl ?_
  refine l_q rfl (q_move rfl rfl) rfl rfl ?_
  refine Pre.setB (t := 64) (c := true) rfl (by decide +kernel) ?_
  refine l_q rfl (q_move rfl rfl) rfl rfl ?_
  refine l_q rfl (q_lenV rfl Try.underlying28 rfl (fun _ h => h.rd 0 rfl)) rfl rfl ?_
  refine l_q rfl (q_eql rfl rfl rfl) rfl rfl ?_
  refine l_q rfl (q_pick_t rfl rfl rfl) rfl rfl ?_
  refine l_q rfl (q_move rfl rfl) rfl rfl ?_
  refine Pre.setB (t := 69) (c := true) rfl (by decide +kernel) ?_
  refine l_q rfl (q_move rfl rfl) rfl rfl ?_
  refine l_q rfl (q_indexV 0 rfl Try.underlying28 Try.sizeOf3 rfl (fun _ h => h.rd 0 rfl) rfl rfl (by omega)) rfl rfl ?_
  refine l_q rfl (q_loadV 0 0 rfl Try.isAgg3 rfl rfl (fun _ h => h.rd 0 rfl) (show (nints (ordM ([true, true].length + 1) [true, true] [true, false] 0))[0]? = some 1 by decide +kernel) rfl) rfl rfl ?_
  refine l_q rfl (q_eql rfl rfl rfl) rfl rfl ?_
  refine l_q rfl (q_pick_t rfl rfl rfl) rfl rfl ?_
  refine l_q rfl (q_move rfl rfl) rfl rfl ?_
  refine Pre.setB (t := 75) (c := true) rfl (by decide +kernel) ?_
  refine l_q rfl (q_move rfl rfl) rfl rfl ?_
  refine l_q rfl (q_indexV 1 rfl Try.underlying28 Try.sizeOf3 rfl (fun _ h => h.rd 0 rfl) rfl rfl (by omega)) rfl rfl ?_
  refine l_q rfl (q_loadV 1 0 rfl Try.isAgg3 rfl rfl (fun _ h => h.rd 0 rfl) (show (nints (ordM ([true, true].length + 1) [true, true] [true, false] 0))[1]? = some 0 by decide +kernel) rfl) rfl rfl ?_
  refine l_q rfl (q_eql rfl rfl rfl) rfl rfl ?_
  refine l_q rfl (q_pick_t rfl rfl rfl) rfl rfl ?_
  refine l_q rfl (q_assign rfl rfl) rfl rfl ?_
  refine l_nil ?_
  refine k_then ?_
  refine c_ret ?_
  refine r_one rfl rfl ?_
  exact fun _ h => ⟨(), congrArg (fun z => Ending.returned (Value.bool z)) (by decide +kernel), trivial, h.nothing⟩
end Go.Proofs.Ythjnfbpimcdndaa
