/- sched: Runnable, Ended, Pick -/
import Derived.Test.YtjanmpghcigigaaA
set_option linter.unusedVariables false
set_option linter.unusedSimpArgs false
namespace Go.Proofs.Ytjanmpghcigigaa
open Go.Sep Go.RowKit

set_option maxRecDepth 100000 in
set_option maxHeartbeats 1000000 in
theorem runnable_spec {m : Tab} {c : Int} (hm : m.Ok c) (b : Nat) : Con Try.prog 24 [.pointer (some ⟨b, 0, none⟩)] (fun _ => True) [cellsE b 55 (tabC m)] (fun v : Value => v) (fun _ => True) (fun v => [rowE v 3 (encI .i64) (nints (runM m)), cellsE b 55 (tabC m)]) := by
  intro w hE hH
  have h8 := hm.n8
  refine enter (n := 28) (vs := [.pointer (some ⟨b, 0, none⟩)]) (St w [b] [cellsE b 55 (tabC m)]) Try.func24 rfl rfl rfl (St.init hH) ?_
  refine c_seq ?_
  refine c_region _ rfl ?_
  refine l_q rfl (q_assign rfl rfl) rfl rfl ?_
  refine l_nil ?_
  refine k_then ?_
  refine c_seq ?_
  refine c_region _ rfl ?_
  refine l_q rfl (q_assign rfl rfl) rfl rfl ?_
  refine l_nil ?_
  refine k_then ?_
  refine c_seq ?_
  refine c_seq ?_
  refine c_draw [(0, some true), (1, some true), (2, some true), (3, some true), (4, some true), (5, some true), (6, some true), (7, some true), (8, some true), (9, some true)] [] [(_, some true), (_, some true), (_, some true), (_, some true), (_, some true), (_, some true), (_, some true), (_, some true), (_, some true), (_, some true)] _ (blind_then (blind_then blind_body)) rfl (by kernel_rfl) (by kernel_rfl) rfl rfl rfl (by kernel_rfl) St.drawn (fun _ h => h) ?_
  refine d_q rfl (q_move rfl rfl) rfl rfl ?_
  refine d_q rfl (q_nilCheck rfl rfl) rfl rfl ?_
  refine d_q rfl (q_fieldAddr rfl Try.underlying55 rfl Try.sizeOf52 rfl rfl) rfl rfl ?_
  refine d_q rfl (q_move rfl rfl) rfl rfl ?_
  refine d_q rfl (q_nilCheck rfl rfl) rfl rfl ?_
  refine d_q rfl (q_fieldAddr rfl Try.underlying55 rfl Try.sizeOf3 rfl rfl) rfl rfl ?_
  refine d_q rfl (q_loadC rfl Try.isAgg3 rfl (fun _ h => h.at 0 rfl) rfl) rfl rfl ?_
  refine d_q rfl (q_sliceArrH m.n rfl Try.underlying52 Try.sizeOf51 rfl rfl rfl (by omega)) rfl rfl ?_
  refine d_q rfl (q_len rfl Try.underlying59 rfl) rfl rfl ?_
  refine d_q rfl (q_move rfl rfl) rfl rfl ?_
  refine d_nil ?_
  refine k_then ?_
  refine c_block ?_
  refine row0 3 (encI .i64) none ?_
  refine c_loop2 (fun (k : Nat) (v : Value) => [(3, v), (13, .slice (some ⟨b, 0 + 1, none⟩) m.n 8), (14, .int .i64 (m.n : Int)), (15, .int .i64 (k : Int))]) (fun (k : Nat) (v : Value) => St w [b] [rowE v 3 (encI .i64) (runTo m k), cellsE b 55 (tabC m)]) (fun (k : Nat) (v : Value) => k ≤ m.n) (fun (k : Nat) (v : Value) => m.n - k) (0) (.slice none 0 0) (Nat.zero_le _) (Sub.cons rfl (Sub.cons rfl (Sub.cons rfl (Sub.cons rfl (Sub.nil))))) (fun _ h => h) ?_
  intro k v hk
  refine c_seq ?_
  refine c_region _ rfl ?_
  refine l_q rfl (q_lss rfl rfl rfl) rfl rfl ?_
  refine l_nil ?_
  refine k_then ?_
  refine c_seq ?_
  refine Pre.caseB 16 rfl (fun h => ?_) (fun h => ?_)
  · simp only [decide_eq_true_eq, decide_eq_false_iff_not, Bool.not_eq_true', Bool.not_eq_false'] at h
    have hlen := runTo_len m k
    refine c_true rfl ?_
    refine c_skip ?_
    refine k_then ?_
    refine c_seq ?_
    refine c_block ?_
    refine c_seq ?_
    refine c_region _ rfl ?_
    refine l_q rfl (q_move rfl rfl) rfl rfl ?_
    refine l_q rfl (q_indexAddr k rfl Try.underlying59 Try.sizeOf51 rfl rfl rfl (by omega)) rfl rfl ?_
    refine l_q rfl (q_loadC rfl Try.isAgg51 rfl (fun _ h => h.at 1 rfl) (tab_st hm (k := k) (by omega) (by simp))) rfl rfl ?_
    refine l_q rfl (q_assign rfl rfl) rfl rfl ?_
    refine l_q rfl (q_assign rfl rfl) rfl rfl ?_
    refine l_nil ?_
    refine k_then ?_
    refine c_seq ?_
    refine c_region _ rfl ?_
    refine l_q rfl (q_move rfl rfl) rfl rfl ?_
    refine l_q rfl (q_eql rfl rfl rfl) rfl rfl ?_
    refine l_nil ?_
    refine k_then ?_
    refine Pre.caseB 21 rfl (fun h2 => ?_) (fun h2 => ?_)
    · simp only [decide_eq_true_eq, decide_eq_false_iff_not, Bool.not_eq_true', Bool.not_eq_false'] at h2
      refine c_true rfl ?_
      refine c_region _ rfl ?_
      refine l_q rfl (q_move rfl rfl) rfl rfl ?_
      refine l_q rfl (q_move rfl rfl) rfl rfl ?_
      refine l_e rfl ?_
      refine e_buildSliceV (sz := 1) [.tmp 23] rfl rfl rfl rfl rfl Try.underlying42 Try.sizeOf3 rfl Try.zeroValue3 rfl ?_
      intro b2
      refine pull1 ?_
      refine l_e rfl ?_
      refine e_append rfl rfl rfl Try.underlying42 Try.underlying42 info3 rfl rfl rfl rfl rfl (fun _ h => lit_rd (h.at 1 rfl) (encI .i64) [(k : Int)] rfl rfl) (by simp only [byt3, List.length_append, List.length_cons, List.length_nil]; omega) (by simp only [List.length_append, List.length_cons, List.length_nil]; omega) ?_
      intro v2
      refine row_eq (runTo_yes h2) ?_
      refine pull1 ?_
      refine drop0 ?_
      refine l_q rfl (q_assign rfl rfl) rfl rfl ?_
      refine l_nil ?_
      refine k_block ?_
      refine k_then ?_
      refine c_region _ rfl ?_
      refine l_q rfl (q_inc rfl rfl rfl (by omega)) rfl rfl ?_
      refine l_q rfl (q_move rfl rfl) rfl rfl ?_
      refine l_nil ?_
      exact k_round ((k + 1, v2)) (by dsimp only; omega) (by dsimp only; omega) (Sub.cons rfl (Sub.cons rfl (Sub.cons rfl (Sub.cons rfl (Sub.nil))))) (fun _ h => h)
    · simp only [decide_eq_true_eq, decide_eq_false_iff_not, Bool.not_eq_true', Bool.not_eq_false'] at h2
      refine c_false rfl ?_
      refine c_skip ?_
      refine k_block ?_
      refine k_then ?_
      refine c_region _ rfl ?_
      refine l_q rfl (q_inc rfl rfl rfl (by omega)) rfl rfl ?_
      refine l_q rfl (q_move rfl rfl) rfl rfl ?_
      refine l_nil ?_
      exact k_round ((k + 1, v)) (by dsimp only; omega) (by dsimp only; omega) (Sub.cons rfl (Sub.cons rfl (Sub.cons rfl (Sub.cons rfl (Sub.nil))))) (fun _ h => by rw [← runTo_no h2]; exact h)
  · simp only [decide_eq_true_eq, decide_eq_false_iff_not, Bool.not_eq_true', Bool.not_eq_false'] at h
    have hk2 : k = m.n := by omega
    refine c_false rfl ?_
    refine c_exit ?_
    refine k_then_exit ?_
    refine k_then_exit ?_
    refine k_block_exit ?_
    refine k_then ?_
    refine c_seq ?_
    refine c_region _ rfl ?_
    refine l_q rfl (q_move rfl rfl) rfl rfl ?_
    refine l_q rfl (q_assign rfl rfl) rfl rfl ?_
    refine l_nil ?_
    refine k_then ?_
    refine c_ret ?_
    refine r_one rfl rfl ?_
    exact fun _ h => ⟨v, rfl, trivial, by rw [hk2, runTo_n] at h; exact h⟩
set_option maxRecDepth 100000 in
set_option maxHeartbeats 1000000 in
theorem ended_spec {m : Tab} {c : Int} (hm : m.Ok c) (b : Nat) : Con Try.prog 26 [.pointer (some ⟨b, 0, none⟩)] (fun _ => True) [cellsE b 55 (tabC m)] (fun _ : Unit => .bool (endM m)) (fun _ => True) (fun _ => [cellsE b 55 (tabC m)]) := by
  intro w hE hH
  have h8 := hm.n8
  refine enter (n := 21) (vs := [.pointer (some ⟨b, 0, none⟩)]) (St w [b] [cellsE b 55 (tabC m)]) Try.func26 rfl rfl rfl (St.init hH) ?_
  refine c_seq ?_
  refine c_region _ rfl ?_
  refine l_q rfl (q_assign rfl rfl) rfl rfl ?_
  refine l_nil ?_
  refine k_then ?_
  refine c_seq ?_
  refine c_seq ?_
  refine c_draw [(0, some true), (1, some true), (2, some true), (3, some true), (4, some true), (5, some true), (6, some true), (7, some true), (8, some true), (9, some true)] [] [(_, some true), (_, some true), (_, some true), (_, some true), (_, some true), (_, some true), (_, some true), (_, some true), (_, some true), (_, some true)] _ (blind_then (blind_then blind_body)) rfl (by kernel_rfl) (by kernel_rfl) rfl rfl rfl (by kernel_rfl) St.drawn (fun _ h => h) ?_
  refine d_q rfl (q_move rfl rfl) rfl rfl ?_
  refine d_q rfl (q_nilCheck rfl rfl) rfl rfl ?_
  refine d_q rfl (q_fieldAddr rfl Try.underlying55 rfl Try.sizeOf52 rfl rfl) rfl rfl ?_
  refine d_q rfl (q_move rfl rfl) rfl rfl ?_
  refine d_q rfl (q_nilCheck rfl rfl) rfl rfl ?_
  refine d_q rfl (q_fieldAddr rfl Try.underlying55 rfl Try.sizeOf3 rfl rfl) rfl rfl ?_
  refine d_q rfl (q_loadC rfl Try.isAgg3 rfl (fun _ h => h.at 0 rfl) rfl) rfl rfl ?_
  refine d_q rfl (q_sliceArrH m.n rfl Try.underlying52 Try.sizeOf51 rfl rfl rfl (by omega)) rfl rfl ?_
  refine d_q rfl (q_len rfl Try.underlying59 rfl) rfl rfl ?_
  refine d_q rfl (q_move rfl rfl) rfl rfl ?_
  refine d_nil ?_
  refine k_then ?_
  refine c_block ?_
  refine c_loop1 (fun (k : Nat) => [(12, .slice (some ⟨b, 0 + 1, none⟩) m.n 8), (13, .int .i64 (m.n : Int)), (14, .int .i64 (k : Int))]) (fun (k : Nat) => St w [b] [cellsE b 55 (tabC m)]) (fun (k : Nat) => k ≤ m.n ∧ ∀ j, j < k → m.st.getD j 0 = 2) (fun (k : Nat) => m.n - k) (0) ⟨Nat.zero_le _, fun _ h => absurd h (Nat.not_lt_zero _)⟩ (Sub.cons rfl (Sub.cons rfl (Sub.cons rfl (Sub.nil)))) (fun _ h => h) ?_
  intro k hp
  refine c_seq ?_
  obtain ⟨hk, hj⟩ := hp
  refine c_region _ rfl ?_
  refine l_q rfl (q_lss rfl rfl rfl) rfl rfl ?_
  refine l_nil ?_
  refine k_then ?_
  refine c_seq ?_
  refine Pre.caseB 15 rfl (fun h => ?_) (fun h => ?_)
  · simp only [decide_eq_true_eq, decide_eq_false_iff_not, Bool.not_eq_true', Bool.not_eq_false'] at h
    refine c_true rfl ?_
    refine c_skip ?_
    refine k_then ?_
    refine c_seq ?_
    refine c_block ?_
    refine c_seq ?_
    refine c_region _ rfl ?_
    refine l_q rfl (q_indexAddr k rfl Try.underlying59 Try.sizeOf51 rfl rfl rfl (by omega)) rfl rfl ?_
    refine l_q rfl (q_loadC rfl Try.isAgg51 rfl (fun _ h => h.at 0 rfl) (tab_st hm (k := k) (by omega) (by simp))) rfl rfl ?_
    refine l_q rfl (q_assign rfl rfl) rfl rfl ?_
    refine l_nil ?_
    refine k_then ?_
    refine c_seq ?_
    refine c_region _ rfl ?_
    refine l_q rfl (q_move rfl rfl) rfl rfl ?_
    refine l_q rfl (q_neq rfl rfl rfl) rfl rfl ?_
    refine l_nil ?_
    refine k_then ?_
    refine Pre.caseB 19 rfl (fun h2 => ?_) (fun h2 => ?_)
    · simp only [decide_eq_true_eq, decide_eq_false_iff_not, Bool.not_eq_true', Bool.not_eq_false'] at h2
      refine c_true rfl ?_
      refine c_seq ?_
      refine c_region _ rfl ?_
      refine l_q rfl (q_assign rfl rfl) rfl rfl ?_
      refine l_nil ?_
      refine k_then ?_
      refine c_ret ?_
      refine k_block_ret ?_
      refine k_then_ret ?_
      refine k_then_ret ?_
      refine k_block_ret ?_
      refine k_then_ret ?_
      refine r_one rfl rfl ?_
      exact fun _ h => ⟨(), by rw [show endM m = false from by simp only [endM, List.all_eq_false, List.mem_range]; exact ⟨k, by omega, by simpa using h2⟩], trivial, h⟩
    · simp only [decide_eq_true_eq, decide_eq_false_iff_not, Bool.not_eq_true', Bool.not_eq_false'] at h2
      refine c_false rfl ?_
      refine c_skip ?_
      refine k_block ?_
      refine k_then ?_
      refine c_region _ rfl ?_
      refine l_q rfl (q_inc rfl rfl rfl (by omega)) rfl rfl ?_
      refine l_q rfl (q_move rfl rfl) rfl rfl ?_
      refine l_nil ?_
      exact k_round (k + 1) (by omega) ⟨by omega, fun j hj2 => by rcases Nat.lt_succ_iff_lt_or_eq.1 hj2 with h | h; exact hj j h; subst h; exact h2⟩ (Sub.cons rfl (Sub.cons rfl (Sub.cons rfl (Sub.nil)))) (fun _ h => h)
  · simp only [decide_eq_true_eq, decide_eq_false_iff_not, Bool.not_eq_true', Bool.not_eq_false'] at h
    refine c_false rfl ?_
    refine c_exit ?_
    refine k_then_exit ?_
    refine k_then_exit ?_
    refine k_block_exit ?_
    refine k_then ?_
    refine c_seq ?_
    refine c_region _ rfl ?_
    refine l_q rfl (q_assign rfl rfl) rfl rfl ?_
    refine l_nil ?_
    refine k_then ?_
    refine c_ret ?_
    refine r_one rfl rfl ?_
    exact fun _ h => ⟨(), by rw [show endM m = true from by simp only [endM, List.all_eq_true, List.mem_range]; exact fun j hj2 => by simpa using hj j (by omega)], trivial, h⟩
set_option maxRecDepth 100000 in
set_option maxHeartbeats 1000000 in
theorem pick_spec {m : Tab} {c : Int} (hm : m.Ok c) (hc0 : c ≤ 1000000) (b : Nat) (p : Int) : Con Try.prog 10 [.pointer (some ⟨b, 0, none⟩), .int .i64 p] (fun _ => True) [cellsE b 55 (tabC m)] (fun _ : Unit => .tuple #[.int .i64 (whoM m p : Int), .bool (decide (runM m ≠ []))]) (fun _ => True) (fun _ => [cellsE b 55 (tabC (pickM m p))]) := by
  intro w hE hH
  have h8 := hm.n8
  have hrl := runM_len m
  have hq := who_lt (m := m) p
  refine enter (n := 77) (vs := [.pointer (some ⟨b, 0, none⟩), .int .i64 p]) (St w [b] [cellsE b 55 (tabC m)]) Try.func10 rfl rfl rfl (St.init hH) ?_
  refine c_seq ?_
  refine c_region _ rfl ?_
  refine l_q rfl (q_assign rfl rfl) rfl rfl ?_
  refine l_q rfl (q_assign rfl rfl) rfl rfl ?_
  refine l_nil ?_
  refine k_then ?_
  refine c_seq ?_
  refine c_region _ rfl ?_
  refine l_q rfl (q_move rfl rfl) rfl rfl ?_
  refine l_e rfl ?_
  refine e_call_12 (runnable_spec hm b) rfl rfl rfl Try.call24 rfl (fun _ _ => trivial) ?_
  intro v _
  refine l_q rfl (q_assign rfl rfl) rfl rfl ?_
  refine l_nil ?_
  refine k_then ?_
  refine c_seq ?_
  refine c_region _ rfl ?_
  refine l_q rfl (q_move rfl rfl) rfl rfl ?_
  refine l_q rfl (q_lenV rfl Try.underlying42 rfl (fun _ h => h.rd 0 rfl)) rfl rfl ?_
  refine l_q rfl (q_assign rfl rfl) rfl rfl ?_
  refine l_nil ?_
  refine k_then ?_
  refine c_seq ?_
  refine c_seq ?_
  refine c_region _ rfl ?_
  refine l_q rfl (q_move rfl rfl) rfl rfl ?_
  refine l_q rfl (q_eql rfl rfl rfl) rfl rfl ?_
  refine l_nil ?_
  refine k_then ?_
  refine Pre.caseB 16 rfl (fun h0 => ?_) (fun h0 => ?_)
  · simp only [decide_eq_true_eq, decide_eq_false_iff_not, Bool.not_eq_true', Bool.not_eq_false'] at h0
    have h00 : runM m = [] := by simpa [nints] using h0
    have hP : pickM m p = m := by unfold pickM; rw [if_pos h00]
    refine c_true rfl ?_
    refine c_seq ?_
    refine c_region _ rfl ?_
    refine l_q rfl (q_assign rfl rfl) rfl rfl ?_
    refine l_q rfl (q_assign rfl rfl) rfl rfl ?_
    refine l_nil ?_
    refine k_then ?_
    refine c_ret ?_
    refine k_then_ret ?_
    refine r_many (rs := [.tmp 4, .tmp 5]) rfl rfl ?_
    exact fun _ h => ⟨(), by simp [whoM, h00], trivial, by rw [hP]; exact h.drop⟩
  · simp only [decide_eq_true_eq, decide_eq_false_iff_not, Bool.not_eq_true', Bool.not_eq_false'] at h0
    have h00 : runM m ≠ [] := by simpa [nints] using h0
    have hlen : 0 < (runM m).length := List.length_pos_iff.2 h00
    have hnl : (nints (runM m)).length = (runM m).length := nints_len _
    have hjl := who_lt p h00
    have hjg := nints_get (who_get p h00)
    have hwl := runM_lt (who_mem p h00)
    have b1 := Int.tmod_lt_of_pos p (show (0 : Int) < ((nints (runM m)).length : Int) by omega)
    have b2 : -((nints (runM m)).length : Int) < p.tmod ((nints (runM m)).length : Int) := Int.lt_tmod_of_pos p (by omega)
    have hrest := tmod_rest (p := p) (n := ((nints (runM m)).length : Int)) (by omega)
    have hnn := Int.emod_nonneg p (show ((runM m).length : Int) ≠ 0 by omega)
    have hP : pickM m p = toldM (stepsM (whoM m p) m (runM m)) (whoM m p) := by unfold pickM; rw [if_neg h00]
    generalize whoM m p = t at *
    refine c_false rfl ?_
    refine c_skip ?_
    refine k_then ?_
    refine c_seq ?_
    refine c_region _ rfl ?_
    refine l_q rfl (q_move rfl rfl) rfl rfl ?_
    refine l_q rfl (q_move rfl rfl) rfl rfl ?_
    refine l_q rfl (q_move rfl rfl) rfl rfl ?_
    refine l_q rfl (q_rem rfl rfl rfl (by omega)) rfl rfl ?_
    refine l_q rfl (q_move rfl rfl) rfl rfl ?_
    refine l_q rfl (q_add64 rfl rfl rfl (by omega)) rfl rfl ?_
    refine l_q rfl (q_move rfl rfl) rfl rfl ?_
    refine l_q rfl (q_rem_nn rfl rfl rfl (by omega) (by omega)) rfl rfl ?_
    refine Pre.setV (t := 24) (c := .int .i64 ((((p % ((runM m).length : Int)).toNat) : Nat) : Int)) rfl (by rw [hrest, hnl, Int.toNat_of_nonneg hnn]) ?_
    refine l_q rfl (q_indexV ((p % ((runM m).length : Int)).toNat) rfl Try.underlying42 Try.sizeOf3 rfl (fun _ h => h.rd 0 rfl) rfl rfl (by omega)) rfl rfl ?_
    refine l_q rfl (q_loadV ((p % ((runM m).length : Int)).toNat) 0 rfl Try.isAgg3 rfl rfl (fun _ h => h.rd 0 rfl) hjg rfl) rfl rfl ?_
    refine l_q rfl (q_assign rfl rfl) rfl rfl ?_
    refine l_nil ?_
    refine k_then ?_
    refine c_seq ?_
    refine c_seq ?_
    refine c_region _ rfl ?_
    refine l_q rfl (q_move rfl rfl) rfl rfl ?_
    refine l_q rfl (q_lenV rfl Try.underlying42 rfl (fun _ h => h.rd 0 rfl)) rfl rfl ?_
    refine l_q rfl (q_move rfl rfl) rfl rfl ?_
    refine l_nil ?_
    refine k_then ?_
    refine c_block ?_
    refine c_loop1 (fun (i : Nat) => [(0, .pointer (some ⟨b, 0, none⟩)), (8, .int .i64 (t : Int)), (27, v), (28, .int .i64 ((nints (runM m)).length : Int)), (29, .int .i64 (i : Int))]) (fun (i : Nat) => St w [b] [rowE v 3 (encI .i64) (nints (runM m)), cellsE b 55 (tabC (stepsM t m ((runM m).take i)))]) (fun (i : Nat) => i ≤ (runM m).length) (fun (i : Nat) => (runM m).length - i) (0) (Nat.zero_le _) (Sub.cons rfl (Sub.cons rfl (Sub.cons rfl (Sub.cons rfl (Sub.cons rfl (Sub.nil)))))) (fun _ h => h) ?_
    intro i hi
    refine c_seq ?_
    refine c_region _ rfl ?_
    refine l_q rfl (q_lss rfl rfl rfl) rfl rfl ?_
    refine l_nil ?_
    refine k_then ?_
    refine c_seq ?_
    refine Pre.caseB 30 rfl (fun h1 => ?_) (fun h1 => ?_)
    · simp only [decide_eq_true_eq, decide_eq_false_iff_not, Bool.not_eq_true', Bool.not_eq_false'] at h1
      have hi2 : i < (runM m).length := by omega
      obtain ⟨x, hg⟩ : ∃ x, (runM m)[i]? = some x := ⟨_, List.getElem?_eq_getElem hi2⟩
      have hg2 := nints_get hg
      have hx := runM_lt (List.mem_of_getElem? hg)
      have hmi := steps_ok t ((runM m).take i) hm (fun z hz => runM_lt (List.mem_of_mem_take hz))
      have hni := steps_n t ((runM m).take i) m
      have hsn := (congrArg (stepsM t m) (take_snoc' hg)).trans (steps_snoc t m _ x)
      generalize stepsM t m ((runM m).take i) = M at *
      have hwx := hmi.wt0 x (by omega)
      have hw0 := hmi.w0
      have hxM : x < M.n := by omega
      have hc : c + ((runM m).take i).length ≤ 4611686018427387904 := by have := List.length_take_le i (runM m); omega
      refine c_true rfl ?_
      refine c_skip ?_
      refine k_then ?_
      refine c_seq ?_
      refine c_block ?_
      refine c_seq ?_
      refine c_region _ rfl ?_
      refine l_q rfl (q_indexV i rfl Try.underlying42 Try.sizeOf3 rfl (fun _ h => h.rd 0 rfl) rfl rfl (by omega)) rfl rfl ?_
      refine l_q rfl (q_loadV i 0 rfl Try.isAgg3 rfl rfl (fun _ h => h.rd 0 rfl) hg2 rfl) rfl rfl ?_
      refine l_q rfl (q_assign rfl rfl) rfl rfl ?_
      refine l_nil ?_
      refine k_then ?_
      refine c_seq ?_
      refine c_region _ rfl ?_
      refine l_q rfl (q_move rfl rfl) rfl rfl ?_
      refine l_q rfl (q_move rfl rfl) rfl rfl ?_
      refine l_q rfl (q_neq rfl rfl rfl) rfl rfl ?_
      refine l_nil ?_
      refine k_then ?_
      refine Pre.caseB 35 rfl (fun h2 => ?_) (fun h2 => ?_)
      · simp only [decide_eq_true_eq, decide_eq_false_iff_not, Bool.not_eq_true', Bool.not_eq_false'] at h2
        have hxt : x ≠ t := by omega
        unfold stepM at hsn
        rw [if_neg hxt] at hsn
        have hm1 : Tab.Ok { M with wt := M.wt.set x (M.wt.getD x 0 + 1) } (c + ((runM m).take i).length + 1) := by have := step_ok hmi hxM t; unfold stepM at this; rw [if_neg hxt] at this; exact ⟨this.n1, this.n8, this.st, this.wt, this.pk, this.wt0, this.pk0, by simp only; omega⟩
        have hg1 : (M.wt.set x (M.wt.getD x 0 + 1)).getD x 0 = M.wt.getD x 0 + 1 := by rw [getD_set, if_pos ⟨rfl, by rw [hmi.wt]; exact hxM⟩]
        refine c_true rfl ?_
        refine c_seq ?_
        refine c_draw [(0, some true), (1, some true), (2, some true), (3, some true), (4, some true), (5, some true), (6, some true), (7, some true), (8, some true), (9, some true), (10, none)] [10] [(_, some true), (_, some true), (_, some true), (_, some true), (_, some true), (_, some true), (_, some true), (_, some true), (_, some true), (_, some true), (_, none)] _ (blind_then (blind_block (blind_then (blind_then (blind_block (blind_then blind_body)))))) rfl (by kernel_rfl) (by kernel_rfl) rfl rfl rfl (by kernel_rfl) St.drawn (fun _ h => h) ?_
        refine d_q rfl (q_move rfl rfl) rfl rfl ?_
        refine d_q rfl (q_move rfl rfl) rfl rfl ?_
        refine d_q rfl (q_nilCheck rfl rfl) rfl rfl ?_
        refine d_q rfl (q_fieldAddr rfl Try.underlying55 rfl Try.sizeOf53 rfl rfl) rfl rfl ?_
        refine d_q rfl (q_indexArr x rfl Try.underlying53 Try.sizeOf3 rfl rfl rfl (by omega)) rfl rfl ?_
        refine d_q rfl (q_loadC rfl Try.isAgg3 rfl (fun _ h => h.at 1 rfl) (tab_wt hmi (k := x) hxM (by simp))) rfl rfl ?_
        refine d_q rfl (q_add64 rfl rfl rfl (by omega)) rfl rfl ?_
        refine d_q rfl (q_nilCheck rfl rfl) rfl rfl ?_
        refine d_q rfl (q_fieldAddr rfl Try.underlying55 rfl Try.sizeOf53 rfl rfl) rfl rfl ?_
        refine d_q rfl (q_indexArr x rfl Try.underlying53 Try.sizeOf3 rfl rfl rfl (by omega)) rfl rfl ?_
        refine pull1 ?_
        refine d_t rfl ?_
        refine e_store rfl rfl Try.sizeOf3 rfl rfl rfl (by rw [tab_len hmi]; show 0 + 9 + x * 1 < 26; omega) ?_
        refine cells_eq (set_wt hmi (M.wt.getD x 0 + 1) (k := x) hxM (by simp)) ?_
        refine d_nil ?_
        refine k_then ?_
        refine c_draw [(0, some true), (1, some true), (2, some true), (3, some true), (4, some true), (5, some true), (6, some true), (7, some true), (8, some true), (9, some true), (10, some true), (11, some true), (12, some true), (13, some true), (14, none)] [14] [(_, some true), (_, some true), (_, some true), (_, some true), (_, some true), (_, some true), (_, some true), (_, some true), (_, some true), (_, some true), (_, some true), (_, some true), (_, some true), (_, some true), (_, none)] _ (blind_block (blind_then (blind_then (blind_block (blind_then blind_body))))) rfl (by kernel_rfl) (by kernel_rfl) rfl rfl rfl (by kernel_rfl) St.drawn (fun _ h => h) ?_
        refine d_q rfl (q_move rfl rfl) rfl rfl ?_
        refine d_q rfl (q_move rfl rfl) rfl rfl ?_
        refine d_q rfl (q_nilCheck rfl rfl) rfl rfl ?_
        refine d_q rfl (q_fieldAddr rfl Try.underlying55 rfl Try.sizeOf3 rfl rfl) rfl rfl ?_
        refine d_q rfl (q_loadC rfl Try.isAgg3 rfl (fun _ h => h.at 0 rfl) (tab_worst hm1 rfl)) rfl rfl ?_
        refine d_q rfl (q_move rfl rfl) rfl rfl ?_
        refine d_q rfl (q_move rfl rfl) rfl rfl ?_
        refine d_q rfl (q_nilCheck rfl rfl) rfl rfl ?_
        refine d_q rfl (q_fieldAddr rfl Try.underlying55 rfl Try.sizeOf53 rfl rfl) rfl rfl ?_
        refine d_q rfl (q_indexArr x rfl Try.underlying53 Try.sizeOf3 rfl rfl rfl (by omega)) rfl rfl ?_
        refine d_q rfl (q_loadC rfl Try.isAgg3 rfl (fun _ h => h.at 0 rfl) ((tab_wt hm1 (k := x) hxM (by simp)).trans (by show some (Value.int .i64 ((M.wt.set x (M.wt.getD x 0 + 1)).getD x 0)) = _; rw [hg1]))) rfl rfl ?_
        refine d_q rfl (q_max rfl rfl rfl) rfl rfl ?_
        refine d_q rfl (q_nilCheck rfl rfl) rfl rfl ?_
        refine d_q rfl (q_fieldAddr rfl Try.underlying55 rfl Try.sizeOf3 rfl rfl) rfl rfl ?_
        refine d_t rfl ?_
        refine e_store rfl rfl Try.sizeOf3 rfl rfl rfl (by rw [tab_len hm1]; show 0 + 25 < 26; omega) ?_
        refine cells_eq (set_worst hm1 _ rfl) ?_
        refine d_nil ?_
        refine k_block ?_
        refine k_then ?_
        refine c_region _ rfl ?_
        refine l_q rfl (q_inc rfl rfl rfl (by omega)) rfl rfl ?_
        refine l_q rfl (q_move rfl rfl) rfl rfl ?_
        refine l_nil ?_
        refine pull1 ?_
        exact k_round (i + 1) (by omega) (by omega) (Sub.cons rfl (Sub.cons rfl (Sub.cons rfl (Sub.cons rfl (Sub.cons rfl (Sub.nil)))))) (fun _ h => by rw [hsn]; exact h)
      · simp only [decide_eq_true_eq, decide_eq_false_iff_not, Bool.not_eq_true', Bool.not_eq_false'] at h2
        have hxt : x = t := by omega
        unfold stepM at hsn
        rw [if_pos hxt] at hsn
        refine c_false rfl ?_
        refine c_skip ?_
        refine k_block ?_
        refine k_then ?_
        refine c_region _ rfl ?_
        refine l_q rfl (q_inc rfl rfl rfl (by omega)) rfl rfl ?_
        refine l_q rfl (q_move rfl rfl) rfl rfl ?_
        refine l_nil ?_
        exact k_round (i + 1) (by omega) (by omega) (Sub.cons rfl (Sub.cons rfl (Sub.cons rfl (Sub.cons rfl (Sub.cons rfl (Sub.nil)))))) (fun _ h => by rw [hsn]; exact h)
    · simp only [decide_eq_true_eq, decide_eq_false_iff_not, Bool.not_eq_true', Bool.not_eq_false'] at h1
      have hfin : (runM m).take i = runM m := List.take_of_length_le (by omega)
      have hmi := steps_ok t (runM m) hm (fun z hz => runM_lt hz)
      have hni := steps_n t (runM m) m
      rw [hfin]
      unfold toldM at hP
      generalize stepsM t m (runM m) = M at *
      have htM : t < M.n := by omega
      have hpt := hmi.pk0 t htM
      have hw0 := hmi.w0
      have hm1 : Tab.Ok { M with wt := M.wt.set t 0 } (c + (runM m).length) := ⟨hmi.n1, hmi.n8, hmi.st, by simp [hmi.wt], hmi.pk, fun k hk => by have := hmi.wt0 k hk; simp only [getD_set]; split <;> omega, hmi.pk0, hmi.w0⟩
      refine c_false rfl ?_
      refine c_exit ?_
      refine k_then_exit ?_
      refine k_then_exit ?_
      refine k_block_exit ?_
      refine k_then ?_
      refine c_seq ?_
      refine c_region _ rfl ?_
      refine l_q rfl (q_move rfl rfl) rfl rfl ?_
      refine l_q rfl (q_move rfl rfl) rfl rfl ?_
      refine l_q rfl (q_nilCheck rfl rfl) rfl rfl ?_
      refine l_q rfl (q_fieldAddr rfl Try.underlying55 rfl Try.sizeOf53 rfl rfl) rfl rfl ?_
      refine l_q rfl (q_indexArr t rfl Try.underlying53 Try.sizeOf3 rfl rfl rfl (by omega)) rfl rfl ?_
      refine pull1 ?_
      refine l_e rfl ?_
      refine e_store rfl rfl Try.sizeOf3 rfl rfl rfl (by rw [tab_len hmi]; show 0 + 9 + t * 1 < 26; omega) ?_
      refine cells_eq (set_wt hmi 0 (k := t) htM (by simp)) ?_
      refine l_nil ?_
      refine k_then ?_
      refine c_seq ?_
      refine c_draw [(0, some true), (1, some true), (2, some true), (3, some true), (4, some true), (5, some true), (6, some true), (7, some true), (8, some true), (9, some true), (10, none)] [10] [(_, some true), (_, some true), (_, some true), (_, some true), (_, some true), (_, some true), (_, some true), (_, some true), (_, some true), (_, some true), (_, none)] _ (blind_then blind_body) rfl (by kernel_rfl) (by kernel_rfl) rfl rfl rfl (by kernel_rfl) St.drawn (fun _ h => h) ?_
      refine d_q rfl (q_move rfl rfl) rfl rfl ?_
      refine d_q rfl (q_move rfl rfl) rfl rfl ?_
      refine d_q rfl (q_nilCheck rfl rfl) rfl rfl ?_
      refine d_q rfl (q_fieldAddr rfl Try.underlying55 rfl Try.sizeOf53 rfl rfl) rfl rfl ?_
      refine d_q rfl (q_indexArr t rfl Try.underlying53 Try.sizeOf3 rfl rfl rfl (by omega)) rfl rfl ?_
      refine d_q rfl (q_loadC rfl Try.isAgg3 rfl (fun _ h => h.at 0 rfl) (tab_pk hm1 (k := t) htM (by simp))) rfl rfl ?_
      refine d_q rfl (q_add64 rfl rfl rfl (by show _ ≤ M.pk.getD t 0 + 1 ∧ M.pk.getD t 0 + 1 ≤ _; omega)) rfl rfl ?_
      refine d_q rfl (q_nilCheck rfl rfl) rfl rfl ?_
      refine d_q rfl (q_fieldAddr rfl Try.underlying55 rfl Try.sizeOf53 rfl rfl) rfl rfl ?_
      refine d_q rfl (q_indexArr t rfl Try.underlying53 Try.sizeOf3 rfl rfl rfl (by omega)) rfl rfl ?_
      refine d_t rfl ?_
      refine e_store rfl rfl Try.sizeOf3 rfl rfl rfl (by rw [tab_len hm1]; show 0 + 17 + t * 1 < 26; omega) ?_
      refine cells_eq (set_pk hm1 _ (k := t) htM (by simp)) ?_
      refine d_nil ?_
      refine k_then ?_
      refine c_seq ?_
      refine c_region _ rfl ?_
      refine l_q rfl (q_move rfl rfl) rfl rfl ?_
      refine l_q rfl (q_assign rfl rfl) rfl rfl ?_
      refine l_q rfl (q_assign rfl rfl) rfl rfl ?_
      refine l_nil ?_
      refine k_then ?_
      refine c_ret ?_
      refine r_many (rs := [.tmp 4, .tmp 5]) rfl rfl ?_
      exact fun _ h => ⟨(), by rw [show decide (runM m ≠ []) = true from by simpa using h00], trivial, by rw [hP]; exact h.sublist (List.cons_sublist_cons.2 (List.nil_sublist _))⟩
end Go.Proofs.Ytjanmpghcigigaa
