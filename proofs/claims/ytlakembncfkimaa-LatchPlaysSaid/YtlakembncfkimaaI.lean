/- latch: the reference, on -/
import Derived.Test.YtlakembncfkimaaH
set_option linter.unusedVariables false
set_option linter.unusedSimpArgs false
namespace Go.Proofs.Ytlakembncfkimaa
open Go.Sep Go.RowKit

set_option maxRecDepth 100000 in
set_option maxHeartbeats 1000000 in
theorem in_spec {m : La} {n : Nat} (hm : m.Ok n) (hn : n ≤ 60000) (b : Nat) (vR vQ : Value) : Con Try.prog 47 [.pointer (some ⟨b, 0, none⟩)] (fun _ => True) (RT b vR vQ m) (fun v : Value × Value × Value => v.1) (fun _ => True) (fun v => rowE v.1 3 (encI .i64) (letL m).1 :: RT b v.2.1 v.2.2 (letL m).2) := by
  intro w hE hH
  refine enter (n := 50) (vs := [.pointer (some ⟨b, 0, none⟩)]) (St w (dom (RT b vR vQ m)) (RT b vR vQ (m))) Try.func47 rfl rfl rfl (St.init hH) ?_
  refine c_seq ?_
  refine c_region _ rfl ?_
  refine l_q rfl (q_assign rfl rfl) rfl rfl ?_
  refine l_nil ?_
  refine k_then ?_
  refine c_seq ?_
  refine c_region _ rfl ?_
  refine l_q rfl (q_assign rfl rfl) rfl rfl ?_
  refine l_nil ?_
  refine k_then ?_
  refine c_seq ?_
  refine c_block ?_
  refine row0 3 (encI .i64) none ?_
  refine c_loop5 (fun (m2 : La) (acc : List Int) (v : Value) (vR2 : Value) (vQ2 : Value) => [(0, .pointer (some ⟨b, 0, none⟩)), (3, v)]) (fun (m2 : La) (acc : List Int) (v : Value) (vR2 : Value) (vQ2 : Value) => St w (dom (RT b vR vQ m)) (rowE v 3 (encI .i64) acc :: RT b vR2 vQ2 m2)) (fun (m2 : La) (acc : List Int) (v : Value) (vR2 : Value) (vQ2 : Value) => m2.Ok n ∧ letL m = (acc ++ (letL m2).1, (letL m2).2) ∧ acc.length + m2.q.length ≤ n) (fun (m2 : La) (acc : List Int) (v : Value) (vR2 : Value) (vQ2 : Value) => m2.q.length) (m) ([]) (.slice none 0 0) (vR) (vQ) ⟨hm, rfl, by have := hm.lens; simp; omega⟩ (Sub.cons rfl (Sub.cons rfl (Sub.nil))) (fun _ h => h) ?_
  intro m2 acc v vR2 vQ2 hp
  refine c_seq ?_
  refine c_seq ?_
  obtain ⟨hm2, hlet, hlen⟩ := hp
  obtain ⟨hlr, hlq⟩ := hm2.lens
  refine c_region _ rfl ?_
  refine l_q rfl (q_move rfl rfl) rfl rfl ?_
  refine l_q rfl (q_nilCheck rfl rfl) rfl rfl ?_
  refine l_q rfl (q_fieldAddr rfl Try.underlying53 rfl Try.sizeOf33 rfl rfl) rfl rfl ?_
  refine l_q rfl (q_loadC rfl Try.isAgg33 rfl (fun _ h => h.at 1 rfl) rfl) rfl rfl ?_
  refine l_q rfl (q_lenV rfl Try.underlying33 rfl (fun _ h => h.rd 3 rfl)) rfl rfl ?_
  refine l_q rfl (q_gtr rfl rfl rfl) rfl rfl ?_
  refine l_q rfl (q_move rfl rfl) rfl rfl ?_
  refine Pre.caseB 11 rfl (fun h1 => ?_) (fun h1 => ?_)
  · try simp only [decide_eq_true_eq, decide_eq_false_iff_not, Bool.not_eq_true', Bool.not_eq_false'] at h1
    obtain ⟨y, q, hq⟩ : ∃ y q, m2.q = y :: q := by
      cases hq : m2.q with
      | nil => rw [hq] at h1; simp at h1
      | cons y q => exact ⟨y, q, rfl⟩
    have hy : m2.q[0]? = some y := by rw [hq]; rfl
    refine l_q rfl (q_move rfl rfl) rfl rfl ?_
    refine l_q rfl (q_move rfl rfl) rfl rfl ?_
    refine l_q rfl (q_nilCheck rfl rfl) rfl rfl ?_
    refine l_q rfl (q_fieldAddr rfl Try.underlying53 rfl Try.sizeOf33 rfl rfl) rfl rfl ?_
    refine l_q rfl (q_loadC rfl Try.isAgg33 rfl (fun _ h => h.at 1 rfl) rfl) rfl rfl ?_
    refine l_q rfl (q_indexV 0 rfl Try.underlying33 Try.sizeOf41 rfl (fun _ h => h.rd 3 rfl) rfl rfl (by omega)) rfl rfl ?_
    refine l_q rfl (q_fieldAddr rfl Try.underlying41 rfl Try.sizeOf4 rfl rfl) rfl rfl ?_
    refine l_q rfl (q_loadV 0 1 rfl Try.isAgg4 rfl rfl (fun _ h => h.rd 3 rfl) hy rfl) rfl rfl ?_
    refine pull3 ?_
    refine pull3 ?_
    refine pull3 ?_
    refine l_e rfl ?_
    refine e_call_33 (can_spec hm2 hn b vR2 vQ2 y.2) rfl rfl rfl Try.call45 rfl (fun _ _ => trivial) ?_
    intro _ _
    refine l_q rfl (q_pick_t rfl rfl rfl) rfl rfl ?_
    refine l_nil ?_
    refine k_then ?_
    refine Pre.caseB 21 rfl (fun h2 => ?_) (fun h2 => ?_)
    · have hgo := let_go hq h2
      have hok := ok_go hm2 hq h2
      have hdrop : (m2.q.take m2.q.length).drop 1 = q := by rw [List.take_length, hq]; rfl
      have hdl := congrArg List.length hdrop
      have hql2 : q.length < m2.q.length := by rw [hq]; simp
      refine c_true rfl ?_
      refine c_skip ?_
      refine k_then ?_
      refine c_block ?_
      refine c_seq ?_
      refine c_region _ rfl ?_
      refine l_q rfl (q_move rfl rfl) rfl rfl ?_
      refine l_q rfl (q_nilCheck rfl rfl) rfl rfl ?_
      refine l_q rfl (q_fieldAddr rfl Try.underlying53 rfl Try.sizeOf33 rfl rfl) rfl rfl ?_
      refine l_q rfl (q_loadC rfl Try.isAgg33 rfl (fun _ h => h.at 0 rfl) rfl) rfl rfl ?_
      refine l_q rfl (q_indexV 0 rfl Try.underlying33 Try.sizeOf41 rfl (fun _ h => h.rd 2 rfl) rfl rfl (by omega)) rfl rfl ?_
      refine l_q rfl (q_loadVAgg 0 rfl Try.isAgg41 Try.sizeOf41 rfl rfl (fun _ h => h.rd 2 rfl) hy) rfl rfl ?_
      refine l_e rfl ?_
      refine e_alloc rfl rfl rfl Try.zeroValue41 ?_
      intro bw
      refine l_e rfl ?_
      refine e_storeAgg rfl rfl Try.sizeOf41 rfl rfl rfl (encW.one y) (Nat.le_of_ble_eq_true rfl) ?_
      refine cells_eq (show _ = [.int .i64 y.1, .bool y.2] from rfl) ?_
      refine l_nil ?_
      refine k_then ?_
      refine c_seq ?_
      refine c_region _ rfl ?_
      refine l_q rfl (q_move rfl rfl) rfl rfl ?_
      refine l_e rfl ?_
      refine e_buildSliceV (sz := 2) [] rfl rfl rfl rfl rfl Try.underlying33 Try.sizeOf41 rfl Try.zeroValue41 rfl ?_
      intro bq
      refine rowLit encW [] rfl rfl ?_
      refine l_q rfl (q_move rfl rfl) rfl rfl ?_
      refine l_q rfl (q_nilCheck rfl rfl) rfl rfl ?_
      refine l_q rfl (q_fieldAddr rfl Try.underlying53 rfl Try.sizeOf33 rfl rfl) rfl rfl ?_
      refine l_q rfl (q_loadC rfl Try.isAgg33 rfl (fun _ h => h.at 2 rfl) rfl) rfl rfl ?_
      refine l_q rfl (q_sliceVL 1 rfl Try.underlying33 Try.sizeOf41 rfl (fun _ h => h.rd 4 rfl) rfl rfl (by omega)) rfl rfl ?_
      refine l_e rfl ?_
      refine e_append rfl rfl rfl Try.underlying33 Try.underlying33 info41 rfl rfl rfl rfl rfl (fun _ h => vsl_rd (h.rd 4 rfl) (lo := 1) (hi := m2.q.length) (by omega) (Nat.le_refl _)) (by simp only [byt41, List.length_append, List.length_cons, List.length_nil]; omega) (by simp only [List.length_append, List.length_cons, List.length_nil]; omega) ?_
      intro vq3
      refine l_q rfl (q_nilCheck rfl rfl) rfl rfl ?_
      refine l_q rfl (q_fieldAddr rfl Try.underlying53 rfl Try.sizeOf33 rfl rfl) rfl rfl ?_
      refine row_eq (l' := q) (by rw [List.nil_append]; exact hdrop) ?_
      refine Pre.fact (fun _ h => row_one' (h.at 0 rfl)) ?_
      intro hone
      refine pull2 ?_
      refine l_e rfl ?_
      refine e_store rfl rfl Try.sizeOf33 rfl rfl hone (Nat.le_of_ble_eq_true rfl) ?_
      refine l_nil ?_
      refine k_then ?_
      refine c_seq ?_
      refine c_region _ rfl ?_
      refine l_q rfl (q_move rfl rfl) rfl rfl ?_
      refine l_q rfl (q_fieldAddr rfl Try.underlying41 rfl Try.sizeOf3 rfl rfl) rfl rfl ?_
      refine l_q rfl (q_loadC rfl Try.isAgg3 rfl (fun _ h => h.at 2 rfl) rfl) rfl rfl ?_
      refine l_q rfl (q_fieldAddr rfl Try.underlying41 rfl Try.sizeOf4 rfl rfl) rfl rfl ?_
      refine l_q rfl (q_loadC rfl Try.isAgg4 rfl (fun _ h => h.at 2 rfl) rfl) rfl rfl ?_
      refine pull4 ?_
      refine drop0 ?_
      refine pull1 ?_
      refine pull3 ?_
      refine pull2 ?_
      refine l_e rfl ?_
      refine e_call_33 (rgive_spec (m := { m2 with q := q }) (show m2.rd.length ≤ 60000 by omega) b vR2 _ y.1 y.2) rfl rfl rfl Try.call46 rfl (fun _ _ => trivial) ?_
      intro vR3 _
      refine l_nil ?_
      refine k_then ?_
      refine c_region _ rfl ?_
      refine l_q rfl (q_move rfl rfl) rfl rfl ?_
      refine l_q rfl (q_fieldAddr rfl Try.underlying41 rfl Try.sizeOf3 rfl rfl) rfl rfl ?_
      refine l_q rfl (q_loadC rfl Try.isAgg3 rfl (fun _ h => h.at 3 rfl) rfl) rfl rfl ?_
      refine l_e rfl ?_
      refine e_buildSliceV (sz := 1) [.tmp 46] rfl rfl rfl rfl rfl Try.underlying27 Try.sizeOf3 rfl Try.zeroValue3 rfl ?_
      intro b1
      refine pull5 ?_
      refine l_e rfl ?_
      refine e_append rfl rfl rfl Try.underlying27 Try.underlying27 info3 rfl rfl rfl rfl rfl (fun _ h => lit_rd (h.at 1 rfl) (encI .i64) [y.1] rfl rfl) (by simp only [byt3, List.length_append, List.length_cons, List.length_nil]; omega) (by simp only [List.length_append, List.length_cons, List.length_nil]; omega) ?_
      intro v3
      refine l_q rfl (q_assign rfl rfl) rfl rfl ?_
      refine l_nil ?_
      refine k_block ?_
      refine pull1 ?_
      refine drop0 ?_
      refine pull4 ?_
      refine drop0 ?_
      refine pull3 ?_
      refine pull3 ?_
      refine pull3 ?_
      refine pull3 ?_
      exact k_round ((giveL { m2 with q := q } y.1 y.2, acc ++ [y.1], v3, vR3, vq3)) (by dsimp only; rw [give_q, hq]; simp) ⟨hok, by rw [hlet, hgo]; simp, by rw [give_q]; rw [hq] at hlen; simp at hlen ⊢; omega⟩ (Sub.cons rfl (Sub.cons rfl (Sub.nil))) (fun _ h => h)
    · have hst := let_stop (m := m2) (.inr ⟨y, q, hq, h2⟩)
      refine c_false rfl ?_
      refine c_exit ?_
      refine k_then_exit ?_
      refine k_then_exit ?_
      refine k_block_exit ?_
      refine k_then ?_
      refine c_seq ?_
      refine c_region _ rfl ?_
      refine l_q rfl (q_move rfl rfl) rfl rfl ?_
      refine l_q rfl (q_assign rfl rfl) rfl rfl ?_
      refine l_nil ?_
      refine k_then ?_
      refine c_ret ?_
      refine pull2 ?_
      refine pull2 ?_
      refine pull2 ?_
      refine pull3 ?_
      refine r_one rfl rfl ?_
      exact fun _ h => ⟨(v, vR2, vQ2), rfl, trivial, by rw [hlet, hst, List.append_nil]; exact h⟩
  · try simp only [decide_eq_true_eq, decide_eq_false_iff_not, Bool.not_eq_true', Bool.not_eq_false'] at h1
    have hst := let_stop (m := m2) (.inl (List.eq_nil_of_length_eq_zero (by omega)))
    refine l_not rfl rfl rfl ?_
    refine l_not rfl rfl rfl ?_
    refine l_not rfl rfl rfl ?_
    refine l_not rfl rfl rfl ?_
    refine l_not rfl rfl rfl ?_
    refine l_not rfl rfl rfl ?_
    refine l_not rfl rfl rfl ?_
    refine l_not rfl rfl rfl ?_
    refine l_not rfl rfl rfl ?_
    refine l_q rfl (q_pick_f rfl rfl rfl) rfl rfl ?_
    refine l_nil ?_
    refine k_then ?_
    refine c_false rfl ?_
    refine c_exit ?_
    refine k_then_exit ?_
    refine k_then_exit ?_
    refine k_block_exit ?_
    refine k_then ?_
    refine c_seq ?_
    refine c_region _ rfl ?_
    refine l_q rfl (q_move rfl rfl) rfl rfl ?_
    refine l_q rfl (q_assign rfl rfl) rfl rfl ?_
    refine l_nil ?_
    refine k_then ?_
    refine c_ret ?_
    refine r_one rfl rfl ?_
    exact fun _ h => ⟨(v, vR2, vQ2), rfl, trivial, by rw [hlet, hst, List.append_nil]; exact h⟩
set_option maxRecDepth 100000 in
set_option maxHeartbeats 1000000 in
theorem rtry_spec {m : La} {n : Nat} (hm : m.Ok n) (hn : n ≤ 60000) (b : Nat) (vR vQ : Value) (t : Int) (wr : Bool) : Con Try.prog 23 [.pointer (some ⟨b, 0, none⟩), .int .i64 t, .bool wr] (fun _ => True) (RT b vR vQ m) (fun _ : Value => .bool (tryB m t wr)) (fun _ => True) (fun v => RT b v vQ (tryL m t wr)) := by
  intro w hE hH
  obtain ⟨hlr, hlq⟩ := hm.lens
  have hmh := may_has m t
  refine enter (n := 37) (vs := [.pointer (some ⟨b, 0, none⟩), .int .i64 t, .bool wr]) (St w (dom (RT b vR vQ m)) (RT b vR vQ (m))) Try.func23 rfl rfl rfl (St.init hH) ?_
  refine c_seq ?_
  refine c_region _ rfl ?_
  refine l_q rfl (q_assign rfl rfl) rfl rfl ?_
  refine l_nil ?_
  refine k_then ?_
  refine c_seq ?_
  refine c_seq ?_
  refine c_region _ rfl ?_
  refine l_q rfl (q_move rfl rfl) rfl rfl ?_
  refine l_q rfl (q_lss rfl rfl rfl) rfl rfl ?_
  refine l_q rfl (q_move rfl rfl) rfl rfl ?_
  refine Pre.caseB 9 rfl (fun h1 => ?_) (fun h1 => ?_)
  · try simp only [decide_eq_true_eq, decide_eq_false_iff_not, Bool.not_eq_true', Bool.not_eq_false'] at h1
    refine l_not rfl rfl rfl ?_
    refine l_not rfl rfl rfl ?_
    refine l_not rfl rfl rfl ?_
    refine l_q rfl (q_pick_t rfl rfl rfl) rfl rfl ?_
    refine l_q rfl (q_move rfl rfl) rfl rfl ?_
    refine l_not rfl rfl rfl ?_
    refine l_not rfl rfl rfl ?_
    refine l_not rfl rfl rfl ?_
    refine l_q rfl (q_pick_t rfl rfl rfl) rfl rfl ?_
    refine l_q rfl (q_move rfl rfl) rfl rfl ?_
    refine l_not rfl rfl rfl ?_
    refine l_not rfl rfl rfl ?_
    refine l_not rfl rfl rfl ?_
    refine l_not rfl rfl rfl ?_
    refine l_not rfl rfl rfl ?_
    refine l_not rfl rfl rfl ?_
    refine l_q rfl (q_pick_t rfl rfl rfl) rfl rfl ?_
    refine l_q rfl (q_move rfl rfl) rfl rfl ?_
    refine l_not rfl rfl rfl ?_
    refine l_not rfl rfl rfl ?_
    refine l_not rfl rfl rfl ?_
    refine l_not rfl rfl rfl ?_
    refine l_q rfl (q_pick_t rfl rfl rfl) rfl rfl ?_
    refine l_nil ?_
    refine k_then ?_
    refine c_true rfl ?_
    refine c_seq ?_
    refine c_region _ rfl ?_
    refine l_q rfl (q_assign rfl rfl) rfl rfl ?_
    refine l_nil ?_
    refine k_then ?_
    refine c_ret ?_
    refine k_then_ret ?_
    have e : tryB m t wr = false := by first | (unfold tryB; rw [hmh]; simp [*]; done) | (unfold tryB; rw [hmh, show decide (0 ≤ t) = false from decide_eq_false (by omega)]; simp; done) | (unfold tryB; rw [show decide (m.q.length = 0) = false from decide_eq_false (by omega)]; simp; done)
    refine r_one rfl rfl ?_
    exact fun _ h => ⟨vR, congrArg (fun z => Ending.returned (Value.bool z)) e.symm, trivial, by unfold tryL; rw [e]; exact h⟩
  · try simp only [decide_eq_true_eq, decide_eq_false_iff_not, Bool.not_eq_true', Bool.not_eq_false'] at h1
    refine l_q rfl (q_move rfl rfl) rfl rfl ?_
    refine l_q rfl (q_move rfl rfl) rfl rfl ?_
    refine pull2 ?_
    refine pull2 ?_
    refine pull2 ?_
    refine l_e rfl ?_
    refine e_call_33 (has_spec hm hn b vR vQ t) rfl rfl rfl Try.call43 rfl (fun _ _ => trivial) ?_
    intro _ _
    refine l_q rfl (q_pick_f rfl rfl rfl) rfl rfl ?_
    refine l_q rfl (q_move rfl rfl) rfl rfl ?_
    refine Pre.caseB 14 rfl (fun h2 => ?_) (fun h2 => ?_)
    · try simp only [decide_eq_true_eq, decide_eq_false_iff_not, Bool.not_eq_true', Bool.not_eq_false'] at h2
      refine l_not rfl rfl rfl ?_
      refine l_not rfl rfl rfl ?_
      refine l_not rfl rfl rfl ?_
      refine l_q rfl (q_pick_t rfl rfl rfl) rfl rfl ?_
      refine l_q rfl (q_move rfl rfl) rfl rfl ?_
      refine l_not rfl rfl rfl ?_
      refine l_not rfl rfl rfl ?_
      refine l_not rfl rfl rfl ?_
      refine l_not rfl rfl rfl ?_
      refine l_not rfl rfl rfl ?_
      refine l_not rfl rfl rfl ?_
      refine l_q rfl (q_pick_t rfl rfl rfl) rfl rfl ?_
      refine l_q rfl (q_move rfl rfl) rfl rfl ?_
      refine l_not rfl rfl rfl ?_
      refine l_not rfl rfl rfl ?_
      refine l_not rfl rfl rfl ?_
      refine l_not rfl rfl rfl ?_
      refine l_q rfl (q_pick_t rfl rfl rfl) rfl rfl ?_
      refine l_nil ?_
      refine k_then ?_
      refine c_true rfl ?_
      refine c_seq ?_
      refine c_region _ rfl ?_
      refine l_q rfl (q_assign rfl rfl) rfl rfl ?_
      refine l_nil ?_
      refine k_then ?_
      refine c_ret ?_
      refine k_then_ret ?_
      have e : tryB m t wr = false := by first | (unfold tryB; rw [hmh]; simp [*]; done) | (unfold tryB; rw [hmh, show decide (0 ≤ t) = false from decide_eq_false (by omega)]; simp; done) | (unfold tryB; rw [show decide (m.q.length = 0) = false from decide_eq_false (by omega)]; simp; done)
      refine r_one rfl rfl ?_
      exact fun _ h => ⟨vR, congrArg (fun z => Ending.returned (Value.bool z)) e.symm, trivial, by unfold tryL; rw [e]; exact h⟩
    · try simp only [decide_eq_true_eq, decide_eq_false_iff_not, Bool.not_eq_true', Bool.not_eq_false'] at h2
      refine l_q rfl (q_move rfl rfl) rfl rfl ?_
      refine l_q rfl (q_move rfl rfl) rfl rfl ?_
      refine pull2 ?_
      refine pull2 ?_
      refine pull2 ?_
      refine l_e rfl ?_
      refine e_call_33 (queued_spec hm hn b vR vQ t) rfl rfl rfl Try.call44 rfl (fun _ _ => trivial) ?_
      intro _ _
      refine l_q rfl (q_pick_f rfl rfl rfl) rfl rfl ?_
      refine l_q rfl (q_move rfl rfl) rfl rfl ?_
      refine Pre.caseB 19 rfl (fun h3 => ?_) (fun h3 => ?_)
      · try simp only [decide_eq_true_eq, decide_eq_false_iff_not, Bool.not_eq_true', Bool.not_eq_false'] at h3
        refine l_not rfl rfl rfl ?_
        refine l_not rfl rfl rfl ?_
        refine l_not rfl rfl rfl ?_
        refine l_not rfl rfl rfl ?_
        refine l_not rfl rfl rfl ?_
        refine l_not rfl rfl rfl ?_
        refine l_q rfl (q_pick_t rfl rfl rfl) rfl rfl ?_
        refine l_q rfl (q_move rfl rfl) rfl rfl ?_
        refine l_not rfl rfl rfl ?_
        refine l_not rfl rfl rfl ?_
        refine l_not rfl rfl rfl ?_
        refine l_not rfl rfl rfl ?_
        refine l_q rfl (q_pick_t rfl rfl rfl) rfl rfl ?_
        refine l_nil ?_
        refine k_then ?_
        refine c_true rfl ?_
        refine c_seq ?_
        refine c_region _ rfl ?_
        refine l_q rfl (q_assign rfl rfl) rfl rfl ?_
        refine l_nil ?_
        refine k_then ?_
        refine c_ret ?_
        refine k_then_ret ?_
        have e : tryB m t wr = false := by first | (unfold tryB; rw [hmh]; simp [*]; done) | (unfold tryB; rw [hmh, show decide (0 ≤ t) = false from decide_eq_false (by omega)]; simp; done) | (unfold tryB; rw [show decide (m.q.length = 0) = false from decide_eq_false (by omega)]; simp; done)
        refine r_one rfl rfl ?_
        exact fun _ h => ⟨vR, congrArg (fun z => Ending.returned (Value.bool z)) e.symm, trivial, by unfold tryL; rw [e]; exact h⟩
      · try simp only [decide_eq_true_eq, decide_eq_false_iff_not, Bool.not_eq_true', Bool.not_eq_false'] at h3
        refine l_q rfl (q_move rfl rfl) rfl rfl ?_
        refine l_q rfl (q_nilCheck rfl rfl) rfl rfl ?_
        refine l_q rfl (q_fieldAddr rfl Try.underlying53 rfl Try.sizeOf33 rfl rfl) rfl rfl ?_
        refine l_q rfl (q_loadC rfl Try.isAgg33 rfl (fun _ h => h.at 0 rfl) rfl) rfl rfl ?_
        refine l_q rfl (q_lenV rfl Try.underlying33 rfl (fun _ h => h.rd 2 rfl)) rfl rfl ?_
        refine l_q rfl (q_gtr rfl rfl rfl) rfl rfl ?_
        refine l_q rfl (q_pick_f rfl rfl rfl) rfl rfl ?_
        refine l_q rfl (q_move rfl rfl) rfl rfl ?_
        refine Pre.caseB 27 rfl (fun h4 => ?_) (fun h4 => ?_)
        · try simp only [decide_eq_true_eq, decide_eq_false_iff_not, Bool.not_eq_true', Bool.not_eq_false'] at h4
          refine l_not rfl rfl rfl ?_
          refine l_not rfl rfl rfl ?_
          refine l_not rfl rfl rfl ?_
          refine l_not rfl rfl rfl ?_
          refine l_q rfl (q_pick_t rfl rfl rfl) rfl rfl ?_
          refine l_nil ?_
          refine k_then ?_
          refine c_true rfl ?_
          refine c_seq ?_
          refine c_region _ rfl ?_
          refine l_q rfl (q_assign rfl rfl) rfl rfl ?_
          refine l_nil ?_
          refine k_then ?_
          refine c_ret ?_
          refine k_then_ret ?_
          have e : tryB m t wr = false := by first | (unfold tryB; rw [hmh]; simp [*]; done) | (unfold tryB; rw [hmh, show decide (0 ≤ t) = false from decide_eq_false (by omega)]; simp; done) | (unfold tryB; rw [show decide (m.q.length = 0) = false from decide_eq_false (by omega)]; simp; done)
          refine r_one rfl rfl ?_
          exact fun _ h => ⟨vR, congrArg (fun z => Ending.returned (Value.bool z)) e.symm, trivial, by unfold tryL; rw [e]; exact h⟩
        · try simp only [decide_eq_true_eq, decide_eq_false_iff_not, Bool.not_eq_true', Bool.not_eq_false'] at h4
          refine l_q rfl (q_move rfl rfl) rfl rfl ?_
          refine l_q rfl (q_move rfl rfl) rfl rfl ?_
          refine pull2 ?_
          refine pull2 ?_
          refine pull2 ?_
          refine l_e rfl ?_
          refine e_call_33 (can_spec hm hn b vR vQ wr) rfl rfl rfl Try.call45 rfl (fun _ _ => trivial) ?_
          intro _ _
          refine l_q rfl (q_not rfl rfl) rfl rfl ?_
          refine l_q rfl (q_pick_f rfl rfl rfl) rfl rfl ?_
          refine l_nil ?_
          refine k_then ?_
          refine Pre.caseB 32 rfl (fun h5 => ?_) (fun h5 => ?_)
          · try simp only [decide_eq_true_eq, decide_eq_false_iff_not, Bool.not_eq_true', Bool.not_eq_false'] at h5
            refine c_true rfl ?_
            refine c_seq ?_
            refine c_region _ rfl ?_
            refine l_q rfl (q_assign rfl rfl) rfl rfl ?_
            refine l_nil ?_
            refine k_then ?_
            refine c_ret ?_
            refine k_then_ret ?_
            have e : tryB m t wr = false := by first | (unfold tryB; rw [hmh]; simp [*]; done) | (unfold tryB; rw [hmh, show decide (0 ≤ t) = false from decide_eq_false (by omega)]; simp; done) | (unfold tryB; rw [show decide (m.q.length = 0) = false from decide_eq_false (by omega)]; simp; done)
            refine r_one rfl rfl ?_
            exact fun _ h => ⟨vR, congrArg (fun z => Ending.returned (Value.bool z)) e.symm, trivial, by unfold tryL; rw [e]; exact h⟩
          · try simp only [decide_eq_true_eq, decide_eq_false_iff_not, Bool.not_eq_true', Bool.not_eq_false'] at h5
            refine c_false rfl ?_
            refine c_skip ?_
            refine k_then ?_
            refine c_seq ?_
            refine c_region _ rfl ?_
            refine l_q rfl (q_move rfl rfl) rfl rfl ?_
            refine l_q rfl (q_move rfl rfl) rfl rfl ?_
            refine l_q rfl (q_move rfl rfl) rfl rfl ?_
            have e : tryB m t wr = true := by unfold tryB; rw [hmh, show decide (0 ≤ t) = true from decide_eq_true (by omega), show decide (m.q.length = 0) = true from decide_eq_true (by omega)]; simp [*]
            refine pull2 ?_
            refine pull2 ?_
            refine pull2 ?_
            refine l_e rfl ?_
            refine e_call_33 (rgive_spec (m := m) (by omega) b vR vQ t wr) rfl rfl rfl Try.call46 rfl (fun _ _ => trivial) ?_
            intro v2 _
            refine l_nil ?_
            refine k_then ?_
            refine c_seq ?_
            refine c_region _ rfl ?_
            refine l_q rfl (q_assign rfl rfl) rfl rfl ?_
            refine l_nil ?_
            refine k_then ?_
            refine c_ret ?_
            refine r_one rfl rfl ?_
            exact fun _ h => ⟨v2, congrArg (fun z => Ending.returned (Value.bool z)) e.symm, trivial, by unfold tryL; rw [e]; exact h⟩
set_option maxRecDepth 100000 in
set_option maxHeartbeats 1000000 in
theorem rtake_spec {m : La} {n : Nat} (hm : m.Ok n) (hn : n ≤ 60000) (b : Nat) (vR vQ : Value) (t : Int) (wr : Bool) : Con Try.prog 22 [.pointer (some ⟨b, 0, none⟩), .int .i64 t, .bool wr] (fun _ => True) (RT b vR vQ m) (fun _ : Value × Value => .bool (tryB m t wr)) (fun _ => True) (fun v => RT b v.1 v.2 (takeL m t wr)) := by
  intro w hE hH
  obtain ⟨hlr, hlq⟩ := hm.lens
  have hmh := may_has m t
  refine enter (n := 37) (vs := [.pointer (some ⟨b, 0, none⟩), .int .i64 t, .bool wr]) (St w (dom (RT b vR vQ m)) (RT b vR vQ (m))) Try.func22 rfl rfl rfl (St.init hH) ?_
  refine c_seq ?_
  refine c_region _ rfl ?_
  refine l_q rfl (q_assign rfl rfl) rfl rfl ?_
  refine l_nil ?_
  refine k_then ?_
  refine c_seq ?_
  refine c_seq ?_
  refine c_region _ rfl ?_
  refine l_q rfl (q_move rfl rfl) rfl rfl ?_
  refine l_q rfl (q_move rfl rfl) rfl rfl ?_
  refine l_q rfl (q_move rfl rfl) rfl rfl ?_
  refine l_e rfl ?_
  refine e_call_33 (rtry_spec hm hn b vR vQ t wr) rfl rfl rfl Try.call23 rfl (fun _ _ => trivial) ?_
  intro v2 _
  refine l_nil ?_
  refine k_then ?_
  refine Pre.caseB 10 rfl (fun htr => ?_) (fun htr => ?_)
  · have hmy : mayB m t = true := by unfold tryB at htr; simp only [Bool.and_eq_true] at htr; exact htr.1.1
    have ht : takeL m t wr = tryL m t wr := by unfold takeL tryL; rw [hmy, htr]; rfl
    refine c_true rfl ?_
    refine c_seq ?_
    refine c_region _ rfl ?_
    refine l_q rfl (q_assign rfl rfl) rfl rfl ?_
    refine l_nil ?_
    refine k_then ?_
    refine c_ret ?_
    refine k_then_ret ?_
    refine r_one rfl rfl ?_
    exact fun _ h => ⟨(v2, vQ), congrArg (fun z => Ending.returned (Value.bool z)) (htr.symm), trivial, by rw [ht]; exact h⟩
  · have hl : tryL m t wr = m := by unfold tryL; rw [htr]; rfl
    rw [hl]
    refine c_false rfl ?_
    refine c_skip ?_
    refine k_then ?_
    refine c_seq ?_
    refine c_seq ?_
    refine c_region _ rfl ?_
    refine l_q rfl (q_move rfl rfl) rfl rfl ?_
    refine l_q rfl (q_geq rfl rfl rfl) rfl rfl ?_
    refine l_q rfl (q_move rfl rfl) rfl rfl ?_
    refine Pre.caseB 13 rfl (fun h1 => ?_) (fun h1 => ?_)
    · try simp only [decide_eq_true_eq, decide_eq_false_iff_not, Bool.not_eq_true', Bool.not_eq_false'] at h1
      refine l_q rfl (q_move rfl rfl) rfl rfl ?_
      refine l_q rfl (q_move rfl rfl) rfl rfl ?_
      refine pull2 ?_
      refine pull2 ?_
      refine pull2 ?_
      refine l_e rfl ?_
      refine e_call_33 (has_spec hm hn b v2 vQ t) rfl rfl rfl Try.call43 rfl (fun _ _ => trivial) ?_
      intro _ _
      refine l_q rfl (q_not rfl rfl) rfl rfl ?_
      refine l_q rfl (q_pick_t rfl rfl rfl) rfl rfl ?_
      refine l_q rfl (q_move rfl rfl) rfl rfl ?_
      refine Pre.caseB 19 rfl (fun h2 => ?_) (fun h2 => ?_)
      · try simp only [decide_eq_true_eq, decide_eq_false_iff_not, Bool.not_eq_true', Bool.not_eq_false'] at h2
        refine l_q rfl (q_move rfl rfl) rfl rfl ?_
        refine l_q rfl (q_move rfl rfl) rfl rfl ?_
        refine pull2 ?_
        refine pull2 ?_
        refine pull2 ?_
        refine l_e rfl ?_
        refine e_call_33 (queued_spec hm hn b v2 vQ t) rfl rfl rfl Try.call44 rfl (fun _ _ => trivial) ?_
        intro _ _
        refine l_q rfl (q_not rfl rfl) rfl rfl ?_
        refine l_q rfl (q_pick_t rfl rfl rfl) rfl rfl ?_
        refine l_nil ?_
        refine k_then ?_
        refine Pre.caseB 24 rfl (fun h3 => ?_) (fun h3 => ?_)
        · try simp only [decide_eq_true_eq, decide_eq_false_iff_not, Bool.not_eq_true', Bool.not_eq_false'] at h3
          refine c_true rfl ?_
          refine c_region _ rfl ?_
          refine l_q rfl (q_move rfl rfl) rfl rfl ?_
          refine l_q rfl (q_move rfl rfl) rfl rfl ?_
          refine l_q rfl (q_nilCheck rfl rfl) rfl rfl ?_
          refine l_q rfl (q_fieldAddr rfl Try.underlying53 rfl Try.sizeOf33 rfl rfl) rfl rfl ?_
          refine l_q rfl (q_loadC rfl Try.isAgg33 rfl (fun _ h => h.at 0 rfl) rfl) rfl rfl ?_
          refine l_q rfl (q_move rfl rfl) rfl rfl ?_
          refine l_q rfl (q_move rfl rfl) rfl rfl ?_
          refine l_q rfl (q_build ([.int .i64 t, .bool wr]) rfl rfl (fun w => by kernel_rfl)) rfl rfl ?_
          have hmy : mayB m t = true := by rw [hmh, show decide (0 ≤ t) = true from decide_eq_true (by omega)]; simp [*]
          have ht : takeL m t wr = queueL m t wr := by unfold takeL; rw [hmy, htr]; rfl
          refine l_e rfl ?_
          refine e_buildSliceV (sz := 2) [.tmp 32] rfl rfl rfl rfl rfl Try.underlying33 Try.sizeOf41 rfl Try.zeroValue41 rfl ?_
          intro b4
          refine pull3 ?_
          refine l_e rfl ?_
          refine e_append rfl rfl rfl Try.underlying33 Try.underlying33 info41 rfl rfl rfl rfl rfl (fun _ h => lit_rd (h.at 1 rfl) encW [(t, wr)] rfl rfl) (by simp only [byt41, List.length_append, List.length_cons, List.length_nil]; omega) (by simp only [List.length_append, List.length_cons, List.length_nil]; omega) ?_
          intro v3
          refine l_q rfl (q_nilCheck rfl rfl) rfl rfl ?_
          refine l_q rfl (q_fieldAddr rfl Try.underlying53 rfl Try.sizeOf33 rfl rfl) rfl rfl ?_
          refine Pre.fact (fun _ h => row_one' (h.at 0 rfl)) ?_
          intro hone
          refine pull2 ?_
          refine l_e rfl ?_
          refine e_store rfl rfl Try.sizeOf33 rfl rfl hone (Nat.le_of_ble_eq_true rfl) ?_
          refine l_nil ?_
          refine k_then ?_
          refine c_seq ?_
          refine c_region _ rfl ?_
          refine l_q rfl (q_assign rfl rfl) rfl rfl ?_
          refine l_nil ?_
          refine k_then ?_
          refine c_ret ?_
          refine pull2 ?_
          refine drop0 ?_
          refine pull1 ?_
          refine pull2 ?_
          refine pull2 ?_
          refine r_one rfl rfl ?_
          exact fun _ h => ⟨(v2, v3), congrArg (fun z => Ending.returned (Value.bool z)) (htr.symm), trivial, by rw [ht]; exact h⟩
        · try simp only [decide_eq_true_eq, decide_eq_false_iff_not, Bool.not_eq_true', Bool.not_eq_false'] at h3
          refine c_false rfl ?_
          refine c_skip ?_
          refine k_then ?_
          refine c_seq ?_
          refine c_region _ rfl ?_
          refine l_q rfl (q_assign rfl rfl) rfl rfl ?_
          refine l_nil ?_
          refine k_then ?_
          refine c_ret ?_
          have hmy : mayB m t = false := by first | (rw [hmh]; simp [*]; done) | (rw [hmh, show decide (0 ≤ t) = false from decide_eq_false (by omega)]; simp; done)
          have ht : takeL m t wr = m := by unfold takeL; rw [hmy]; rfl
          refine r_one rfl rfl ?_
          exact fun _ h => ⟨(v2, vQ), congrArg (fun z => Ending.returned (Value.bool z)) (htr.symm), trivial, by rw [ht]; exact h⟩
      · try simp only [decide_eq_true_eq, decide_eq_false_iff_not, Bool.not_eq_true', Bool.not_eq_false'] at h2
        refine l_not rfl rfl rfl ?_
        refine l_not rfl rfl rfl ?_
        refine l_not rfl rfl rfl ?_
        refine l_not rfl rfl rfl ?_
        refine l_q rfl (q_pick_f rfl rfl rfl) rfl rfl ?_
        refine l_nil ?_
        refine k_then ?_
        refine c_false rfl ?_
        refine c_skip ?_
        refine k_then ?_
        refine c_seq ?_
        refine c_region _ rfl ?_
        refine l_q rfl (q_assign rfl rfl) rfl rfl ?_
        refine l_nil ?_
        refine k_then ?_
        refine c_ret ?_
        have hmy : mayB m t = false := by first | (rw [hmh]; simp [*]; done) | (rw [hmh, show decide (0 ≤ t) = false from decide_eq_false (by omega)]; simp; done)
        have ht : takeL m t wr = m := by unfold takeL; rw [hmy]; rfl
        refine r_one rfl rfl ?_
        exact fun _ h => ⟨(v2, vQ), congrArg (fun z => Ending.returned (Value.bool z)) (htr.symm), trivial, by rw [ht]; exact h⟩
    · try simp only [decide_eq_true_eq, decide_eq_false_iff_not, Bool.not_eq_true', Bool.not_eq_false'] at h1
      refine l_not rfl rfl rfl ?_
      refine l_not rfl rfl rfl ?_
      refine l_not rfl rfl rfl ?_
      refine l_not rfl rfl rfl ?_
      refine l_q rfl (q_pick_f rfl rfl rfl) rfl rfl ?_
      refine l_q rfl (q_move rfl rfl) rfl rfl ?_
      refine l_not rfl rfl rfl ?_
      refine l_not rfl rfl rfl ?_
      refine l_not rfl rfl rfl ?_
      refine l_not rfl rfl rfl ?_
      refine l_q rfl (q_pick_f rfl rfl rfl) rfl rfl ?_
      refine l_nil ?_
      refine k_then ?_
      refine c_false rfl ?_
      refine c_skip ?_
      refine k_then ?_
      refine c_seq ?_
      refine c_region _ rfl ?_
      refine l_q rfl (q_assign rfl rfl) rfl rfl ?_
      refine l_nil ?_
      refine k_then ?_
      refine c_ret ?_
      have hmy : mayB m t = false := by first | (rw [hmh]; simp [*]; done) | (rw [hmh, show decide (0 ≤ t) = false from decide_eq_false (by omega)]; simp; done)
      have ht : takeL m t wr = m := by unfold takeL; rw [hmy]; rfl
      refine r_one rfl rfl ?_
      exact fun _ h => ⟨(v2, vQ), congrArg (fun z => Ending.returned (Value.bool z)) (htr.symm), trivial, by rw [ht]; exact h⟩
theorem filt_yes {l : List Int} {t y : Int} {k : Nat} (hy : l[k]? = some y) (h : ¬ y = t) : (l.take k).filter (fun x => decide (x ≠ t)) ++ [y] = (l.take (k + 1)).filter (fun x => decide (x ≠ t)) := by
  rw [List.take_add_one, hy, List.filter_append]; simp [h]
theorem filt_no {l : List Int} {t y : Int} {k : Nat} (hy : l[k]? = some y) (h : y = t) : (l.take (k + 1)).filter (fun x => decide (x ≠ t)) = (l.take k).filter (fun x => decide (x ≠ t)) := by
  rw [List.take_add_one, hy, List.filter_append]; simp [h]
theorem filt_yesW {l : List Wt} {t : Int} {y : Wt} {k : Nat} (hy : l[k]? = some y) (h : ¬ y.1 = t) : (l.take k).filter (fun x => decide (x.1 ≠ t)) ++ [y] = (l.take (k + 1)).filter (fun x => decide (x.1 ≠ t)) := by
  rw [List.take_add_one, hy, List.filter_append]; simp [h]
theorem filt_noW {l : List Wt} {t : Int} {y : Wt} {k : Nat} (hy : l[k]? = some y) (h : y.1 = t) : (l.take (k + 1)).filter (fun x => decide (x.1 ≠ t)) = (l.take k).filter (fun x => decide (x.1 ≠ t)) := by
  rw [List.take_add_one, hy, List.filter_append]; simp [h]
set_option maxRecDepth 100000 in
set_option maxHeartbeats 1000000 in
theorem rdrop_spec {m : La} {n : Nat} (hm : m.Ok n) (hn : n ≤ 60000) (b : Nat) (vR vQ : Value) (t : Int) : Con Try.prog 25 [.pointer (some ⟨b, 0, none⟩), .int .i64 t] (fun _ => True) (RT b vR vQ m) (fun v : Value × Value × Value => v.1) (fun _ => True) (fun v => rowE v.1 3 (encI .i64) (dropL m t).1 :: RT b v.2.1 v.2.2 (dropL m t).2) := by
  intro w hE hH
  obtain ⟨hlr, hlq⟩ := hm.lens
  refine enter (n := 87) (vs := [.pointer (some ⟨b, 0, none⟩), .int .i64 t]) (St w (dom (RT b vR vQ m)) (RT b vR vQ (m))) Try.func25 rfl rfl rfl (St.init hH) ?_
  refine c_seq ?_
  refine c_region _ rfl ?_
  refine l_q rfl (q_assign rfl rfl) rfl rfl ?_
  refine l_nil ?_
  refine k_then ?_
  refine c_seq ?_
  refine c_seq ?_
  refine c_region _ rfl ?_
  refine l_q rfl (q_move rfl rfl) rfl rfl ?_
  refine l_q rfl (q_lss rfl rfl rfl) rfl rfl ?_
  refine l_nil ?_
  refine k_then ?_
  refine Pre.caseB 10 rfl (fun h0 => ?_) (fun h0 => ?_)
  · try simp only [decide_eq_true_eq, decide_eq_false_iff_not, Bool.not_eq_true', Bool.not_eq_false'] at h0
    have hd : dropL m t = ([], m) := by unfold dropL; rw [if_pos h0]
    refine c_true rfl ?_
    refine c_seq ?_
    refine c_region _ rfl ?_
    refine l_q rfl (q_assign rfl rfl) rfl rfl ?_
    refine l_nil ?_
    refine k_then ?_
    refine c_ret ?_
    refine k_then_ret ?_
    refine row0 3 (encI .i64) none ?_
    refine r_one rfl rfl ?_
    exact fun _ h => ⟨(.slice none 0 0, vR, vQ), rfl, trivial, by rw [hd]; exact h⟩
  · try simp only [decide_eq_true_eq, decide_eq_false_iff_not, Bool.not_eq_true', Bool.not_eq_false'] at h0
    have hd : dropL m t = letL (leaveL m t) := by unfold dropL; rw [if_neg h0]
    refine c_false rfl ?_
    refine c_skip ?_
    refine k_then ?_
    refine c_seq ?_
    refine c_region _ rfl ?_
    refine l_q rfl (q_assign rfl rfl) rfl rfl ?_
    refine l_nil ?_
    refine k_then ?_
    refine c_seq ?_
    refine c_seq ?_
    refine c_region _ rfl ?_
    refine l_q rfl (q_assign rfl rfl) rfl rfl ?_
    refine l_nil ?_
    refine k_then ?_
    refine c_block ?_
    refine row0 3 (encI .i64) none ?_
    refine c_loop2 (fun (k : Nat) (v : Value) => [(0, .pointer (some ⟨b, 0, none⟩)), (1, .int .i64 t), (5, v), (6, .int .i64 (k : Int))]) (fun (k : Nat) (v : Value) => St w (dom (RT b vR vQ m)) (rowE v 3 (encI .i64) ((m.rd.take k).filter (fun x => decide (x ≠ t))) :: RT b vR vQ m)) (fun (k : Nat) (v : Value) => k ≤ m.rd.length) (fun (k : Nat) (v : Value) => m.rd.length - k) (0) (.slice none 0 0) (Nat.zero_le _) (Sub.cons rfl (Sub.cons rfl (Sub.cons rfl (Sub.cons rfl (Sub.nil))))) (fun _ h => h) ?_
    intro k v hk
    refine c_seq ?_
    refine c_seq ?_
    refine c_region _ rfl ?_
    refine l_q rfl (q_move rfl rfl) rfl rfl ?_
    refine l_q rfl (q_move rfl rfl) rfl rfl ?_
    refine l_q rfl (q_nilCheck rfl rfl) rfl rfl ?_
    refine l_q rfl (q_fieldAddr rfl Try.underlying53 rfl Try.sizeOf27 rfl rfl) rfl rfl ?_
    refine l_q rfl (q_loadC rfl Try.isAgg27 rfl (fun _ h => h.at 1 rfl) rfl) rfl rfl ?_
    refine l_q rfl (q_lenV rfl Try.underlying27 rfl (fun _ h => h.rd 2 rfl)) rfl rfl ?_
    refine l_q rfl (q_lss rfl rfl rfl) rfl rfl ?_
    refine l_nil ?_
    refine k_then ?_
    refine Pre.caseB 17 rfl (fun h1 => ?_) (fun h1 => ?_)
    · try simp only [decide_eq_true_eq, decide_eq_false_iff_not, Bool.not_eq_true', Bool.not_eq_false'] at h1
      obtain ⟨y, hy⟩ : ∃ y, m.rd[k]? = some y := ⟨_, List.getElem?_eq_getElem (by omega)⟩
      have hfl : ((m.rd.take k).filter (fun x => decide (x ≠ t))).length ≤ m.rd.length := Nat.le_trans (List.length_filter_le ..) (by rw [List.length_take]; omega)
      refine c_true rfl ?_
      refine c_skip ?_
      refine k_then ?_
      refine c_seq ?_
      refine c_block ?_
      refine c_seq ?_
      refine c_region _ rfl ?_
      refine l_q rfl (q_move rfl rfl) rfl rfl ?_
      refine l_q rfl (q_nilCheck rfl rfl) rfl rfl ?_
      refine l_q rfl (q_fieldAddr rfl Try.underlying53 rfl Try.sizeOf27 rfl rfl) rfl rfl ?_
      refine l_q rfl (q_loadC rfl Try.isAgg27 rfl (fun _ h => h.at 1 rfl) rfl) rfl rfl ?_
      refine l_q rfl (q_move rfl rfl) rfl rfl ?_
      refine l_q rfl (q_indexV k rfl Try.underlying27 Try.sizeOf3 rfl (fun _ h => h.rd 2 rfl) rfl rfl (by omega)) rfl rfl ?_
      refine l_q rfl (q_loadV k 0 rfl Try.isAgg3 rfl rfl (fun _ h => h.rd 2 rfl) hy rfl) rfl rfl ?_
      refine l_q rfl (q_move rfl rfl) rfl rfl ?_
      refine l_q rfl (q_neq rfl rfl rfl) rfl rfl ?_
      refine l_nil ?_
      refine k_then ?_
      refine Pre.caseB 28 rfl (fun h2 => ?_) (fun h2 => ?_)
      · try simp only [decide_eq_true_eq, decide_eq_false_iff_not, Bool.not_eq_true', Bool.not_eq_false'] at h2
        refine c_true rfl ?_
        refine c_region _ rfl ?_
        refine l_q rfl (q_move rfl rfl) rfl rfl ?_
        refine l_q rfl (q_move rfl rfl) rfl rfl ?_
        refine l_q rfl (q_nilCheck rfl rfl) rfl rfl ?_
        refine l_q rfl (q_fieldAddr rfl Try.underlying53 rfl Try.sizeOf27 rfl rfl) rfl rfl ?_
        refine l_q rfl (q_loadC rfl Try.isAgg27 rfl (fun _ h => h.at 1 rfl) rfl) rfl rfl ?_
        refine l_q rfl (q_move rfl rfl) rfl rfl ?_
        refine l_q rfl (q_indexV k rfl Try.underlying27 Try.sizeOf3 rfl (fun _ h => h.rd 2 rfl) rfl rfl (by omega)) rfl rfl ?_
        refine l_q rfl (q_loadV k 0 rfl Try.isAgg3 rfl rfl (fun _ h => h.rd 2 rfl) hy rfl) rfl rfl ?_
        refine l_e rfl ?_
        refine e_buildSliceV (sz := 1) [.tmp 36] rfl rfl rfl rfl rfl Try.underlying27 Try.sizeOf3 rfl Try.zeroValue3 rfl ?_
        intro b1
        refine pull1 ?_
        refine l_e rfl ?_
        refine e_append rfl rfl rfl Try.underlying27 Try.underlying27 info3 rfl rfl rfl rfl rfl (fun _ h => lit_rd (h.at 1 rfl) (encI .i64) [y] rfl rfl) (by simp only [byt3, List.length_append, List.length_cons, List.length_nil]; omega) (by simp only [List.length_append, List.length_cons, List.length_nil]; omega) ?_
        intro v2
        refine row_eq (filt_yes hy h2) ?_
        refine pull1 ?_
        refine drop0 ?_
        refine l_q rfl (q_assign rfl rfl) rfl rfl ?_
        refine l_nil ?_
        refine k_block ?_
        refine k_then ?_
        refine c_region _ rfl ?_
        refine l_q rfl (q_move rfl rfl) rfl rfl ?_
        refine l_q rfl (q_inc rfl rfl rfl (by omega)) rfl rfl ?_
        refine l_q rfl (q_assign rfl rfl) rfl rfl ?_
        refine l_nil ?_
        refine pull3 ?_
        refine pull3 ?_
        refine pull3 ?_
        refine pull3 ?_
        exact k_round ((k + 1, v2)) (by dsimp only; omega) (by dsimp only; omega) (Sub.cons rfl (Sub.cons rfl (Sub.cons rfl (Sub.cons rfl (Sub.nil))))) (fun _ h => h)
      · try simp only [decide_eq_true_eq, decide_eq_false_iff_not, Bool.not_eq_true', Bool.not_eq_false'] at h2
        refine c_false rfl ?_
        refine c_skip ?_
        refine k_block ?_
        refine k_then ?_
        refine c_region _ rfl ?_
        refine l_q rfl (q_move rfl rfl) rfl rfl ?_
        refine l_q rfl (q_inc rfl rfl rfl (by omega)) rfl rfl ?_
        refine l_q rfl (q_assign rfl rfl) rfl rfl ?_
        refine l_nil ?_
        exact k_round ((k + 1, v)) (by dsimp only; omega) (by dsimp only; omega) (Sub.cons rfl (Sub.cons rfl (Sub.cons rfl (Sub.cons rfl (Sub.nil))))) (fun _ h => by dsimp only; rw [filt_no hy h2]; exact h)
    · try simp only [decide_eq_true_eq, decide_eq_false_iff_not, Bool.not_eq_true', Bool.not_eq_false'] at h1
      rw [List.take_of_length_le (by omega)]
      refine c_false rfl ?_
      refine c_exit ?_
      refine k_then_exit ?_
      refine k_then_exit ?_
      refine k_block_exit ?_
      refine k_then ?_
      refine c_seq ?_
      refine c_region _ rfl ?_
      refine l_q rfl (q_assign rfl rfl) rfl rfl ?_
      refine l_nil ?_
      refine k_then ?_
      refine c_seq ?_
      refine c_seq ?_
      refine c_region _ rfl ?_
      refine l_q rfl (q_assign rfl rfl) rfl rfl ?_
      refine l_nil ?_
      refine k_then ?_
      refine c_block ?_
      refine row0 41 encW none ?_
      refine c_loop2 (fun (k : Nat) (v2 : Value) => [(0, .pointer (some ⟨b, 0, none⟩)), (1, .int .i64 t), (5, v), (7, v2), (8, .int .i64 (k : Int))]) (fun (k : Nat) (v2 : Value) => St w (dom (RT b vR vQ m)) (rowE v2 41 encW ((m.q.take k).filter (fun x => decide (x.1 ≠ t))) :: rowE v 3 (encI .i64) ((m.rd).filter (fun x => decide (x ≠ t))) :: RT b vR vQ m)) (fun (k : Nat) (v2 : Value) => k ≤ m.q.length) (fun (k : Nat) (v2 : Value) => m.q.length - k) (0) (.slice none 0 0) (Nat.zero_le _) (Sub.cons rfl (Sub.cons rfl (Sub.cons rfl (Sub.cons rfl (Sub.cons rfl (Sub.nil)))))) (fun _ h => h) ?_
      intro k v2 hk
      refine c_seq ?_
      refine c_seq ?_
      refine c_region _ rfl ?_
      refine l_q rfl (q_move rfl rfl) rfl rfl ?_
      refine l_q rfl (q_move rfl rfl) rfl rfl ?_
      refine l_q rfl (q_nilCheck rfl rfl) rfl rfl ?_
      refine l_q rfl (q_fieldAddr rfl Try.underlying53 rfl Try.sizeOf33 rfl rfl) rfl rfl ?_
      refine l_q rfl (q_loadC rfl Try.isAgg33 rfl (fun _ h => h.at 2 rfl) rfl) rfl rfl ?_
      refine l_q rfl (q_lenV rfl Try.underlying33 rfl (fun _ h => h.rd 4 rfl)) rfl rfl ?_
      refine l_q rfl (q_lss rfl rfl rfl) rfl rfl ?_
      refine l_nil ?_
      refine k_then ?_
      refine Pre.caseB 45 rfl (fun h1 => ?_) (fun h1 => ?_)
      · try simp only [decide_eq_true_eq, decide_eq_false_iff_not, Bool.not_eq_true', Bool.not_eq_false'] at h1
        obtain ⟨y, hy⟩ : ∃ y, m.q[k]? = some y := ⟨_, List.getElem?_eq_getElem (by omega)⟩
        have hfl : ((m.q.take k).filter (fun x => decide (x.1 ≠ t))).length ≤ m.q.length := Nat.le_trans (List.length_filter_le ..) (by rw [List.length_take]; omega)
        refine c_true rfl ?_
        refine c_skip ?_
        refine k_then ?_
        refine c_seq ?_
        refine c_block ?_
        refine c_seq ?_
        refine c_region _ rfl ?_
        refine l_q rfl (q_move rfl rfl) rfl rfl ?_
        refine l_q rfl (q_nilCheck rfl rfl) rfl rfl ?_
        refine l_q rfl (q_fieldAddr rfl Try.underlying53 rfl Try.sizeOf33 rfl rfl) rfl rfl ?_
        refine l_q rfl (q_loadC rfl Try.isAgg33 rfl (fun _ h => h.at 2 rfl) rfl) rfl rfl ?_
        refine l_q rfl (q_move rfl rfl) rfl rfl ?_
        refine l_q rfl (q_indexV k rfl Try.underlying33 Try.sizeOf41 rfl (fun _ h => h.rd 4 rfl) rfl rfl (by omega)) rfl rfl ?_
        refine l_q rfl (q_fieldAddr rfl Try.underlying41 rfl Try.sizeOf3 rfl rfl) rfl rfl ?_
        refine l_q rfl (q_loadV k 0 rfl Try.isAgg3 rfl rfl (fun _ h => h.rd 4 rfl) hy rfl) rfl rfl ?_
        refine l_q rfl (q_move rfl rfl) rfl rfl ?_
        refine l_q rfl (q_neq rfl rfl rfl) rfl rfl ?_
        refine l_nil ?_
        refine k_then ?_
        refine Pre.caseB 57 rfl (fun h2 => ?_) (fun h2 => ?_)
        · try simp only [decide_eq_true_eq, decide_eq_false_iff_not, Bool.not_eq_true', Bool.not_eq_false'] at h2
          refine c_true rfl ?_
          refine c_region _ rfl ?_
          refine l_q rfl (q_move rfl rfl) rfl rfl ?_
          refine l_q rfl (q_move rfl rfl) rfl rfl ?_
          refine l_q rfl (q_nilCheck rfl rfl) rfl rfl ?_
          refine l_q rfl (q_fieldAddr rfl Try.underlying53 rfl Try.sizeOf33 rfl rfl) rfl rfl ?_
          refine l_q rfl (q_loadC rfl Try.isAgg33 rfl (fun _ h => h.at 2 rfl) rfl) rfl rfl ?_
          refine l_q rfl (q_move rfl rfl) rfl rfl ?_
          refine l_q rfl (q_indexV k rfl Try.underlying33 Try.sizeOf41 rfl (fun _ h => h.rd 4 rfl) rfl rfl (by omega)) rfl rfl ?_
          refine l_q rfl (q_loadVAgg k rfl Try.isAgg41 Try.sizeOf41 rfl rfl (fun _ h => h.rd 4 rfl) hy) rfl rfl ?_
          refine l_e rfl ?_
          refine e_buildSliceV (sz := 2) [.tmp 65] rfl rfl rfl rfl rfl Try.underlying33 Try.sizeOf41 rfl Try.zeroValue41 rfl ?_
          intro b2
          refine pull1 ?_
          refine l_e rfl ?_
          refine e_append rfl rfl rfl Try.underlying33 Try.underlying33 info41 rfl rfl rfl rfl rfl (fun _ h => lit_rd (h.at 1 rfl) encW [y] rfl rfl) (by simp only [byt41, List.length_append, List.length_cons, List.length_nil]; omega) (by simp only [List.length_append, List.length_cons, List.length_nil]; omega) ?_
          intro v3
          refine row_eq (filt_yesW hy h2) ?_
          refine pull1 ?_
          refine drop0 ?_
          refine l_q rfl (q_assign rfl rfl) rfl rfl ?_
          refine l_nil ?_
          refine k_block ?_
          refine k_then ?_
          refine c_region _ rfl ?_
          refine l_q rfl (q_move rfl rfl) rfl rfl ?_
          refine l_q rfl (q_inc rfl rfl rfl (by omega)) rfl rfl ?_
          refine l_q rfl (q_assign rfl rfl) rfl rfl ?_
          refine l_nil ?_
          refine pull4 ?_
          refine pull4 ?_
          refine pull4 ?_
          refine pull4 ?_
          refine pull4 ?_
          exact k_round ((k + 1, v3)) (by dsimp only; omega) (by dsimp only; omega) (Sub.cons rfl (Sub.cons rfl (Sub.cons rfl (Sub.cons rfl (Sub.cons rfl (Sub.nil)))))) (fun _ h => h)
        · try simp only [decide_eq_true_eq, decide_eq_false_iff_not, Bool.not_eq_true', Bool.not_eq_false'] at h2
          refine c_false rfl ?_
          refine c_skip ?_
          refine k_block ?_
          refine k_then ?_
          refine c_region _ rfl ?_
          refine l_q rfl (q_move rfl rfl) rfl rfl ?_
          refine l_q rfl (q_inc rfl rfl rfl (by omega)) rfl rfl ?_
          refine l_q rfl (q_assign rfl rfl) rfl rfl ?_
          refine l_nil ?_
          exact k_round ((k + 1, v2)) (by dsimp only; omega) (by dsimp only; omega) (Sub.cons rfl (Sub.cons rfl (Sub.cons rfl (Sub.cons rfl (Sub.cons rfl (Sub.nil)))))) (fun _ h => by dsimp only; rw [filt_noW hy h2]; exact h)
      · try simp only [decide_eq_true_eq, decide_eq_false_iff_not, Bool.not_eq_true', Bool.not_eq_false'] at h1
        rw [List.take_of_length_le (by omega)]
        refine Pre.fact (fun _ h => row_one' (h.at 1 rfl)) ?_
        intro hone1
        refine Pre.fact (fun _ h => row_one' (h.at 0 rfl)) ?_
        intro hone2
        refine c_false rfl ?_
        refine c_exit ?_
        refine k_then_exit ?_
        refine k_then_exit ?_
        refine k_block_exit ?_
        refine k_then ?_
        refine c_seq ?_
        refine c_region _ rfl ?_
        refine l_q rfl (q_move rfl rfl) rfl rfl ?_
        refine l_q rfl (q_move rfl rfl) rfl rfl ?_
        refine l_q rfl (q_move rfl rfl) rfl rfl ?_
        refine l_q rfl (q_move rfl rfl) rfl rfl ?_
        refine l_q rfl (q_nilCheck rfl rfl) rfl rfl ?_
        refine l_q rfl (q_fieldAddr rfl Try.underlying53 rfl Try.sizeOf27 rfl rfl) rfl rfl ?_
        refine pull2 ?_
        refine l_e rfl ?_
        refine e_store rfl rfl Try.sizeOf27 rfl rfl hone1 (Nat.le_of_ble_eq_true rfl) ?_
        refine l_q rfl (q_nilCheck rfl rfl) rfl rfl ?_
        refine l_q rfl (q_fieldAddr rfl Try.underlying53 rfl Try.sizeOf33 rfl rfl) rfl rfl ?_
        refine l_e rfl ?_
        refine e_store rfl rfl Try.sizeOf33 rfl rfl hone2 (Nat.le_of_ble_eq_true rfl) ?_
        refine l_nil ?_
        refine k_then ?_
        refine c_seq ?_
        refine c_seq ?_
        refine c_region _ rfl ?_
        refine l_q rfl (q_move rfl rfl) rfl rfl ?_
        refine l_q rfl (q_nilCheck rfl rfl) rfl rfl ?_
        refine l_q rfl (q_fieldAddr rfl Try.underlying53 rfl Try.sizeOf3 rfl rfl) rfl rfl ?_
        refine l_q rfl (q_loadC rfl Try.isAgg3 rfl (fun _ h => h.at 0 rfl) rfl) rfl rfl ?_
        refine l_q rfl (q_move rfl rfl) rfl rfl ?_
        refine l_q rfl (q_eql rfl rfl rfl) rfl rfl ?_
        refine l_nil ?_
        refine k_then ?_
        refine pull3 ?_
        refine drop0 ?_
        refine pull3 ?_
        refine drop0 ?_
        refine pull1 ?_
        refine pull2 ?_
        refine pull2 ?_
        refine c_meet2 (fun (vR4 : Value) (vQ4 : Value) => [(0, .pointer (some ⟨b, 0, none⟩)), (1, .int .i64 t)]) (fun (vR4 : Value) (vQ4 : Value) => St w (dom (RT b vR vQ m)) (RT b vR4 vQ4 (leaveL m t))) (fun (vR4 : Value) (vQ4 : Value) => True) ?_ ?_
        · refine Pre.caseB 81 rfl (fun h3 => ?_) (fun h3 => ?_)
          · try simp only [decide_eq_true_eq, decide_eq_false_iff_not, Bool.not_eq_true', Bool.not_eq_false'] at h3
            have e : (leaveL m t).wr = -1 := if_pos h3
            refine c_true rfl ?_
            refine c_region _ rfl ?_
            refine l_q rfl (q_move rfl rfl) rfl rfl ?_
            refine l_q rfl (q_nilCheck rfl rfl) rfl rfl ?_
            refine l_q rfl (q_fieldAddr rfl Try.underlying53 rfl Try.sizeOf3 rfl rfl) rfl rfl ?_
            refine l_e rfl ?_
            refine e_store rfl rfl Try.sizeOf3 rfl rfl rfl (Nat.le_of_ble_eq_true rfl) ?_
            refine l_nil ?_
            exact k_meet ((v, v2)) trivial (Sub.cons rfl (Sub.cons rfl (Sub.nil))) (fun _ h => by unfold RT; rw [e]; exact h)
          · try simp only [decide_eq_true_eq, decide_eq_false_iff_not, Bool.not_eq_true', Bool.not_eq_false'] at h3
            have e : (leaveL m t).wr = m.wr := if_neg h3
            refine c_false rfl ?_
            refine c_skip ?_
            exact k_meet ((v, v2)) trivial (Sub.cons rfl (Sub.cons rfl (Sub.nil))) (fun _ h => by unfold RT; rw [e]; exact h)
        · intro vR4 vQ4 _
          refine c_seq ?_
          refine c_region _ rfl ?_
          refine l_q rfl (q_move rfl rfl) rfl rfl ?_
          refine l_e rfl ?_
          refine e_call_34 (in_spec (leave_ok hm (by omega)) hn b vR4 vQ4) rfl rfl rfl Try.call47 rfl (fun _ _ => trivial) ?_
          intro v9 _
          refine l_q rfl (q_assign rfl rfl) rfl rfl ?_
          refine l_nil ?_
          refine k_then ?_
          refine c_ret ?_
          refine r_one rfl rfl ?_
          exact fun _ h => ⟨v9, rfl, trivial, by rw [hd]; exact h⟩
set_option maxRecDepth 100000 in
set_option maxHeartbeats 1000000 in
theorem rdown_spec {m : La} {n : Nat} (hm : m.Ok n) (hn : n ≤ 60000) (b : Nat) (vR vQ : Value) (t : Int) : Con Try.prog 26 [.pointer (some ⟨b, 0, none⟩), .int .i64 t] (fun _ => True) (RT b vR vQ m) (fun v : Value × Value × Value => v.1) (fun _ => True) (fun v => rowE v.1 3 (encI .i64) (downL m t).1 :: RT b v.2.1 v.2.2 (downL m t).2) := by
  intro w hE hH
  obtain ⟨hlr, hlq⟩ := hm.lens
  refine enter (n := 23) (vs := [.pointer (some ⟨b, 0, none⟩), .int .i64 t]) (St w (dom (RT b vR vQ m)) (RT b vR vQ (m))) Try.func26 rfl rfl rfl (St.init hH) ?_
  refine c_seq ?_
  refine c_region _ rfl ?_
  refine l_q rfl (q_assign rfl rfl) rfl rfl ?_
  refine l_nil ?_
  refine k_then ?_
  refine c_seq ?_
  refine c_seq ?_
  refine c_region _ rfl ?_
  refine l_q rfl (q_move rfl rfl) rfl rfl ?_
  refine l_q rfl (q_lss rfl rfl rfl) rfl rfl ?_
  refine l_q rfl (q_move rfl rfl) rfl rfl ?_
  refine Pre.caseB 7 rfl (fun h0 => ?_) (fun h0 => ?_)
  · try simp only [decide_eq_true_eq, decide_eq_false_iff_not, Bool.not_eq_true', Bool.not_eq_false'] at h0
    refine l_not rfl rfl rfl ?_
    refine l_not rfl rfl rfl ?_
    refine l_not rfl rfl rfl ?_
    refine l_not rfl rfl rfl ?_
    refine l_not rfl rfl rfl ?_
    refine l_not rfl rfl rfl ?_
    refine l_q rfl (q_pick_t rfl rfl rfl) rfl rfl ?_
    refine l_nil ?_
    refine k_then ?_
    refine c_true rfl ?_
    refine c_seq ?_
    refine c_region _ rfl ?_
    refine l_q rfl (q_assign rfl rfl) rfl rfl ?_
    refine l_nil ?_
    refine k_then ?_
    refine c_ret ?_
    refine k_then_ret ?_
    have hd : downL m t = ([], m) := by unfold downL; rw [if_pos (by omega)]
    refine row0 3 (encI .i64) none ?_
    refine r_one rfl rfl ?_
    exact fun _ h => ⟨(.slice none 0 0, vR, vQ), rfl, trivial, by rw [hd]; exact h⟩
  · try simp only [decide_eq_true_eq, decide_eq_false_iff_not, Bool.not_eq_true', Bool.not_eq_false'] at h0
    refine l_q rfl (q_move rfl rfl) rfl rfl ?_
    refine l_q rfl (q_nilCheck rfl rfl) rfl rfl ?_
    refine l_q rfl (q_fieldAddr rfl Try.underlying53 rfl Try.sizeOf3 rfl rfl) rfl rfl ?_
    refine l_q rfl (q_loadC rfl Try.isAgg3 rfl (fun _ h => h.at 0 rfl) rfl) rfl rfl ?_
    refine l_q rfl (q_move rfl rfl) rfl rfl ?_
    refine l_q rfl (q_neq rfl rfl rfl) rfl rfl ?_
    refine l_q rfl (q_pick_f rfl rfl rfl) rfl rfl ?_
    refine l_nil ?_
    refine k_then ?_
    refine Pre.caseB 14 rfl (fun h1 => ?_) (fun h1 => ?_)
    · try simp only [decide_eq_true_eq, decide_eq_false_iff_not, Bool.not_eq_true', Bool.not_eq_false'] at h1
      have hd : downL m t = ([], m) := by unfold downL; rw [if_pos (by omega)]
      refine c_true rfl ?_
      refine c_seq ?_
      refine c_region _ rfl ?_
      refine l_q rfl (q_assign rfl rfl) rfl rfl ?_
      refine l_nil ?_
      refine k_then ?_
      refine c_ret ?_
      refine k_then_ret ?_
      refine row0 3 (encI .i64) none ?_
      refine r_one rfl rfl ?_
      exact fun _ h => ⟨(.slice none 0 0, vR, vQ), rfl, trivial, by rw [hd]; exact h⟩
    · try simp only [decide_eq_true_eq, decide_eq_false_iff_not, Bool.not_eq_true', Bool.not_eq_false'] at h1
      have hd : downL m t = letL (giveL { m with wr := -1 } t false) := by unfold downL; rw [if_neg (by omega)]
      have hk := (down_tasks hm (t := t) (by omega) h1).1
      refine c_false rfl ?_
      refine c_skip ?_
      refine k_then ?_
      refine c_seq ?_
      refine c_region _ rfl ?_
      refine l_q rfl (q_move rfl rfl) rfl rfl ?_
      refine l_q rfl (q_nilCheck rfl rfl) rfl rfl ?_
      refine l_q rfl (q_fieldAddr rfl Try.underlying53 rfl Try.sizeOf3 rfl rfl) rfl rfl ?_
      refine l_e rfl ?_
      refine e_store rfl rfl Try.sizeOf3 rfl rfl rfl (Nat.le_of_ble_eq_true rfl) ?_
      refine l_nil ?_
      refine k_then ?_
      refine c_seq ?_
      refine c_region _ rfl ?_
      refine l_q rfl (q_move rfl rfl) rfl rfl ?_
      refine l_q rfl (q_move rfl rfl) rfl rfl ?_
      refine l_e rfl ?_
      refine e_call_33 (rgive_spec (m := { m with wr := -1 }) (show m.rd.length ≤ 60000 by omega) b vR vQ t false) rfl rfl rfl Try.call46 rfl (fun _ _ => trivial) ?_
      intro v2 _
      refine l_nil ?_
      refine k_then ?_
      refine c_seq ?_
      refine c_region _ rfl ?_
      refine l_q rfl (q_move rfl rfl) rfl rfl ?_
      refine l_e rfl ?_
      refine e_call_34 (in_spec hk hn b v2 vQ) rfl rfl rfl Try.call47 rfl (fun _ _ => trivial) ?_
      intro v _
      refine l_q rfl (q_assign rfl rfl) rfl rfl ?_
      refine l_nil ?_
      refine k_then ?_
      refine c_ret ?_
      refine r_one rfl rfl ?_
      exact fun _ h => ⟨v, rfl, trivial, by rw [hd]; exact h⟩
end Go.Proofs.Ytlakembncfkimaa
