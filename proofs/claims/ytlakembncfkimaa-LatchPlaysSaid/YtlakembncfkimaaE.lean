/- latch: give, let, Try, Take, Drop, Down -/
import Derived.Test.YtlakembncfkimaaD
set_option linter.unusedVariables false
set_option linter.unusedSimpArgs false
namespace Go.Proofs.Ytlakembncfkimaa
open Go.Sep Go.RowKit

theorem row_one {w : World} {v : Value} {t : TypeId} {α : Type} {E : Enc α} {l : List α} (h : (rowE v t E l).at w) : v.oneCell' = true := by
  obtain ⟨a, c, rfl⟩ := row_sl h; rfl
theorem row_onev {w : World} {v : Value} {t : TypeId} {α : Type} {E : Enc α} {l : List α} (h : (rowE v t E l).at w) (s i j : Nat) : (vsl v s i j).oneCell' = true := by
  obtain ⟨a, c, rfl⟩ := row_sl h; rfl
set_option maxRecDepth 100000 in
set_option maxHeartbeats 1000000 in
theorem give_spec {m : La} (hs : m.rd.Pairwise (· < ·)) (hl : m.rd.length ≤ 60000) (b : Nat) (vR vQ : Value) (t : Int) (wr : Bool) : Con Try.prog 42 [.pointer (some ⟨b, 0, none⟩), .int .i64 t, .bool wr] (fun _ => True) (LT b vR vQ m) (fun _ : Value => .tuple #[]) (fun _ => True) (fun v => LT b v vQ (giveL m t wr)) := by
  intro w hE hH
  refine enter (n := 33) (vs := [.pointer (some ⟨b, 0, none⟩), .int .i64 t, .bool wr]) (St w (dom (LT b vR vQ m)) (LT b vR vQ (m))) Try.func42 rfl rfl rfl (St.init hH) ?_
  refine c_seq ?_
  refine c_seq ?_
  refine c_region _ rfl ?_
  refine l_q rfl (q_move rfl rfl) rfl rfl ?_
  refine l_nil ?_
  refine k_then ?_
  refine Pre.caseB 8 rfl (fun h1 => ?_) (fun h1 => ?_)
  · subst h1
    refine c_true rfl ?_
    refine c_seq ?_
    refine c_region _ rfl ?_
    refine l_q rfl (q_move rfl rfl) rfl rfl ?_
    refine l_q rfl (q_move rfl rfl) rfl rfl ?_
    refine l_q rfl (q_nilCheck rfl rfl) rfl rfl ?_
    refine l_q rfl (q_fieldAddr rfl Try.underlying49 rfl Try.sizeOf3 rfl rfl) rfl rfl ?_
    refine l_e rfl ?_
    refine e_store rfl rfl Try.sizeOf3 rfl rfl rfl (Nat.le_of_ble_eq_true rfl) ?_
    refine l_nil ?_
    refine k_then ?_
    refine c_ret ?_
    refine k_then_ret ?_
    refine r_none rfl ?_
    exact fun _ h => ⟨vR, rfl, trivial, h⟩
  · subst h1
    refine c_false rfl ?_
    refine c_skip ?_
    refine k_then ?_
    refine c_seq ?_
    refine c_region _ rfl ?_
    refine l_q rfl (q_move rfl rfl) rfl rfl ?_
    refine l_q rfl (q_nilCheck rfl rfl) rfl rfl ?_
    refine l_q rfl (q_fieldAddr rfl Try.underlying49 rfl Try.sizeOf27 rfl rfl) rfl rfl ?_
    refine l_q rfl (q_loadC rfl Try.isAgg27 rfl (fun _ h => h.at 0 rfl) rfl) rfl rfl ?_
    refine l_q rfl (q_move rfl rfl) rfl rfl ?_
    refine l_e rfl ?_
    refine e_call_00 (bsearch_spec m.rd t hs (by omega)) rfl rfl rfl Try.call51 rfl (fun _ h => h.rd 1 rfl) ?_
    intro z hz
    refine l_q rfl (q_move rfl rfl) rfl rfl ?_
    refine l_q rfl (q_extract rfl rfl rfl) rfl rfl ?_
    refine l_q rfl (q_extract rfl rfl rfl) rfl rfl ?_
    refine l_q rfl (q_assign rfl rfl) rfl rfl ?_
    refine l_q rfl (q_assign rfl rfl) rfl rfl ?_
    refine l_nil ?_
    refine k_then ?_
    refine c_region _ rfl ?_
    refine l_q rfl (q_move rfl rfl) rfl rfl ?_
    refine l_q rfl (q_move rfl rfl) rfl rfl ?_
    refine l_q rfl (q_nilCheck rfl rfl) rfl rfl ?_
    refine l_q rfl (q_fieldAddr rfl Try.underlying49 rfl Try.sizeOf27 rfl rfl) rfl rfl ?_
    refine l_q rfl (q_loadC rfl Try.isAgg27 rfl (fun _ h => h.at 0 rfl) rfl) rfl rfl ?_
    refine l_q rfl (q_move rfl rfl) rfl rfl ?_
    refine l_q rfl (q_move rfl rfl) rfl rfl ?_
    refine l_e rfl ?_
    refine e_buildSliceV (sz := 1) [.tmp 28] rfl rfl rfl rfl rfl Try.underlying27 Try.sizeOf3 rfl Try.zeroValue3 rfl ?_
    intro bt
    refine pull2 ?_
    refine l_e rfl ?_
    refine e_call_21 (insert_spec m.rd z.1 t bt hz.1 (by omega)) rfl rfl rfl Try.call52 rfl (fun _ _ => trivial) ?_
    intro v2 _
    refine row_eq (l' := ins t m.rd) (ins_eq hz.1 hz.2.1 hz.2.2).symm ?_
    refine l_q rfl (q_nilCheck rfl rfl) rfl rfl ?_
    refine l_q rfl (q_fieldAddr rfl Try.underlying49 rfl Try.sizeOf27 rfl rfl) rfl rfl ?_
    refine Pre.fact (fun _ h => row_one (h.at 0 rfl)) ?_
    intro hone
    refine pull1 ?_
    refine l_e rfl ?_
    refine e_store rfl rfl Try.sizeOf27 rfl rfl hone (Nat.le_of_ble_eq_true rfl) ?_
    refine l_nil ?_
    refine r_normal ?_
    refine pull2 ?_
    refine pull2 ?_
    refine pull2 ?_
    refine r_none rfl ?_
    exact fun _ h => ⟨v2, rfl, trivial, h⟩
set_option maxRecDepth 100000 in
set_option maxHeartbeats 1000000 in
theorem let_spec {m : La} {n : Nat} (hm : m.Ok n) (hn : n ≤ 60000) (b : Nat) (vR vQ : Value) : Con Try.prog 38 [.pointer (some ⟨b, 0, none⟩)] (fun _ => True) (LT b vR vQ m) (fun v : Value × Value × Value => v.1) (fun _ => True) (fun v => rowE v.1 3 (encI .i64) (letL m).1 :: LT b v.2.1 v.2.2 (letL m).2) := by
  intro w hE hH
  refine enter (n := 48) (vs := [.pointer (some ⟨b, 0, none⟩)]) (St w (dom (LT b vR vQ m)) (LT b vR vQ (m))) Try.func38 rfl rfl rfl (St.init hH) ?_
  refine c_seq ?_
  refine c_region _ rfl ?_
  refine l_q rfl (q_assign rfl rfl) rfl rfl ?_
  refine l_nil ?_
  refine k_then ?_
  refine c_seq ?_
  refine c_region _ rfl ?_
  refine l_q rfl (q_assign rfl rfl) rfl rfl ?_
  refine l_nil ?_
  refine k_then ?_
  refine c_seq ?_
  refine c_block ?_
  refine row0 3 (encI .i64) none ?_
  refine c_loop5 (fun (m2 : La) (acc : List Int) (v : Value) (vR2 : Value) (vQ2 : Value) => [(0, .pointer (some ⟨b, 0, none⟩)), (3, v)]) (fun (m2 : La) (acc : List Int) (v : Value) (vR2 : Value) (vQ2 : Value) => St w (dom (LT b vR vQ m)) (rowE v 3 (encI .i64) acc :: LT b vR2 vQ2 m2)) (fun (m2 : La) (acc : List Int) (v : Value) (vR2 : Value) (vQ2 : Value) => m2.Ok n ∧ letL m = (acc ++ (letL m2).1, (letL m2).2) ∧ acc.length + m2.q.length ≤ n) (fun (m2 : La) (acc : List Int) (v : Value) (vR2 : Value) (vQ2 : Value) => m2.q.length) (m) ([]) (.slice none 0 0) (vR) (vQ) ⟨hm, rfl, by have := hm.lens; simp; omega⟩ (Sub.cons rfl (Sub.cons rfl (Sub.nil))) (fun _ h => h) ?_
  intro m2 acc v vR2 vQ2 hp
  refine c_seq ?_
  refine c_seq ?_
  obtain ⟨hm2, hlet, hlen⟩ := hp
  obtain ⟨hlr, hlq⟩ := hm2.lens
  refine c_region _ rfl ?_
  refine l_q rfl (q_move rfl rfl) rfl rfl ?_
  refine l_q rfl (q_nilCheck rfl rfl) rfl rfl ?_
  refine l_q rfl (q_fieldAddr rfl Try.underlying49 rfl Try.sizeOf33 rfl rfl) rfl rfl ?_
  refine l_q rfl (q_loadC rfl Try.isAgg33 rfl (fun _ h => h.at 1 rfl) rfl) rfl rfl ?_
  refine l_q rfl (q_lenV rfl Try.underlying33 rfl (fun _ h => h.rd 3 rfl)) rfl rfl ?_
  refine l_q rfl (q_gtr rfl rfl rfl) rfl rfl ?_
  refine l_q rfl (q_move rfl rfl) rfl rfl ?_
  refine Pre.caseB 11 rfl (fun h1 => ?_) (fun h1 => ?_)
  · try simp only [decide_eq_true_eq, decide_eq_false_iff_not, Bool.not_eq_true', Bool.not_eq_false'] at h1
    obtain ⟨y, q, hq⟩ : ∃ y q, m2.q = y :: q := by
      cases hq : m2.q with
      | nil => rw [hq] at h1; simp at h1
      | cons y q => exact ⟨y, q, rfl⟩
    have hy : m2.q[0]? = some y := by rw [hq]; rfl
    refine l_q rfl (q_move rfl rfl) rfl rfl ?_
    refine l_q rfl (q_move rfl rfl) rfl rfl ?_
    refine l_q rfl (q_nilCheck rfl rfl) rfl rfl ?_
    refine l_q rfl (q_fieldAddr rfl Try.underlying49 rfl Try.sizeOf33 rfl rfl) rfl rfl ?_
    refine l_q rfl (q_loadC rfl Try.isAgg33 rfl (fun _ h => h.at 1 rfl) rfl) rfl rfl ?_
    refine l_q rfl (q_indexV 0 rfl Try.underlying33 Try.sizeOf41 rfl (fun _ h => h.rd 3 rfl) rfl rfl (by omega)) rfl rfl ?_
    refine l_q rfl (q_fieldAddr rfl Try.underlying41 rfl Try.sizeOf4 rfl rfl) rfl rfl ?_
    refine l_q rfl (q_loadV 0 1 rfl Try.isAgg4 rfl rfl (fun _ h => h.rd 3 rfl) hy rfl) rfl rfl ?_
    refine pull3 ?_
    refine pull3 ?_
    refine pull3 ?_
    refine l_e rfl ?_
    refine e_call_33 (open_spec hm2 hn b vR2 vQ2 y.2) rfl rfl rfl Try.call39 rfl (fun _ _ => trivial) ?_
    intro _ _
    refine l_q rfl (q_pick_t rfl rfl rfl) rfl rfl ?_
    refine l_nil ?_
    refine k_then ?_
    refine Pre.caseB 21 rfl (fun h2 => ?_) (fun h2 => ?_)
    · have hgo := let_go hq h2
      have hok := ok_go hm2 hq h2
      refine c_true rfl ?_
      refine c_skip ?_
      refine k_then ?_
      refine c_block ?_
      refine c_seq ?_
      refine c_region _ rfl ?_
      refine l_q rfl (q_move rfl rfl) rfl rfl ?_
      refine l_q rfl (q_nilCheck rfl rfl) rfl rfl ?_
      refine l_q rfl (q_fieldAddr rfl Try.underlying49 rfl Try.sizeOf33 rfl rfl) rfl rfl ?_
      refine l_q rfl (q_loadC rfl Try.isAgg33 rfl (fun _ h => h.at 0 rfl) rfl) rfl rfl ?_
      refine l_q rfl (q_indexV 0 rfl Try.underlying33 Try.sizeOf41 rfl (fun _ h => h.rd 2 rfl) rfl rfl (by omega)) rfl rfl ?_
      refine l_q rfl (q_loadVAgg 0 rfl Try.isAgg41 Try.sizeOf41 rfl rfl (fun _ h => h.rd 2 rfl) hy) rfl rfl ?_
      refine l_e rfl ?_
      refine e_alloc rfl rfl rfl Try.zeroValue41 ?_
      intro bw
      refine l_e rfl ?_
      refine e_storeAgg rfl rfl Try.sizeOf41 rfl rfl rfl (encW.one y) (Nat.le_of_ble_eq_true rfl) ?_
      refine cells_eq (show _ = [.int .i64 y.1, .bool y.2] from rfl) ?_
      refine l_nil ?_
      refine k_then ?_
      refine c_seq ?_
      refine c_region _ rfl ?_
      refine l_q rfl (q_move rfl rfl) rfl rfl ?_
      refine l_q rfl (q_move rfl rfl) rfl rfl ?_
      refine l_q rfl (q_nilCheck rfl rfl) rfl rfl ?_
      refine l_q rfl (q_fieldAddr rfl Try.underlying49 rfl Try.sizeOf33 rfl rfl) rfl rfl ?_
      refine l_q rfl (q_loadC rfl Try.isAgg33 rfl (fun _ h => h.at 1 rfl) rfl) rfl rfl ?_
      refine l_q rfl (q_sliceVL 1 rfl Try.underlying33 Try.sizeOf41 rfl (fun _ h => h.rd 3 rfl) rfl rfl (by omega)) rfl rfl ?_
      refine l_q rfl (q_nilCheck rfl rfl) rfl rfl ?_
      refine l_q rfl (q_fieldAddr rfl Try.underlying49 rfl Try.sizeOf33 rfl rfl) rfl rfl ?_
      have hdrop : m2.q.drop 1 = q := by rw [hq]; rfl
      refine Pre.fact (fun _ h => row_onev (h.at 3 rfl) encW.sz 1 m2.q.length) ?_
      intro hone
      refine pull1 ?_
      refine l_e rfl ?_
      refine e_store rfl rfl Try.sizeOf33 rfl rfl hone (Nat.le_of_ble_eq_true rfl) ?_
      refine l_nil ?_
      refine k_then ?_
      refine c_seq ?_
      refine c_region _ rfl ?_
      refine l_q rfl (q_move rfl rfl) rfl rfl ?_
      refine l_q rfl (q_fieldAddr rfl Try.underlying41 rfl Try.sizeOf3 rfl rfl) rfl rfl ?_
      refine l_q rfl (q_loadC rfl Try.isAgg3 rfl (fun _ h => h.at 1 rfl) rfl) rfl rfl ?_
      refine l_q rfl (q_fieldAddr rfl Try.underlying41 rfl Try.sizeOf4 rfl rfl) rfl rfl ?_
      refine l_q rfl (q_loadC rfl Try.isAgg4 rfl (fun _ h => h.at 1 rfl) rfl) rfl rfl ?_
      refine pull3 ?_
      refine row_tail 1 (by omega) ?_
      rw [hdrop]
      refine pull3 ?_
      refine pull2 ?_
      refine l_e rfl ?_
      refine e_call_33 (give_spec (m := { m2 with q := q }) hm2.srt (show m2.rd.length ≤ 60000 by omega) b vR2 _ y.1 y.2) rfl rfl rfl Try.call42 rfl (fun _ _ => trivial) ?_
      intro vR3 _
      refine l_nil ?_
      refine k_then ?_
      refine c_region _ rfl ?_
      refine l_q rfl (q_move rfl rfl) rfl rfl ?_
      refine l_q rfl (q_fieldAddr rfl Try.underlying41 rfl Try.sizeOf3 rfl rfl) rfl rfl ?_
      refine l_q rfl (q_loadC rfl Try.isAgg3 rfl (fun _ h => h.at 3 rfl) rfl) rfl rfl ?_
      refine l_e rfl ?_
      refine e_buildSliceV (sz := 1) [.tmp 44] rfl rfl rfl rfl rfl Try.underlying27 Try.sizeOf3 rfl Try.zeroValue3 rfl ?_
      intro b1
      refine pull5 ?_
      refine l_e rfl ?_
      refine e_append rfl rfl rfl Try.underlying27 Try.underlying27 info3 rfl rfl rfl rfl rfl (fun _ h => lit_rd (h.at 1 rfl) (encI .i64) [y.1] rfl rfl) (by simp only [byt3, List.length_append, List.length_cons, List.length_nil]; omega) (by simp only [List.length_append, List.length_cons, List.length_nil]; omega) ?_
      intro v3
      refine l_q rfl (q_assign rfl rfl) rfl rfl ?_
      refine l_nil ?_
      refine k_block ?_
      refine pull1 ?_
      refine drop0 ?_
      refine pull4 ?_
      refine drop0 ?_
      refine pull3 ?_
      refine pull3 ?_
      refine pull3 ?_
      refine pull3 ?_
      exact k_round ((giveL { m2 with q := q } y.1 y.2, acc ++ [y.1], v3, vR3, vsl vQ2 encW.sz 1 m2.q.length)) (by dsimp only; rw [give_q, hq]; simp) ⟨hok, by rw [hlet, hgo]; simp, by rw [give_q]; rw [hq] at hlen; simp at hlen ⊢; omega⟩ (Sub.cons rfl (Sub.cons rfl (Sub.nil))) (fun _ h => h)
    · have hst := let_stop (m := m2) (.inr ⟨y, q, hq, h2⟩)
      refine c_false rfl ?_
      refine c_exit ?_
      refine k_then_exit ?_
      refine k_then_exit ?_
      refine k_block_exit ?_
      refine k_then ?_
      refine c_seq ?_
      refine c_region _ rfl ?_
      refine l_q rfl (q_move rfl rfl) rfl rfl ?_
      refine l_q rfl (q_assign rfl rfl) rfl rfl ?_
      refine l_nil ?_
      refine k_then ?_
      refine c_ret ?_
      refine pull2 ?_
      refine pull2 ?_
      refine pull2 ?_
      refine pull3 ?_
      refine r_one rfl rfl ?_
      exact fun _ h => ⟨(v, vR2, vQ2), rfl, trivial, by rw [hlet, hst, List.append_nil]; exact h⟩
  · try simp only [decide_eq_true_eq, decide_eq_false_iff_not, Bool.not_eq_true', Bool.not_eq_false'] at h1
    have hst := let_stop (m := m2) (.inl (List.eq_nil_of_length_eq_zero (by omega)))
    refine l_not rfl rfl rfl ?_
    refine l_not rfl rfl rfl ?_
    refine l_not rfl rfl rfl ?_
    refine l_not rfl rfl rfl ?_
    refine l_not rfl rfl rfl ?_
    refine l_not rfl rfl rfl ?_
    refine l_not rfl rfl rfl ?_
    refine l_not rfl rfl rfl ?_
    refine l_not rfl rfl rfl ?_
    refine l_q rfl (q_pick_f rfl rfl rfl) rfl rfl ?_
    refine l_nil ?_
    refine k_then ?_
    refine c_false rfl ?_
    refine c_exit ?_
    refine k_then_exit ?_
    refine k_then_exit ?_
    refine k_block_exit ?_
    refine k_then ?_
    refine c_seq ?_
    refine c_region _ rfl ?_
    refine l_q rfl (q_move rfl rfl) rfl rfl ?_
    refine l_q rfl (q_assign rfl rfl) rfl rfl ?_
    refine l_nil ?_
    refine k_then ?_
    refine c_ret ?_
    refine r_one rfl rfl ?_
    exact fun _ h => ⟨(v, vR2, vQ2), rfl, trivial, by rw [hlet, hst, List.append_nil]; exact h⟩
set_option maxRecDepth 100000 in
set_option maxHeartbeats 1000000 in
theorem try_spec {m : La} {n : Nat} (hm : m.Ok n) (hn : n ≤ 60000) (b : Nat) (vR vQ : Value) (t : Int) (wr : Bool) : Con Try.prog 18 [.pointer (some ⟨b, 0, none⟩), .int .i64 t, .bool wr] (fun _ => True) (LT b vR vQ m) (fun _ : Value => .bool (tryB m t wr)) (fun _ => True) (fun v => LT b v vQ (tryL m t wr)) := by
  intro w hE hH
  obtain ⟨hlr, hlq⟩ := hm.lens
  refine enter (n := 29) (vs := [.pointer (some ⟨b, 0, none⟩), .int .i64 t, .bool wr]) (St w (dom (LT b vR vQ m)) (LT b vR vQ (m))) Try.func18 rfl rfl rfl (St.init hH) ?_
  refine c_seq ?_
  refine c_region _ rfl ?_
  refine l_q rfl (q_assign rfl rfl) rfl rfl ?_
  refine l_nil ?_
  refine k_then ?_
  refine c_seq ?_
  refine c_seq ?_
  refine c_region _ rfl ?_
  refine l_q rfl (q_move rfl rfl) rfl rfl ?_
  refine l_q rfl (q_move rfl rfl) rfl rfl ?_
  refine pull2 ?_
  refine pull2 ?_
  refine pull2 ?_
  refine l_e rfl ?_
  refine e_call_33 (may_spec hm hn b vR vQ t) rfl rfl rfl Try.call33 rfl (fun _ _ => trivial) ?_
  intro _ _
  refine l_q rfl (q_not rfl rfl) rfl rfl ?_
  refine l_q rfl (q_move rfl rfl) rfl rfl ?_
  refine Pre.caseB 11 rfl (fun h1 => ?_) (fun h1 => ?_)
  · try simp only [decide_eq_true_eq, decide_eq_false_iff_not, Bool.not_eq_true', Bool.not_eq_false'] at h1
    refine l_not rfl rfl rfl ?_
    refine l_not rfl rfl rfl ?_
    refine l_not rfl rfl rfl ?_
    refine l_not rfl rfl rfl ?_
    refine l_not rfl rfl rfl ?_
    refine l_not rfl rfl rfl ?_
    refine l_q rfl (q_pick_t rfl rfl rfl) rfl rfl ?_
    refine l_q rfl (q_move rfl rfl) rfl rfl ?_
    refine l_not rfl rfl rfl ?_
    refine l_not rfl rfl rfl ?_
    refine l_not rfl rfl rfl ?_
    refine l_not rfl rfl rfl ?_
    refine l_q rfl (q_pick_t rfl rfl rfl) rfl rfl ?_
    refine l_nil ?_
    refine k_then ?_
    refine c_true rfl ?_
    refine c_seq ?_
    refine c_region _ rfl ?_
    refine l_q rfl (q_assign rfl rfl) rfl rfl ?_
    refine l_nil ?_
    refine k_then ?_
    refine c_ret ?_
    refine k_then_ret ?_
    have e : tryB m t wr = false := by first | (simp_all [tryB]; done) | (unfold tryB; rw [show decide (m.q.length = 0) = false from decide_eq_false (by omega)]; simp)
    refine r_one rfl rfl ?_
    exact fun _ h => ⟨vR, congrArg (fun z => Ending.returned (Value.bool z)) e.symm, trivial, by unfold tryL; rw [e]; exact h⟩
  · try simp only [decide_eq_true_eq, decide_eq_false_iff_not, Bool.not_eq_true', Bool.not_eq_false'] at h1
    refine l_q rfl (q_move rfl rfl) rfl rfl ?_
    refine l_q rfl (q_nilCheck rfl rfl) rfl rfl ?_
    refine l_q rfl (q_fieldAddr rfl Try.underlying49 rfl Try.sizeOf33 rfl rfl) rfl rfl ?_
    refine l_q rfl (q_loadC rfl Try.isAgg33 rfl (fun _ h => h.at 0 rfl) rfl) rfl rfl ?_
    refine l_q rfl (q_lenV rfl Try.underlying33 rfl (fun _ h => h.rd 2 rfl)) rfl rfl ?_
    refine l_q rfl (q_gtr rfl rfl rfl) rfl rfl ?_
    refine l_q rfl (q_pick_f rfl rfl rfl) rfl rfl ?_
    refine l_q rfl (q_move rfl rfl) rfl rfl ?_
    refine Pre.caseB 19 rfl (fun h2 => ?_) (fun h2 => ?_)
    · try simp only [decide_eq_true_eq, decide_eq_false_iff_not, Bool.not_eq_true', Bool.not_eq_false'] at h2
      refine l_not rfl rfl rfl ?_
      refine l_not rfl rfl rfl ?_
      refine l_not rfl rfl rfl ?_
      refine l_not rfl rfl rfl ?_
      refine l_q rfl (q_pick_t rfl rfl rfl) rfl rfl ?_
      refine l_nil ?_
      refine k_then ?_
      refine c_true rfl ?_
      refine c_seq ?_
      refine c_region _ rfl ?_
      refine l_q rfl (q_assign rfl rfl) rfl rfl ?_
      refine l_nil ?_
      refine k_then ?_
      refine c_ret ?_
      refine k_then_ret ?_
      have e : tryB m t wr = false := by first | (simp_all [tryB]; done) | (unfold tryB; rw [show decide (m.q.length = 0) = false from decide_eq_false (by omega)]; simp)
      refine r_one rfl rfl ?_
      exact fun _ h => ⟨vR, congrArg (fun z => Ending.returned (Value.bool z)) e.symm, trivial, by unfold tryL; rw [e]; exact h⟩
    · try simp only [decide_eq_true_eq, decide_eq_false_iff_not, Bool.not_eq_true', Bool.not_eq_false'] at h2
      refine l_q rfl (q_move rfl rfl) rfl rfl ?_
      refine l_q rfl (q_move rfl rfl) rfl rfl ?_
      refine pull2 ?_
      refine pull2 ?_
      refine pull2 ?_
      refine l_e rfl ?_
      refine e_call_33 (open_spec hm hn b vR vQ wr) rfl rfl rfl Try.call39 rfl (fun _ _ => trivial) ?_
      intro _ _
      refine l_q rfl (q_not rfl rfl) rfl rfl ?_
      refine l_q rfl (q_pick_f rfl rfl rfl) rfl rfl ?_
      refine l_nil ?_
      refine k_then ?_
      refine Pre.caseB 24 rfl (fun h3 => ?_) (fun h3 => ?_)
      · try simp only [decide_eq_true_eq, decide_eq_false_iff_not, Bool.not_eq_true', Bool.not_eq_false'] at h3
        refine c_true rfl ?_
        refine c_seq ?_
        refine c_region _ rfl ?_
        refine l_q rfl (q_assign rfl rfl) rfl rfl ?_
        refine l_nil ?_
        refine k_then ?_
        refine c_ret ?_
        refine k_then_ret ?_
        have e : tryB m t wr = false := by first | (simp_all [tryB]; done) | (unfold tryB; rw [show decide (m.q.length = 0) = false from decide_eq_false (by omega)]; simp)
        refine r_one rfl rfl ?_
        exact fun _ h => ⟨vR, congrArg (fun z => Ending.returned (Value.bool z)) e.symm, trivial, by unfold tryL; rw [e]; exact h⟩
      · try simp only [decide_eq_true_eq, decide_eq_false_iff_not, Bool.not_eq_true', Bool.not_eq_false'] at h3
        refine c_false rfl ?_
        refine c_skip ?_
        refine k_then ?_
        refine c_seq ?_
        refine c_region _ rfl ?_
        refine l_q rfl (q_move rfl rfl) rfl rfl ?_
        refine l_q rfl (q_move rfl rfl) rfl rfl ?_
        refine l_q rfl (q_move rfl rfl) rfl rfl ?_
        have e : tryB m t wr = true := by first | (simp_all [tryB]; done) | (unfold tryB; rw [show decide (m.q.length = 0) = true from decide_eq_true (by omega)]; simp_all)
        refine pull2 ?_
        refine pull2 ?_
        refine pull2 ?_
        refine l_e rfl ?_
        refine e_call_33 (give_spec hm.srt (by omega) b vR vQ t wr) rfl rfl rfl Try.call42 rfl (fun _ _ => trivial) ?_
        intro v2 _
        refine l_nil ?_
        refine k_then ?_
        refine c_seq ?_
        refine c_region _ rfl ?_
        refine l_q rfl (q_assign rfl rfl) rfl rfl ?_
        refine l_nil ?_
        refine k_then ?_
        refine c_ret ?_
        refine r_one rfl rfl ?_
        exact fun _ h => ⟨v2, congrArg (fun z => Ending.returned (Value.bool z)) e.symm, trivial, by unfold tryL; rw [e]; exact h⟩
set_option maxRecDepth 100000 in
set_option maxHeartbeats 1000000 in
theorem take_spec {m : La} {n : Nat} (hm : m.Ok n) (hn : n ≤ 60000) (b : Nat) (vR vQ : Value) (t : Int) (wr : Bool) : Con Try.prog 12 [.pointer (some ⟨b, 0, none⟩), .int .i64 t, .bool wr] (fun _ => True) (LT b vR vQ m) (fun _ : Value × Value => .bool (tryB m t wr)) (fun _ => True) (fun v => LT b v.1 v.2 (takeL m t wr)) := by
  intro w hE hH
  obtain ⟨hlr, hlq⟩ := hm.lens
  refine enter (n := 31) (vs := [.pointer (some ⟨b, 0, none⟩), .int .i64 t, .bool wr]) (St w (dom (LT b vR vQ m)) (LT b vR vQ (m))) Try.func12 rfl rfl rfl (St.init hH) ?_
  refine c_seq ?_
  refine c_region _ rfl ?_
  refine l_q rfl (q_assign rfl rfl) rfl rfl ?_
  refine l_nil ?_
  refine k_then ?_
  refine c_seq ?_
  refine c_seq ?_
  refine c_region _ rfl ?_
  refine l_q rfl (q_move rfl rfl) rfl rfl ?_
  refine l_q rfl (q_move rfl rfl) rfl rfl ?_
  refine pull2 ?_
  refine pull2 ?_
  refine pull2 ?_
  refine l_e rfl ?_
  refine e_call_33 (may_spec hm hn b vR vQ t) rfl rfl rfl Try.call33 rfl (fun _ _ => trivial) ?_
  intro _ _
  refine l_q rfl (q_not rfl rfl) rfl rfl ?_
  refine l_nil ?_
  refine k_then ?_
  refine Pre.caseB 11 rfl (fun h1 => ?_) (fun h1 => ?_)
  · try simp only [Bool.not_eq_true', Bool.not_eq_false'] at h1
    have hb : tryB m t wr = false := by unfold tryB; rw [h1]; rfl
    have ht : takeL m t wr = m := by unfold takeL; rw [h1]; rfl
    refine c_true rfl ?_
    refine c_seq ?_
    refine c_region _ rfl ?_
    refine l_q rfl (q_assign rfl rfl) rfl rfl ?_
    refine l_nil ?_
    refine k_then ?_
    refine c_ret ?_
    refine k_then_ret ?_
    refine r_one rfl rfl ?_
    exact fun _ h => ⟨(vR, vQ), congrArg (fun z => Ending.returned (Value.bool z)) (hb.symm), trivial, by rw [ht]; exact h⟩
  · try simp only [Bool.not_eq_true', Bool.not_eq_false'] at h1
    refine c_false rfl ?_
    refine c_skip ?_
    refine k_then ?_
    refine c_seq ?_
    refine c_region _ rfl ?_
    refine l_q rfl (q_move rfl rfl) rfl rfl ?_
    refine l_q rfl (q_move rfl rfl) rfl rfl ?_
    refine l_q rfl (q_move rfl rfl) rfl rfl ?_
    refine l_e rfl ?_
    refine e_call_33 (try_spec hm hn b vR vQ t wr) rfl rfl rfl Try.call18 rfl (fun _ _ => trivial) ?_
    intro v2 _
    refine l_q rfl (q_assign rfl rfl) rfl rfl ?_
    refine l_nil ?_
    refine k_then ?_
    refine c_seq ?_
    refine c_seq ?_
    refine c_region _ rfl ?_
    refine l_q rfl (q_move rfl rfl) rfl rfl ?_
    refine l_q rfl (q_not rfl rfl) rfl rfl ?_
    refine l_nil ?_
    refine k_then ?_
    refine Pre.caseB 17 rfl (fun h2 => ?_) (fun h2 => ?_)
    · try simp only [Bool.not_eq_true', Bool.not_eq_false'] at h2
      have ht : takeL m t wr = queueL m t wr := by unfold takeL; rw [h1, h2]; rfl
      have hl : tryL m t wr = m := by unfold tryL; rw [h2]; rfl
      rw [hl]
      refine c_true rfl ?_
      refine c_region _ rfl ?_
      refine l_q rfl (q_move rfl rfl) rfl rfl ?_
      refine l_q rfl (q_move rfl rfl) rfl rfl ?_
      refine l_q rfl (q_nilCheck rfl rfl) rfl rfl ?_
      refine l_q rfl (q_fieldAddr rfl Try.underlying49 rfl Try.sizeOf33 rfl rfl) rfl rfl ?_
      refine l_q rfl (q_loadC rfl Try.isAgg33 rfl (fun _ h => h.at 0 rfl) rfl) rfl rfl ?_
      refine l_q rfl (q_move rfl rfl) rfl rfl ?_
      refine l_q rfl (q_move rfl rfl) rfl rfl ?_
      refine l_q rfl (q_build ([.int .i64 t, .bool wr]) rfl rfl (fun w => by kernel_rfl)) rfl rfl ?_
      refine l_e rfl ?_
      refine e_buildSliceV (sz := 2) [.tmp 25] rfl rfl rfl rfl rfl Try.underlying33 Try.sizeOf41 rfl Try.zeroValue41 rfl ?_
      intro b1
      refine pull3 ?_
      refine l_e rfl ?_
      refine e_append rfl rfl rfl Try.underlying33 Try.underlying33 info41 rfl rfl rfl rfl rfl (fun _ h => lit_rd (h.at 1 rfl) encW [(t, wr)] rfl rfl) (by simp only [byt41, List.length_append, List.length_cons, List.length_nil]; omega) (by simp only [List.length_append, List.length_cons, List.length_nil]; omega) ?_
      intro v3
      refine l_q rfl (q_nilCheck rfl rfl) rfl rfl ?_
      refine l_q rfl (q_fieldAddr rfl Try.underlying49 rfl Try.sizeOf33 rfl rfl) rfl rfl ?_
      refine Pre.fact (fun _ h => row_one (h.at 0 rfl)) ?_
      intro hone
      refine pull2 ?_
      refine l_e rfl ?_
      refine e_store rfl rfl Try.sizeOf33 rfl rfl hone (Nat.le_of_ble_eq_true rfl) ?_
      refine l_nil ?_
      refine k_then ?_
      refine c_seq ?_
      refine c_region _ rfl ?_
      refine l_q rfl (q_move rfl rfl) rfl rfl ?_
      refine l_q rfl (q_assign rfl rfl) rfl rfl ?_
      refine l_nil ?_
      refine k_then ?_
      refine c_ret ?_
      refine pull2 ?_
      refine drop0 ?_
      refine pull1 ?_
      refine pull2 ?_
      refine pull2 ?_
      refine r_one rfl rfl ?_
      exact fun _ h => ⟨(v2, v3), congrArg (fun z => Ending.returned (Value.bool z)) (rfl), trivial, by rw [ht]; exact h⟩
    · try simp only [Bool.not_eq_true', Bool.not_eq_false'] at h2
      have ht : takeL m t wr = tryL m t wr := by unfold takeL tryL; rw [h1, h2]; rfl
      refine c_false rfl ?_
      refine c_skip ?_
      refine k_then ?_
      refine c_seq ?_
      refine c_region _ rfl ?_
      refine l_q rfl (q_move rfl rfl) rfl rfl ?_
      refine l_q rfl (q_assign rfl rfl) rfl rfl ?_
      refine l_nil ?_
      refine k_then ?_
      refine c_ret ?_
      refine r_one rfl rfl ?_
      exact fun _ h => ⟨(v2, vQ), congrArg (fun z => Ending.returned (Value.bool z)) (rfl), trivial, by rw [ht]; exact h⟩
set_option maxRecDepth 100000 in
set_option maxHeartbeats 1000000 in
theorem drop_spec {m : La} {n : Nat} (hm : m.Ok n) (hn : n ≤ 60000) (b : Nat) (vR vQ : Value) (t : Int) : Con Try.prog 13 [.pointer (some ⟨b, 0, none⟩), .int .i64 t] (fun _ => True) (LT b vR vQ m) (fun v : Value × Value × Value => v.1) (fun _ => True) (fun v => rowE v.1 3 (encI .i64) (dropL m t).1 :: LT b v.2.1 v.2.2 (dropL m t).2) := by
  intro w hE hH
  obtain ⟨hlr, hlq⟩ := hm.lens
  refine enter (n := 55) (vs := [.pointer (some ⟨b, 0, none⟩), .int .i64 t]) (St w (dom (LT b vR vQ m)) (LT b vR vQ (m))) Try.func13 rfl rfl rfl (St.init hH) ?_
  refine c_seq ?_
  refine c_region _ rfl ?_
  refine l_q rfl (q_assign rfl rfl) rfl rfl ?_
  refine l_nil ?_
  refine k_then ?_
  refine c_seq ?_
  refine c_seq ?_
  refine c_region _ rfl ?_
  refine l_q rfl (q_move rfl rfl) rfl rfl ?_
  refine l_q rfl (q_lss rfl rfl rfl) rfl rfl ?_
  refine l_nil ?_
  refine k_then ?_
  refine Pre.caseB 8 rfl (fun h0 => ?_) (fun h0 => ?_)
  · try simp only [decide_eq_true_eq, decide_eq_false_iff_not, Bool.not_eq_true', Bool.not_eq_false'] at h0
    have hd : dropL m t = ([], m) := by unfold dropL; rw [if_pos h0]
    refine c_true rfl ?_
    refine c_seq ?_
    refine c_region _ rfl ?_
    refine l_q rfl (q_assign rfl rfl) rfl rfl ?_
    refine l_nil ?_
    refine k_then ?_
    refine c_ret ?_
    refine k_then_ret ?_
    refine row0 3 (encI .i64) none ?_
    refine r_one rfl rfl ?_
    exact fun _ h => ⟨(.slice none 0 0, vR, vQ), rfl, trivial, by rw [hd]; exact h⟩
  · try simp only [decide_eq_true_eq, decide_eq_false_iff_not, Bool.not_eq_true', Bool.not_eq_false'] at h0
    have hd : dropL m t = letL (leaveL m t) := by unfold dropL; rw [if_neg h0]
    refine c_false rfl ?_
    refine c_skip ?_
    refine k_then ?_
    refine c_seq ?_
    refine c_seq ?_
    refine c_region _ rfl ?_
    refine l_q rfl (q_move rfl rfl) rfl rfl ?_
    refine l_q rfl (q_nilCheck rfl rfl) rfl rfl ?_
    refine l_q rfl (q_fieldAddr rfl Try.underlying49 rfl Try.sizeOf3 rfl rfl) rfl rfl ?_
    refine l_q rfl (q_loadC rfl Try.isAgg3 rfl (fun _ h => h.at 0 rfl) rfl) rfl rfl ?_
    refine l_q rfl (q_move rfl rfl) rfl rfl ?_
    refine l_q rfl (q_eql rfl rfl rfl) rfl rfl ?_
    refine l_nil ?_
    refine k_then ?_
    refine c_meet2 (fun (vR2 : Value) (vQ2 : Value) => [(0, .pointer (some ⟨b, 0, none⟩)), (1, .int .i64 t)]) (fun (vR2 : Value) (vQ2 : Value) => St w (dom (LT b vR vQ m)) (LT b vR2 vQ2 ({ m with wr := if m.wr = t then -1 else m.wr }))) (fun (vR2 : Value) (vQ2 : Value) => True) ?_ ?_
    · refine Pre.caseB 14 rfl (fun h1 => ?_) (fun h1 => ?_)
      · try simp only [decide_eq_true_eq, decide_eq_false_iff_not, Bool.not_eq_true', Bool.not_eq_false'] at h1
        refine c_true rfl ?_
        refine c_region _ rfl ?_
        refine l_q rfl (q_move rfl rfl) rfl rfl ?_
        refine l_q rfl (q_nilCheck rfl rfl) rfl rfl ?_
        refine l_q rfl (q_fieldAddr rfl Try.underlying49 rfl Try.sizeOf3 rfl rfl) rfl rfl ?_
        refine l_e rfl ?_
        refine e_store rfl rfl Try.sizeOf3 rfl rfl rfl (Nat.le_of_ble_eq_true rfl) ?_
        refine l_nil ?_
        exact k_meet ((vR, vQ)) trivial (Sub.cons rfl (Sub.cons rfl (Sub.nil))) (fun _ h => by rw [if_pos h1]; exact h)
      · try simp only [decide_eq_true_eq, decide_eq_false_iff_not, Bool.not_eq_true', Bool.not_eq_false'] at h1
        refine c_false rfl ?_
        refine c_skip ?_
        exact k_meet ((vR, vQ)) trivial (Sub.cons rfl (Sub.cons rfl (Sub.nil))) (fun _ h => by rw [if_neg h1]; exact h)
    · intro vR2 vQ2 _
      refine c_seq ?_
      refine c_seq ?_
      refine c_region _ rfl ?_
      refine l_q rfl (q_move rfl rfl) rfl rfl ?_
      refine l_q rfl (q_nilCheck rfl rfl) rfl rfl ?_
      refine l_q rfl (q_fieldAddr rfl Try.underlying49 rfl Try.sizeOf27 rfl rfl) rfl rfl ?_
      refine l_q rfl (q_loadC rfl Try.isAgg27 rfl (fun _ h => h.at 0 rfl) rfl) rfl rfl ?_
      refine l_q rfl (q_move rfl rfl) rfl rfl ?_
      refine l_e rfl ?_
      refine e_call_00 (index_spec m.rd t (by omega)) rfl rfl rfl Try.call34 rfl (fun _ h => h.rd 1 rfl) ?_
      intro z hz
      refine l_q rfl (q_assign rfl rfl) rfl rfl ?_
      refine l_nil ?_
      refine k_then ?_
      refine c_seq ?_
      refine c_region _ rfl ?_
      refine l_q rfl (q_move rfl rfl) rfl rfl ?_
      refine l_q rfl (q_geq rfl rfl rfl) rfl rfl ?_
      refine l_nil ?_
      refine k_then ?_
      refine c_meet2 (fun (vR3 : Value) (vQ3 : Value) => [(0, .pointer (some ⟨b, 0, none⟩)), (1, .int .i64 t)]) (fun (vR3 : Value) (vQ3 : Value) => St w (dom (LT b vR vQ m)) (LT b vR3 vQ3 ({ m with wr := if m.wr = t then -1 else m.wr, rd := m.rd.filter (fun x => decide (x ≠ t)) }))) (fun (vR3 : Value) (vQ3 : Value) => True) ?_ ?_
      · refine Pre.caseB 25 rfl (fun h2 => ?_) (fun h2 => ?_)
        · try simp only [decide_eq_true_eq, decide_eq_false_iff_not, Bool.not_eq_true', Bool.not_eq_false'] at h2
          obtain ⟨k, rfl, hk⟩ : ∃ k : Nat, z = (k : Int) ∧ m.rd[k]? = some t := by
            rcases hz with ⟨rfl, _⟩ | hz
            · omega
            · exact hz
          have hkl := (List.getElem?_eq_some_iff.1 hk).1
          refine c_true rfl ?_
          refine c_region _ rfl ?_
          refine l_q rfl (q_move rfl rfl) rfl rfl ?_
          refine l_q rfl (q_move rfl rfl) rfl rfl ?_
          refine l_q rfl (q_nilCheck rfl rfl) rfl rfl ?_
          refine l_q rfl (q_fieldAddr rfl Try.underlying49 rfl Try.sizeOf27 rfl rfl) rfl rfl ?_
          refine l_q rfl (q_loadC rfl Try.isAgg27 rfl (fun _ h => h.at 0 rfl) rfl) rfl rfl ?_
          refine l_q rfl (q_move rfl rfl) rfl rfl ?_
          refine l_q rfl (q_move rfl rfl) rfl rfl ?_
          refine l_q rfl (q_add64 rfl rfl rfl (by omega)) rfl rfl ?_
          refine pull1 ?_
          refine l_e rfl ?_
          refine e_call_11 (delete_spec m.rd k hkl (by omega)) rfl rfl rfl Try.call35 rfl (fun _ _ => trivial) ?_
          intro v3 _
          refine row_eq (l' := m.rd.filter (fun x => decide (x ≠ t))) (filter_at (f := fun x => x) (by simpa using hm.rn) hk rfl).symm ?_
          refine l_q rfl (q_nilCheck rfl rfl) rfl rfl ?_
          refine l_q rfl (q_fieldAddr rfl Try.underlying49 rfl Try.sizeOf27 rfl rfl) rfl rfl ?_
          refine Pre.fact (fun _ h => row_one (h.at 0 rfl)) ?_
          intro hone
          refine pull1 ?_
          refine l_e rfl ?_
          refine e_store rfl rfl Try.sizeOf27 rfl rfl hone (Nat.le_of_ble_eq_true rfl) ?_
          refine l_nil ?_
          refine pull2 ?_
          refine pull2 ?_
          refine pull2 ?_
          exact k_meet ((v3, vQ2)) trivial (Sub.cons rfl (Sub.cons rfl (Sub.nil))) (fun _ h => h)
        · try simp only [decide_eq_true_eq, decide_eq_false_iff_not, Bool.not_eq_true', Bool.not_eq_false'] at h2
          have hno : m.rd.filter (fun x => decide (x ≠ t)) = m.rd := filter_no (f := fun x => x) (by
            rcases hz with ⟨_, hz⟩ | ⟨k, rfl, _⟩
            · simpa using hz
            · omega)
          refine c_false rfl ?_
          refine c_skip ?_
          exact k_meet ((vR2, vQ2)) trivial (Sub.cons rfl (Sub.cons rfl (Sub.nil))) (fun _ h => by rw [hno]; exact h)
      · intro vR3 vQ3 _
        refine c_seq ?_
        refine c_seq ?_
        refine c_region _ rfl ?_
        refine l_q rfl (q_move rfl rfl) rfl rfl ?_
        refine l_q rfl (q_move rfl rfl) rfl rfl ?_
        refine l_e rfl ?_
        refine e_call_33 (waits_spec (m := { m with wr := if m.wr = t then -1 else m.wr, rd := m.rd.filter (fun x => decide (x ≠ t)) }) (show m.q.length ≤ 60000 by omega) b vR3 vQ3 t) rfl rfl rfl Try.call36 rfl (fun _ _ => trivial) ?_
        intro z hz
        refine l_q rfl (q_assign rfl rfl) rfl rfl ?_
        refine l_nil ?_
        refine k_then ?_
        refine c_seq ?_
        refine c_region _ rfl ?_
        refine l_q rfl (q_move rfl rfl) rfl rfl ?_
        refine l_q rfl (q_geq rfl rfl rfl) rfl rfl ?_
        refine l_nil ?_
        refine k_then ?_
        refine c_meet2 (fun (vR4 : Value) (vQ4 : Value) => [(0, .pointer (some ⟨b, 0, none⟩)), (1, .int .i64 t)]) (fun (vR4 : Value) (vQ4 : Value) => St w (dom (LT b vR vQ m)) (LT b vR4 vQ4 (leaveL m t))) (fun (vR4 : Value) (vQ4 : Value) => True) ?_ ?_
        · refine Pre.caseB 41 rfl (fun h3 => ?_) (fun h3 => ?_)
          · try simp only [decide_eq_true_eq, decide_eq_false_iff_not, Bool.not_eq_true', Bool.not_eq_false'] at h3
            obtain ⟨k, y, rfl, hk, hy⟩ : ∃ (k : Nat) (y : Wt), z = (k : Int) ∧ m.q[k]? = some y ∧ y.1 = t := by
              rcases hz with ⟨rfl, _⟩ | hz
              · omega
              · exact hz
            have hkl := (List.getElem?_eq_some_iff.1 hk).1
            refine c_true rfl ?_
            refine c_region _ rfl ?_
            refine l_q rfl (q_move rfl rfl) rfl rfl ?_
            refine l_q rfl (q_move rfl rfl) rfl rfl ?_
            refine l_q rfl (q_nilCheck rfl rfl) rfl rfl ?_
            refine l_q rfl (q_fieldAddr rfl Try.underlying49 rfl Try.sizeOf33 rfl rfl) rfl rfl ?_
            refine l_q rfl (q_loadC rfl Try.isAgg33 rfl (fun _ h => h.at 0 rfl) rfl) rfl rfl ?_
            refine l_q rfl (q_move rfl rfl) rfl rfl ?_
            refine l_q rfl (q_move rfl rfl) rfl rfl ?_
            refine l_q rfl (q_add64 rfl rfl rfl (by omega)) rfl rfl ?_
            refine pull2 ?_
            refine l_e rfl ?_
            refine e_call_11 (deletew_spec m.q k hkl (by omega)) rfl rfl rfl Try.call37 rfl (fun _ _ => trivial) ?_
            intro v3 _
            refine row_eq (l' := (leaveL m t).q) (filter_at hm.qn hk hy).symm ?_
            refine l_q rfl (q_nilCheck rfl rfl) rfl rfl ?_
            refine l_q rfl (q_fieldAddr rfl Try.underlying49 rfl Try.sizeOf33 rfl rfl) rfl rfl ?_
            refine Pre.fact (fun _ h => row_one (h.at 0 rfl)) ?_
            intro hone
            refine pull1 ?_
            refine l_e rfl ?_
            refine e_store rfl rfl Try.sizeOf33 rfl rfl hone (Nat.le_of_ble_eq_true rfl) ?_
            refine l_nil ?_
            refine pull1 ?_
            refine pull2 ?_
            refine pull2 ?_
            exact k_meet ((vR3, v3)) trivial (Sub.cons rfl (Sub.cons rfl (Sub.nil))) (fun _ h => h)
          · try simp only [decide_eq_true_eq, decide_eq_false_iff_not, Bool.not_eq_true', Bool.not_eq_false'] at h3
            have hno : (leaveL m t).q = m.q := filter_no (by
              rcases hz with ⟨_, hz⟩ | ⟨k, _, rfl, _⟩
              · exact hz
              · omega)
            refine c_false rfl ?_
            refine c_skip ?_
            exact k_meet ((vR3, vQ3)) trivial (Sub.cons rfl (Sub.cons rfl (Sub.nil))) (fun _ h => by unfold LT; rw [hno]; exact h)
        · intro vR4 vQ4 _
          refine c_seq ?_
          refine c_region _ rfl ?_
          refine l_q rfl (q_move rfl rfl) rfl rfl ?_
          refine l_e rfl ?_
          refine e_call_34 (let_spec (leave_ok hm (by omega)) hn b vR4 vQ4) rfl rfl rfl Try.call38 rfl (fun _ _ => trivial) ?_
          intro v _
          refine l_q rfl (q_assign rfl rfl) rfl rfl ?_
          refine l_nil ?_
          refine k_then ?_
          refine c_ret ?_
          refine r_one rfl rfl ?_
          exact fun _ h => ⟨v, rfl, trivial, by rw [hd]; exact h⟩
set_option maxRecDepth 100000 in
set_option maxHeartbeats 1000000 in
theorem down_spec {m : La} {n : Nat} (hm : m.Ok n) (hn : n ≤ 60000) (b : Nat) (vR vQ : Value) (t : Int) : Con Try.prog 20 [.pointer (some ⟨b, 0, none⟩), .int .i64 t] (fun _ => True) (LT b vR vQ m) (fun v : Value × Value × Value => v.1) (fun _ => True) (fun v => rowE v.1 3 (encI .i64) (downL m t).1 :: LT b v.2.1 v.2.2 (downL m t).2) := by
  intro w hE hH
  obtain ⟨hlr, hlq⟩ := hm.lens
  refine enter (n := 23) (vs := [.pointer (some ⟨b, 0, none⟩), .int .i64 t]) (St w (dom (LT b vR vQ m)) (LT b vR vQ (m))) Try.func20 rfl rfl rfl (St.init hH) ?_
  refine c_seq ?_
  refine c_region _ rfl ?_
  refine l_q rfl (q_assign rfl rfl) rfl rfl ?_
  refine l_nil ?_
  refine k_then ?_
  refine c_seq ?_
  refine c_seq ?_
  refine c_region _ rfl ?_
  refine l_q rfl (q_move rfl rfl) rfl rfl ?_
  refine l_q rfl (q_lss rfl rfl rfl) rfl rfl ?_
  refine l_q rfl (q_move rfl rfl) rfl rfl ?_
  refine Pre.caseB 7 rfl (fun h0 => ?_) (fun h0 => ?_)
  · try simp only [decide_eq_true_eq, decide_eq_false_iff_not, Bool.not_eq_true', Bool.not_eq_false'] at h0
    refine l_not rfl rfl rfl ?_
    refine l_not rfl rfl rfl ?_
    refine l_not rfl rfl rfl ?_
    refine l_not rfl rfl rfl ?_
    refine l_not rfl rfl rfl ?_
    refine l_not rfl rfl rfl ?_
    refine l_q rfl (q_pick_t rfl rfl rfl) rfl rfl ?_
    refine l_nil ?_
    refine k_then ?_
    refine c_true rfl ?_
    refine c_seq ?_
    refine c_region _ rfl ?_
    refine l_q rfl (q_assign rfl rfl) rfl rfl ?_
    refine l_nil ?_
    refine k_then ?_
    refine c_ret ?_
    refine k_then_ret ?_
    have hd : downL m t = ([], m) := by unfold downL; rw [if_pos (by omega)]
    refine row0 3 (encI .i64) none ?_
    refine r_one rfl rfl ?_
    exact fun _ h => ⟨(.slice none 0 0, vR, vQ), rfl, trivial, by rw [hd]; exact h⟩
  · try simp only [decide_eq_true_eq, decide_eq_false_iff_not, Bool.not_eq_true', Bool.not_eq_false'] at h0
    refine l_q rfl (q_move rfl rfl) rfl rfl ?_
    refine l_q rfl (q_nilCheck rfl rfl) rfl rfl ?_
    refine l_q rfl (q_fieldAddr rfl Try.underlying49 rfl Try.sizeOf3 rfl rfl) rfl rfl ?_
    refine l_q rfl (q_loadC rfl Try.isAgg3 rfl (fun _ h => h.at 0 rfl) rfl) rfl rfl ?_
    refine l_q rfl (q_move rfl rfl) rfl rfl ?_
    refine l_q rfl (q_neq rfl rfl rfl) rfl rfl ?_
    refine l_q rfl (q_pick_f rfl rfl rfl) rfl rfl ?_
    refine l_nil ?_
    refine k_then ?_
    refine Pre.caseB 14 rfl (fun h1 => ?_) (fun h1 => ?_)
    · try simp only [decide_eq_true_eq, decide_eq_false_iff_not, Bool.not_eq_true', Bool.not_eq_false'] at h1
      have hd : downL m t = ([], m) := by unfold downL; rw [if_pos (by omega)]
      refine c_true rfl ?_
      refine c_seq ?_
      refine c_region _ rfl ?_
      refine l_q rfl (q_assign rfl rfl) rfl rfl ?_
      refine l_nil ?_
      refine k_then ?_
      refine c_ret ?_
      refine k_then_ret ?_
      refine row0 3 (encI .i64) none ?_
      refine r_one rfl rfl ?_
      exact fun _ h => ⟨(.slice none 0 0, vR, vQ), rfl, trivial, by rw [hd]; exact h⟩
    · try simp only [decide_eq_true_eq, decide_eq_false_iff_not, Bool.not_eq_true', Bool.not_eq_false'] at h1
      have hd : downL m t = letL (giveL { m with wr := -1 } t false) := by unfold downL; rw [if_neg (by omega)]
      have hk := (down_tasks hm (t := t) (by omega) h1).1
      refine c_false rfl ?_
      refine c_skip ?_
      refine k_then ?_
      refine c_seq ?_
      refine c_region _ rfl ?_
      refine l_q rfl (q_move rfl rfl) rfl rfl ?_
      refine l_q rfl (q_nilCheck rfl rfl) rfl rfl ?_
      refine l_q rfl (q_fieldAddr rfl Try.underlying49 rfl Try.sizeOf3 rfl rfl) rfl rfl ?_
      refine l_e rfl ?_
      refine e_store rfl rfl Try.sizeOf3 rfl rfl rfl (Nat.le_of_ble_eq_true rfl) ?_
      refine l_nil ?_
      refine k_then ?_
      refine c_seq ?_
      refine c_region _ rfl ?_
      refine l_q rfl (q_move rfl rfl) rfl rfl ?_
      refine l_q rfl (q_move rfl rfl) rfl rfl ?_
      refine l_e rfl ?_
      refine e_call_33 (give_spec (m := { m with wr := -1 }) hm.srt (show m.rd.length ≤ 60000 by omega) b vR vQ t false) rfl rfl rfl Try.call42 rfl (fun _ _ => trivial) ?_
      intro v2 _
      refine l_nil ?_
      refine k_then ?_
      refine c_seq ?_
      refine c_region _ rfl ?_
      refine l_q rfl (q_move rfl rfl) rfl rfl ?_
      refine l_e rfl ?_
      refine e_call_34 (let_spec hk hn b v2 vQ) rfl rfl rfl Try.call38 rfl (fun _ _ => trivial) ?_
      intro v _
      refine l_q rfl (q_assign rfl rfl) rfl rfl ?_
      refine l_nil ?_
      refine k_then ?_
      refine c_ret ?_
      refine r_one rfl rfl ?_
      exact fun _ h => ⟨v, rfl, trivial, by rw [hd]; exact h⟩
end Go.Proofs.Ytlakembncfkimaa
