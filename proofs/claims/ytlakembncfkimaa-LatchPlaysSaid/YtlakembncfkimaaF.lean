/- latch: awake -/
import Derived.Test.YtlakembncfkimaaE
set_option linter.unusedVariables false
set_option linter.unusedSimpArgs false
namespace Go.Proofs.Ytlakembncfkimaa
open Go.Sep Go.RowKit

/-- Any number as one from 0 to n - 1. -/
def plc (v n : Int) : Int := v % n
theorem tmod_place {v n : Int} (hn : 0 < n) : (if v.tmod n < 0 then v.tmod n + n else v.tmod n) = v % n := by
  have h1 := Int.tmod_lt_of_pos v hn
  have h2 : -n < v.tmod n := Int.lt_tmod_of_pos v hn
  have h3 := Int.mul_tdiv_add_tmod v n
  have key : ∀ r : Int, 0 ≤ r → r < n → (∃ q, v = n * q + r) → r = v % n := by
    rintro r hr0 hr1 ⟨q, hq⟩
    rw [hq, Int.mul_add_emod_self_left, Int.emod_eq_of_lt hr0 hr1]
  split
  · exact key _ (by omega) (by omega) ⟨v.tdiv n - 1, by rw [Int.mul_sub]; omega⟩
  · exact key _ (by omega) (by omega) ⟨v.tdiv n, by omega⟩

set_option maxRecDepth 100000 in
set_option maxHeartbeats 1000000 in
theorem place_spec (v n : Int) (hn : 0 < n) (hn2 : n ≤ 4611686018427387904) : Con Try.prog 19 [.int .i64 v, .int .i64 n] (fun _ => True) [] (fun _ : Unit => .int .i64 (v % n)) (fun _ => True) (fun _ => []) := by
  intro w hE hH
  have h1 := Int.tmod_lt_of_pos v hn
  have h2 : -n < v.tmod n := Int.lt_tmod_of_pos v hn
  have h3 := tmod_place (v := v) hn
  refine enter (n := 15) (vs := [.int .i64 v, .int .i64 n]) (St w [] []) Try.func19 rfl rfl rfl (St.init hH) ?_
  refine c_seq ?_
  refine c_region _ rfl ?_
  refine l_q rfl (q_assign rfl rfl) rfl rfl ?_
  refine l_nil ?_
  refine k_then ?_
  refine c_seq ?_
  refine c_region _ rfl ?_
  refine l_q rfl (q_move rfl rfl) rfl rfl ?_
  refine l_q rfl (q_move rfl rfl) rfl rfl ?_
  refine l_q rfl (q_rem rfl rfl rfl (by omega)) rfl rfl ?_
  refine l_q rfl (q_assign rfl rfl) rfl rfl ?_
  refine l_nil ?_
  refine k_then ?_
  refine c_seq ?_
  refine c_seq ?_
  refine c_region _ rfl ?_
  refine l_q rfl (q_move rfl rfl) rfl rfl ?_
  refine l_q rfl (q_lss rfl rfl rfl) rfl rfl ?_
  refine l_nil ?_
  refine k_then ?_
  refine Pre.caseB 10 rfl (fun h => ?_) (fun h => ?_)
  · simp only [decide_eq_true_eq, decide_eq_false_iff_not, Bool.not_eq_true', Bool.not_eq_false'] at h
    rw [if_pos h] at h3
    refine c_true rfl ?_
    refine c_region _ rfl ?_
    refine l_q rfl (q_move rfl rfl) rfl rfl ?_
    refine l_q rfl (q_move rfl rfl) rfl rfl ?_
    refine l_q rfl (q_add64 rfl rfl rfl (by omega)) rfl rfl ?_
    refine l_q rfl (q_assign rfl rfl) rfl rfl ?_
    refine l_nil ?_
    refine k_then ?_
    refine c_seq ?_
    refine c_region _ rfl ?_
    refine l_q rfl (q_move rfl rfl) rfl rfl ?_
    refine l_q rfl (q_assign rfl rfl) rfl rfl ?_
    refine l_nil ?_
    refine k_then ?_
    refine c_ret ?_
    refine r_one rfl rfl ?_
    exact fun _ h => ⟨(), congrArg (fun z => Ending.returned (Value.int .i64 z)) h3, trivial, h⟩
  · simp only [decide_eq_true_eq, decide_eq_false_iff_not, Bool.not_eq_true', Bool.not_eq_false'] at h
    rw [if_neg h] at h3
    refine c_false rfl ?_
    refine c_skip ?_
    refine k_then ?_
    refine c_seq ?_
    refine c_region _ rfl ?_
    refine l_q rfl (q_move rfl rfl) rfl rfl ?_
    refine l_q rfl (q_assign rfl rfl) rfl rfl ?_
    refine l_nil ?_
    refine k_then ?_
    refine c_ret ?_
    refine r_one rfl rfl ?_
    exact fun _ h => ⟨(), congrArg (fun z => Ending.returned (Value.int .i64 z)) h3, trivial, h⟩
set_option maxRecDepth 100000 in
set_option maxHeartbeats 1000000 in
theorem awake_spec : Con Try.prog 11 [] (fun _ => True) [] (fun _ : Unit => .bool true) (fun _ => True) (fun _ => []) := by
  intro w hE hH
  have hx : 1 = (dropL (takeL (takeL (takeL newL 0 false) 1 true) 2 false) 0).1.length := by decide +kernel
  have hy : 1 = (dropL (dropL (takeL (takeL (takeL newL 0 false) 1 true) 2 false) 0).2 1).1.length := by decide +kernel
  refine enter (n := 81) (vs := []) (St w [] []) Try.func11 rfl rfl rfl (St.init hH) ?_
  refine c_seq ?_
  refine c_region _ rfl ?_
  refine l_q rfl (q_assign rfl rfl) rfl rfl ?_
  refine l_nil ?_
  refine k_then ?_
  refine c_seq ?_
  refine c_region _ rfl ?_
  refine l_e rfl ?_
  refine e_call_03 (new_spec) rfl rfl rfl Try.call10 rfl (fun _ _ => trivial) ?_
  intro b _
  refine l_q rfl (q_assign rfl rfl) rfl rfl ?_
  refine l_nil ?_
  refine k_then ?_
  refine c_seq ?_
  refine c_seq ?_
  refine c_region _ rfl ?_
  refine l_q rfl (q_move rfl rfl) rfl rfl ?_
  refine l_q rfl (q_eqp rfl Try.underlying23 rfl rfl) rfl rfl ?_
  refine l_nil ?_
  refine k_then ?_
  refine Pre.setB (t := 10) (c := false) rfl (rfl) ?_
  refine c_false rfl ?_
  refine c_skip ?_
  refine k_then ?_
  refine c_seq ?_
  refine c_region _ rfl ?_
  refine l_q rfl (q_move rfl rfl) rfl rfl ?_
  refine pull2 ?_
  refine pull2 ?_
  refine pull2 ?_
  refine l_e rfl ?_
  refine e_call_33 (take_spec new_ok (by omega) b (.slice none 0 0) (.slice none 0 0) 0 false) rfl rfl rfl Try.call12 rfl (fun _ _ => trivial) ?_
  intro q1 _
  refine l_q rfl (q_move rfl rfl) rfl rfl ?_
  refine pull2 ?_
  refine pull2 ?_
  refine pull2 ?_
  refine l_e rfl ?_
  refine e_call_33 (take_spec (take_ok new_ok 0 false) (by omega) b q1.1 q1.2 1 true) rfl rfl rfl Try.call12 rfl (fun _ _ => trivial) ?_
  intro q2 _
  refine l_q rfl (q_move rfl rfl) rfl rfl ?_
  refine pull2 ?_
  refine pull2 ?_
  refine pull2 ?_
  refine l_e rfl ?_
  refine e_call_33 (take_spec (take_ok (take_ok new_ok 0 false) 1 true) (by omega) b q2.1 q2.2 2 false) rfl rfl rfl Try.call12 rfl (fun _ _ => trivial) ?_
  intro q3 _
  refine l_q rfl (q_assign rfl rfl) rfl rfl ?_
  refine l_q rfl (q_assign rfl rfl) rfl rfl ?_
  refine l_q rfl (q_assign rfl rfl) rfl rfl ?_
  refine l_nil ?_
  refine k_then ?_
  refine c_seq ?_
  refine c_region _ rfl ?_
  refine l_q rfl (q_move rfl rfl) rfl rfl ?_
  refine pull2 ?_
  refine pull2 ?_
  refine pull2 ?_
  refine l_e rfl ?_
  refine e_call_34 (drop_spec (take_ok (take_ok (take_ok new_ok 0 false) 1 true) 2 false) (by omega) b q3.1 q3.2 0) rfl rfl rfl Try.call13 rfl (fun _ _ => trivial) ?_
  intro q4 _
  refine l_q rfl (q_assign rfl rfl) rfl rfl ?_
  refine l_nil ?_
  refine k_then ?_
  refine c_seq ?_
  refine c_region _ rfl ?_
  refine l_q rfl (q_move rfl rfl) rfl rfl ?_
  refine pull3 ?_
  refine pull3 ?_
  refine pull3 ?_
  refine l_e rfl ?_
  refine e_call_33 (writer_spec (drop_ok (take_ok (take_ok (take_ok new_ok 0 false) 1 true) 2 false) 0) (by omega) b q4.2.1 q4.2.2 ) rfl rfl rfl Try.call15 rfl (fun _ _ => trivial) ?_
  intro _ _
  refine l_q rfl (q_assign rfl rfl) rfl rfl ?_
  refine l_nil ?_
  refine k_then ?_
  refine c_seq ?_
  refine c_region _ rfl ?_
  refine l_q rfl (q_move rfl rfl) rfl rfl ?_
  refine pull2 ?_
  refine pull2 ?_
  refine pull2 ?_
  refine l_e rfl ?_
  refine e_call_34 (drop_spec (drop_ok (take_ok (take_ok (take_ok new_ok 0 false) 1 true) 2 false) 0) (by omega) b q4.2.1 q4.2.2 1) rfl rfl rfl Try.call13 rfl (fun _ _ => trivial) ?_
  intro q5 _
  refine l_q rfl (q_assign rfl rfl) rfl rfl ?_
  refine l_nil ?_
  refine k_then ?_
  refine c_seq ?_
  refine c_region _ rfl ?_
  refine l_q rfl (q_move rfl rfl) rfl rfl ?_
  refine l_q rfl (q_move rfl rfl) rfl rfl ?_
  refine Pre.setB (t := 24) (c := true) rfl (by decide +kernel) ?_
  refine l_q rfl (q_move rfl rfl) rfl rfl ?_
  refine l_q rfl (q_not rfl rfl) rfl rfl ?_
  refine l_q rfl (q_pick_t rfl rfl rfl) rfl rfl ?_
  refine l_q rfl (q_move rfl rfl) rfl rfl ?_
  refine Pre.setB (t := 28) (c := true) rfl (by decide +kernel) ?_
  refine l_q rfl (q_move rfl rfl) rfl rfl ?_
  refine l_q rfl (q_not rfl rfl) rfl rfl ?_
  refine l_q rfl (q_pick_t rfl rfl rfl) rfl rfl ?_
  refine l_q rfl (q_move rfl rfl) rfl rfl ?_
  refine Pre.setB (t := 32) (c := true) rfl (by decide +kernel) ?_
  refine l_q rfl (q_move rfl rfl) rfl rfl ?_
  refine l_q rfl (q_lenV rfl Try.underlying27 rfl (fun _ h => h.rd 4 rfl)) rfl rfl ?_
  refine l_q rfl (q_eql rfl rfl rfl) rfl rfl ?_
  refine l_q rfl (q_pick_t rfl rfl rfl) rfl rfl ?_
  refine l_q rfl (q_move rfl rfl) rfl rfl ?_
  refine Pre.setB (t := 37) (c := true) rfl (by decide +kernel) ?_
  refine l_q rfl (q_move rfl rfl) rfl rfl ?_
  refine l_q rfl (q_indexV 0 rfl Try.underlying27 Try.sizeOf3 rfl (fun _ h => h.rd 4 rfl) rfl rfl (by omega)) rfl rfl ?_
  refine l_q rfl (q_loadV 0 0 rfl Try.isAgg3 rfl rfl (fun _ h => h.rd 4 rfl) (show (dropL (takeL (takeL (takeL newL 0 false) 1 true) 2 false) 0).1[0]? = some 1 by decide +kernel) rfl) rfl rfl ?_
  refine l_q rfl (q_eql rfl rfl rfl) rfl rfl ?_
  refine l_q rfl (q_pick_t rfl rfl rfl) rfl rfl ?_
  refine l_q rfl (q_move rfl rfl) rfl rfl ?_
  refine Pre.setB (t := 43) (c := true) rfl (by decide +kernel) ?_
  refine l_q rfl (q_move rfl rfl) rfl rfl ?_
  refine l_q rfl (q_eql rfl rfl rfl) rfl rfl ?_
  refine l_q rfl (q_pick_t rfl rfl rfl) rfl rfl ?_
  refine l_q rfl (q_move rfl rfl) rfl rfl ?_
  refine Pre.setB (t := 47) (c := true) rfl (by decide +kernel) ?_
  refine l_q rfl (q_move rfl rfl) rfl rfl ?_
  refine l_q rfl (q_lenV rfl Try.underlying27 rfl (fun _ h => h.rd 0 rfl)) rfl rfl ?_
  refine l_q rfl (q_eql rfl rfl rfl) rfl rfl ?_
  refine l_q rfl (q_pick_t rfl rfl rfl) rfl rfl ?_
  refine l_q rfl (q_move rfl rfl) rfl rfl ?_
  refine Pre.setB (t := 52) (c := true) rfl (by decide +kernel) ?_
  refine l_q rfl (q_move rfl rfl) rfl rfl ?_
  refine l_q rfl (q_indexV 0 rfl Try.underlying27 Try.sizeOf3 rfl (fun _ h => h.rd 0 rfl) rfl rfl (by omega)) rfl rfl ?_
  refine l_q rfl (q_loadV 0 0 rfl Try.isAgg3 rfl rfl (fun _ h => h.rd 0 rfl) (show (dropL (dropL (takeL (takeL (takeL newL 0 false) 1 true) 2 false) 0).2 1).1[0]? = some 2 by decide +kernel) rfl) rfl rfl ?_
  refine l_q rfl (q_eql rfl rfl rfl) rfl rfl ?_
  refine l_q rfl (q_pick_t rfl rfl rfl) rfl rfl ?_
  refine l_q rfl (q_move rfl rfl) rfl rfl ?_
  refine Pre.setB (t := 58) (c := true) rfl (by decide +kernel) ?_
  refine l_q rfl (q_move rfl rfl) rfl rfl ?_
  refine pull3 ?_
  refine pull3 ?_
  refine pull3 ?_
  refine l_e rfl ?_
  refine e_call_33 (writer_spec (drop_ok (drop_ok (take_ok (take_ok (take_ok new_ok 0 false) 1 true) 2 false) 0) 1) (by omega) b q5.2.1 q5.2.2 ) rfl rfl rfl Try.call15 rfl (fun _ _ => trivial) ?_
  intro _ _
  refine l_q rfl (q_eql rfl rfl rfl) rfl rfl ?_
  refine l_q rfl (q_pick_t rfl rfl rfl) rfl rfl ?_
  refine l_q rfl (q_move rfl rfl) rfl rfl ?_
  refine Pre.setB (t := 63) (c := true) rfl (by decide +kernel) ?_
  refine l_q rfl (q_move rfl rfl) rfl rfl ?_
  refine pull2 ?_
  refine pull2 ?_
  refine pull2 ?_
  refine l_e rfl ?_
  refine e_call_34 (readers_spec (drop_ok (drop_ok (take_ok (take_ok (take_ok new_ok 0 false) 1 true) 2 false) 0) 1) (by omega) b q5.2.1 q5.2.2) rfl rfl rfl Try.call16 rfl (fun _ _ => trivial) ?_
  intro q6 _
  refine l_q rfl (q_lenV rfl Try.underlying27 rfl (fun _ h => h.rd 0 rfl)) rfl rfl ?_
  refine l_q rfl (q_eql rfl rfl rfl) rfl rfl ?_
  refine l_q rfl (q_pick_t rfl rfl rfl) rfl rfl ?_
  refine l_q rfl (q_move rfl rfl) rfl rfl ?_
  refine Pre.setB (t := 69) (c := true) rfl (by decide +kernel) ?_
  refine l_q rfl (q_move rfl rfl) rfl rfl ?_
  refine pull3 ?_
  refine pull3 ?_
  refine pull3 ?_
  refine l_e rfl ?_
  refine e_call_33 (idle_spec (drop_ok (drop_ok (take_ok (take_ok (take_ok new_ok 0 false) 1 true) 2 false) 0) 1) (by omega) b q5.2.1 q5.2.2 ) rfl rfl rfl Try.call14 rfl (fun _ _ => trivial) ?_
  intro _ _
  refine l_q rfl (q_not rfl rfl) rfl rfl ?_
  refine l_q rfl (q_pick_t rfl rfl rfl) rfl rfl ?_
  refine l_q rfl (q_move rfl rfl) rfl rfl ?_
  refine Pre.setB (t := 74) (c := true) rfl (by decide +kernel) ?_
  refine l_q rfl (q_move rfl rfl) rfl rfl ?_
  refine l_q rfl (q_nilCheck rfl rfl) rfl rfl ?_
  refine l_q rfl (q_fieldAddr rfl Try.underlying49 rfl Try.sizeOf47 rfl rfl) rfl rfl ?_
  refine pull2 ?_
  refine pull2 ?_
  refine pull2 ?_
  refine l_e rfl ?_
  refine e_call_33 (pin_spec (drop_ok (drop_ok (take_ok (take_ok (take_ok new_ok 0 false) 1 true) 2 false) 0) 1) (by omega) b q5.2.1 q5.2.2 ) rfl rfl rfl Try.call27 rfl (fun _ _ => trivial) ?_
  intro _ _
  refine l_q rfl (q_eql rfl rfl rfl) rfl rfl ?_
  refine l_q rfl (q_pick_t rfl rfl rfl) rfl rfl ?_
  refine l_q rfl (q_assign rfl rfl) rfl rfl ?_
  refine l_nil ?_
  refine k_then ?_
  refine c_ret ?_
  refine r_one rfl rfl ?_
  exact fun _ h => ⟨(), congrArg (fun z => Ending.returned (Value.bool z)) (by decide +kernel), trivial, h.nothing⟩
end Go.Proofs.Ytlakembncfkimaa
