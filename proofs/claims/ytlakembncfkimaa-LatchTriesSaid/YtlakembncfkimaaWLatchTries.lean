/- LatchTries, walked -/
import Derived.Test.YtlakembncfkimaaF
import Derived.Test.YtlakembncfkimaaS9
set_option linter.unusedVariables false
set_option linter.unusedSimpArgs false
namespace Go.Proofs.Ytlakembncfkimaa
open Go.Sep Go.RowKit

set_option maxRecDepth 100000 in
set_option maxHeartbeats 1000000 in
theorem tries_spec (a0 a1 a2 a3 : Bool) : Con Try.prog 5 [.bool a0, .bool a1, .bool a2, .bool a3] (fun _ => True) [] (fun _ : Unit => .bool true) (fun _ => True) (fun _ => []) := by
  intro w hE hH
  cases a0 <;> cases a1 <;> cases a2 <;> cases a3
  · refine enter (n := 64) (vs := [.bool false, .bool false, .bool false, .bool false]) (St w [] []) Try.func5 rfl rfl rfl (St.init hH) ?_
    refine c_seq ?_
    refine c_region _ rfl ?_
    refine l_q rfl (q_assign rfl rfl) rfl rfl ?_
    refine l_nil ?_
    refine k_then ?_
    refine c_seq ?_
    refine c_region _ rfl ?_
    refine l_e rfl ?_
    refine e_call_03 (new_spec) rfl rfl rfl Try.call10 rfl (fun _ _ => trivial) ?_
    intro b _
    refine l_q rfl (q_assign rfl rfl) rfl rfl ?_
    refine l_nil ?_
    refine k_then ?_
    refine c_seq ?_
    refine c_seq ?_
    refine c_region _ rfl ?_
    refine l_q rfl (q_move rfl rfl) rfl rfl ?_
    refine l_q rfl (q_eqp rfl Try.underlying23 rfl rfl) rfl rfl ?_
    refine l_nil ?_
    refine k_then ?_
    refine Pre.setB (t := 15) (c := false) rfl (rfl) ?_
    refine c_false rfl ?_
    refine c_skip ?_
    refine k_then ?_
    refine c_seq ?_
    refine c_seq ?_
    refine c_region _ rfl ?_
    refine l_q rfl (q_move rfl rfl) rfl rfl ?_
    refine l_nil ?_
    refine k_then ?_
    refine c_false rfl ?_
    refine c_skip ?_
    refine k_then ?_
    refine c_seq ?_
    refine c_seq ?_
    refine c_region _ rfl ?_
    refine l_q rfl (q_move rfl rfl) rfl rfl ?_
    refine l_nil ?_
    refine k_then ?_
    refine c_false rfl ?_
    refine c_skip ?_
    refine k_then ?_
    refine c_seq ?_
    refine c_seq ?_
    refine c_region _ rfl ?_
    refine l_q rfl (q_move rfl rfl) rfl rfl ?_
    refine l_nil ?_
    refine k_then ?_
    refine c_false rfl ?_
    refine c_skip ?_
    refine k_then ?_
    refine c_seq ?_
    refine c_region _ rfl ?_
    refine l_q rfl (q_move rfl rfl) rfl rfl ?_
    refine l_q rfl (q_not rfl rfl) rfl rfl ?_
    refine l_q rfl (q_move rfl rfl) rfl rfl ?_
    refine l_q rfl (q_move rfl rfl) rfl rfl ?_
    refine l_q rfl (q_not rfl rfl) rfl rfl ?_
    refine l_q rfl (q_pick_t rfl rfl rfl) rfl rfl ?_
    refine l_q rfl (q_move rfl rfl) rfl rfl ?_
    refine l_q rfl (q_move rfl rfl) rfl rfl ?_
    refine l_q rfl (q_not rfl rfl) rfl rfl ?_
    refine l_q rfl (q_move rfl rfl) rfl rfl ?_
    refine l_not rfl rfl rfl ?_
    refine l_not rfl rfl rfl ?_
    refine l_q rfl (q_pick_t rfl rfl rfl) rfl rfl ?_
    refine l_q rfl (q_pick_t rfl rfl rfl) rfl rfl ?_
    refine l_q rfl (q_assign rfl rfl) rfl rfl ?_
    refine l_nil ?_
    refine k_then ?_
    refine c_seq ?_
    refine c_region _ rfl ?_
    refine l_q rfl (q_move rfl rfl) rfl rfl ?_
    refine pull2 ?_
    refine pull2 ?_
    refine pull2 ?_
    refine l_e rfl ?_
    refine e_call_34 (queue_spec new_ok (by omega) b (.slice none 0 0) (.slice none 0 0)) rfl rfl rfl Try.call17 rfl (fun _ _ => trivial) ?_
    intro q1 _
    refine l_q rfl (q_lenV rfl Try.underlying33 rfl (fun _ h => h.rd 0 rfl)) rfl rfl ?_
    refine l_q rfl (q_assign rfl rfl) rfl rfl ?_
    refine l_nil ?_
    refine k_then ?_
    refine c_seq ?_
    refine c_region _ rfl ?_
    refine l_q rfl (q_move rfl rfl) rfl rfl ?_
    refine l_q rfl (q_move rfl rfl) rfl rfl ?_
    refine pull3 ?_
    refine pull3 ?_
    refine pull3 ?_
    refine l_e rfl ?_
    refine e_call_33 (try_spec new_ok (by omega) b (.slice none 0 0) (.slice none 0 0) 9 false) rfl rfl rfl Try.call18 rfl (fun _ _ => trivial) ?_
    intro q2 _
    refine l_q rfl (q_assign rfl rfl) rfl rfl ?_
    refine l_nil ?_
    refine k_then ?_
    refine c_seq ?_
    refine c_region _ rfl ?_
    refine l_q rfl (q_move rfl rfl) rfl rfl ?_
    refine l_q rfl (q_move rfl rfl) rfl rfl ?_
    refine l_q rfl (q_eqb rfl Try.underlying4 rfl rfl) rfl rfl ?_
    refine l_q rfl (q_move rfl rfl) rfl rfl ?_
    refine Pre.setB (t := 48) (c := true) rfl (by decide +kernel) ?_
    refine l_q rfl (q_move rfl rfl) rfl rfl ?_
    refine pull2 ?_
    refine pull2 ?_
    refine pull2 ?_
    refine l_e rfl ?_
    refine e_call_34 (queue_spec (try_ok new_ok 9 false) (by omega) b q2 (.slice none 0 0)) rfl rfl rfl Try.call17 rfl (fun _ _ => trivial) ?_
    intro q3 _
    refine l_q rfl (q_lenV rfl Try.underlying33 rfl (fun _ h => h.rd 0 rfl)) rfl rfl ?_
    refine l_q rfl (q_move rfl rfl) rfl rfl ?_
    refine l_q rfl (q_eql rfl rfl rfl) rfl rfl ?_
    refine l_q rfl (q_pick_t rfl rfl rfl) rfl rfl ?_
    refine l_q rfl (q_move rfl rfl) rfl rfl ?_
    refine Pre.setB (t := 55) (c := true) rfl (by decide +kernel) ?_
    refine l_q rfl (q_move rfl rfl) rfl rfl ?_
    refine pull3 ?_
    refine pull3 ?_
    refine pull3 ?_
    refine l_e rfl ?_
    refine e_call_34 (drop_spec (try_ok new_ok 9 false) (by omega) b q2 (.slice none 0 0) 9) rfl rfl rfl Try.call13 rfl (fun _ _ => trivial) ?_
    intro q4 _
    refine l_q rfl (q_lenV rfl Try.underlying27 rfl (fun _ h => h.rd 0 rfl)) rfl rfl ?_
    refine l_q rfl (q_eql rfl rfl rfl) rfl rfl ?_
    refine l_q rfl (q_pick_t rfl rfl rfl) rfl rfl ?_
    refine l_q rfl (q_move rfl rfl) rfl rfl ?_
    refine Pre.setB (t := 61) (c := true) rfl (by decide +kernel) ?_
    refine l_e rfl ?_
    refine e_call_00 (awake_spec) rfl rfl rfl Try.call11 rfl (fun _ _ => trivial) ?_
    intro _ _
    refine l_q rfl (q_pick_t rfl rfl rfl) rfl rfl ?_
    refine l_q rfl (q_assign rfl rfl) rfl rfl ?_
    refine l_nil ?_
    refine k_then ?_
    refine c_ret ?_
    refine r_one rfl rfl ?_
    exact fun _ h => ⟨(), rfl, trivial, h.nothing⟩
  · refine enter (n := 64) (vs := [.bool false, .bool false, .bool false, .bool true]) (St w [] []) Try.func5 rfl rfl rfl (St.init hH) ?_
    refine c_seq ?_
    refine c_region _ rfl ?_
    refine l_q rfl (q_assign rfl rfl) rfl rfl ?_
    refine l_nil ?_
    refine k_then ?_
    refine c_seq ?_
    refine c_region _ rfl ?_
    refine l_e rfl ?_
    refine e_call_03 (new_spec) rfl rfl rfl Try.call10 rfl (fun _ _ => trivial) ?_
    intro b _
    refine l_q rfl (q_assign rfl rfl) rfl rfl ?_
    refine l_nil ?_
    refine k_then ?_
    refine c_seq ?_
    refine c_seq ?_
    refine c_region _ rfl ?_
    refine l_q rfl (q_move rfl rfl) rfl rfl ?_
    refine l_q rfl (q_eqp rfl Try.underlying23 rfl rfl) rfl rfl ?_
    refine l_nil ?_
    refine k_then ?_
    refine Pre.setB (t := 15) (c := false) rfl (rfl) ?_
    refine c_false rfl ?_
    refine c_skip ?_
    refine k_then ?_
    refine c_seq ?_
    refine c_seq ?_
    refine c_region _ rfl ?_
    refine l_q rfl (q_move rfl rfl) rfl rfl ?_
    refine l_nil ?_
    refine k_then ?_
    refine c_false rfl ?_
    refine c_skip ?_
    refine k_then ?_
    refine c_seq ?_
    refine c_seq ?_
    refine c_region _ rfl ?_
    refine l_q rfl (q_move rfl rfl) rfl rfl ?_
    refine l_nil ?_
    refine k_then ?_
    refine c_false rfl ?_
    refine c_skip ?_
    refine k_then ?_
    refine c_seq ?_
    refine c_seq ?_
    refine c_region _ rfl ?_
    refine l_q rfl (q_move rfl rfl) rfl rfl ?_
    refine l_nil ?_
    refine k_then ?_
    refine c_false rfl ?_
    refine c_skip ?_
    refine k_then ?_
    refine c_seq ?_
    refine c_region _ rfl ?_
    refine l_q rfl (q_move rfl rfl) rfl rfl ?_
    refine l_q rfl (q_not rfl rfl) rfl rfl ?_
    refine l_q rfl (q_move rfl rfl) rfl rfl ?_
    refine l_q rfl (q_move rfl rfl) rfl rfl ?_
    refine l_q rfl (q_not rfl rfl) rfl rfl ?_
    refine l_q rfl (q_pick_t rfl rfl rfl) rfl rfl ?_
    refine l_q rfl (q_move rfl rfl) rfl rfl ?_
    refine l_q rfl (q_move rfl rfl) rfl rfl ?_
    refine l_q rfl (q_not rfl rfl) rfl rfl ?_
    refine l_q rfl (q_move rfl rfl) rfl rfl ?_
    refine l_not rfl rfl rfl ?_
    refine l_not rfl rfl rfl ?_
    refine l_q rfl (q_pick_t rfl rfl rfl) rfl rfl ?_
    refine l_q rfl (q_pick_t rfl rfl rfl) rfl rfl ?_
    refine l_q rfl (q_assign rfl rfl) rfl rfl ?_
    refine l_nil ?_
    refine k_then ?_
    refine c_seq ?_
    refine c_region _ rfl ?_
    refine l_q rfl (q_move rfl rfl) rfl rfl ?_
    refine pull2 ?_
    refine pull2 ?_
    refine pull2 ?_
    refine l_e rfl ?_
    refine e_call_34 (queue_spec new_ok (by omega) b (.slice none 0 0) (.slice none 0 0)) rfl rfl rfl Try.call17 rfl (fun _ _ => trivial) ?_
    intro q5 _
    refine l_q rfl (q_lenV rfl Try.underlying33 rfl (fun _ h => h.rd 0 rfl)) rfl rfl ?_
    refine l_q rfl (q_assign rfl rfl) rfl rfl ?_
    refine l_nil ?_
    refine k_then ?_
    refine c_seq ?_
    refine c_region _ rfl ?_
    refine l_q rfl (q_move rfl rfl) rfl rfl ?_
    refine l_q rfl (q_move rfl rfl) rfl rfl ?_
    refine pull3 ?_
    refine pull3 ?_
    refine pull3 ?_
    refine l_e rfl ?_
    refine e_call_33 (try_spec new_ok (by omega) b (.slice none 0 0) (.slice none 0 0) 9 true) rfl rfl rfl Try.call18 rfl (fun _ _ => trivial) ?_
    intro q6 _
    refine l_q rfl (q_assign rfl rfl) rfl rfl ?_
    refine l_nil ?_
    refine k_then ?_
    refine c_seq ?_
    refine c_region _ rfl ?_
    refine l_q rfl (q_move rfl rfl) rfl rfl ?_
    refine l_q rfl (q_move rfl rfl) rfl rfl ?_
    refine l_q rfl (q_eqb rfl Try.underlying4 rfl rfl) rfl rfl ?_
    refine l_q rfl (q_move rfl rfl) rfl rfl ?_
    refine Pre.setB (t := 48) (c := true) rfl (by decide +kernel) ?_
    refine l_q rfl (q_move rfl rfl) rfl rfl ?_
    refine pull2 ?_
    refine pull2 ?_
    refine pull2 ?_
    refine l_e rfl ?_
    refine e_call_34 (queue_spec (try_ok new_ok 9 true) (by omega) b q6 (.slice none 0 0)) rfl rfl rfl Try.call17 rfl (fun _ _ => trivial) ?_
    intro q7 _
    refine l_q rfl (q_lenV rfl Try.underlying33 rfl (fun _ h => h.rd 0 rfl)) rfl rfl ?_
    refine l_q rfl (q_move rfl rfl) rfl rfl ?_
    refine l_q rfl (q_eql rfl rfl rfl) rfl rfl ?_
    refine l_q rfl (q_pick_t rfl rfl rfl) rfl rfl ?_
    refine l_q rfl (q_move rfl rfl) rfl rfl ?_
    refine Pre.setB (t := 55) (c := true) rfl (by decide +kernel) ?_
    refine l_q rfl (q_move rfl rfl) rfl rfl ?_
    refine pull3 ?_
    refine pull3 ?_
    refine pull3 ?_
    refine l_e rfl ?_
    refine e_call_34 (drop_spec (try_ok new_ok 9 true) (by omega) b q6 (.slice none 0 0) 9) rfl rfl rfl Try.call13 rfl (fun _ _ => trivial) ?_
    intro q8 _
    refine l_q rfl (q_lenV rfl Try.underlying27 rfl (fun _ h => h.rd 0 rfl)) rfl rfl ?_
    refine l_q rfl (q_eql rfl rfl rfl) rfl rfl ?_
    refine l_q rfl (q_pick_t rfl rfl rfl) rfl rfl ?_
    refine l_q rfl (q_move rfl rfl) rfl rfl ?_
    refine Pre.setB (t := 61) (c := true) rfl (by decide +kernel) ?_
    refine l_e rfl ?_
    refine e_call_00 (awake_spec) rfl rfl rfl Try.call11 rfl (fun _ _ => trivial) ?_
    intro _ _
    refine l_q rfl (q_pick_t rfl rfl rfl) rfl rfl ?_
    refine l_q rfl (q_assign rfl rfl) rfl rfl ?_
    refine l_nil ?_
    refine k_then ?_
    refine c_ret ?_
    refine r_one rfl rfl ?_
    exact fun _ h => ⟨(), rfl, trivial, h.nothing⟩
  · refine enter (n := 64) (vs := [.bool false, .bool false, .bool true, .bool false]) (St w [] []) Try.func5 rfl rfl rfl (St.init hH) ?_
    refine c_seq ?_
    refine c_region _ rfl ?_
    refine l_q rfl (q_assign rfl rfl) rfl rfl ?_
    refine l_nil ?_
    refine k_then ?_
    refine c_seq ?_
    refine c_region _ rfl ?_
    refine l_e rfl ?_
    refine e_call_03 (new_spec) rfl rfl rfl Try.call10 rfl (fun _ _ => trivial) ?_
    intro b _
    refine l_q rfl (q_assign rfl rfl) rfl rfl ?_
    refine l_nil ?_
    refine k_then ?_
    refine c_seq ?_
    refine c_seq ?_
    refine c_region _ rfl ?_
    refine l_q rfl (q_move rfl rfl) rfl rfl ?_
    refine l_q rfl (q_eqp rfl Try.underlying23 rfl rfl) rfl rfl ?_
    refine l_nil ?_
    refine k_then ?_
    refine Pre.setB (t := 15) (c := false) rfl (rfl) ?_
    refine c_false rfl ?_
    refine c_skip ?_
    refine k_then ?_
    refine c_seq ?_
    refine c_seq ?_
    refine c_region _ rfl ?_
    refine l_q rfl (q_move rfl rfl) rfl rfl ?_
    refine l_nil ?_
    refine k_then ?_
    refine c_false rfl ?_
    refine c_skip ?_
    refine k_then ?_
    refine c_seq ?_
    refine c_seq ?_
    refine c_region _ rfl ?_
    refine l_q rfl (q_move rfl rfl) rfl rfl ?_
    refine l_nil ?_
    refine k_then ?_
    refine c_false rfl ?_
    refine c_skip ?_
    refine k_then ?_
    refine c_seq ?_
    refine c_seq ?_
    refine c_region _ rfl ?_
    refine l_q rfl (q_move rfl rfl) rfl rfl ?_
    refine l_nil ?_
    refine k_then ?_
    refine c_true rfl ?_
    refine c_region _ rfl ?_
    refine l_q rfl (q_move rfl rfl) rfl rfl ?_
    refine pull2 ?_
    refine pull2 ?_
    refine pull2 ?_
    refine l_e rfl ?_
    refine e_call_33 (take_spec new_ok (by omega) b (.slice none 0 0) (.slice none 0 0) 3 true) rfl rfl rfl Try.call12 rfl (fun _ _ => trivial) ?_
    intro q9 _
    refine l_nil ?_
    refine k_then ?_
    refine c_seq ?_
    refine c_region _ rfl ?_
    refine l_q rfl (q_move rfl rfl) rfl rfl ?_
    refine l_q rfl (q_not rfl rfl) rfl rfl ?_
    refine l_q rfl (q_move rfl rfl) rfl rfl ?_
    refine l_q rfl (q_move rfl rfl) rfl rfl ?_
    refine l_q rfl (q_not rfl rfl) rfl rfl ?_
    refine l_q rfl (q_pick_t rfl rfl rfl) rfl rfl ?_
    refine l_q rfl (q_move rfl rfl) rfl rfl ?_
    refine l_not rfl rfl rfl ?_
    refine l_not rfl rfl rfl ?_
    refine l_not rfl rfl rfl ?_
    refine l_not rfl rfl rfl ?_
    refine l_not rfl rfl rfl ?_
    refine l_not rfl rfl rfl ?_
    refine l_q rfl (q_pick_f rfl rfl rfl) rfl rfl ?_
    refine l_q rfl (q_assign rfl rfl) rfl rfl ?_
    refine l_nil ?_
    refine k_then ?_
    refine c_seq ?_
    refine c_region _ rfl ?_
    refine l_q rfl (q_move rfl rfl) rfl rfl ?_
    refine pull2 ?_
    refine pull2 ?_
    refine pull2 ?_
    refine l_e rfl ?_
    refine e_call_34 (queue_spec (take_ok new_ok 3 true) (by omega) b q9.1 q9.2) rfl rfl rfl Try.call17 rfl (fun _ _ => trivial) ?_
    intro q10 _
    refine l_q rfl (q_lenV rfl Try.underlying33 rfl (fun _ h => h.rd 0 rfl)) rfl rfl ?_
    refine l_q rfl (q_assign rfl rfl) rfl rfl ?_
    refine l_nil ?_
    refine k_then ?_
    refine c_seq ?_
    refine c_region _ rfl ?_
    refine l_q rfl (q_move rfl rfl) rfl rfl ?_
    refine l_q rfl (q_move rfl rfl) rfl rfl ?_
    refine pull3 ?_
    refine pull3 ?_
    refine pull3 ?_
    refine l_e rfl ?_
    refine e_call_33 (try_spec (take_ok new_ok 3 true) (by omega) b q9.1 q9.2 9 false) rfl rfl rfl Try.call18 rfl (fun _ _ => trivial) ?_
    intro q11 _
    refine l_q rfl (q_assign rfl rfl) rfl rfl ?_
    refine l_nil ?_
    refine k_then ?_
    refine c_seq ?_
    refine c_region _ rfl ?_
    refine l_q rfl (q_move rfl rfl) rfl rfl ?_
    refine l_q rfl (q_move rfl rfl) rfl rfl ?_
    refine l_q rfl (q_eqb rfl Try.underlying4 rfl rfl) rfl rfl ?_
    refine l_q rfl (q_move rfl rfl) rfl rfl ?_
    refine Pre.setB (t := 48) (c := true) rfl (by decide +kernel) ?_
    refine l_q rfl (q_move rfl rfl) rfl rfl ?_
    refine pull2 ?_
    refine pull2 ?_
    refine pull2 ?_
    refine l_e rfl ?_
    refine e_call_34 (queue_spec (try_ok (take_ok new_ok 3 true) 9 false) (by omega) b q11 q9.2) rfl rfl rfl Try.call17 rfl (fun _ _ => trivial) ?_
    intro q12 _
    refine l_q rfl (q_lenV rfl Try.underlying33 rfl (fun _ h => h.rd 0 rfl)) rfl rfl ?_
    refine l_q rfl (q_move rfl rfl) rfl rfl ?_
    refine l_q rfl (q_eql rfl rfl rfl) rfl rfl ?_
    refine l_q rfl (q_pick_t rfl rfl rfl) rfl rfl ?_
    refine l_q rfl (q_move rfl rfl) rfl rfl ?_
    refine Pre.setB (t := 55) (c := true) rfl (by decide +kernel) ?_
    refine l_q rfl (q_move rfl rfl) rfl rfl ?_
    refine pull3 ?_
    refine pull3 ?_
    refine pull3 ?_
    refine l_e rfl ?_
    refine e_call_34 (drop_spec (try_ok (take_ok new_ok 3 true) 9 false) (by omega) b q11 q9.2 9) rfl rfl rfl Try.call13 rfl (fun _ _ => trivial) ?_
    intro q13 _
    refine l_q rfl (q_lenV rfl Try.underlying27 rfl (fun _ h => h.rd 0 rfl)) rfl rfl ?_
    refine l_q rfl (q_eql rfl rfl rfl) rfl rfl ?_
    refine l_q rfl (q_pick_t rfl rfl rfl) rfl rfl ?_
    refine l_q rfl (q_move rfl rfl) rfl rfl ?_
    refine Pre.setB (t := 61) (c := true) rfl (by decide +kernel) ?_
    refine l_e rfl ?_
    refine e_call_00 (awake_spec) rfl rfl rfl Try.call11 rfl (fun _ _ => trivial) ?_
    intro _ _
    refine l_q rfl (q_pick_t rfl rfl rfl) rfl rfl ?_
    refine l_q rfl (q_assign rfl rfl) rfl rfl ?_
    refine l_nil ?_
    refine k_then ?_
    refine c_ret ?_
    refine r_one rfl rfl ?_
    exact fun _ h => ⟨(), rfl, trivial, h.nothing⟩
  · refine enter (n := 64) (vs := [.bool false, .bool false, .bool true, .bool true]) (St w [] []) Try.func5 rfl rfl rfl (St.init hH) ?_
    refine c_seq ?_
    refine c_region _ rfl ?_
    refine l_q rfl (q_assign rfl rfl) rfl rfl ?_
    refine l_nil ?_
    refine k_then ?_
    refine c_seq ?_
    refine c_region _ rfl ?_
    refine l_e rfl ?_
    refine e_call_03 (new_spec) rfl rfl rfl Try.call10 rfl (fun _ _ => trivial) ?_
    intro b _
    refine l_q rfl (q_assign rfl rfl) rfl rfl ?_
    refine l_nil ?_
    refine k_then ?_
    refine c_seq ?_
    refine c_seq ?_
    refine c_region _ rfl ?_
    refine l_q rfl (q_move rfl rfl) rfl rfl ?_
    refine l_q rfl (q_eqp rfl Try.underlying23 rfl rfl) rfl rfl ?_
    refine l_nil ?_
    refine k_then ?_
    refine Pre.setB (t := 15) (c := false) rfl (rfl) ?_
    refine c_false rfl ?_
    refine c_skip ?_
    refine k_then ?_
    refine c_seq ?_
    refine c_seq ?_
    refine c_region _ rfl ?_
    refine l_q rfl (q_move rfl rfl) rfl rfl ?_
    refine l_nil ?_
    refine k_then ?_
    refine c_false rfl ?_
    refine c_skip ?_
    refine k_then ?_
    refine c_seq ?_
    refine c_seq ?_
    refine c_region _ rfl ?_
    refine l_q rfl (q_move rfl rfl) rfl rfl ?_
    refine l_nil ?_
    refine k_then ?_
    refine c_false rfl ?_
    refine c_skip ?_
    refine k_then ?_
    refine c_seq ?_
    refine c_seq ?_
    refine c_region _ rfl ?_
    refine l_q rfl (q_move rfl rfl) rfl rfl ?_
    refine l_nil ?_
    refine k_then ?_
    refine c_true rfl ?_
    refine c_region _ rfl ?_
    refine l_q rfl (q_move rfl rfl) rfl rfl ?_
    refine pull2 ?_
    refine pull2 ?_
    refine pull2 ?_
    refine l_e rfl ?_
    refine e_call_33 (take_spec new_ok (by omega) b (.slice none 0 0) (.slice none 0 0) 3 true) rfl rfl rfl Try.call12 rfl (fun _ _ => trivial) ?_
    intro q14 _
    refine l_nil ?_
    refine k_then ?_
    refine c_seq ?_
    refine c_region _ rfl ?_
    refine l_q rfl (q_move rfl rfl) rfl rfl ?_
    refine l_q rfl (q_not rfl rfl) rfl rfl ?_
    refine l_q rfl (q_move rfl rfl) rfl rfl ?_
    refine l_q rfl (q_move rfl rfl) rfl rfl ?_
    refine l_q rfl (q_not rfl rfl) rfl rfl ?_
    refine l_q rfl (q_pick_t rfl rfl rfl) rfl rfl ?_
    refine l_q rfl (q_move rfl rfl) rfl rfl ?_
    refine l_not rfl rfl rfl ?_
    refine l_not rfl rfl rfl ?_
    refine l_not rfl rfl rfl ?_
    refine l_not rfl rfl rfl ?_
    refine l_not rfl rfl rfl ?_
    refine l_not rfl rfl rfl ?_
    refine l_q rfl (q_pick_f rfl rfl rfl) rfl rfl ?_
    refine l_q rfl (q_assign rfl rfl) rfl rfl ?_
    refine l_nil ?_
    refine k_then ?_
    refine c_seq ?_
    refine c_region _ rfl ?_
    refine l_q rfl (q_move rfl rfl) rfl rfl ?_
    refine pull2 ?_
    refine pull2 ?_
    refine pull2 ?_
    refine l_e rfl ?_
    refine e_call_34 (queue_spec (take_ok new_ok 3 true) (by omega) b q14.1 q14.2) rfl rfl rfl Try.call17 rfl (fun _ _ => trivial) ?_
    intro q15 _
    refine l_q rfl (q_lenV rfl Try.underlying33 rfl (fun _ h => h.rd 0 rfl)) rfl rfl ?_
    refine l_q rfl (q_assign rfl rfl) rfl rfl ?_
    refine l_nil ?_
    refine k_then ?_
    refine c_seq ?_
    refine c_region _ rfl ?_
    refine l_q rfl (q_move rfl rfl) rfl rfl ?_
    refine l_q rfl (q_move rfl rfl) rfl rfl ?_
    refine pull3 ?_
    refine pull3 ?_
    refine pull3 ?_
    refine l_e rfl ?_
    refine e_call_33 (try_spec (take_ok new_ok 3 true) (by omega) b q14.1 q14.2 9 true) rfl rfl rfl Try.call18 rfl (fun _ _ => trivial) ?_
    intro q16 _
    refine l_q rfl (q_assign rfl rfl) rfl rfl ?_
    refine l_nil ?_
    refine k_then ?_
    refine c_seq ?_
    refine c_region _ rfl ?_
    refine l_q rfl (q_move rfl rfl) rfl rfl ?_
    refine l_q rfl (q_move rfl rfl) rfl rfl ?_
    refine l_q rfl (q_eqb rfl Try.underlying4 rfl rfl) rfl rfl ?_
    refine l_q rfl (q_move rfl rfl) rfl rfl ?_
    refine Pre.setB (t := 48) (c := true) rfl (by decide +kernel) ?_
    refine l_q rfl (q_move rfl rfl) rfl rfl ?_
    refine pull2 ?_
    refine pull2 ?_
    refine pull2 ?_
    refine l_e rfl ?_
    refine e_call_34 (queue_spec (try_ok (take_ok new_ok 3 true) 9 true) (by omega) b q16 q14.2) rfl rfl rfl Try.call17 rfl (fun _ _ => trivial) ?_
    intro q17 _
    refine l_q rfl (q_lenV rfl Try.underlying33 rfl (fun _ h => h.rd 0 rfl)) rfl rfl ?_
    refine l_q rfl (q_move rfl rfl) rfl rfl ?_
    refine l_q rfl (q_eql rfl rfl rfl) rfl rfl ?_
    refine l_q rfl (q_pick_t rfl rfl rfl) rfl rfl ?_
    refine l_q rfl (q_move rfl rfl) rfl rfl ?_
    refine Pre.setB (t := 55) (c := true) rfl (by decide +kernel) ?_
    refine l_q rfl (q_move rfl rfl) rfl rfl ?_
    refine pull3 ?_
    refine pull3 ?_
    refine pull3 ?_
    refine l_e rfl ?_
    refine e_call_34 (drop_spec (try_ok (take_ok new_ok 3 true) 9 true) (by omega) b q16 q14.2 9) rfl rfl rfl Try.call13 rfl (fun _ _ => trivial) ?_
    intro q18 _
    refine l_q rfl (q_lenV rfl Try.underlying27 rfl (fun _ h => h.rd 0 rfl)) rfl rfl ?_
    refine l_q rfl (q_eql rfl rfl rfl) rfl rfl ?_
    refine l_q rfl (q_pick_t rfl rfl rfl) rfl rfl ?_
    refine l_q rfl (q_move rfl rfl) rfl rfl ?_
    refine Pre.setB (t := 61) (c := true) rfl (by decide +kernel) ?_
    refine l_e rfl ?_
    refine e_call_00 (awake_spec) rfl rfl rfl Try.call11 rfl (fun _ _ => trivial) ?_
    intro _ _
    refine l_q rfl (q_pick_t rfl rfl rfl) rfl rfl ?_
    refine l_q rfl (q_assign rfl rfl) rfl rfl ?_
    refine l_nil ?_
    refine k_then ?_
    refine c_ret ?_
    refine r_one rfl rfl ?_
    exact fun _ h => ⟨(), rfl, trivial, h.nothing⟩
  · refine enter (n := 64) (vs := [.bool false, .bool true, .bool false, .bool false]) (St w [] []) Try.func5 rfl rfl rfl (St.init hH) ?_
    refine c_seq ?_
    refine c_region _ rfl ?_
    refine l_q rfl (q_assign rfl rfl) rfl rfl ?_
    refine l_nil ?_
    refine k_then ?_
    refine c_seq ?_
    refine c_region _ rfl ?_
    refine l_e rfl ?_
    refine e_call_03 (new_spec) rfl rfl rfl Try.call10 rfl (fun _ _ => trivial) ?_
    intro b _
    refine l_q rfl (q_assign rfl rfl) rfl rfl ?_
    refine l_nil ?_
    refine k_then ?_
    refine c_seq ?_
    refine c_seq ?_
    refine c_region _ rfl ?_
    refine l_q rfl (q_move rfl rfl) rfl rfl ?_
    refine l_q rfl (q_eqp rfl Try.underlying23 rfl rfl) rfl rfl ?_
    refine l_nil ?_
    refine k_then ?_
    refine Pre.setB (t := 15) (c := false) rfl (rfl) ?_
    refine c_false rfl ?_
    refine c_skip ?_
    refine k_then ?_
    refine c_seq ?_
    refine c_seq ?_
    refine c_region _ rfl ?_
    refine l_q rfl (q_move rfl rfl) rfl rfl ?_
    refine l_nil ?_
    refine k_then ?_
    refine c_false rfl ?_
    refine c_skip ?_
    refine k_then ?_
    refine c_seq ?_
    refine c_seq ?_
    refine c_region _ rfl ?_
    refine l_q rfl (q_move rfl rfl) rfl rfl ?_
    refine l_nil ?_
    refine k_then ?_
    refine c_true rfl ?_
    refine c_region _ rfl ?_
    refine l_q rfl (q_move rfl rfl) rfl rfl ?_
    refine pull2 ?_
    refine pull2 ?_
    refine pull2 ?_
    refine l_e rfl ?_
    refine e_call_33 (take_spec new_ok (by omega) b (.slice none 0 0) (.slice none 0 0) 2 true) rfl rfl rfl Try.call12 rfl (fun _ _ => trivial) ?_
    intro q19 _
    refine l_nil ?_
    refine k_then ?_
    refine c_seq ?_
    refine c_seq ?_
    refine c_region _ rfl ?_
    refine l_q rfl (q_move rfl rfl) rfl rfl ?_
    refine l_nil ?_
    refine k_then ?_
    refine c_false rfl ?_
    refine c_skip ?_
    refine k_then ?_
    refine c_seq ?_
    refine c_region _ rfl ?_
    refine l_q rfl (q_move rfl rfl) rfl rfl ?_
    refine l_q rfl (q_not rfl rfl) rfl rfl ?_
    refine l_q rfl (q_move rfl rfl) rfl rfl ?_
    refine l_not rfl rfl rfl ?_
    refine l_not rfl rfl rfl ?_
    refine l_q rfl (q_pick_f rfl rfl rfl) rfl rfl ?_
    refine l_q rfl (q_move rfl rfl) rfl rfl ?_
    refine l_not rfl rfl rfl ?_
    refine l_not rfl rfl rfl ?_
    refine l_not rfl rfl rfl ?_
    refine l_not rfl rfl rfl ?_
    refine l_not rfl rfl rfl ?_
    refine l_not rfl rfl rfl ?_
    refine l_q rfl (q_pick_f rfl rfl rfl) rfl rfl ?_
    refine l_q rfl (q_assign rfl rfl) rfl rfl ?_
    refine l_nil ?_
    refine k_then ?_
    refine c_seq ?_
    refine c_region _ rfl ?_
    refine l_q rfl (q_move rfl rfl) rfl rfl ?_
    refine pull2 ?_
    refine pull2 ?_
    refine pull2 ?_
    refine l_e rfl ?_
    refine e_call_34 (queue_spec (take_ok new_ok 2 true) (by omega) b q19.1 q19.2) rfl rfl rfl Try.call17 rfl (fun _ _ => trivial) ?_
    intro q20 _
    refine l_q rfl (q_lenV rfl Try.underlying33 rfl (fun _ h => h.rd 0 rfl)) rfl rfl ?_
    refine l_q rfl (q_assign rfl rfl) rfl rfl ?_
    refine l_nil ?_
    refine k_then ?_
    refine c_seq ?_
    refine c_region _ rfl ?_
    refine l_q rfl (q_move rfl rfl) rfl rfl ?_
    refine l_q rfl (q_move rfl rfl) rfl rfl ?_
    refine pull3 ?_
    refine pull3 ?_
    refine pull3 ?_
    refine l_e rfl ?_
    refine e_call_33 (try_spec (take_ok new_ok 2 true) (by omega) b q19.1 q19.2 9 false) rfl rfl rfl Try.call18 rfl (fun _ _ => trivial) ?_
    intro q21 _
    refine l_q rfl (q_assign rfl rfl) rfl rfl ?_
    refine l_nil ?_
    refine k_then ?_
    refine c_seq ?_
    refine c_region _ rfl ?_
    refine l_q rfl (q_move rfl rfl) rfl rfl ?_
    refine l_q rfl (q_move rfl rfl) rfl rfl ?_
    refine l_q rfl (q_eqb rfl Try.underlying4 rfl rfl) rfl rfl ?_
    refine l_q rfl (q_move rfl rfl) rfl rfl ?_
    refine Pre.setB (t := 48) (c := true) rfl (by decide +kernel) ?_
    refine l_q rfl (q_move rfl rfl) rfl rfl ?_
    refine pull2 ?_
    refine pull2 ?_
    refine pull2 ?_
    refine l_e rfl ?_
    refine e_call_34 (queue_spec (try_ok (take_ok new_ok 2 true) 9 false) (by omega) b q21 q19.2) rfl rfl rfl Try.call17 rfl (fun _ _ => trivial) ?_
    intro q22 _
    refine l_q rfl (q_lenV rfl Try.underlying33 rfl (fun _ h => h.rd 0 rfl)) rfl rfl ?_
    refine l_q rfl (q_move rfl rfl) rfl rfl ?_
    refine l_q rfl (q_eql rfl rfl rfl) rfl rfl ?_
    refine l_q rfl (q_pick_t rfl rfl rfl) rfl rfl ?_
    refine l_q rfl (q_move rfl rfl) rfl rfl ?_
    refine Pre.setB (t := 55) (c := true) rfl (by decide +kernel) ?_
    refine l_q rfl (q_move rfl rfl) rfl rfl ?_
    refine pull3 ?_
    refine pull3 ?_
    refine pull3 ?_
    refine l_e rfl ?_
    refine e_call_34 (drop_spec (try_ok (take_ok new_ok 2 true) 9 false) (by omega) b q21 q19.2 9) rfl rfl rfl Try.call13 rfl (fun _ _ => trivial) ?_
    intro q23 _
    refine l_q rfl (q_lenV rfl Try.underlying27 rfl (fun _ h => h.rd 0 rfl)) rfl rfl ?_
    refine l_q rfl (q_eql rfl rfl rfl) rfl rfl ?_
    refine l_q rfl (q_pick_t rfl rfl rfl) rfl rfl ?_
    refine l_q rfl (q_move rfl rfl) rfl rfl ?_
    refine Pre.setB (t := 61) (c := true) rfl (by decide +kernel) ?_
    refine l_e rfl ?_
    refine e_call_00 (awake_spec) rfl rfl rfl Try.call11 rfl (fun _ _ => trivial) ?_
    intro _ _
    refine l_q rfl (q_pick_t rfl rfl rfl) rfl rfl ?_
    refine l_q rfl (q_assign rfl rfl) rfl rfl ?_
    refine l_nil ?_
    refine k_then ?_
    refine c_ret ?_
    refine r_one rfl rfl ?_
    exact fun _ h => ⟨(), rfl, trivial, h.nothing⟩
  · refine enter (n := 64) (vs := [.bool false, .bool true, .bool false, .bool true]) (St w [] []) Try.func5 rfl rfl rfl (St.init hH) ?_
    refine c_seq ?_
    refine c_region _ rfl ?_
    refine l_q rfl (q_assign rfl rfl) rfl rfl ?_
    refine l_nil ?_
    refine k_then ?_
    refine c_seq ?_
    refine c_region _ rfl ?_
    refine l_e rfl ?_
    refine e_call_03 (new_spec) rfl rfl rfl Try.call10 rfl (fun _ _ => trivial) ?_
    intro b _
    refine l_q rfl (q_assign rfl rfl) rfl rfl ?_
    refine l_nil ?_
    refine k_then ?_
    refine c_seq ?_
    refine c_seq ?_
    refine c_region _ rfl ?_
    refine l_q rfl (q_move rfl rfl) rfl rfl ?_
    refine l_q rfl (q_eqp rfl Try.underlying23 rfl rfl) rfl rfl ?_
    refine l_nil ?_
    refine k_then ?_
    refine Pre.setB (t := 15) (c := false) rfl (rfl) ?_
    refine c_false rfl ?_
    refine c_skip ?_
    refine k_then ?_
    refine c_seq ?_
    refine c_seq ?_
    refine c_region _ rfl ?_
    refine l_q rfl (q_move rfl rfl) rfl rfl ?_
    refine l_nil ?_
    refine k_then ?_
    refine c_false rfl ?_
    refine c_skip ?_
    refine k_then ?_
    refine c_seq ?_
    refine c_seq ?_
    refine c_region _ rfl ?_
    refine l_q rfl (q_move rfl rfl) rfl rfl ?_
    refine l_nil ?_
    refine k_then ?_
    refine c_true rfl ?_
    refine c_region _ rfl ?_
    refine l_q rfl (q_move rfl rfl) rfl rfl ?_
    refine pull2 ?_
    refine pull2 ?_
    refine pull2 ?_
    refine l_e rfl ?_
    refine e_call_33 (take_spec new_ok (by omega) b (.slice none 0 0) (.slice none 0 0) 2 true) rfl rfl rfl Try.call12 rfl (fun _ _ => trivial) ?_
    intro q24 _
    refine l_nil ?_
    refine k_then ?_
    refine c_seq ?_
    refine c_seq ?_
    refine c_region _ rfl ?_
    refine l_q rfl (q_move rfl rfl) rfl rfl ?_
    refine l_nil ?_
    refine k_then ?_
    refine c_false rfl ?_
    refine c_skip ?_
    refine k_then ?_
    refine c_seq ?_
    refine c_region _ rfl ?_
    refine l_q rfl (q_move rfl rfl) rfl rfl ?_
    refine l_q rfl (q_not rfl rfl) rfl rfl ?_
    refine l_q rfl (q_move rfl rfl) rfl rfl ?_
    refine l_not rfl rfl rfl ?_
    refine l_not rfl rfl rfl ?_
    refine l_q rfl (q_pick_f rfl rfl rfl) rfl rfl ?_
    refine l_q rfl (q_move rfl rfl) rfl rfl ?_
    refine l_not rfl rfl rfl ?_
    refine l_not rfl rfl rfl ?_
    refine l_not rfl rfl rfl ?_
    refine l_not rfl rfl rfl ?_
    refine l_not rfl rfl rfl ?_
    refine l_not rfl rfl rfl ?_
    refine l_q rfl (q_pick_f rfl rfl rfl) rfl rfl ?_
    refine l_q rfl (q_assign rfl rfl) rfl rfl ?_
    refine l_nil ?_
    refine k_then ?_
    refine c_seq ?_
    refine c_region _ rfl ?_
    refine l_q rfl (q_move rfl rfl) rfl rfl ?_
    refine pull2 ?_
    refine pull2 ?_
    refine pull2 ?_
    refine l_e rfl ?_
    refine e_call_34 (queue_spec (take_ok new_ok 2 true) (by omega) b q24.1 q24.2) rfl rfl rfl Try.call17 rfl (fun _ _ => trivial) ?_
    intro q25 _
    refine l_q rfl (q_lenV rfl Try.underlying33 rfl (fun _ h => h.rd 0 rfl)) rfl rfl ?_
    refine l_q rfl (q_assign rfl rfl) rfl rfl ?_
    refine l_nil ?_
    refine k_then ?_
    refine c_seq ?_
    refine c_region _ rfl ?_
    refine l_q rfl (q_move rfl rfl) rfl rfl ?_
    refine l_q rfl (q_move rfl rfl) rfl rfl ?_
    refine pull3 ?_
    refine pull3 ?_
    refine pull3 ?_
    refine l_e rfl ?_
    refine e_call_33 (try_spec (take_ok new_ok 2 true) (by omega) b q24.1 q24.2 9 true) rfl rfl rfl Try.call18 rfl (fun _ _ => trivial) ?_
    intro q26 _
    refine l_q rfl (q_assign rfl rfl) rfl rfl ?_
    refine l_nil ?_
    refine k_then ?_
    refine c_seq ?_
    refine c_region _ rfl ?_
    refine l_q rfl (q_move rfl rfl) rfl rfl ?_
    refine l_q rfl (q_move rfl rfl) rfl rfl ?_
    refine l_q rfl (q_eqb rfl Try.underlying4 rfl rfl) rfl rfl ?_
    refine l_q rfl (q_move rfl rfl) rfl rfl ?_
    refine Pre.setB (t := 48) (c := true) rfl (by decide +kernel) ?_
    refine l_q rfl (q_move rfl rfl) rfl rfl ?_
    refine pull2 ?_
    refine pull2 ?_
    refine pull2 ?_
    refine l_e rfl ?_
    refine e_call_34 (queue_spec (try_ok (take_ok new_ok 2 true) 9 true) (by omega) b q26 q24.2) rfl rfl rfl Try.call17 rfl (fun _ _ => trivial) ?_
    intro q27 _
    refine l_q rfl (q_lenV rfl Try.underlying33 rfl (fun _ h => h.rd 0 rfl)) rfl rfl ?_
    refine l_q rfl (q_move rfl rfl) rfl rfl ?_
    refine l_q rfl (q_eql rfl rfl rfl) rfl rfl ?_
    refine l_q rfl (q_pick_t rfl rfl rfl) rfl rfl ?_
    refine l_q rfl (q_move rfl rfl) rfl rfl ?_
    refine Pre.setB (t := 55) (c := true) rfl (by decide +kernel) ?_
    refine l_q rfl (q_move rfl rfl) rfl rfl ?_
    refine pull3 ?_
    refine pull3 ?_
    refine pull3 ?_
    refine l_e rfl ?_
    refine e_call_34 (drop_spec (try_ok (take_ok new_ok 2 true) 9 true) (by omega) b q26 q24.2 9) rfl rfl rfl Try.call13 rfl (fun _ _ => trivial) ?_
    intro q28 _
    refine l_q rfl (q_lenV rfl Try.underlying27 rfl (fun _ h => h.rd 0 rfl)) rfl rfl ?_
    refine l_q rfl (q_eql rfl rfl rfl) rfl rfl ?_
    refine l_q rfl (q_pick_t rfl rfl rfl) rfl rfl ?_
    refine l_q rfl (q_move rfl rfl) rfl rfl ?_
    refine Pre.setB (t := 61) (c := true) rfl (by decide +kernel) ?_
    refine l_e rfl ?_
    refine e_call_00 (awake_spec) rfl rfl rfl Try.call11 rfl (fun _ _ => trivial) ?_
    intro _ _
    refine l_q rfl (q_pick_t rfl rfl rfl) rfl rfl ?_
    refine l_q rfl (q_assign rfl rfl) rfl rfl ?_
    refine l_nil ?_
    refine k_then ?_
    refine c_ret ?_
    refine r_one rfl rfl ?_
    exact fun _ h => ⟨(), rfl, trivial, h.nothing⟩
  · refine enter (n := 64) (vs := [.bool false, .bool true, .bool true, .bool false]) (St w [] []) Try.func5 rfl rfl rfl (St.init hH) ?_
    refine c_seq ?_
    refine c_region _ rfl ?_
    refine l_q rfl (q_assign rfl rfl) rfl rfl ?_
    refine l_nil ?_
    refine k_then ?_
    refine c_seq ?_
    refine c_region _ rfl ?_
    refine l_e rfl ?_
    refine e_call_03 (new_spec) rfl rfl rfl Try.call10 rfl (fun _ _ => trivial) ?_
    intro b _
    refine l_q rfl (q_assign rfl rfl) rfl rfl ?_
    refine l_nil ?_
    refine k_then ?_
    refine c_seq ?_
    refine c_seq ?_
    refine c_region _ rfl ?_
    refine l_q rfl (q_move rfl rfl) rfl rfl ?_
    refine l_q rfl (q_eqp rfl Try.underlying23 rfl rfl) rfl rfl ?_
    refine l_nil ?_
    refine k_then ?_
    refine Pre.setB (t := 15) (c := false) rfl (rfl) ?_
    refine c_false rfl ?_
    refine c_skip ?_
    refine k_then ?_
    refine c_seq ?_
    refine c_seq ?_
    refine c_region _ rfl ?_
    refine l_q rfl (q_move rfl rfl) rfl rfl ?_
    refine l_nil ?_
    refine k_then ?_
    refine c_false rfl ?_
    refine c_skip ?_
    refine k_then ?_
    refine c_seq ?_
    refine c_seq ?_
    refine c_region _ rfl ?_
    refine l_q rfl (q_move rfl rfl) rfl rfl ?_
    refine l_nil ?_
    refine k_then ?_
    refine c_true rfl ?_
    refine c_region _ rfl ?_
    refine l_q rfl (q_move rfl rfl) rfl rfl ?_
    refine pull2 ?_
    refine pull2 ?_
    refine pull2 ?_
    refine l_e rfl ?_
    refine e_call_33 (take_spec new_ok (by omega) b (.slice none 0 0) (.slice none 0 0) 2 true) rfl rfl rfl Try.call12 rfl (fun _ _ => trivial) ?_
    intro q29 _
    refine l_nil ?_
    refine k_then ?_
    refine c_seq ?_
    refine c_seq ?_
    refine c_region _ rfl ?_
    refine l_q rfl (q_move rfl rfl) rfl rfl ?_
    refine l_nil ?_
    refine k_then ?_
    refine c_true rfl ?_
    refine c_region _ rfl ?_
    refine l_q rfl (q_move rfl rfl) rfl rfl ?_
    refine pull2 ?_
    refine pull2 ?_
    refine pull2 ?_
    refine l_e rfl ?_
    refine e_call_33 (take_spec (take_ok new_ok 2 true) (by omega) b q29.1 q29.2 3 true) rfl rfl rfl Try.call12 rfl (fun _ _ => trivial) ?_
    intro q30 _
    refine l_nil ?_
    refine k_then ?_
    refine c_seq ?_
    refine c_region _ rfl ?_
    refine l_q rfl (q_move rfl rfl) rfl rfl ?_
    refine l_q rfl (q_not rfl rfl) rfl rfl ?_
    refine l_q rfl (q_move rfl rfl) rfl rfl ?_
    refine l_not rfl rfl rfl ?_
    refine l_not rfl rfl rfl ?_
    refine l_q rfl (q_pick_f rfl rfl rfl) rfl rfl ?_
    refine l_q rfl (q_move rfl rfl) rfl rfl ?_
    refine l_not rfl rfl rfl ?_
    refine l_not rfl rfl rfl ?_
    refine l_not rfl rfl rfl ?_
    refine l_not rfl rfl rfl ?_
    refine l_not rfl rfl rfl ?_
    refine l_not rfl rfl rfl ?_
    refine l_q rfl (q_pick_f rfl rfl rfl) rfl rfl ?_
    refine l_q rfl (q_assign rfl rfl) rfl rfl ?_
    refine l_nil ?_
    refine k_then ?_
    refine c_seq ?_
    refine c_region _ rfl ?_
    refine l_q rfl (q_move rfl rfl) rfl rfl ?_
    refine pull2 ?_
    refine pull2 ?_
    refine pull2 ?_
    refine l_e rfl ?_
    refine e_call_34 (queue_spec (take_ok (take_ok new_ok 2 true) 3 true) (by omega) b q30.1 q30.2) rfl rfl rfl Try.call17 rfl (fun _ _ => trivial) ?_
    intro q31 _
    refine l_q rfl (q_lenV rfl Try.underlying33 rfl (fun _ h => h.rd 0 rfl)) rfl rfl ?_
    refine l_q rfl (q_assign rfl rfl) rfl rfl ?_
    refine l_nil ?_
    refine k_then ?_
    refine c_seq ?_
    refine c_region _ rfl ?_
    refine l_q rfl (q_move rfl rfl) rfl rfl ?_
    refine l_q rfl (q_move rfl rfl) rfl rfl ?_
    refine pull3 ?_
    refine pull3 ?_
    refine pull3 ?_
    refine l_e rfl ?_
    refine e_call_33 (try_spec (take_ok (take_ok new_ok 2 true) 3 true) (by omega) b q30.1 q30.2 9 false) rfl rfl rfl Try.call18 rfl (fun _ _ => trivial) ?_
    intro q32 _
    refine l_q rfl (q_assign rfl rfl) rfl rfl ?_
    refine l_nil ?_
    refine k_then ?_
    refine c_seq ?_
    refine c_region _ rfl ?_
    refine l_q rfl (q_move rfl rfl) rfl rfl ?_
    refine l_q rfl (q_move rfl rfl) rfl rfl ?_
    refine l_q rfl (q_eqb rfl Try.underlying4 rfl rfl) rfl rfl ?_
    refine l_q rfl (q_move rfl rfl) rfl rfl ?_
    refine Pre.setB (t := 48) (c := true) rfl (by decide +kernel) ?_
    refine l_q rfl (q_move rfl rfl) rfl rfl ?_
    refine pull2 ?_
    refine pull2 ?_
    refine pull2 ?_
    refine l_e rfl ?_
    refine e_call_34 (queue_spec (try_ok (take_ok (take_ok new_ok 2 true) 3 true) 9 false) (by omega) b q32 q30.2) rfl rfl rfl Try.call17 rfl (fun _ _ => trivial) ?_
    intro q33 _
    refine l_q rfl (q_lenV rfl Try.underlying33 rfl (fun _ h => h.rd 0 rfl)) rfl rfl ?_
    refine l_q rfl (q_move rfl rfl) rfl rfl ?_
    refine l_q rfl (q_eql rfl rfl rfl) rfl rfl ?_
    refine l_q rfl (q_pick_t rfl rfl rfl) rfl rfl ?_
    refine l_q rfl (q_move rfl rfl) rfl rfl ?_
    refine Pre.setB (t := 55) (c := true) rfl (by decide +kernel) ?_
    refine l_q rfl (q_move rfl rfl) rfl rfl ?_
    refine pull3 ?_
    refine pull3 ?_
    refine pull3 ?_
    refine l_e rfl ?_
    refine e_call_34 (drop_spec (try_ok (take_ok (take_ok new_ok 2 true) 3 true) 9 false) (by omega) b q32 q30.2 9) rfl rfl rfl Try.call13 rfl (fun _ _ => trivial) ?_
    intro q34 _
    refine l_q rfl (q_lenV rfl Try.underlying27 rfl (fun _ h => h.rd 0 rfl)) rfl rfl ?_
    refine l_q rfl (q_eql rfl rfl rfl) rfl rfl ?_
    refine l_q rfl (q_pick_t rfl rfl rfl) rfl rfl ?_
    refine l_q rfl (q_move rfl rfl) rfl rfl ?_
    refine Pre.setB (t := 61) (c := true) rfl (by decide +kernel) ?_
    refine l_e rfl ?_
    refine e_call_00 (awake_spec) rfl rfl rfl Try.call11 rfl (fun _ _ => trivial) ?_
    intro _ _
    refine l_q rfl (q_pick_t rfl rfl rfl) rfl rfl ?_
    refine l_q rfl (q_assign rfl rfl) rfl rfl ?_
    refine l_nil ?_
    refine k_then ?_
    refine c_ret ?_
    refine r_one rfl rfl ?_
    exact fun _ h => ⟨(), rfl, trivial, h.nothing⟩
  · refine enter (n := 64) (vs := [.bool false, .bool true, .bool true, .bool true]) (St w [] []) Try.func5 rfl rfl rfl (St.init hH) ?_
    refine c_seq ?_
    refine c_region _ rfl ?_
    refine l_q rfl (q_assign rfl rfl) rfl rfl ?_
    refine l_nil ?_
    refine k_then ?_
    refine c_seq ?_
    refine c_region _ rfl ?_
    refine l_e rfl ?_
    refine e_call_03 (new_spec) rfl rfl rfl Try.call10 rfl (fun _ _ => trivial) ?_
    intro b _
    refine l_q rfl (q_assign rfl rfl) rfl rfl ?_
    refine l_nil ?_
    refine k_then ?_
    refine c_seq ?_
    refine c_seq ?_
    refine c_region _ rfl ?_
    refine l_q rfl (q_move rfl rfl) rfl rfl ?_
    refine l_q rfl (q_eqp rfl Try.underlying23 rfl rfl) rfl rfl ?_
    refine l_nil ?_
    refine k_then ?_
    refine Pre.setB (t := 15) (c := false) rfl (rfl) ?_
    refine c_false rfl ?_
    refine c_skip ?_
    refine k_then ?_
    refine c_seq ?_
    refine c_seq ?_
    refine c_region _ rfl ?_
    refine l_q rfl (q_move rfl rfl) rfl rfl ?_
    refine l_nil ?_
    refine k_then ?_
    refine c_false rfl ?_
    refine c_skip ?_
    refine k_then ?_
    refine c_seq ?_
    refine c_seq ?_
    refine c_region _ rfl ?_
    refine l_q rfl (q_move rfl rfl) rfl rfl ?_
    refine l_nil ?_
    refine k_then ?_
    refine c_true rfl ?_
    refine c_region _ rfl ?_
    refine l_q rfl (q_move rfl rfl) rfl rfl ?_
    refine pull2 ?_
    refine pull2 ?_
    refine pull2 ?_
    refine l_e rfl ?_
    refine e_call_33 (take_spec new_ok (by omega) b (.slice none 0 0) (.slice none 0 0) 2 true) rfl rfl rfl Try.call12 rfl (fun _ _ => trivial) ?_
    intro q35 _
    refine l_nil ?_
    refine k_then ?_
    refine c_seq ?_
    refine c_seq ?_
    refine c_region _ rfl ?_
    refine l_q rfl (q_move rfl rfl) rfl rfl ?_
    refine l_nil ?_
    refine k_then ?_
    refine c_true rfl ?_
    refine c_region _ rfl ?_
    refine l_q rfl (q_move rfl rfl) rfl rfl ?_
    refine pull2 ?_
    refine pull2 ?_
    refine pull2 ?_
    refine l_e rfl ?_
    refine e_call_33 (take_spec (take_ok new_ok 2 true) (by omega) b q35.1 q35.2 3 true) rfl rfl rfl Try.call12 rfl (fun _ _ => trivial) ?_
    intro q36 _
    refine l_nil ?_
    refine k_then ?_
    refine c_seq ?_
    refine c_region _ rfl ?_
    refine l_q rfl (q_move rfl rfl) rfl rfl ?_
    refine l_q rfl (q_not rfl rfl) rfl rfl ?_
    refine l_q rfl (q_move rfl rfl) rfl rfl ?_
    refine l_not rfl rfl rfl ?_
    refine l_not rfl rfl rfl ?_
    refine l_q rfl (q_pick_f rfl rfl rfl) rfl rfl ?_
    refine l_q rfl (q_move rfl rfl) rfl rfl ?_
    refine l_not rfl rfl rfl ?_
    refine l_not rfl rfl rfl ?_
    refine l_not rfl rfl rfl ?_
    refine l_not rfl rfl rfl ?_
    refine l_not rfl rfl rfl ?_
    refine l_not rfl rfl rfl ?_
    refine l_q rfl (q_pick_f rfl rfl rfl) rfl rfl ?_
    refine l_q rfl (q_assign rfl rfl) rfl rfl ?_
    refine l_nil ?_
    refine k_then ?_
    refine c_seq ?_
    refine c_region _ rfl ?_
    refine l_q rfl (q_move rfl rfl) rfl rfl ?_
    refine pull2 ?_
    refine pull2 ?_
    refine pull2 ?_
    refine l_e rfl ?_
    refine e_call_34 (queue_spec (take_ok (take_ok new_ok 2 true) 3 true) (by omega) b q36.1 q36.2) rfl rfl rfl Try.call17 rfl (fun _ _ => trivial) ?_
    intro q37 _
    refine l_q rfl (q_lenV rfl Try.underlying33 rfl (fun _ h => h.rd 0 rfl)) rfl rfl ?_
    refine l_q rfl (q_assign rfl rfl) rfl rfl ?_
    refine l_nil ?_
    refine k_then ?_
    refine c_seq ?_
    refine c_region _ rfl ?_
    refine l_q rfl (q_move rfl rfl) rfl rfl ?_
    refine l_q rfl (q_move rfl rfl) rfl rfl ?_
    refine pull3 ?_
    refine pull3 ?_
    refine pull3 ?_
    refine l_e rfl ?_
    refine e_call_33 (try_spec (take_ok (take_ok new_ok 2 true) 3 true) (by omega) b q36.1 q36.2 9 true) rfl rfl rfl Try.call18 rfl (fun _ _ => trivial) ?_
    intro q38 _
    refine l_q rfl (q_assign rfl rfl) rfl rfl ?_
    refine l_nil ?_
    refine k_then ?_
    refine c_seq ?_
    refine c_region _ rfl ?_
    refine l_q rfl (q_move rfl rfl) rfl rfl ?_
    refine l_q rfl (q_move rfl rfl) rfl rfl ?_
    refine l_q rfl (q_eqb rfl Try.underlying4 rfl rfl) rfl rfl ?_
    refine l_q rfl (q_move rfl rfl) rfl rfl ?_
    refine Pre.setB (t := 48) (c := true) rfl (by decide +kernel) ?_
    refine l_q rfl (q_move rfl rfl) rfl rfl ?_
    refine pull2 ?_
    refine pull2 ?_
    refine pull2 ?_
    refine l_e rfl ?_
    refine e_call_34 (queue_spec (try_ok (take_ok (take_ok new_ok 2 true) 3 true) 9 true) (by omega) b q38 q36.2) rfl rfl rfl Try.call17 rfl (fun _ _ => trivial) ?_
    intro q39 _
    refine l_q rfl (q_lenV rfl Try.underlying33 rfl (fun _ h => h.rd 0 rfl)) rfl rfl ?_
    refine l_q rfl (q_move rfl rfl) rfl rfl ?_
    refine l_q rfl (q_eql rfl rfl rfl) rfl rfl ?_
    refine l_q rfl (q_pick_t rfl rfl rfl) rfl rfl ?_
    refine l_q rfl (q_move rfl rfl) rfl rfl ?_
    refine Pre.setB (t := 55) (c := true) rfl (by decide +kernel) ?_
    refine l_q rfl (q_move rfl rfl) rfl rfl ?_
    refine pull3 ?_
    refine pull3 ?_
    refine pull3 ?_
    refine l_e rfl ?_
    refine e_call_34 (drop_spec (try_ok (take_ok (take_ok new_ok 2 true) 3 true) 9 true) (by omega) b q38 q36.2 9) rfl rfl rfl Try.call13 rfl (fun _ _ => trivial) ?_
    intro q40 _
    refine l_q rfl (q_lenV rfl Try.underlying27 rfl (fun _ h => h.rd 0 rfl)) rfl rfl ?_
    refine l_q rfl (q_eql rfl rfl rfl) rfl rfl ?_
    refine l_q rfl (q_pick_t rfl rfl rfl) rfl rfl ?_
    refine l_q rfl (q_move rfl rfl) rfl rfl ?_
    refine Pre.setB (t := 61) (c := true) rfl (by decide +kernel) ?_
    refine l_e rfl ?_
    refine e_call_00 (awake_spec) rfl rfl rfl Try.call11 rfl (fun _ _ => trivial) ?_
    intro _ _
    refine l_q rfl (q_pick_t rfl rfl rfl) rfl rfl ?_
    refine l_q rfl (q_assign rfl rfl) rfl rfl ?_
    refine l_nil ?_
    refine k_then ?_
    refine c_ret ?_
    refine r_one rfl rfl ?_
    exact fun _ h => ⟨(), rfl, trivial, h.nothing⟩
  · refine enter (n := 64) (vs := [.bool true, .bool false, .bool false, .bool false]) (St w [] []) Try.func5 rfl rfl rfl (St.init hH) ?_
    refine c_seq ?_
    refine c_region _ rfl ?_
    refine l_q rfl (q_assign rfl rfl) rfl rfl ?_
    refine l_nil ?_
    refine k_then ?_
    refine c_seq ?_
    refine c_region _ rfl ?_
    refine l_e rfl ?_
    refine e_call_03 (new_spec) rfl rfl rfl Try.call10 rfl (fun _ _ => trivial) ?_
    intro b _
    refine l_q rfl (q_assign rfl rfl) rfl rfl ?_
    refine l_nil ?_
    refine k_then ?_
    refine c_seq ?_
    refine c_seq ?_
    refine c_region _ rfl ?_
    refine l_q rfl (q_move rfl rfl) rfl rfl ?_
    refine l_q rfl (q_eqp rfl Try.underlying23 rfl rfl) rfl rfl ?_
    refine l_nil ?_
    refine k_then ?_
    refine Pre.setB (t := 15) (c := false) rfl (rfl) ?_
    refine c_false rfl ?_
    refine c_skip ?_
    refine k_then ?_
    refine c_seq ?_
    refine c_seq ?_
    refine c_region _ rfl ?_
    refine l_q rfl (q_move rfl rfl) rfl rfl ?_
    refine l_nil ?_
    refine k_then ?_
    refine c_true rfl ?_
    refine c_region _ rfl ?_
    refine l_q rfl (q_move rfl rfl) rfl rfl ?_
    refine pull2 ?_
    refine pull2 ?_
    refine pull2 ?_
    refine l_e rfl ?_
    refine e_call_33 (take_spec new_ok (by omega) b (.slice none 0 0) (.slice none 0 0) 1 false) rfl rfl rfl Try.call12 rfl (fun _ _ => trivial) ?_
    intro q41 _
    refine l_nil ?_
    refine k_then ?_
    refine c_seq ?_
    refine c_seq ?_
    refine c_region _ rfl ?_
    refine l_q rfl (q_move rfl rfl) rfl rfl ?_
    refine l_nil ?_
    refine k_then ?_
    refine c_false rfl ?_
    refine c_skip ?_
    refine k_then ?_
    refine c_seq ?_
    refine c_seq ?_
    refine c_region _ rfl ?_
    refine l_q rfl (q_move rfl rfl) rfl rfl ?_
    refine l_nil ?_
    refine k_then ?_
    refine c_false rfl ?_
    refine c_skip ?_
    refine k_then ?_
    refine c_seq ?_
    refine c_region _ rfl ?_
    refine l_q rfl (q_move rfl rfl) rfl rfl ?_
    refine l_q rfl (q_not rfl rfl) rfl rfl ?_
    refine l_q rfl (q_move rfl rfl) rfl rfl ?_
    refine l_q rfl (q_move rfl rfl) rfl rfl ?_
    refine l_q rfl (q_not rfl rfl) rfl rfl ?_
    refine l_q rfl (q_pick_t rfl rfl rfl) rfl rfl ?_
    refine l_q rfl (q_move rfl rfl) rfl rfl ?_
    refine l_q rfl (q_move rfl rfl) rfl rfl ?_
    refine l_q rfl (q_not rfl rfl) rfl rfl ?_
    refine l_q rfl (q_move rfl rfl) rfl rfl ?_
    refine l_q rfl (q_move rfl rfl) rfl rfl ?_
    refine l_q rfl (q_not rfl rfl) rfl rfl ?_
    refine l_q rfl (q_pick_f rfl rfl rfl) rfl rfl ?_
    refine l_q rfl (q_pick_t rfl rfl rfl) rfl rfl ?_
    refine l_q rfl (q_assign rfl rfl) rfl rfl ?_
    refine l_nil ?_
    refine k_then ?_
    refine c_seq ?_
    refine c_region _ rfl ?_
    refine l_q rfl (q_move rfl rfl) rfl rfl ?_
    refine pull2 ?_
    refine pull2 ?_
    refine pull2 ?_
    refine l_e rfl ?_
    refine e_call_34 (queue_spec (take_ok new_ok 1 false) (by omega) b q41.1 q41.2) rfl rfl rfl Try.call17 rfl (fun _ _ => trivial) ?_
    intro q42 _
    refine l_q rfl (q_lenV rfl Try.underlying33 rfl (fun _ h => h.rd 0 rfl)) rfl rfl ?_
    refine l_q rfl (q_assign rfl rfl) rfl rfl ?_
    refine l_nil ?_
    refine k_then ?_
    refine c_seq ?_
    refine c_region _ rfl ?_
    refine l_q rfl (q_move rfl rfl) rfl rfl ?_
    refine l_q rfl (q_move rfl rfl) rfl rfl ?_
    refine pull3 ?_
    refine pull3 ?_
    refine pull3 ?_
    refine l_e rfl ?_
    refine e_call_33 (try_spec (take_ok new_ok 1 false) (by omega) b q41.1 q41.2 9 false) rfl rfl rfl Try.call18 rfl (fun _ _ => trivial) ?_
    intro q43 _
    refine l_q rfl (q_assign rfl rfl) rfl rfl ?_
    refine l_nil ?_
    refine k_then ?_
    refine c_seq ?_
    refine c_region _ rfl ?_
    refine l_q rfl (q_move rfl rfl) rfl rfl ?_
    refine l_q rfl (q_move rfl rfl) rfl rfl ?_
    refine l_q rfl (q_eqb rfl Try.underlying4 rfl rfl) rfl rfl ?_
    refine l_q rfl (q_move rfl rfl) rfl rfl ?_
    refine Pre.setB (t := 48) (c := true) rfl (by decide +kernel) ?_
    refine l_q rfl (q_move rfl rfl) rfl rfl ?_
    refine pull2 ?_
    refine pull2 ?_
    refine pull2 ?_
    refine l_e rfl ?_
    refine e_call_34 (queue_spec (try_ok (take_ok new_ok 1 false) 9 false) (by omega) b q43 q41.2) rfl rfl rfl Try.call17 rfl (fun _ _ => trivial) ?_
    intro q44 _
    refine l_q rfl (q_lenV rfl Try.underlying33 rfl (fun _ h => h.rd 0 rfl)) rfl rfl ?_
    refine l_q rfl (q_move rfl rfl) rfl rfl ?_
    refine l_q rfl (q_eql rfl rfl rfl) rfl rfl ?_
    refine l_q rfl (q_pick_t rfl rfl rfl) rfl rfl ?_
    refine l_q rfl (q_move rfl rfl) rfl rfl ?_
    refine Pre.setB (t := 55) (c := true) rfl (by decide +kernel) ?_
    refine l_q rfl (q_move rfl rfl) rfl rfl ?_
    refine pull3 ?_
    refine pull3 ?_
    refine pull3 ?_
    refine l_e rfl ?_
    refine e_call_34 (drop_spec (try_ok (take_ok new_ok 1 false) 9 false) (by omega) b q43 q41.2 9) rfl rfl rfl Try.call13 rfl (fun _ _ => trivial) ?_
    intro q45 _
    refine l_q rfl (q_lenV rfl Try.underlying27 rfl (fun _ h => h.rd 0 rfl)) rfl rfl ?_
    refine l_q rfl (q_eql rfl rfl rfl) rfl rfl ?_
    refine l_q rfl (q_pick_t rfl rfl rfl) rfl rfl ?_
    refine l_q rfl (q_move rfl rfl) rfl rfl ?_
    refine Pre.setB (t := 61) (c := true) rfl (by decide +kernel) ?_
    refine l_e rfl ?_
    refine e_call_00 (awake_spec) rfl rfl rfl Try.call11 rfl (fun _ _ => trivial) ?_
    intro _ _
    refine l_q rfl (q_pick_t rfl rfl rfl) rfl rfl ?_
    refine l_q rfl (q_assign rfl rfl) rfl rfl ?_
    refine l_nil ?_
    refine k_then ?_
    refine c_ret ?_
    refine r_one rfl rfl ?_
    exact fun _ h => ⟨(), rfl, trivial, h.nothing⟩
  · refine enter (n := 64) (vs := [.bool true, .bool false, .bool false, .bool true]) (St w [] []) Try.func5 rfl rfl rfl (St.init hH) ?_
    refine c_seq ?_
    refine c_region _ rfl ?_
    refine l_q rfl (q_assign rfl rfl) rfl rfl ?_
    refine l_nil ?_
    refine k_then ?_
    refine c_seq ?_
    refine c_region _ rfl ?_
    refine l_e rfl ?_
    refine e_call_03 (new_spec) rfl rfl rfl Try.call10 rfl (fun _ _ => trivial) ?_
    intro b _
    refine l_q rfl (q_assign rfl rfl) rfl rfl ?_
    refine l_nil ?_
    refine k_then ?_
    refine c_seq ?_
    refine c_seq ?_
    refine c_region _ rfl ?_
    refine l_q rfl (q_move rfl rfl) rfl rfl ?_
    refine l_q rfl (q_eqp rfl Try.underlying23 rfl rfl) rfl rfl ?_
    refine l_nil ?_
    refine k_then ?_
    refine Pre.setB (t := 15) (c := false) rfl (rfl) ?_
    refine c_false rfl ?_
    refine c_skip ?_
    refine k_then ?_
    refine c_seq ?_
    refine c_seq ?_
    refine c_region _ rfl ?_
    refine l_q rfl (q_move rfl rfl) rfl rfl ?_
    refine l_nil ?_
    refine k_then ?_
    refine c_true rfl ?_
    refine c_region _ rfl ?_
    refine l_q rfl (q_move rfl rfl) rfl rfl ?_
    refine pull2 ?_
    refine pull2 ?_
    refine pull2 ?_
    refine l_e rfl ?_
    refine e_call_33 (take_spec new_ok (by omega) b (.slice none 0 0) (.slice none 0 0) 1 false) rfl rfl rfl Try.call12 rfl (fun _ _ => trivial) ?_
    intro q46 _
    refine l_nil ?_
    refine k_then ?_
    refine c_seq ?_
    refine c_seq ?_
    refine c_region _ rfl ?_
    refine l_q rfl (q_move rfl rfl) rfl rfl ?_
    refine l_nil ?_
    refine k_then ?_
    refine c_false rfl ?_
    refine c_skip ?_
    refine k_then ?_
    refine c_seq ?_
    refine c_seq ?_
    refine c_region _ rfl ?_
    refine l_q rfl (q_move rfl rfl) rfl rfl ?_
    refine l_nil ?_
    refine k_then ?_
    refine c_false rfl ?_
    refine c_skip ?_
    refine k_then ?_
    refine c_seq ?_
    refine c_region _ rfl ?_
    refine l_q rfl (q_move rfl rfl) rfl rfl ?_
    refine l_q rfl (q_not rfl rfl) rfl rfl ?_
    refine l_q rfl (q_move rfl rfl) rfl rfl ?_
    refine l_q rfl (q_move rfl rfl) rfl rfl ?_
    refine l_q rfl (q_not rfl rfl) rfl rfl ?_
    refine l_q rfl (q_pick_t rfl rfl rfl) rfl rfl ?_
    refine l_q rfl (q_move rfl rfl) rfl rfl ?_
    refine l_q rfl (q_move rfl rfl) rfl rfl ?_
    refine l_q rfl (q_not rfl rfl) rfl rfl ?_
    refine l_q rfl (q_move rfl rfl) rfl rfl ?_
    refine l_q rfl (q_move rfl rfl) rfl rfl ?_
    refine l_q rfl (q_not rfl rfl) rfl rfl ?_
    refine l_q rfl (q_pick_f rfl rfl rfl) rfl rfl ?_
    refine l_q rfl (q_pick_t rfl rfl rfl) rfl rfl ?_
    refine l_q rfl (q_assign rfl rfl) rfl rfl ?_
    refine l_nil ?_
    refine k_then ?_
    refine c_seq ?_
    refine c_region _ rfl ?_
    refine l_q rfl (q_move rfl rfl) rfl rfl ?_
    refine pull2 ?_
    refine pull2 ?_
    refine pull2 ?_
    refine l_e rfl ?_
    refine e_call_34 (queue_spec (take_ok new_ok 1 false) (by omega) b q46.1 q46.2) rfl rfl rfl Try.call17 rfl (fun _ _ => trivial) ?_
    intro q47 _
    refine l_q rfl (q_lenV rfl Try.underlying33 rfl (fun _ h => h.rd 0 rfl)) rfl rfl ?_
    refine l_q rfl (q_assign rfl rfl) rfl rfl ?_
    refine l_nil ?_
    refine k_then ?_
    refine c_seq ?_
    refine c_region _ rfl ?_
    refine l_q rfl (q_move rfl rfl) rfl rfl ?_
    refine l_q rfl (q_move rfl rfl) rfl rfl ?_
    refine pull3 ?_
    refine pull3 ?_
    refine pull3 ?_
    refine l_e rfl ?_
    refine e_call_33 (try_spec (take_ok new_ok 1 false) (by omega) b q46.1 q46.2 9 true) rfl rfl rfl Try.call18 rfl (fun _ _ => trivial) ?_
    intro q48 _
    refine l_q rfl (q_assign rfl rfl) rfl rfl ?_
    refine l_nil ?_
    refine k_then ?_
    refine c_seq ?_
    refine c_region _ rfl ?_
    refine l_q rfl (q_move rfl rfl) rfl rfl ?_
    refine l_q rfl (q_move rfl rfl) rfl rfl ?_
    refine l_q rfl (q_eqb rfl Try.underlying4 rfl rfl) rfl rfl ?_
    refine l_q rfl (q_move rfl rfl) rfl rfl ?_
    refine Pre.setB (t := 48) (c := true) rfl (by decide +kernel) ?_
    refine l_q rfl (q_move rfl rfl) rfl rfl ?_
    refine pull2 ?_
    refine pull2 ?_
    refine pull2 ?_
    refine l_e rfl ?_
    refine e_call_34 (queue_spec (try_ok (take_ok new_ok 1 false) 9 true) (by omega) b q48 q46.2) rfl rfl rfl Try.call17 rfl (fun _ _ => trivial) ?_
    intro q49 _
    refine l_q rfl (q_lenV rfl Try.underlying33 rfl (fun _ h => h.rd 0 rfl)) rfl rfl ?_
    refine l_q rfl (q_move rfl rfl) rfl rfl ?_
    refine l_q rfl (q_eql rfl rfl rfl) rfl rfl ?_
    refine l_q rfl (q_pick_t rfl rfl rfl) rfl rfl ?_
    refine l_q rfl (q_move rfl rfl) rfl rfl ?_
    refine Pre.setB (t := 55) (c := true) rfl (by decide +kernel) ?_
    refine l_q rfl (q_move rfl rfl) rfl rfl ?_
    refine pull3 ?_
    refine pull3 ?_
    refine pull3 ?_
    refine l_e rfl ?_
    refine e_call_34 (drop_spec (try_ok (take_ok new_ok 1 false) 9 true) (by omega) b q48 q46.2 9) rfl rfl rfl Try.call13 rfl (fun _ _ => trivial) ?_
    intro q50 _
    refine l_q rfl (q_lenV rfl Try.underlying27 rfl (fun _ h => h.rd 0 rfl)) rfl rfl ?_
    refine l_q rfl (q_eql rfl rfl rfl) rfl rfl ?_
    refine l_q rfl (q_pick_t rfl rfl rfl) rfl rfl ?_
    refine l_q rfl (q_move rfl rfl) rfl rfl ?_
    refine Pre.setB (t := 61) (c := true) rfl (by decide +kernel) ?_
    refine l_e rfl ?_
    refine e_call_00 (awake_spec) rfl rfl rfl Try.call11 rfl (fun _ _ => trivial) ?_
    intro _ _
    refine l_q rfl (q_pick_t rfl rfl rfl) rfl rfl ?_
    refine l_q rfl (q_assign rfl rfl) rfl rfl ?_
    refine l_nil ?_
    refine k_then ?_
    refine c_ret ?_
    refine r_one rfl rfl ?_
    exact fun _ h => ⟨(), rfl, trivial, h.nothing⟩
  · refine enter (n := 64) (vs := [.bool true, .bool false, .bool true, .bool false]) (St w [] []) Try.func5 rfl rfl rfl (St.init hH) ?_
    refine c_seq ?_
    refine c_region _ rfl ?_
    refine l_q rfl (q_assign rfl rfl) rfl rfl ?_
    refine l_nil ?_
    refine k_then ?_
    refine c_seq ?_
    refine c_region _ rfl ?_
    refine l_e rfl ?_
    refine e_call_03 (new_spec) rfl rfl rfl Try.call10 rfl (fun _ _ => trivial) ?_
    intro b _
    refine l_q rfl (q_assign rfl rfl) rfl rfl ?_
    refine l_nil ?_
    refine k_then ?_
    refine c_seq ?_
    refine c_seq ?_
    refine c_region _ rfl ?_
    refine l_q rfl (q_move rfl rfl) rfl rfl ?_
    refine l_q rfl (q_eqp rfl Try.underlying23 rfl rfl) rfl rfl ?_
    refine l_nil ?_
    refine k_then ?_
    refine Pre.setB (t := 15) (c := false) rfl (rfl) ?_
    refine c_false rfl ?_
    refine c_skip ?_
    refine k_then ?_
    refine c_seq ?_
    refine c_seq ?_
    refine c_region _ rfl ?_
    refine l_q rfl (q_move rfl rfl) rfl rfl ?_
    refine l_nil ?_
    refine k_then ?_
    refine c_true rfl ?_
    refine c_region _ rfl ?_
    refine l_q rfl (q_move rfl rfl) rfl rfl ?_
    refine pull2 ?_
    refine pull2 ?_
    refine pull2 ?_
    refine l_e rfl ?_
    refine e_call_33 (take_spec new_ok (by omega) b (.slice none 0 0) (.slice none 0 0) 1 false) rfl rfl rfl Try.call12 rfl (fun _ _ => trivial) ?_
    intro q51 _
    refine l_nil ?_
    refine k_then ?_
    refine c_seq ?_
    refine c_seq ?_
    refine c_region _ rfl ?_
    refine l_q rfl (q_move rfl rfl) rfl rfl ?_
    refine l_nil ?_
    refine k_then ?_
    refine c_false rfl ?_
    refine c_skip ?_
    refine k_then ?_
    refine c_seq ?_
    refine c_seq ?_
    refine c_region _ rfl ?_
    refine l_q rfl (q_move rfl rfl) rfl rfl ?_
    refine l_nil ?_
    refine k_then ?_
    refine c_true rfl ?_
    refine c_region _ rfl ?_
    refine l_q rfl (q_move rfl rfl) rfl rfl ?_
    refine pull2 ?_
    refine pull2 ?_
    refine pull2 ?_
    refine l_e rfl ?_
    refine e_call_33 (take_spec (take_ok new_ok 1 false) (by omega) b q51.1 q51.2 3 true) rfl rfl rfl Try.call12 rfl (fun _ _ => trivial) ?_
    intro q52 _
    refine l_nil ?_
    refine k_then ?_
    refine c_seq ?_
    refine c_region _ rfl ?_
    refine l_q rfl (q_move rfl rfl) rfl rfl ?_
    refine l_q rfl (q_not rfl rfl) rfl rfl ?_
    refine l_q rfl (q_move rfl rfl) rfl rfl ?_
    refine l_q rfl (q_move rfl rfl) rfl rfl ?_
    refine l_q rfl (q_not rfl rfl) rfl rfl ?_
    refine l_q rfl (q_pick_t rfl rfl rfl) rfl rfl ?_
    refine l_q rfl (q_move rfl rfl) rfl rfl ?_
    refine l_not rfl rfl rfl ?_
    refine l_not rfl rfl rfl ?_
    refine l_not rfl rfl rfl ?_
    refine l_not rfl rfl rfl ?_
    refine l_not rfl rfl rfl ?_
    refine l_not rfl rfl rfl ?_
    refine l_q rfl (q_pick_f rfl rfl rfl) rfl rfl ?_
    refine l_q rfl (q_assign rfl rfl) rfl rfl ?_
    refine l_nil ?_
    refine k_then ?_
    refine c_seq ?_
    refine c_region _ rfl ?_
    refine l_q rfl (q_move rfl rfl) rfl rfl ?_
    refine pull2 ?_
    refine pull2 ?_
    refine pull2 ?_
    refine l_e rfl ?_
    refine e_call_34 (queue_spec (take_ok (take_ok new_ok 1 false) 3 true) (by omega) b q52.1 q52.2) rfl rfl rfl Try.call17 rfl (fun _ _ => trivial) ?_
    intro q53 _
    refine l_q rfl (q_lenV rfl Try.underlying33 rfl (fun _ h => h.rd 0 rfl)) rfl rfl ?_
    refine l_q rfl (q_assign rfl rfl) rfl rfl ?_
    refine l_nil ?_
    refine k_then ?_
    refine c_seq ?_
    refine c_region _ rfl ?_
    refine l_q rfl (q_move rfl rfl) rfl rfl ?_
    refine l_q rfl (q_move rfl rfl) rfl rfl ?_
    refine pull3 ?_
    refine pull3 ?_
    refine pull3 ?_
    refine l_e rfl ?_
    refine e_call_33 (try_spec (take_ok (take_ok new_ok 1 false) 3 true) (by omega) b q52.1 q52.2 9 false) rfl rfl rfl Try.call18 rfl (fun _ _ => trivial) ?_
    intro q54 _
    refine l_q rfl (q_assign rfl rfl) rfl rfl ?_
    refine l_nil ?_
    refine k_then ?_
    refine c_seq ?_
    refine c_region _ rfl ?_
    refine l_q rfl (q_move rfl rfl) rfl rfl ?_
    refine l_q rfl (q_move rfl rfl) rfl rfl ?_
    refine l_q rfl (q_eqb rfl Try.underlying4 rfl rfl) rfl rfl ?_
    refine l_q rfl (q_move rfl rfl) rfl rfl ?_
    refine Pre.setB (t := 48) (c := true) rfl (by decide +kernel) ?_
    refine l_q rfl (q_move rfl rfl) rfl rfl ?_
    refine pull2 ?_
    refine pull2 ?_
    refine pull2 ?_
    refine l_e rfl ?_
    refine e_call_34 (queue_spec (try_ok (take_ok (take_ok new_ok 1 false) 3 true) 9 false) (by omega) b q54 q52.2) rfl rfl rfl Try.call17 rfl (fun _ _ => trivial) ?_
    intro q55 _
    refine l_q rfl (q_lenV rfl Try.underlying33 rfl (fun _ h => h.rd 0 rfl)) rfl rfl ?_
    refine l_q rfl (q_move rfl rfl) rfl rfl ?_
    refine l_q rfl (q_eql rfl rfl rfl) rfl rfl ?_
    refine l_q rfl (q_pick_t rfl rfl rfl) rfl rfl ?_
    refine l_q rfl (q_move rfl rfl) rfl rfl ?_
    refine Pre.setB (t := 55) (c := true) rfl (by decide +kernel) ?_
    refine l_q rfl (q_move rfl rfl) rfl rfl ?_
    refine pull3 ?_
    refine pull3 ?_
    refine pull3 ?_
    refine l_e rfl ?_
    refine e_call_34 (drop_spec (try_ok (take_ok (take_ok new_ok 1 false) 3 true) 9 false) (by omega) b q54 q52.2 9) rfl rfl rfl Try.call13 rfl (fun _ _ => trivial) ?_
    intro q56 _
    refine l_q rfl (q_lenV rfl Try.underlying27 rfl (fun _ h => h.rd 0 rfl)) rfl rfl ?_
    refine l_q rfl (q_eql rfl rfl rfl) rfl rfl ?_
    refine l_q rfl (q_pick_t rfl rfl rfl) rfl rfl ?_
    refine l_q rfl (q_move rfl rfl) rfl rfl ?_
    refine Pre.setB (t := 61) (c := true) rfl (by decide +kernel) ?_
    refine l_e rfl ?_
    refine e_call_00 (awake_spec) rfl rfl rfl Try.call11 rfl (fun _ _ => trivial) ?_
    intro _ _
    refine l_q rfl (q_pick_t rfl rfl rfl) rfl rfl ?_
    refine l_q rfl (q_assign rfl rfl) rfl rfl ?_
    refine l_nil ?_
    refine k_then ?_
    refine c_ret ?_
    refine r_one rfl rfl ?_
    exact fun _ h => ⟨(), rfl, trivial, h.nothing⟩
  · refine enter (n := 64) (vs := [.bool true, .bool false, .bool true, .bool true]) (St w [] []) Try.func5 rfl rfl rfl (St.init hH) ?_
    refine c_seq ?_
    refine c_region _ rfl ?_
    refine l_q rfl (q_assign rfl rfl) rfl rfl ?_
    refine l_nil ?_
    refine k_then ?_
    refine c_seq ?_
    refine c_region _ rfl ?_
    refine l_e rfl ?_
    refine e_call_03 (new_spec) rfl rfl rfl Try.call10 rfl (fun _ _ => trivial) ?_
    intro b _
    refine l_q rfl (q_assign rfl rfl) rfl rfl ?_
    refine l_nil ?_
    refine k_then ?_
    refine c_seq ?_
    refine c_seq ?_
    refine c_region _ rfl ?_
    refine l_q rfl (q_move rfl rfl) rfl rfl ?_
    refine l_q rfl (q_eqp rfl Try.underlying23 rfl rfl) rfl rfl ?_
    refine l_nil ?_
    refine k_then ?_
    refine Pre.setB (t := 15) (c := false) rfl (rfl) ?_
    refine c_false rfl ?_
    refine c_skip ?_
    refine k_then ?_
    refine c_seq ?_
    refine c_seq ?_
    refine c_region _ rfl ?_
    refine l_q rfl (q_move rfl rfl) rfl rfl ?_
    refine l_nil ?_
    refine k_then ?_
    refine c_true rfl ?_
    refine c_region _ rfl ?_
    refine l_q rfl (q_move rfl rfl) rfl rfl ?_
    refine pull2 ?_
    refine pull2 ?_
    refine pull2 ?_
    refine l_e rfl ?_
    refine e_call_33 (take_spec new_ok (by omega) b (.slice none 0 0) (.slice none 0 0) 1 false) rfl rfl rfl Try.call12 rfl (fun _ _ => trivial) ?_
    intro q57 _
    refine l_nil ?_
    refine k_then ?_
    refine c_seq ?_
    refine c_seq ?_
    refine c_region _ rfl ?_
    refine l_q rfl (q_move rfl rfl) rfl rfl ?_
    refine l_nil ?_
    refine k_then ?_
    refine c_false rfl ?_
    refine c_skip ?_
    refine k_then ?_
    refine c_seq ?_
    refine c_seq ?_
    refine c_region _ rfl ?_
    refine l_q rfl (q_move rfl rfl) rfl rfl ?_
    refine l_nil ?_
    refine k_then ?_
    refine c_true rfl ?_
    refine c_region _ rfl ?_
    refine l_q rfl (q_move rfl rfl) rfl rfl ?_
    refine pull2 ?_
    refine pull2 ?_
    refine pull2 ?_
    refine l_e rfl ?_
    refine e_call_33 (take_spec (take_ok new_ok 1 false) (by omega) b q57.1 q57.2 3 true) rfl rfl rfl Try.call12 rfl (fun _ _ => trivial) ?_
    intro q58 _
    refine l_nil ?_
    refine k_then ?_
    refine c_seq ?_
    refine c_region _ rfl ?_
    refine l_q rfl (q_move rfl rfl) rfl rfl ?_
    refine l_q rfl (q_not rfl rfl) rfl rfl ?_
    refine l_q rfl (q_move rfl rfl) rfl rfl ?_
    refine l_q rfl (q_move rfl rfl) rfl rfl ?_
    refine l_q rfl (q_not rfl rfl) rfl rfl ?_
    refine l_q rfl (q_pick_t rfl rfl rfl) rfl rfl ?_
    refine l_q rfl (q_move rfl rfl) rfl rfl ?_
    refine l_not rfl rfl rfl ?_
    refine l_not rfl rfl rfl ?_
    refine l_not rfl rfl rfl ?_
    refine l_not rfl rfl rfl ?_
    refine l_not rfl rfl rfl ?_
    refine l_not rfl rfl rfl ?_
    refine l_q rfl (q_pick_f rfl rfl rfl) rfl rfl ?_
    refine l_q rfl (q_assign rfl rfl) rfl rfl ?_
    refine l_nil ?_
    refine k_then ?_
    refine c_seq ?_
    refine c_region _ rfl ?_
    refine l_q rfl (q_move rfl rfl) rfl rfl ?_
    refine pull2 ?_
    refine pull2 ?_
    refine pull2 ?_
    refine l_e rfl ?_
    refine e_call_34 (queue_spec (take_ok (take_ok new_ok 1 false) 3 true) (by omega) b q58.1 q58.2) rfl rfl rfl Try.call17 rfl (fun _ _ => trivial) ?_
    intro q59 _
    refine l_q rfl (q_lenV rfl Try.underlying33 rfl (fun _ h => h.rd 0 rfl)) rfl rfl ?_
    refine l_q rfl (q_assign rfl rfl) rfl rfl ?_
    refine l_nil ?_
    refine k_then ?_
    refine c_seq ?_
    refine c_region _ rfl ?_
    refine l_q rfl (q_move rfl rfl) rfl rfl ?_
    refine l_q rfl (q_move rfl rfl) rfl rfl ?_
    refine pull3 ?_
    refine pull3 ?_
    refine pull3 ?_
    refine l_e rfl ?_
    refine e_call_33 (try_spec (take_ok (take_ok new_ok 1 false) 3 true) (by omega) b q58.1 q58.2 9 true) rfl rfl rfl Try.call18 rfl (fun _ _ => trivial) ?_
    intro q60 _
    refine l_q rfl (q_assign rfl rfl) rfl rfl ?_
    refine l_nil ?_
    refine k_then ?_
    refine c_seq ?_
    refine c_region _ rfl ?_
    refine l_q rfl (q_move rfl rfl) rfl rfl ?_
    refine l_q rfl (q_move rfl rfl) rfl rfl ?_
    refine l_q rfl (q_eqb rfl Try.underlying4 rfl rfl) rfl rfl ?_
    refine l_q rfl (q_move rfl rfl) rfl rfl ?_
    refine Pre.setB (t := 48) (c := true) rfl (by decide +kernel) ?_
    refine l_q rfl (q_move rfl rfl) rfl rfl ?_
    refine pull2 ?_
    refine pull2 ?_
    refine pull2 ?_
    refine l_e rfl ?_
    refine e_call_34 (queue_spec (try_ok (take_ok (take_ok new_ok 1 false) 3 true) 9 true) (by omega) b q60 q58.2) rfl rfl rfl Try.call17 rfl (fun _ _ => trivial) ?_
    intro q61 _
    refine l_q rfl (q_lenV rfl Try.underlying33 rfl (fun _ h => h.rd 0 rfl)) rfl rfl ?_
    refine l_q rfl (q_move rfl rfl) rfl rfl ?_
    refine l_q rfl (q_eql rfl rfl rfl) rfl rfl ?_
    refine l_q rfl (q_pick_t rfl rfl rfl) rfl rfl ?_
    refine l_q rfl (q_move rfl rfl) rfl rfl ?_
    refine Pre.setB (t := 55) (c := true) rfl (by decide +kernel) ?_
    refine l_q rfl (q_move rfl rfl) rfl rfl ?_
    refine pull3 ?_
    refine pull3 ?_
    refine pull3 ?_
    refine l_e rfl ?_
    refine e_call_34 (drop_spec (try_ok (take_ok (take_ok new_ok 1 false) 3 true) 9 true) (by omega) b q60 q58.2 9) rfl rfl rfl Try.call13 rfl (fun _ _ => trivial) ?_
    intro q62 _
    refine l_q rfl (q_lenV rfl Try.underlying27 rfl (fun _ h => h.rd 0 rfl)) rfl rfl ?_
    refine l_q rfl (q_eql rfl rfl rfl) rfl rfl ?_
    refine l_q rfl (q_pick_t rfl rfl rfl) rfl rfl ?_
    refine l_q rfl (q_move rfl rfl) rfl rfl ?_
    refine Pre.setB (t := 61) (c := true) rfl (by decide +kernel) ?_
    refine l_e rfl ?_
    refine e_call_00 (awake_spec) rfl rfl rfl Try.call11 rfl (fun _ _ => trivial) ?_
    intro _ _
    refine l_q rfl (q_pick_t rfl rfl rfl) rfl rfl ?_
    refine l_q rfl (q_assign rfl rfl) rfl rfl ?_
    refine l_nil ?_
    refine k_then ?_
    refine c_ret ?_
    refine r_one rfl rfl ?_
    exact fun _ h => ⟨(), rfl, trivial, h.nothing⟩
  · refine enter (n := 64) (vs := [.bool true, .bool true, .bool false, .bool false]) (St w [] []) Try.func5 rfl rfl rfl (St.init hH) ?_
    refine c_seq ?_
    refine c_region _ rfl ?_
    refine l_q rfl (q_assign rfl rfl) rfl rfl ?_
    refine l_nil ?_
    refine k_then ?_
    refine c_seq ?_
    refine c_region _ rfl ?_
    refine l_e rfl ?_
    refine e_call_03 (new_spec) rfl rfl rfl Try.call10 rfl (fun _ _ => trivial) ?_
    intro b _
    refine l_q rfl (q_assign rfl rfl) rfl rfl ?_
    refine l_nil ?_
    refine k_then ?_
    refine c_seq ?_
    refine c_seq ?_
    refine c_region _ rfl ?_
    refine l_q rfl (q_move rfl rfl) rfl rfl ?_
    refine l_q rfl (q_eqp rfl Try.underlying23 rfl rfl) rfl rfl ?_
    refine l_nil ?_
    refine k_then ?_
    refine Pre.setB (t := 15) (c := false) rfl (rfl) ?_
    refine c_false rfl ?_
    refine c_skip ?_
    refine k_then ?_
    refine c_seq ?_
    refine c_seq ?_
    refine c_region _ rfl ?_
    refine l_q rfl (q_move rfl rfl) rfl rfl ?_
    refine l_nil ?_
    refine k_then ?_
    refine c_true rfl ?_
    refine c_region _ rfl ?_
    refine l_q rfl (q_move rfl rfl) rfl rfl ?_
    refine pull2 ?_
    refine pull2 ?_
    refine pull2 ?_
    refine l_e rfl ?_
    refine e_call_33 (take_spec new_ok (by omega) b (.slice none 0 0) (.slice none 0 0) 1 false) rfl rfl rfl Try.call12 rfl (fun _ _ => trivial) ?_
    intro q63 _
    refine l_nil ?_
    refine k_then ?_
    refine c_seq ?_
    refine c_seq ?_
    refine c_region _ rfl ?_
    refine l_q rfl (q_move rfl rfl) rfl rfl ?_
    refine l_nil ?_
    refine k_then ?_
    refine c_true rfl ?_
    refine c_region _ rfl ?_
    refine l_q rfl (q_move rfl rfl) rfl rfl ?_
    refine pull2 ?_
    refine pull2 ?_
    refine pull2 ?_
    refine l_e rfl ?_
    refine e_call_33 (take_spec (take_ok new_ok 1 false) (by omega) b q63.1 q63.2 2 true) rfl rfl rfl Try.call12 rfl (fun _ _ => trivial) ?_
    intro q64 _
    refine l_nil ?_
    refine k_then ?_
    refine c_seq ?_
    refine c_seq ?_
    refine c_region _ rfl ?_
    refine l_q rfl (q_move rfl rfl) rfl rfl ?_
    refine l_nil ?_
    refine k_then ?_
    refine c_false rfl ?_
    refine c_skip ?_
    refine k_then ?_
    refine c_seq ?_
    refine c_region _ rfl ?_
    refine l_q rfl (q_move rfl rfl) rfl rfl ?_
    refine l_q rfl (q_not rfl rfl) rfl rfl ?_
    refine l_q rfl (q_move rfl rfl) rfl rfl ?_
    refine l_not rfl rfl rfl ?_
    refine l_not rfl rfl rfl ?_
    refine l_q rfl (q_pick_f rfl rfl rfl) rfl rfl ?_
    refine l_q rfl (q_move rfl rfl) rfl rfl ?_
    refine l_not rfl rfl rfl ?_
    refine l_not rfl rfl rfl ?_
    refine l_not rfl rfl rfl ?_
    refine l_not rfl rfl rfl ?_
    refine l_not rfl rfl rfl ?_
    refine l_not rfl rfl rfl ?_
    refine l_q rfl (q_pick_f rfl rfl rfl) rfl rfl ?_
    refine l_q rfl (q_assign rfl rfl) rfl rfl ?_
    refine l_nil ?_
    refine k_then ?_
    refine c_seq ?_
    refine c_region _ rfl ?_
    refine l_q rfl (q_move rfl rfl) rfl rfl ?_
    refine pull2 ?_
    refine pull2 ?_
    refine pull2 ?_
    refine l_e rfl ?_
    refine e_call_34 (queue_spec (take_ok (take_ok new_ok 1 false) 2 true) (by omega) b q64.1 q64.2) rfl rfl rfl Try.call17 rfl (fun _ _ => trivial) ?_
    intro q65 _
    refine l_q rfl (q_lenV rfl Try.underlying33 rfl (fun _ h => h.rd 0 rfl)) rfl rfl ?_
    refine l_q rfl (q_assign rfl rfl) rfl rfl ?_
    refine l_nil ?_
    refine k_then ?_
    refine c_seq ?_
    refine c_region _ rfl ?_
    refine l_q rfl (q_move rfl rfl) rfl rfl ?_
    refine l_q rfl (q_move rfl rfl) rfl rfl ?_
    refine pull3 ?_
    refine pull3 ?_
    refine pull3 ?_
    refine l_e rfl ?_
    refine e_call_33 (try_spec (take_ok (take_ok new_ok 1 false) 2 true) (by omega) b q64.1 q64.2 9 false) rfl rfl rfl Try.call18 rfl (fun _ _ => trivial) ?_
    intro q66 _
    refine l_q rfl (q_assign rfl rfl) rfl rfl ?_
    refine l_nil ?_
    refine k_then ?_
    refine c_seq ?_
    refine c_region _ rfl ?_
    refine l_q rfl (q_move rfl rfl) rfl rfl ?_
    refine l_q rfl (q_move rfl rfl) rfl rfl ?_
    refine l_q rfl (q_eqb rfl Try.underlying4 rfl rfl) rfl rfl ?_
    refine l_q rfl (q_move rfl rfl) rfl rfl ?_
    refine Pre.setB (t := 48) (c := true) rfl (by decide +kernel) ?_
    refine l_q rfl (q_move rfl rfl) rfl rfl ?_
    refine pull2 ?_
    refine pull2 ?_
    refine pull2 ?_
    refine l_e rfl ?_
    refine e_call_34 (queue_spec (try_ok (take_ok (take_ok new_ok 1 false) 2 true) 9 false) (by omega) b q66 q64.2) rfl rfl rfl Try.call17 rfl (fun _ _ => trivial) ?_
    intro q67 _
    refine l_q rfl (q_lenV rfl Try.underlying33 rfl (fun _ h => h.rd 0 rfl)) rfl rfl ?_
    refine l_q rfl (q_move rfl rfl) rfl rfl ?_
    refine l_q rfl (q_eql rfl rfl rfl) rfl rfl ?_
    refine l_q rfl (q_pick_t rfl rfl rfl) rfl rfl ?_
    refine l_q rfl (q_move rfl rfl) rfl rfl ?_
    refine Pre.setB (t := 55) (c := true) rfl (by decide +kernel) ?_
    refine l_q rfl (q_move rfl rfl) rfl rfl ?_
    refine pull3 ?_
    refine pull3 ?_
    refine pull3 ?_
    refine l_e rfl ?_
    refine e_call_34 (drop_spec (try_ok (take_ok (take_ok new_ok 1 false) 2 true) 9 false) (by omega) b q66 q64.2 9) rfl rfl rfl Try.call13 rfl (fun _ _ => trivial) ?_
    intro q68 _
    refine l_q rfl (q_lenV rfl Try.underlying27 rfl (fun _ h => h.rd 0 rfl)) rfl rfl ?_
    refine l_q rfl (q_eql rfl rfl rfl) rfl rfl ?_
    refine l_q rfl (q_pick_t rfl rfl rfl) rfl rfl ?_
    refine l_q rfl (q_move rfl rfl) rfl rfl ?_
    refine Pre.setB (t := 61) (c := true) rfl (by decide +kernel) ?_
    refine l_e rfl ?_
    refine e_call_00 (awake_spec) rfl rfl rfl Try.call11 rfl (fun _ _ => trivial) ?_
    intro _ _
    refine l_q rfl (q_pick_t rfl rfl rfl) rfl rfl ?_
    refine l_q rfl (q_assign rfl rfl) rfl rfl ?_
    refine l_nil ?_
    refine k_then ?_
    refine c_ret ?_
    refine r_one rfl rfl ?_
    exact fun _ h => ⟨(), rfl, trivial, h.nothing⟩
  · refine enter (n := 64) (vs := [.bool true, .bool true, .bool false, .bool true]) (St w [] []) Try.func5 rfl rfl rfl (St.init hH) ?_
    refine c_seq ?_
    refine c_region _ rfl ?_
    refine l_q rfl (q_assign rfl rfl) rfl rfl ?_
    refine l_nil ?_
    refine k_then ?_
    refine c_seq ?_
    refine c_region _ rfl ?_
    refine l_e rfl ?_
    refine e_call_03 (new_spec) rfl rfl rfl Try.call10 rfl (fun _ _ => trivial) ?_
    intro b _
    refine l_q rfl (q_assign rfl rfl) rfl rfl ?_
    refine l_nil ?_
    refine k_then ?_
    refine c_seq ?_
    refine c_seq ?_
    refine c_region _ rfl ?_
    refine l_q rfl (q_move rfl rfl) rfl rfl ?_
    refine l_q rfl (q_eqp rfl Try.underlying23 rfl rfl) rfl rfl ?_
    refine l_nil ?_
    refine k_then ?_
    refine Pre.setB (t := 15) (c := false) rfl (rfl) ?_
    refine c_false rfl ?_
    refine c_skip ?_
    refine k_then ?_
    refine c_seq ?_
    refine c_seq ?_
    refine c_region _ rfl ?_
    refine l_q rfl (q_move rfl rfl) rfl rfl ?_
    refine l_nil ?_
    refine k_then ?_
    refine c_true rfl ?_
    refine c_region _ rfl ?_
    refine l_q rfl (q_move rfl rfl) rfl rfl ?_
    refine pull2 ?_
    refine pull2 ?_
    refine pull2 ?_
    refine l_e rfl ?_
    refine e_call_33 (take_spec new_ok (by omega) b (.slice none 0 0) (.slice none 0 0) 1 false) rfl rfl rfl Try.call12 rfl (fun _ _ => trivial) ?_
    intro q69 _
    refine l_nil ?_
    refine k_then ?_
    refine c_seq ?_
    refine c_seq ?_
    refine c_region _ rfl ?_
    refine l_q rfl (q_move rfl rfl) rfl rfl ?_
    refine l_nil ?_
    refine k_then ?_
    refine c_true rfl ?_
    refine c_region _ rfl ?_
    refine l_q rfl (q_move rfl rfl) rfl rfl ?_
    refine pull2 ?_
    refine pull2 ?_
    refine pull2 ?_
    refine l_e rfl ?_
    refine e_call_33 (take_spec (take_ok new_ok 1 false) (by omega) b q69.1 q69.2 2 true) rfl rfl rfl Try.call12 rfl (fun _ _ => trivial) ?_
    intro q70 _
    refine l_nil ?_
    refine k_then ?_
    refine c_seq ?_
    refine c_seq ?_
    refine c_region _ rfl ?_
    refine l_q rfl (q_move rfl rfl) rfl rfl ?_
    refine l_nil ?_
    refine k_then ?_
    refine c_false rfl ?_
    refine c_skip ?_
    refine k_then ?_
    refine c_seq ?_
    refine c_region _ rfl ?_
    refine l_q rfl (q_move rfl rfl) rfl rfl ?_
    refine l_q rfl (q_not rfl rfl) rfl rfl ?_
    refine l_q rfl (q_move rfl rfl) rfl rfl ?_
    refine l_not rfl rfl rfl ?_
    refine l_not rfl rfl rfl ?_
    refine l_q rfl (q_pick_f rfl rfl rfl) rfl rfl ?_
    refine l_q rfl (q_move rfl rfl) rfl rfl ?_
    refine l_not rfl rfl rfl ?_
    refine l_not rfl rfl rfl ?_
    refine l_not rfl rfl rfl ?_
    refine l_not rfl rfl rfl ?_
    refine l_not rfl rfl rfl ?_
    refine l_not rfl rfl rfl ?_
    refine l_q rfl (q_pick_f rfl rfl rfl) rfl rfl ?_
    refine l_q rfl (q_assign rfl rfl) rfl rfl ?_
    refine l_nil ?_
    refine k_then ?_
    refine c_seq ?_
    refine c_region _ rfl ?_
    refine l_q rfl (q_move rfl rfl) rfl rfl ?_
    refine pull2 ?_
    refine pull2 ?_
    refine pull2 ?_
    refine l_e rfl ?_
    refine e_call_34 (queue_spec (take_ok (take_ok new_ok 1 false) 2 true) (by omega) b q70.1 q70.2) rfl rfl rfl Try.call17 rfl (fun _ _ => trivial) ?_
    intro q71 _
    refine l_q rfl (q_lenV rfl Try.underlying33 rfl (fun _ h => h.rd 0 rfl)) rfl rfl ?_
    refine l_q rfl (q_assign rfl rfl) rfl rfl ?_
    refine l_nil ?_
    refine k_then ?_
    refine c_seq ?_
    refine c_region _ rfl ?_
    refine l_q rfl (q_move rfl rfl) rfl rfl ?_
    refine l_q rfl (q_move rfl rfl) rfl rfl ?_
    refine pull3 ?_
    refine pull3 ?_
    refine pull3 ?_
    refine l_e rfl ?_
    refine e_call_33 (try_spec (take_ok (take_ok new_ok 1 false) 2 true) (by omega) b q70.1 q70.2 9 true) rfl rfl rfl Try.call18 rfl (fun _ _ => trivial) ?_
    intro q72 _
    refine l_q rfl (q_assign rfl rfl) rfl rfl ?_
    refine l_nil ?_
    refine k_then ?_
    refine c_seq ?_
    refine c_region _ rfl ?_
    refine l_q rfl (q_move rfl rfl) rfl rfl ?_
    refine l_q rfl (q_move rfl rfl) rfl rfl ?_
    refine l_q rfl (q_eqb rfl Try.underlying4 rfl rfl) rfl rfl ?_
    refine l_q rfl (q_move rfl rfl) rfl rfl ?_
    refine Pre.setB (t := 48) (c := true) rfl (by decide +kernel) ?_
    refine l_q rfl (q_move rfl rfl) rfl rfl ?_
    refine pull2 ?_
    refine pull2 ?_
    refine pull2 ?_
    refine l_e rfl ?_
    refine e_call_34 (queue_spec (try_ok (take_ok (take_ok new_ok 1 false) 2 true) 9 true) (by omega) b q72 q70.2) rfl rfl rfl Try.call17 rfl (fun _ _ => trivial) ?_
    intro q73 _
    refine l_q rfl (q_lenV rfl Try.underlying33 rfl (fun _ h => h.rd 0 rfl)) rfl rfl ?_
    refine l_q rfl (q_move rfl rfl) rfl rfl ?_
    refine l_q rfl (q_eql rfl rfl rfl) rfl rfl ?_
    refine l_q rfl (q_pick_t rfl rfl rfl) rfl rfl ?_
    refine l_q rfl (q_move rfl rfl) rfl rfl ?_
    refine Pre.setB (t := 55) (c := true) rfl (by decide +kernel) ?_
    refine l_q rfl (q_move rfl rfl) rfl rfl ?_
    refine pull3 ?_
    refine pull3 ?_
    refine pull3 ?_
    refine l_e rfl ?_
    refine e_call_34 (drop_spec (try_ok (take_ok (take_ok new_ok 1 false) 2 true) 9 true) (by omega) b q72 q70.2 9) rfl rfl rfl Try.call13 rfl (fun _ _ => trivial) ?_
    intro q74 _
    refine l_q rfl (q_lenV rfl Try.underlying27 rfl (fun _ h => h.rd 0 rfl)) rfl rfl ?_
    refine l_q rfl (q_eql rfl rfl rfl) rfl rfl ?_
    refine l_q rfl (q_pick_t rfl rfl rfl) rfl rfl ?_
    refine l_q rfl (q_move rfl rfl) rfl rfl ?_
    refine Pre.setB (t := 61) (c := true) rfl (by decide +kernel) ?_
    refine l_e rfl ?_
    refine e_call_00 (awake_spec) rfl rfl rfl Try.call11 rfl (fun _ _ => trivial) ?_
    intro _ _
    refine l_q rfl (q_pick_t rfl rfl rfl) rfl rfl ?_
    refine l_q rfl (q_assign rfl rfl) rfl rfl ?_
    refine l_nil ?_
    refine k_then ?_
    refine c_ret ?_
    refine r_one rfl rfl ?_
    exact fun _ h => ⟨(), rfl, trivial, h.nothing⟩
  · refine enter (n := 64) (vs := [.bool true, .bool true, .bool true, .bool false]) (St w [] []) Try.func5 rfl rfl rfl (St.init hH) ?_
    refine c_seq ?_
    refine c_region _ rfl ?_
    refine l_q rfl (q_assign rfl rfl) rfl rfl ?_
    refine l_nil ?_
    refine k_then ?_
    refine c_seq ?_
    refine c_region _ rfl ?_
    refine l_e rfl ?_
    refine e_call_03 (new_spec) rfl rfl rfl Try.call10 rfl (fun _ _ => trivial) ?_
    intro b _
    refine l_q rfl (q_assign rfl rfl) rfl rfl ?_
    refine l_nil ?_
    refine k_then ?_
    refine c_seq ?_
    refine c_seq ?_
    refine c_region _ rfl ?_
    refine l_q rfl (q_move rfl rfl) rfl rfl ?_
    refine l_q rfl (q_eqp rfl Try.underlying23 rfl rfl) rfl rfl ?_
    refine l_nil ?_
    refine k_then ?_
    refine Pre.setB (t := 15) (c := false) rfl (rfl) ?_
    refine c_false rfl ?_
    refine c_skip ?_
    refine k_then ?_
    refine c_seq ?_
    refine c_seq ?_
    refine c_region _ rfl ?_
    refine l_q rfl (q_move rfl rfl) rfl rfl ?_
    refine l_nil ?_
    refine k_then ?_
    refine c_true rfl ?_
    refine c_region _ rfl ?_
    refine l_q rfl (q_move rfl rfl) rfl rfl ?_
    refine pull2 ?_
    refine pull2 ?_
    refine pull2 ?_
    refine l_e rfl ?_
    refine e_call_33 (take_spec new_ok (by omega) b (.slice none 0 0) (.slice none 0 0) 1 false) rfl rfl rfl Try.call12 rfl (fun _ _ => trivial) ?_
    intro q75 _
    refine l_nil ?_
    refine k_then ?_
    refine c_seq ?_
    refine c_seq ?_
    refine c_region _ rfl ?_
    refine l_q rfl (q_move rfl rfl) rfl rfl ?_
    refine l_nil ?_
    refine k_then ?_
    refine c_true rfl ?_
    refine c_region _ rfl ?_
    refine l_q rfl (q_move rfl rfl) rfl rfl ?_
    refine pull2 ?_
    refine pull2 ?_
    refine pull2 ?_
    refine l_e rfl ?_
    refine e_call_33 (take_spec (take_ok new_ok 1 false) (by omega) b q75.1 q75.2 2 true) rfl rfl rfl Try.call12 rfl (fun _ _ => trivial) ?_
    intro q76 _
    refine l_nil ?_
    refine k_then ?_
    refine c_seq ?_
    refine c_seq ?_
    refine c_region _ rfl ?_
    refine l_q rfl (q_move rfl rfl) rfl rfl ?_
    refine l_nil ?_
    refine k_then ?_
    refine c_true rfl ?_
    refine c_region _ rfl ?_
    refine l_q rfl (q_move rfl rfl) rfl rfl ?_
    refine pull2 ?_
    refine pull2 ?_
    refine pull2 ?_
    refine l_e rfl ?_
    refine e_call_33 (take_spec (take_ok (take_ok new_ok 1 false) 2 true) (by omega) b q76.1 q76.2 3 true) rfl rfl rfl Try.call12 rfl (fun _ _ => trivial) ?_
    intro q77 _
    refine l_nil ?_
    refine k_then ?_
    refine c_seq ?_
    refine c_region _ rfl ?_
    refine l_q rfl (q_move rfl rfl) rfl rfl ?_
    refine l_q rfl (q_not rfl rfl) rfl rfl ?_
    refine l_q rfl (q_move rfl rfl) rfl rfl ?_
    refine l_not rfl rfl rfl ?_
    refine l_not rfl rfl rfl ?_
    refine l_q rfl (q_pick_f rfl rfl rfl) rfl rfl ?_
    refine l_q rfl (q_move rfl rfl) rfl rfl ?_
    refine l_not rfl rfl rfl ?_
    refine l_not rfl rfl rfl ?_
    refine l_not rfl rfl rfl ?_
    refine l_not rfl rfl rfl ?_
    refine l_not rfl rfl rfl ?_
    refine l_not rfl rfl rfl ?_
    refine l_q rfl (q_pick_f rfl rfl rfl) rfl rfl ?_
    refine l_q rfl (q_assign rfl rfl) rfl rfl ?_
    refine l_nil ?_
    refine k_then ?_
    refine c_seq ?_
    refine c_region _ rfl ?_
    refine l_q rfl (q_move rfl rfl) rfl rfl ?_
    refine pull2 ?_
    refine pull2 ?_
    refine pull2 ?_
    refine l_e rfl ?_
    refine e_call_34 (queue_spec (take_ok (take_ok (take_ok new_ok 1 false) 2 true) 3 true) (by omega) b q77.1 q77.2) rfl rfl rfl Try.call17 rfl (fun _ _ => trivial) ?_
    intro q78 _
    refine l_q rfl (q_lenV rfl Try.underlying33 rfl (fun _ h => h.rd 0 rfl)) rfl rfl ?_
    refine l_q rfl (q_assign rfl rfl) rfl rfl ?_
    refine l_nil ?_
    refine k_then ?_
    refine c_seq ?_
    refine c_region _ rfl ?_
    refine l_q rfl (q_move rfl rfl) rfl rfl ?_
    refine l_q rfl (q_move rfl rfl) rfl rfl ?_
    refine pull3 ?_
    refine pull3 ?_
    refine pull3 ?_
    refine l_e rfl ?_
    refine e_call_33 (try_spec (take_ok (take_ok (take_ok new_ok 1 false) 2 true) 3 true) (by omega) b q77.1 q77.2 9 false) rfl rfl rfl Try.call18 rfl (fun _ _ => trivial) ?_
    intro q79 _
    refine l_q rfl (q_assign rfl rfl) rfl rfl ?_
    refine l_nil ?_
    refine k_then ?_
    refine c_seq ?_
    refine c_region _ rfl ?_
    refine l_q rfl (q_move rfl rfl) rfl rfl ?_
    refine l_q rfl (q_move rfl rfl) rfl rfl ?_
    refine l_q rfl (q_eqb rfl Try.underlying4 rfl rfl) rfl rfl ?_
    refine l_q rfl (q_move rfl rfl) rfl rfl ?_
    refine Pre.setB (t := 48) (c := true) rfl (by decide +kernel) ?_
    refine l_q rfl (q_move rfl rfl) rfl rfl ?_
    refine pull2 ?_
    refine pull2 ?_
    refine pull2 ?_
    refine l_e rfl ?_
    refine e_call_34 (queue_spec (try_ok (take_ok (take_ok (take_ok new_ok 1 false) 2 true) 3 true) 9 false) (by omega) b q79 q77.2) rfl rfl rfl Try.call17 rfl (fun _ _ => trivial) ?_
    intro q80 _
    refine l_q rfl (q_lenV rfl Try.underlying33 rfl (fun _ h => h.rd 0 rfl)) rfl rfl ?_
    refine l_q rfl (q_move rfl rfl) rfl rfl ?_
    refine l_q rfl (q_eql rfl rfl rfl) rfl rfl ?_
    refine l_q rfl (q_pick_t rfl rfl rfl) rfl rfl ?_
    refine l_q rfl (q_move rfl rfl) rfl rfl ?_
    refine Pre.setB (t := 55) (c := true) rfl (by decide +kernel) ?_
    refine l_q rfl (q_move rfl rfl) rfl rfl ?_
    refine pull3 ?_
    refine pull3 ?_
    refine pull3 ?_
    refine l_e rfl ?_
    refine e_call_34 (drop_spec (try_ok (take_ok (take_ok (take_ok new_ok 1 false) 2 true) 3 true) 9 false) (by omega) b q79 q77.2 9) rfl rfl rfl Try.call13 rfl (fun _ _ => trivial) ?_
    intro q81 _
    refine l_q rfl (q_lenV rfl Try.underlying27 rfl (fun _ h => h.rd 0 rfl)) rfl rfl ?_
    refine l_q rfl (q_eql rfl rfl rfl) rfl rfl ?_
    refine l_q rfl (q_pick_t rfl rfl rfl) rfl rfl ?_
    refine l_q rfl (q_move rfl rfl) rfl rfl ?_
    refine Pre.setB (t := 61) (c := true) rfl (by decide +kernel) ?_
    refine l_e rfl ?_
    refine e_call_00 (awake_spec) rfl rfl rfl Try.call11 rfl (fun _ _ => trivial) ?_
    intro _ _
    refine l_q rfl (q_pick_t rfl rfl rfl) rfl rfl ?_
    refine l_q rfl (q_assign rfl rfl) rfl rfl ?_
    refine l_nil ?_
    refine k_then ?_
    refine c_ret ?_
    refine r_one rfl rfl ?_
    exact fun _ h => ⟨(), rfl, trivial, h.nothing⟩
  · refine enter (n := 64) (vs := [.bool true, .bool true, .bool true, .bool true]) (St w [] []) Try.func5 rfl rfl rfl (St.init hH) ?_
    refine c_seq ?_
    refine c_region _ rfl ?_
    refine l_q rfl (q_assign rfl rfl) rfl rfl ?_
    refine l_nil ?_
    refine k_then ?_
    refine c_seq ?_
    refine c_region _ rfl ?_
    refine l_e rfl ?_
    refine e_call_03 (new_spec) rfl rfl rfl Try.call10 rfl (fun _ _ => trivial) ?_
    intro b _
    refine l_q rfl (q_assign rfl rfl) rfl rfl ?_
    refine l_nil ?_
    refine k_then ?_
    refine c_seq ?_
    refine c_seq ?_
    refine c_region _ rfl ?_
    refine l_q rfl (q_move rfl rfl) rfl rfl ?_
    refine l_q rfl (q_eqp rfl Try.underlying23 rfl rfl) rfl rfl ?_
    refine l_nil ?_
    refine k_then ?_
    refine Pre.setB (t := 15) (c := false) rfl (rfl) ?_
    refine c_false rfl ?_
    refine c_skip ?_
    refine k_then ?_
    refine c_seq ?_
    refine c_seq ?_
    refine c_region _ rfl ?_
    refine l_q rfl (q_move rfl rfl) rfl rfl ?_
    refine l_nil ?_
    refine k_then ?_
    refine c_true rfl ?_
    refine c_region _ rfl ?_
    refine l_q rfl (q_move rfl rfl) rfl rfl ?_
    refine pull2 ?_
    refine pull2 ?_
    refine pull2 ?_
    refine l_e rfl ?_
    refine e_call_33 (take_spec new_ok (by omega) b (.slice none 0 0) (.slice none 0 0) 1 false) rfl rfl rfl Try.call12 rfl (fun _ _ => trivial) ?_
    intro q82 _
    refine l_nil ?_
    refine k_then ?_
    refine c_seq ?_
    refine c_seq ?_
    refine c_region _ rfl ?_
    refine l_q rfl (q_move rfl rfl) rfl rfl ?_
    refine l_nil ?_
    refine k_then ?_
    refine c_true rfl ?_
    refine c_region _ rfl ?_
    refine l_q rfl (q_move rfl rfl) rfl rfl ?_
    refine pull2 ?_
    refine pull2 ?_
    refine pull2 ?_
    refine l_e rfl ?_
    refine e_call_33 (take_spec (take_ok new_ok 1 false) (by omega) b q82.1 q82.2 2 true) rfl rfl rfl Try.call12 rfl (fun _ _ => trivial) ?_
    intro q83 _
    refine l_nil ?_
    refine k_then ?_
    refine c_seq ?_
    refine c_seq ?_
    refine c_region _ rfl ?_
    refine l_q rfl (q_move rfl rfl) rfl rfl ?_
    refine l_nil ?_
    refine k_then ?_
    refine c_true rfl ?_
    refine c_region _ rfl ?_
    refine l_q rfl (q_move rfl rfl) rfl rfl ?_
    refine pull2 ?_
    refine pull2 ?_
    refine pull2 ?_
    refine l_e rfl ?_
    refine e_call_33 (take_spec (take_ok (take_ok new_ok 1 false) 2 true) (by omega) b q83.1 q83.2 3 true) rfl rfl rfl Try.call12 rfl (fun _ _ => trivial) ?_
    intro q84 _
    refine l_nil ?_
    refine k_then ?_
    refine c_seq ?_
    refine c_region _ rfl ?_
    refine l_q rfl (q_move rfl rfl) rfl rfl ?_
    refine l_q rfl (q_not rfl rfl) rfl rfl ?_
    refine l_q rfl (q_move rfl rfl) rfl rfl ?_
    refine l_not rfl rfl rfl ?_
    refine l_not rfl rfl rfl ?_
    refine l_q rfl (q_pick_f rfl rfl rfl) rfl rfl ?_
    refine l_q rfl (q_move rfl rfl) rfl rfl ?_
    refine l_not rfl rfl rfl ?_
    refine l_not rfl rfl rfl ?_
    refine l_not rfl rfl rfl ?_
    refine l_not rfl rfl rfl ?_
    refine l_not rfl rfl rfl ?_
    refine l_not rfl rfl rfl ?_
    refine l_q rfl (q_pick_f rfl rfl rfl) rfl rfl ?_
    refine l_q rfl (q_assign rfl rfl) rfl rfl ?_
    refine l_nil ?_
    refine k_then ?_
    refine c_seq ?_
    refine c_region _ rfl ?_
    refine l_q rfl (q_move rfl rfl) rfl rfl ?_
    refine pull2 ?_
    refine pull2 ?_
    refine pull2 ?_
    refine l_e rfl ?_
    refine e_call_34 (queue_spec (take_ok (take_ok (take_ok new_ok 1 false) 2 true) 3 true) (by omega) b q84.1 q84.2) rfl rfl rfl Try.call17 rfl (fun _ _ => trivial) ?_
    intro q85 _
    refine l_q rfl (q_lenV rfl Try.underlying33 rfl (fun _ h => h.rd 0 rfl)) rfl rfl ?_
    refine l_q rfl (q_assign rfl rfl) rfl rfl ?_
    refine l_nil ?_
    refine k_then ?_
    refine c_seq ?_
    refine c_region _ rfl ?_
    refine l_q rfl (q_move rfl rfl) rfl rfl ?_
    refine l_q rfl (q_move rfl rfl) rfl rfl ?_
    refine pull3 ?_
    refine pull3 ?_
    refine pull3 ?_
    refine l_e rfl ?_
    refine e_call_33 (try_spec (take_ok (take_ok (take_ok new_ok 1 false) 2 true) 3 true) (by omega) b q84.1 q84.2 9 true) rfl rfl rfl Try.call18 rfl (fun _ _ => trivial) ?_
    intro q86 _
    refine l_q rfl (q_assign rfl rfl) rfl rfl ?_
    refine l_nil ?_
    refine k_then ?_
    refine c_seq ?_
    refine c_region _ rfl ?_
    refine l_q rfl (q_move rfl rfl) rfl rfl ?_
    refine l_q rfl (q_move rfl rfl) rfl rfl ?_
    refine l_q rfl (q_eqb rfl Try.underlying4 rfl rfl) rfl rfl ?_
    refine l_q rfl (q_move rfl rfl) rfl rfl ?_
    refine Pre.setB (t := 48) (c := true) rfl (by decide +kernel) ?_
    refine l_q rfl (q_move rfl rfl) rfl rfl ?_
    refine pull2 ?_
    refine pull2 ?_
    refine pull2 ?_
    refine l_e rfl ?_
    refine e_call_34 (queue_spec (try_ok (take_ok (take_ok (take_ok new_ok 1 false) 2 true) 3 true) 9 true) (by omega) b q86 q84.2) rfl rfl rfl Try.call17 rfl (fun _ _ => trivial) ?_
    intro q87 _
    refine l_q rfl (q_lenV rfl Try.underlying33 rfl (fun _ h => h.rd 0 rfl)) rfl rfl ?_
    refine l_q rfl (q_move rfl rfl) rfl rfl ?_
    refine l_q rfl (q_eql rfl rfl rfl) rfl rfl ?_
    refine l_q rfl (q_pick_t rfl rfl rfl) rfl rfl ?_
    refine l_q rfl (q_move rfl rfl) rfl rfl ?_
    refine Pre.setB (t := 55) (c := true) rfl (by decide +kernel) ?_
    refine l_q rfl (q_move rfl rfl) rfl rfl ?_
    refine pull3 ?_
    refine pull3 ?_
    refine pull3 ?_
    refine l_e rfl ?_
    refine e_call_34 (drop_spec (try_ok (take_ok (take_ok (take_ok new_ok 1 false) 2 true) 3 true) 9 true) (by omega) b q86 q84.2 9) rfl rfl rfl Try.call13 rfl (fun _ _ => trivial) ?_
    intro q88 _
    refine l_q rfl (q_lenV rfl Try.underlying27 rfl (fun _ h => h.rd 0 rfl)) rfl rfl ?_
    refine l_q rfl (q_eql rfl rfl rfl) rfl rfl ?_
    refine l_q rfl (q_pick_t rfl rfl rfl) rfl rfl ?_
    refine l_q rfl (q_move rfl rfl) rfl rfl ?_
    refine Pre.setB (t := 61) (c := true) rfl (by decide +kernel) ?_
    refine l_e rfl ?_
    refine e_call_00 (awake_spec) rfl rfl rfl Try.call11 rfl (fun _ _ => trivial) ?_
    intro _ _
    refine l_q rfl (q_pick_t rfl rfl rfl) rfl rfl ?_
    refine l_q rfl (q_assign rfl rfl) rfl rfl ?_
    refine l_nil ?_
    refine k_then ?_
    refine c_ret ?_
    refine r_one rfl rfl ?_
    exact fun _ h => ⟨(), rfl, trivial, h.nothing⟩
theorem latchTries_walk (w : World) (a0 a1 a2 a3 : Bool) :
    Calls Try.prog 5 #[.bool a0, .bool a1, .bool a2, .bool a3] w fun e w' => e = .returned (.bool true) ∧ Below w.heap.size w w' :=
  con_walk (tries_spec a0 a1 a2 a3) trivial
end Go.Proofs.Ytlakembncfkimaa
