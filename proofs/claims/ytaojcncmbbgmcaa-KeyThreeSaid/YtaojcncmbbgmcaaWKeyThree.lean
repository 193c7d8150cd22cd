/- KeyThree, walked -/
import Derived.Test.YtaojcncmbbgmcaaW
set_option linter.unusedVariables false
set_option linter.unusedSimpArgs false
namespace Go.Proofs.Ytaojcncmbbgmcaa
open Go.Sep Go.RowKit

set_option maxRecDepth 100000 in
set_option maxHeartbeats 1000000 in
theorem three_spec (a b c : Kv 8) : Con Try.prog 7 [.agg a.c.toArray, .agg b.c.toArray, .agg c.c.toArray] (fun _ => True) [] (fun _ : Unit => .bool true) (fun _ => True) (fun _ => []) := by
  intro w hE hH
  refine enter (n := 54) (vs := [.agg a.c.toArray, .agg b.c.toArray, .agg c.c.toArray]) (St w [] []) Try.func7 rfl rfl rfl (St.init hH) ?_
  refine c_seq ?_
  refine c_region _ rfl ?_
  refine l_e rfl ?_
  refine e_box rfl rfl rfl rfl ?_
  intro ba
  refine cells_eq (show _ = a.c from rfl) ?_
  refine l_e rfl ?_
  refine e_box rfl rfl rfl rfl ?_
  intro bb
  refine cells_eq (show _ = b.c from rfl) ?_
  refine l_e rfl ?_
  refine e_box rfl rfl rfl rfl ?_
  intro bc
  refine cells_eq (show _ = c.c from rfl) ?_
  refine l_q rfl (q_assign rfl rfl) rfl rfl ?_
  refine l_nil ?_
  refine k_then ?_
  refine c_seq ?_
  refine c_seq ?_
  refine c_region _ rfl ?_
  refine l_q rfl (q_loadCAgg (a.c) rfl Try.isAgg24 Try.sizeOf24 rfl (fun _ h => h.at 2 rfl) (kv_whole _) (Kv.c_len _)) rfl rfl ?_
  refine l_e rfl ?_
  refine e_call_00 (rkcheck_spec a) rfl rfl rfl Try.call14 rfl (fun _ _ => trivial) ?_
  intro _ _
  refine l_q rfl (q_not rfl rfl) rfl rfl ?_
  refine l_q rfl (q_move rfl rfl) rfl rfl ?_
  refine Pre.caseB 10 rfl (fun hk0 => ?_) (fun hk0 => ?_)
  · try simp only [Bool.not_eq_true', Bool.not_eq_false'] at hk0
    refine l_not rfl rfl rfl ?_
    refine l_not rfl rfl rfl ?_
    refine l_not rfl rfl rfl ?_
    refine l_q rfl (q_pick_t rfl rfl rfl) rfl rfl ?_
    refine l_q rfl (q_move rfl rfl) rfl rfl ?_
    refine l_not rfl rfl rfl ?_
    refine l_not rfl rfl rfl ?_
    refine l_not rfl rfl rfl ?_
    refine l_q rfl (q_pick_t rfl rfl rfl) rfl rfl ?_
    refine l_nil ?_
    refine k_then ?_
    refine c_true rfl ?_
    refine c_seq ?_
    refine c_region _ rfl ?_
    refine l_e rfl ?_
    refine e_call_00 (awake_spec) rfl rfl rfl Try.call10 rfl (fun _ _ => trivial) ?_
    intro _ _
    refine l_q rfl (q_assign rfl rfl) rfl rfl ?_
    refine l_nil ?_
    refine k_then ?_
    refine c_ret ?_
    refine k_then_ret ?_
    refine r_one rfl rfl ?_
    exact fun _ h => ⟨(), rfl, trivial, h.nothing⟩
  · try simp only [Bool.not_eq_true', Bool.not_eq_false'] at hk0
    refine l_q rfl (q_loadCAgg (b.c) rfl Try.isAgg24 Try.sizeOf24 rfl (fun _ h => h.at 1 rfl) (kv_whole _) (Kv.c_len _)) rfl rfl ?_
    refine l_e rfl ?_
    refine e_call_00 (rkcheck_spec b) rfl rfl rfl Try.call14 rfl (fun _ _ => trivial) ?_
    intro _ _
    refine l_q rfl (q_not rfl rfl) rfl rfl ?_
    refine l_q rfl (q_pick_f rfl rfl rfl) rfl rfl ?_
    refine l_q rfl (q_move rfl rfl) rfl rfl ?_
    refine Pre.caseB 15 rfl (fun hk1 => ?_) (fun hk1 => ?_)
    · try simp only [Bool.not_eq_true', Bool.not_eq_false'] at hk1
      refine l_not rfl rfl rfl ?_
      refine l_not rfl rfl rfl ?_
      refine l_not rfl rfl rfl ?_
      refine l_q rfl (q_pick_t rfl rfl rfl) rfl rfl ?_
      refine l_nil ?_
      refine k_then ?_
      refine c_true rfl ?_
      refine c_seq ?_
      refine c_region _ rfl ?_
      refine l_e rfl ?_
      refine e_call_00 (awake_spec) rfl rfl rfl Try.call10 rfl (fun _ _ => trivial) ?_
      intro _ _
      refine l_q rfl (q_assign rfl rfl) rfl rfl ?_
      refine l_nil ?_
      refine k_then ?_
      refine c_ret ?_
      refine k_then_ret ?_
      refine r_one rfl rfl ?_
      exact fun _ h => ⟨(), rfl, trivial, h.nothing⟩
    · try simp only [Bool.not_eq_true', Bool.not_eq_false'] at hk1
      refine l_q rfl (q_loadCAgg (c.c) rfl Try.isAgg24 Try.sizeOf24 rfl (fun _ h => h.at 0 rfl) (kv_whole _) (Kv.c_len _)) rfl rfl ?_
      refine l_e rfl ?_
      refine e_call_00 (rkcheck_spec c) rfl rfl rfl Try.call14 rfl (fun _ _ => trivial) ?_
      intro _ _
      refine l_q rfl (q_not rfl rfl) rfl rfl ?_
      refine l_q rfl (q_pick_f rfl rfl rfl) rfl rfl ?_
      refine l_nil ?_
      refine k_then ?_
      refine Pre.caseB 19 rfl (fun hk2 => ?_) (fun hk2 => ?_)
      · try simp only [Bool.not_eq_true', Bool.not_eq_false'] at hk2
        refine c_true rfl ?_
        refine c_seq ?_
        refine c_region _ rfl ?_
        refine l_e rfl ?_
        refine e_call_00 (awake_spec) rfl rfl rfl Try.call10 rfl (fun _ _ => trivial) ?_
        intro _ _
        refine l_q rfl (q_assign rfl rfl) rfl rfl ?_
        refine l_nil ?_
        refine k_then ?_
        refine c_ret ?_
        refine k_then_ret ?_
        refine r_one rfl rfl ?_
        exact fun _ h => ⟨(), rfl, trivial, h.nothing⟩
      · try simp only [Bool.not_eq_true', Bool.not_eq_false'] at hk2
        refine c_false rfl ?_
        refine c_skip ?_
        refine k_then ?_
        refine c_seq ?_
        refine c_seq ?_
        refine c_region _ rfl ?_
        refine l_q rfl (q_loadCAgg (a.c) rfl Try.isAgg24 Try.sizeOf24 rfl (fun _ h => h.at 2 rfl) (kv_whole _) (Kv.c_len _)) rfl rfl ?_
        refine l_q rfl (q_loadCAgg (b.c) rfl Try.isAgg24 Try.sizeOf24 rfl (fun _ h => h.at 1 rfl) (kv_whole _) (Kv.c_len _)) rfl rfl ?_
        have htr := @lex_trans (tx a) (tx b) (tx c)
        have hself : kcmp a a = 0 := lex_self _
        have heq : (kcmp a b = 0) ↔ a = b := ⟨fun h => key_ext hk0 hk1 (lex_zero h), fun h => by rw [h]; exact lex_self _⟩
        refine l_e rfl ?_
        refine e_call_00 (cmp_spec a b) rfl rfl rfl Try.call24 rfl (fun _ _ => trivial) ?_
        intro _ _
        refine l_q rfl (q_leq rfl rfl rfl) rfl rfl ?_
        refine l_q rfl (q_move rfl rfl) rfl rfl ?_
        refine Pre.caseB 25 rfl (fun h1 => ?_) (fun h1 => ?_)
        · try simp only [decide_eq_true_eq, decide_eq_false_iff_not, Bool.not_eq_true', Bool.not_eq_false'] at h1
          refine l_q rfl (q_loadCAgg (b.c) rfl Try.isAgg24 Try.sizeOf24 rfl (fun _ h => h.at 1 rfl) (kv_whole _) (Kv.c_len _)) rfl rfl ?_
          refine l_q rfl (q_loadCAgg (c.c) rfl Try.isAgg24 Try.sizeOf24 rfl (fun _ h => h.at 0 rfl) (kv_whole _) (Kv.c_len _)) rfl rfl ?_
          refine l_e rfl ?_
          refine e_call_00 (cmp_spec b c) rfl rfl rfl Try.call24 rfl (fun _ _ => trivial) ?_
          intro _ _
          refine l_q rfl (q_leq rfl rfl rfl) rfl rfl ?_
          refine l_q rfl (q_pick_t rfl rfl rfl) rfl rfl ?_
          refine l_q rfl (q_move rfl rfl) rfl rfl ?_
          refine Pre.caseB 31 rfl (fun h2 => ?_) (fun h2 => ?_)
          · try simp only [decide_eq_true_eq, decide_eq_false_iff_not, Bool.not_eq_true', Bool.not_eq_false'] at h2
            refine l_q rfl (q_loadCAgg (a.c) rfl Try.isAgg24 Try.sizeOf24 rfl (fun _ h => h.at 2 rfl) (kv_whole _) (Kv.c_len _)) rfl rfl ?_
            refine l_q rfl (q_loadCAgg (c.c) rfl Try.isAgg24 Try.sizeOf24 rfl (fun _ h => h.at 0 rfl) (kv_whole _) (Kv.c_len _)) rfl rfl ?_
            refine l_e rfl ?_
            refine e_call_00 (cmp_spec a c) rfl rfl rfl Try.call24 rfl (fun _ _ => trivial) ?_
            intro _ _
            refine l_q rfl (q_gtr rfl rfl rfl) rfl rfl ?_
            refine l_q rfl (q_pick_t rfl rfl rfl) rfl rfl ?_
            refine l_nil ?_
            refine k_then ?_
            refine Pre.setB (t := 36) (c := false) rfl (decide_eq_false (by have := htr h1 h2; unfold kcmp; omega)) ?_
            refine c_false rfl ?_
            refine c_skip ?_
            refine k_then ?_
            refine c_seq ?_
            refine c_draw [(0, some true), (1, some true), (2, some false), (3, some true), (4, some true), (5, some true), (6, some true), (9, some true), (10, some true), (11, some true), (7, some false), (8, some true), (12, some true), (13, some true), (14, some true), (15, some false), (16, some true), (17, some true)] [] [(_, some true), (_, some true), (_, some false), (_, some true), (_, some true), (_, some true), (_, some true), (_, some true), (_, some true), (_, some true), (_, some false), (_, some true), (_, some true), (_, some true), (_, some true), (_, some false), (_, some true), (_, some true)] (fun w2 => (cellsE ba 24 a.c).at w2 ∧ (cellsE bb 24 b.c).at w2) (blind_then blind_body) rfl (by kernel_rfl) (by kernel_rfl) rfl rfl rfl (by kernel_rfl) St.drawn (fun _ h => ⟨h.at 2 rfl, h.at 1 rfl⟩) ?_
            refine d_q rfl (q_loadCAgg (a.c) rfl Try.isAgg24 Try.sizeOf24 rfl (fun _ h => h.1) (kv_whole _) (Kv.c_len _)) rfl rfl ?_
            refine d_q rfl (q_loadCAgg (a.c) rfl Try.isAgg24 Try.sizeOf24 rfl (fun _ h => h.1) (kv_whole _) (Kv.c_len _)) rfl rfl ?_
            refine d_e rfl ?_
            refine e_call_00 (cmp_spec a a) rfl rfl rfl Try.call24 rfl (fun _ _ => trivial) ?_
            intro _ _
            refine d_held (fun _ h => ⟨h.at 2 rfl, h.at 1 rfl⟩) ?_
            refine d_q rfl (q_eql rfl rfl rfl) rfl rfl ?_
            refine d_q rfl (q_move rfl rfl) rfl rfl ?_
            refine Pre.setB (t := 41) (c := true) rfl (by first | exact decide_eq_true hself | (rw [beq_iff_eq, decide_eq_decide]; exact heq)) ?_
            refine d_q rfl (q_loadCAgg (a.c) rfl Try.isAgg24 Try.sizeOf24 rfl (fun _ h => h.1) (kv_whole _) (Kv.c_len _)) rfl rfl ?_
            refine d_q rfl (q_loadCAgg (b.c) rfl Try.isAgg24 Try.sizeOf24 rfl (fun _ h => h.2) (kv_whole _) (Kv.c_len _)) rfl rfl ?_
            refine d_q rfl (q_loadCAgg (a.c) rfl Try.isAgg24 Try.sizeOf24 rfl (fun _ h => h.1) (kv_whole _) (Kv.c_len _)) rfl rfl ?_
            refine d_q rfl (q_loadCAgg (b.c) rfl Try.isAgg24 Try.sizeOf24 rfl (fun _ h => h.2) (kv_whole _) (Kv.c_len _)) rfl rfl ?_
            refine d_q rfl (q_eqK (a) (b) rfl rfl rfl) rfl rfl ?_
            refine d_e rfl ?_
            refine e_call_00 (cmp_spec a b) rfl rfl rfl Try.call24 rfl (fun _ _ => trivial) ?_
            intro _ _
            refine d_held (fun _ h => ⟨h.at 2 rfl, h.at 1 rfl⟩) ?_
            refine d_q rfl (q_eql rfl rfl rfl) rfl rfl ?_
            refine d_q rfl (q_eqb rfl Try.underlying4 rfl rfl) rfl rfl ?_
            refine d_q rfl (q_pick_t rfl rfl rfl) rfl rfl ?_
            refine d_q rfl (q_move rfl rfl) rfl rfl ?_
            refine Pre.setB (t := 51) (c := true) rfl (by first | exact decide_eq_true hself | (rw [beq_iff_eq, decide_eq_decide]; exact heq)) ?_
            refine d_e rfl ?_
            refine e_call_00 (awake_spec) rfl rfl rfl Try.call10 rfl (fun _ _ => trivial) ?_
            intro _ _
            refine d_held (fun _ h => ⟨h.at 2 rfl, h.at 1 rfl⟩) ?_
            refine d_q rfl (q_pick_t rfl rfl rfl) rfl rfl ?_
            refine d_q rfl (q_assign rfl rfl) rfl rfl ?_
            refine d_nil ?_
            refine k_then ?_
            refine c_ret ?_
            refine r_one rfl rfl ?_
            exact fun _ h => ⟨(), rfl, trivial, h.nothing⟩
          · try simp only [decide_eq_true_eq, decide_eq_false_iff_not, Bool.not_eq_true', Bool.not_eq_false'] at h2
            refine l_not rfl rfl rfl ?_
            refine l_not rfl rfl rfl ?_
            refine l_not rfl rfl rfl ?_
            refine l_not rfl rfl rfl ?_
            refine l_q rfl (q_pick_f rfl rfl rfl) rfl rfl ?_
            refine l_nil ?_
            refine k_then ?_
            refine c_false rfl ?_
            refine c_skip ?_
            refine k_then ?_
            refine c_seq ?_
            refine c_draw [(0, some true), (1, some true), (2, some false), (3, some true), (4, some true), (5, some true), (6, some true), (9, some true), (10, some true), (11, some true), (7, some false), (8, some true), (12, some true), (13, some true), (14, some true), (15, some false), (16, some true), (17, some true)] [] [(_, some true), (_, some true), (_, some false), (_, some true), (_, some true), (_, some true), (_, some true), (_, some true), (_, some true), (_, some true), (_, some false), (_, some true), (_, some true), (_, some true), (_, some true), (_, some false), (_, some true), (_, some true)] (fun w2 => (cellsE ba 24 a.c).at w2 ∧ (cellsE bb 24 b.c).at w2) (blind_then blind_body) rfl (by kernel_rfl) (by kernel_rfl) rfl rfl rfl (by kernel_rfl) St.drawn (fun _ h => ⟨h.at 2 rfl, h.at 1 rfl⟩) ?_
            refine d_q rfl (q_loadCAgg (a.c) rfl Try.isAgg24 Try.sizeOf24 rfl (fun _ h => h.1) (kv_whole _) (Kv.c_len _)) rfl rfl ?_
            refine d_q rfl (q_loadCAgg (a.c) rfl Try.isAgg24 Try.sizeOf24 rfl (fun _ h => h.1) (kv_whole _) (Kv.c_len _)) rfl rfl ?_
            refine d_e rfl ?_
            refine e_call_00 (cmp_spec a a) rfl rfl rfl Try.call24 rfl (fun _ _ => trivial) ?_
            intro _ _
            refine d_held (fun _ h => ⟨h.at 2 rfl, h.at 1 rfl⟩) ?_
            refine d_q rfl (q_eql rfl rfl rfl) rfl rfl ?_
            refine d_q rfl (q_move rfl rfl) rfl rfl ?_
            refine Pre.setB (t := 41) (c := true) rfl (by first | exact decide_eq_true hself | (rw [beq_iff_eq, decide_eq_decide]; exact heq)) ?_
            refine d_q rfl (q_loadCAgg (a.c) rfl Try.isAgg24 Try.sizeOf24 rfl (fun _ h => h.1) (kv_whole _) (Kv.c_len _)) rfl rfl ?_
            refine d_q rfl (q_loadCAgg (b.c) rfl Try.isAgg24 Try.sizeOf24 rfl (fun _ h => h.2) (kv_whole _) (Kv.c_len _)) rfl rfl ?_
            refine d_q rfl (q_loadCAgg (a.c) rfl Try.isAgg24 Try.sizeOf24 rfl (fun _ h => h.1) (kv_whole _) (Kv.c_len _)) rfl rfl ?_
            refine d_q rfl (q_loadCAgg (b.c) rfl Try.isAgg24 Try.sizeOf24 rfl (fun _ h => h.2) (kv_whole _) (Kv.c_len _)) rfl rfl ?_
            refine d_q rfl (q_eqK (a) (b) rfl rfl rfl) rfl rfl ?_
            refine d_e rfl ?_
            refine e_call_00 (cmp_spec a b) rfl rfl rfl Try.call24 rfl (fun _ _ => trivial) ?_
            intro _ _
            refine d_held (fun _ h => ⟨h.at 2 rfl, h.at 1 rfl⟩) ?_
            refine d_q rfl (q_eql rfl rfl rfl) rfl rfl ?_
            refine d_q rfl (q_eqb rfl Try.underlying4 rfl rfl) rfl rfl ?_
            refine d_q rfl (q_pick_t rfl rfl rfl) rfl rfl ?_
            refine d_q rfl (q_move rfl rfl) rfl rfl ?_
            refine Pre.setB (t := 51) (c := true) rfl (by first | exact decide_eq_true hself | (rw [beq_iff_eq, decide_eq_decide]; exact heq)) ?_
            refine d_e rfl ?_
            refine e_call_00 (awake_spec) rfl rfl rfl Try.call10 rfl (fun _ _ => trivial) ?_
            intro _ _
            refine d_held (fun _ h => ⟨h.at 2 rfl, h.at 1 rfl⟩) ?_
            refine d_q rfl (q_pick_t rfl rfl rfl) rfl rfl ?_
            refine d_q rfl (q_assign rfl rfl) rfl rfl ?_
            refine d_nil ?_
            refine k_then ?_
            refine c_ret ?_
            refine r_one rfl rfl ?_
            exact fun _ h => ⟨(), rfl, trivial, h.nothing⟩
        · try simp only [decide_eq_true_eq, decide_eq_false_iff_not, Bool.not_eq_true', Bool.not_eq_false'] at h1
          refine l_not rfl rfl rfl ?_
          refine l_not rfl rfl rfl ?_
          refine l_not rfl rfl rfl ?_
          refine l_not rfl rfl rfl ?_
          refine l_q rfl (q_pick_f rfl rfl rfl) rfl rfl ?_
          refine l_q rfl (q_move rfl rfl) rfl rfl ?_
          refine l_not rfl rfl rfl ?_
          refine l_not rfl rfl rfl ?_
          refine l_not rfl rfl rfl ?_
          refine l_not rfl rfl rfl ?_
          refine l_q rfl (q_pick_f rfl rfl rfl) rfl rfl ?_
          refine l_nil ?_
          refine k_then ?_
          refine c_false rfl ?_
          refine c_skip ?_
          refine k_then ?_
          refine c_seq ?_
          refine c_draw [(0, some true), (1, some true), (2, some false), (3, some true), (4, some true), (5, some true), (6, some true), (9, some true), (10, some true), (11, some true), (7, some false), (8, some true), (12, some true), (13, some true), (14, some true), (15, some false), (16, some true), (17, some true)] [] [(_, some true), (_, some true), (_, some false), (_, some true), (_, some true), (_, some true), (_, some true), (_, some true), (_, some true), (_, some true), (_, some false), (_, some true), (_, some true), (_, some true), (_, some true), (_, some false), (_, some true), (_, some true)] (fun w2 => (cellsE ba 24 a.c).at w2 ∧ (cellsE bb 24 b.c).at w2) (blind_then blind_body) rfl (by kernel_rfl) (by kernel_rfl) rfl rfl rfl (by kernel_rfl) St.drawn (fun _ h => ⟨h.at 2 rfl, h.at 1 rfl⟩) ?_
          refine d_q rfl (q_loadCAgg (a.c) rfl Try.isAgg24 Try.sizeOf24 rfl (fun _ h => h.1) (kv_whole _) (Kv.c_len _)) rfl rfl ?_
          refine d_q rfl (q_loadCAgg (a.c) rfl Try.isAgg24 Try.sizeOf24 rfl (fun _ h => h.1) (kv_whole _) (Kv.c_len _)) rfl rfl ?_
          refine d_e rfl ?_
          refine e_call_00 (cmp_spec a a) rfl rfl rfl Try.call24 rfl (fun _ _ => trivial) ?_
          intro _ _
          refine d_held (fun _ h => ⟨h.at 2 rfl, h.at 1 rfl⟩) ?_
          refine d_q rfl (q_eql rfl rfl rfl) rfl rfl ?_
          refine d_q rfl (q_move rfl rfl) rfl rfl ?_
          refine Pre.setB (t := 41) (c := true) rfl (by first | exact decide_eq_true hself | (rw [beq_iff_eq, decide_eq_decide]; exact heq)) ?_
          refine d_q rfl (q_loadCAgg (a.c) rfl Try.isAgg24 Try.sizeOf24 rfl (fun _ h => h.1) (kv_whole _) (Kv.c_len _)) rfl rfl ?_
          refine d_q rfl (q_loadCAgg (b.c) rfl Try.isAgg24 Try.sizeOf24 rfl (fun _ h => h.2) (kv_whole _) (Kv.c_len _)) rfl rfl ?_
          refine d_q rfl (q_loadCAgg (a.c) rfl Try.isAgg24 Try.sizeOf24 rfl (fun _ h => h.1) (kv_whole _) (Kv.c_len _)) rfl rfl ?_
          refine d_q rfl (q_loadCAgg (b.c) rfl Try.isAgg24 Try.sizeOf24 rfl (fun _ h => h.2) (kv_whole _) (Kv.c_len _)) rfl rfl ?_
          refine d_q rfl (q_eqK (a) (b) rfl rfl rfl) rfl rfl ?_
          refine d_e rfl ?_
          refine e_call_00 (cmp_spec a b) rfl rfl rfl Try.call24 rfl (fun _ _ => trivial) ?_
          intro _ _
          refine d_held (fun _ h => ⟨h.at 2 rfl, h.at 1 rfl⟩) ?_
          refine d_q rfl (q_eql rfl rfl rfl) rfl rfl ?_
          refine d_q rfl (q_eqb rfl Try.underlying4 rfl rfl) rfl rfl ?_
          refine d_q rfl (q_pick_t rfl rfl rfl) rfl rfl ?_
          refine d_q rfl (q_move rfl rfl) rfl rfl ?_
          refine Pre.setB (t := 51) (c := true) rfl (by first | exact decide_eq_true hself | (rw [beq_iff_eq, decide_eq_decide]; exact heq)) ?_
          refine d_e rfl ?_
          refine e_call_00 (awake_spec) rfl rfl rfl Try.call10 rfl (fun _ _ => trivial) ?_
          intro _ _
          refine d_held (fun _ h => ⟨h.at 2 rfl, h.at 1 rfl⟩) ?_
          refine d_q rfl (q_pick_t rfl rfl rfl) rfl rfl ?_
          refine d_q rfl (q_assign rfl rfl) rfl rfl ?_
          refine d_nil ?_
          refine k_then ?_
          refine c_ret ?_
          refine r_one rfl rfl ?_
          exact fun _ h => ⟨(), rfl, trivial, h.nothing⟩
def kinds_0 : List Sc := Kv.ks 8
def kinds_1 : List Sc := Kv.ks 8
def kinds_2 : List Sc := Kv.ks 8
theorem kv_mk {m : Nat} {x : List Value} (h : Kinds (Kv.ks m) x) : ∃ k : Kv m, x = k.c := by
  obtain ⟨h1, h2⟩ := h
  cases x with
  | nil => simp [Kv.ks] at h1
  | cons u x =>
    obtain ⟨z, rfl, hz⟩ := h2 0 (.i .i64) u rfl rfl
    have hl : x.length = m := by simp [Kv.ks] at h1; omega
    have hall : ∀ v ∈ x, ∃ y, v = .int .u8 y ∧ (Lit.int .u8 y).wf = true := fun v hv => by
      obtain ⟨i, hi, rfl⟩ := List.mem_iff_getElem.1 hv
      have hi2 : i < m := by omega
      exact h2 (i + 1) (.i .u8) x[i] (by simp [Kv.ks, hi2]) (by simp [hi])
    clear h1 h2
    have key : ∀ x : List Value, (∀ v ∈ x, ∃ y, v = .int .u8 y ∧ (Lit.int .u8 y).wf = true) → ∃ b : List Int, x = b.map (.int .u8) ∧ ∀ y ∈ b, (Lit.int .u8 y).wf = true := by
      intro x
      induction x with
      | nil => intro _; exact ⟨[], rfl, by simp⟩
      | cons v x ih =>
        intro h
        obtain ⟨y, rfl, hy⟩ := h v (List.mem_cons_self ..)
        obtain ⟨b, rfl, hb⟩ := ih (fun u hu => h u (List.mem_cons_of_mem _ hu))
        exact ⟨y :: b, rfl, fun q hq => by rcases List.mem_cons.1 hq with rfl | hq; exact hy; exact hb q hq⟩
    obtain ⟨b, rfl, hb⟩ := key x hall
    exact ⟨⟨z, b, by simpa using hl, hz, hb⟩, rfl⟩

theorem keyThree_walk (w : World) (x0 : Array Value) (kk0 : Kinds kinds_0 x0.toList) (x1 : Array Value) (kk1 : Kinds kinds_1 x1.toList) (x2 : Array Value) (kk2 : Kinds kinds_2 x2.toList) :
    Calls Try.prog 7 #[.agg x0, .agg x1, .agg x2] w fun e w' => e = .returned (.bool true) ∧ Below w.heap.size w w' := by
  obtain ⟨a, h0⟩ := kv_mk kk0
  obtain ⟨b, h1⟩ := kv_mk kk1
  obtain ⟨c, h2⟩ := kv_mk kk2
  have h := con_walk (three_spec a b c) (w := w) trivial
  have e0 : x0 = a.c.toArray := by rw [← h0]
  have e1 : x1 = b.c.toArray := by rw [← h1]
  have e2 : x2 = c.c.toArray := by rw [← h2]
  subst e0 e1 e2
  exact h
end Go.Proofs.Ytaojcncmbbgmcaa
