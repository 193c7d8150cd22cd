/- MsgOver, walked -/
import Derived.Test.YtmnokoepimhelaaN
set_option linter.unusedVariables false
set_option linter.unusedSimpArgs false
namespace Go.Proofs.Ytmnokoepimhelaa
open Go.Sep Go.RowKit

set_option maxRecDepth 100000 in
set_option maxHeartbeats 1000000 in
theorem over_spec (a b : Int) (ot : Bool) : Con Try.prog 6 [.int .i64 a, .int .i64 b, .bool ot] (fun _ => True) [] (fun _ : Unit => .bool true) (fun _ => True) (fun _ => []) := by
  intro w hE hH
  refine enter (n := 63) (vs := [.int .i64 a, .int .i64 b, .bool ot]) (St w [] []) Try.func6 rfl rfl rfl (St.init hH) ?_
  refine c_seq ?_
  refine c_region _ rfl ?_
  refine l_q rfl (q_assign rfl rfl) rfl rfl ?_
  refine l_nil ?_
  refine k_then ?_
  refine c_seq ?_
  refine c_region _ rfl ?_
  refine l_q rfl (q_move rfl rfl) rfl rfl ?_
  refine l_e rfl ?_
  refine e_call_00 (msg_spec _ _) rfl rfl rfl Try.call19 rfl (fun _ _ => trivial) ?_
  intro x hx
  refine l_q rfl (q_move rfl rfl) rfl rfl ?_
  refine l_e rfl ?_
  refine e_call_00 (msg_spec _ _) rfl rfl rfl Try.call19 rfl (fun _ _ => trivial) ?_
  intro y hy
  refine l_e rfl ?_
  refine e_alloc rfl rfl rfl Try.zeroValue30 ?_
  intro bkx
  refine cells_eq (show _ = ms0.c from rfl) ?_
  refine l_e rfl ?_
  refine e_alloc rfl rfl rfl Try.zeroValue30 ?_
  intro bky
  refine cells_eq (show _ = ms0.c from rfl) ?_
  refine pull1 ?_
  refine l_e rfl ?_
  refine e_storeAgg rfl rfl Try.sizeOf30 rfl rfl (Ms.c_len _) (Ms.one _) (by simp only [Kv.c_len, Ms.c_len]; decide) ?_
  refine cells_eq (show _ = x.c from Sep.splice_all (by simp only [Kv.c_len, Ms.c_len])) ?_
  refine pull1 ?_
  refine l_e rfl ?_
  refine e_storeAgg rfl rfl Try.sizeOf30 rfl rfl (Ms.c_len _) (Ms.one _) (by simp only [Kv.c_len, Ms.c_len]; decide) ?_
  refine cells_eq (show _ = y.c from Sep.splice_all (by simp only [Kv.c_len, Ms.c_len])) ?_
  refine l_nil ?_
  refine k_then ?_
  refine c_seq ?_
  refine c_seq ?_
  refine c_region _ rfl ?_
  refine l_q rfl (q_move rfl rfl) rfl rfl ?_
  refine l_q rfl (q_not rfl rfl) rfl rfl ?_
  refine l_nil ?_
  refine k_then ?_
  refine Pre.caseB 16 rfl (fun h1 => ?_) (fun h1 => ?_)
  · try simp only [Bool.not_eq_true', Bool.not_eq_false'] at h1
    refine c_true rfl ?_
    refine c_region _ rfl ?_
    refine l_q rfl (q_fieldAddr rfl Try.underlying30 rfl Try.sizeOf25 rfl rfl) rfl rfl ?_
    refine l_q rfl (q_loadCAgg (x.key.c) rfl Try.isAgg25 Try.sizeOf25 rfl (fun _ h => h.at 1 rfl) (Ms.key_part _) (Kv.c_len _)) rfl rfl ?_
    refine l_q rfl (q_fieldAddr rfl Try.underlying30 rfl Try.sizeOf25 rfl rfl) rfl rfl ?_
    refine l_e rfl ?_
    refine e_storeAgg rfl rfl Try.sizeOf25 rfl rfl (Kv.c_len _) (Kv.one _) (by rw [Kv.c_len, Ms.c_len]; decide) ?_
    refine cells_eq (Ms.set_key _ _) ?_
    refine l_nil ?_
    refine k_then ?_
    refine c_seq ?_
    refine c_region _ rfl ?_
    refine l_q rfl (q_loadCAgg (x.c) rfl Try.isAgg30 Try.sizeOf30 rfl (fun _ h => h.at 1 rfl) (ms_whole _) (Ms.c_len _)) rfl rfl ?_
    refine l_q rfl (q_loadCAgg ((y.setKey x.key).c) rfl Try.isAgg30 Try.sizeOf30 rfl (fun _ h => h.at 0 rfl) (ms_whole _) (Ms.c_len _)) rfl rfl ?_
    refine l_e rfl ?_
    refine e_call_00 (mcompose_spec _ _) rfl rfl rfl Try.call17 rfl (fun _ _ => trivial) ?_
    intro _ _
    refine l_e rfl ?_
    refine e_alloc rfl rfl rfl Try.zeroValue30 ?_
    intro bkc
    refine cells_eq (show _ = ms0.c from rfl) ?_
    refine l_e rfl ?_
    refine e_storeAgg rfl rfl Try.sizeOf30 rfl rfl (Ms.c_len _) (Ms.one _) (by simp only [Kv.c_len, Ms.c_len]; decide) ?_
    refine cells_eq (show _ = (mco x (y.setKey x.key)).c from Sep.splice_all (by simp only [Kv.c_len, Ms.c_len])) ?_
    refine l_nil ?_
    refine k_then ?_
    refine c_seq ?_
    refine c_seq ?_
    refine c_region _ rfl ?_
    refine l_q rfl (q_fieldAddr rfl Try.underlying30 rfl Try.sizeOf3 rfl rfl) rfl rfl ?_
    refine l_q rfl (q_loadC rfl Try.isAgg3 rfl (fun _ h => h.at 1 rfl) rfl) rfl rfl ?_
    refine l_q rfl (q_neq rfl rfl rfl) rfl rfl ?_
    refine l_q rfl (q_move rfl rfl) rfl rfl ?_
    refine Pre.caseB 26 rfl (fun hk3 => ?_) (fun hk3 => ?_)
    · try simp only [decide_eq_true_eq, decide_eq_false_iff_not, Bool.not_eq_true', Bool.not_eq_false'] at hk3
      refine l_not rfl rfl rfl ?_
      refine l_not rfl rfl rfl ?_
      refine l_not rfl rfl rfl ?_
      refine l_not rfl rfl rfl ?_
      refine l_not rfl rfl rfl ?_
      refine l_q rfl (q_pick_t rfl rfl rfl) rfl rfl ?_
      refine l_nil ?_
      refine k_then ?_
      refine c_true rfl ?_
      refine c_seq ?_
      refine c_region _ rfl ?_
      refine l_q rfl (q_loadCAgg ((mco x (y.setKey x.key)).c) rfl Try.isAgg30 Try.sizeOf30 rfl (fun _ h => h.at 0 rfl) (ms_whole _) (Ms.c_len _)) rfl rfl ?_
      refine l_q rfl (q_loadCAgg ((y.setKey x.key).c) rfl Try.isAgg30 Try.sizeOf30 rfl (fun _ h => h.at 1 rfl) (ms_whole _) (Ms.c_len _)) rfl rfl ?_
      refine l_q rfl (q_eqM ((mco x (y.setKey x.key))) ((y.setKey x.key)) rfl rfl rfl) rfl rfl ?_
      refine l_q rfl (q_move rfl rfl) rfl rfl ?_
      refine Pre.setB (t := 36) (c := true) rfl (by first | exact decide_eq_true (co_keep hk3) | exact decide_eq_true (co_other hkk)) ?_
      refine l_e rfl ?_
      refine e_call_00 (awake_spec) rfl rfl rfl Try.call14 rfl (fun _ _ => trivial) ?_
      intro _ _
      refine l_q rfl (q_pick_t rfl rfl rfl) rfl rfl ?_
      refine l_q rfl (q_assign rfl rfl) rfl rfl ?_
      refine l_nil ?_
      refine k_then ?_
      refine c_ret ?_
      refine k_then_ret ?_
      refine r_one rfl rfl ?_
      exact fun _ h => ⟨(), rfl, trivial, h.nothing⟩
    · try simp only [decide_eq_true_eq, decide_eq_false_iff_not, Bool.not_eq_true', Bool.not_eq_false'] at hk3
      refine l_q rfl (q_fieldAddr rfl Try.underlying30 rfl Try.sizeOf25 rfl rfl) rfl rfl ?_
      refine l_q rfl (q_loadCAgg (x.key.c) rfl Try.isAgg25 Try.sizeOf25 rfl (fun _ h => h.at 2 rfl) (Ms.key_part _) (Kv.c_len _)) rfl rfl ?_
      refine l_q rfl (q_fieldAddr rfl Try.underlying30 rfl Try.sizeOf25 rfl rfl) rfl rfl ?_
      refine l_q rfl (q_loadCAgg ((y.setKey x.key).key.c) rfl Try.isAgg25 Try.sizeOf25 rfl (fun _ h => h.at 1 rfl) (Ms.key_part _) (Kv.c_len _)) rfl rfl ?_
      refine l_q rfl (q_neK (x.key) ((y.setKey x.key).key) rfl rfl rfl) rfl rfl ?_
      refine l_q rfl (q_pick_f rfl rfl rfl) rfl rfl ?_
      refine l_nil ?_
      refine k_then ?_
      refine Pre.caseB 32 rfl (fun hkk => ?_) (fun hkk => ?_)
      · try simp only [decide_eq_true_eq, decide_eq_false_iff_not, Bool.not_eq_true', Bool.not_eq_false'] at hkk
        refine c_true rfl ?_
        refine c_seq ?_
        refine c_region _ rfl ?_
        refine l_q rfl (q_loadCAgg ((mco x (y.setKey x.key)).c) rfl Try.isAgg30 Try.sizeOf30 rfl (fun _ h => h.at 0 rfl) (ms_whole _) (Ms.c_len _)) rfl rfl ?_
        refine l_q rfl (q_loadCAgg ((y.setKey x.key).c) rfl Try.isAgg30 Try.sizeOf30 rfl (fun _ h => h.at 1 rfl) (ms_whole _) (Ms.c_len _)) rfl rfl ?_
        refine l_q rfl (q_eqM ((mco x (y.setKey x.key))) ((y.setKey x.key)) rfl rfl rfl) rfl rfl ?_
        refine l_q rfl (q_move rfl rfl) rfl rfl ?_
        refine Pre.setB (t := 36) (c := true) rfl (by first | exact decide_eq_true (co_keep hk3) | exact decide_eq_true (co_other hkk)) ?_
        refine l_e rfl ?_
        refine e_call_00 (awake_spec) rfl rfl rfl Try.call14 rfl (fun _ _ => trivial) ?_
        intro _ _
        refine l_q rfl (q_pick_t rfl rfl rfl) rfl rfl ?_
        refine l_q rfl (q_assign rfl rfl) rfl rfl ?_
        refine l_nil ?_
        refine k_then ?_
        refine c_ret ?_
        refine k_then_ret ?_
        refine r_one rfl rfl ?_
        exact fun _ h => ⟨(), rfl, trivial, h.nothing⟩
      · try simp only [decide_eq_true_eq, decide_eq_false_iff_not, Bool.not_eq_true', Bool.not_eq_false'] at hkk
        refine c_false rfl ?_
        refine c_skip ?_
        refine k_then ?_
        refine c_seq ?_
        refine c_region _ rfl ?_
        refine l_q rfl (q_assign rfl rfl) rfl rfl ?_
        refine l_nil ?_
        refine k_then ?_
        refine c_seq ?_
        refine c_seq ?_
        refine c_region _ rfl ?_
        refine l_q rfl (q_fieldAddr rfl Try.underlying30 rfl Try.sizeOf3 rfl rfl) rfl rfl ?_
        refine l_q rfl (q_loadC rfl Try.isAgg3 rfl (fun _ h => h.at 2 rfl) rfl) rfl rfl ?_
        refine l_q rfl (q_eql rfl rfl rfl) rfl rfl ?_
        refine l_nil ?_
        refine k_then ?_
        refine Pre.caseB 41 rfl (fun hx3 => ?_) (fun hx3 => ?_)
        · try simp only [decide_eq_true_eq, decide_eq_false_iff_not, Bool.not_eq_true', Bool.not_eq_false'] at hx3
          refine c_true rfl ?_
          refine c_region _ rfl ?_
          refine l_q rfl (q_assign rfl rfl) rfl rfl ?_
          refine l_nil ?_
          refine k_then ?_
          refine c_seq ?_
          refine c_region _ rfl ?_
          refine l_q rfl (q_fieldAddr rfl Try.underlying30 rfl Try.sizeOf3 rfl rfl) rfl rfl ?_
          refine l_q rfl (q_loadC rfl Try.isAgg3 rfl (fun _ h => h.at 0 rfl) rfl) rfl rfl ?_
          refine l_q rfl (q_move rfl rfl) rfl rfl ?_
          refine l_q rfl (q_eql rfl rfl rfl) rfl rfl ?_
          refine l_q rfl (q_move rfl rfl) rfl rfl ?_
          refine Pre.setB (t := 46) (c := true) rfl (by rw [co_kind hx.1 hk3 hkk]; simp [hx3]) ?_
          refine l_q rfl (q_fieldAddr rfl Try.underlying30 rfl Try.sizeOf22 rfl rfl) rfl rfl ?_
          refine l_q rfl (q_loadC rfl Try.isAgg22 rfl (fun _ h => h.at 0 rfl) rfl) rfl rfl ?_
          refine l_q rfl (q_fieldAddr rfl Try.underlying30 rfl Try.sizeOf22 rfl rfl) rfl rfl ?_
          refine l_q rfl (q_loadC rfl Try.isAgg22 rfl (fun _ h => h.at 1 rfl) rfl) rfl rfl ?_
          refine l_q rfl (q_eql rfl rfl rfl) rfl rfl ?_
          refine l_q rfl (q_pick_t rfl rfl rfl) rfl rfl ?_
          refine l_q rfl (q_move rfl rfl) rfl rfl ?_
          refine Pre.setB (t := 53) (c := true) rfl (decide_eq_true (co_seq _ _).1) ?_
          refine l_q rfl (q_fieldAddr rfl Try.underlying30 rfl Try.sizeOf25 rfl rfl) rfl rfl ?_
          refine l_q rfl (q_loadCAgg ((mco x (y.setKey x.key)).key.c) rfl Try.isAgg25 Try.sizeOf25 rfl (fun _ h => h.at 0 rfl) (Ms.key_part _) (Kv.c_len _)) rfl rfl ?_
          refine l_q rfl (q_fieldAddr rfl Try.underlying30 rfl Try.sizeOf25 rfl rfl) rfl rfl ?_
          refine l_q rfl (q_loadCAgg ((y.setKey x.key).key.c) rfl Try.isAgg25 Try.sizeOf25 rfl (fun _ h => h.at 1 rfl) (Ms.key_part _) (Kv.c_len _)) rfl rfl ?_
          refine l_q rfl (q_eqK ((mco x (y.setKey x.key)).key) ((y.setKey x.key).key) rfl rfl rfl) rfl rfl ?_
          refine l_q rfl (q_pick_t rfl rfl rfl) rfl rfl ?_
          refine l_q rfl (q_move rfl rfl) rfl rfl ?_
          refine Pre.setB (t := 60) (c := true) rfl (decide_eq_true (co_seq _ _).2) ?_
          refine l_e rfl ?_
          refine e_call_00 (awake_spec) rfl rfl rfl Try.call14 rfl (fun _ _ => trivial) ?_
          intro _ _
          refine l_q rfl (q_pick_t rfl rfl rfl) rfl rfl ?_
          refine l_q rfl (q_assign rfl rfl) rfl rfl ?_
          refine l_nil ?_
          refine k_then ?_
          refine c_ret ?_
          refine r_one rfl rfl ?_
          exact fun _ h => ⟨(), rfl, trivial, h.nothing⟩
        · try simp only [decide_eq_true_eq, decide_eq_false_iff_not, Bool.not_eq_true', Bool.not_eq_false'] at hx3
          refine c_false rfl ?_
          refine c_skip ?_
          refine k_then ?_
          refine c_seq ?_
          refine c_region _ rfl ?_
          refine l_q rfl (q_fieldAddr rfl Try.underlying30 rfl Try.sizeOf3 rfl rfl) rfl rfl ?_
          refine l_q rfl (q_loadC rfl Try.isAgg3 rfl (fun _ h => h.at 0 rfl) rfl) rfl rfl ?_
          refine l_q rfl (q_move rfl rfl) rfl rfl ?_
          refine l_q rfl (q_eql rfl rfl rfl) rfl rfl ?_
          refine l_q rfl (q_move rfl rfl) rfl rfl ?_
          refine Pre.setB (t := 46) (c := true) rfl (by rw [co_kind hx.1 hk3 hkk]; simp [hx3]) ?_
          refine l_q rfl (q_fieldAddr rfl Try.underlying30 rfl Try.sizeOf22 rfl rfl) rfl rfl ?_
          refine l_q rfl (q_loadC rfl Try.isAgg22 rfl (fun _ h => h.at 0 rfl) rfl) rfl rfl ?_
          refine l_q rfl (q_fieldAddr rfl Try.underlying30 rfl Try.sizeOf22 rfl rfl) rfl rfl ?_
          refine l_q rfl (q_loadC rfl Try.isAgg22 rfl (fun _ h => h.at 1 rfl) rfl) rfl rfl ?_
          refine l_q rfl (q_eql rfl rfl rfl) rfl rfl ?_
          refine l_q rfl (q_pick_t rfl rfl rfl) rfl rfl ?_
          refine l_q rfl (q_move rfl rfl) rfl rfl ?_
          refine Pre.setB (t := 53) (c := true) rfl (decide_eq_true (co_seq _ _).1) ?_
          refine l_q rfl (q_fieldAddr rfl Try.underlying30 rfl Try.sizeOf25 rfl rfl) rfl rfl ?_
          refine l_q rfl (q_loadCAgg ((mco x (y.setKey x.key)).key.c) rfl Try.isAgg25 Try.sizeOf25 rfl (fun _ h => h.at 0 rfl) (Ms.key_part _) (Kv.c_len _)) rfl rfl ?_
          refine l_q rfl (q_fieldAddr rfl Try.underlying30 rfl Try.sizeOf25 rfl rfl) rfl rfl ?_
          refine l_q rfl (q_loadCAgg ((y.setKey x.key).key.c) rfl Try.isAgg25 Try.sizeOf25 rfl (fun _ h => h.at 1 rfl) (Ms.key_part _) (Kv.c_len _)) rfl rfl ?_
          refine l_q rfl (q_eqK ((mco x (y.setKey x.key)).key) ((y.setKey x.key).key) rfl rfl rfl) rfl rfl ?_
          refine l_q rfl (q_pick_t rfl rfl rfl) rfl rfl ?_
          refine l_q rfl (q_move rfl rfl) rfl rfl ?_
          refine Pre.setB (t := 60) (c := true) rfl (decide_eq_true (co_seq _ _).2) ?_
          refine l_e rfl ?_
          refine e_call_00 (awake_spec) rfl rfl rfl Try.call14 rfl (fun _ _ => trivial) ?_
          intro _ _
          refine l_q rfl (q_pick_t rfl rfl rfl) rfl rfl ?_
          refine l_q rfl (q_assign rfl rfl) rfl rfl ?_
          refine l_nil ?_
          refine k_then ?_
          refine c_ret ?_
          refine r_one rfl rfl ?_
          exact fun _ h => ⟨(), rfl, trivial, h.nothing⟩
  · try simp only [Bool.not_eq_true', Bool.not_eq_false'] at h1
    refine c_false rfl ?_
    refine c_skip ?_
    refine k_then ?_
    refine c_seq ?_
    refine c_region _ rfl ?_
    refine l_q rfl (q_loadCAgg (x.c) rfl Try.isAgg30 Try.sizeOf30 rfl (fun _ h => h.at 1 rfl) (ms_whole _) (Ms.c_len _)) rfl rfl ?_
    refine l_q rfl (q_loadCAgg (y.c) rfl Try.isAgg30 Try.sizeOf30 rfl (fun _ h => h.at 0 rfl) (ms_whole _) (Ms.c_len _)) rfl rfl ?_
    refine l_e rfl ?_
    refine e_call_00 (mcompose_spec _ _) rfl rfl rfl Try.call17 rfl (fun _ _ => trivial) ?_
    intro _ _
    refine l_e rfl ?_
    refine e_alloc rfl rfl rfl Try.zeroValue30 ?_
    intro bkc
    refine cells_eq (show _ = ms0.c from rfl) ?_
    refine l_e rfl ?_
    refine e_storeAgg rfl rfl Try.sizeOf30 rfl rfl (Ms.c_len _) (Ms.one _) (by simp only [Kv.c_len, Ms.c_len]; decide) ?_
    refine cells_eq (show _ = (mco x y).c from Sep.splice_all (by simp only [Kv.c_len, Ms.c_len])) ?_
    refine l_nil ?_
    refine k_then ?_
    refine c_seq ?_
    refine c_seq ?_
    refine c_region _ rfl ?_
    refine l_q rfl (q_fieldAddr rfl Try.underlying30 rfl Try.sizeOf3 rfl rfl) rfl rfl ?_
    refine l_q rfl (q_loadC rfl Try.isAgg3 rfl (fun _ h => h.at 1 rfl) rfl) rfl rfl ?_
    refine l_q rfl (q_neq rfl rfl rfl) rfl rfl ?_
    refine l_q rfl (q_move rfl rfl) rfl rfl ?_
    refine Pre.caseB 26 rfl (fun hk3 => ?_) (fun hk3 => ?_)
    · try simp only [decide_eq_true_eq, decide_eq_false_iff_not, Bool.not_eq_true', Bool.not_eq_false'] at hk3
      refine l_not rfl rfl rfl ?_
      refine l_not rfl rfl rfl ?_
      refine l_not rfl rfl rfl ?_
      refine l_not rfl rfl rfl ?_
      refine l_not rfl rfl rfl ?_
      refine l_q rfl (q_pick_t rfl rfl rfl) rfl rfl ?_
      refine l_nil ?_
      refine k_then ?_
      refine c_true rfl ?_
      refine c_seq ?_
      refine c_region _ rfl ?_
      refine l_q rfl (q_loadCAgg ((mco x y).c) rfl Try.isAgg30 Try.sizeOf30 rfl (fun _ h => h.at 0 rfl) (ms_whole _) (Ms.c_len _)) rfl rfl ?_
      refine l_q rfl (q_loadCAgg (y.c) rfl Try.isAgg30 Try.sizeOf30 rfl (fun _ h => h.at 1 rfl) (ms_whole _) (Ms.c_len _)) rfl rfl ?_
      refine l_q rfl (q_eqM ((mco x y)) (y) rfl rfl rfl) rfl rfl ?_
      refine l_q rfl (q_move rfl rfl) rfl rfl ?_
      refine Pre.setB (t := 36) (c := true) rfl (by first | exact decide_eq_true (co_keep hk3) | exact decide_eq_true (co_other hkk)) ?_
      refine l_e rfl ?_
      refine e_call_00 (awake_spec) rfl rfl rfl Try.call14 rfl (fun _ _ => trivial) ?_
      intro _ _
      refine l_q rfl (q_pick_t rfl rfl rfl) rfl rfl ?_
      refine l_q rfl (q_assign rfl rfl) rfl rfl ?_
      refine l_nil ?_
      refine k_then ?_
      refine c_ret ?_
      refine k_then_ret ?_
      refine r_one rfl rfl ?_
      exact fun _ h => ⟨(), rfl, trivial, h.nothing⟩
    · try simp only [decide_eq_true_eq, decide_eq_false_iff_not, Bool.not_eq_true', Bool.not_eq_false'] at hk3
      refine l_q rfl (q_fieldAddr rfl Try.underlying30 rfl Try.sizeOf25 rfl rfl) rfl rfl ?_
      refine l_q rfl (q_loadCAgg (x.key.c) rfl Try.isAgg25 Try.sizeOf25 rfl (fun _ h => h.at 2 rfl) (Ms.key_part _) (Kv.c_len _)) rfl rfl ?_
      refine l_q rfl (q_fieldAddr rfl Try.underlying30 rfl Try.sizeOf25 rfl rfl) rfl rfl ?_
      refine l_q rfl (q_loadCAgg (y.key.c) rfl Try.isAgg25 Try.sizeOf25 rfl (fun _ h => h.at 1 rfl) (Ms.key_part _) (Kv.c_len _)) rfl rfl ?_
      refine l_q rfl (q_neK (x.key) (y.key) rfl rfl rfl) rfl rfl ?_
      refine l_q rfl (q_pick_f rfl rfl rfl) rfl rfl ?_
      refine l_nil ?_
      refine k_then ?_
      refine Pre.caseB 32 rfl (fun hkk => ?_) (fun hkk => ?_)
      · try simp only [decide_eq_true_eq, decide_eq_false_iff_not, Bool.not_eq_true', Bool.not_eq_false'] at hkk
        refine c_true rfl ?_
        refine c_seq ?_
        refine c_region _ rfl ?_
        refine l_q rfl (q_loadCAgg ((mco x y).c) rfl Try.isAgg30 Try.sizeOf30 rfl (fun _ h => h.at 0 rfl) (ms_whole _) (Ms.c_len _)) rfl rfl ?_
        refine l_q rfl (q_loadCAgg (y.c) rfl Try.isAgg30 Try.sizeOf30 rfl (fun _ h => h.at 1 rfl) (ms_whole _) (Ms.c_len _)) rfl rfl ?_
        refine l_q rfl (q_eqM ((mco x y)) (y) rfl rfl rfl) rfl rfl ?_
        refine l_q rfl (q_move rfl rfl) rfl rfl ?_
        refine Pre.setB (t := 36) (c := true) rfl (by first | exact decide_eq_true (co_keep hk3) | exact decide_eq_true (co_other hkk)) ?_
        refine l_e rfl ?_
        refine e_call_00 (awake_spec) rfl rfl rfl Try.call14 rfl (fun _ _ => trivial) ?_
        intro _ _
        refine l_q rfl (q_pick_t rfl rfl rfl) rfl rfl ?_
        refine l_q rfl (q_assign rfl rfl) rfl rfl ?_
        refine l_nil ?_
        refine k_then ?_
        refine c_ret ?_
        refine k_then_ret ?_
        refine r_one rfl rfl ?_
        exact fun _ h => ⟨(), rfl, trivial, h.nothing⟩
      · try simp only [decide_eq_true_eq, decide_eq_false_iff_not, Bool.not_eq_true', Bool.not_eq_false'] at hkk
        refine c_false rfl ?_
        refine c_skip ?_
        refine k_then ?_
        refine c_seq ?_
        refine c_region _ rfl ?_
        refine l_q rfl (q_assign rfl rfl) rfl rfl ?_
        refine l_nil ?_
        refine k_then ?_
        refine c_seq ?_
        refine c_seq ?_
        refine c_region _ rfl ?_
        refine l_q rfl (q_fieldAddr rfl Try.underlying30 rfl Try.sizeOf3 rfl rfl) rfl rfl ?_
        refine l_q rfl (q_loadC rfl Try.isAgg3 rfl (fun _ h => h.at 2 rfl) rfl) rfl rfl ?_
        refine l_q rfl (q_eql rfl rfl rfl) rfl rfl ?_
        refine l_nil ?_
        refine k_then ?_
        refine Pre.caseB 41 rfl (fun hx3 => ?_) (fun hx3 => ?_)
        · try simp only [decide_eq_true_eq, decide_eq_false_iff_not, Bool.not_eq_true', Bool.not_eq_false'] at hx3
          refine c_true rfl ?_
          refine c_region _ rfl ?_
          refine l_q rfl (q_assign rfl rfl) rfl rfl ?_
          refine l_nil ?_
          refine k_then ?_
          refine c_seq ?_
          refine c_region _ rfl ?_
          refine l_q rfl (q_fieldAddr rfl Try.underlying30 rfl Try.sizeOf3 rfl rfl) rfl rfl ?_
          refine l_q rfl (q_loadC rfl Try.isAgg3 rfl (fun _ h => h.at 0 rfl) rfl) rfl rfl ?_
          refine l_q rfl (q_move rfl rfl) rfl rfl ?_
          refine l_q rfl (q_eql rfl rfl rfl) rfl rfl ?_
          refine l_q rfl (q_move rfl rfl) rfl rfl ?_
          refine Pre.setB (t := 46) (c := true) rfl (by rw [co_kind hx.1 hk3 hkk]; simp [hx3]) ?_
          refine l_q rfl (q_fieldAddr rfl Try.underlying30 rfl Try.sizeOf22 rfl rfl) rfl rfl ?_
          refine l_q rfl (q_loadC rfl Try.isAgg22 rfl (fun _ h => h.at 0 rfl) rfl) rfl rfl ?_
          refine l_q rfl (q_fieldAddr rfl Try.underlying30 rfl Try.sizeOf22 rfl rfl) rfl rfl ?_
          refine l_q rfl (q_loadC rfl Try.isAgg22 rfl (fun _ h => h.at 1 rfl) rfl) rfl rfl ?_
          refine l_q rfl (q_eql rfl rfl rfl) rfl rfl ?_
          refine l_q rfl (q_pick_t rfl rfl rfl) rfl rfl ?_
          refine l_q rfl (q_move rfl rfl) rfl rfl ?_
          refine Pre.setB (t := 53) (c := true) rfl (decide_eq_true (co_seq _ _).1) ?_
          refine l_q rfl (q_fieldAddr rfl Try.underlying30 rfl Try.sizeOf25 rfl rfl) rfl rfl ?_
          refine l_q rfl (q_loadCAgg ((mco x y).key.c) rfl Try.isAgg25 Try.sizeOf25 rfl (fun _ h => h.at 0 rfl) (Ms.key_part _) (Kv.c_len _)) rfl rfl ?_
          refine l_q rfl (q_fieldAddr rfl Try.underlying30 rfl Try.sizeOf25 rfl rfl) rfl rfl ?_
          refine l_q rfl (q_loadCAgg (y.key.c) rfl Try.isAgg25 Try.sizeOf25 rfl (fun _ h => h.at 1 rfl) (Ms.key_part _) (Kv.c_len _)) rfl rfl ?_
          refine l_q rfl (q_eqK ((mco x y).key) (y.key) rfl rfl rfl) rfl rfl ?_
          refine l_q rfl (q_pick_t rfl rfl rfl) rfl rfl ?_
          refine l_q rfl (q_move rfl rfl) rfl rfl ?_
          refine Pre.setB (t := 60) (c := true) rfl (decide_eq_true (co_seq _ _).2) ?_
          refine l_e rfl ?_
          refine e_call_00 (awake_spec) rfl rfl rfl Try.call14 rfl (fun _ _ => trivial) ?_
          intro _ _
          refine l_q rfl (q_pick_t rfl rfl rfl) rfl rfl ?_
          refine l_q rfl (q_assign rfl rfl) rfl rfl ?_
          refine l_nil ?_
          refine k_then ?_
          refine c_ret ?_
          refine r_one rfl rfl ?_
          exact fun _ h => ⟨(), rfl, trivial, h.nothing⟩
        · try simp only [decide_eq_true_eq, decide_eq_false_iff_not, Bool.not_eq_true', Bool.not_eq_false'] at hx3
          refine c_false rfl ?_
          refine c_skip ?_
          refine k_then ?_
          refine c_seq ?_
          refine c_region _ rfl ?_
          refine l_q rfl (q_fieldAddr rfl Try.underlying30 rfl Try.sizeOf3 rfl rfl) rfl rfl ?_
          refine l_q rfl (q_loadC rfl Try.isAgg3 rfl (fun _ h => h.at 0 rfl) rfl) rfl rfl ?_
          refine l_q rfl (q_move rfl rfl) rfl rfl ?_
          refine l_q rfl (q_eql rfl rfl rfl) rfl rfl ?_
          refine l_q rfl (q_move rfl rfl) rfl rfl ?_
          refine Pre.setB (t := 46) (c := true) rfl (by rw [co_kind hx.1 hk3 hkk]; simp [hx3]) ?_
          refine l_q rfl (q_fieldAddr rfl Try.underlying30 rfl Try.sizeOf22 rfl rfl) rfl rfl ?_
          refine l_q rfl (q_loadC rfl Try.isAgg22 rfl (fun _ h => h.at 0 rfl) rfl) rfl rfl ?_
          refine l_q rfl (q_fieldAddr rfl Try.underlying30 rfl Try.sizeOf22 rfl rfl) rfl rfl ?_
          refine l_q rfl (q_loadC rfl Try.isAgg22 rfl (fun _ h => h.at 1 rfl) rfl) rfl rfl ?_
          refine l_q rfl (q_eql rfl rfl rfl) rfl rfl ?_
          refine l_q rfl (q_pick_t rfl rfl rfl) rfl rfl ?_
          refine l_q rfl (q_move rfl rfl) rfl rfl ?_
          refine Pre.setB (t := 53) (c := true) rfl (decide_eq_true (co_seq _ _).1) ?_
          refine l_q rfl (q_fieldAddr rfl Try.underlying30 rfl Try.sizeOf25 rfl rfl) rfl rfl ?_
          refine l_q rfl (q_loadCAgg ((mco x y).key.c) rfl Try.isAgg25 Try.sizeOf25 rfl (fun _ h => h.at 0 rfl) (Ms.key_part _) (Kv.c_len _)) rfl rfl ?_
          refine l_q rfl (q_fieldAddr rfl Try.underlying30 rfl Try.sizeOf25 rfl rfl) rfl rfl ?_
          refine l_q rfl (q_loadCAgg (y.key.c) rfl Try.isAgg25 Try.sizeOf25 rfl (fun _ h => h.at 1 rfl) (Ms.key_part _) (Kv.c_len _)) rfl rfl ?_
          refine l_q rfl (q_eqK ((mco x y).key) (y.key) rfl rfl rfl) rfl rfl ?_
          refine l_q rfl (q_pick_t rfl rfl rfl) rfl rfl ?_
          refine l_q rfl (q_move rfl rfl) rfl rfl ?_
          refine Pre.setB (t := 60) (c := true) rfl (decide_eq_true (co_seq _ _).2) ?_
          refine l_e rfl ?_
          refine e_call_00 (awake_spec) rfl rfl rfl Try.call14 rfl (fun _ _ => trivial) ?_
          intro _ _
          refine l_q rfl (q_pick_t rfl rfl rfl) rfl rfl ?_
          refine l_q rfl (q_assign rfl rfl) rfl rfl ?_
          refine l_nil ?_
          refine k_then ?_
          refine c_ret ?_
          refine r_one rfl rfl ?_
          exact fun _ h => ⟨(), rfl, trivial, h.nothing⟩
theorem msgOver_walk (w : World) (a0 : Int) (w0 : (Lit.int .i64 a0).wf = true) (a1 : Int) (w1 : (Lit.int .i64 a1).wf = true) (a2 : Bool) :
    Calls Try.prog 6 #[.int .i64 a0, .int .i64 a1, .bool a2] w fun e w' => e = .returned (.bool true) ∧ Below w.heap.size w w' := con_walk (over_spec a0 a1 a2) trivial
end Go.Proofs.Ytmnokoepimhelaa
