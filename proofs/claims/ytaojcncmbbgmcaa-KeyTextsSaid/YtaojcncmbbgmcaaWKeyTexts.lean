/- KeyTexts, walked -/
import Derived.Test.YtaojcncmbbgmcaaPf
set_option linter.unusedVariables false
set_option linter.unusedSimpArgs false
namespace Go.Proofs.Ytaojcncmbbgmcaa
open Go.Sep Go.RowKit

set_option maxRecDepth 100000 in
set_option maxHeartbeats 1000000 in
theorem texts_spec (s t : ByteArray) (hs0 : s.size ≤ 9223372036854775807) (ht0 : t.size ≤ 9223372036854775807) : Con Try.prog 5 [.string s, .string t] (fun _ => True) [] (fun _ : Unit => .bool true) (fun _ => True) (fun _ => []) := by
  intro w hE hH
  refine enter (n := 82) (vs := [.string s, .string t]) (St w [] []) Try.func5 rfl rfl rfl (St.init hH) ?_
  refine c_seq ?_
  refine c_region _ rfl ?_
  refine l_q rfl (q_assign rfl rfl) rfl rfl ?_
  refine l_nil ?_
  refine k_then ?_
  refine c_seq ?_
  refine c_seq ?_
  refine c_region _ rfl ?_
  refine l_q rfl (q_move rfl rfl) rfl rfl ?_
  refine l_q rfl (q_lenS rfl Try.underlying9 rfl) rfl rfl ?_
  refine l_q rfl (q_gtr rfl rfl rfl) rfl rfl ?_
  refine l_q rfl (q_move rfl rfl) rfl rfl ?_
  refine Pre.caseB 13 rfl (fun h1 => ?_) (fun h1 => ?_)
  · try simp only [decide_eq_true_eq, decide_eq_false_iff_not, Bool.not_eq_true', Bool.not_eq_false'] at h1
    refine l_not rfl rfl rfl ?_
    refine l_not rfl rfl rfl ?_
    refine l_not rfl rfl rfl ?_
    refine l_q rfl (q_pick_t rfl rfl rfl) rfl rfl ?_
    refine l_nil ?_
    refine k_then ?_
    refine c_true rfl ?_
    refine c_seq ?_
    refine c_region _ rfl ?_
    refine l_e rfl ?_
    refine e_call_00 (awake_spec) rfl rfl rfl Try.call10 rfl (fun _ _ => trivial) ?_
    intro _ _
    refine l_q rfl (q_assign rfl rfl) rfl rfl ?_
    refine l_nil ?_
    refine k_then ?_
    refine c_ret ?_
    refine k_then_ret ?_
    refine r_one rfl rfl ?_
    exact fun _ h => ⟨(), rfl, trivial, h.nothing⟩
  · try simp only [decide_eq_true_eq, decide_eq_false_iff_not, Bool.not_eq_true', Bool.not_eq_false'] at h1
    refine l_q rfl (q_move rfl rfl) rfl rfl ?_
    refine l_q rfl (q_lenS rfl Try.underlying9 rfl) rfl rfl ?_
    refine l_q rfl (q_gtr rfl rfl rfl) rfl rfl ?_
    refine l_q rfl (q_pick_f rfl rfl rfl) rfl rfl ?_
    refine l_nil ?_
    refine k_then ?_
    refine Pre.caseB 17 rfl (fun h2 => ?_) (fun h2 => ?_)
    · try simp only [decide_eq_true_eq, decide_eq_false_iff_not, Bool.not_eq_true', Bool.not_eq_false'] at h2
      refine c_true rfl ?_
      refine c_seq ?_
      refine c_region _ rfl ?_
      refine l_e rfl ?_
      refine e_call_00 (awake_spec) rfl rfl rfl Try.call10 rfl (fun _ _ => trivial) ?_
      intro _ _
      refine l_q rfl (q_assign rfl rfl) rfl rfl ?_
      refine l_nil ?_
      refine k_then ?_
      refine c_ret ?_
      refine k_then_ret ?_
      refine r_one rfl rfl ?_
      exact fun _ h => ⟨(), rfl, trivial, h.nothing⟩
    · try simp only [decide_eq_true_eq, decide_eq_false_iff_not, Bool.not_eq_true', Bool.not_eq_false'] at h2
      have hs : s.size ≤ 8 := by omega
      have ht : t.size ≤ 8 := by omega
      obtain ⟨p, hp⟩ : ∃ p, p = kof s hs := ⟨_, rfl⟩
      obtain ⟨q, hq⟩ : ∃ q, q = kof t ht := ⟨_, rfl⟩
      have hpc : kck p = true := hp ▸ kof_ck s hs
      have hps : strOfNums (tx p) = s := by rw [hp, tx_kof, str_byt]
      have hqs : strOfNums (tx q) = t := by rw [hq, tx_kof, str_byt]
      have hpq : kcmp p q = Lib.compareBytes s.data.toList t.data.toList := by rw [hp, hq, kcmp_kof]
      have heq : p = q ↔ s = t := ⟨fun h => by rw [← hps, ← hqs, h], fun h => by subst h; rw [hp, hq]⟩
      have hof : Con Try.prog 11 [.string s] (fun _ => True) [] (fun _ : Unit => .tuple #[.agg p.c.toArray, .int .i64 0]) (fun _ => True) (fun _ => []) := hp ▸ of_yes s hs
      have hof2 : Con Try.prog 11 [.string t] (fun _ => True) [] (fun _ : Unit => .tuple #[.agg q.c.toArray, .int .i64 0]) (fun _ => True) (fun _ => []) := hq ▸ of_yes t ht
      refine c_false rfl ?_
      refine c_skip ?_
      refine k_then ?_
      refine c_seq ?_
      refine c_region _ rfl ?_
      refine l_q rfl (q_move rfl rfl) rfl rfl ?_
      refine l_e rfl ?_
      refine e_call_00 (hof) rfl rfl rfl Try.call11 rfl (fun _ _ => trivial) ?_
      intro _ _
      refine l_q rfl (q_move rfl rfl) rfl rfl ?_
      refine l_q rfl (q_extract rfl rfl rfl) rfl rfl ?_
      refine l_q rfl (q_extract rfl rfl rfl) rfl rfl ?_
      refine l_e rfl ?_
      refine e_alloc rfl rfl rfl Try.zeroValue24 ?_
      intro ba
      refine cells_eq (show _ = kc 0 z8 from rfl) ?_
      refine l_e rfl ?_
      refine e_storeAgg rfl rfl Try.sizeOf24 rfl rfl (Kv.c_len _) (Kv.one _) (by rw [show ((p).c).length = 9 from Kv.c_len _, kc_len z8_len]; decide) ?_
      refine cells_eq (show Sep.splice _ 0 (p).c = (p).c from Sep.splice_all (by rw [Kv.c_len, kc_len z8_len])) ?_
      refine l_q rfl (q_assign rfl rfl) rfl rfl ?_
      refine l_nil ?_
      refine k_then ?_
      refine c_seq ?_
      refine c_region _ rfl ?_
      refine l_q rfl (q_move rfl rfl) rfl rfl ?_
      refine l_e rfl ?_
      refine e_call_00 (hof2) rfl rfl rfl Try.call11 rfl (fun _ _ => trivial) ?_
      intro _ _
      refine l_q rfl (q_move rfl rfl) rfl rfl ?_
      refine l_q rfl (q_extract rfl rfl rfl) rfl rfl ?_
      refine l_q rfl (q_extract rfl rfl rfl) rfl rfl ?_
      refine l_e rfl ?_
      refine e_alloc rfl rfl rfl Try.zeroValue24 ?_
      intro bb
      refine cells_eq (show _ = kc 0 z8 from rfl) ?_
      refine l_e rfl ?_
      refine e_storeAgg rfl rfl Try.sizeOf24 rfl rfl (Kv.c_len _) (Kv.one _) (by rw [show ((q).c).length = 9 from Kv.c_len _, kc_len z8_len]; decide) ?_
      refine cells_eq (show Sep.splice _ 0 (q).c = (q).c from Sep.splice_all (by rw [Kv.c_len, kc_len z8_len])) ?_
      refine l_q rfl (q_assign rfl rfl) rfl rfl ?_
      refine l_nil ?_
      refine k_then ?_
      refine c_seq ?_
      refine c_region _ rfl ?_
      refine l_q rfl (q_loadCAgg (p.c) rfl Try.isAgg24 Try.sizeOf24 rfl (fun _ h => h.at 1 rfl) (kv_whole _) (Kv.c_len _)) rfl rfl ?_
      refine l_q rfl (q_loadCAgg (q.c) rfl Try.isAgg24 Try.sizeOf24 rfl (fun _ h => h.at 0 rfl) (kv_whole _) (Kv.c_len _)) rfl rfl ?_
      refine l_e rfl ?_
      refine e_call_00 (cmp_spec p q) rfl rfl rfl Try.call24 rfl (fun _ _ => trivial) ?_
      intro _ _
      refine l_q rfl (q_assign rfl rfl) rfl rfl ?_
      refine l_nil ?_
      refine k_then ?_
      refine c_seq ?_
      refine c_region _ rfl ?_
      refine l_q rfl (q_move rfl rfl) rfl rfl ?_
      refine l_q rfl (q_eql rfl rfl rfl) rfl rfl ?_
      refine l_q rfl (q_move rfl rfl) rfl rfl ?_
      refine Pre.setB (t := 34) (c := true) rfl (by first | rfl | exact hpc | (rw [hps]; simp; done) | (rw [hqs]; simp; done) | (rw [hpq]; simp; done) | (rw [beq_str, beq_iff_eq, decide_eq_decide]; exact heq)) ?_
      refine l_q rfl (q_move rfl rfl) rfl rfl ?_
      refine l_q rfl (q_eql rfl rfl rfl) rfl rfl ?_
      refine l_q rfl (q_pick_t rfl rfl rfl) rfl rfl ?_
      refine l_q rfl (q_move rfl rfl) rfl rfl ?_
      refine Pre.setB (t := 38) (c := true) rfl (by first | rfl | exact hpc | (rw [hps]; simp; done) | (rw [hqs]; simp; done) | (rw [hpq]; simp; done) | (rw [beq_str, beq_iff_eq, decide_eq_decide]; exact heq)) ?_
      refine l_q rfl (q_loadCAgg (p.c) rfl Try.isAgg24 Try.sizeOf24 rfl (fun _ h => h.at 1 rfl) (kv_whole _) (Kv.c_len _)) rfl rfl ?_
      refine l_e rfl ?_
      refine e_call_00 (kcheck_spec p) rfl rfl rfl Try.call13 rfl (fun _ _ => trivial) ?_
      intro _ _
      refine l_q rfl (q_pick_t rfl rfl rfl) rfl rfl ?_
      refine l_q rfl (q_move rfl rfl) rfl rfl ?_
      refine Pre.setB (t := 42) (c := true) rfl (by first | rfl | exact hpc | (rw [hps]; simp; done) | (rw [hqs]; simp; done) | (rw [hpq]; simp; done) | (rw [beq_str, beq_iff_eq, decide_eq_decide]; exact heq)) ?_
      refine l_q rfl (q_loadCAgg (p.c) rfl Try.isAgg24 Try.sizeOf24 rfl (fun _ h => h.at 1 rfl) (kv_whole _) (Kv.c_len _)) rfl rfl ?_
      refine l_e rfl ?_
      refine e_call_00 (text_spec p) rfl rfl rfl Try.call15 rfl (fun _ _ => trivial) ?_
      intro _ _
      refine l_q rfl (q_move rfl rfl) rfl rfl ?_
      refine l_q rfl (q_eqs rfl rfl rfl) rfl rfl ?_
      refine l_q rfl (q_pick_t rfl rfl rfl) rfl rfl ?_
      refine l_q rfl (q_move rfl rfl) rfl rfl ?_
      refine Pre.setB (t := 48) (c := true) rfl (by first | rfl | exact hpc | (rw [hps]; simp; done) | (rw [hqs]; simp; done) | (rw [hpq]; simp; done) | (rw [beq_str, beq_iff_eq, decide_eq_decide]; exact heq)) ?_
      refine l_q rfl (q_loadCAgg (q.c) rfl Try.isAgg24 Try.sizeOf24 rfl (fun _ h => h.at 0 rfl) (kv_whole _) (Kv.c_len _)) rfl rfl ?_
      refine l_e rfl ?_
      refine e_call_00 (text_spec q) rfl rfl rfl Try.call15 rfl (fun _ _ => trivial) ?_
      intro _ _
      refine l_q rfl (q_move rfl rfl) rfl rfl ?_
      refine l_q rfl (q_eqs rfl rfl rfl) rfl rfl ?_
      refine l_q rfl (q_pick_t rfl rfl rfl) rfl rfl ?_
      refine l_q rfl (q_move rfl rfl) rfl rfl ?_
      refine Pre.setB (t := 54) (c := true) rfl (by first | rfl | exact hpc | (rw [hps]; simp; done) | (rw [hqs]; simp; done) | (rw [hpq]; simp; done) | (rw [beq_str, beq_iff_eq, decide_eq_decide]; exact heq)) ?_
      refine l_q rfl (q_move rfl rfl) rfl rfl ?_
      refine l_q rfl (q_lss rfl rfl rfl) rfl rfl ?_
      refine l_q rfl (q_move rfl rfl) rfl rfl ?_
      refine l_q rfl (q_move rfl rfl) rfl rfl ?_
      refine l_q rfl (q_lssS rfl rfl rfl) rfl rfl ?_
      refine l_q rfl (q_eqb rfl Try.underlying4 rfl rfl) rfl rfl ?_
      refine l_q rfl (q_pick_t rfl rfl rfl) rfl rfl ?_
      refine l_q rfl (q_move rfl rfl) rfl rfl ?_
      refine Pre.setB (t := 62) (c := true) rfl (by first | rfl | exact hpc | (rw [hps]; simp; done) | (rw [hqs]; simp; done) | (rw [hpq]; simp; done) | (rw [beq_str, beq_iff_eq, decide_eq_decide]; exact heq)) ?_
      refine l_q rfl (q_move rfl rfl) rfl rfl ?_
      refine l_q rfl (q_gtr rfl rfl rfl) rfl rfl ?_
      refine l_q rfl (q_move rfl rfl) rfl rfl ?_
      refine l_q rfl (q_move rfl rfl) rfl rfl ?_
      refine l_q rfl (q_gtrS rfl rfl rfl) rfl rfl ?_
      refine l_q rfl (q_eqb rfl Try.underlying4 rfl rfl) rfl rfl ?_
      refine l_q rfl (q_pick_t rfl rfl rfl) rfl rfl ?_
      refine l_q rfl (q_move rfl rfl) rfl rfl ?_
      refine Pre.setB (t := 70) (c := true) rfl (by first | rfl | exact hpc | (rw [hps]; simp; done) | (rw [hqs]; simp; done) | (rw [hpq]; simp; done) | (rw [beq_str, beq_iff_eq, decide_eq_decide]; exact heq)) ?_
      refine l_q rfl (q_loadCAgg (p.c) rfl Try.isAgg24 Try.sizeOf24 rfl (fun _ h => h.at 1 rfl) (kv_whole _) (Kv.c_len _)) rfl rfl ?_
      refine l_q rfl (q_loadCAgg (q.c) rfl Try.isAgg24 Try.sizeOf24 rfl (fun _ h => h.at 0 rfl) (kv_whole _) (Kv.c_len _)) rfl rfl ?_
      refine l_q rfl (q_eqK (p) (q) rfl rfl rfl) rfl rfl ?_
      refine l_q rfl (q_move rfl rfl) rfl rfl ?_
      refine l_q rfl (q_move rfl rfl) rfl rfl ?_
      refine l_q rfl (q_eqs rfl rfl rfl) rfl rfl ?_
      refine l_q rfl (q_eqb rfl Try.underlying4 rfl rfl) rfl rfl ?_
      refine l_q rfl (q_pick_t rfl rfl rfl) rfl rfl ?_
      refine l_q rfl (q_move rfl rfl) rfl rfl ?_
      refine Pre.setB (t := 79) (c := true) rfl (by first | rfl | exact hpc | (rw [hps]; simp; done) | (rw [hqs]; simp; done) | (rw [hpq]; simp; done) | (rw [beq_str, beq_iff_eq, decide_eq_decide]; exact heq)) ?_
      refine l_e rfl ?_
      refine e_call_00 (awake_spec) rfl rfl rfl Try.call10 rfl (fun _ _ => trivial) ?_
      intro _ _
      refine l_q rfl (q_pick_t rfl rfl rfl) rfl rfl ?_
      refine l_q rfl (q_assign rfl rfl) rfl rfl ?_
      refine l_nil ?_
      refine k_then ?_
      refine c_ret ?_
      refine r_one rfl rfl ?_
      exact fun _ h => ⟨(), rfl, trivial, h.nothing⟩
theorem keyTexts_walk (w : World) (a0 : ByteArray) (w0 : a0.size ≤ 9223372036854775807) (a1 : ByteArray) (w1 : a1.size ≤ 9223372036854775807) :
    Calls Try.prog 5 #[.string a0, .string a1] w fun e w' => e = .returned (.bool true) ∧ Below w.heap.size w w' := con_walk (texts_spec a0 a1 w0 w1) (w := w) trivial
end Go.Proofs.Ytaojcncmbbgmcaa
