/- sched: the makers -/
import Derived.Test.YtjanmpghcigigaaD
set_option linter.unusedVariables false
set_option linter.unusedSimpArgs false
namespace Go.Proofs.Ytjanmpghcigigaa
open Go.Sep Go.RowKit

set_option maxRecDepth 100000 in
set_option maxHeartbeats 1000000 in
theorem new_yes {n : Nat} (h1 : 1 ≤ n) (h8 : n ≤ 8) : Con Try.prog 9 [.int .i64 (n : Int)] (fun _ => True) [] (fun b : Nat => .tuple #[.pointer (some ⟨b, 0, none⟩), .int .i64 0]) (fun _ => True) (fun b => [cellsE b 55 (tabC (newM n))]) := by
  intro w hE hH
  refine enter (n := 13) (vs := [.int .i64 (n : Int)]) (St w [] []) Try.func9 rfl rfl rfl (St.init hH) ?_
  refine c_seq ?_
  refine c_region _ rfl ?_
  refine l_q rfl (q_assign rfl rfl) rfl rfl ?_
  refine l_q rfl (q_assign rfl rfl) rfl rfl ?_
  refine l_nil ?_
  refine k_then ?_
  refine c_seq ?_
  refine c_seq ?_
  refine c_region _ rfl ?_
  refine l_q rfl (q_move rfl rfl) rfl rfl ?_
  refine l_q rfl (q_lss rfl rfl rfl) rfl rfl ?_
  refine l_q rfl (q_move rfl rfl) rfl rfl ?_
  refine Pre.setB (t := 6) (c := false) rfl (decide_eq_false (by omega)) ?_
  refine l_q rfl (q_move rfl rfl) rfl rfl ?_
  refine l_q rfl (q_gtr rfl rfl rfl) rfl rfl ?_
  refine l_q rfl (q_pick_f rfl rfl rfl) rfl rfl ?_
  refine l_nil ?_
  refine k_then ?_
  refine Pre.setB (t := 9) (c := false) rfl (decide_eq_false (by omega)) ?_
  refine c_false rfl ?_
  refine c_skip ?_
  refine k_then ?_
  refine c_seq ?_
  refine c_region _ rfl ?_
  refine l_q rfl (q_move rfl rfl) rfl rfl ?_
  refine l_q rfl (q_build (.int .i64 (n : Int) :: List.replicate 25 (.int .i64 0)) rfl rfl (fun w => by kernel_rfl)) rfl rfl ?_
  refine l_e rfl ?_
  refine e_box rfl rfl rfl rfl ?_
  intro b
  refine cells_eq (tab_new h8).symm ?_
  refine l_q rfl (q_assign rfl rfl) rfl rfl ?_
  refine l_q rfl (q_assign rfl rfl) rfl rfl ?_
  refine l_nil ?_
  refine k_then ?_
  refine c_ret ?_
  refine r_many (rs := [.tmp 2, .tmp 3]) rfl rfl ?_
  exact fun _ h => ⟨b, rfl, trivial, h⟩
set_option maxRecDepth 100000 in
set_option maxHeartbeats 1000000 in
theorem new_no {n : Int} (hn : ¬ (1 ≤ n ∧ n ≤ 8)) : Con Try.prog 9 [.int .i64 n] (fun _ => True) [] (fun _ : Unit => .tuple #[.pointer none, .int .i64 1]) (fun _ => True) (fun _ => []) := by
  intro w hE hH
  refine enter (n := 13) (vs := [.int .i64 n]) (St w [] []) Try.func9 rfl rfl rfl (St.init hH) ?_
  refine c_seq ?_
  refine c_region _ rfl ?_
  refine l_q rfl (q_assign rfl rfl) rfl rfl ?_
  refine l_q rfl (q_assign rfl rfl) rfl rfl ?_
  refine l_nil ?_
  refine k_then ?_
  refine c_seq ?_
  refine c_seq ?_
  refine c_region _ rfl ?_
  refine l_q rfl (q_move rfl rfl) rfl rfl ?_
  refine l_q rfl (q_lss rfl rfl rfl) rfl rfl ?_
  refine l_q rfl (q_move rfl rfl) rfl rfl ?_
  refine Pre.caseB 6 rfl (fun h => ?_) (fun h => ?_)
  · simp only [decide_eq_true_eq, decide_eq_false_iff_not, Bool.not_eq_true', Bool.not_eq_false'] at h
    refine l_not rfl rfl rfl ?_
    refine l_not rfl rfl rfl ?_
    refine l_q rfl (q_pick_t rfl rfl rfl) rfl rfl ?_
    refine l_nil ?_
    refine k_then ?_
    refine c_true rfl ?_
    refine c_seq ?_
    refine c_region _ rfl ?_
    refine l_q rfl (q_assign rfl rfl) rfl rfl ?_
    refine l_q rfl (q_assign rfl rfl) rfl rfl ?_
    refine l_nil ?_
    refine k_then ?_
    refine c_ret ?_
    refine k_then_ret ?_
    refine r_many (rs := [.tmp 2, .tmp 3]) rfl rfl ?_
    exact fun _ h => ⟨(), rfl, trivial, h⟩
  · simp only [decide_eq_true_eq, decide_eq_false_iff_not, Bool.not_eq_true', Bool.not_eq_false'] at h
    refine l_q rfl (q_move rfl rfl) rfl rfl ?_
    refine l_q rfl (q_gtr rfl rfl rfl) rfl rfl ?_
    refine l_q rfl (q_pick_f rfl rfl rfl) rfl rfl ?_
    refine l_nil ?_
    refine k_then ?_
    refine Pre.setB (t := 9) (c := true) rfl (decide_eq_true (by omega)) ?_
    refine c_true rfl ?_
    refine c_seq ?_
    refine c_region _ rfl ?_
    refine l_q rfl (q_assign rfl rfl) rfl rfl ?_
    refine l_q rfl (q_assign rfl rfl) rfl rfl ?_
    refine l_nil ?_
    refine k_then ?_
    refine c_ret ?_
    refine k_then_ret ?_
    refine r_many (rs := [.tmp 2, .tmp 3]) rfl rfl ?_
    exact fun _ h => ⟨(), rfl, trivial, h⟩
set_option maxRecDepth 100000 in
set_option maxHeartbeats 1000000 in
theorem rnew_no {n : Int} (hn : ¬ (1 ≤ n ∧ n ≤ 8)) : Con Try.prog 15 [.int .i64 n] (fun _ => True) [] (fun _ : Unit => .tuple #[.pointer none, .int .i64 1]) (fun _ => True) (fun _ => []) := by
  intro w hE hH
  refine enter (n := 18) (vs := [.int .i64 n]) (St w [] []) Try.func15 rfl rfl rfl (St.init hH) ?_
  refine c_seq ?_
  refine c_region _ rfl ?_
  refine l_q rfl (q_assign rfl rfl) rfl rfl ?_
  refine l_q rfl (q_assign rfl rfl) rfl rfl ?_
  refine l_nil ?_
  refine k_then ?_
  refine c_seq ?_
  refine c_seq ?_
  refine c_region _ rfl ?_
  refine l_q rfl (q_move rfl rfl) rfl rfl ?_
  refine l_q rfl (q_lss rfl rfl rfl) rfl rfl ?_
  refine l_q rfl (q_move rfl rfl) rfl rfl ?_
  refine Pre.caseB 6 rfl (fun h => ?_) (fun h => ?_)
  · simp only [decide_eq_true_eq, decide_eq_false_iff_not, Bool.not_eq_true', Bool.not_eq_false'] at h
    refine l_not rfl rfl rfl ?_
    refine l_not rfl rfl rfl ?_
    refine l_q rfl (q_pick_t rfl rfl rfl) rfl rfl ?_
    refine l_nil ?_
    refine k_then ?_
    refine c_true rfl ?_
    refine c_seq ?_
    refine c_region _ rfl ?_
    refine l_q rfl (q_assign rfl rfl) rfl rfl ?_
    refine l_q rfl (q_assign rfl rfl) rfl rfl ?_
    refine l_nil ?_
    refine k_then ?_
    refine c_ret ?_
    refine k_then_ret ?_
    refine r_many (rs := [.tmp 2, .tmp 3]) rfl rfl ?_
    exact fun _ h => ⟨(), rfl, trivial, h⟩
  · simp only [decide_eq_true_eq, decide_eq_false_iff_not, Bool.not_eq_true', Bool.not_eq_false'] at h
    refine l_q rfl (q_move rfl rfl) rfl rfl ?_
    refine l_q rfl (q_gtr rfl rfl rfl) rfl rfl ?_
    refine l_q rfl (q_pick_f rfl rfl rfl) rfl rfl ?_
    refine l_nil ?_
    refine k_then ?_
    refine Pre.setB (t := 9) (c := true) rfl (decide_eq_true (by omega)) ?_
    refine c_true rfl ?_
    refine c_seq ?_
    refine c_region _ rfl ?_
    refine l_q rfl (q_assign rfl rfl) rfl rfl ?_
    refine l_q rfl (q_assign rfl rfl) rfl rfl ?_
    refine l_nil ?_
    refine k_then ?_
    refine c_ret ?_
    refine k_then_ret ?_
    refine r_many (rs := [.tmp 2, .tmp 3]) rfl rfl ?_
    exact fun _ h => ⟨(), rfl, trivial, h⟩
set_option maxRecDepth 100000 in
set_option maxHeartbeats 1000000 in
theorem rnew_yes {n : Nat} (h1 : 1 ≤ n) (h8 : n ≤ 8) : Con Try.prog 15 [.int .i64 (n : Int)] (fun _ => True) [] (fun b : Nat × Value × Value × Value => .tuple #[.pointer (some ⟨b.1, 0, none⟩), .int .i64 0]) (fun _ => True) (fun b => RT b.1 b.2.1 b.2.2.1 b.2.2.2 (newM n)) := by
  intro w hE hH
  refine enter (n := 18) (vs := [.int .i64 (n : Int)]) (St w [] []) Try.func15 rfl rfl rfl (St.init hH) ?_
  refine c_seq ?_
  refine c_region _ rfl ?_
  refine l_q rfl (q_assign rfl rfl) rfl rfl ?_
  refine l_q rfl (q_assign rfl rfl) rfl rfl ?_
  refine l_nil ?_
  refine k_then ?_
  refine c_seq ?_
  refine c_seq ?_
  refine c_region _ rfl ?_
  refine l_q rfl (q_move rfl rfl) rfl rfl ?_
  refine l_q rfl (q_lss rfl rfl rfl) rfl rfl ?_
  refine l_q rfl (q_move rfl rfl) rfl rfl ?_
  refine Pre.setB (t := 6) (c := false) rfl (decide_eq_false (by omega)) ?_
  refine l_q rfl (q_move rfl rfl) rfl rfl ?_
  refine l_q rfl (q_gtr rfl rfl rfl) rfl rfl ?_
  refine l_q rfl (q_pick_f rfl rfl rfl) rfl rfl ?_
  refine l_nil ?_
  refine k_then ?_
  refine Pre.setB (t := 9) (c := false) rfl (decide_eq_false (by omega)) ?_
  refine c_false rfl ?_
  refine c_skip ?_
  refine k_then ?_
  refine c_seq ?_
  refine c_any (fun _ => True) rfl St.drawn ?_
  refine a_q (blind_then blind_body) 0 rfl (by kernel_rfl) (by kernel_rfl) (by kernel_rfl) (fun _ _ => trivial) rfl (q_move rfl rfl) rfl rfl ?_
  refine a_q (blind_then blind_body) 2 rfl (by kernel_rfl) (by kernel_rfl) (by kernel_rfl) (fun _ _ => trivial) rfl (q_move rfl rfl) rfl rfl ?_
  refine a_q (blind_then blind_body) 4 rfl (by kernel_rfl) (by kernel_rfl) (by kernel_rfl) (fun _ _ => trivial) rfl (q_move rfl rfl) rfl rfl ?_
  refine a_all3 1 3 5 (by kernel_rfl) rfl rfl rfl rfl rfl rfl ?_ ?_ ?_ 
  · refine e_makeSlice (encI .i64) (0 : Int) n rfl rfl rfl Try.underlying42 info3 rfl rfl rfl rfl rfl rfl rfl (by simp only [byt3]; omega) (by omega) ?_
    intro v1
    refine Pre.fact (fun _ h => row_sl (h.at 0 rfl)) ?_
    rintro ⟨a1, c2, rfl⟩
    refine d_held (fun _ _ => trivial) ?_
    refine a_all2 3 5 (by kernel_rfl) rfl rfl rfl rfl ?_ ?_ 
    · refine e_makeSlice (encI .i64) (0 : Int) n rfl rfl rfl Try.underlying42 info3 rfl rfl rfl rfl rfl rfl rfl (by simp only [byt3]; omega) (by omega) ?_
      intro v2
      refine Pre.fact (fun _ h => row_sl (h.at 0 rfl)) ?_
      rintro ⟨a3, c4, rfl⟩
      refine d_held (fun _ _ => trivial) ?_
      refine a_all1 5 (by kernel_rfl) rfl rfl ?_
      refine e_makeSlice (encI .i64) (0 : Int) n rfl rfl rfl Try.underlying42 info3 rfl rfl rfl rfl rfl rfl rfl (by simp only [byt3]; omega) (by omega) ?_
      intro v3
      refine Pre.fact (fun _ h => row_sl (h.at 0 rfl)) ?_
      rintro ⟨a5, c6, rfl⟩
      refine d_held (fun _ _ => trivial) ?_
      refine a_q (blind_then blind_body) 6 rfl (by kernel_rfl) (by kernel_rfl) (by kernel_rfl) (fun _ _ => trivial) rfl (q_build [(.slice a1 (List.replicate n (0 : Int)).length c2), (.slice a3 (List.replicate n (0 : Int)).length c4), (.slice a5 (List.replicate n (0 : Int)).length c6), .int .i64 0] rfl rfl (fun w => by kernel_rfl)) rfl rfl ?_
      refine a_all1 7 (by kernel_rfl) rfl rfl ?_
      refine e_box rfl rfl rfl rfl ?_
      intro b
      refine d_held (fun _ _ => trivial) ?_
      refine a_q (blind_then blind_body) 8 rfl (by kernel_rfl) (by kernel_rfl) (by kernel_rfl) (fun _ _ => trivial) rfl (q_assign rfl rfl) rfl rfl ?_
      refine a_q (blind_then blind_body) 9 rfl (by kernel_rfl) (by kernel_rfl) (by kernel_rfl) (fun _ _ => trivial) rfl (q_assign rfl rfl) rfl rfl ?_
      refine a_nil (by kernel_rfl) ?_
      refine k_then ?_
      refine c_ret ?_
      refine pull1 ?_
      refine pull2 ?_
      refine pull3 ?_
      refine pull3 ?_
      refine r_many (rs := [.tmp 2, .tmp 3]) rfl rfl ?_
      exact fun _ h => ⟨(b, (.slice a1 (List.replicate n (0 : Int)).length c2), (.slice a3 (List.replicate n (0 : Int)).length c4), (.slice a5 (List.replicate n (0 : Int)).length c6)), rfl, trivial, h⟩
    · refine e_makeSlice (encI .i64) (0 : Int) n rfl rfl rfl Try.underlying42 info3 rfl rfl rfl rfl rfl rfl rfl (by simp only [byt3]; omega) (by omega) ?_
      intro v3
      refine Pre.fact (fun _ h => row_sl (h.at 0 rfl)) ?_
      rintro ⟨a7, c8, rfl⟩
      refine d_held (fun _ _ => trivial) ?_
      refine a_all1 3 (by kernel_rfl) rfl rfl ?_
      refine e_makeSlice (encI .i64) (0 : Int) n rfl rfl rfl Try.underlying42 info3 rfl rfl rfl rfl rfl rfl rfl (by simp only [byt3]; omega) (by omega) ?_
      intro v2
      refine Pre.fact (fun _ h => row_sl (h.at 0 rfl)) ?_
      rintro ⟨a9, c10, rfl⟩
      refine d_held (fun _ _ => trivial) ?_
      refine a_q (blind_then blind_body) 6 rfl (by kernel_rfl) (by kernel_rfl) (by kernel_rfl) (fun _ _ => trivial) rfl (q_build [(.slice a1 (List.replicate n (0 : Int)).length c2), (.slice a9 (List.replicate n (0 : Int)).length c10), (.slice a7 (List.replicate n (0 : Int)).length c8), .int .i64 0] rfl rfl (fun w => by kernel_rfl)) rfl rfl ?_
      refine a_all1 7 (by kernel_rfl) rfl rfl ?_
      refine e_box rfl rfl rfl rfl ?_
      intro b
      refine d_held (fun _ _ => trivial) ?_
      refine a_q (blind_then blind_body) 8 rfl (by kernel_rfl) (by kernel_rfl) (by kernel_rfl) (fun _ _ => trivial) rfl (q_assign rfl rfl) rfl rfl ?_
      refine a_q (blind_then blind_body) 9 rfl (by kernel_rfl) (by kernel_rfl) (by kernel_rfl) (fun _ _ => trivial) rfl (q_assign rfl rfl) rfl rfl ?_
      refine a_nil (by kernel_rfl) ?_
      refine k_then ?_
      refine c_ret ?_
      refine pull2 ?_
      refine pull2 ?_
      refine pull3 ?_
      refine pull3 ?_
      refine r_many (rs := [.tmp 2, .tmp 3]) rfl rfl ?_
      exact fun _ h => ⟨(b, (.slice a1 (List.replicate n (0 : Int)).length c2), (.slice a9 (List.replicate n (0 : Int)).length c10), (.slice a7 (List.replicate n (0 : Int)).length c8)), rfl, trivial, h⟩
  · refine e_makeSlice (encI .i64) (0 : Int) n rfl rfl rfl Try.underlying42 info3 rfl rfl rfl rfl rfl rfl rfl (by simp only [byt3]; omega) (by omega) ?_
    intro v2
    refine Pre.fact (fun _ h => row_sl (h.at 0 rfl)) ?_
    rintro ⟨a11, c12, rfl⟩
    refine d_held (fun _ _ => trivial) ?_
    refine a_all2 1 5 (by kernel_rfl) rfl rfl rfl rfl ?_ ?_ 
    · refine e_makeSlice (encI .i64) (0 : Int) n rfl rfl rfl Try.underlying42 info3 rfl rfl rfl rfl rfl rfl rfl (by simp only [byt3]; omega) (by omega) ?_
      intro v1
      refine Pre.fact (fun _ h => row_sl (h.at 0 rfl)) ?_
      rintro ⟨a13, c14, rfl⟩
      refine d_held (fun _ _ => trivial) ?_
      refine a_all1 5 (by kernel_rfl) rfl rfl ?_
      refine e_makeSlice (encI .i64) (0 : Int) n rfl rfl rfl Try.underlying42 info3 rfl rfl rfl rfl rfl rfl rfl (by simp only [byt3]; omega) (by omega) ?_
      intro v3
      refine Pre.fact (fun _ h => row_sl (h.at 0 rfl)) ?_
      rintro ⟨a15, c16, rfl⟩
      refine d_held (fun _ _ => trivial) ?_
      refine a_q (blind_then blind_body) 6 rfl (by kernel_rfl) (by kernel_rfl) (by kernel_rfl) (fun _ _ => trivial) rfl (q_build [(.slice a13 (List.replicate n (0 : Int)).length c14), (.slice a11 (List.replicate n (0 : Int)).length c12), (.slice a15 (List.replicate n (0 : Int)).length c16), .int .i64 0] rfl rfl (fun w => by kernel_rfl)) rfl rfl ?_
      refine a_all1 7 (by kernel_rfl) rfl rfl ?_
      refine e_box rfl rfl rfl rfl ?_
      intro b
      refine d_held (fun _ _ => trivial) ?_
      refine a_q (blind_then blind_body) 8 rfl (by kernel_rfl) (by kernel_rfl) (by kernel_rfl) (fun _ _ => trivial) rfl (q_assign rfl rfl) rfl rfl ?_
      refine a_q (blind_then blind_body) 9 rfl (by kernel_rfl) (by kernel_rfl) (by kernel_rfl) (fun _ _ => trivial) rfl (q_assign rfl rfl) rfl rfl ?_
      refine a_nil (by kernel_rfl) ?_
      refine k_then ?_
      refine c_ret ?_
      refine pull1 ?_
      refine pull3 ?_
      refine pull3 ?_
      refine pull3 ?_
      refine r_many (rs := [.tmp 2, .tmp 3]) rfl rfl ?_
      exact fun _ h => ⟨(b, (.slice a13 (List.replicate n (0 : Int)).length c14), (.slice a11 (List.replicate n (0 : Int)).length c12), (.slice a15 (List.replicate n (0 : Int)).length c16)), rfl, trivial, h⟩
    · refine e_makeSlice (encI .i64) (0 : Int) n rfl rfl rfl Try.underlying42 info3 rfl rfl rfl rfl rfl rfl rfl (by simp only [byt3]; omega) (by omega) ?_
      intro v3
      refine Pre.fact (fun _ h => row_sl (h.at 0 rfl)) ?_
      rintro ⟨a17, c18, rfl⟩
      refine d_held (fun _ _ => trivial) ?_
      refine a_all1 1 (by kernel_rfl) rfl rfl ?_
      refine e_makeSlice (encI .i64) (0 : Int) n rfl rfl rfl Try.underlying42 info3 rfl rfl rfl rfl rfl rfl rfl (by simp only [byt3]; omega) (by omega) ?_
      intro v1
      refine Pre.fact (fun _ h => row_sl (h.at 0 rfl)) ?_
      rintro ⟨a19, c20, rfl⟩
      refine d_held (fun _ _ => trivial) ?_
      refine a_q (blind_then blind_body) 6 rfl (by kernel_rfl) (by kernel_rfl) (by kernel_rfl) (fun _ _ => trivial) rfl (q_build [(.slice a19 (List.replicate n (0 : Int)).length c20), (.slice a11 (List.replicate n (0 : Int)).length c12), (.slice a17 (List.replicate n (0 : Int)).length c18), .int .i64 0] rfl rfl (fun w => by kernel_rfl)) rfl rfl ?_
      refine a_all1 7 (by kernel_rfl) rfl rfl ?_
      refine e_box rfl rfl rfl rfl ?_
      intro b
      refine d_held (fun _ _ => trivial) ?_
      refine a_q (blind_then blind_body) 8 rfl (by kernel_rfl) (by kernel_rfl) (by kernel_rfl) (fun _ _ => trivial) rfl (q_assign rfl rfl) rfl rfl ?_
      refine a_q (blind_then blind_body) 9 rfl (by kernel_rfl) (by kernel_rfl) (by kernel_rfl) (fun _ _ => trivial) rfl (q_assign rfl rfl) rfl rfl ?_
      refine a_nil (by kernel_rfl) ?_
      refine k_then ?_
      refine c_ret ?_
      refine pull2 ?_
      refine pull3 ?_
      refine pull3 ?_
      refine pull3 ?_
      refine r_many (rs := [.tmp 2, .tmp 3]) rfl rfl ?_
      exact fun _ h => ⟨(b, (.slice a19 (List.replicate n (0 : Int)).length c20), (.slice a11 (List.replicate n (0 : Int)).length c12), (.slice a17 (List.replicate n (0 : Int)).length c18)), rfl, trivial, h⟩
  · refine e_makeSlice (encI .i64) (0 : Int) n rfl rfl rfl Try.underlying42 info3 rfl rfl rfl rfl rfl rfl rfl (by simp only [byt3]; omega) (by omega) ?_
    intro v3
    refine Pre.fact (fun _ h => row_sl (h.at 0 rfl)) ?_
    rintro ⟨a21, c22, rfl⟩
    refine d_held (fun _ _ => trivial) ?_
    refine a_all2 1 3 (by kernel_rfl) rfl rfl rfl rfl ?_ ?_ 
    · refine e_makeSlice (encI .i64) (0 : Int) n rfl rfl rfl Try.underlying42 info3 rfl rfl rfl rfl rfl rfl rfl (by simp only [byt3]; omega) (by omega) ?_
      intro v1
      refine Pre.fact (fun _ h => row_sl (h.at 0 rfl)) ?_
      rintro ⟨a23, c24, rfl⟩
      refine d_held (fun _ _ => trivial) ?_
      refine a_all1 3 (by kernel_rfl) rfl rfl ?_
      refine e_makeSlice (encI .i64) (0 : Int) n rfl rfl rfl Try.underlying42 info3 rfl rfl rfl rfl rfl rfl rfl (by simp only [byt3]; omega) (by omega) ?_
      intro v2
      refine Pre.fact (fun _ h => row_sl (h.at 0 rfl)) ?_
      rintro ⟨a25, c26, rfl⟩
      refine d_held (fun _ _ => trivial) ?_
      refine a_q (blind_then blind_body) 6 rfl (by kernel_rfl) (by kernel_rfl) (by kernel_rfl) (fun _ _ => trivial) rfl (q_build [(.slice a23 (List.replicate n (0 : Int)).length c24), (.slice a25 (List.replicate n (0 : Int)).length c26), (.slice a21 (List.replicate n (0 : Int)).length c22), .int .i64 0] rfl rfl (fun w => by kernel_rfl)) rfl rfl ?_
      refine a_all1 7 (by kernel_rfl) rfl rfl ?_
      refine e_box rfl rfl rfl rfl ?_
      intro b
      refine d_held (fun _ _ => trivial) ?_
      refine a_q (blind_then blind_body) 8 rfl (by kernel_rfl) (by kernel_rfl) (by kernel_rfl) (fun _ _ => trivial) rfl (q_assign rfl rfl) rfl rfl ?_
      refine a_q (blind_then blind_body) 9 rfl (by kernel_rfl) (by kernel_rfl) (by kernel_rfl) (fun _ _ => trivial) rfl (q_assign rfl rfl) rfl rfl ?_
      refine a_nil (by kernel_rfl) ?_
      refine k_then ?_
      refine c_ret ?_
      refine pull3 ?_
      refine pull2 ?_
      refine pull3 ?_
      refine pull3 ?_
      refine r_many (rs := [.tmp 2, .tmp 3]) rfl rfl ?_
      exact fun _ h => ⟨(b, (.slice a23 (List.replicate n (0 : Int)).length c24), (.slice a25 (List.replicate n (0 : Int)).length c26), (.slice a21 (List.replicate n (0 : Int)).length c22)), rfl, trivial, h⟩
    · refine e_makeSlice (encI .i64) (0 : Int) n rfl rfl rfl Try.underlying42 info3 rfl rfl rfl rfl rfl rfl rfl (by simp only [byt3]; omega) (by omega) ?_
      intro v2
      refine Pre.fact (fun _ h => row_sl (h.at 0 rfl)) ?_
      rintro ⟨a27, c28, rfl⟩
      refine d_held (fun _ _ => trivial) ?_
      refine a_all1 1 (by kernel_rfl) rfl rfl ?_
      refine e_makeSlice (encI .i64) (0 : Int) n rfl rfl rfl Try.underlying42 info3 rfl rfl rfl rfl rfl rfl rfl (by simp only [byt3]; omega) (by omega) ?_
      intro v1
      refine Pre.fact (fun _ h => row_sl (h.at 0 rfl)) ?_
      rintro ⟨a29, c30, rfl⟩
      refine d_held (fun _ _ => trivial) ?_
      refine a_q (blind_then blind_body) 6 rfl (by kernel_rfl) (by kernel_rfl) (by kernel_rfl) (fun _ _ => trivial) rfl (q_build [(.slice a29 (List.replicate n (0 : Int)).length c30), (.slice a27 (List.replicate n (0 : Int)).length c28), (.slice a21 (List.replicate n (0 : Int)).length c22), .int .i64 0] rfl rfl (fun w => by kernel_rfl)) rfl rfl ?_
      refine a_all1 7 (by kernel_rfl) rfl rfl ?_
      refine e_box rfl rfl rfl rfl ?_
      intro b
      refine d_held (fun _ _ => trivial) ?_
      refine a_q (blind_then blind_body) 8 rfl (by kernel_rfl) (by kernel_rfl) (by kernel_rfl) (fun _ _ => trivial) rfl (q_assign rfl rfl) rfl rfl ?_
      refine a_q (blind_then blind_body) 9 rfl (by kernel_rfl) (by kernel_rfl) (by kernel_rfl) (fun _ _ => trivial) rfl (q_assign rfl rfl) rfl rfl ?_
      refine a_nil (by kernel_rfl) ?_
      refine k_then ?_
      refine c_ret ?_
      refine pull3 ?_
      refine pull3 ?_
      refine pull3 ?_
      refine pull3 ?_
      refine r_many (rs := [.tmp 2, .tmp 3]) rfl rfl ?_
      exact fun _ h => ⟨(b, (.slice a29 (List.replicate n (0 : Int)).length c30), (.slice a27 (List.replicate n (0 : Int)).length c28), (.slice a21 (List.replicate n (0 : Int)).length c22)), rfl, trivial, h⟩
end Go.Proofs.Ytjanmpghcigigaa
