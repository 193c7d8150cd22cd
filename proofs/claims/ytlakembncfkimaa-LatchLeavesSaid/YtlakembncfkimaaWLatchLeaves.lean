/- LatchLeaves, walked -/
import Derived.Test.YtlakembncfkimaaF
import Derived.Test.YtlakembncfkimaaS9
set_option linter.unusedVariables false
set_option linter.unusedSimpArgs false
namespace Go.Proofs.Ytlakembncfkimaa
open Go.Sep Go.RowKit

def lv : Nat → La
  | 0 => takeL (takeL newL 90 false) 91 true
  | i + 1 => takeL (lv i) i false
theorem lv_no : ∀ i, i < 9 → tryB (lv i) i false = false := by decide +kernel
theorem lv_ok : ∀ i, (lv i).Ok (i + 2)
  | 0 => take_ok (take_ok new_ok 90 false) 91 true
  | i + 1 => take_ok (lv_ok i) i false
def lm (k g : Nat) : List Int × La := dropL (dropL (lv k) g).2 91
def lvB (k g : Nat) : Bool := decide ((dropL (lv k) g).1.length = 0) && decide ((lm k g).1.length = k - 1) && decide ((lm k g).2.wr = -1) && decide ((lm k g).2.rd.length = k) && decide ((dropL (lm k g).2 77).1.length = 0) && (List.range (lm k g).1.length).all (fun i => decide ((lm k g).1.getD i 0 ≠ g) && (decide (i = 0) || decide ((lm k g).1.getD (i - 1) 0 < (lm k g).1.getD i 0)))
theorem lv_dec : ∀ k, k < 10 → 1 ≤ k → ∀ g, g < k → lvB k g = true := by decide +kernel
theorem lv_end (k : Nat) (hk : k < 10) (h1 : 1 ≤ k) (g : Nat) (hg : g < k) : (dropL (lv k) g).1.length = 0 ∧ (lm k g).1.length = k - 1 ∧ (lm k g).2.wr = -1 ∧ (lm k g).2.rd.length = k ∧ (dropL (lm k g).2 77).1.length = 0 ∧ ∀ i, i < (lm k g).1.length → (lm k g).1.getD i 0 ≠ g ∧ (0 < i → (lm k g).1.getD (i - 1) 0 < (lm k g).1.getD i 0) := by
  have h := lv_dec k hk h1 g hg
  unfold lvB at h
  simp only [Bool.and_eq_true, decide_eq_true_eq, List.all_eq_true, List.mem_range, Bool.or_eq_true] at h
  obtain ⟨⟨⟨⟨⟨a, b⟩, c⟩, d⟩, e⟩, f⟩ := h
  exact ⟨a, b, c, d, e, fun i hi => ⟨(f i hi).1, fun h0 => by rcases (f i hi).2 with h | h; omega; exact h⟩⟩
set_option maxRecDepth 100000 in
set_option maxHeartbeats 1000000 in
theorem leaves_spec (p q : Nat) (hp : p ≤ 255) (hq : q ≤ 255) : Con Try.prog 4 [.int .u8 (p : Int), .int .u8 (q : Int)] (fun _ => True) [] (fun _ : Unit => .bool true) (fun _ => True) (fun _ => []) := by
  intro w hE hH
  obtain ⟨k, hk⟩ : ∃ k, k = 1 + p % 9 := ⟨_, rfl⟩
  obtain ⟨g, hg⟩ : ∃ g, g = q % k := ⟨_, rfl⟩
  have hgk : g < k := by rw [hg]; exact Nat.mod_lt _ (by omega)
  obtain ⟨f1, f2, f3, f4, f5, f6⟩ := lv_end k (by omega) (by omega) g hgk
  refine enter (n := 100) (vs := [.int .u8 (p : Int), .int .u8 (q : Int)]) (St w [] []) Try.func4 rfl rfl rfl (St.init hH) ?_
  refine c_seq ?_
  refine c_region _ rfl ?_
  refine l_q rfl (q_assign rfl rfl) rfl rfl ?_
  refine l_nil ?_
  refine k_then ?_
  refine c_seq ?_
  refine c_region _ rfl ?_
  refine l_e rfl ?_
  refine e_call_03 (new_spec) rfl rfl rfl Try.call10 rfl (fun _ _ => trivial) ?_
  intro b _
  refine l_q rfl (q_assign rfl rfl) rfl rfl ?_
  refine l_nil ?_
  refine k_then ?_
  refine c_seq ?_
  refine c_seq ?_
  refine c_region _ rfl ?_
  refine l_q rfl (q_move rfl rfl) rfl rfl ?_
  refine l_q rfl (q_eqp rfl Try.underlying23 rfl rfl) rfl rfl ?_
  refine l_nil ?_
  refine k_then ?_
  refine Pre.setB (t := 14) (c := false) rfl (rfl) ?_
  refine c_false rfl ?_
  refine c_skip ?_
  refine k_then ?_
  refine c_seq ?_
  refine c_region _ rfl ?_
  refine l_q rfl (q_move rfl rfl) rfl rfl ?_
  refine l_q rfl (q_rem_nn rfl rfl rfl (by omega) (by omega)) rfl rfl ?_
  refine l_q rfl (q_conv_in rfl Try.underlying5 Try.underlying3 rfl (by first | rfl | (simp only [IntKind.wrap]; omega) | exact wrap64_in (by omega))) rfl rfl ?_
  refine l_q rfl (q_add64 rfl rfl rfl (by omega)) rfl rfl ?_
  refine l_q rfl (q_assign rfl rfl) rfl rfl ?_
  refine l_nil ?_
  refine k_then ?_
  refine c_seq ?_
  refine c_seq ?_
  refine c_region _ rfl ?_
  refine l_q rfl (q_move rfl rfl) rfl rfl ?_
  refine pull2 ?_
  refine pull2 ?_
  refine pull2 ?_
  refine l_e rfl ?_
  refine e_call_33 (take_spec new_ok (by omega) b (.slice none 0 0) (.slice none 0 0) 90 false) rfl rfl rfl Try.call12 rfl (fun _ _ => trivial) ?_
  intro q1 _
  refine l_q rfl (q_not rfl rfl) rfl rfl ?_
  refine l_q rfl (q_move rfl rfl) rfl rfl ?_
  refine Pre.setB (t := 22) (c := false) rfl (by decide +kernel) ?_
  refine l_q rfl (q_move rfl rfl) rfl rfl ?_
  refine pull2 ?_
  refine pull2 ?_
  refine pull2 ?_
  refine l_e rfl ?_
  refine e_call_33 (take_spec (take_ok new_ok 90 false) (by omega) b q1.1 q1.2 91 true) rfl rfl rfl Try.call12 rfl (fun _ _ => trivial) ?_
  intro q2 _
  refine l_q rfl (q_pick_f rfl rfl rfl) rfl rfl ?_
  refine l_nil ?_
  refine k_then ?_
  refine Pre.setB (t := 25) (c := false) rfl (by decide +kernel) ?_
  refine c_false rfl ?_
  refine c_skip ?_
  refine k_then ?_
  refine c_seq ?_
  refine c_seq ?_
  refine c_region _ rfl ?_
  refine l_q rfl (q_assign rfl rfl) rfl rfl ?_
  refine l_nil ?_
  refine k_then ?_
  refine c_block ?_
  refine Pre.setV (t := 6) (c := .int .i64 (k : Int)) rfl (by congr 1; omega) ?_
  refine c_loop3 (fun (i : Nat) (vR : Value) (vQ : Value) => [(1, .int .u8 (q : Int)), (5, .pointer (some ⟨b, 0, none⟩)), (6, .int .i64 (k : Int)), (7, .int .i64 (i : Int))]) (fun (i : Nat) (vR : Value) (vQ : Value) => St w [] (LT b vR vQ (lv i))) (fun (i : Nat) (vR : Value) (vQ : Value) => i ≤ k) (fun (i : Nat) (vR : Value) (vQ : Value) => k - i) (0) (q2.1) (q2.2) (Nat.zero_le _) (Sub.cons rfl (Sub.cons rfl (Sub.cons rfl (Sub.cons rfl (Sub.nil))))) (fun _ h => h) ?_
  intro i vR vQ hi
  refine c_seq ?_
  refine c_seq ?_
  refine c_region _ rfl ?_
  refine l_q rfl (q_move rfl rfl) rfl rfl ?_
  refine l_q rfl (q_move rfl rfl) rfl rfl ?_
  refine l_q rfl (q_lss rfl rfl rfl) rfl rfl ?_
  refine l_nil ?_
  refine k_then ?_
  refine Pre.caseB 28 rfl (fun h1 => ?_) (fun h1 => ?_)
  · try simp only [decide_eq_true_eq, decide_eq_false_iff_not, Bool.not_eq_true', Bool.not_eq_false'] at h1
    refine c_true rfl ?_
    refine c_skip ?_
    refine k_then ?_
    refine c_seq ?_
    refine c_block ?_
    refine c_seq ?_
    refine c_region _ rfl ?_
    refine l_q rfl (q_move rfl rfl) rfl rfl ?_
    refine l_q rfl (q_move rfl rfl) rfl rfl ?_
    refine pull2 ?_
    refine pull2 ?_
    refine pull2 ?_
    refine l_e rfl ?_
    refine e_call_33 (take_spec (lv_ok i) (by omega) b vR vQ (i : Int) false) rfl rfl rfl Try.call12 rfl (fun _ _ => trivial) ?_
    intro q3 _
    refine l_nil ?_
    refine k_then ?_
    refine Pre.setB (t := 33) (c := false) rfl (lv_no i (by omega)) ?_
    refine c_false rfl ?_
    refine c_skip ?_
    refine k_block ?_
    refine k_then ?_
    refine c_region _ rfl ?_
    refine l_q rfl (q_move rfl rfl) rfl rfl ?_
    refine l_q rfl (q_inc rfl rfl rfl (by omega)) rfl rfl ?_
    refine l_q rfl (q_assign rfl rfl) rfl rfl ?_
    refine l_nil ?_
    exact k_round ((i + 1, q3.1, q3.2)) (by dsimp only; omega) (by dsimp only; omega) (Sub.cons rfl (Sub.cons rfl (Sub.cons rfl (Sub.cons rfl (Sub.nil))))) (fun _ h => h)
  · try simp only [decide_eq_true_eq, decide_eq_false_iff_not, Bool.not_eq_true', Bool.not_eq_false'] at h1
    have hik : i = k := by omega
    subst hik
    refine c_false rfl ?_
    refine c_exit ?_
    refine k_then_exit ?_
    refine k_then_exit ?_
    refine k_block_exit ?_
    refine k_then ?_
    refine c_seq ?_
    refine c_region _ rfl ?_
    refine l_q rfl (q_move rfl rfl) rfl rfl ?_
    refine l_q rfl (q_conv_in rfl Try.underlying5 Try.underlying3 rfl (by first | rfl | (simp only [IntKind.wrap]; omega) | exact wrap64_in (by omega))) rfl rfl ?_
    refine l_q rfl (q_move rfl rfl) rfl rfl ?_
    refine l_q rfl (q_rem_nn rfl rfl rfl (by omega) (by omega)) rfl rfl ?_
    refine l_q rfl (q_assign rfl rfl) rfl rfl ?_
    refine l_nil ?_
    refine k_then ?_
    refine c_seq ?_
    refine c_region _ rfl ?_
    refine l_q rfl (q_move rfl rfl) rfl rfl ?_
    refine l_q rfl (q_move rfl rfl) rfl rfl ?_
    refine Pre.setV (t := 39) (c := .int .i64 (g : Int)) rfl (by rw [hg]; first | rfl | simp) ?_
    have hok1 := drop_ok (lv_ok i) (g : Int)
    have hok2 : (lm i g).2.Ok (i + 2) := drop_ok hok1 91
    refine pull2 ?_
    refine pull2 ?_
    refine pull2 ?_
    refine l_e rfl ?_
    refine e_call_34 (drop_spec (lv_ok i) (by omega) b vR vQ (g : Int)) rfl rfl rfl Try.call13 rfl (fun _ _ => trivial) ?_
    intro q4 _
    refine l_q rfl (q_assign rfl rfl) rfl rfl ?_
    refine l_nil ?_
    refine k_then ?_
    refine c_seq ?_
    refine c_region _ rfl ?_
    refine l_q rfl (q_move rfl rfl) rfl rfl ?_
    refine pull3 ?_
    refine pull3 ?_
    refine pull3 ?_
    refine l_e rfl ?_
    refine e_call_34 (drop_spec hok1 (by omega) b q4.2.1 q4.2.2 91) rfl rfl rfl Try.call13 rfl (fun _ _ => trivial) ?_
    intro vb _
    refine l_q rfl (q_assign rfl rfl) rfl rfl ?_
    refine l_nil ?_
    refine k_then ?_
    refine c_seq ?_
    refine c_seq ?_
    refine c_region _ rfl ?_
    refine l_q rfl (q_move rfl rfl) rfl rfl ?_
    refine l_q rfl (q_lenV rfl Try.underlying27 rfl (fun _ h => h.rd 4 rfl)) rfl rfl ?_
    refine l_q rfl (q_neq rfl rfl rfl) rfl rfl ?_
    refine l_q rfl (q_move rfl rfl) rfl rfl ?_
    have f22 : (dropL (dropL (lv i) g).2 91).1.length = i - 1 := f2
    refine Pre.setV (t := 8) (c := .int .i64 (g : Int)) rfl (by rw [hg]; first | rfl | simp) ?_
    refine Pre.setB (t := 46) (c := false) rfl (by first | (simp [f1, f22, f3, f4]; done) | (simp [f1, f22, f3, f4]; omega)) ?_
    refine l_q rfl (q_move rfl rfl) rfl rfl ?_
    refine l_q rfl (q_lenV rfl Try.underlying27 rfl (fun _ h => h.rd 0 rfl)) rfl rfl ?_
    refine l_q rfl (q_move rfl rfl) rfl rfl ?_
    refine l_q rfl (q_sub64 rfl rfl rfl (by omega)) rfl rfl ?_
    refine l_q rfl (q_neq rfl rfl rfl) rfl rfl ?_
    refine l_q rfl (q_pick_f rfl rfl rfl) rfl rfl ?_
    refine l_q rfl (q_move rfl rfl) rfl rfl ?_
    refine Pre.setB (t := 53) (c := false) rfl (by first | (simp [f1, f22, f3, f4]; done) | (simp [f1, f22, f3, f4]; omega)) ?_
    refine l_q rfl (q_move rfl rfl) rfl rfl ?_
    refine pull3 ?_
    refine pull3 ?_
    refine pull3 ?_
    refine l_e rfl ?_
    refine e_call_33 (writer_spec hok2 (by omega) b vb.2.1 vb.2.2 ) rfl rfl rfl Try.call15 rfl (fun _ _ => trivial) ?_
    intro _ _
    refine l_q rfl (q_neq rfl rfl rfl) rfl rfl ?_
    refine l_q rfl (q_pick_f rfl rfl rfl) rfl rfl ?_
    refine l_q rfl (q_move rfl rfl) rfl rfl ?_
    refine Pre.setB (t := 58) (c := false) rfl (by first | (simp [f1, f22, f3, f4]; done) | (simp [f1, f22, f3, f4]; omega)) ?_
    refine l_q rfl (q_move rfl rfl) rfl rfl ?_
    refine pull2 ?_
    refine pull2 ?_
    refine pull2 ?_
    refine l_e rfl ?_
    refine e_call_34 (readers_spec hok2 (by omega) b vb.2.1 vb.2.2) rfl rfl rfl Try.call16 rfl (fun _ _ => trivial) ?_
    intro q5 _
    refine l_q rfl (q_lenV rfl Try.underlying27 rfl (fun _ h => h.rd 0 rfl)) rfl rfl ?_
    refine l_q rfl (q_move rfl rfl) rfl rfl ?_
    refine l_q rfl (q_neq rfl rfl rfl) rfl rfl ?_
    refine l_q rfl (q_pick_f rfl rfl rfl) rfl rfl ?_
    refine l_nil ?_
    refine k_then ?_
    refine Pre.setB (t := 64) (c := false) rfl (by first | (simp [f1, f22, f3, f4]; done) | (simp [f1, f22, f3, f4]; omega)) ?_
    refine c_false rfl ?_
    refine c_skip ?_
    refine k_then ?_
    refine c_seq ?_
    refine c_seq ?_
    refine c_region _ rfl ?_
    refine l_q rfl (q_assign rfl rfl) rfl rfl ?_
    refine l_nil ?_
    refine k_then ?_
    refine c_block ?_
    refine drop0 ?_
    refine pull4 ?_
    refine drop0 ?_
    refine pull2 ?_
    refine pull2 ?_
    refine pull2 ?_
    refine pull3 ?_
    refine c_loop1 (fun (j : Nat) => [(5, .pointer (some ⟨b, 0, none⟩)), (8, .int .i64 (g : Int)), (10, vb.1), (11, .int .i64 (j : Int))]) (fun (j : Nat) => St w [] (rowE vb.1 3 (encI .i64) (lm i g).1 :: LT b vb.2.1 vb.2.2 (lm i g).2)) (fun (j : Nat) => j ≤ (lm i g).1.length) (fun (j : Nat) => (lm i g).1.length - j) (0) (Nat.zero_le _) (Sub.cons rfl (Sub.cons rfl (Sub.cons rfl (Sub.cons rfl (Sub.nil))))) (fun _ h => h) ?_
    intro j hj
    refine c_seq ?_
    refine c_seq ?_
    refine c_region _ rfl ?_
    refine l_q rfl (q_move rfl rfl) rfl rfl ?_
    refine l_q rfl (q_move rfl rfl) rfl rfl ?_
    refine l_q rfl (q_lenV rfl Try.underlying27 rfl (fun _ h => h.rd 0 rfl)) rfl rfl ?_
    refine l_q rfl (q_lss rfl rfl rfl) rfl rfl ?_
    refine l_nil ?_
    refine k_then ?_
    refine Pre.caseB 68 rfl (fun h2 => ?_) (fun h2 => ?_)
    · try simp only [decide_eq_true_eq, decide_eq_false_iff_not, Bool.not_eq_true', Bool.not_eq_false'] at h2
      obtain ⟨g1, g2⟩ := f6 j (by omega)
      refine c_true rfl ?_
      refine c_skip ?_
      refine k_then ?_
      refine c_seq ?_
      refine c_block ?_
      refine c_seq ?_
      refine c_draw [(0, some true), (1, some true), (2, some true), (3, some true), (4, some true), (5, some true), (6, some true), (7, some true), (8, some true), (9, some true), (10, some true), (11, some true), (12, some true), (13, some true), (14, some true), (15, some true), (16, some true), (17, some true), (18, some true), (19, some true), (20, some true), (21, some true)] [] [(_, some true), (_, some true), (_, some true), (_, some true), (_, some true), (_, some true), (_, some true), (_, some true), (_, some true), (_, some true), (_, some true), (_, some true), (_, some true), (_, some true), (_, some true), (_, some true), (_, some true), (_, some true), (_, some true), (_, some true), (_, some true), (_, some true)] _ (blind_then (blind_block (blind_then (blind_then (blind_block (blind_then blind_body)))))) rfl (by kernel_rfl) (by kernel_rfl) rfl rfl rfl (by kernel_rfl) St.drawn (fun _ h => h) ?_
      refine d_q rfl (q_move rfl rfl) rfl rfl ?_
      refine d_q rfl (q_move rfl rfl) rfl rfl ?_
      refine d_q rfl (q_indexV j rfl Try.underlying27 Try.sizeOf3 rfl (fun _ h => h.rd 0 rfl) rfl rfl (by omega)) rfl rfl ?_
      refine d_q rfl (q_loadV j 0 rfl Try.isAgg3 rfl rfl (fun _ h => h.rd 0 rfl) (gdI (by omega)) rfl) rfl rfl ?_
      refine d_q rfl (q_move rfl rfl) rfl rfl ?_
      refine d_q rfl (q_eql rfl rfl rfl) rfl rfl ?_
      refine d_q rfl (q_move rfl rfl) rfl rfl ?_
      refine Pre.setB (t := 77) (c := false) rfl (decide_eq_false g1) ?_
      refine d_q rfl (q_move rfl rfl) rfl rfl ?_
      refine d_q rfl (q_gtr rfl rfl rfl) rfl rfl ?_
      refine d_q rfl (q_move rfl rfl) rfl rfl ?_
      refine Pre.caseB 80 rfl (fun h3 => ?_) (fun h3 => ?_)
      · try simp only [decide_eq_true_eq, decide_eq_false_iff_not, Bool.not_eq_true', Bool.not_eq_false'] at h3
        refine d_q rfl (q_move rfl rfl) rfl rfl ?_
        refine d_q rfl (q_move rfl rfl) rfl rfl ?_
        refine d_q rfl (q_sub64 rfl rfl rfl (by omega)) rfl rfl ?_
        refine d_q rfl (q_indexV (j - 1) rfl Try.underlying27 Try.sizeOf3 rfl (fun _ h => h.rd 0 rfl) rfl (by omega) (by omega)) rfl rfl ?_
        refine d_q rfl (q_loadV (j - 1) 0 rfl Try.isAgg3 rfl rfl (fun _ h => h.rd 0 rfl) (gdI (by omega)) rfl) rfl rfl ?_
        refine d_q rfl (q_move rfl rfl) rfl rfl ?_
        refine d_q rfl (q_move rfl rfl) rfl rfl ?_
        refine d_q rfl (q_indexV j rfl Try.underlying27 Try.sizeOf3 rfl (fun _ h => h.rd 0 rfl) rfl rfl (by omega)) rfl rfl ?_
        refine d_q rfl (q_loadV j 0 rfl Try.isAgg3 rfl rfl (fun _ h => h.rd 0 rfl) (gdI (by omega)) rfl) rfl rfl ?_
        refine d_q rfl (q_geq rfl rfl rfl) rfl rfl ?_
        refine d_q rfl (q_pick_t rfl rfl rfl) rfl rfl ?_
        refine d_q rfl (q_pick_f rfl rfl rfl) rfl rfl ?_
        refine d_nil ?_
        refine k_then ?_
        refine Pre.setB (t := 92) (c := false) rfl (decide_eq_false (by have := g2 (by omega); omega)) ?_
        refine c_false rfl ?_
        refine c_skip ?_
        refine k_block ?_
        refine k_then ?_
        refine c_region _ rfl ?_
        refine l_q rfl (q_move rfl rfl) rfl rfl ?_
        refine l_q rfl (q_inc rfl rfl rfl (by omega)) rfl rfl ?_
        refine l_q rfl (q_assign rfl rfl) rfl rfl ?_
        refine l_nil ?_
        exact k_round (j + 1) (by omega) (by omega) (Sub.cons rfl (Sub.cons rfl (Sub.cons rfl (Sub.cons rfl (Sub.nil))))) (fun _ h => h)
      · try simp only [decide_eq_true_eq, decide_eq_false_iff_not, Bool.not_eq_true', Bool.not_eq_false'] at h3
        refine d_not rfl rfl rfl ?_
        refine d_not rfl rfl rfl ?_
        refine d_not rfl rfl rfl ?_
        refine d_not rfl rfl rfl ?_
        refine d_not rfl rfl rfl ?_
        refine d_not rfl rfl rfl ?_
        refine d_not rfl rfl rfl ?_
        refine d_not rfl rfl rfl ?_
        refine d_not rfl rfl rfl ?_
        refine d_not rfl rfl rfl ?_
        refine d_q rfl (q_pick_f rfl rfl rfl) rfl rfl ?_
        refine d_q rfl (q_pick_f rfl rfl rfl) rfl rfl ?_
        refine d_nil ?_
        refine k_then ?_
        refine c_false rfl ?_
        refine c_skip ?_
        refine k_block ?_
        refine k_then ?_
        refine c_region _ rfl ?_
        refine l_q rfl (q_move rfl rfl) rfl rfl ?_
        refine l_q rfl (q_inc rfl rfl rfl (by omega)) rfl rfl ?_
        refine l_q rfl (q_assign rfl rfl) rfl rfl ?_
        refine l_nil ?_
        exact k_round (j + 1) (by omega) (by omega) (Sub.cons rfl (Sub.cons rfl (Sub.cons rfl (Sub.cons rfl (Sub.nil))))) (fun _ h => h)
    · try simp only [decide_eq_true_eq, decide_eq_false_iff_not, Bool.not_eq_true', Bool.not_eq_false'] at h2
      refine c_false rfl ?_
      refine c_exit ?_
      refine k_then_exit ?_
      refine k_then_exit ?_
      refine k_block_exit ?_
      refine k_then ?_
      refine c_seq ?_
      refine c_region _ rfl ?_
      refine l_q rfl (q_move rfl rfl) rfl rfl ?_
      refine pull3 ?_
      refine pull3 ?_
      refine pull3 ?_
      refine l_e rfl ?_
      refine e_call_34 (drop_spec hok2 (by omega) b vb.2.1 vb.2.2 77) rfl rfl rfl Try.call13 rfl (fun _ _ => trivial) ?_
      intro q7 _
      refine l_q rfl (q_lenV rfl Try.underlying27 rfl (fun _ h => h.rd 0 rfl)) rfl rfl ?_
      refine l_q rfl (q_eql rfl rfl rfl) rfl rfl ?_
      refine l_q rfl (q_move rfl rfl) rfl rfl ?_
      refine Pre.setB (t := 97) (c := true) rfl (by simp [f5]) ?_
      refine l_e rfl ?_
      refine e_call_00 (awake_spec) rfl rfl rfl Try.call11 rfl (fun _ _ => trivial) ?_
      intro _ _
      refine l_q rfl (q_pick_t rfl rfl rfl) rfl rfl ?_
      refine l_q rfl (q_assign rfl rfl) rfl rfl ?_
      refine l_nil ?_
      refine k_then ?_
      refine c_ret ?_
      refine r_one rfl rfl ?_
      exact fun _ h => ⟨(), rfl, trivial, h.nothing⟩
theorem latchLeaves_walk (w : World) (a0 : Int) (w0 : (Lit.int .u8 a0).wf = true) (a1 : Int) (w1 : (Lit.int .u8 a1).wf = true) :
    Calls Try.prog 4 #[.int .u8 a0, .int .u8 a1] w fun e w' => e = .returned (.bool true) ∧ Below w.heap.size w w' := by
  obtain ⟨p, rfl, hp⟩ := u8_nat w0
  obtain ⟨q, rfl, hq⟩ := u8_nat w1
  exact con_walk (leaves_spec p q hp hq) trivial
end Go.Proofs.Ytlakembncfkimaa
