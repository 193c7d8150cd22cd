/- KeyTwo, walked -/
import Derived.Test.YtaojcncmbbgmcaaW
set_option linter.unusedVariables false
set_option linter.unusedSimpArgs false
namespace Go.Proofs.Ytaojcncmbbgmcaa
open Go.Sep Go.RowKit

set_option maxRecDepth 100000 in
set_option maxHeartbeats 1000000 in
theorem two_spec (a b : Kv 8) : Con Try.prog 4 [.agg a.c.toArray, .agg b.c.toArray] (fun _ => True) [] (fun _ : Unit => .bool true) (fun _ => True) (fun _ => []) := by
  intro w hE hH
  refine enter (n := 58) (vs := [.agg a.c.toArray, .agg b.c.toArray]) (St w [] []) Try.func4 rfl rfl rfl (St.init hH) ?_
  refine c_seq ?_
  refine c_region _ rfl ?_
  refine l_e rfl ?_
  refine e_box rfl rfl rfl rfl ?_
  intro ba
  refine cells_eq (show _ = a.c from rfl) ?_
  refine l_e rfl ?_
  refine e_box rfl rfl rfl rfl ?_
  intro bb
  refine cells_eq (show _ = b.c from rfl) ?_
  refine l_q rfl (q_assign rfl rfl) rfl rfl ?_
  refine l_nil ?_
  refine k_then ?_
  refine c_seq ?_
  refine c_seq ?_
  refine c_region _ rfl ?_
  refine l_q rfl (q_loadCAgg (a.c) rfl Try.isAgg24 Try.sizeOf24 rfl (fun _ h => h.at 1 rfl) (kv_whole _) (Kv.c_len _)) rfl rfl ?_
  refine l_e rfl ?_
  refine e_call_00 (rkcheck_spec a) rfl rfl rfl Try.call14 rfl (fun _ _ => trivial) ?_
  intro _ _
  refine l_q rfl (q_not rfl rfl) rfl rfl ?_
  refine l_q rfl (q_move rfl rfl) rfl rfl ?_
  refine Pre.caseB 12 rfl (fun hk0 => ?_) (fun hk0 => ?_)
  · try simp only [Bool.not_eq_true', Bool.not_eq_false'] at hk0
    refine l_not rfl rfl rfl ?_
    refine l_not rfl rfl rfl ?_
    refine l_not rfl rfl rfl ?_
    refine l_q rfl (q_pick_t rfl rfl rfl) rfl rfl ?_
    refine l_nil ?_
    refine k_then ?_
    refine c_true rfl ?_
    refine c_seq ?_
    refine c_region _ rfl ?_
    refine l_e rfl ?_
    refine e_call_00 (awake_spec) rfl rfl rfl Try.call10 rfl (fun _ _ => trivial) ?_
    intro _ _
    refine l_q rfl (q_assign rfl rfl) rfl rfl ?_
    refine l_nil ?_
    refine k_then ?_
    refine c_ret ?_
    refine k_then_ret ?_
    refine r_one rfl rfl ?_
    exact fun _ h => ⟨(), rfl, trivial, h.nothing⟩
  · try simp only [Bool.not_eq_true', Bool.not_eq_false'] at hk0
    refine l_q rfl (q_loadCAgg (b.c) rfl Try.isAgg24 Try.sizeOf24 rfl (fun _ h => h.at 0 rfl) (kv_whole _) (Kv.c_len _)) rfl rfl ?_
    refine l_e rfl ?_
    refine e_call_00 (rkcheck_spec b) rfl rfl rfl Try.call14 rfl (fun _ _ => trivial) ?_
    intro _ _
    refine l_q rfl (q_not rfl rfl) rfl rfl ?_
    refine l_q rfl (q_pick_f rfl rfl rfl) rfl rfl ?_
    refine l_nil ?_
    refine k_then ?_
    refine Pre.caseB 16 rfl (fun hk1 => ?_) (fun hk1 => ?_)
    · try simp only [Bool.not_eq_true', Bool.not_eq_false'] at hk1
      refine c_true rfl ?_
      refine c_seq ?_
      refine c_region _ rfl ?_
      refine l_e rfl ?_
      refine e_call_00 (awake_spec) rfl rfl rfl Try.call10 rfl (fun _ _ => trivial) ?_
      intro _ _
      refine l_q rfl (q_assign rfl rfl) rfl rfl ?_
      refine l_nil ?_
      refine k_then ?_
      refine c_ret ?_
      refine k_then_ret ?_
      refine r_one rfl rfl ?_
      exact fun _ h => ⟨(), rfl, trivial, h.nothing⟩
    · try simp only [Bool.not_eq_true', Bool.not_eq_false'] at hk1
      refine c_false rfl ?_
      refine c_skip ?_
      refine k_then ?_
      refine c_seq ?_
      refine c_region _ rfl ?_
      refine l_q rfl (q_loadCAgg (a.c) rfl Try.isAgg24 Try.sizeOf24 rfl (fun _ h => h.at 1 rfl) (kv_whole _) (Kv.c_len _)) rfl rfl ?_
      refine l_e rfl ?_
      refine e_call_00 (next_spec a hk0) rfl rfl rfl Try.call22 rfl (fun _ _ => trivial) ?_
      intro z hz
      refine l_q rfl (q_move rfl rfl) rfl rfl ?_
      refine l_q rfl (q_extract rfl rfl rfl) rfl rfl ?_
      refine l_q rfl (q_extract rfl rfl rfl) rfl rfl ?_
      refine l_e rfl ?_
      refine e_alloc rfl rfl rfl Try.zeroValue24 ?_
      intro bn
      refine cells_eq (show _ = kc 0 z8 from rfl) ?_
      refine l_e rfl ?_
      refine e_storeAgg rfl rfl Try.sizeOf24 rfl rfl (Kv.c_len _) (Kv.one _) (by rw [show ((z.1).c).length = 9 from Kv.c_len _, kc_len z8_len]; decide) ?_
      refine cells_eq (show Sep.splice _ 0 (z.1).c = (z.1).c from Sep.splice_all (by rw [Kv.c_len, kc_len z8_len])) ?_
      refine l_q rfl (q_assign rfl rfl) rfl rfl ?_
      refine l_nil ?_
      refine k_then ?_
      refine c_seq ?_
      refine c_region _ rfl ?_
      refine l_q rfl (q_loadCAgg (a.c) rfl Try.isAgg24 Try.sizeOf24 rfl (fun _ h => h.at 2 rfl) (kv_whole _) (Kv.c_len _)) rfl rfl ?_
      refine l_e rfl ?_
      refine e_call_00 (rnext_spec a hk0) rfl rfl rfl Try.call23 rfl (fun _ _ => trivial) ?_
      intro y hy
      refine l_q rfl (q_move rfl rfl) rfl rfl ?_
      refine l_q rfl (q_extract rfl rfl rfl) rfl rfl ?_
      refine l_q rfl (q_extract rfl rfl rfl) rfl rfl ?_
      have hzy := NextOf.eq hy hz
      refine l_e rfl ?_
      refine e_alloc rfl rfl rfl Try.zeroValue24 ?_
      intro bm
      refine cells_eq (show _ = kc 0 z8 from rfl) ?_
      refine l_e rfl ?_
      refine e_storeAgg rfl rfl Try.sizeOf24 rfl rfl (Kv.c_len _) (Kv.one _) (by rw [show ((y.1).c).length = 9 from Kv.c_len _, kc_len z8_len]; decide) ?_
      refine cells_eq (show Sep.splice _ 0 (y.1).c = (y.1).c from Sep.splice_all (by rw [Kv.c_len, kc_len z8_len])) ?_
      refine l_q rfl (q_assign rfl rfl) rfl rfl ?_
      refine l_nil ?_
      refine k_then ?_
      refine c_seq ?_
      refine c_draw [(0, some true), (1, some true), (3, some true), (4, some true), (2, some false), (5, some false), (6, some true), (7, some true), (8, some true), (9, some true), (11, some true), (12, some true), (10, some false), (13, some false), (14, some true), (15, some true), (16, some true), (17, some true), (18, some true), (19, some true), (20, some true), (21, some true), (22, some true), (23, some true), (24, some true), (25, some true), (26, some true), (27, some true), (28, some false), (29, some true), (30, some true)] [] [(_, some true), (_, some true), (_, some true), (_, some true), (_, some false), (_, some false), (_, some true), (_, some true), (_, some true), (_, some true), (_, some true), (_, some true), (_, some false), (_, some false), (_, some true), (_, some true), (_, some true), (_, some true), (_, some true), (_, some true), (_, some true), (_, some true), (_, some true), (_, some true), (_, some true), (_, some true), (_, some true), (_, some true), (_, some false), (_, some true), (_, some true)] (fun w2 => (cellsE ba 24 a.c).at w2 ∧ (cellsE bb 24 b.c).at w2 ∧ (cellsE bn 24 z.1.c).at w2 ∧ (cellsE bm 24 y.1.c).at w2) (blind_then blind_body) rfl (by kernel_rfl) (by kernel_rfl) rfl rfl rfl (by kernel_rfl) St.drawn (fun _ h => ⟨h.at 3 rfl, h.at 2 rfl, h.at 1 rfl, h.at 0 rfl⟩) ?_
      refine d_q rfl (q_loadCAgg (a.c) rfl Try.isAgg24 Try.sizeOf24 rfl (fun _ h => h.1) (kv_whole _) (Kv.c_len _)) rfl rfl ?_
      refine d_q rfl (q_loadCAgg (b.c) rfl Try.isAgg24 Try.sizeOf24 rfl (fun _ h => h.2.1) (kv_whole _) (Kv.c_len _)) rfl rfl ?_
      refine d_q rfl (q_loadCAgg (a.c) rfl Try.isAgg24 Try.sizeOf24 rfl (fun _ h => h.1) (kv_whole _) (Kv.c_len _)) rfl rfl ?_
      refine d_q rfl (q_loadCAgg (b.c) rfl Try.isAgg24 Try.sizeOf24 rfl (fun _ h => h.2.1) (kv_whole _) (Kv.c_len _)) rfl rfl ?_
      have hn := lex_neg (tx a) (tx b)
      have hr := lex_range (tx a) (tx b)
      refine d_e rfl ?_
      refine e_call_00 (cmp_spec a b) rfl rfl rfl Try.call24 rfl (fun _ _ => trivial) ?_
      intro _ _
      refine d_held (fun _ h => ⟨h.at 3 rfl, h.at 2 rfl, h.at 1 rfl, h.at 0 rfl⟩) ?_
      refine d_e rfl ?_
      refine e_call_00 (rcmp_spec a b hk0 hk1) rfl rfl rfl Try.call25 rfl (fun _ _ => trivial) ?_
      intro _ _
      refine d_held (fun _ h => ⟨h.at 3 rfl, h.at 2 rfl, h.at 1 rfl, h.at 0 rfl⟩) ?_
      refine d_q rfl (q_eql rfl rfl rfl) rfl rfl ?_
      refine d_q rfl (q_move rfl rfl) rfl rfl ?_
      refine Pre.setB (t := 35) (c := true) rfl (by first | (simp; done) | (rw [hzy]; simp; done) | (refine decide_eq_true ?_; rw [wrap64_in (by unfold kcmp; omega)]; unfold kcmp; omega)) ?_
      refine d_q rfl (q_loadCAgg (b.c) rfl Try.isAgg24 Try.sizeOf24 rfl (fun _ h => h.2.1) (kv_whole _) (Kv.c_len _)) rfl rfl ?_
      refine d_q rfl (q_loadCAgg (a.c) rfl Try.isAgg24 Try.sizeOf24 rfl (fun _ h => h.1) (kv_whole _) (Kv.c_len _)) rfl rfl ?_
      refine d_q rfl (q_loadCAgg (a.c) rfl Try.isAgg24 Try.sizeOf24 rfl (fun _ h => h.1) (kv_whole _) (Kv.c_len _)) rfl rfl ?_
      refine d_q rfl (q_loadCAgg (b.c) rfl Try.isAgg24 Try.sizeOf24 rfl (fun _ h => h.2.1) (kv_whole _) (Kv.c_len _)) rfl rfl ?_
      refine d_e rfl ?_
      refine e_call_00 (cmp_spec b a) rfl rfl rfl Try.call24 rfl (fun _ _ => trivial) ?_
      intro _ _
      refine d_held (fun _ h => ⟨h.at 3 rfl, h.at 2 rfl, h.at 1 rfl, h.at 0 rfl⟩) ?_
      refine d_e rfl ?_
      refine e_call_00 (cmp_spec a b) rfl rfl rfl Try.call24 rfl (fun _ _ => trivial) ?_
      intro _ _
      refine d_held (fun _ h => ⟨h.at 3 rfl, h.at 2 rfl, h.at 1 rfl, h.at 0 rfl⟩) ?_
      refine d_q rfl (q_neg rfl rfl) rfl rfl ?_
      refine d_q rfl (q_eql rfl rfl rfl) rfl rfl ?_
      refine d_q rfl (q_pick_t rfl rfl rfl) rfl rfl ?_
      refine d_q rfl (q_move rfl rfl) rfl rfl ?_
      refine Pre.setB (t := 45) (c := true) rfl (by first | (simp; done) | (rw [hzy]; simp; done) | (refine decide_eq_true ?_; rw [wrap64_in (by unfold kcmp; omega)]; unfold kcmp; omega)) ?_
      refine d_q rfl (q_loadCAgg (z.1.c) rfl Try.isAgg24 Try.sizeOf24 rfl (fun _ h => h.2.2.1) (kv_whole _) (Kv.c_len _)) rfl rfl ?_
      refine d_q rfl (q_loadCAgg (y.1.c) rfl Try.isAgg24 Try.sizeOf24 rfl (fun _ h => h.2.2.2) (kv_whole _) (Kv.c_len _)) rfl rfl ?_
      refine d_q rfl (q_eqK (z.1) (y.1) rfl rfl rfl) rfl rfl ?_
      refine d_q rfl (q_pick_t rfl rfl rfl) rfl rfl ?_
      refine d_q rfl (q_move rfl rfl) rfl rfl ?_
      refine Pre.setB (t := 50) (c := true) rfl (by first | (simp; done) | (rw [hzy]; simp; done) | (refine decide_eq_true ?_; rw [wrap64_in (by unfold kcmp; omega)]; unfold kcmp; omega)) ?_
      refine d_q rfl (q_move rfl rfl) rfl rfl ?_
      refine d_q rfl (q_move rfl rfl) rfl rfl ?_
      refine d_q rfl (q_eqb rfl Try.underlying4 rfl rfl) rfl rfl ?_
      refine d_q rfl (q_pick_t rfl rfl rfl) rfl rfl ?_
      refine d_q rfl (q_move rfl rfl) rfl rfl ?_
      refine Pre.setB (t := 55) (c := true) rfl (by first | (simp; done) | (rw [hzy]; simp; done) | (refine decide_eq_true ?_; rw [wrap64_in (by unfold kcmp; omega)]; unfold kcmp; omega)) ?_
      refine d_e rfl ?_
      refine e_call_00 (awake_spec) rfl rfl rfl Try.call10 rfl (fun _ _ => trivial) ?_
      intro _ _
      refine d_held (fun _ h => ⟨h.at 3 rfl, h.at 2 rfl, h.at 1 rfl, h.at 0 rfl⟩) ?_
      refine d_q rfl (q_pick_t rfl rfl rfl) rfl rfl ?_
      refine d_q rfl (q_assign rfl rfl) rfl rfl ?_
      refine d_nil ?_
      refine k_then ?_
      refine c_ret ?_
      refine r_one rfl rfl ?_
      exact fun _ h => ⟨(), rfl, trivial, h.nothing⟩
def kinds_0 : List Sc := Kv.ks 8
def kinds_1 : List Sc := Kv.ks 8
theorem kv_mk {m : Nat} {x : List Value} (h : Kinds (Kv.ks m) x) : ∃ k : Kv m, x = k.c := by
  obtain ⟨h1, h2⟩ := h
  cases x with
  | nil => simp [Kv.ks] at h1
  | cons u x =>
    obtain ⟨z, rfl, hz⟩ := h2 0 (.i .i64) u rfl rfl
    have hl : x.length = m := by simp [Kv.ks] at h1; omega
    have hall : ∀ v ∈ x, ∃ y, v = .int .u8 y ∧ (Lit.int .u8 y).wf = true := fun v hv => by
      obtain ⟨i, hi, rfl⟩ := List.mem_iff_getElem.1 hv
      have hi2 : i < m := by omega
      exact h2 (i + 1) (.i .u8) x[i] (by simp [Kv.ks, hi2]) (by simp [hi])
    clear h1 h2
    have key : ∀ x : List Value, (∀ v ∈ x, ∃ y, v = .int .u8 y ∧ (Lit.int .u8 y).wf = true) → ∃ b : List Int, x = b.map (.int .u8) ∧ ∀ y ∈ b, (Lit.int .u8 y).wf = true := by
      intro x
      induction x with
      | nil => intro _; exact ⟨[], rfl, by simp⟩
      | cons v x ih =>
        intro h
        obtain ⟨y, rfl, hy⟩ := h v (List.mem_cons_self ..)
        obtain ⟨b, rfl, hb⟩ := ih (fun u hu => h u (List.mem_cons_of_mem _ hu))
        exact ⟨y :: b, rfl, fun q hq => by rcases List.mem_cons.1 hq with rfl | hq; exact hy; exact hb q hq⟩
    obtain ⟨b, rfl, hb⟩ := key x hall
    exact ⟨⟨z, b, by simpa using hl, hz, hb⟩, rfl⟩

theorem keyTwo_walk (w : World) (x0 : Array Value) (kk0 : Kinds kinds_0 x0.toList) (x1 : Array Value) (kk1 : Kinds kinds_1 x1.toList) :
    Calls Try.prog 4 #[.agg x0, .agg x1] w fun e w' => e = .returned (.bool true) ∧ Below w.heap.size w w' := by
  obtain ⟨a, h0⟩ := kv_mk kk0
  obtain ⟨b, h1⟩ := kv_mk kk1
  have h := con_walk (two_spec a b) (w := w) trivial
  have e0 : x0 = a.c.toArray := by rw [← h0]
  have e1 : x1 = b.c.toArray := by rw [← h1]
  subst e0 e1
  exact h
end Go.Proofs.Ytaojcncmbbgmcaa
