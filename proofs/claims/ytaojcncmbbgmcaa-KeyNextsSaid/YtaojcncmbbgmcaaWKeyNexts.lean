/- KeyNexts, walked -/
import Derived.Test.YtaojcncmbbgmcaaPf
set_option linter.unusedVariables false
set_option linter.unusedSimpArgs false
namespace Go.Proofs.Ytaojcncmbbgmcaa
open Go.Sep Go.RowKit

set_option maxRecDepth 100000 in
set_option maxHeartbeats 1000000 in
theorem nexts_spec (a b : Kv 8) : Con Try.prog 6 [.agg a.c.toArray, .agg b.c.toArray] (fun _ => True) [] (fun _ : Unit => .bool true) (fun _ => True) (fun _ => []) := by
  intro w hE hH
  refine enter (n := 78) (vs := [.agg a.c.toArray, .agg b.c.toArray]) (St w [] []) Try.func6 rfl rfl rfl (St.init hH) ?_
  refine c_seq ?_
  refine c_region _ rfl ?_
  refine l_e rfl ?_
  refine e_box rfl rfl rfl rfl ?_
  intro ba
  refine cells_eq (show _ = a.c from rfl) ?_
  refine l_e rfl ?_
  refine e_box rfl rfl rfl rfl ?_
  intro bb
  refine cells_eq (show _ = b.c from rfl) ?_
  refine l_q rfl (q_assign rfl rfl) rfl rfl ?_
  refine l_nil ?_
  refine k_then ?_
  refine c_seq ?_
  refine c_seq ?_
  refine c_region _ rfl ?_
  refine l_q rfl (q_loadCAgg (a.c) rfl Try.isAgg24 Try.sizeOf24 rfl (fun _ h => h.at 1 rfl) (kv_whole _) (Kv.c_len _)) rfl rfl ?_
  refine l_e rfl ?_
  refine e_call_00 (rkcheck_spec a) rfl rfl rfl Try.call14 rfl (fun _ _ => trivial) ?_
  intro _ _
  refine l_q rfl (q_not rfl rfl) rfl rfl ?_
  refine l_q rfl (q_move rfl rfl) rfl rfl ?_
  refine Pre.caseB 12 rfl (fun hk0 => ?_) (fun hk0 => ?_)
  · try simp only [Bool.not_eq_true', Bool.not_eq_false'] at hk0
    refine l_not rfl rfl rfl ?_
    refine l_not rfl rfl rfl ?_
    refine l_not rfl rfl rfl ?_
    refine l_q rfl (q_pick_t rfl rfl rfl) rfl rfl ?_
    refine l_nil ?_
    refine k_then ?_
    refine c_true rfl ?_
    refine c_seq ?_
    refine c_region _ rfl ?_
    refine l_e rfl ?_
    refine e_call_00 (awake_spec) rfl rfl rfl Try.call10 rfl (fun _ _ => trivial) ?_
    intro _ _
    refine l_q rfl (q_assign rfl rfl) rfl rfl ?_
    refine l_nil ?_
    refine k_then ?_
    refine c_ret ?_
    refine k_then_ret ?_
    refine r_one rfl rfl ?_
    exact fun _ h => ⟨(), rfl, trivial, h.nothing⟩
  · try simp only [Bool.not_eq_true', Bool.not_eq_false'] at hk0
    refine l_q rfl (q_loadCAgg (b.c) rfl Try.isAgg24 Try.sizeOf24 rfl (fun _ h => h.at 0 rfl) (kv_whole _) (Kv.c_len _)) rfl rfl ?_
    refine l_e rfl ?_
    refine e_call_00 (rkcheck_spec b) rfl rfl rfl Try.call14 rfl (fun _ _ => trivial) ?_
    intro _ _
    refine l_q rfl (q_not rfl rfl) rfl rfl ?_
    refine l_q rfl (q_pick_f rfl rfl rfl) rfl rfl ?_
    refine l_nil ?_
    refine k_then ?_
    refine Pre.caseB 16 rfl (fun hk1 => ?_) (fun hk1 => ?_)
    · try simp only [Bool.not_eq_true', Bool.not_eq_false'] at hk1
      refine c_true rfl ?_
      refine c_seq ?_
      refine c_region _ rfl ?_
      refine l_e rfl ?_
      refine e_call_00 (awake_spec) rfl rfl rfl Try.call10 rfl (fun _ _ => trivial) ?_
      intro _ _
      refine l_q rfl (q_assign rfl rfl) rfl rfl ?_
      refine l_nil ?_
      refine k_then ?_
      refine c_ret ?_
      refine k_then_ret ?_
      refine r_one rfl rfl ?_
      exact fun _ h => ⟨(), rfl, trivial, h.nothing⟩
    · try simp only [Bool.not_eq_true', Bool.not_eq_false'] at hk1
      refine c_false rfl ?_
      refine c_skip ?_
      refine k_then ?_
      refine c_seq ?_
      refine c_region _ rfl ?_
      refine l_q rfl (q_loadCAgg (a.c) rfl Try.isAgg24 Try.sizeOf24 rfl (fun _ h => h.at 1 rfl) (kv_whole _) (Kv.c_len _)) rfl rfl ?_
      refine l_e rfl ?_
      refine e_call_00 (next_spec a hk0) rfl rfl rfl Try.call22 rfl (fun _ _ => trivial) ?_
      intro z hz
      refine l_q rfl (q_move rfl rfl) rfl rfl ?_
      refine l_q rfl (q_extract rfl rfl rfl) rfl rfl ?_
      refine l_q rfl (q_extract rfl rfl rfl) rfl rfl ?_
      refine l_e rfl ?_
      refine e_alloc rfl rfl rfl Try.zeroValue24 ?_
      intro bn
      refine cells_eq (show _ = kc 0 z8 from rfl) ?_
      refine l_e rfl ?_
      refine e_storeAgg rfl rfl Try.sizeOf24 rfl rfl (Kv.c_len _) (Kv.one _) (by rw [show ((z.1).c).length = 9 from Kv.c_len _, kc_len z8_len]; decide) ?_
      refine cells_eq (show Sep.splice _ 0 (z.1).c = (z.1).c from Sep.splice_all (by rw [Kv.c_len, kc_len z8_len])) ?_
      refine l_q rfl (q_assign rfl rfl) rfl rfl ?_
      refine l_nil ?_
      refine k_then ?_
      refine c_seq ?_
      refine c_region _ rfl ?_
      refine l_q rfl (q_fieldAddr rfl Try.underlying24 rfl Try.sizeOf3 rfl rfl) rfl rfl ?_
      refine l_q rfl (q_loadC rfl Try.isAgg3 rfl (fun _ h => h.at 2 rfl) rfl) rfl rfl ?_
      refine l_q rfl (q_eql rfl rfl rfl) rfl rfl ?_
      refine l_q rfl (q_assign rfl rfl) rfl rfl ?_
      refine l_nil ?_
      refine k_then ?_
      refine c_seq ?_
      refine c_seq ?_
      refine c_region _ rfl ?_
      refine l_q rfl (q_assign rfl rfl) rfl rfl ?_
      refine l_nil ?_
      refine k_then ?_
      refine c_block ?_
      obtain ⟨f1, f2, f3⟩ := next_facts (b := b) hk0 hz
      have hl := last_iff a
      refine pull1 ?_
      refine pull2 ?_
      refine c_loop1 (fun (i : Nat) => [(2, .pointer (some ⟨ba, 0, none⟩)), (3, .pointer (some ⟨bb, 0, none⟩)), (5, .pointer (some ⟨bn, 0, none⟩)), (6, .bool z.2), (7, .bool (lastB a i)), (8, .int .i64 (i : Int))]) (fun (i : Nat) => St w [] [cellsE ba 24 a.c, cellsE bb 24 b.c, cellsE bn 24 z.1.c]) (fun (i : Nat) => i ≤ 8) (fun (i : Nat) => 8 - i) (0) (Nat.zero_le _) (Sub.cons rfl (Sub.cons rfl (Sub.cons rfl (Sub.cons rfl (Sub.consE rfl (by simp [lastB]) (Sub.cons rfl Sub.nil)))))) (fun _ h => h) ?_
      intro i hi
      refine c_seq ?_
      refine c_seq ?_
      have hsu := last_succ a i
      refine c_region _ rfl ?_
      refine l_q rfl (q_move rfl rfl) rfl rfl ?_
      refine l_q rfl (q_lss rfl rfl rfl) rfl rfl ?_
      refine l_nil ?_
      refine k_then ?_
      refine Pre.caseB 27 rfl (fun h1 => ?_) (fun h1 => ?_)
      · try simp only [decide_eq_true_eq, decide_eq_false_iff_not, Bool.not_eq_true', Bool.not_eq_false'] at h1
        refine c_true rfl ?_
        refine c_skip ?_
        refine k_then ?_
        refine c_seq ?_
        refine c_block ?_
        refine c_region _ rfl ?_
        refine l_q rfl (q_move rfl rfl) rfl rfl ?_
        refine l_q rfl (q_move rfl rfl) rfl rfl ?_
        refine Pre.caseB 31 rfl (fun h2 => ?_) (fun h2 => ?_)
        · rw [h2] at hsu
          refine l_q rfl (q_move rfl rfl) rfl rfl ?_
          refine l_q rfl (q_fieldAddr rfl Try.underlying24 rfl Try.sizeOf22 rfl rfl) rfl rfl ?_
          refine l_q rfl (q_indexArr i rfl Try.underlying22 Try.sizeOf5 rfl rfl rfl (by omega)) rfl rfl ?_
          refine l_q rfl (q_loadC rfl Try.isAgg5 rfl (fun _ h => h.at 0 rfl) (kc_get a.len (by omega))) rfl rfl ?_
          refine l_q rfl (q_eql rfl rfl rfl) rfl rfl ?_
          refine l_q rfl (q_pick_t rfl rfl rfl) rfl rfl ?_
          refine l_q rfl (q_assign rfl rfl) rfl rfl ?_
          refine l_nil ?_
          refine k_block ?_
          refine k_then ?_
          refine c_region _ rfl ?_
          refine l_q rfl (q_move rfl rfl) rfl rfl ?_
          refine l_q rfl (q_inc rfl rfl rfl (by omega)) rfl rfl ?_
          refine l_q rfl (q_assign rfl rfl) rfl rfl ?_
          refine l_nil ?_
          exact k_round (i + 1) (by omega) (by omega) (Sub.cons rfl (Sub.cons rfl (Sub.cons rfl (Sub.cons rfl (Sub.consE rfl (by rw [hsu]; simp) (Sub.cons rfl Sub.nil)))))) (fun _ h => h)
        · rw [h2] at hsu
          refine l_not rfl rfl rfl ?_
          refine l_not rfl rfl rfl ?_
          refine l_not rfl rfl rfl ?_
          refine l_not rfl rfl rfl ?_
          refine l_not rfl rfl rfl ?_
          refine l_q rfl (q_pick_f rfl rfl rfl) rfl rfl ?_
          refine l_q rfl (q_assign rfl rfl) rfl rfl ?_
          refine l_nil ?_
          refine k_block ?_
          refine k_then ?_
          refine c_region _ rfl ?_
          refine l_q rfl (q_move rfl rfl) rfl rfl ?_
          refine l_q rfl (q_inc rfl rfl rfl (by omega)) rfl rfl ?_
          refine l_q rfl (q_assign rfl rfl) rfl rfl ?_
          refine l_nil ?_
          exact k_round (i + 1) (by omega) (by omega) (Sub.cons rfl (Sub.cons rfl (Sub.cons rfl (Sub.cons rfl (Sub.consE rfl (by rw [hsu]; simp) (Sub.cons rfl Sub.nil)))))) (fun _ h => h)
      · try simp only [decide_eq_true_eq, decide_eq_false_iff_not, Bool.not_eq_true', Bool.not_eq_false'] at h1
        have hi8 : i = 8 := by omega
        subst hi8
        refine c_false rfl ?_
        refine c_exit ?_
        refine k_then_exit ?_
        refine k_then_exit ?_
        refine k_block_exit ?_
        refine k_then ?_
        refine c_seq ?_
        refine c_seq ?_
        refine c_region _ rfl ?_
        refine l_q rfl (q_move rfl rfl) rfl rfl ?_
        refine l_q rfl (q_move rfl rfl) rfl rfl ?_
        refine l_q rfl (q_eqb rfl Try.underlying4 rfl rfl) rfl rfl ?_
        refine l_nil ?_
        refine k_then ?_
        refine Pre.setB (t := 40) (c := false) rfl (by have hq := f3.trans hl.symm; clear f1 f2 f3 hl hsu; cases hz2 : z.2 <;> cases hl8 : lastB a 8 <;> simp_all) ?_
        refine c_false rfl ?_
        refine c_skip ?_
        refine k_then ?_
        refine c_seq ?_
        refine c_seq ?_
        refine c_region _ rfl ?_
        refine l_q rfl (q_move rfl rfl) rfl rfl ?_
        refine l_q rfl (q_not rfl rfl) rfl rfl ?_
        refine l_nil ?_
        refine k_then ?_
        refine Pre.caseB 42 rfl (fun h3 => ?_) (fun h3 => ?_)
        · try simp only [Bool.not_eq_true', Bool.not_eq_false'] at h3
          have g := f2 h3
          refine c_true rfl ?_
          refine c_seq ?_
          refine c_region _ rfl ?_
          refine l_q rfl (q_loadCAgg (z.1.c) rfl Try.isAgg24 Try.sizeOf24 rfl (fun _ h => h.at 2 rfl) (kv_whole _) (Kv.c_len _)) rfl rfl ?_
          refine l_q rfl (q_build ((kv0 8).c) rfl rfl (fun w => by kernel_rfl)) rfl rfl ?_
          refine l_q rfl (q_eqK (z.1) ((kv0 8)) rfl rfl rfl) rfl rfl ?_
          refine l_q rfl (q_move rfl rfl) rfl rfl ?_
          refine Pre.setB (t := 46) (c := true) rfl (by first | exact decide_eq_true g.1 | exact decide_eq_true g.2) ?_
          refine l_q rfl (q_loadCAgg (b.c) rfl Try.isAgg24 Try.sizeOf24 rfl (fun _ h => h.at 1 rfl) (kv_whole _) (Kv.c_len _)) rfl rfl ?_
          refine l_q rfl (q_loadCAgg (a.c) rfl Try.isAgg24 Try.sizeOf24 rfl (fun _ h => h.at 0 rfl) (kv_whole _) (Kv.c_len _)) rfl rfl ?_
          refine l_e rfl ?_
          refine e_call_00 (cmp_spec b a) rfl rfl rfl Try.call24 rfl (fun _ _ => trivial) ?_
          intro _ _
          refine l_q rfl (q_leq rfl rfl rfl) rfl rfl ?_
          refine l_q rfl (q_pick_t rfl rfl rfl) rfl rfl ?_
          refine l_q rfl (q_move rfl rfl) rfl rfl ?_
          refine Pre.setB (t := 52) (c := true) rfl (by first | exact decide_eq_true g.1 | exact decide_eq_true g.2) ?_
          refine l_e rfl ?_
          refine e_call_00 (awake_spec) rfl rfl rfl Try.call10 rfl (fun _ _ => trivial) ?_
          intro _ _
          refine l_q rfl (q_pick_t rfl rfl rfl) rfl rfl ?_
          refine l_q rfl (q_assign rfl rfl) rfl rfl ?_
          refine l_nil ?_
          refine k_then ?_
          refine c_ret ?_
          refine k_then_ret ?_
          refine r_one rfl rfl ?_
          exact fun _ h => ⟨(), rfl, trivial, h.nothing⟩
        · try simp only [Bool.not_eq_true', Bool.not_eq_false'] at h3
          obtain ⟨g1, g2, g3⟩ := f1 h3
          refine c_false rfl ?_
          refine c_skip ?_
          refine k_then ?_
          refine c_seq ?_
          refine c_region _ rfl ?_
          refine l_q rfl (q_loadCAgg (z.1.c) rfl Try.isAgg24 Try.sizeOf24 rfl (fun _ h => h.at 2 rfl) (kv_whole _) (Kv.c_len _)) rfl rfl ?_
          refine l_e rfl ?_
          refine e_call_00 (kcheck_spec z.1) rfl rfl rfl Try.call13 rfl (fun _ _ => trivial) ?_
          intro _ _
          refine l_q rfl (q_move rfl rfl) rfl rfl ?_
          refine Pre.setB (t := 57) (c := true) rfl (g1) ?_
          refine l_q rfl (q_loadCAgg (a.c) rfl Try.isAgg24 Try.sizeOf24 rfl (fun _ h => h.at 0 rfl) (kv_whole _) (Kv.c_len _)) rfl rfl ?_
          refine l_q rfl (q_loadCAgg (z.1.c) rfl Try.isAgg24 Try.sizeOf24 rfl (fun _ h => h.at 2 rfl) (kv_whole _) (Kv.c_len _)) rfl rfl ?_
          refine l_e rfl ?_
          refine e_call_00 (cmp_spec a z.1) rfl rfl rfl Try.call24 rfl (fun _ _ => trivial) ?_
          intro _ _
          refine l_q rfl (q_lss rfl rfl rfl) rfl rfl ?_
          refine l_q rfl (q_pick_t rfl rfl rfl) rfl rfl ?_
          refine l_q rfl (q_move rfl rfl) rfl rfl ?_
          refine Pre.setB (t := 63) (c := true) rfl (decide_eq_true g2) ?_
          refine l_q rfl (q_loadCAgg (a.c) rfl Try.isAgg24 Try.sizeOf24 rfl (fun _ h => h.at 0 rfl) (kv_whole _) (Kv.c_len _)) rfl rfl ?_
          refine l_q rfl (q_loadCAgg (b.c) rfl Try.isAgg24 Try.sizeOf24 rfl (fun _ h => h.at 1 rfl) (kv_whole _) (Kv.c_len _)) rfl rfl ?_
          refine l_e rfl ?_
          refine e_call_00 (cmp_spec a b) rfl rfl rfl Try.call24 rfl (fun _ _ => trivial) ?_
          intro _ _
          refine l_q rfl (q_geq rfl rfl rfl) rfl rfl ?_
          refine l_q rfl (q_move rfl rfl) rfl rfl ?_
          refine Pre.caseB 68 rfl (fun h5 => ?_) (fun h5 => ?_)
          · try simp only [decide_eq_true_eq, decide_eq_false_iff_not, Bool.not_eq_true', Bool.not_eq_false'] at h5
            refine l_not rfl rfl rfl ?_
            refine l_not rfl rfl rfl ?_
            refine l_not rfl rfl rfl ?_
            refine l_not rfl rfl rfl ?_
            refine l_q rfl (q_pick_t rfl rfl rfl) rfl rfl ?_
            refine l_q rfl (q_pick_t rfl rfl rfl) rfl rfl ?_
            refine l_q rfl (q_move rfl rfl) rfl rfl ?_
            refine l_e rfl ?_
            refine e_call_00 (awake_spec) rfl rfl rfl Try.call10 rfl (fun _ _ => trivial) ?_
            intro _ _
            refine l_q rfl (q_pick_t rfl rfl rfl) rfl rfl ?_
            refine l_q rfl (q_assign rfl rfl) rfl rfl ?_
            refine l_nil ?_
            refine k_then ?_
            refine c_ret ?_
            refine r_one rfl rfl ?_
            exact fun _ h => ⟨(), rfl, trivial, h.nothing⟩
          · try simp only [decide_eq_true_eq, decide_eq_false_iff_not, Bool.not_eq_true', Bool.not_eq_false'] at h5
            refine l_q rfl (q_loadCAgg (z.1.c) rfl Try.isAgg24 Try.sizeOf24 rfl (fun _ h => h.at 2 rfl) (kv_whole _) (Kv.c_len _)) rfl rfl ?_
            refine l_q rfl (q_loadCAgg (b.c) rfl Try.isAgg24 Try.sizeOf24 rfl (fun _ h => h.at 1 rfl) (kv_whole _) (Kv.c_len _)) rfl rfl ?_
            refine l_e rfl ?_
            refine e_call_00 (cmp_spec z.1 b) rfl rfl rfl Try.call24 rfl (fun _ _ => trivial) ?_
            intro _ _
            refine l_q rfl (q_leq rfl rfl rfl) rfl rfl ?_
            refine l_q rfl (q_pick_f rfl rfl rfl) rfl rfl ?_
            refine l_q rfl (q_pick_t rfl rfl rfl) rfl rfl ?_
            refine l_q rfl (q_move rfl rfl) rfl rfl ?_
            refine Pre.setB (t := 75) (c := true) rfl (decide_eq_true (g3 (by omega))) ?_
            refine l_e rfl ?_
            refine e_call_00 (awake_spec) rfl rfl rfl Try.call10 rfl (fun _ _ => trivial) ?_
            intro _ _
            refine l_q rfl (q_pick_t rfl rfl rfl) rfl rfl ?_
            refine l_q rfl (q_assign rfl rfl) rfl rfl ?_
            refine l_nil ?_
            refine k_then ?_
            refine c_ret ?_
            refine r_one rfl rfl ?_
            exact fun _ h => ⟨(), rfl, trivial, h.nothing⟩
def kinds_0 : List Sc := Kv.ks 8
def kinds_1 : List Sc := Kv.ks 8
theorem kv_mk {m : Nat} {x : List Value} (h : Kinds (Kv.ks m) x) : ∃ k : Kv m, x = k.c := by
  obtain ⟨h1, h2⟩ := h
  cases x with
  | nil => simp [Kv.ks] at h1
  | cons u x =>
    obtain ⟨z, rfl, hz⟩ := h2 0 (.i .i64) u rfl rfl
    have hl : x.length = m := by simp [Kv.ks] at h1; omega
    have hall : ∀ v ∈ x, ∃ y, v = .int .u8 y ∧ (Lit.int .u8 y).wf = true := fun v hv => by
      obtain ⟨i, hi, rfl⟩ := List.mem_iff_getElem.1 hv
      have hi2 : i < m := by omega
      exact h2 (i + 1) (.i .u8) x[i] (by simp [Kv.ks, hi2]) (by simp [hi])
    clear h1 h2
    have key : ∀ x : List Value, (∀ v ∈ x, ∃ y, v = .int .u8 y ∧ (Lit.int .u8 y).wf = true) → ∃ b : List Int, x = b.map (.int .u8) ∧ ∀ y ∈ b, (Lit.int .u8 y).wf = true := by
      intro x
      induction x with
      | nil => intro _; exact ⟨[], rfl, by simp⟩
      | cons v x ih =>
        intro h
        obtain ⟨y, rfl, hy⟩ := h v (List.mem_cons_self ..)
        obtain ⟨b, rfl, hb⟩ := ih (fun u hu => h u (List.mem_cons_of_mem _ hu))
        exact ⟨y :: b, rfl, fun q hq => by rcases List.mem_cons.1 hq with rfl | hq; exact hy; exact hb q hq⟩
    obtain ⟨b, rfl, hb⟩ := key x hall
    exact ⟨⟨z, b, by simpa using hl, hz, hb⟩, rfl⟩

theorem keyNexts_walk (w : World) (x0 : Array Value) (kk0 : Kinds kinds_0 x0.toList) (x1 : Array Value) (kk1 : Kinds kinds_1 x1.toList) :
    Calls Try.prog 6 #[.agg x0, .agg x1] w fun e w' => e = .returned (.bool true) ∧ Below w.heap.size w w' := by
  obtain ⟨a, h0⟩ := kv_mk kk0
  obtain ⟨b, h1⟩ := kv_mk kk1
  have h := con_walk (nexts_spec a b) (w := w) trivial
  have e0 : x0 = a.c.toArray := by rw [← h0]
  have e1 : x1 = b.c.toArray := by rw [← h1]
  subst e0 e1
  exact h
end Go.Proofs.Ytaojcncmbbgmcaa
