/- MsgAll, walked -/
import Derived.Test.YtmnokoepimhelaaJ
set_option linter.unusedVariables false
set_option linter.unusedSimpArgs false
namespace Go.Proofs.Ytmnokoepimhelaa
open Go.Sep Go.RowKit

theorem kv_mk {m : Nat} {x : List Value} (h : Kinds (Kv.ks m) x) : ∃ k : Kv m, x = k.c := by
  obtain ⟨h1, h2⟩ := h
  cases x with
  | nil => simp [Kv.ks] at h1
  | cons u x =>
    obtain ⟨z, rfl, hz⟩ := h2 0 (.i .i64) u rfl rfl
    have hl : x.length = m := by simp [Kv.ks] at h1; omega
    have hall : ∀ v ∈ x, ∃ y, v = .int .u8 y ∧ (Lit.int .u8 y).wf = true := fun v hv => by
      obtain ⟨i, hi, rfl⟩ := List.mem_iff_getElem.1 hv
      have hi2 : i < m := by omega
      exact h2 (i + 1) (.i .u8) x[i] (by simp [Kv.ks, hi2]) (by simp [hi])
    clear h1 h2
    have key : ∀ x : List Value, (∀ v ∈ x, ∃ y, v = .int .u8 y ∧ (Lit.int .u8 y).wf = true) → ∃ b : List Int, x = b.map (.int .u8) ∧ ∀ y ∈ b, (Lit.int .u8 y).wf = true := by
      intro x
      induction x with
      | nil => intro _; exact ⟨[], rfl, by simp⟩
      | cons v x ih =>
        intro h
        obtain ⟨y, rfl, hy⟩ := h v (List.mem_cons_self ..)
        obtain ⟨b, rfl, hb⟩ := ih (fun u hu => h u (List.mem_cons_of_mem _ hu))
        exact ⟨y :: b, rfl, fun q hq => by rcases List.mem_cons.1 hq with rfl | hq; exact hy; exact hb q hq⟩
    obtain ⟨b, rfl, hb⟩ := key x hall
    exact ⟨⟨z, b, by simpa using hl, hz, hb⟩, rfl⟩
theorem kinds_take {a b : List Sc} {x : List Value} (h : Kinds (a ++ b) x) : ∃ u v, x = u ++ v ∧ Kinds a u ∧ Kinds b v := by
  have := Kinds.part h
  exact ⟨x.take a.length, x.drop a.length, (List.take_append_drop ..).symm, this.1, this.2⟩
theorem one_mk {k : Sc} {x : List Value} (h : Kinds [k] x) : ∃ v, x = [v] ∧ k.ok v := one_of h
theorem ms_mk {x : List Value} (h : Kinds Ms.ks x) : ∃ m : Ms, x = m.c := by
  obtain ⟨a, x1, rfl, ha, hx1⟩ := kinds_take (a := [Sc.i .i64]) (b := [Sc.i .u64] ++ (Kv.ks 8 ++ (Kv.ks 16 ++ [Sc.i .u64]))) h
  obtain ⟨b, x2, rfl, hb, hx2⟩ := kinds_take hx1
  obtain ⟨c, x3, rfl, hc, hx3⟩ := kinds_take hx2
  obtain ⟨d, x4, rfl, hd, hx4⟩ := kinds_take hx3
  obtain ⟨_, rfl, z, rfl, hz⟩ := one_of ha
  obtain ⟨_, rfl, y, rfl, hy⟩ := one_of hb
  obtain ⟨k, rfl⟩ := kv_mk hc
  obtain ⟨v, rfl⟩ := kv_mk hd
  obtain ⟨_, rfl, q, rfl, hq⟩ := one_of hx4
  exact ⟨⟨z, y, k, v, q, hz, hy, hq⟩, by simp [Ms.c]⟩
set_option maxRecDepth 100000 in
set_option maxHeartbeats 1000000 in
theorem all_spec (a b : Ms) (v : Kv 16) (t : Bool) : Con Try.prog 3 [.agg a.c.toArray, .agg b.c.toArray, .agg v.c.toArray, .bool t] (fun _ => True) [] (fun _ : Unit => .bool true) (fun _ => True) (fun _ => []) := by
  intro w hE hH
  refine enter (n := 73) (vs := [.agg a.c.toArray, .agg b.c.toArray, .agg v.c.toArray, .bool t]) (St w [] []) Try.func3 rfl rfl rfl (St.init hH) ?_
  refine c_seq ?_
  refine c_region _ rfl ?_
  refine l_e rfl ?_
  refine e_box rfl rfl rfl rfl ?_
  intro ba
  refine cells_eq (show _ = a.c from rfl) ?_
  refine l_e rfl ?_
  refine e_box rfl rfl rfl rfl ?_
  intro bb
  refine cells_eq (show _ = b.c from rfl) ?_
  refine l_e rfl ?_
  refine e_box rfl rfl rfl rfl ?_
  intro bv
  refine cells_eq (show _ = v.c from rfl) ?_
  refine l_q rfl (q_assign rfl rfl) rfl rfl ?_
  refine l_nil ?_
  refine k_then ?_
  refine c_seq ?_
  refine c_seq ?_
  refine c_draw [(0, some true), (2, some true), (1, some false), (3, some false), (4, some true), (5, some true), (6, some true), (8, some true), (7, some false), (9, some false), (10, some true), (11, some true)] [] [(_, some true), (_, some true), (_, some false), (_, some false), (_, some true), (_, some true), (_, some true), (_, some true), (_, some false), (_, some false), (_, some true), (_, some true)] _ (blind_then (blind_then blind_body)) rfl (by kernel_rfl) (by kernel_rfl) rfl rfl rfl (by kernel_rfl) St.drawn (fun _ h => h) ?_
  refine d_q rfl (q_loadCAgg (a.c) rfl Try.isAgg30 Try.sizeOf30 rfl (fun _ h => h.at 2 rfl) (ms_whole _) (Ms.c_len _)) rfl rfl ?_
  refine d_q rfl (q_loadCAgg (a.c) rfl Try.isAgg30 Try.sizeOf30 rfl (fun _ h => h.at 2 rfl) (ms_whole _) (Ms.c_len _)) rfl rfl ?_
  refine d_e rfl ?_
  refine e_call_00 (mcheck_spec _) rfl rfl rfl Try.call9 rfl (fun _ _ => trivial) ?_
  intro _ _
  refine d_held (fun _ h => h) ?_
  refine d_e rfl ?_
  refine e_call_00 (rmcheck_spec _) rfl rfl rfl Try.call10 rfl (fun _ _ => trivial) ?_
  intro _ _
  refine d_held (fun _ h => h) ?_
  refine d_q rfl (q_neb rfl Try.underlying4 rfl rfl) rfl rfl ?_
  refine d_q rfl (q_move rfl rfl) rfl rfl ?_
  refine Pre.setB (t := 18) (c := false) rfl (by simp) ?_
  refine d_q rfl (q_loadCAgg (a.c) rfl Try.isAgg30 Try.sizeOf30 rfl (fun _ h => h.at 2 rfl) (ms_whole _) (Ms.c_len _)) rfl rfl ?_
  refine d_q rfl (q_loadCAgg (a.c) rfl Try.isAgg30 Try.sizeOf30 rfl (fun _ h => h.at 2 rfl) (ms_whole _) (Ms.c_len _)) rfl rfl ?_
  refine d_e rfl ?_
  refine e_call_00 (mbytes_spec _) rfl rfl rfl Try.call11 rfl (fun _ _ => trivial) ?_
  intro _ _
  refine d_held (fun _ h => h) ?_
  refine d_e rfl ?_
  refine e_call_00 (rmbytes_spec _) rfl rfl rfl Try.call12 rfl (fun _ _ => trivial) ?_
  intro _ _
  refine d_held (fun _ h => h) ?_
  refine d_q rfl (q_neq rfl rfl rfl) rfl rfl ?_
  refine d_q rfl (q_pick_f rfl rfl rfl) rfl rfl ?_
  refine d_nil ?_
  refine k_then ?_
  refine Pre.setB (t := 24) (c := false) rfl (by simp) ?_
  refine c_false rfl ?_
  refine c_skip ?_
  refine k_then ?_
  refine c_seq ?_
  refine c_seq ?_
  refine c_region _ rfl ?_
  refine l_q rfl (q_loadCAgg (a.c) rfl Try.isAgg30 Try.sizeOf30 rfl (fun _ h => h.at 2 rfl) (ms_whole _) (Ms.c_len _)) rfl rfl ?_
  refine l_e rfl ?_
  refine e_call_00 (rmcheck_spec _) rfl rfl rfl Try.call10 rfl (fun _ _ => trivial) ?_
  intro _ _
  refine l_q rfl (q_not rfl rfl) rfl rfl ?_
  refine l_q rfl (q_move rfl rfl) rfl rfl ?_
  refine Pre.caseB 28 rfl (fun ha => ?_) (fun ha => ?_)
  · try simp only [decide_eq_true_eq, decide_eq_false_iff_not, Bool.not_eq_true', Bool.not_eq_false'] at ha
    refine l_not rfl rfl rfl ?_
    refine l_not rfl rfl rfl ?_
    refine l_not rfl rfl rfl ?_
    refine l_q rfl (q_pick_t rfl rfl rfl) rfl rfl ?_
    refine l_q rfl (q_move rfl rfl) rfl rfl ?_
    refine l_not rfl rfl rfl ?_
    refine l_not rfl rfl rfl ?_
    refine l_not rfl rfl rfl ?_
    refine l_q rfl (q_pick_t rfl rfl rfl) rfl rfl ?_
    refine l_nil ?_
    refine k_then ?_
    refine c_true rfl ?_
    refine c_seq ?_
    refine c_region _ rfl ?_
    refine l_e rfl ?_
    refine e_call_00 (awake_spec) rfl rfl rfl Try.call14 rfl (fun _ _ => trivial) ?_
    intro _ _
    refine l_q rfl (q_assign rfl rfl) rfl rfl ?_
    refine l_nil ?_
    refine k_then ?_
    refine c_ret ?_
    refine k_then_ret ?_
    refine r_one rfl rfl ?_
    exact fun _ h => ⟨(), rfl, trivial, h.nothing⟩
  · try simp only [decide_eq_true_eq, decide_eq_false_iff_not, Bool.not_eq_true', Bool.not_eq_false'] at ha
    refine l_q rfl (q_loadCAgg (b.c) rfl Try.isAgg30 Try.sizeOf30 rfl (fun _ h => h.at 1 rfl) (ms_whole _) (Ms.c_len _)) rfl rfl ?_
    refine l_e rfl ?_
    refine e_call_00 (rmcheck_spec _) rfl rfl rfl Try.call10 rfl (fun _ _ => trivial) ?_
    intro _ _
    refine l_q rfl (q_not rfl rfl) rfl rfl ?_
    refine l_q rfl (q_pick_f rfl rfl rfl) rfl rfl ?_
    refine l_q rfl (q_move rfl rfl) rfl rfl ?_
    refine Pre.caseB 33 rfl (fun hb => ?_) (fun hb => ?_)
    · try simp only [decide_eq_true_eq, decide_eq_false_iff_not, Bool.not_eq_true', Bool.not_eq_false'] at hb
      refine l_not rfl rfl rfl ?_
      refine l_not rfl rfl rfl ?_
      refine l_not rfl rfl rfl ?_
      refine l_q rfl (q_pick_t rfl rfl rfl) rfl rfl ?_
      refine l_nil ?_
      refine k_then ?_
      refine c_true rfl ?_
      refine c_seq ?_
      refine c_region _ rfl ?_
      refine l_e rfl ?_
      refine e_call_00 (awake_spec) rfl rfl rfl Try.call14 rfl (fun _ _ => trivial) ?_
      intro _ _
      refine l_q rfl (q_assign rfl rfl) rfl rfl ?_
      refine l_nil ?_
      refine k_then ?_
      refine c_ret ?_
      refine k_then_ret ?_
      refine r_one rfl rfl ?_
      exact fun _ h => ⟨(), rfl, trivial, h.nothing⟩
    · try simp only [decide_eq_true_eq, decide_eq_false_iff_not, Bool.not_eq_true', Bool.not_eq_false'] at hb
      refine l_q rfl (q_loadCAgg (v.c) rfl Try.isAgg28 Try.sizeOf28 rfl (fun _ h => h.at 0 rfl) (kv_whole _) (Kv.c_len _)) rfl rfl ?_
      refine l_e rfl ?_
      refine e_call_00 (rvcheck_con _) rfl rfl rfl Try.call13 rfl (fun _ _ => trivial) ?_
      intro _ _
      refine l_q rfl (q_not rfl rfl) rfl rfl ?_
      refine l_q rfl (q_pick_f rfl rfl rfl) rfl rfl ?_
      refine l_nil ?_
      refine k_then ?_
      refine Pre.caseB 37 rfl (fun hv => ?_) (fun hv => ?_)
      · try simp only [decide_eq_true_eq, decide_eq_false_iff_not, Bool.not_eq_true', Bool.not_eq_false'] at hv
        refine c_true rfl ?_
        refine c_seq ?_
        refine c_region _ rfl ?_
        refine l_e rfl ?_
        refine e_call_00 (awake_spec) rfl rfl rfl Try.call14 rfl (fun _ _ => trivial) ?_
        intro _ _
        refine l_q rfl (q_assign rfl rfl) rfl rfl ?_
        refine l_nil ?_
        refine k_then ?_
        refine c_ret ?_
        refine k_then_ret ?_
        refine r_one rfl rfl ?_
        exact fun _ h => ⟨(), rfl, trivial, h.nothing⟩
      · try simp only [decide_eq_true_eq, decide_eq_false_iff_not, Bool.not_eq_true', Bool.not_eq_false'] at hv
        refine c_false rfl ?_
        refine c_skip ?_
        refine k_then ?_
        refine c_seq ?_
        refine c_region _ rfl ?_
        refine l_q rfl (q_loadCAgg (v.c) rfl Try.isAgg28 Try.sizeOf28 rfl (fun _ h => h.at 0 rfl) (kv_whole _) (Kv.c_len _)) rfl rfl ?_
        refine l_q rfl (q_move rfl rfl) rfl rfl ?_
        refine l_q rfl (q_loadCAgg (a.c) rfl Try.isAgg30 Try.sizeOf30 rfl (fun _ h => h.at 2 rfl) (ms_whole _) (Ms.c_len _)) rfl rfl ?_
        refine l_e rfl ?_
        refine e_call_00 (mapply_spec _ _ _) rfl rfl rfl Try.call15 rfl (fun _ _ => trivial) ?_
        intro _ _
        refine l_q rfl (q_move rfl rfl) rfl rfl ?_
        refine l_q rfl (q_extract rfl rfl rfl) rfl rfl ?_
        refine l_q rfl (q_extract rfl rfl rfl) rfl rfl ?_
        refine l_e rfl ?_
        refine e_alloc rfl rfl rfl Try.zeroValue28 ?_
        intro bx
        refine cells_eq (show _ = (kv0 16).c from rfl) ?_
        refine l_e rfl ?_
        refine e_storeAgg rfl rfl Try.sizeOf28 rfl rfl (Kv.c_len _) (Kv.one _) (by simp only [Kv.c_len, Ms.c_len]; decide) ?_
        refine cells_eq (show _ = (map' v t a).1.c from Sep.splice_all (by simp only [Kv.c_len, Ms.c_len])) ?_
        refine l_q rfl (q_assign rfl rfl) rfl rfl ?_
        refine l_nil ?_
        refine k_then ?_
        refine c_seq ?_
        refine c_region _ rfl ?_
        refine l_q rfl (q_loadCAgg (v.c) rfl Try.isAgg28 Try.sizeOf28 rfl (fun _ h => h.at 1 rfl) (kv_whole _) (Kv.c_len _)) rfl rfl ?_
        refine l_q rfl (q_move rfl rfl) rfl rfl ?_
        refine l_q rfl (q_loadCAgg (a.c) rfl Try.isAgg30 Try.sizeOf30 rfl (fun _ h => h.at 3 rfl) (ms_whole _) (Ms.c_len _)) rfl rfl ?_
        refine l_e rfl ?_
        refine e_call_00 (rmapply_spec _ _ _) rfl rfl rfl Try.call16 rfl (fun _ _ => trivial) ?_
        intro _ _
        refine l_q rfl (q_move rfl rfl) rfl rfl ?_
        refine l_q rfl (q_extract rfl rfl rfl) rfl rfl ?_
        refine l_q rfl (q_extract rfl rfl rfl) rfl rfl ?_
        refine l_e rfl ?_
        refine e_alloc rfl rfl rfl Try.zeroValue28 ?_
        intro by1
        refine cells_eq (show _ = (kv0 16).c from rfl) ?_
        refine l_e rfl ?_
        refine e_storeAgg rfl rfl Try.sizeOf28 rfl rfl (Kv.c_len _) (Kv.one _) (by simp only [Kv.c_len, Ms.c_len]; decide) ?_
        refine cells_eq (show _ = (rap v t a).1.c from Sep.splice_all (by simp only [Kv.c_len, Ms.c_len])) ?_
        refine l_q rfl (q_assign rfl rfl) rfl rfl ?_
        refine l_nil ?_
        refine k_then ?_
        refine c_seq ?_
        refine c_draw [(0, some true), (1, some true), (3, some true), (4, some true), (2, some false), (5, some false), (6, some true), (7, some true), (8, some true), (9, some true), (10, some true), (11, some true), (12, some true), (13, some true), (14, some true), (15, some true), (16, some true), (17, some true), (18, some false), (19, some true), (20, some true)] [] [(_, some true), (_, some true), (_, some true), (_, some true), (_, some false), (_, some false), (_, some true), (_, some true), (_, some true), (_, some true), (_, some true), (_, some true), (_, some true), (_, some true), (_, some true), (_, some true), (_, some true), (_, some true), (_, some false), (_, some true), (_, some true)] _ (blind_then blind_body) rfl (by kernel_rfl) (by kernel_rfl) rfl rfl rfl (by kernel_rfl) St.drawn (fun _ h => h) ?_
        refine d_q rfl (q_loadCAgg (a.c) rfl Try.isAgg30 Try.sizeOf30 rfl (fun _ h => h.at 4 rfl) (ms_whole _) (Ms.c_len _)) rfl rfl ?_
        refine d_q rfl (q_loadCAgg (b.c) rfl Try.isAgg30 Try.sizeOf30 rfl (fun _ h => h.at 3 rfl) (ms_whole _) (Ms.c_len _)) rfl rfl ?_
        refine d_q rfl (q_loadCAgg (a.c) rfl Try.isAgg30 Try.sizeOf30 rfl (fun _ h => h.at 4 rfl) (ms_whole _) (Ms.c_len _)) rfl rfl ?_
        refine d_q rfl (q_loadCAgg (b.c) rfl Try.isAgg30 Try.sizeOf30 rfl (fun _ h => h.at 3 rfl) (ms_whole _) (Ms.c_len _)) rfl rfl ?_
        refine d_e rfl ?_
        refine e_call_00 (mcompose_spec _ _) rfl rfl rfl Try.call17 rfl (fun _ _ => trivial) ?_
        intro _ _
        refine d_held (fun _ h => h) ?_
        refine d_e rfl ?_
        refine e_call_00 (rmcompose_spec _ _) rfl rfl rfl Try.call18 rfl (fun _ _ => trivial) ?_
        intro _ _
        refine d_held (fun _ h => h) ?_
        refine d_q rfl (q_eqM ((mco a b)) ((rco a b)) rfl rfl rfl) rfl rfl ?_
        refine d_q rfl (q_move rfl rfl) rfl rfl ?_
        refine Pre.setB (t := 60) (c := true) rfl (decide_eq_true (co_eq ha hb)) ?_
        refine d_q rfl (q_loadCAgg ((map' v t a).1.c) rfl Try.isAgg28 Try.sizeOf28 rfl (fun _ h => h.at 1 rfl) (kv_whole _) (Kv.c_len _)) rfl rfl ?_
        refine d_q rfl (q_loadCAgg ((rap v t a).1.c) rfl Try.isAgg28 Try.sizeOf28 rfl (fun _ h => h.at 0 rfl) (kv_whole _) (Kv.c_len _)) rfl rfl ?_
        refine d_q rfl (q_eqVl ((map' v t a).1) ((rap v t a).1) rfl rfl rfl) rfl rfl ?_
        refine d_q rfl (q_pick_t rfl rfl rfl) rfl rfl ?_
        refine d_q rfl (q_move rfl rfl) rfl rfl ?_
        refine Pre.setB (t := 65) (c := true) rfl (decide_eq_true (by rw [ap_eq ha])) ?_
        refine d_q rfl (q_move rfl rfl) rfl rfl ?_
        refine d_q rfl (q_move rfl rfl) rfl rfl ?_
        refine d_q rfl (q_eqb rfl Try.underlying4 rfl rfl) rfl rfl ?_
        refine d_q rfl (q_pick_t rfl rfl rfl) rfl rfl ?_
        refine d_q rfl (q_move rfl rfl) rfl rfl ?_
        refine Pre.setB (t := 70) (c := true) rfl (by rw [ap_eq ha]; simp) ?_
        refine d_e rfl ?_
        refine e_call_00 (awake_spec) rfl rfl rfl Try.call14 rfl (fun _ _ => trivial) ?_
        intro _ _
        refine d_held (fun _ h => h) ?_
        refine d_q rfl (q_pick_t rfl rfl rfl) rfl rfl ?_
        refine d_q rfl (q_assign rfl rfl) rfl rfl ?_
        refine d_nil ?_
        refine k_then ?_
        refine c_ret ?_
        refine r_one rfl rfl ?_
        exact fun _ h => ⟨(), rfl, trivial, h.nothing⟩
def kinds_0 : List Sc := Ms.ks
def kinds_1 : List Sc := Ms.ks
def kinds_2 : List Sc := Kv.ks 16
theorem msgAll_walk (w : World) (x0 : Array Value) (kk0 : Kinds kinds_0 x0.toList) (x1 : Array Value) (kk1 : Kinds kinds_1 x1.toList) (x2 : Array Value) (kk2 : Kinds kinds_2 x2.toList) (a3 : Bool) :
    Calls Try.prog 3 #[.agg x0, .agg x1, .agg x2, .bool a3] w fun e w' => e = .returned (.bool true) ∧ Below w.heap.size w w' := by
  obtain ⟨a, ha⟩ := ms_mk kk0
  obtain ⟨b, hb⟩ := ms_mk kk1
  obtain ⟨v, hv⟩ := kv_mk kk2
  obtain rfl : x0 = a.c.toArray := by rw [← ha]
  obtain rfl : x1 = b.c.toArray := by rw [← hb]
  obtain rfl : x2 = v.c.toArray := by rw [← hv]
  exact con_walk (all_spec a b v a3) trivial
end Go.Proofs.Ytmnokoepimhelaa
