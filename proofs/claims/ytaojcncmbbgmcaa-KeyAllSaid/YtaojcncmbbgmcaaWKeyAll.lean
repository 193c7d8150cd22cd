/- KeyAll, walked -/
import Derived.Test.YtaojcncmbbgmcaaX
set_option linter.unusedVariables false
set_option linter.unusedSimpArgs false
namespace Go.Proofs.Ytaojcncmbbgmcaa
open Go.Sep Go.RowKit

set_option maxRecDepth 100000 in
set_option maxHeartbeats 1000000 in
theorem all_spec {va : Value} (s : ByteArray) (k : Kv 8) (l : List (Kv 8)) (hs0 : s.size ≤ 9223372036854775807) : Con Try.prog 3 [.string s, .agg k.c.toArray, va] (fun w => RdV w va (Kv.enc 8) l) [] (fun _ : Unit => .bool true) (fun _ => True) (fun _ => []) := by
  intro w hl hH
  refine enter (n := 69) (vs := [.string s, .agg k.c.toArray, va]) (St w [] []) Try.func3 rfl rfl rfl (St.init hH) ?_
  refine c_seq ?_
  refine c_region _ rfl ?_
  refine l_e rfl ?_
  refine e_box rfl rfl rfl rfl ?_
  intro bk
  refine cells_eq (show _ = k.c from rfl) ?_
  refine l_q rfl (q_assign rfl rfl) rfl rfl ?_
  refine l_nil ?_
  refine k_then ?_
  refine c_seq ?_
  refine c_seq ?_
  refine c_region _ rfl ?_
  refine l_q rfl (q_move rfl rfl) rfl rfl ?_
  refine l_q rfl (q_lenS rfl Try.underlying9 rfl) rfl rfl ?_
  refine l_q rfl (q_gtr rfl rfl rfl) rfl rfl ?_
  refine l_q rfl (q_move rfl rfl) rfl rfl ?_
  refine Pre.caseB 14 rfl (fun h1 => ?_) (fun h1 => ?_)
  · try simp only [decide_eq_true_eq, decide_eq_false_iff_not, Bool.not_eq_true', Bool.not_eq_false'] at h1
    refine l_not rfl rfl rfl ?_
    refine l_not rfl rfl rfl ?_
    refine l_not rfl rfl rfl ?_
    refine l_q rfl (q_pick_t rfl rfl rfl) rfl rfl ?_
    refine l_nil ?_
    refine k_then ?_
    refine c_true rfl ?_
    refine c_seq ?_
    refine c_region _ rfl ?_
    refine l_e rfl ?_
    refine e_call_00 (awake_spec) rfl rfl rfl Try.call10 rfl (fun _ _ => trivial) ?_
    intro _ _
    refine l_q rfl (q_assign rfl rfl) rfl rfl ?_
    refine l_nil ?_
    refine k_then ?_
    refine c_ret ?_
    refine k_then_ret ?_
    refine r_one rfl rfl ?_
    exact fun _ h => ⟨(), rfl, trivial, h.nothing⟩
  · try simp only [decide_eq_true_eq, decide_eq_false_iff_not, Bool.not_eq_true', Bool.not_eq_false'] at h1
    refine l_q rfl (q_move rfl rfl) rfl rfl ?_
    refine l_q rfl (q_lenV rfl Try.underlying25 rfl (fun _ h => hl.keep h (by simp [dom]))) rfl rfl ?_
    refine l_q rfl (q_gtr rfl rfl rfl) rfl rfl ?_
    refine l_q rfl (q_pick_f rfl rfl rfl) rfl rfl ?_
    refine l_nil ?_
    refine k_then ?_
    refine Pre.caseB 18 rfl (fun h2 => ?_) (fun h2 => ?_)
    · try simp only [decide_eq_true_eq, decide_eq_false_iff_not, Bool.not_eq_true', Bool.not_eq_false'] at h2
      refine c_true rfl ?_
      refine c_seq ?_
      refine c_region _ rfl ?_
      refine l_e rfl ?_
      refine e_call_00 (awake_spec) rfl rfl rfl Try.call10 rfl (fun _ _ => trivial) ?_
      intro _ _
      refine l_q rfl (q_assign rfl rfl) rfl rfl ?_
      refine l_nil ?_
      refine k_then ?_
      refine c_ret ?_
      refine k_then_ret ?_
      refine r_one rfl rfl ?_
      exact fun _ h => ⟨(), rfl, trivial, h.nothing⟩
    · try simp only [decide_eq_true_eq, decide_eq_false_iff_not, Bool.not_eq_true', Bool.not_eq_false'] at h2
      obtain ⟨p, hp⟩ : ∃ p, p = ofM s := ⟨_, rfl⟩
      refine c_false rfl ?_
      refine c_skip ?_
      refine k_then ?_
      refine c_seq ?_
      refine c_region _ rfl ?_
      refine l_q rfl (q_move rfl rfl) rfl rfl ?_
      refine l_e rfl ?_
      refine e_call_00 (of_all s hs0) rfl rfl rfl Try.call11 rfl (fun _ _ => trivial) ?_
      intro _ _
      rw [← hp]
      refine l_q rfl (q_move rfl rfl) rfl rfl ?_
      refine l_q rfl (q_extract rfl rfl rfl) rfl rfl ?_
      refine l_q rfl (q_extract rfl rfl rfl) rfl rfl ?_
      refine l_e rfl ?_
      refine e_alloc rfl rfl rfl Try.zeroValue24 ?_
      intro ba
      refine cells_eq (show _ = kc 0 z8 from rfl) ?_
      refine l_e rfl ?_
      refine e_storeAgg rfl rfl Try.sizeOf24 rfl rfl (Kv.c_len _) (Kv.one _) (by rw [show ((p.1).c).length = 9 from Kv.c_len _, kc_len z8_len]; decide) ?_
      refine cells_eq (show Sep.splice _ 0 (p.1).c = (p.1).c from Sep.splice_all (by rw [Kv.c_len, kc_len z8_len])) ?_
      refine l_q rfl (q_assign rfl rfl) rfl rfl ?_
      refine l_nil ?_
      refine k_then ?_
      refine c_seq ?_
      refine c_region _ rfl ?_
      refine l_q rfl (q_move rfl rfl) rfl rfl ?_
      refine l_e rfl ?_
      refine e_call_00 (rof_all s hs0) rfl rfl rfl Try.call12 rfl (fun _ _ => trivial) ?_
      intro _ _
      rw [← hp]
      refine l_q rfl (q_move rfl rfl) rfl rfl ?_
      refine l_q rfl (q_extract rfl rfl rfl) rfl rfl ?_
      refine l_q rfl (q_extract rfl rfl rfl) rfl rfl ?_
      refine l_e rfl ?_
      refine e_alloc rfl rfl rfl Try.zeroValue24 ?_
      intro bb
      refine cells_eq (show _ = kc 0 z8 from rfl) ?_
      refine l_e rfl ?_
      refine e_storeAgg rfl rfl Try.sizeOf24 rfl rfl (Kv.c_len _) (Kv.one _) (by rw [show ((p.1).c).length = 9 from Kv.c_len _, kc_len z8_len]; decide) ?_
      refine cells_eq (show Sep.splice _ 0 (p.1).c = (p.1).c from Sep.splice_all (by rw [Kv.c_len, kc_len z8_len])) ?_
      refine l_q rfl (q_assign rfl rfl) rfl rfl ?_
      refine l_nil ?_
      refine k_then ?_
      refine c_seq ?_
      refine c_draw [(0, some true), (1, some true), (2, some true), (3, some true), (4, some true), (5, some true), (6, some true), (7, some true), (8, some true), (9, some true), (11, some true), (10, some false), (12, some false), (13, some true), (14, some true), (15, some true), (16, some true), (18, some true), (17, some false), (19, some false), (20, some true), (21, some true), (22, some true), (23, some true), (25, some true), (24, some false), (26, some false), (27, some true), (28, some true), (29, some true), (30, some true), (32, some true), (31, some false), (33, some false), (34, some false), (35, some true), (36, some true), (37, some false), (38, some true), (39, some true)] [] [(_, some true), (_, some true), (_, some true), (_, some true), (_, some true), (_, some true), (_, some true), (_, some true), (_, some true), (_, some true), (_, some true), (_, some false), (_, some false), (_, some true), (_, some true), (_, some true), (_, some true), (_, some true), (_, some false), (_, some false), (_, some true), (_, some true), (_, some true), (_, some true), (_, some true), (_, some false), (_, some false), (_, some true), (_, some true), (_, some true), (_, some true), (_, some true), (_, some false), (_, some false), (_, some false), (_, some true), (_, some true), (_, some false), (_, some true), (_, some true)] (fun w2 => (cellsE bk 24 k.c).at w2 ∧ (cellsE ba 24 p.1.c).at w2 ∧ (cellsE bb 24 p.1.c).at w2) (blind_then blind_body) rfl (by kernel_rfl) (by kernel_rfl) rfl rfl rfl (by kernel_rfl) St.drawn (fun _ h => ⟨h.at 2 rfl, h.at 1 rfl, h.at 0 rfl⟩) ?_
      refine d_q rfl (q_loadCAgg (p.1.c) rfl Try.isAgg24 Try.sizeOf24 rfl (fun _ h => h.2.1) (kv_whole _) (Kv.c_len _)) rfl rfl ?_
      refine d_q rfl (q_loadCAgg (p.1.c) rfl Try.isAgg24 Try.sizeOf24 rfl (fun _ h => h.2.2) (kv_whole _) (Kv.c_len _)) rfl rfl ?_
      refine d_q rfl (q_eqK (p.1) (p.1) rfl rfl rfl) rfl rfl ?_
      refine d_q rfl (q_move rfl rfl) rfl rfl ?_
      refine Pre.setB (t := 33) (c := true) rfl (by first | rfl | (simp; done)) ?_
      refine d_q rfl (q_move rfl rfl) rfl rfl ?_
      refine d_q rfl (q_move rfl rfl) rfl rfl ?_
      refine d_q rfl (q_eql rfl rfl rfl) rfl rfl ?_
      refine d_q rfl (q_pick_t rfl rfl rfl) rfl rfl ?_
      refine d_q rfl (q_move rfl rfl) rfl rfl ?_
      refine Pre.setB (t := 38) (c := true) rfl (by first | rfl | (simp; done)) ?_
      refine d_q rfl (q_loadCAgg (k.c) rfl Try.isAgg24 Try.sizeOf24 rfl (fun _ h => h.1) (kv_whole _) (Kv.c_len _)) rfl rfl ?_
      refine d_q rfl (q_loadCAgg (k.c) rfl Try.isAgg24 Try.sizeOf24 rfl (fun _ h => h.1) (kv_whole _) (Kv.c_len _)) rfl rfl ?_
      refine d_e rfl ?_
      refine e_call_00 (kcheck_spec k) rfl rfl rfl Try.call13 rfl (fun _ _ => trivial) ?_
      intro _ _
      refine d_held (fun _ h => ⟨h.at 2 rfl, h.at 1 rfl, h.at 0 rfl⟩) ?_
      refine d_e rfl ?_
      refine e_call_00 (rkcheck_spec k) rfl rfl rfl Try.call14 rfl (fun _ _ => trivial) ?_
      intro _ _
      refine d_held (fun _ h => ⟨h.at 2 rfl, h.at 1 rfl, h.at 0 rfl⟩) ?_
      refine d_q rfl (q_eqb rfl Try.underlying4 rfl rfl) rfl rfl ?_
      refine d_q rfl (q_pick_t rfl rfl rfl) rfl rfl ?_
      refine d_q rfl (q_move rfl rfl) rfl rfl ?_
      refine Pre.setB (t := 45) (c := true) rfl (by first | rfl | (simp; done)) ?_
      refine d_q rfl (q_loadCAgg (k.c) rfl Try.isAgg24 Try.sizeOf24 rfl (fun _ h => h.1) (kv_whole _) (Kv.c_len _)) rfl rfl ?_
      refine d_q rfl (q_loadCAgg (k.c) rfl Try.isAgg24 Try.sizeOf24 rfl (fun _ h => h.1) (kv_whole _) (Kv.c_len _)) rfl rfl ?_
      refine d_e rfl ?_
      refine e_call_00 (text_spec k) rfl rfl rfl Try.call15 rfl (fun _ _ => trivial) ?_
      intro _ _
      refine d_held (fun _ h => ⟨h.at 2 rfl, h.at 1 rfl, h.at 0 rfl⟩) ?_
      refine d_e rfl ?_
      refine e_call_00 (rtext_spec k) rfl rfl rfl Try.call16 rfl (fun _ _ => trivial) ?_
      intro _ _
      refine d_held (fun _ h => ⟨h.at 2 rfl, h.at 1 rfl, h.at 0 rfl⟩) ?_
      refine d_q rfl (q_eqs rfl rfl rfl) rfl rfl ?_
      refine d_q rfl (q_pick_t rfl rfl rfl) rfl rfl ?_
      refine d_q rfl (q_move rfl rfl) rfl rfl ?_
      refine Pre.setB (t := 52) (c := true) rfl (by first | rfl | (simp; done)) ?_
      refine d_q rfl (q_move rfl rfl) rfl rfl ?_
      refine d_q rfl (q_move rfl rfl) rfl rfl ?_
      refine d_e rfl ?_
      refine e_call_00 (kinds_spec l (by omega)) rfl rfl rfl Try.call17 rfl (fun _ h => hl.keep h (by simp [dom])) ?_
      intro _ _
      refine d_held (fun _ h => ⟨h.at 2 rfl, h.at 1 rfl, h.at 0 rfl⟩) ?_
      refine d_e rfl ?_
      refine e_call_00 (rkinds_spec l (by omega)) rfl rfl rfl Try.call18 rfl (fun _ h => hl.keep h (by simp [dom])) ?_
      intro _ _
      refine d_held (fun _ h => ⟨h.at 2 rfl, h.at 1 rfl, h.at 0 rfl⟩) ?_
      refine d_q rfl (q_eql rfl rfl rfl) rfl rfl ?_
      refine d_q rfl (q_pick_t rfl rfl rfl) rfl rfl ?_
      refine d_q rfl (q_move rfl rfl) rfl rfl ?_
      refine Pre.setB (t := 59) (c := true) rfl (by first | rfl | (simp; done)) ?_
      refine d_q rfl (q_move rfl rfl) rfl rfl ?_
      refine d_q rfl (q_move rfl rfl) rfl rfl ?_
      refine d_e rfl ?_
      refine e_call_01 (order_spec l (by omega)) rfl rfl rfl Try.call20 rfl (fun _ h => hl.keep h (by simp [dom])) ?_
      intro v1 _
      refine d_held (fun _ h => ⟨h.at 3 rfl, h.at 2 rfl, h.at 1 rfl⟩) ?_
      refine d_e rfl ?_
      refine e_call_01 (rorder_spec l (by omega)) rfl rfl rfl Try.call21 rfl (fun _ h => hl.keep h (by simp [dom])) ?_
      intro v2 _
      refine d_held (fun _ h => ⟨h.at 4 rfl, h.at 3 rfl, h.at 2 rfl⟩) ?_
      refine d_e rfl ?_
      refine e_call_00 (same_spec (oi l) (oi l) (by have := oi_len (l := l); omega)) rfl rfl rfl Try.call19 rfl (fun _ h => ⟨h.rd 1 rfl, h.rd 0 rfl⟩) ?_
      intro _ _
      refine d_held (fun _ h => ⟨h.at 4 rfl, h.at 3 rfl, h.at 2 rfl⟩) ?_
      refine d_q rfl (q_pick_t rfl rfl rfl) rfl rfl ?_
      refine d_q rfl (q_move rfl rfl) rfl rfl ?_
      refine Pre.setB (t := 66) (c := true) rfl (by first | rfl | (simp; done)) ?_
      refine d_e rfl ?_
      refine e_call_00 (awake_spec) rfl rfl rfl Try.call10 rfl (fun _ _ => trivial) ?_
      intro _ _
      refine d_held (fun _ h => ⟨h.at 4 rfl, h.at 3 rfl, h.at 2 rfl⟩) ?_
      refine d_q rfl (q_pick_t rfl rfl rfl) rfl rfl ?_
      refine d_q rfl (q_assign rfl rfl) rfl rfl ?_
      refine d_nil ?_
      refine k_then ?_
      refine c_ret ?_
      refine r_one rfl rfl ?_
      exact fun _ h => ⟨(), rfl, trivial, h.nothing⟩
def kinds_1 : List Sc := Kv.ks 8
def kinds_2 : List Sc := Kv.ks 8
theorem kv_mk {m : Nat} {x : List Value} (h : Kinds (Kv.ks m) x) : ∃ k : Kv m, x = k.c := by
  obtain ⟨h1, h2⟩ := h
  cases x with
  | nil => simp [Kv.ks] at h1
  | cons u x =>
    obtain ⟨z, rfl, hz⟩ := h2 0 (.i .i64) u rfl rfl
    have hl : x.length = m := by simp [Kv.ks] at h1; omega
    have hall : ∀ v ∈ x, ∃ y, v = .int .u8 y ∧ (Lit.int .u8 y).wf = true := fun v hv => by
      obtain ⟨i, hi, rfl⟩ := List.mem_iff_getElem.1 hv
      have hi2 : i < m := by omega
      exact h2 (i + 1) (.i .u8) x[i] (by simp [Kv.ks, hi2]) (by simp [hi])
    clear h1 h2
    have key : ∀ x : List Value, (∀ v ∈ x, ∃ y, v = .int .u8 y ∧ (Lit.int .u8 y).wf = true) → ∃ b : List Int, x = b.map (.int .u8) ∧ ∀ y ∈ b, (Lit.int .u8 y).wf = true := by
      intro x
      induction x with
      | nil => intro _; exact ⟨[], rfl, by simp⟩
      | cons v x ih =>
        intro h
        obtain ⟨y, rfl, hy⟩ := h v (List.mem_cons_self ..)
        obtain ⟨b, rfl, hb⟩ := ih (fun u hu => h u (List.mem_cons_of_mem _ hu))
        exact ⟨y :: b, rfl, fun q hq => by rcases List.mem_cons.1 hq with rfl | hq; exact hy; exact hb q hq⟩
    obtain ⟨b, rfl, hb⟩ := key x hall
    exact ⟨⟨z, b, by simpa using hl, hz, hb⟩, rfl⟩

theorem keyAll_walk (w : World) (a0 : ByteArray) (w0 : a0.size ≤ 9223372036854775807) (x1 : Array Value) (kk1 : Kinds kinds_1 x1.toList) (A2 : Option Addr) (n2 c2 : Nat) (x2 : List Value) (e2 : x2.length = n2 * kinds_2.length) (rd2 : Rd w w.heap.size A2 x2) (l2 : n2 ≤ c2) (m2 : c2 ≤ maxLen) (kk2 : ∀ i, i < n2 → Kinds kinds_2 ((x2.drop (i * kinds_2.length)).take kinds_2.length)) :
    Calls Try.prog 3 #[.string a0, .agg x1, .slice A2 n2 c2] w fun e w' => e = .returned (.bool true) ∧ Below w.heap.size w w' := by
  obtain ⟨k, h1⟩ := kv_mk kk1
  obtain ⟨l, rfl, rfl, _⟩ := flat_of (Kv.enc 8) (ks := kinds_2) (W := fun _ => True) rfl (fun cs h => let ⟨k, e⟩ := kv_mk h; ⟨k, e, trivial⟩) n2 x2 e2 kk2
  have h := con_walk (all_spec a0 k l w0) (rdv_of rd2 l2)
  have e1 : x1 = k.c.toArray := by rw [← h1]
  subst e1
  exact h
end Go.Proofs.Ytaojcncmbbgmcaa
