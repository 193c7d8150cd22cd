/- latch: the reference -/
import Derived.Test.YtlakembncfkimaaF
set_option linter.unusedVariables false
set_option linter.unusedSimpArgs false
namespace Go.Proofs.Ytlakembncfkimaa
open Go.Sep Go.RowKit

/-- The reference's latch in memory. -/
abbrev RT (b : Nat) (vR vQ : Value) (m : La) : List Ent := [cellsE b 53 [vR, .int .i64 m.wr, vQ, .int .i64 m.pins], rowE vR 3 (encI .i64) m.rd, rowE vQ 41 encW m.q]
def hasB (m : La) (t : Int) : Bool := decide (t ∈ m.rd) || decide (m.wr = t)
def inB (m : La) (t : Int) : Bool := decide (t ∈ m.q.map Prod.fst)
theorem may_has (m : La) (t : Int) : mayB m t = (decide (0 ≤ t) && !hasB m t && !inB m t) := by
  rw [Bool.eq_iff_iff]
  simp only [mayB, hasB, inB, decide_eq_true_eq, Bool.and_eq_true, Bool.not_eq_true', Bool.or_eq_false_iff, decide_eq_false_iff_not]
  exact ⟨fun h => ⟨⟨h.1, h.2.2.1, h.2.1⟩, h.2.2.2⟩, fun h => ⟨h.1.1, h.1.2.2, h.1.2.1, h.2⟩⟩
theorem can_open {m : La} (h : -1 ≤ m.wr) (w : Bool) : (decide (m.wr < 0) && (!w || decide (m.rd.length = 0))) = openB m w := by
  unfold openB
  rw [show decide (m.wr < 0) = decide (m.wr = -1) from decide_eq_decide.2 (by omega)]
theorem row_one' {w : World} {v : Value} {t : TypeId} {α : Type} {E : Enc α} {l : List α} (h : (rowE v t E l).at w) : v.oneCell' = true := by
  obtain ⟨a, c, rfl⟩ := row_sl h; rfl
set_option maxRecDepth 100000 in
set_option maxHeartbeats 1000000 in
theorem has_spec {m : La} {n : Nat} (hm : m.Ok n) (hn : n ≤ 60000) (b : Nat) (vR vQ : Value) (t : Int) : Con Try.prog 43 [.pointer (some ⟨b, 0, none⟩), .int .i64 t] (fun _ => True) (RT b vR vQ m) (fun _ : Unit => .bool (hasB m t)) (fun _ => True) (fun _ => RT b vR vQ m) := by
  intro w hE hH
  obtain ⟨hlr, hlq⟩ := hm.lens
  refine enter (n := 30) (vs := [.pointer (some ⟨b, 0, none⟩), .int .i64 t]) (St w (dom (RT b vR vQ m)) (RT b vR vQ (m))) Try.func43 rfl rfl rfl (St.init hH) ?_
  refine c_seq ?_
  refine c_region _ rfl ?_
  refine l_q rfl (q_assign rfl rfl) rfl rfl ?_
  refine l_nil ?_
  refine k_then ?_
  refine c_seq ?_
  refine c_seq ?_
  refine c_region _ rfl ?_
  refine l_q rfl (q_assign rfl rfl) rfl rfl ?_
  refine l_nil ?_
  refine k_then ?_
  refine c_block ?_
  refine c_loop1 (fun (k : Nat) => [(0, .pointer (some ⟨b, 0, none⟩)), (1, .int .i64 t), (5, .int .i64 (k : Int))]) (fun (k : Nat) => St w (dom (RT b vR vQ m)) (RT b vR vQ (m))) (fun (k : Nat) => k ≤ m.rd.length ∧ t ∉ (m.rd.take k)) (fun (k : Nat) => m.rd.length - k) (0) ⟨Nat.zero_le _, by simp⟩ (Sub.cons rfl (Sub.cons rfl (Sub.cons rfl (Sub.nil)))) (fun _ h => h) ?_
  intro k hp
  refine c_seq ?_
  refine c_seq ?_
  obtain ⟨hk, hx⟩ := hp
  refine c_region _ rfl ?_
  refine l_q rfl (q_move rfl rfl) rfl rfl ?_
  refine l_q rfl (q_move rfl rfl) rfl rfl ?_
  refine l_q rfl (q_nilCheck rfl rfl) rfl rfl ?_
  refine l_q rfl (q_fieldAddr rfl Try.underlying53 rfl Try.sizeOf27 rfl rfl) rfl rfl ?_
  refine l_q rfl (q_loadC rfl Try.isAgg27 rfl (fun _ h => h.at 0 rfl) rfl) rfl rfl ?_
  refine l_q rfl (q_lenV rfl Try.underlying27 rfl (fun _ h => h.rd 1 rfl)) rfl rfl ?_
  refine l_q rfl (q_lss rfl rfl rfl) rfl rfl ?_
  refine l_nil ?_
  refine k_then ?_
  refine Pre.caseB 12 rfl (fun h1 => ?_) (fun h1 => ?_)
  · try simp only [decide_eq_true_eq, decide_eq_false_iff_not, Bool.not_eq_true', Bool.not_eq_false'] at h1
    obtain ⟨y, hy⟩ : ∃ y, m.rd[k]? = some y := ⟨_, List.getElem?_eq_getElem (by omega)⟩
    refine c_true rfl ?_
    refine c_skip ?_
    refine k_then ?_
    refine c_seq ?_
    refine c_block ?_
    refine c_seq ?_
    refine c_region _ rfl ?_
    refine l_q rfl (q_move rfl rfl) rfl rfl ?_
    refine l_q rfl (q_nilCheck rfl rfl) rfl rfl ?_
    refine l_q rfl (q_fieldAddr rfl Try.underlying53 rfl Try.sizeOf27 rfl rfl) rfl rfl ?_
    refine l_q rfl (q_loadC rfl Try.isAgg27 rfl (fun _ h => h.at 0 rfl) rfl) rfl rfl ?_
    refine l_q rfl (q_move rfl rfl) rfl rfl ?_
    refine l_q rfl (q_indexV k rfl Try.underlying27 Try.sizeOf3 rfl (fun _ h => h.rd 1 rfl) rfl rfl (by omega)) rfl rfl ?_
    refine l_q rfl (q_loadV k 0 rfl Try.isAgg3 rfl rfl (fun _ h => h.rd 1 rfl) hy rfl) rfl rfl ?_
    refine l_q rfl (q_move rfl rfl) rfl rfl ?_
    refine l_q rfl (q_eql rfl rfl rfl) rfl rfl ?_
    refine l_nil ?_
    refine k_then ?_
    refine Pre.caseB 23 rfl (fun h2 => ?_) (fun h2 => ?_)
    · try simp only [decide_eq_true_eq, decide_eq_false_iff_not, Bool.not_eq_true', Bool.not_eq_false'] at h2
      have e : hasB m t = true := by unfold hasB; rw [decide_eq_true (h2 ▸ List.mem_of_getElem? hy)]; rfl
      refine c_true rfl ?_
      refine c_seq ?_
      refine c_region _ rfl ?_
      refine l_q rfl (q_assign rfl rfl) rfl rfl ?_
      refine l_nil ?_
      refine k_then ?_
      refine c_ret ?_
      refine k_block_ret ?_
      refine k_then_ret ?_
      refine k_then_ret ?_
      refine k_block_ret ?_
      refine k_then_ret ?_
      refine r_one rfl rfl ?_
      exact fun _ h => ⟨(), congrArg (fun z => Ending.returned (Value.bool z)) e.symm, trivial, h⟩
    · try simp only [decide_eq_true_eq, decide_eq_false_iff_not, Bool.not_eq_true', Bool.not_eq_false'] at h2
      refine c_false rfl ?_
      refine c_skip ?_
      refine k_block ?_
      refine k_then ?_
      refine c_region _ rfl ?_
      refine l_q rfl (q_move rfl rfl) rfl rfl ?_
      refine l_q rfl (q_inc rfl rfl rfl (by omega)) rfl rfl ?_
      refine l_q rfl (q_assign rfl rfl) rfl rfl ?_
      refine l_nil ?_
      exact k_round (k + 1) (by omega) ⟨by omega, take_not hx hy (fun e => h2 e.symm)⟩ (Sub.cons rfl (Sub.cons rfl (Sub.cons rfl (Sub.nil)))) (fun _ h => h)
  · try simp only [decide_eq_true_eq, decide_eq_false_iff_not, Bool.not_eq_true', Bool.not_eq_false'] at h1
    rw [List.take_of_length_le (by omega)] at hx
    refine c_false rfl ?_
    refine c_exit ?_
    refine k_then_exit ?_
    refine k_then_exit ?_
    refine k_block_exit ?_
    refine k_then ?_
    refine c_seq ?_
    refine c_region _ rfl ?_
    refine l_q rfl (q_move rfl rfl) rfl rfl ?_
    refine l_q rfl (q_nilCheck rfl rfl) rfl rfl ?_
    refine l_q rfl (q_fieldAddr rfl Try.underlying53 rfl Try.sizeOf3 rfl rfl) rfl rfl ?_
    refine l_q rfl (q_loadC rfl Try.isAgg3 rfl (fun _ h => h.at 0 rfl) rfl) rfl rfl ?_
    refine l_q rfl (q_move rfl rfl) rfl rfl ?_
    refine l_q rfl (q_eql rfl rfl rfl) rfl rfl ?_
    refine l_q rfl (q_assign rfl rfl) rfl rfl ?_
    refine l_nil ?_
    refine k_then ?_
    refine c_ret ?_
    refine r_one rfl rfl ?_
    exact fun _ h => ⟨(), congrArg (fun z => Ending.returned (Value.bool z)) (by unfold hasB; rw [decide_eq_false hx]; rfl), trivial, h⟩
set_option maxRecDepth 100000 in
set_option maxHeartbeats 1000000 in
theorem queued_spec {m : La} {n : Nat} (hm : m.Ok n) (hn : n ≤ 60000) (b : Nat) (vR vQ : Value) (t : Int) : Con Try.prog 44 [.pointer (some ⟨b, 0, none⟩), .int .i64 t] (fun _ => True) (RT b vR vQ m) (fun _ : Unit => .bool (inB m t)) (fun _ => True) (fun _ => RT b vR vQ m) := by
  intro w hE hH
  obtain ⟨hlr, hlq⟩ := hm.lens
  refine enter (n := 25) (vs := [.pointer (some ⟨b, 0, none⟩), .int .i64 t]) (St w (dom (RT b vR vQ m)) (RT b vR vQ (m))) Try.func44 rfl rfl rfl (St.init hH) ?_
  refine c_seq ?_
  refine c_region _ rfl ?_
  refine l_q rfl (q_assign rfl rfl) rfl rfl ?_
  refine l_nil ?_
  refine k_then ?_
  refine c_seq ?_
  refine c_seq ?_
  refine c_region _ rfl ?_
  refine l_q rfl (q_assign rfl rfl) rfl rfl ?_
  refine l_nil ?_
  refine k_then ?_
  refine c_block ?_
  refine c_loop1 (fun (k : Nat) => [(0, .pointer (some ⟨b, 0, none⟩)), (1, .int .i64 t), (5, .int .i64 (k : Int))]) (fun (k : Nat) => St w (dom (RT b vR vQ m)) (RT b vR vQ (m))) (fun (k : Nat) => k ≤ m.q.length ∧ t ∉ (m.q.take k).map Prod.fst) (fun (k : Nat) => m.q.length - k) (0) ⟨Nat.zero_le _, by simp⟩ (Sub.cons rfl (Sub.cons rfl (Sub.cons rfl (Sub.nil)))) (fun _ h => h) ?_
  intro k hp
  refine c_seq ?_
  refine c_seq ?_
  obtain ⟨hk, hx⟩ := hp
  refine c_region _ rfl ?_
  refine l_q rfl (q_move rfl rfl) rfl rfl ?_
  refine l_q rfl (q_move rfl rfl) rfl rfl ?_
  refine l_q rfl (q_nilCheck rfl rfl) rfl rfl ?_
  refine l_q rfl (q_fieldAddr rfl Try.underlying53 rfl Try.sizeOf33 rfl rfl) rfl rfl ?_
  refine l_q rfl (q_loadC rfl Try.isAgg33 rfl (fun _ h => h.at 0 rfl) rfl) rfl rfl ?_
  refine l_q rfl (q_lenV rfl Try.underlying33 rfl (fun _ h => h.rd 2 rfl)) rfl rfl ?_
  refine l_q rfl (q_lss rfl rfl rfl) rfl rfl ?_
  refine l_nil ?_
  refine k_then ?_
  refine Pre.caseB 12 rfl (fun h1 => ?_) (fun h1 => ?_)
  · try simp only [decide_eq_true_eq, decide_eq_false_iff_not, Bool.not_eq_true', Bool.not_eq_false'] at h1
    obtain ⟨y, hy⟩ : ∃ y, m.q[k]? = some y := ⟨_, List.getElem?_eq_getElem (by omega)⟩
    refine c_true rfl ?_
    refine c_skip ?_
    refine k_then ?_
    refine c_seq ?_
    refine c_block ?_
    refine c_seq ?_
    refine c_region _ rfl ?_
    refine l_q rfl (q_move rfl rfl) rfl rfl ?_
    refine l_q rfl (q_nilCheck rfl rfl) rfl rfl ?_
    refine l_q rfl (q_fieldAddr rfl Try.underlying53 rfl Try.sizeOf33 rfl rfl) rfl rfl ?_
    refine l_q rfl (q_loadC rfl Try.isAgg33 rfl (fun _ h => h.at 0 rfl) rfl) rfl rfl ?_
    refine l_q rfl (q_move rfl rfl) rfl rfl ?_
    refine l_q rfl (q_indexV k rfl Try.underlying33 Try.sizeOf41 rfl (fun _ h => h.rd 2 rfl) rfl rfl (by omega)) rfl rfl ?_
    refine l_q rfl (q_fieldAddr rfl Try.underlying41 rfl Try.sizeOf3 rfl rfl) rfl rfl ?_
    refine l_q rfl (q_loadV k 0 rfl Try.isAgg3 rfl rfl (fun _ h => h.rd 2 rfl) hy rfl) rfl rfl ?_
    refine l_q rfl (q_move rfl rfl) rfl rfl ?_
    refine l_q rfl (q_eql rfl rfl rfl) rfl rfl ?_
    refine l_nil ?_
    refine k_then ?_
    refine Pre.caseB 24 rfl (fun h2 => ?_) (fun h2 => ?_)
    · try simp only [decide_eq_true_eq, decide_eq_false_iff_not, Bool.not_eq_true', Bool.not_eq_false'] at h2
      have e : inB m t = true := decide_eq_true (h2 ▸ List.mem_map_of_mem (List.mem_of_getElem? hy))
      refine c_true rfl ?_
      refine c_seq ?_
      refine c_region _ rfl ?_
      refine l_q rfl (q_assign rfl rfl) rfl rfl ?_
      refine l_nil ?_
      refine k_then ?_
      refine c_ret ?_
      refine k_block_ret ?_
      refine k_then_ret ?_
      refine k_then_ret ?_
      refine k_block_ret ?_
      refine k_then_ret ?_
      refine r_one rfl rfl ?_
      exact fun _ h => ⟨(), congrArg (fun z => Ending.returned (Value.bool z)) e.symm, trivial, h⟩
    · try simp only [decide_eq_true_eq, decide_eq_false_iff_not, Bool.not_eq_true', Bool.not_eq_false'] at h2
      refine c_false rfl ?_
      refine c_skip ?_
      refine k_block ?_
      refine k_then ?_
      refine c_region _ rfl ?_
      refine l_q rfl (q_move rfl rfl) rfl rfl ?_
      refine l_q rfl (q_inc rfl rfl rfl (by omega)) rfl rfl ?_
      refine l_q rfl (q_assign rfl rfl) rfl rfl ?_
      refine l_nil ?_
      exact k_round (k + 1) (by omega) ⟨by omega, take_notW hx hy h2⟩ (Sub.cons rfl (Sub.cons rfl (Sub.cons rfl (Sub.nil)))) (fun _ h => h)
  · try simp only [decide_eq_true_eq, decide_eq_false_iff_not, Bool.not_eq_true', Bool.not_eq_false'] at h1
    rw [List.take_of_length_le (by omega)] at hx
    refine c_false rfl ?_
    refine c_exit ?_
    refine k_then_exit ?_
    refine k_then_exit ?_
    refine k_block_exit ?_
    refine k_then ?_
    refine c_seq ?_
    refine c_region _ rfl ?_
    refine l_q rfl (q_assign rfl rfl) rfl rfl ?_
    refine l_nil ?_
    refine k_then ?_
    refine c_ret ?_
    refine r_one rfl rfl ?_
    exact fun _ h => ⟨(), congrArg (fun z => Ending.returned (Value.bool z)) (decide_eq_false hx).symm, trivial, h⟩
set_option maxRecDepth 100000 in
set_option maxHeartbeats 1000000 in
theorem can_spec {m : La} {n : Nat} (hm : m.Ok n) (hn : n ≤ 60000) (b : Nat) (vR vQ : Value) (wr : Bool) : Con Try.prog 45 [.pointer (some ⟨b, 0, none⟩), .bool wr] (fun _ => True) (RT b vR vQ m) (fun _ : Unit => .bool (openB m wr)) (fun _ => True) (fun _ => RT b vR vQ m) := by
  intro w hE hH
  have hw := hm.wr
  have hco := can_open hw wr
  refine enter (n := 22) (vs := [.pointer (some ⟨b, 0, none⟩), .bool wr]) (St w (dom (RT b vR vQ m)) (RT b vR vQ (m))) Try.func45 rfl rfl rfl (St.init hH) ?_
  refine c_seq ?_
  refine c_region _ rfl ?_
  refine l_q rfl (q_assign rfl rfl) rfl rfl ?_
  refine l_nil ?_
  refine k_then ?_
  refine c_seq ?_
  refine c_region _ rfl ?_
  refine l_q rfl (q_move rfl rfl) rfl rfl ?_
  refine l_q rfl (q_nilCheck rfl rfl) rfl rfl ?_
  refine l_q rfl (q_fieldAddr rfl Try.underlying53 rfl Try.sizeOf3 rfl rfl) rfl rfl ?_
  refine l_q rfl (q_loadC rfl Try.isAgg3 rfl (fun _ h => h.at 0 rfl) rfl) rfl rfl ?_
  refine l_q rfl (q_lss rfl rfl rfl) rfl rfl ?_
  refine l_q rfl (q_move rfl rfl) rfl rfl ?_
  refine Pre.caseB 10 rfl (fun h1 => ?_) (fun h1 => ?_)
  · try simp only [decide_eq_true_eq, decide_eq_false_iff_not, Bool.not_eq_true', Bool.not_eq_false'] at h1
    refine l_q rfl (q_move rfl rfl) rfl rfl ?_
    refine l_q rfl (q_not rfl rfl) rfl rfl ?_
    refine l_q rfl (q_move rfl rfl) rfl rfl ?_
    refine Pre.caseB 13 rfl (fun h2 => ?_) (fun h2 => ?_)
    · try simp only [Bool.not_eq_true', Bool.not_eq_false'] at h2
      refine l_not rfl rfl rfl ?_
      refine l_not rfl rfl rfl ?_
      refine l_not rfl rfl rfl ?_
      refine l_not rfl rfl rfl ?_
      refine l_not rfl rfl rfl ?_
      refine l_not rfl rfl rfl ?_
      refine l_q rfl (q_pick_t rfl rfl rfl) rfl rfl ?_
      refine l_q rfl (q_pick_t rfl rfl rfl) rfl rfl ?_
      refine l_q rfl (q_assign rfl rfl) rfl rfl ?_
      refine l_nil ?_
      refine k_then ?_
      refine c_ret ?_
      refine r_one rfl rfl ?_
      exact fun _ h => ⟨(), congrArg (fun z => Ending.returned (Value.bool z)) (by rw [← hco]; simp [*]), trivial, h⟩
    · try simp only [Bool.not_eq_true', Bool.not_eq_false'] at h2
      refine l_q rfl (q_move rfl rfl) rfl rfl ?_
      refine l_q rfl (q_nilCheck rfl rfl) rfl rfl ?_
      refine l_q rfl (q_fieldAddr rfl Try.underlying53 rfl Try.sizeOf27 rfl rfl) rfl rfl ?_
      refine l_q rfl (q_loadC rfl Try.isAgg27 rfl (fun _ h => h.at 0 rfl) rfl) rfl rfl ?_
      refine l_q rfl (q_lenV rfl Try.underlying27 rfl (fun _ h => h.rd 1 rfl)) rfl rfl ?_
      refine l_q rfl (q_eql rfl rfl rfl) rfl rfl ?_
      refine l_q rfl (q_pick_f rfl rfl rfl) rfl rfl ?_
      refine l_q rfl (q_pick_t rfl rfl rfl) rfl rfl ?_
      refine l_q rfl (q_assign rfl rfl) rfl rfl ?_
      refine l_nil ?_
      refine k_then ?_
      refine c_ret ?_
      refine r_one rfl rfl ?_
      exact fun _ h => ⟨(), congrArg (fun z => Ending.returned (Value.bool z)) (by rw [← hco]; simp [*]), trivial, h⟩
  · try simp only [decide_eq_true_eq, decide_eq_false_iff_not, Bool.not_eq_true', Bool.not_eq_false'] at h1
    refine l_not rfl rfl rfl ?_
    refine l_not rfl rfl rfl ?_
    refine l_not rfl rfl rfl ?_
    refine l_not rfl rfl rfl ?_
    refine l_not rfl rfl rfl ?_
    refine l_not rfl rfl rfl ?_
    refine l_not rfl rfl rfl ?_
    refine l_not rfl rfl rfl ?_
    refine l_not rfl rfl rfl ?_
    refine l_not rfl rfl rfl ?_
    refine l_q rfl (q_pick_f rfl rfl rfl) rfl rfl ?_
    refine l_q rfl (q_assign rfl rfl) rfl rfl ?_
    refine l_nil ?_
    refine k_then ?_
    refine c_ret ?_
    refine r_one rfl rfl ?_
    exact fun _ h => ⟨(), congrArg (fun z => Ending.returned (Value.bool z)) (by rw [← hco]; simp [*]), trivial, h⟩
set_option maxRecDepth 100000 in
set_option maxHeartbeats 1000000 in
theorem ridle_spec {m : La} {n : Nat} (hm : m.Ok n) (hn : n ≤ 60000) (b : Nat) (vR vQ : Value) : Con Try.prog 32 [.pointer (some ⟨b, 0, none⟩)] (fun _ => True) (RT b vR vQ m) (fun _ : Unit => .bool (idleB m)) (fun _ => True) (fun _ => RT b vR vQ m) := by
  intro w hE hH
  have hco := can_open hm.wr true
  refine enter (n := 31) (vs := [.pointer (some ⟨b, 0, none⟩)]) (St w (dom (RT b vR vQ m)) (RT b vR vQ (m))) Try.func32 rfl rfl rfl (St.init hH) ?_
  refine c_seq ?_
  refine c_region _ rfl ?_
  refine l_q rfl (q_assign rfl rfl) rfl rfl ?_
  refine l_nil ?_
  refine k_then ?_
  refine c_seq ?_
  refine c_region _ rfl ?_
  refine l_q rfl (q_move rfl rfl) rfl rfl ?_
  refine l_q rfl (q_nilCheck rfl rfl) rfl rfl ?_
  refine l_q rfl (q_fieldAddr rfl Try.underlying53 rfl Try.sizeOf27 rfl rfl) rfl rfl ?_
  refine l_q rfl (q_loadC rfl Try.isAgg27 rfl (fun _ h => h.at 0 rfl) rfl) rfl rfl ?_
  refine l_q rfl (q_lenV rfl Try.underlying27 rfl (fun _ h => h.rd 1 rfl)) rfl rfl ?_
  refine l_q rfl (q_eql rfl rfl rfl) rfl rfl ?_
  refine l_q rfl (q_move rfl rfl) rfl rfl ?_
  refine Pre.caseB 9 rfl (fun h1 => ?_) (fun h1 => ?_)
  · try simp only [decide_eq_true_eq, decide_eq_false_iff_not, Bool.not_eq_true', Bool.not_eq_false'] at h1
    refine l_q rfl (q_move rfl rfl) rfl rfl ?_
    refine l_q rfl (q_nilCheck rfl rfl) rfl rfl ?_
    refine l_q rfl (q_fieldAddr rfl Try.underlying53 rfl Try.sizeOf3 rfl rfl) rfl rfl ?_
    refine l_q rfl (q_loadC rfl Try.isAgg3 rfl (fun _ h => h.at 0 rfl) rfl) rfl rfl ?_
    refine l_q rfl (q_lss rfl rfl rfl) rfl rfl ?_
    refine l_q rfl (q_pick_t rfl rfl rfl) rfl rfl ?_
    refine l_q rfl (q_move rfl rfl) rfl rfl ?_
    refine Pre.caseB 16 rfl (fun h2 => ?_) (fun h2 => ?_)
    · try simp only [decide_eq_true_eq, decide_eq_false_iff_not, Bool.not_eq_true', Bool.not_eq_false'] at h2
      refine l_q rfl (q_move rfl rfl) rfl rfl ?_
      refine l_q rfl (q_nilCheck rfl rfl) rfl rfl ?_
      refine l_q rfl (q_fieldAddr rfl Try.underlying53 rfl Try.sizeOf33 rfl rfl) rfl rfl ?_
      refine l_q rfl (q_loadC rfl Try.isAgg33 rfl (fun _ h => h.at 0 rfl) rfl) rfl rfl ?_
      refine l_q rfl (q_lenV rfl Try.underlying33 rfl (fun _ h => h.rd 2 rfl)) rfl rfl ?_
      refine l_q rfl (q_eql rfl rfl rfl) rfl rfl ?_
      refine l_q rfl (q_pick_t rfl rfl rfl) rfl rfl ?_
      refine l_q rfl (q_move rfl rfl) rfl rfl ?_
      refine Pre.caseB 24 rfl (fun h3 => ?_) (fun h3 => ?_)
      · try simp only [decide_eq_true_eq, decide_eq_false_iff_not, Bool.not_eq_true', Bool.not_eq_false'] at h3
        refine l_q rfl (q_move rfl rfl) rfl rfl ?_
        refine l_q rfl (q_nilCheck rfl rfl) rfl rfl ?_
        refine l_q rfl (q_fieldAddr rfl Try.underlying53 rfl Try.sizeOf3 rfl rfl) rfl rfl ?_
        refine l_q rfl (q_loadC rfl Try.isAgg3 rfl (fun _ h => h.at 0 rfl) rfl) rfl rfl ?_
        refine l_q rfl (q_eql rfl rfl rfl) rfl rfl ?_
        refine l_q rfl (q_pick_t rfl rfl rfl) rfl rfl ?_
        refine l_q rfl (q_assign rfl rfl) rfl rfl ?_
        refine l_nil ?_
        refine k_then ?_
        refine c_ret ?_
        refine r_one rfl rfl ?_
        exact fun _ h => ⟨(), congrArg (fun z => Ending.returned (Value.bool z)) (by unfold idleB; rw [← hco]; first | (simp [*]; done) | (rw [show decide (m.rd.length = 0) = true from decide_eq_true (by omega), show decide (m.wr < 0) = true from decide_eq_true (by omega), show decide (m.q.length = 0) = true from decide_eq_true (by omega)]; simp; done) | (rw [show decide (m.rd.length = 0) = false from decide_eq_false (by omega)]; simp; done) | (rw [show decide (m.wr < 0) = false from decide_eq_false (by omega)]; simp; done) | (rw [show decide (m.q.length = 0) = false from decide_eq_false (by omega)]; simp; done)), trivial, h⟩
      · try simp only [decide_eq_true_eq, decide_eq_false_iff_not, Bool.not_eq_true', Bool.not_eq_false'] at h3
        refine l_not rfl rfl rfl ?_
        refine l_not rfl rfl rfl ?_
        refine l_not rfl rfl rfl ?_
        refine l_not rfl rfl rfl ?_
        refine l_not rfl rfl rfl ?_
        refine l_q rfl (q_pick_f rfl rfl rfl) rfl rfl ?_
        refine l_q rfl (q_assign rfl rfl) rfl rfl ?_
        refine l_nil ?_
        refine k_then ?_
        refine c_ret ?_
        refine r_one rfl rfl ?_
        exact fun _ h => ⟨(), congrArg (fun z => Ending.returned (Value.bool z)) (by unfold idleB; rw [← hco]; first | (simp [*]; done) | (rw [show decide (m.rd.length = 0) = true from decide_eq_true (by omega), show decide (m.wr < 0) = true from decide_eq_true (by omega), show decide (m.q.length = 0) = true from decide_eq_true (by omega)]; simp; done) | (rw [show decide (m.rd.length = 0) = false from decide_eq_false (by omega)]; simp; done) | (rw [show decide (m.wr < 0) = false from decide_eq_false (by omega)]; simp; done) | (rw [show decide (m.q.length = 0) = false from decide_eq_false (by omega)]; simp; done)), trivial, h⟩
    · try simp only [decide_eq_true_eq, decide_eq_false_iff_not, Bool.not_eq_true', Bool.not_eq_false'] at h2
      refine l_not rfl rfl rfl ?_
      refine l_not rfl rfl rfl ?_
      refine l_not rfl rfl rfl ?_
      refine l_not rfl rfl rfl ?_
      refine l_not rfl rfl rfl ?_
      refine l_not rfl rfl rfl ?_
      refine l_q rfl (q_pick_f rfl rfl rfl) rfl rfl ?_
      refine l_q rfl (q_move rfl rfl) rfl rfl ?_
      refine l_not rfl rfl rfl ?_
      refine l_not rfl rfl rfl ?_
      refine l_not rfl rfl rfl ?_
      refine l_not rfl rfl rfl ?_
      refine l_not rfl rfl rfl ?_
      refine l_q rfl (q_pick_f rfl rfl rfl) rfl rfl ?_
      refine l_q rfl (q_assign rfl rfl) rfl rfl ?_
      refine l_nil ?_
      refine k_then ?_
      refine c_ret ?_
      refine r_one rfl rfl ?_
      exact fun _ h => ⟨(), congrArg (fun z => Ending.returned (Value.bool z)) (by unfold idleB; rw [← hco]; first | (simp [*]; done) | (rw [show decide (m.rd.length = 0) = true from decide_eq_true (by omega), show decide (m.wr < 0) = true from decide_eq_true (by omega), show decide (m.q.length = 0) = true from decide_eq_true (by omega)]; simp; done) | (rw [show decide (m.rd.length = 0) = false from decide_eq_false (by omega)]; simp; done) | (rw [show decide (m.wr < 0) = false from decide_eq_false (by omega)]; simp; done) | (rw [show decide (m.q.length = 0) = false from decide_eq_false (by omega)]; simp; done)), trivial, h⟩
  · try simp only [decide_eq_true_eq, decide_eq_false_iff_not, Bool.not_eq_true', Bool.not_eq_false'] at h1
    refine l_not rfl rfl rfl ?_
    refine l_not rfl rfl rfl ?_
    refine l_not rfl rfl rfl ?_
    refine l_not rfl rfl rfl ?_
    refine l_not rfl rfl rfl ?_
    refine l_q rfl (q_pick_f rfl rfl rfl) rfl rfl ?_
    refine l_q rfl (q_move rfl rfl) rfl rfl ?_
    refine l_not rfl rfl rfl ?_
    refine l_not rfl rfl rfl ?_
    refine l_not rfl rfl rfl ?_
    refine l_not rfl rfl rfl ?_
    refine l_not rfl rfl rfl ?_
    refine l_not rfl rfl rfl ?_
    refine l_q rfl (q_pick_f rfl rfl rfl) rfl rfl ?_
    refine l_q rfl (q_move rfl rfl) rfl rfl ?_
    refine l_not rfl rfl rfl ?_
    refine l_not rfl rfl rfl ?_
    refine l_not rfl rfl rfl ?_
    refine l_not rfl rfl rfl ?_
    refine l_not rfl rfl rfl ?_
    refine l_q rfl (q_pick_f rfl rfl rfl) rfl rfl ?_
    refine l_q rfl (q_assign rfl rfl) rfl rfl ?_
    refine l_nil ?_
    refine k_then ?_
    refine c_ret ?_
    refine r_one rfl rfl ?_
    exact fun _ h => ⟨(), congrArg (fun z => Ending.returned (Value.bool z)) (by unfold idleB; rw [← hco]; first | (simp [*]; done) | (rw [show decide (m.rd.length = 0) = true from decide_eq_true (by omega), show decide (m.wr < 0) = true from decide_eq_true (by omega), show decide (m.q.length = 0) = true from decide_eq_true (by omega)]; simp; done) | (rw [show decide (m.rd.length = 0) = false from decide_eq_false (by omega)]; simp; done) | (rw [show decide (m.wr < 0) = false from decide_eq_false (by omega)]; simp; done) | (rw [show decide (m.q.length = 0) = false from decide_eq_false (by omega)]; simp; done)), trivial, h⟩
set_option maxRecDepth 100000 in
set_option maxHeartbeats 1000000 in
theorem rpin_spec {m : La} {n : Nat} (hm : m.Ok n) (hn : n ≤ 60000) (b : Nat) (vR vQ : Value) : Con Try.prog 28 [.pointer (some ⟨b, 0, none⟩)] (fun _ => True) (RT b vR vQ m) (fun _ : Unit => .int .i64 (m.pins + 1)) (fun _ => True) (fun _ => RT b vR vQ { m with pins := m.pins + 1 }) := by
  intro w hE hH
  have hpn := hm.pn
  refine enter (n := 15) (vs := [.pointer (some ⟨b, 0, none⟩)]) (St w (dom (RT b vR vQ m)) (RT b vR vQ (m))) Try.func28 rfl rfl rfl (St.init hH) ?_
  refine c_seq ?_
  refine c_region _ rfl ?_
  refine l_q rfl (q_assign rfl rfl) rfl rfl ?_
  refine l_nil ?_
  refine k_then ?_
  refine c_seq ?_
  refine c_region _ rfl ?_
  refine l_q rfl (q_move rfl rfl) rfl rfl ?_
  refine l_q rfl (q_move rfl rfl) rfl rfl ?_
  refine l_q rfl (q_nilCheck rfl rfl) rfl rfl ?_
  refine l_q rfl (q_fieldAddr rfl Try.underlying53 rfl Try.sizeOf3 rfl rfl) rfl rfl ?_
  refine l_q rfl (q_loadC rfl Try.isAgg3 rfl (fun _ h => h.at 0 rfl) rfl) rfl rfl ?_
  refine l_q rfl (q_add64 rfl rfl rfl (by omega)) rfl rfl ?_
  refine l_q rfl (q_nilCheck rfl rfl) rfl rfl ?_
  refine l_q rfl (q_fieldAddr rfl Try.underlying53 rfl Try.sizeOf3 rfl rfl) rfl rfl ?_
  refine l_e rfl ?_
  refine e_store rfl rfl Try.sizeOf3 rfl rfl rfl (Nat.le_of_ble_eq_true rfl) ?_
  refine l_nil ?_
  refine k_then ?_
  refine c_seq ?_
  refine c_region _ rfl ?_
  refine l_q rfl (q_move rfl rfl) rfl rfl ?_
  refine l_q rfl (q_nilCheck rfl rfl) rfl rfl ?_
  refine l_q rfl (q_fieldAddr rfl Try.underlying53 rfl Try.sizeOf3 rfl rfl) rfl rfl ?_
  refine l_q rfl (q_loadC rfl Try.isAgg3 rfl (fun _ h => h.at 0 rfl) rfl) rfl rfl ?_
  refine l_q rfl (q_assign rfl rfl) rfl rfl ?_
  refine l_nil ?_
  refine k_then ?_
  refine c_ret ?_
  refine r_one rfl rfl ?_
  exact fun _ h => ⟨(), rfl, trivial, h⟩
set_option maxRecDepth 100000 in
set_option maxHeartbeats 1000000 in
theorem runpin_spec {m : La} {n : Nat} (hm : m.Ok n) (hn : n ≤ 60000) (b : Nat) (vR vQ : Value) : Con Try.prog 30 [.pointer (some ⟨b, 0, none⟩)] (fun _ => True) (RT b vR vQ m) (fun _ : Unit => .tuple #[.int .i64 (if m.pins = 0 then 0 else m.pins - 1), .bool (decide (m.pins ≠ 0))]) (fun _ => True) (fun _ => RT b vR vQ (unpinL m)) := by
  intro w hE hH
  have hpn := hm.pn
  refine enter (n := 21) (vs := [.pointer (some ⟨b, 0, none⟩)]) (St w (dom (RT b vR vQ m)) (RT b vR vQ (m))) Try.func30 rfl rfl rfl (St.init hH) ?_
  refine c_seq ?_
  refine c_region _ rfl ?_
  refine l_q rfl (q_assign rfl rfl) rfl rfl ?_
  refine l_q rfl (q_assign rfl rfl) rfl rfl ?_
  refine l_nil ?_
  refine k_then ?_
  refine c_seq ?_
  refine c_seq ?_
  refine c_region _ rfl ?_
  refine l_q rfl (q_move rfl rfl) rfl rfl ?_
  refine l_q rfl (q_nilCheck rfl rfl) rfl rfl ?_
  refine l_q rfl (q_fieldAddr rfl Try.underlying53 rfl Try.sizeOf3 rfl rfl) rfl rfl ?_
  refine l_q rfl (q_loadC rfl Try.isAgg3 rfl (fun _ h => h.at 0 rfl) rfl) rfl rfl ?_
  refine l_q rfl (q_eql rfl rfl rfl) rfl rfl ?_
  refine l_nil ?_
  refine k_then ?_
  refine Pre.caseB 8 rfl (fun h => ?_) (fun h => ?_)
  · try simp only [decide_eq_true_eq, decide_eq_false_iff_not, Bool.not_eq_true', Bool.not_eq_false'] at h
    have e : unpinL m = m := by unfold unpinL; rw [if_pos h]
    refine c_true rfl ?_
    refine c_seq ?_
    refine c_region _ rfl ?_
    refine l_q rfl (q_assign rfl rfl) rfl rfl ?_
    refine l_q rfl (q_assign rfl rfl) rfl rfl ?_
    refine l_nil ?_
    refine k_then ?_
    refine c_ret ?_
    refine k_then_ret ?_
    refine r_many (rs := [.tmp 2, .tmp 3]) rfl rfl ?_
    exact fun _ h2 => ⟨(), by simp [h], trivial, by rw [e]; exact h2⟩
  · try simp only [decide_eq_true_eq, decide_eq_false_iff_not, Bool.not_eq_true', Bool.not_eq_false'] at h
    have e : unpinL m = { m with pins := m.pins - 1 } := by unfold unpinL; rw [if_neg h]
    refine c_false rfl ?_
    refine c_skip ?_
    refine k_then ?_
    refine c_seq ?_
    refine c_region _ rfl ?_
    refine l_q rfl (q_move rfl rfl) rfl rfl ?_
    refine l_q rfl (q_move rfl rfl) rfl rfl ?_
    refine l_q rfl (q_nilCheck rfl rfl) rfl rfl ?_
    refine l_q rfl (q_fieldAddr rfl Try.underlying53 rfl Try.sizeOf3 rfl rfl) rfl rfl ?_
    refine l_q rfl (q_loadC rfl Try.isAgg3 rfl (fun _ h => h.at 0 rfl) rfl) rfl rfl ?_
    refine l_q rfl (q_sub64 rfl rfl rfl (by omega)) rfl rfl ?_
    refine l_q rfl (q_nilCheck rfl rfl) rfl rfl ?_
    refine l_q rfl (q_fieldAddr rfl Try.underlying53 rfl Try.sizeOf3 rfl rfl) rfl rfl ?_
    refine l_e rfl ?_
    refine e_store rfl rfl Try.sizeOf3 rfl rfl rfl (Nat.le_of_ble_eq_true rfl) ?_
    refine l_nil ?_
    refine k_then ?_
    refine c_seq ?_
    refine c_region _ rfl ?_
    refine l_q rfl (q_move rfl rfl) rfl rfl ?_
    refine l_q rfl (q_nilCheck rfl rfl) rfl rfl ?_
    refine l_q rfl (q_fieldAddr rfl Try.underlying53 rfl Try.sizeOf3 rfl rfl) rfl rfl ?_
    refine l_q rfl (q_loadC rfl Try.isAgg3 rfl (fun _ h => h.at 0 rfl) rfl) rfl rfl ?_
    refine l_q rfl (q_assign rfl rfl) rfl rfl ?_
    refine l_q rfl (q_assign rfl rfl) rfl rfl ?_
    refine l_nil ?_
    refine k_then ?_
    refine c_ret ?_
    refine r_many (rs := [.tmp 2, .tmp 3]) rfl rfl ?_
    exact fun _ h2 => ⟨(), by simp [h], trivial, by rw [e]; exact h2⟩
set_option maxRecDepth 100000 in
set_option maxHeartbeats 1000000 in
theorem rnew_spec : Con Try.prog 21 [] (fun _ => True) [] (fun b : Nat => .pointer (some ⟨b, 0, none⟩)) (fun _ => True) (fun b => RT b (.slice none 0 0) (.slice none 0 0) newL) := by
  intro w hE hH
  refine enter (n := 3) (vs := []) (St w [] []) Try.func21 rfl rfl rfl (St.init hH) ?_
  refine c_seq ?_
  refine c_region _ rfl ?_
  refine l_q rfl (q_assign rfl rfl) rfl rfl ?_
  refine l_nil ?_
  refine k_then ?_
  refine c_seq ?_
  refine c_region _ rfl ?_
  refine l_q rfl (q_build [.slice none 0 0, .int .i64 (-1), .slice none 0 0, .int .i64 0] rfl rfl (fun w => by kernel_rfl)) rfl rfl ?_
  refine l_e rfl ?_
  refine e_box rfl rfl rfl rfl ?_
  intro b
  refine l_q rfl (q_assign rfl rfl) rfl rfl ?_
  refine l_nil ?_
  refine k_then ?_
  refine c_ret ?_
  refine row0 3 (encI .i64) none ?_
  refine row0 41 encW none ?_
  refine pull1 ?_
  refine pull2 ?_
  refine r_one rfl rfl ?_
  exact fun _ h => ⟨b, rfl, trivial, h⟩
theorem cut3 {n : Nat} {L : Env} {w0 : World} {D : List Nat} {a b c : Ent} {H : List Ent} {F : Act → World → Prop} (hs : [a, b, c].Sublist (a :: b :: c :: H)) (k : Pre n L (St w0 D [a, b, c]) F) : Pre n L (St w0 D (a :: b :: c :: H)) F := k.world _ (fun _ s => s.sublist hs)
set_option maxRecDepth 100000 in
set_option maxHeartbeats 1000000 in
theorem rgive_spec {m : La} (hl : m.rd.length ≤ 60000) (b : Nat) (vR vQ : Value) (t : Int) (wr : Bool) : Con Try.prog 46 [.pointer (some ⟨b, 0, none⟩), .int .i64 t, .bool wr] (fun _ => True) (RT b vR vQ m) (fun _ : Value => .tuple #[]) (fun _ => True) (fun v => RT b v vQ (giveL m t wr)) := by
  intro w hE hH
  refine enter (n := 55) (vs := [.pointer (some ⟨b, 0, none⟩), .int .i64 t, .bool wr]) (St w (dom (RT b vR vQ m)) (RT b vR vQ (m))) Try.func46 rfl rfl rfl (St.init hH) ?_
  refine c_seq ?_
  refine c_seq ?_
  refine c_region _ rfl ?_
  refine l_q rfl (q_move rfl rfl) rfl rfl ?_
  refine l_nil ?_
  refine k_then ?_
  refine Pre.caseB 8 rfl (fun h1 => ?_) (fun h1 => ?_)
  · subst h1
    refine c_true rfl ?_
    refine c_seq ?_
    refine c_region _ rfl ?_
    refine l_q rfl (q_move rfl rfl) rfl rfl ?_
    refine l_q rfl (q_move rfl rfl) rfl rfl ?_
    refine l_q rfl (q_nilCheck rfl rfl) rfl rfl ?_
    refine l_q rfl (q_fieldAddr rfl Try.underlying53 rfl Try.sizeOf3 rfl rfl) rfl rfl ?_
    refine l_e rfl ?_
    refine e_store rfl rfl Try.sizeOf3 rfl rfl rfl (Nat.le_of_ble_eq_true rfl) ?_
    refine l_nil ?_
    refine k_then ?_
    refine c_ret ?_
    refine k_then_ret ?_
    refine r_none rfl ?_
    exact fun _ h => ⟨vR, rfl, trivial, h⟩
  · subst h1
    refine c_false rfl ?_
    refine c_skip ?_
    refine k_then ?_
    refine c_seq ?_
    refine c_region _ rfl ?_
    refine l_q rfl (q_assign rfl rfl) rfl rfl ?_
    refine l_nil ?_
    refine k_then ?_
    refine c_seq ?_
    refine c_block ?_
    refine c_loop1 (fun (k : Nat) => [(0, .pointer (some ⟨b, 0, none⟩)), (1, .int .i64 t), (6, .int .i64 (k : Int))]) (fun (k : Nat) => St w (dom (RT b vR vQ m)) (RT b vR vQ (m))) (fun (k : Nat) => k ≤ m.rd.length ∧ ∀ j, j < k → m.rd.getD j 0 < t) (fun (k : Nat) => m.rd.length - k) (0) ⟨Nat.zero_le _, fun j h => absurd h (Nat.not_lt_zero _)⟩ (Sub.cons rfl (Sub.cons rfl (Sub.cons rfl (Sub.nil)))) (fun _ h => h) ?_
    intro k hp
    refine c_seq ?_
    refine c_seq ?_
    obtain ⟨hk, hlo⟩ := hp
    refine c_region _ rfl ?_
    refine l_q rfl (q_move rfl rfl) rfl rfl ?_
    refine l_q rfl (q_move rfl rfl) rfl rfl ?_
    refine l_q rfl (q_nilCheck rfl rfl) rfl rfl ?_
    refine l_q rfl (q_fieldAddr rfl Try.underlying53 rfl Try.sizeOf27 rfl rfl) rfl rfl ?_
    refine l_q rfl (q_loadC rfl Try.isAgg27 rfl (fun _ h => h.at 0 rfl) rfl) rfl rfl ?_
    refine l_q rfl (q_lenV rfl Try.underlying27 rfl (fun _ h => h.rd 1 rfl)) rfl rfl ?_
    refine l_q rfl (q_lss rfl rfl rfl) rfl rfl ?_
    refine l_q rfl (q_move rfl rfl) rfl rfl ?_
    refine Pre.caseB 20 rfl (fun h2 => ?_) (fun h2 => ?_)
    · try simp only [decide_eq_true_eq, decide_eq_false_iff_not, Bool.not_eq_true', Bool.not_eq_false'] at h2
      refine l_q rfl (q_move rfl rfl) rfl rfl ?_
      refine l_q rfl (q_nilCheck rfl rfl) rfl rfl ?_
      refine l_q rfl (q_fieldAddr rfl Try.underlying53 rfl Try.sizeOf27 rfl rfl) rfl rfl ?_
      refine l_q rfl (q_loadC rfl Try.isAgg27 rfl (fun _ h => h.at 0 rfl) rfl) rfl rfl ?_
      refine l_q rfl (q_move rfl rfl) rfl rfl ?_
      refine l_q rfl (q_indexV k rfl Try.underlying27 Try.sizeOf3 rfl (fun _ h => h.rd 1 rfl) rfl rfl (by omega)) rfl rfl ?_
      refine l_q rfl (q_loadV k 0 rfl Try.isAgg3 rfl rfl (fun _ h => h.rd 1 rfl) (gdI (by omega)) rfl) rfl rfl ?_
      refine l_q rfl (q_move rfl rfl) rfl rfl ?_
      refine l_q rfl (q_lss rfl rfl rfl) rfl rfl ?_
      refine l_q rfl (q_pick_t rfl rfl rfl) rfl rfl ?_
      refine l_nil ?_
      refine k_then ?_
      refine Pre.caseB 30 rfl (fun h3 => ?_) (fun h3 => ?_)
      · try simp only [decide_eq_true_eq, decide_eq_false_iff_not, Bool.not_eq_true', Bool.not_eq_false'] at h3
        refine c_true rfl ?_
        refine c_skip ?_
        refine k_then ?_
        refine c_block ?_
        refine c_region _ rfl ?_
        refine l_q rfl (q_move rfl rfl) rfl rfl ?_
        refine l_q rfl (q_inc rfl rfl rfl (by omega)) rfl rfl ?_
        refine l_q rfl (q_assign rfl rfl) rfl rfl ?_
        refine l_nil ?_
        refine k_block ?_
        exact k_round (k + 1) (by omega) ⟨by omega, fun j hj => by rcases Nat.lt_succ_iff_lt_or_eq.1 hj with h | h; exact hlo j h; subst h; exact h3⟩ (Sub.cons rfl (Sub.cons rfl (Sub.cons rfl (Sub.nil)))) (fun _ h => h)
      · try simp only [decide_eq_true_eq, decide_eq_false_iff_not, Bool.not_eq_true', Bool.not_eq_false'] at h3
        have hins : ins t m.rd = m.rd.take k ++ t :: m.rd.drop k := ins_eq hk hlo (fun hh => by omega)
        refine c_false rfl ?_
        refine c_exit ?_
        refine k_then_exit ?_
        refine k_then_exit ?_
        refine k_block_exit ?_
        refine k_then ?_
        refine c_seq ?_
        refine c_region _ rfl ?_
        refine l_q rfl (q_assign rfl rfl) rfl rfl ?_
        refine l_nil ?_
        refine k_then ?_
        refine c_seq ?_
        refine row0 3 (encI .i64) none ?_
        refine c_any (fun w2 => (cellsE b 53 [vR, .int .i64 m.wr, vQ, .int .i64 m.pins]).at w2 ∧ RdV w2 vR (encI .i64) m.rd) rfl St.drawn ?_
        refine a_q (blind_then blind_body) 0 rfl (by kernel_rfl) (by kernel_rfl) (by kernel_rfl) (fun _ h => ⟨h.at 1 rfl, h.rd 2 rfl⟩) rfl (q_move rfl rfl) rfl rfl ?_
        refine a_q (blind_then blind_body) 1 rfl (by kernel_rfl) (by kernel_rfl) (by kernel_rfl) (fun _ h => ⟨h.at 1 rfl, h.rd 2 rfl⟩) rfl (q_move rfl rfl) rfl rfl ?_
        refine a_q (blind_then blind_body) 2 rfl (by kernel_rfl) (by kernel_rfl) (by kernel_rfl) (fun _ h => ⟨h.at 1 rfl, h.rd 2 rfl⟩) rfl (q_nilCheck rfl rfl) rfl rfl ?_
        refine a_q (blind_then blind_body) 3 rfl (by kernel_rfl) (by kernel_rfl) (by kernel_rfl) (fun _ h => ⟨h.at 1 rfl, h.rd 2 rfl⟩) rfl (q_fieldAddr rfl Try.underlying53 rfl Try.sizeOf27 rfl rfl) rfl rfl ?_
        refine a_q (blind_then blind_body) 4 rfl (by kernel_rfl) (by kernel_rfl) (by kernel_rfl) (fun _ h => ⟨h.at 1 rfl, h.rd 2 rfl⟩) rfl (q_loadC rfl Try.isAgg27 rfl (fun _ h => h.1) rfl) rfl rfl ?_
        refine a_q (blind_then blind_body) 5 rfl (by kernel_rfl) (by kernel_rfl) (by kernel_rfl) (fun _ h => ⟨h.at 1 rfl, h.rd 2 rfl⟩) rfl (q_move rfl rfl) rfl rfl ?_
        refine a_q (blind_then blind_body) 6 rfl (by kernel_rfl) (by kernel_rfl) (by kernel_rfl) (fun _ h => ⟨h.at 1 rfl, h.rd 2 rfl⟩) rfl (q_sliceVH k rfl Try.underlying27 Try.sizeOf3 rfl (fun _ h => h.2) rfl rfl (by omega)) rfl rfl ?_
        refine a_q (blind_then blind_body) 8 rfl (by kernel_rfl) (by kernel_rfl) (by kernel_rfl) (fun _ h => ⟨h.at 1 rfl, h.rd 2 rfl⟩) rfl (q_move rfl rfl) rfl rfl ?_
        refine a_q (blind_then blind_body) 11 rfl (by kernel_rfl) (by kernel_rfl) (by kernel_rfl) (fun _ h => ⟨h.at 1 rfl, h.rd 2 rfl⟩) rfl (q_move rfl rfl) rfl rfl ?_
        refine a_q (blind_then blind_body) 12 rfl (by kernel_rfl) (by kernel_rfl) (by kernel_rfl) (fun _ h => ⟨h.at 1 rfl, h.rd 2 rfl⟩) rfl (q_nilCheck rfl rfl) rfl rfl ?_
        refine a_q (blind_then blind_body) 13 rfl (by kernel_rfl) (by kernel_rfl) (by kernel_rfl) (fun _ h => ⟨h.at 1 rfl, h.rd 2 rfl⟩) rfl (q_fieldAddr rfl Try.underlying53 rfl Try.sizeOf27 rfl rfl) rfl rfl ?_
        refine a_q (blind_then blind_body) 14 rfl (by kernel_rfl) (by kernel_rfl) (by kernel_rfl) (fun _ h => ⟨h.at 1 rfl, h.rd 2 rfl⟩) rfl (q_loadC rfl Try.isAgg27 rfl (fun _ h => h.1) rfl) rfl rfl ?_
        refine a_q (blind_then blind_body) 15 rfl (by kernel_rfl) (by kernel_rfl) (by kernel_rfl) (fun _ h => ⟨h.at 1 rfl, h.rd 2 rfl⟩) rfl (q_move rfl rfl) rfl rfl ?_
        refine a_q (blind_then blind_body) 16 rfl (by kernel_rfl) (by kernel_rfl) (by kernel_rfl) (fun _ h => ⟨h.at 1 rfl, h.rd 2 rfl⟩) rfl (q_sliceVL k rfl Try.underlying27 Try.sizeOf3 rfl (fun _ h => h.2) rfl rfl (by omega)) rfl rfl ?_
        refine a_all2 7 9 (by kernel_rfl) rfl rfl rfl rfl ?_ ?_ 
        · refine e_append rfl rfl rfl Try.underlying27 Try.underlying27 info3 rfl rfl rfl rfl rfl (fun _ h => vsl_rd (h.rd 2 rfl) (lo := 0) (hi := k) (Nat.zero_le _) hk) (by simp only [byt3, List.length_append, List.length_cons, List.length_nil, List.length_drop, List.length_take]; omega) (by simp only [List.length_append, List.length_cons, List.length_nil, List.length_drop, List.length_take]; omega) ?_
          intro v1
          refine d_held (fun _ h => ⟨h.at 1 rfl, h.rd 2 rfl⟩) ?_
          refine a_all1 9 (by kernel_rfl) rfl rfl ?_
          refine e_buildSliceV (sz := 1) [.tmp 41] rfl rfl rfl rfl rfl Try.underlying27 Try.sizeOf3 rfl Try.zeroValue3 rfl ?_
          intro b2
          refine d_held (fun _ h => ⟨h.at 2 rfl, h.rd 3 rfl⟩) ?_
          refine pull1 ?_
          refine a_all1 10 (by kernel_rfl) rfl rfl ?_
          refine e_append rfl rfl rfl Try.underlying27 Try.underlying27 info3 rfl rfl rfl rfl rfl (fun _ h => lit_rd (h.at 1 rfl) (encI .i64) [t] rfl rfl) (by simp only [byt3, List.length_append, List.length_cons, List.length_nil, List.length_drop, List.length_take]; omega) (by simp only [List.length_append, List.length_cons, List.length_nil, List.length_drop, List.length_take]; omega) ?_
          intro v3
          refine d_held (fun _ h => ⟨h.at 2 rfl, h.rd 3 rfl⟩) ?_
          refine a_all1 17 (by kernel_rfl) rfl rfl ?_
          refine e_append rfl rfl rfl Try.underlying27 Try.underlying27 info3 rfl rfl rfl rfl rfl (fun _ h => vsl_rd (h.rd 3 rfl) (lo := k) (hi := m.rd.length) hk (Nat.le_refl _)) (by simp only [byt3, List.length_append, List.length_cons, List.length_nil, List.length_drop, List.length_take]; omega) (by simp only [List.length_append, List.length_cons, List.length_nil, List.length_drop, List.length_take]; omega) ?_
          intro v4
          refine d_held (fun _ h => ⟨h.at 2 rfl, h.rd 3 rfl⟩) ?_
          refine a_q (blind_then blind_body) 18 rfl (by kernel_rfl) (by kernel_rfl) (by kernel_rfl) (fun _ h => ⟨h.at 2 rfl, h.rd 3 rfl⟩) rfl (q_assign rfl rfl) rfl rfl ?_
          refine a_nil (by kernel_rfl) ?_
          refine k_then ?_
          refine c_region _ rfl ?_
          refine l_q rfl (q_move rfl rfl) rfl rfl ?_
          refine l_q rfl (q_move rfl rfl) rfl rfl ?_
          refine l_q rfl (q_nilCheck rfl rfl) rfl rfl ?_
          refine l_q rfl (q_fieldAddr rfl Try.underlying53 rfl Try.sizeOf27 rfl rfl) rfl rfl ?_
          refine row_eq (l' := ins t m.rd) (by rw [hins]; simp) ?_
          refine Pre.fact (fun _ h => row_one' (h.at 0 rfl)) ?_
          intro hone
          refine pull2 ?_
          refine l_e rfl ?_
          refine e_store rfl rfl Try.sizeOf27 rfl rfl hone (Nat.le_of_ble_eq_true rfl) ?_
          refine l_nil ?_
          refine r_normal ?_
          refine pull4 ?_
          refine pull2 ?_
          refine pull2 ?_
          refine cut3 (by simp) ?_
          refine r_none rfl ?_
          exact fun _ h => ⟨v4, rfl, trivial, h⟩
        · refine e_buildSliceV (sz := 1) [.tmp 41] rfl rfl rfl rfl rfl Try.underlying27 Try.sizeOf3 rfl Try.zeroValue3 rfl ?_
          intro b5
          refine d_held (fun _ h => ⟨h.at 2 rfl, h.rd 3 rfl⟩) ?_
          refine pull1 ?_
          refine a_all1 7 (by kernel_rfl) rfl rfl ?_
          refine e_append rfl rfl rfl Try.underlying27 Try.underlying27 info3 rfl rfl rfl rfl rfl (fun _ h => vsl_rd (h.rd 3 rfl) (lo := 0) (hi := k) (Nat.zero_le _) hk) (by simp only [byt3, List.length_append, List.length_cons, List.length_nil, List.length_drop, List.length_take]; omega) (by simp only [List.length_append, List.length_cons, List.length_nil, List.length_drop, List.length_take]; omega) ?_
          intro v6
          refine d_held (fun _ h => ⟨h.at 2 rfl, h.rd 3 rfl⟩) ?_
          refine a_all1 10 (by kernel_rfl) rfl rfl ?_
          refine e_append rfl rfl rfl Try.underlying27 Try.underlying27 info3 rfl rfl rfl rfl rfl (fun _ h => lit_rd (h.at 1 rfl) (encI .i64) [t] rfl rfl) (by simp only [byt3, List.length_append, List.length_cons, List.length_nil, List.length_drop, List.length_take]; omega) (by simp only [List.length_append, List.length_cons, List.length_nil, List.length_drop, List.length_take]; omega) ?_
          intro v7
          refine d_held (fun _ h => ⟨h.at 2 rfl, h.rd 3 rfl⟩) ?_
          refine a_all1 17 (by kernel_rfl) rfl rfl ?_
          refine e_append rfl rfl rfl Try.underlying27 Try.underlying27 info3 rfl rfl rfl rfl rfl (fun _ h => vsl_rd (h.rd 3 rfl) (lo := k) (hi := m.rd.length) hk (Nat.le_refl _)) (by simp only [byt3, List.length_append, List.length_cons, List.length_nil, List.length_drop, List.length_take]; omega) (by simp only [List.length_append, List.length_cons, List.length_nil, List.length_drop, List.length_take]; omega) ?_
          intro v8
          refine d_held (fun _ h => ⟨h.at 2 rfl, h.rd 3 rfl⟩) ?_
          refine a_q (blind_then blind_body) 18 rfl (by kernel_rfl) (by kernel_rfl) (by kernel_rfl) (fun _ h => ⟨h.at 2 rfl, h.rd 3 rfl⟩) rfl (q_assign rfl rfl) rfl rfl ?_
          refine a_nil (by kernel_rfl) ?_
          refine k_then ?_
          refine c_region _ rfl ?_
          refine l_q rfl (q_move rfl rfl) rfl rfl ?_
          refine l_q rfl (q_move rfl rfl) rfl rfl ?_
          refine l_q rfl (q_nilCheck rfl rfl) rfl rfl ?_
          refine l_q rfl (q_fieldAddr rfl Try.underlying53 rfl Try.sizeOf27 rfl rfl) rfl rfl ?_
          refine row_eq (l' := ins t m.rd) (by rw [hins]; simp) ?_
          refine Pre.fact (fun _ h => row_one' (h.at 0 rfl)) ?_
          intro hone
          refine pull2 ?_
          refine l_e rfl ?_
          refine e_store rfl rfl Try.sizeOf27 rfl rfl hone (Nat.le_of_ble_eq_true rfl) ?_
          refine l_nil ?_
          refine r_normal ?_
          refine pull4 ?_
          refine pull2 ?_
          refine pull2 ?_
          refine cut3 (by simp) ?_
          refine r_none rfl ?_
          exact fun _ h => ⟨v8, rfl, trivial, h⟩
    · try simp only [decide_eq_true_eq, decide_eq_false_iff_not, Bool.not_eq_true', Bool.not_eq_false'] at h2
      have hins : ins t m.rd = m.rd.take k ++ t :: m.rd.drop k := ins_eq hk hlo (fun hh => by omega)
      refine l_not rfl rfl rfl ?_
      refine l_not rfl rfl rfl ?_
      refine l_not rfl rfl rfl ?_
      refine l_not rfl rfl rfl ?_
      refine l_not rfl rfl rfl ?_
      refine l_not rfl rfl rfl ?_
      refine l_not rfl rfl rfl ?_
      refine l_not rfl rfl rfl ?_
      refine l_not rfl rfl rfl ?_
      refine l_q rfl (q_pick_f rfl rfl rfl) rfl rfl ?_
      refine l_nil ?_
      refine k_then ?_
      refine c_false rfl ?_
      refine c_exit ?_
      refine k_then_exit ?_
      refine k_then_exit ?_
      refine k_block_exit ?_
      refine k_then ?_
      refine c_seq ?_
      refine c_region _ rfl ?_
      refine l_q rfl (q_assign rfl rfl) rfl rfl ?_
      refine l_nil ?_
      refine k_then ?_
      refine c_seq ?_
      refine row0 3 (encI .i64) none ?_
      refine c_any (fun w2 => (cellsE b 53 [vR, .int .i64 m.wr, vQ, .int .i64 m.pins]).at w2 ∧ RdV w2 vR (encI .i64) m.rd) rfl St.drawn ?_
      refine a_q (blind_then blind_body) 0 rfl (by kernel_rfl) (by kernel_rfl) (by kernel_rfl) (fun _ h => ⟨h.at 1 rfl, h.rd 2 rfl⟩) rfl (q_move rfl rfl) rfl rfl ?_
      refine a_q (blind_then blind_body) 1 rfl (by kernel_rfl) (by kernel_rfl) (by kernel_rfl) (fun _ h => ⟨h.at 1 rfl, h.rd 2 rfl⟩) rfl (q_move rfl rfl) rfl rfl ?_
      refine a_q (blind_then blind_body) 2 rfl (by kernel_rfl) (by kernel_rfl) (by kernel_rfl) (fun _ h => ⟨h.at 1 rfl, h.rd 2 rfl⟩) rfl (q_nilCheck rfl rfl) rfl rfl ?_
      refine a_q (blind_then blind_body) 3 rfl (by kernel_rfl) (by kernel_rfl) (by kernel_rfl) (fun _ h => ⟨h.at 1 rfl, h.rd 2 rfl⟩) rfl (q_fieldAddr rfl Try.underlying53 rfl Try.sizeOf27 rfl rfl) rfl rfl ?_
      refine a_q (blind_then blind_body) 4 rfl (by kernel_rfl) (by kernel_rfl) (by kernel_rfl) (fun _ h => ⟨h.at 1 rfl, h.rd 2 rfl⟩) rfl (q_loadC rfl Try.isAgg27 rfl (fun _ h => h.1) rfl) rfl rfl ?_
      refine a_q (blind_then blind_body) 5 rfl (by kernel_rfl) (by kernel_rfl) (by kernel_rfl) (fun _ h => ⟨h.at 1 rfl, h.rd 2 rfl⟩) rfl (q_move rfl rfl) rfl rfl ?_
      refine a_q (blind_then blind_body) 6 rfl (by kernel_rfl) (by kernel_rfl) (by kernel_rfl) (fun _ h => ⟨h.at 1 rfl, h.rd 2 rfl⟩) rfl (q_sliceVH k rfl Try.underlying27 Try.sizeOf3 rfl (fun _ h => h.2) rfl rfl (by omega)) rfl rfl ?_
      refine a_q (blind_then blind_body) 8 rfl (by kernel_rfl) (by kernel_rfl) (by kernel_rfl) (fun _ h => ⟨h.at 1 rfl, h.rd 2 rfl⟩) rfl (q_move rfl rfl) rfl rfl ?_
      refine a_q (blind_then blind_body) 11 rfl (by kernel_rfl) (by kernel_rfl) (by kernel_rfl) (fun _ h => ⟨h.at 1 rfl, h.rd 2 rfl⟩) rfl (q_move rfl rfl) rfl rfl ?_
      refine a_q (blind_then blind_body) 12 rfl (by kernel_rfl) (by kernel_rfl) (by kernel_rfl) (fun _ h => ⟨h.at 1 rfl, h.rd 2 rfl⟩) rfl (q_nilCheck rfl rfl) rfl rfl ?_
      refine a_q (blind_then blind_body) 13 rfl (by kernel_rfl) (by kernel_rfl) (by kernel_rfl) (fun _ h => ⟨h.at 1 rfl, h.rd 2 rfl⟩) rfl (q_fieldAddr rfl Try.underlying53 rfl Try.sizeOf27 rfl rfl) rfl rfl ?_
      refine a_q (blind_then blind_body) 14 rfl (by kernel_rfl) (by kernel_rfl) (by kernel_rfl) (fun _ h => ⟨h.at 1 rfl, h.rd 2 rfl⟩) rfl (q_loadC rfl Try.isAgg27 rfl (fun _ h => h.1) rfl) rfl rfl ?_
      refine a_q (blind_then blind_body) 15 rfl (by kernel_rfl) (by kernel_rfl) (by kernel_rfl) (fun _ h => ⟨h.at 1 rfl, h.rd 2 rfl⟩) rfl (q_move rfl rfl) rfl rfl ?_
      refine a_q (blind_then blind_body) 16 rfl (by kernel_rfl) (by kernel_rfl) (by kernel_rfl) (fun _ h => ⟨h.at 1 rfl, h.rd 2 rfl⟩) rfl (q_sliceVL k rfl Try.underlying27 Try.sizeOf3 rfl (fun _ h => h.2) rfl rfl (by omega)) rfl rfl ?_
      refine a_all2 7 9 (by kernel_rfl) rfl rfl rfl rfl ?_ ?_ 
      · refine e_append rfl rfl rfl Try.underlying27 Try.underlying27 info3 rfl rfl rfl rfl rfl (fun _ h => vsl_rd (h.rd 2 rfl) (lo := 0) (hi := k) (Nat.zero_le _) hk) (by simp only [byt3, List.length_append, List.length_cons, List.length_nil, List.length_drop, List.length_take]; omega) (by simp only [List.length_append, List.length_cons, List.length_nil, List.length_drop, List.length_take]; omega) ?_
        intro v9
        refine d_held (fun _ h => ⟨h.at 1 rfl, h.rd 2 rfl⟩) ?_
        refine a_all1 9 (by kernel_rfl) rfl rfl ?_
        refine e_buildSliceV (sz := 1) [.tmp 41] rfl rfl rfl rfl rfl Try.underlying27 Try.sizeOf3 rfl Try.zeroValue3 rfl ?_
        intro b10
        refine d_held (fun _ h => ⟨h.at 2 rfl, h.rd 3 rfl⟩) ?_
        refine pull1 ?_
        refine a_all1 10 (by kernel_rfl) rfl rfl ?_
        refine e_append rfl rfl rfl Try.underlying27 Try.underlying27 info3 rfl rfl rfl rfl rfl (fun _ h => lit_rd (h.at 1 rfl) (encI .i64) [t] rfl rfl) (by simp only [byt3, List.length_append, List.length_cons, List.length_nil, List.length_drop, List.length_take]; omega) (by simp only [List.length_append, List.length_cons, List.length_nil, List.length_drop, List.length_take]; omega) ?_
        intro v11
        refine d_held (fun _ h => ⟨h.at 2 rfl, h.rd 3 rfl⟩) ?_
        refine a_all1 17 (by kernel_rfl) rfl rfl ?_
        refine e_append rfl rfl rfl Try.underlying27 Try.underlying27 info3 rfl rfl rfl rfl rfl (fun _ h => vsl_rd (h.rd 3 rfl) (lo := k) (hi := m.rd.length) hk (Nat.le_refl _)) (by simp only [byt3, List.length_append, List.length_cons, List.length_nil, List.length_drop, List.length_take]; omega) (by simp only [List.length_append, List.length_cons, List.length_nil, List.length_drop, List.length_take]; omega) ?_
        intro v12
        refine d_held (fun _ h => ⟨h.at 2 rfl, h.rd 3 rfl⟩) ?_
        refine a_q (blind_then blind_body) 18 rfl (by kernel_rfl) (by kernel_rfl) (by kernel_rfl) (fun _ h => ⟨h.at 2 rfl, h.rd 3 rfl⟩) rfl (q_assign rfl rfl) rfl rfl ?_
        refine a_nil (by kernel_rfl) ?_
        refine k_then ?_
        refine c_region _ rfl ?_
        refine l_q rfl (q_move rfl rfl) rfl rfl ?_
        refine l_q rfl (q_move rfl rfl) rfl rfl ?_
        refine l_q rfl (q_nilCheck rfl rfl) rfl rfl ?_
        refine l_q rfl (q_fieldAddr rfl Try.underlying53 rfl Try.sizeOf27 rfl rfl) rfl rfl ?_
        refine row_eq (l' := ins t m.rd) (by rw [hins]; simp) ?_
        refine Pre.fact (fun _ h => row_one' (h.at 0 rfl)) ?_
        intro hone
        refine pull2 ?_
        refine l_e rfl ?_
        refine e_store rfl rfl Try.sizeOf27 rfl rfl hone (Nat.le_of_ble_eq_true rfl) ?_
        refine l_nil ?_
        refine r_normal ?_
        refine pull4 ?_
        refine pull2 ?_
        refine pull2 ?_
        refine cut3 (by simp) ?_
        refine r_none rfl ?_
        exact fun _ h => ⟨v12, rfl, trivial, h⟩
      · refine e_buildSliceV (sz := 1) [.tmp 41] rfl rfl rfl rfl rfl Try.underlying27 Try.sizeOf3 rfl Try.zeroValue3 rfl ?_
        intro b13
        refine d_held (fun _ h => ⟨h.at 2 rfl, h.rd 3 rfl⟩) ?_
        refine pull1 ?_
        refine a_all1 7 (by kernel_rfl) rfl rfl ?_
        refine e_append rfl rfl rfl Try.underlying27 Try.underlying27 info3 rfl rfl rfl rfl rfl (fun _ h => vsl_rd (h.rd 3 rfl) (lo := 0) (hi := k) (Nat.zero_le _) hk) (by simp only [byt3, List.length_append, List.length_cons, List.length_nil, List.length_drop, List.length_take]; omega) (by simp only [List.length_append, List.length_cons, List.length_nil, List.length_drop, List.length_take]; omega) ?_
        intro v14
        refine d_held (fun _ h => ⟨h.at 2 rfl, h.rd 3 rfl⟩) ?_
        refine a_all1 10 (by kernel_rfl) rfl rfl ?_
        refine e_append rfl rfl rfl Try.underlying27 Try.underlying27 info3 rfl rfl rfl rfl rfl (fun _ h => lit_rd (h.at 1 rfl) (encI .i64) [t] rfl rfl) (by simp only [byt3, List.length_append, List.length_cons, List.length_nil, List.length_drop, List.length_take]; omega) (by simp only [List.length_append, List.length_cons, List.length_nil, List.length_drop, List.length_take]; omega) ?_
        intro v15
        refine d_held (fun _ h => ⟨h.at 2 rfl, h.rd 3 rfl⟩) ?_
        refine a_all1 17 (by kernel_rfl) rfl rfl ?_
        refine e_append rfl rfl rfl Try.underlying27 Try.underlying27 info3 rfl rfl rfl rfl rfl (fun _ h => vsl_rd (h.rd 3 rfl) (lo := k) (hi := m.rd.length) hk (Nat.le_refl _)) (by simp only [byt3, List.length_append, List.length_cons, List.length_nil, List.length_drop, List.length_take]; omega) (by simp only [List.length_append, List.length_cons, List.length_nil, List.length_drop, List.length_take]; omega) ?_
        intro v16
        refine d_held (fun _ h => ⟨h.at 2 rfl, h.rd 3 rfl⟩) ?_
        refine a_q (blind_then blind_body) 18 rfl (by kernel_rfl) (by kernel_rfl) (by kernel_rfl) (fun _ h => ⟨h.at 2 rfl, h.rd 3 rfl⟩) rfl (q_assign rfl rfl) rfl rfl ?_
        refine a_nil (by kernel_rfl) ?_
        refine k_then ?_
        refine c_region _ rfl ?_
        refine l_q rfl (q_move rfl rfl) rfl rfl ?_
        refine l_q rfl (q_move rfl rfl) rfl rfl ?_
        refine l_q rfl (q_nilCheck rfl rfl) rfl rfl ?_
        refine l_q rfl (q_fieldAddr rfl Try.underlying53 rfl Try.sizeOf27 rfl rfl) rfl rfl ?_
        refine row_eq (l' := ins t m.rd) (by rw [hins]; simp) ?_
        refine Pre.fact (fun _ h => row_one' (h.at 0 rfl)) ?_
        intro hone
        refine pull2 ?_
        refine l_e rfl ?_
        refine e_store rfl rfl Try.sizeOf27 rfl rfl hone (Nat.le_of_ble_eq_true rfl) ?_
        refine l_nil ?_
        refine r_normal ?_
        refine pull4 ?_
        refine pull2 ?_
        refine pull2 ?_
        refine cut3 (by simp) ?_
        refine r_none rfl ?_
        exact fun _ h => ⟨v16, rfl, trivial, h⟩
end Go.Proofs.Ytlakembncfkimaa
