/- sched: the reference -/
import Derived.Test.YtjanmpghcigigaaB
set_option linter.unusedVariables false
set_option linter.unusedSimpArgs false
namespace Go.Proofs.Ytjanmpghcigigaa
open Go.Sep Go.RowKit

/-- The reference's table in memory. -/
abbrev RT (r : Nat) (vS vW vT : Value) (m : Tab) : List Ent := [cellsE r 45 [vS, vW, vT, .int .i64 m.worst], rowE vS 3 (encI .i64) m.st, rowE vW 3 (encI .i64) m.wt, rowE vT 3 (encI .i64) m.pk]
set_option maxRecDepth 100000 in
set_option maxHeartbeats 1000000 in
theorem rset_spec {m : Tab} {c : Int} (hm : m.Ok c) (r : Nat) (vS vW vT : Value) (i s : Int) : Con Try.prog 32 [.pointer (some ⟨r, 0, none⟩), .int .i64 i, .int .i64 s] (fun _ => True) (RT r vS vW vT m) (fun _ : Unit => .tuple #[]) (fun _ => True) (fun _ => RT r vS vW vT (turnM m i s)) := by
  intro w hE hH
  have h8 := hm.n8
  have e1 := hm.st
  have e2 := hm.wt
  have e3 := hm.pk
  by_cases hi : 0 ≤ i ∧ i < m.n
  · obtain ⟨k, rfl⟩ := Int.eq_ofNat_of_zero_le hi.1
    have hk : k < m.n := by omega
    refine enter (n := 42) (vs := [.pointer (some ⟨r, 0, none⟩), .int .i64 k, .int .i64 s]) (St w (dom (RT r vS vW vT m)) (RT r vS vW vT m)) Try.func32 rfl rfl rfl (St.init hH) ?_
    refine c_seq ?_
    refine c_seq ?_
    refine c_region _ rfl ?_
    refine l_q rfl (q_move rfl rfl) rfl rfl ?_
    refine l_q rfl (q_lss rfl rfl rfl) rfl rfl ?_
    refine l_q rfl (q_move rfl rfl) rfl rfl ?_
    refine Pre.setB (t := 8) (c := false) rfl (decide_eq_false (by omega)) ?_
    refine l_q rfl (q_move rfl rfl) rfl rfl ?_
    refine l_q rfl (q_move rfl rfl) rfl rfl ?_
    refine l_q rfl (q_nilCheck rfl rfl) rfl rfl ?_
    refine l_q rfl (q_fieldAddr rfl Try.underlying45 rfl Try.sizeOf42 rfl rfl) rfl rfl ?_
    refine l_q rfl (q_loadC rfl Try.isAgg42 rfl (fun _ h => h.at 0 rfl) rfl) rfl rfl ?_
    refine l_q rfl (q_lenV rfl Try.underlying42 rfl (fun _ h => h.rd 1 rfl)) rfl rfl ?_
    refine l_q rfl (q_geq rfl rfl rfl) rfl rfl ?_
    refine l_q rfl (q_pick_f rfl rfl rfl) rfl rfl ?_
    refine l_q rfl (q_move rfl rfl) rfl rfl ?_
    refine Pre.setB (t := 17) (c := false) rfl (decide_eq_false (by omega)) ?_
    refine l_q rfl (q_move rfl rfl) rfl rfl ?_
    refine l_q rfl (q_nilCheck rfl rfl) rfl rfl ?_
    refine l_q rfl (q_fieldAddr rfl Try.underlying45 rfl Try.sizeOf42 rfl rfl) rfl rfl ?_
    refine l_q rfl (q_loadC rfl Try.isAgg42 rfl (fun _ h => h.at 0 rfl) rfl) rfl rfl ?_
    refine l_q rfl (q_move rfl rfl) rfl rfl ?_
    refine l_q rfl (q_indexV k rfl Try.underlying42 Try.sizeOf3 rfl (fun _ h => h.rd 1 rfl) rfl rfl (by omega)) rfl rfl ?_
    refine l_q rfl (q_loadV k 0 rfl Try.isAgg3 rfl rfl (fun _ h => h.rd 1 rfl) (gd (by omega)) rfl) rfl rfl ?_
    refine l_q rfl (q_eql rfl rfl rfl) rfl rfl ?_
    refine l_q rfl (q_pick_f rfl rfl rfl) rfl rfl ?_
    refine l_nil ?_
    refine k_then ?_
    refine Pre.caseB 26 rfl (fun h => ?_) (fun h => ?_)
    · simp only [decide_eq_true_eq, decide_eq_false_iff_not, Bool.not_eq_true', Bool.not_eq_false'] at h
      have hT : turnM m k s = m := by unfold turnM; rw [if_neg (fun hh => hh.2.2 h)]
      refine c_true rfl ?_
      refine c_ret ?_
      refine k_then_ret ?_
      refine r_none rfl ?_
      exact fun _ h => ⟨(), rfl, trivial, by rw [hT]; exact h⟩
    · simp only [decide_eq_true_eq, decide_eq_false_iff_not, Bool.not_eq_true', Bool.not_eq_false'] at h
      refine c_false rfl ?_
      refine c_skip ?_
      refine k_then ?_
      refine c_seq ?_
      refine c_region _ rfl ?_
      refine l_q rfl (q_move rfl rfl) rfl rfl ?_
      refine l_q rfl (q_nilCheck rfl rfl) rfl rfl ?_
      refine l_q rfl (q_fieldAddr rfl Try.underlying45 rfl Try.sizeOf42 rfl rfl) rfl rfl ?_
      refine l_q rfl (q_loadC rfl Try.isAgg42 rfl (fun _ h => h.at 0 rfl) rfl) rfl rfl ?_
      refine l_q rfl (q_move rfl rfl) rfl rfl ?_
      refine l_q rfl (q_move rfl rfl) rfl rfl ?_
      refine l_q rfl (q_indexV k rfl Try.underlying42 Try.sizeOf3 rfl (fun _ h => h.rd 1 rfl) rfl rfl (by omega)) rfl rfl ?_
      refine pull1 ?_
      refine l_e rfl ?_
      refine e_storeV k 0 (s) rfl rfl Try.sizeOf3 rfl rfl rfl (gd (by omega)) (by decide) rfl ?_
      refine l_nil ?_
      refine k_then ?_
      refine c_seq ?_
      refine c_region _ rfl ?_
      refine l_q rfl (q_move rfl rfl) rfl rfl ?_
      refine l_q rfl (q_neq rfl rfl rfl) rfl rfl ?_
      refine l_nil ?_
      refine k_then ?_
      refine Pre.caseB 35 rfl (fun h2 => ?_) (fun h2 => ?_)
      · simp only [decide_eq_true_eq, decide_eq_false_iff_not, Bool.not_eq_true', Bool.not_eq_false'] at h2
        have hT : turnM m k s = { m with st := m.st.set k s, wt := m.wt.set k 0 } := by unfold turnM; rw [if_pos ⟨hi.1, hi.2, by simpa using h⟩, if_neg h2]; rfl
        refine c_true rfl ?_
        refine c_region _ rfl ?_
        refine l_q rfl (q_move rfl rfl) rfl rfl ?_
        refine l_q rfl (q_nilCheck rfl rfl) rfl rfl ?_
        refine l_q rfl (q_fieldAddr rfl Try.underlying45 rfl Try.sizeOf42 rfl rfl) rfl rfl ?_
        refine l_q rfl (q_loadC rfl Try.isAgg42 rfl (fun _ h => h.at 1 rfl) rfl) rfl rfl ?_
        refine l_q rfl (q_move rfl rfl) rfl rfl ?_
        refine l_q rfl (q_indexV k rfl Try.underlying42 Try.sizeOf3 rfl (fun _ h => h.rd 2 rfl) rfl rfl (by omega)) rfl rfl ?_
        refine pull2 ?_
        refine l_e rfl ?_
        refine e_storeV k 0 (0) rfl rfl Try.sizeOf3 rfl rfl rfl (gd (by omega)) (by decide) rfl ?_
        refine l_nil ?_
        refine r_normal ?_
        refine pull3 ?_
        refine pull1 ?_
        refine pull2 ?_
        refine pull3 ?_
        refine r_none rfl ?_
        exact fun _ h => ⟨(), rfl, trivial, by rw [hT]; exact h⟩
      · simp only [decide_eq_true_eq, decide_eq_false_iff_not, Bool.not_eq_true', Bool.not_eq_false'] at h2
        have hT : turnM m k s = { m with st := m.st.set k s } := by unfold turnM; rw [if_pos ⟨hi.1, hi.2, by simpa using h⟩, if_pos h2]; rfl
        refine c_false rfl ?_
        refine c_skip ?_
        refine r_normal ?_
        refine pull3 ?_
        refine pull3 ?_
        refine pull2 ?_
        refine pull3 ?_
        refine r_none rfl ?_
        exact fun _ h => ⟨(), rfl, trivial, by rw [hT]; exact h⟩
  · have hT : turnM m i s = m := by unfold turnM; rw [if_neg (fun hh => hi ⟨hh.1, hh.2.1⟩)]
    refine enter (n := 42) (vs := [.pointer (some ⟨r, 0, none⟩), .int .i64 i, .int .i64 s]) (St w (dom (RT r vS vW vT m)) (RT r vS vW vT m)) Try.func32 rfl rfl rfl (St.init hH) ?_
    refine c_seq ?_
    refine c_seq ?_
    refine c_region _ rfl ?_
    refine l_q rfl (q_move rfl rfl) rfl rfl ?_
    refine l_q rfl (q_lss rfl rfl rfl) rfl rfl ?_
    refine l_q rfl (q_move rfl rfl) rfl rfl ?_
    refine Pre.caseB 8 rfl (fun h => ?_) (fun h => ?_)
    · simp only [decide_eq_true_eq, decide_eq_false_iff_not, Bool.not_eq_true', Bool.not_eq_false'] at h
      refine l_not rfl rfl rfl ?_
      refine l_not rfl rfl rfl ?_
      refine l_not rfl rfl rfl ?_
      refine l_not rfl rfl rfl ?_
      refine l_not rfl rfl rfl ?_
      refine l_not rfl rfl rfl ?_
      refine l_not rfl rfl rfl ?_
      refine l_q rfl (q_pick_t rfl rfl rfl) rfl rfl ?_
      refine l_q rfl (q_move rfl rfl) rfl rfl ?_
      refine l_not rfl rfl rfl ?_
      refine l_not rfl rfl rfl ?_
      refine l_not rfl rfl rfl ?_
      refine l_not rfl rfl rfl ?_
      refine l_not rfl rfl rfl ?_
      refine l_not rfl rfl rfl ?_
      refine l_not rfl rfl rfl ?_
      refine l_not rfl rfl rfl ?_
      refine l_q rfl (q_pick_t rfl rfl rfl) rfl rfl ?_
      refine l_nil ?_
      refine k_then ?_
      refine c_true rfl ?_
      refine c_ret ?_
      refine k_then_ret ?_
      refine r_none rfl ?_
      exact fun _ h => ⟨(), rfl, trivial, by rw [hT]; exact h⟩
    · simp only [decide_eq_true_eq, decide_eq_false_iff_not, Bool.not_eq_true', Bool.not_eq_false'] at h
      refine l_q rfl (q_move rfl rfl) rfl rfl ?_
      refine l_q rfl (q_move rfl rfl) rfl rfl ?_
      refine l_q rfl (q_nilCheck rfl rfl) rfl rfl ?_
      refine l_q rfl (q_fieldAddr rfl Try.underlying45 rfl Try.sizeOf42 rfl rfl) rfl rfl ?_
      refine l_q rfl (q_loadC rfl Try.isAgg42 rfl (fun _ h => h.at 0 rfl) rfl) rfl rfl ?_
      refine l_q rfl (q_lenV rfl Try.underlying42 rfl (fun _ h => h.rd 1 rfl)) rfl rfl ?_
      refine l_q rfl (q_geq rfl rfl rfl) rfl rfl ?_
      refine l_q rfl (q_pick_f rfl rfl rfl) rfl rfl ?_
      refine l_q rfl (q_move rfl rfl) rfl rfl ?_
      refine Pre.setB (t := 17) (c := true) rfl (decide_eq_true (by omega)) ?_
      refine l_not rfl rfl rfl ?_
      refine l_not rfl rfl rfl ?_
      refine l_not rfl rfl rfl ?_
      refine l_not rfl rfl rfl ?_
      refine l_not rfl rfl rfl ?_
      refine l_not rfl rfl rfl ?_
      refine l_not rfl rfl rfl ?_
      refine l_not rfl rfl rfl ?_
      refine l_q rfl (q_pick_t rfl rfl rfl) rfl rfl ?_
      refine l_nil ?_
      refine k_then ?_
      refine c_true rfl ?_
      refine c_ret ?_
      refine k_then_ret ?_
      refine r_none rfl ?_
      exact fun _ h => ⟨(), rfl, trivial, by rw [hT]; exact h⟩
set_option maxRecDepth 100000 in
set_option maxHeartbeats 1000000 in
theorem rblock_spec {m : Tab} {c : Int} (hm : m.Ok c) (r : Nat) (vS vW vT : Value) (i : Int) : Con Try.prog 17 [.pointer (some ⟨r, 0, none⟩), .int .i64 i] (fun _ => True) (RT r vS vW vT m) (fun _ : Unit => .tuple #[]) (fun _ => True) (fun _ => RT r vS vW vT (turnM m i 1)) := by
  intro w hE hH
  have h8 := hm.n8
  have e1 := hm.st
  have e2 := hm.wt
  have e3 := hm.pk
  refine enter (n := 7) (vs := [.pointer (some ⟨r, 0, none⟩), .int .i64 i]) (St w (dom (RT r vS vW vT m)) (RT r vS vW vT m)) Try.func17 rfl rfl rfl (St.init hH) ?_
  refine c_region _ rfl ?_
  refine l_q rfl (q_move rfl rfl) rfl rfl ?_
  refine l_q rfl (q_move rfl rfl) rfl rfl ?_
  refine l_e rfl ?_
  refine e_call_44 (rset_spec hm r vS vW vT i 1) rfl rfl rfl Try.call32 rfl (fun _ _ => trivial) ?_
  intro _ _
  refine l_nil ?_
  refine r_normal ?_
  refine r_none rfl ?_
  exact fun _ h => ⟨(), rfl, trivial, h⟩
set_option maxRecDepth 100000 in
set_option maxHeartbeats 1000000 in
theorem rwake_spec {m : Tab} {c : Int} (hm : m.Ok c) (r : Nat) (vS vW vT : Value) (i : Int) : Con Try.prog 19 [.pointer (some ⟨r, 0, none⟩), .int .i64 i] (fun _ => True) (RT r vS vW vT m) (fun _ : Unit => .tuple #[]) (fun _ => True) (fun _ => RT r vS vW vT (turnM m i 0)) := by
  intro w hE hH
  have h8 := hm.n8
  have e1 := hm.st
  have e2 := hm.wt
  have e3 := hm.pk
  refine enter (n := 7) (vs := [.pointer (some ⟨r, 0, none⟩), .int .i64 i]) (St w (dom (RT r vS vW vT m)) (RT r vS vW vT m)) Try.func19 rfl rfl rfl (St.init hH) ?_
  refine c_region _ rfl ?_
  refine l_q rfl (q_move rfl rfl) rfl rfl ?_
  refine l_q rfl (q_move rfl rfl) rfl rfl ?_
  refine l_e rfl ?_
  refine e_call_44 (rset_spec hm r vS vW vT i 0) rfl rfl rfl Try.call32 rfl (fun _ _ => trivial) ?_
  intro _ _
  refine l_nil ?_
  refine r_normal ?_
  refine r_none rfl ?_
  exact fun _ h => ⟨(), rfl, trivial, h⟩
set_option maxRecDepth 100000 in
set_option maxHeartbeats 1000000 in
theorem rend_spec {m : Tab} {c : Int} (hm : m.Ok c) (r : Nat) (vS vW vT : Value) (i : Int) : Con Try.prog 21 [.pointer (some ⟨r, 0, none⟩), .int .i64 i] (fun _ => True) (RT r vS vW vT m) (fun _ : Unit => .tuple #[]) (fun _ => True) (fun _ => RT r vS vW vT (turnM m i 2)) := by
  intro w hE hH
  have h8 := hm.n8
  have e1 := hm.st
  have e2 := hm.wt
  have e3 := hm.pk
  refine enter (n := 7) (vs := [.pointer (some ⟨r, 0, none⟩), .int .i64 i]) (St w (dom (RT r vS vW vT m)) (RT r vS vW vT m)) Try.func21 rfl rfl rfl (St.init hH) ?_
  refine c_region _ rfl ?_
  refine l_q rfl (q_move rfl rfl) rfl rfl ?_
  refine l_q rfl (q_move rfl rfl) rfl rfl ?_
  refine l_e rfl ?_
  refine e_call_44 (rset_spec hm r vS vW vT i 2) rfl rfl rfl Try.call32 rfl (fun _ _ => trivial) ?_
  intro _ _
  refine l_nil ?_
  refine r_normal ?_
  refine r_none rfl ?_
  exact fun _ h => ⟨(), rfl, trivial, h⟩
set_option maxRecDepth 100000 in
set_option maxHeartbeats 1000000 in
theorem rpicks_spec {m : Tab} {c : Int} (hm : m.Ok c) (r : Nat) (vS vW vT : Value) (i : Int) : Con Try.prog 28 [.pointer (some ⟨r, 0, none⟩), .int .i64 i] (fun _ => True) (RT r vS vW vT m) (fun _ : Unit => .int .i64 (if 0 ≤ i ∧ i < m.n then m.pk.getD i.toNat 0 else 0)) (fun _ => True) (fun _ => RT r vS vW vT m) := by
  intro w hE hH
  have h8 := hm.n8
  have e1 := hm.st
  have e2 := hm.wt
  have e3 := hm.pk
  by_cases hi : 0 ≤ i ∧ i < m.n
  · obtain ⟨k, rfl⟩ := Int.eq_ofNat_of_zero_le hi.1
    have hk : k < m.n := by omega
    refine enter (n := 23) (vs := [.pointer (some ⟨r, 0, none⟩), .int .i64 k]) (St w (dom (RT r vS vW vT m)) (RT r vS vW vT m)) Try.func28 rfl rfl rfl (St.init hH) ?_
    refine c_seq ?_
    refine c_region _ rfl ?_
    refine l_q rfl (q_assign rfl rfl) rfl rfl ?_
    refine l_nil ?_
    refine k_then ?_
    refine c_seq ?_
    refine c_seq ?_
    refine c_region _ rfl ?_
    refine l_q rfl (q_move rfl rfl) rfl rfl ?_
    refine l_q rfl (q_lss rfl rfl rfl) rfl rfl ?_
    refine l_q rfl (q_move rfl rfl) rfl rfl ?_
    refine Pre.setB (t := 7) (c := false) rfl (decide_eq_false (by omega)) ?_
    refine l_q rfl (q_move rfl rfl) rfl rfl ?_
    refine l_q rfl (q_move rfl rfl) rfl rfl ?_
    refine l_q rfl (q_nilCheck rfl rfl) rfl rfl ?_
    refine l_q rfl (q_fieldAddr rfl Try.underlying45 rfl Try.sizeOf42 rfl rfl) rfl rfl ?_
    refine l_q rfl (q_loadC rfl Try.isAgg42 rfl (fun _ h => h.at 0 rfl) rfl) rfl rfl ?_
    refine l_q rfl (q_lenV rfl Try.underlying42 rfl (fun _ h => h.rd 3 rfl)) rfl rfl ?_
    refine l_q rfl (q_geq rfl rfl rfl) rfl rfl ?_
    refine l_q rfl (q_pick_f rfl rfl rfl) rfl rfl ?_
    refine l_nil ?_
    refine k_then ?_
    refine Pre.setB (t := 15) (c := false) rfl (decide_eq_false (by omega)) ?_
    refine c_false rfl ?_
    refine c_skip ?_
    refine k_then ?_
    refine c_seq ?_
    refine c_region _ rfl ?_
    refine l_q rfl (q_move rfl rfl) rfl rfl ?_
    refine l_q rfl (q_nilCheck rfl rfl) rfl rfl ?_
    refine l_q rfl (q_fieldAddr rfl Try.underlying45 rfl Try.sizeOf42 rfl rfl) rfl rfl ?_
    refine l_q rfl (q_loadC rfl Try.isAgg42 rfl (fun _ h => h.at 0 rfl) rfl) rfl rfl ?_
    refine l_q rfl (q_move rfl rfl) rfl rfl ?_
    refine l_q rfl (q_indexV k rfl Try.underlying42 Try.sizeOf3 rfl (fun _ h => h.rd 3 rfl) rfl rfl (by omega)) rfl rfl ?_
    refine l_q rfl (q_loadV k 0 rfl Try.isAgg3 rfl rfl (fun _ h => h.rd 3 rfl) (gd (by omega)) rfl) rfl rfl ?_
    refine l_q rfl (q_assign rfl rfl) rfl rfl ?_
    refine l_nil ?_
    refine k_then ?_
    refine c_ret ?_
    refine r_one rfl rfl ?_
    exact fun _ h => ⟨(), by rw [if_pos hi]; rfl, trivial, h⟩
  · refine enter (n := 23) (vs := [.pointer (some ⟨r, 0, none⟩), .int .i64 i]) (St w (dom (RT r vS vW vT m)) (RT r vS vW vT m)) Try.func28 rfl rfl rfl (St.init hH) ?_
    refine c_seq ?_
    refine c_region _ rfl ?_
    refine l_q rfl (q_assign rfl rfl) rfl rfl ?_
    refine l_nil ?_
    refine k_then ?_
    refine c_seq ?_
    refine c_seq ?_
    refine c_region _ rfl ?_
    refine l_q rfl (q_move rfl rfl) rfl rfl ?_
    refine l_q rfl (q_lss rfl rfl rfl) rfl rfl ?_
    refine l_q rfl (q_move rfl rfl) rfl rfl ?_
    refine Pre.caseB 7 rfl (fun h => ?_) (fun h => ?_)
    · simp only [decide_eq_true_eq, decide_eq_false_iff_not, Bool.not_eq_true', Bool.not_eq_false'] at h
      refine l_not rfl rfl rfl ?_
      refine l_not rfl rfl rfl ?_
      refine l_not rfl rfl rfl ?_
      refine l_not rfl rfl rfl ?_
      refine l_not rfl rfl rfl ?_
      refine l_not rfl rfl rfl ?_
      refine l_not rfl rfl rfl ?_
      refine l_q rfl (q_pick_t rfl rfl rfl) rfl rfl ?_
      refine l_nil ?_
      refine k_then ?_
      refine c_true rfl ?_
      refine c_seq ?_
      refine c_region _ rfl ?_
      refine l_q rfl (q_assign rfl rfl) rfl rfl ?_
      refine l_nil ?_
      refine k_then ?_
      refine c_ret ?_
      refine k_then_ret ?_
      refine r_one rfl rfl ?_
      exact fun _ h => ⟨(), by rw [if_neg hi], trivial, h⟩
    · simp only [decide_eq_true_eq, decide_eq_false_iff_not, Bool.not_eq_true', Bool.not_eq_false'] at h
      refine l_q rfl (q_move rfl rfl) rfl rfl ?_
      refine l_q rfl (q_move rfl rfl) rfl rfl ?_
      refine l_q rfl (q_nilCheck rfl rfl) rfl rfl ?_
      refine l_q rfl (q_fieldAddr rfl Try.underlying45 rfl Try.sizeOf42 rfl rfl) rfl rfl ?_
      refine l_q rfl (q_loadC rfl Try.isAgg42 rfl (fun _ h => h.at 0 rfl) rfl) rfl rfl ?_
      refine l_q rfl (q_lenV rfl Try.underlying42 rfl (fun _ h => h.rd 3 rfl)) rfl rfl ?_
      refine l_q rfl (q_geq rfl rfl rfl) rfl rfl ?_
      refine l_q rfl (q_pick_f rfl rfl rfl) rfl rfl ?_
      refine l_nil ?_
      refine k_then ?_
      refine Pre.setB (t := 15) (c := true) rfl (decide_eq_true (by omega)) ?_
      refine c_true rfl ?_
      refine c_seq ?_
      refine c_region _ rfl ?_
      refine l_q rfl (q_assign rfl rfl) rfl rfl ?_
      refine l_nil ?_
      refine k_then ?_
      refine c_ret ?_
      refine k_then_ret ?_
      refine r_one rfl rfl ?_
      exact fun _ h => ⟨(), by rw [if_neg hi], trivial, h⟩
set_option maxRecDepth 100000 in
set_option maxHeartbeats 1000000 in
theorem rwait_spec {m : Tab} {c : Int} (hm : m.Ok c) (r : Nat) (vS vW vT : Value) (i : Int) : Con Try.prog 29 [.pointer (some ⟨r, 0, none⟩), .int .i64 i] (fun _ => True) (RT r vS vW vT m) (fun _ : Unit => .int .i64 (if 0 ≤ i ∧ i < m.n then m.wt.getD i.toNat 0 else 0)) (fun _ => True) (fun _ => RT r vS vW vT m) := by
  intro w hE hH
  have h8 := hm.n8
  have e1 := hm.st
  have e2 := hm.wt
  have e3 := hm.pk
  by_cases hi : 0 ≤ i ∧ i < m.n
  · obtain ⟨k, rfl⟩ := Int.eq_ofNat_of_zero_le hi.1
    have hk : k < m.n := by omega
    refine enter (n := 23) (vs := [.pointer (some ⟨r, 0, none⟩), .int .i64 k]) (St w (dom (RT r vS vW vT m)) (RT r vS vW vT m)) Try.func29 rfl rfl rfl (St.init hH) ?_
    refine c_seq ?_
    refine c_region _ rfl ?_
    refine l_q rfl (q_assign rfl rfl) rfl rfl ?_
    refine l_nil ?_
    refine k_then ?_
    refine c_seq ?_
    refine c_seq ?_
    refine c_region _ rfl ?_
    refine l_q rfl (q_move rfl rfl) rfl rfl ?_
    refine l_q rfl (q_lss rfl rfl rfl) rfl rfl ?_
    refine l_q rfl (q_move rfl rfl) rfl rfl ?_
    refine Pre.setB (t := 7) (c := false) rfl (decide_eq_false (by omega)) ?_
    refine l_q rfl (q_move rfl rfl) rfl rfl ?_
    refine l_q rfl (q_move rfl rfl) rfl rfl ?_
    refine l_q rfl (q_nilCheck rfl rfl) rfl rfl ?_
    refine l_q rfl (q_fieldAddr rfl Try.underlying45 rfl Try.sizeOf42 rfl rfl) rfl rfl ?_
    refine l_q rfl (q_loadC rfl Try.isAgg42 rfl (fun _ h => h.at 0 rfl) rfl) rfl rfl ?_
    refine l_q rfl (q_lenV rfl Try.underlying42 rfl (fun _ h => h.rd 2 rfl)) rfl rfl ?_
    refine l_q rfl (q_geq rfl rfl rfl) rfl rfl ?_
    refine l_q rfl (q_pick_f rfl rfl rfl) rfl rfl ?_
    refine l_nil ?_
    refine k_then ?_
    refine Pre.setB (t := 15) (c := false) rfl (decide_eq_false (by omega)) ?_
    refine c_false rfl ?_
    refine c_skip ?_
    refine k_then ?_
    refine c_seq ?_
    refine c_region _ rfl ?_
    refine l_q rfl (q_move rfl rfl) rfl rfl ?_
    refine l_q rfl (q_nilCheck rfl rfl) rfl rfl ?_
    refine l_q rfl (q_fieldAddr rfl Try.underlying45 rfl Try.sizeOf42 rfl rfl) rfl rfl ?_
    refine l_q rfl (q_loadC rfl Try.isAgg42 rfl (fun _ h => h.at 0 rfl) rfl) rfl rfl ?_
    refine l_q rfl (q_move rfl rfl) rfl rfl ?_
    refine l_q rfl (q_indexV k rfl Try.underlying42 Try.sizeOf3 rfl (fun _ h => h.rd 2 rfl) rfl rfl (by omega)) rfl rfl ?_
    refine l_q rfl (q_loadV k 0 rfl Try.isAgg3 rfl rfl (fun _ h => h.rd 2 rfl) (gd (by omega)) rfl) rfl rfl ?_
    refine l_q rfl (q_assign rfl rfl) rfl rfl ?_
    refine l_nil ?_
    refine k_then ?_
    refine c_ret ?_
    refine r_one rfl rfl ?_
    exact fun _ h => ⟨(), by rw [if_pos hi]; rfl, trivial, h⟩
  · refine enter (n := 23) (vs := [.pointer (some ⟨r, 0, none⟩), .int .i64 i]) (St w (dom (RT r vS vW vT m)) (RT r vS vW vT m)) Try.func29 rfl rfl rfl (St.init hH) ?_
    refine c_seq ?_
    refine c_region _ rfl ?_
    refine l_q rfl (q_assign rfl rfl) rfl rfl ?_
    refine l_nil ?_
    refine k_then ?_
    refine c_seq ?_
    refine c_seq ?_
    refine c_region _ rfl ?_
    refine l_q rfl (q_move rfl rfl) rfl rfl ?_
    refine l_q rfl (q_lss rfl rfl rfl) rfl rfl ?_
    refine l_q rfl (q_move rfl rfl) rfl rfl ?_
    refine Pre.caseB 7 rfl (fun h => ?_) (fun h => ?_)
    · simp only [decide_eq_true_eq, decide_eq_false_iff_not, Bool.not_eq_true', Bool.not_eq_false'] at h
      refine l_not rfl rfl rfl ?_
      refine l_not rfl rfl rfl ?_
      refine l_not rfl rfl rfl ?_
      refine l_not rfl rfl rfl ?_
      refine l_not rfl rfl rfl ?_
      refine l_not rfl rfl rfl ?_
      refine l_not rfl rfl rfl ?_
      refine l_q rfl (q_pick_t rfl rfl rfl) rfl rfl ?_
      refine l_nil ?_
      refine k_then ?_
      refine c_true rfl ?_
      refine c_seq ?_
      refine c_region _ rfl ?_
      refine l_q rfl (q_assign rfl rfl) rfl rfl ?_
      refine l_nil ?_
      refine k_then ?_
      refine c_ret ?_
      refine k_then_ret ?_
      refine r_one rfl rfl ?_
      exact fun _ h => ⟨(), by rw [if_neg hi], trivial, h⟩
    · simp only [decide_eq_true_eq, decide_eq_false_iff_not, Bool.not_eq_true', Bool.not_eq_false'] at h
      refine l_q rfl (q_move rfl rfl) rfl rfl ?_
      refine l_q rfl (q_move rfl rfl) rfl rfl ?_
      refine l_q rfl (q_nilCheck rfl rfl) rfl rfl ?_
      refine l_q rfl (q_fieldAddr rfl Try.underlying45 rfl Try.sizeOf42 rfl rfl) rfl rfl ?_
      refine l_q rfl (q_loadC rfl Try.isAgg42 rfl (fun _ h => h.at 0 rfl) rfl) rfl rfl ?_
      refine l_q rfl (q_lenV rfl Try.underlying42 rfl (fun _ h => h.rd 2 rfl)) rfl rfl ?_
      refine l_q rfl (q_geq rfl rfl rfl) rfl rfl ?_
      refine l_q rfl (q_pick_f rfl rfl rfl) rfl rfl ?_
      refine l_nil ?_
      refine k_then ?_
      refine Pre.setB (t := 15) (c := true) rfl (decide_eq_true (by omega)) ?_
      refine c_true rfl ?_
      refine c_seq ?_
      refine c_region _ rfl ?_
      refine l_q rfl (q_assign rfl rfl) rfl rfl ?_
      refine l_nil ?_
      refine k_then ?_
      refine c_ret ?_
      refine k_then_ret ?_
      refine r_one rfl rfl ?_
      exact fun _ h => ⟨(), by rw [if_neg hi], trivial, h⟩
set_option maxRecDepth 100000 in
set_option maxHeartbeats 1000000 in
theorem rrunnable_spec {m : Tab} {c : Int} (hm : m.Ok c) (r : Nat) (vS vW vT : Value) : Con Try.prog 25 [.pointer (some ⟨r, 0, none⟩)] (fun _ => True) (RT r vS vW vT m) (fun v : Value => v) (fun _ => True) (fun v => rowE v 3 (encI .i64) (nints (runM m)) :: RT r vS vW vT m) := by
  intro w hE hH
  have h8 := hm.n8
  have e1 := hm.st
  have e2 := hm.wt
  have e3 := hm.pk
  refine enter (n := 27) (vs := [.pointer (some ⟨r, 0, none⟩)]) (St w (dom (RT r vS vW vT m)) (RT r vS vW vT m)) Try.func25 rfl rfl rfl (St.init hH) ?_
  refine c_seq ?_
  refine c_region _ rfl ?_
  refine l_q rfl (q_assign rfl rfl) rfl rfl ?_
  refine l_nil ?_
  refine k_then ?_
  refine c_seq ?_
  refine c_region _ rfl ?_
  refine l_q rfl (q_assign rfl rfl) rfl rfl ?_
  refine l_nil ?_
  refine k_then ?_
  refine c_seq ?_
  refine c_seq ?_
  refine c_region _ rfl ?_
  refine l_q rfl (q_assign rfl rfl) rfl rfl ?_
  refine l_nil ?_
  refine k_then ?_
  refine c_block ?_
  refine row0 3 (encI .i64) none ?_
  refine c_loop2 (fun (k : Nat) (v : Value) => [(0, .pointer (some ⟨r, 0, none⟩)), (3, v), (4, .int .i64 (k : Int))]) (fun (k : Nat) (v : Value) => St w (dom (RT r vS vW vT m)) (rowE v 3 (encI .i64) (runTo m k) :: RT r vS vW vT m)) (fun (k : Nat) (v : Value) => k ≤ m.n) (fun (k : Nat) (v : Value) => m.n - k) (0) (.slice none 0 0) (Nat.zero_le _) (Sub.cons rfl (Sub.cons rfl (Sub.cons rfl (Sub.nil)))) (fun _ h => h) ?_
  intro k v hk
  refine c_seq ?_
  refine c_seq ?_
  refine c_region _ rfl ?_
  refine l_q rfl (q_move rfl rfl) rfl rfl ?_
  refine l_q rfl (q_move rfl rfl) rfl rfl ?_
  refine l_q rfl (q_nilCheck rfl rfl) rfl rfl ?_
  refine l_q rfl (q_fieldAddr rfl Try.underlying45 rfl Try.sizeOf42 rfl rfl) rfl rfl ?_
  refine l_q rfl (q_loadC rfl Try.isAgg42 rfl (fun _ h => h.at 1 rfl) rfl) rfl rfl ?_
  refine l_q rfl (q_lenV rfl Try.underlying42 rfl (fun _ h => h.rd 2 rfl)) rfl rfl ?_
  refine l_q rfl (q_lss rfl rfl rfl) rfl rfl ?_
  refine l_nil ?_
  refine k_then ?_
  refine Pre.caseB 11 rfl (fun h => ?_) (fun h => ?_)
  · simp only [decide_eq_true_eq, decide_eq_false_iff_not, Bool.not_eq_true', Bool.not_eq_false'] at h
    have hlen := runTo_len m k
    refine c_true rfl ?_
    refine c_skip ?_
    refine k_then ?_
    refine c_seq ?_
    refine c_block ?_
    refine c_seq ?_
    refine c_region _ rfl ?_
    refine l_q rfl (q_move rfl rfl) rfl rfl ?_
    refine l_q rfl (q_nilCheck rfl rfl) rfl rfl ?_
    refine l_q rfl (q_fieldAddr rfl Try.underlying45 rfl Try.sizeOf42 rfl rfl) rfl rfl ?_
    refine l_q rfl (q_loadC rfl Try.isAgg42 rfl (fun _ h => h.at 1 rfl) rfl) rfl rfl ?_
    refine l_q rfl (q_move rfl rfl) rfl rfl ?_
    refine l_q rfl (q_indexV k rfl Try.underlying42 Try.sizeOf3 rfl (fun _ h => h.rd 2 rfl) rfl rfl (by omega)) rfl rfl ?_
    refine l_q rfl (q_loadV k 0 rfl Try.isAgg3 rfl rfl (fun _ h => h.rd 2 rfl) (gd (by omega)) rfl) rfl rfl ?_
    refine l_q rfl (q_eql rfl rfl rfl) rfl rfl ?_
    refine l_nil ?_
    refine k_then ?_
    refine Pre.caseB 21 rfl (fun h2 => ?_) (fun h2 => ?_)
    · simp only [decide_eq_true_eq, decide_eq_false_iff_not, Bool.not_eq_true', Bool.not_eq_false'] at h2
      refine c_true rfl ?_
      refine c_region _ rfl ?_
      refine l_q rfl (q_move rfl rfl) rfl rfl ?_
      refine l_q rfl (q_move rfl rfl) rfl rfl ?_
      refine l_e rfl ?_
      refine e_buildSliceV (sz := 1) [.tmp 23] rfl rfl rfl rfl rfl Try.underlying42 Try.sizeOf3 rfl Try.zeroValue3 rfl ?_
      intro b1
      refine pull1 ?_
      refine l_e rfl ?_
      refine e_append rfl rfl rfl Try.underlying42 Try.underlying42 info3 rfl rfl rfl rfl rfl (fun _ h => lit_rd (h.at 1 rfl) (encI .i64) [(k : Int)] rfl rfl) (by simp only [byt3, List.length_append, List.length_cons, List.length_nil]; omega) (by simp only [List.length_append, List.length_cons, List.length_nil]; omega) ?_
      intro v2
      refine row_eq (runTo_yes h2) ?_
      refine pull1 ?_
      refine drop0 ?_
      refine l_q rfl (q_assign rfl rfl) rfl rfl ?_
      refine l_nil ?_
      refine k_block ?_
      refine k_then ?_
      refine c_region _ rfl ?_
      refine l_q rfl (q_move rfl rfl) rfl rfl ?_
      refine l_q rfl (q_inc rfl rfl rfl (by omega)) rfl rfl ?_
      refine l_q rfl (q_assign rfl rfl) rfl rfl ?_
      refine l_nil ?_
      exact k_round ((k + 1, v2)) (by dsimp only; omega) (by dsimp only; omega) (Sub.cons rfl (Sub.cons rfl (Sub.cons rfl (Sub.nil)))) (fun _ h => h)
    · simp only [decide_eq_true_eq, decide_eq_false_iff_not, Bool.not_eq_true', Bool.not_eq_false'] at h2
      refine c_false rfl ?_
      refine c_skip ?_
      refine k_block ?_
      refine k_then ?_
      refine c_region _ rfl ?_
      refine l_q rfl (q_move rfl rfl) rfl rfl ?_
      refine l_q rfl (q_inc rfl rfl rfl (by omega)) rfl rfl ?_
      refine l_q rfl (q_assign rfl rfl) rfl rfl ?_
      refine l_nil ?_
      exact k_round ((k + 1, v)) (by dsimp only; omega) (by dsimp only; omega) (Sub.cons rfl (Sub.cons rfl (Sub.cons rfl (Sub.nil)))) (fun _ h => by rw [← runTo_no h2]; exact h)
  · simp only [decide_eq_true_eq, decide_eq_false_iff_not, Bool.not_eq_true', Bool.not_eq_false'] at h
    have hk2 : k = m.n := by omega
    refine c_false rfl ?_
    refine c_exit ?_
    refine k_then_exit ?_
    refine k_then_exit ?_
    refine k_block_exit ?_
    refine k_then ?_
    refine c_seq ?_
    refine c_region _ rfl ?_
    refine l_q rfl (q_move rfl rfl) rfl rfl ?_
    refine l_q rfl (q_assign rfl rfl) rfl rfl ?_
    refine l_nil ?_
    refine k_then ?_
    refine c_ret ?_
    refine r_one rfl rfl ?_
    exact fun _ h => ⟨v, rfl, trivial, by rw [hk2, runTo_n] at h; exact h⟩
set_option maxRecDepth 100000 in
set_option maxHeartbeats 1000000 in
theorem rended_spec {m : Tab} {c : Int} (hm : m.Ok c) (r : Nat) (vS vW vT : Value) : Con Try.prog 27 [.pointer (some ⟨r, 0, none⟩)] (fun _ => True) (RT r vS vW vT m) (fun _ : Unit => .bool (endM m)) (fun _ => True) (fun _ => RT r vS vW vT m) := by
  intro w hE hH
  have h8 := hm.n8
  have e1 := hm.st
  have e2 := hm.wt
  have e3 := hm.pk
  refine enter (n := 21) (vs := [.pointer (some ⟨r, 0, none⟩)]) (St w (dom (RT r vS vW vT m)) (RT r vS vW vT m)) Try.func27 rfl rfl rfl (St.init hH) ?_
  refine c_seq ?_
  refine c_region _ rfl ?_
  refine l_q rfl (q_assign rfl rfl) rfl rfl ?_
  refine l_nil ?_
  refine k_then ?_
  refine c_seq ?_
  refine c_seq ?_
  refine c_region _ rfl ?_
  refine l_q rfl (q_assign rfl rfl) rfl rfl ?_
  refine l_nil ?_
  refine k_then ?_
  refine c_block ?_
  refine c_loop1 (fun (k : Nat) => [(0, .pointer (some ⟨r, 0, none⟩)), (3, .int .i64 (k : Int))]) (fun (k : Nat) => St w (dom (RT r vS vW vT m)) (RT r vS vW vT m)) (fun (k : Nat) => k ≤ m.n ∧ ∀ j, j < k → m.st.getD j 0 = 2) (fun (k : Nat) => m.n - k) (0) ⟨Nat.zero_le _, fun _ h => absurd h (Nat.not_lt_zero _)⟩ (Sub.cons rfl (Sub.cons rfl (Sub.nil))) (fun _ h => h) ?_
  intro k hp
  refine c_seq ?_
  refine c_seq ?_
  obtain ⟨hk, hj⟩ := hp
  refine c_region _ rfl ?_
  refine l_q rfl (q_move rfl rfl) rfl rfl ?_
  refine l_q rfl (q_move rfl rfl) rfl rfl ?_
  refine l_q rfl (q_nilCheck rfl rfl) rfl rfl ?_
  refine l_q rfl (q_fieldAddr rfl Try.underlying45 rfl Try.sizeOf42 rfl rfl) rfl rfl ?_
  refine l_q rfl (q_loadC rfl Try.isAgg42 rfl (fun _ h => h.at 0 rfl) rfl) rfl rfl ?_
  refine l_q rfl (q_lenV rfl Try.underlying42 rfl (fun _ h => h.rd 1 rfl)) rfl rfl ?_
  refine l_q rfl (q_lss rfl rfl rfl) rfl rfl ?_
  refine l_nil ?_
  refine k_then ?_
  refine Pre.caseB 10 rfl (fun h => ?_) (fun h => ?_)
  · simp only [decide_eq_true_eq, decide_eq_false_iff_not, Bool.not_eq_true', Bool.not_eq_false'] at h
    refine c_true rfl ?_
    refine c_skip ?_
    refine k_then ?_
    refine c_seq ?_
    refine c_block ?_
    refine c_seq ?_
    refine c_region _ rfl ?_
    refine l_q rfl (q_move rfl rfl) rfl rfl ?_
    refine l_q rfl (q_nilCheck rfl rfl) rfl rfl ?_
    refine l_q rfl (q_fieldAddr rfl Try.underlying45 rfl Try.sizeOf42 rfl rfl) rfl rfl ?_
    refine l_q rfl (q_loadC rfl Try.isAgg42 rfl (fun _ h => h.at 0 rfl) rfl) rfl rfl ?_
    refine l_q rfl (q_move rfl rfl) rfl rfl ?_
    refine l_q rfl (q_indexV k rfl Try.underlying42 Try.sizeOf3 rfl (fun _ h => h.rd 1 rfl) rfl rfl (by omega)) rfl rfl ?_
    refine l_q rfl (q_loadV k 0 rfl Try.isAgg3 rfl rfl (fun _ h => h.rd 1 rfl) (gd (by omega)) rfl) rfl rfl ?_
    refine l_q rfl (q_neq rfl rfl rfl) rfl rfl ?_
    refine l_nil ?_
    refine k_then ?_
    refine Pre.caseB 20 rfl (fun h2 => ?_) (fun h2 => ?_)
    · simp only [decide_eq_true_eq, decide_eq_false_iff_not, Bool.not_eq_true', Bool.not_eq_false'] at h2
      refine c_true rfl ?_
      refine c_seq ?_
      refine c_region _ rfl ?_
      refine l_q rfl (q_assign rfl rfl) rfl rfl ?_
      refine l_nil ?_
      refine k_then ?_
      refine c_ret ?_
      refine k_block_ret ?_
      refine k_then_ret ?_
      refine k_then_ret ?_
      refine k_block_ret ?_
      refine k_then_ret ?_
      refine r_one rfl rfl ?_
      exact fun _ h => ⟨(), by rw [show endM m = false from by simp only [endM, List.all_eq_false, List.mem_range]; exact ⟨k, by omega, by simpa using h2⟩], trivial, h⟩
    · simp only [decide_eq_true_eq, decide_eq_false_iff_not, Bool.not_eq_true', Bool.not_eq_false'] at h2
      refine c_false rfl ?_
      refine c_skip ?_
      refine k_block ?_
      refine k_then ?_
      refine c_region _ rfl ?_
      refine l_q rfl (q_move rfl rfl) rfl rfl ?_
      refine l_q rfl (q_inc rfl rfl rfl (by omega)) rfl rfl ?_
      refine l_q rfl (q_assign rfl rfl) rfl rfl ?_
      refine l_nil ?_
      exact k_round (k + 1) (by omega) ⟨by omega, fun j hj2 => by rcases Nat.lt_succ_iff_lt_or_eq.1 hj2 with h | h; exact hj j h; subst h; exact h2⟩ (Sub.cons rfl (Sub.cons rfl (Sub.nil))) (fun _ h => h)
  · simp only [decide_eq_true_eq, decide_eq_false_iff_not, Bool.not_eq_true', Bool.not_eq_false'] at h
    refine c_false rfl ?_
    refine c_exit ?_
    refine k_then_exit ?_
    refine k_then_exit ?_
    refine k_block_exit ?_
    refine k_then ?_
    refine c_seq ?_
    refine c_region _ rfl ?_
    refine l_q rfl (q_assign rfl rfl) rfl rfl ?_
    refine l_nil ?_
    refine k_then ?_
    refine c_ret ?_
    refine r_one rfl rfl ?_
    exact fun _ h => ⟨(), by rw [show endM m = true from by simp only [endM, List.all_eq_true, List.mem_range]; exact fun j hj2 => by simpa using hj j (by omega)], trivial, h⟩
end Go.Proofs.Ytjanmpghcigigaa
