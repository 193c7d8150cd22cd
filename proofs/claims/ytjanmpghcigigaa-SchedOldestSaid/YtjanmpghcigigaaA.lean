/- sched: small functions -/
import Derived.Test.YtjanmpghcigigaaFx
import Derived.Test.YtjanmpghcigigaaM
set_option linter.unusedVariables false
set_option linter.unusedSimpArgs false
namespace Go.Proofs.Ytjanmpghcigigaa
open Go.Sep Go.RowKit

/-- Any number as one from 0 to n - 1. -/
def plc (v n : Int) : Int := v % n
theorem tmod_place {v n : Int} (hn : 0 < n) : (if v.tmod n < 0 then v.tmod n + n else v.tmod n) = v % n := by
  have h1 := Int.tmod_lt_of_pos v hn
  have h2 : -n < v.tmod n := Int.lt_tmod_of_pos v hn
  have h3 := Int.mul_tdiv_add_tmod v n
  have key : ∀ r : Int, 0 ≤ r → r < n → (∃ q, v = n * q + r) → r = v % n := by
    rintro r hr0 hr1 ⟨q, hq⟩
    rw [hq, Int.mul_add_emod_self_left, Int.emod_eq_of_lt hr0 hr1]
  split
  · exact key _ (by omega) (by omega) ⟨v.tdiv n - 1, by rw [Int.mul_sub]; omega⟩
  · exact key _ (by omega) (by omega) ⟨v.tdiv n, by omega⟩

set_option maxRecDepth 100000 in
set_option maxHeartbeats 1000000 in
theorem place_spec (v n : Int) (hn : 0 < n) (hn2 : n ≤ 4611686018427387904) : Con Try.prog 8 [.int .i64 v, .int .i64 n] (fun _ => True) [] (fun _ : Unit => .int .i64 (v % n)) (fun _ => True) (fun _ => []) := by
  intro w hE hH
  have h1 := Int.tmod_lt_of_pos v hn
  have h2 : -n < v.tmod n := Int.lt_tmod_of_pos v hn
  have h3 := tmod_place (v := v) hn
  refine enter (n := 15) (vs := [.int .i64 v, .int .i64 n]) (St w [] []) Try.func8 rfl rfl rfl (St.init hH) ?_
  refine c_seq ?_
  refine c_region _ rfl ?_
  refine l_q rfl (q_assign rfl rfl) rfl rfl ?_
  refine l_nil ?_
  refine k_then ?_
  refine c_seq ?_
  refine c_region _ rfl ?_
  refine l_q rfl (q_move rfl rfl) rfl rfl ?_
  refine l_q rfl (q_move rfl rfl) rfl rfl ?_
  refine l_q rfl (q_rem rfl rfl rfl (by omega)) rfl rfl ?_
  refine l_q rfl (q_assign rfl rfl) rfl rfl ?_
  refine l_nil ?_
  refine k_then ?_
  refine c_seq ?_
  refine c_seq ?_
  refine c_region _ rfl ?_
  refine l_q rfl (q_move rfl rfl) rfl rfl ?_
  refine l_q rfl (q_lss rfl rfl rfl) rfl rfl ?_
  refine l_nil ?_
  refine k_then ?_
  refine Pre.caseB 10 rfl (fun h => ?_) (fun h => ?_)
  · simp only [decide_eq_true_eq, decide_eq_false_iff_not, Bool.not_eq_true', Bool.not_eq_false'] at h
    rw [if_pos h] at h3
    refine c_true rfl ?_
    refine c_region _ rfl ?_
    refine l_q rfl (q_move rfl rfl) rfl rfl ?_
    refine l_q rfl (q_move rfl rfl) rfl rfl ?_
    refine l_q rfl (q_add64 rfl rfl rfl (by omega)) rfl rfl ?_
    refine l_q rfl (q_assign rfl rfl) rfl rfl ?_
    refine l_nil ?_
    refine k_then ?_
    refine c_seq ?_
    refine c_region _ rfl ?_
    refine l_q rfl (q_move rfl rfl) rfl rfl ?_
    refine l_q rfl (q_assign rfl rfl) rfl rfl ?_
    refine l_nil ?_
    refine k_then ?_
    refine c_ret ?_
    refine r_one rfl rfl ?_
    exact fun _ h => ⟨(), congrArg (fun z => Ending.returned (Value.int .i64 z)) h3, trivial, h⟩
  · simp only [decide_eq_true_eq, decide_eq_false_iff_not, Bool.not_eq_true', Bool.not_eq_false'] at h
    rw [if_neg h] at h3
    refine c_false rfl ?_
    refine c_skip ?_
    refine k_then ?_
    refine c_seq ?_
    refine c_region _ rfl ?_
    refine l_q rfl (q_move rfl rfl) rfl rfl ?_
    refine l_q rfl (q_assign rfl rfl) rfl rfl ?_
    refine l_nil ?_
    refine k_then ?_
    refine c_ret ?_
    refine r_one rfl rfl ?_
    exact fun _ h => ⟨(), congrArg (fun z => Ending.returned (Value.int .i64 z)) h3, trivial, h⟩
theorem gd {l : List Int} {k : Nat} (h : k < l.length) : l[k]? = some (l.getD k 0) := by simp [List.getD_eq_getElem?_getD, h]
theorem take_same {α : Type} {a b : List α} {k : Nat} {x y : α} (h : a.take k = b.take k) (hx : a[k]? = some x) (hy : b[k]? = some y) (e : x = y) : a.take (k + 1) = b.take (k + 1) := by
  subst e
  rw [List.take_add_one, List.take_add_one, hx, hy, h]

set_option maxRecDepth 100000 in
set_option maxHeartbeats 1000000 in
theorem sameints_spec {va vb : Value} (la lb : List Int) (hn : la.length ≤ 4611686018427387904) : Con Try.prog 23 [va, vb] (fun w => RdV w va (encI .i64) la ∧ RdV w vb (encI .i64) lb) [] (fun _ : Unit => .bool (decide (la = lb))) (fun _ => True) (fun _ => []) := by
  intro w hE hH
  obtain ⟨ha, hb⟩ := hE
  refine enter (n := 26) (vs := [va, vb]) (St w [] []) Try.func23 rfl rfl rfl (St.init hH) ?_
  refine c_seq ?_
  refine c_region _ rfl ?_
  refine l_q rfl (q_assign rfl rfl) rfl rfl ?_
  refine l_nil ?_
  refine k_then ?_
  refine c_seq ?_
  refine c_seq ?_
  refine c_region _ rfl ?_
  refine l_q rfl (q_move rfl rfl) rfl rfl ?_
  refine l_q rfl (q_lenV rfl Try.underlying42 rfl (fun _ h => ha.keep h (by simp [dom]))) rfl rfl ?_
  refine l_q rfl (q_move rfl rfl) rfl rfl ?_
  refine l_q rfl (q_lenV rfl Try.underlying42 rfl (fun _ h => hb.keep h (by simp [dom]))) rfl rfl ?_
  refine l_q rfl (q_neq rfl rfl rfl) rfl rfl ?_
  refine l_nil ?_
  refine k_then ?_
  refine Pre.caseB 10 rfl (fun hl => ?_) (fun hl => ?_)
  · simp only [decide_eq_true_eq, decide_eq_false_iff_not, Bool.not_eq_true', Bool.not_eq_false'] at hl
    refine c_true rfl ?_
    refine c_seq ?_
    refine c_region _ rfl ?_
    refine l_q rfl (q_assign rfl rfl) rfl rfl ?_
    refine l_nil ?_
    refine k_then ?_
    refine c_ret ?_
    refine k_then_ret ?_
    refine r_one rfl rfl ?_
    exact fun _ h => ⟨(), congrArg (fun z => Ending.returned (Value.bool z)) (decide_eq_false (fun e => hl (by rw [e]))).symm, trivial, h⟩
  · simp only [decide_eq_true_eq, decide_eq_false_iff_not, Bool.not_eq_true', Bool.not_eq_false'] at hl
    refine c_false rfl ?_
    refine c_skip ?_
    refine k_then ?_
    refine c_seq ?_
    refine c_seq ?_
    refine c_region _ rfl ?_
    refine l_q rfl (q_assign rfl rfl) rfl rfl ?_
    refine l_nil ?_
    refine k_then ?_
    refine c_block ?_
    refine c_loop1 (fun (k : Nat) => [(0, va), (1, vb), (5, .int .i64 (k : Int))]) (fun (k : Nat) => St w [] []) (fun (k : Nat) => k ≤ la.length ∧ la.take k = lb.take k) (fun (k : Nat) => la.length - k) (0) ⟨Nat.zero_le _, rfl⟩ (Sub.cons rfl (Sub.cons rfl (Sub.cons rfl (Sub.nil)))) (fun _ h => h) ?_
    intro k hk
    refine c_seq ?_
    refine c_seq ?_
    obtain ⟨hk, ht⟩ := hk
    refine c_region _ rfl ?_
    refine l_q rfl (q_move rfl rfl) rfl rfl ?_
    refine l_q rfl (q_move rfl rfl) rfl rfl ?_
    refine l_q rfl (q_lenV rfl Try.underlying42 rfl (fun _ h => ha.keep h (by simp [dom]))) rfl rfl ?_
    refine l_q rfl (q_lss rfl rfl rfl) rfl rfl ?_
    refine l_nil ?_
    refine k_then ?_
    refine Pre.caseB 14 rfl (fun hlt => ?_) (fun hlt => ?_)
    · simp only [decide_eq_true_eq, decide_eq_false_iff_not, Bool.not_eq_true', Bool.not_eq_false'] at hlt
      obtain ⟨x, hx⟩ : ∃ x, la[k]? = some x := ⟨_, List.getElem?_eq_getElem (by omega)⟩
      obtain ⟨y, hy⟩ : ∃ y, lb[k]? = some y := ⟨_, List.getElem?_eq_getElem (by omega)⟩
      refine c_true rfl ?_
      refine c_skip ?_
      refine k_then ?_
      refine c_seq ?_
      refine c_block ?_
      refine c_seq ?_
      refine c_draw [(0, some true), (1, some true), (2, some true), (3, some true), (4, some true), (5, some true), (6, some true), (7, some true), (8, some true)] [] [(_, some true), (_, some true), (_, some true), (_, some true), (_, some true), (_, some true), (_, some true), (_, some true), (_, some true)] _ (blind_then (blind_block (blind_then (blind_then (blind_block (blind_then blind_body)))))) rfl (by kernel_rfl) (by kernel_rfl) rfl rfl rfl (by kernel_rfl) St.drawn (fun _ h => h) ?_
      refine d_q rfl (q_move rfl rfl) rfl rfl ?_
      refine d_q rfl (q_move rfl rfl) rfl rfl ?_
      refine d_q rfl (q_indexV k rfl Try.underlying42 Try.sizeOf3 rfl (fun _ h => ha.keep h (by simp [dom])) rfl rfl (by omega)) rfl rfl ?_
      refine d_q rfl (q_loadV k 0 rfl Try.isAgg3 rfl rfl (fun _ h => ha.keep h (by simp [dom])) hx rfl) rfl rfl ?_
      refine d_q rfl (q_move rfl rfl) rfl rfl ?_
      refine d_q rfl (q_move rfl rfl) rfl rfl ?_
      refine d_q rfl (q_indexV k rfl Try.underlying42 Try.sizeOf3 rfl (fun _ h => hb.keep h (by simp [dom])) rfl rfl (by omega)) rfl rfl ?_
      refine d_q rfl (q_loadV k 0 rfl Try.isAgg3 rfl rfl (fun _ h => hb.keep h (by simp [dom])) hy rfl) rfl rfl ?_
      refine d_q rfl (q_neq rfl rfl rfl) rfl rfl ?_
      refine d_nil ?_
      refine k_then ?_
      refine Pre.caseB 25 rfl (fun hne => ?_) (fun hne => ?_)
      · simp only [decide_eq_true_eq, decide_eq_false_iff_not, Bool.not_eq_true', Bool.not_eq_false'] at hne
        refine c_true rfl ?_
        refine c_seq ?_
        refine c_region _ rfl ?_
        refine l_q rfl (q_assign rfl rfl) rfl rfl ?_
        refine l_nil ?_
        refine k_then ?_
        refine c_ret ?_
        refine k_block_ret ?_
        refine k_then_ret ?_
        refine k_then_ret ?_
        refine k_block_ret ?_
        refine k_then_ret ?_
        refine r_one rfl rfl ?_
        exact fun _ h => ⟨(), congrArg (fun z => Ending.returned (Value.bool z)) (decide_eq_false (fun e => hne (by rw [e, hy] at hx; exact (Option.some.inj hx).symm))).symm, trivial, h⟩
      · simp only [decide_eq_true_eq, decide_eq_false_iff_not, Bool.not_eq_true', Bool.not_eq_false'] at hne
        refine c_false rfl ?_
        refine c_skip ?_
        refine k_block ?_
        refine k_then ?_
        refine c_region _ rfl ?_
        refine l_q rfl (q_move rfl rfl) rfl rfl ?_
        refine l_q rfl (q_inc rfl rfl rfl (by omega)) rfl rfl ?_
        refine l_q rfl (q_assign rfl rfl) rfl rfl ?_
        refine l_nil ?_
        exact k_round (k + 1) (by omega) ⟨by omega, take_same ht hx hy hne⟩ (Sub.cons rfl (Sub.cons rfl (Sub.cons rfl (Sub.nil)))) (fun _ h => h)
    · simp only [decide_eq_true_eq, decide_eq_false_iff_not, Bool.not_eq_true', Bool.not_eq_false'] at hlt
      refine c_false rfl ?_
      refine c_exit ?_
      refine k_then_exit ?_
      refine k_then_exit ?_
      refine k_block_exit ?_
      refine k_then ?_
      refine c_seq ?_
      refine c_region _ rfl ?_
      refine l_q rfl (q_assign rfl rfl) rfl rfl ?_
      refine l_nil ?_
      refine k_then ?_
      refine c_ret ?_
      refine r_one rfl rfl ?_
      exact fun _ h => ⟨(), congrArg (fun z => Ending.returned (Value.bool z)) (decide_eq_true (by rw [List.take_of_length_le (by omega), List.take_of_length_le (by omega)] at ht; exact ht)).symm, trivial, h⟩
set_option maxRecDepth 100000 in
set_option maxHeartbeats 1000000 in
theorem is_spec {m : Tab} {c : Int} (hm : m.Ok c) (b : Nat) (i : Int) : Con Try.prog 30 [.pointer (some ⟨b, 0, none⟩), .int .i64 i] (fun _ => True) [cellsE b 55 (tabC m)] (fun _ : Unit => .bool (decide (0 ≤ i ∧ i < m.n))) (fun _ => True) (fun _ => [cellsE b 55 (tabC m)]) := by
  intro w hE hH
  refine enter (n := 15) (vs := [.pointer (some ⟨b, 0, none⟩), .int .i64 i]) (St w [b] [cellsE b 55 (tabC m)]) Try.func30 rfl rfl rfl (St.init hH) ?_
  refine c_seq ?_
  refine c_region _ rfl ?_
  refine l_q rfl (q_assign rfl rfl) rfl rfl ?_
  refine l_nil ?_
  refine k_then ?_
  refine c_seq ?_
  refine c_region _ rfl ?_
  refine l_q rfl (q_move rfl rfl) rfl rfl ?_
  refine l_q rfl (q_geq rfl rfl rfl) rfl rfl ?_
  refine l_q rfl (q_move rfl rfl) rfl rfl ?_
  refine Pre.caseB 7 rfl (fun h => ?_) (fun h => ?_)
  · simp only [decide_eq_true_eq, decide_eq_false_iff_not, Bool.not_eq_true', Bool.not_eq_false'] at h
    refine l_q rfl (q_move rfl rfl) rfl rfl ?_
    refine l_q rfl (q_move rfl rfl) rfl rfl ?_
    refine l_q rfl (q_nilCheck rfl rfl) rfl rfl ?_
    refine l_q rfl (q_fieldAddr rfl Try.underlying55 rfl Try.sizeOf3 rfl rfl) rfl rfl ?_
    refine l_q rfl (q_loadC rfl Try.isAgg3 rfl (fun _ h => h.at 0 rfl) rfl) rfl rfl ?_
    refine l_q rfl (q_lss rfl rfl rfl) rfl rfl ?_
    refine l_q rfl (q_pick_t rfl rfl rfl) rfl rfl ?_
    refine l_q rfl (q_assign rfl rfl) rfl rfl ?_
    refine l_nil ?_
    refine k_then ?_
    refine c_ret ?_
    refine r_one rfl rfl ?_
    exact fun _ h' => ⟨(), congrArg (fun z => Ending.returned (Value.bool z)) (by simp [h]), trivial, h'⟩
  · simp only [decide_eq_true_eq, decide_eq_false_iff_not, Bool.not_eq_true', Bool.not_eq_false'] at h
    refine l_not rfl rfl rfl ?_
    refine l_not rfl rfl rfl ?_
    refine l_not rfl rfl rfl ?_
    refine l_not rfl rfl rfl ?_
    refine l_not rfl rfl rfl ?_
    refine l_not rfl rfl rfl ?_
    refine l_q rfl (q_pick_f rfl rfl rfl) rfl rfl ?_
    refine l_q rfl (q_assign rfl rfl) rfl rfl ?_
    refine l_nil ?_
    refine k_then ?_
    refine c_ret ?_
    refine r_one rfl rfl ?_
    exact fun _ h' => ⟨(), congrArg (fun z => Ending.returned (Value.bool z)) (by simp; omega), trivial, h'⟩
set_option maxRecDepth 100000 in
set_option maxHeartbeats 1000000 in
theorem turn_spec {m : Tab} {c : Int} (hm : m.Ok c) (b : Nat) (i s : Int) : Con Try.prog 31 [.pointer (some ⟨b, 0, none⟩), .int .i64 i, .int .i64 s] (fun _ => True) [cellsE b 55 (tabC m)] (fun _ : Unit => .tuple #[]) (fun _ => True) (fun _ => [cellsE b 55 (tabC (turnM m i s))]) := by
  intro w hE hH
  by_cases hi : 0 ≤ i ∧ i < m.n
  · obtain ⟨k, rfl⟩ := Int.eq_ofNat_of_zero_le hi.1
    have hk : k < m.n := by omega
    have h8 := hm.n8
    refine enter (n := 32) (vs := [.pointer (some ⟨b, 0, none⟩), .int .i64 k, .int .i64 s]) (St w [b] [cellsE b 55 (tabC m)]) Try.func31 rfl rfl rfl (St.init hH) ?_
    refine c_seq ?_
    refine c_seq ?_
    refine c_region _ rfl ?_
    refine l_q rfl (q_move rfl rfl) rfl rfl ?_
    refine l_q rfl (q_move rfl rfl) rfl rfl ?_
    refine l_e rfl ?_
    refine e_call_11 (is_spec hm b k) rfl rfl rfl Try.call30 rfl (fun _ _ => trivial) ?_
    intro _ _
    refine l_q rfl (q_not rfl rfl) rfl rfl ?_
    refine l_q rfl (q_move rfl rfl) rfl rfl ?_
    refine Pre.setB (t := 10) (c := false) rfl (by simp; omega) ?_
    refine l_q rfl (q_move rfl rfl) rfl rfl ?_
    refine l_q rfl (q_move rfl rfl) rfl rfl ?_
    refine l_q rfl (q_nilCheck rfl rfl) rfl rfl ?_
    refine l_q rfl (q_fieldAddr rfl Try.underlying55 rfl Try.sizeOf52 rfl rfl) rfl rfl ?_
    refine l_q rfl (q_indexArr k rfl Try.underlying52 Try.sizeOf51 rfl rfl rfl (by omega)) rfl rfl ?_
    refine l_q rfl (q_loadC rfl Try.isAgg51 rfl (fun _ h => h.at 0 rfl) (tab_st hm (k := k) (by omega) (by simp))) rfl rfl ?_
    refine l_q rfl (q_eql rfl rfl rfl) rfl rfl ?_
    refine l_q rfl (q_pick_f rfl rfl rfl) rfl rfl ?_
    refine l_nil ?_
    refine k_then ?_
    refine Pre.caseB 18 rfl (fun h => ?_) (fun h => ?_)
    · simp only [decide_eq_true_eq, decide_eq_false_iff_not, Bool.not_eq_true', Bool.not_eq_false'] at h
      have hT : turnM m k s = m := by unfold turnM; rw [if_neg (fun hh => hh.2.2 h)]
      refine c_true rfl ?_
      refine c_ret ?_
      refine k_then_ret ?_
      refine r_none rfl ?_
      exact fun _ h => ⟨(), rfl, trivial, by rw [hT]; exact h⟩
    · simp only [decide_eq_true_eq, decide_eq_false_iff_not, Bool.not_eq_true', Bool.not_eq_false'] at h
      refine c_false rfl ?_
      refine c_skip ?_
      refine k_then ?_
      refine c_seq ?_
      refine c_region _ rfl ?_
      refine l_q rfl (q_move rfl rfl) rfl rfl ?_
      refine l_q rfl (q_move rfl rfl) rfl rfl ?_
      refine l_q rfl (q_move rfl rfl) rfl rfl ?_
      refine l_q rfl (q_nilCheck rfl rfl) rfl rfl ?_
      refine l_q rfl (q_fieldAddr rfl Try.underlying55 rfl Try.sizeOf52 rfl rfl) rfl rfl ?_
      refine l_q rfl (q_indexArr k rfl Try.underlying52 Try.sizeOf51 rfl rfl rfl (by omega)) rfl rfl ?_
      refine l_e rfl ?_
      refine e_store rfl rfl Try.sizeOf51 rfl rfl rfl (by rw [tab_len hm]; show 0 + 1 + k * 1 < 26; omega) ?_
      refine cells_eq (set_st hm s (k := k) (by omega) (by simp)) ?_
      refine l_nil ?_
      refine k_then ?_
      refine c_seq ?_
      refine c_region _ rfl ?_
      refine l_q rfl (q_move rfl rfl) rfl rfl ?_
      refine l_q rfl (q_neq rfl rfl rfl) rfl rfl ?_
      refine l_nil ?_
      refine k_then ?_
      refine Pre.caseB 26 rfl (fun h2 => ?_) (fun h2 => ?_)
      · simp only [decide_eq_true_eq, decide_eq_false_iff_not, Bool.not_eq_true', Bool.not_eq_false'] at h2
        have hm1 : Tab.Ok { m with st := m.st.set k s } c := ⟨hm.n1, hm.n8, by simp [hm.st], hm.wt, hm.pk, hm.wt0, hm.pk0, hm.w0⟩
        have hT : turnM m k s = { m with st := m.st.set k s, wt := m.wt.set k 0 } := by unfold turnM; rw [if_pos ⟨hi.1, hi.2, by simpa using h⟩, if_neg h2]; rfl
        refine c_true rfl ?_
        refine c_region _ rfl ?_
        refine l_q rfl (q_move rfl rfl) rfl rfl ?_
        refine l_q rfl (q_move rfl rfl) rfl rfl ?_
        refine l_q rfl (q_nilCheck rfl rfl) rfl rfl ?_
        refine l_q rfl (q_fieldAddr rfl Try.underlying55 rfl Try.sizeOf53 rfl rfl) rfl rfl ?_
        refine l_q rfl (q_indexArr k rfl Try.underlying53 Try.sizeOf3 rfl rfl rfl (by omega)) rfl rfl ?_
        refine l_e rfl ?_
        refine e_store rfl rfl Try.sizeOf3 rfl rfl rfl (by rw [tab_len hm1]; show 0 + 9 + k * 1 < 26; omega) ?_
        refine cells_eq (set_wt hm1 0 (k := k) hk (by simp)) ?_
        refine l_nil ?_
        refine r_normal ?_
        refine r_none rfl ?_
        exact fun _ h => ⟨(), rfl, trivial, by rw [hT]; exact h⟩
      · simp only [decide_eq_true_eq, decide_eq_false_iff_not, Bool.not_eq_true', Bool.not_eq_false'] at h2
        have hT : turnM m k s = { m with st := m.st.set k s } := by unfold turnM; rw [if_pos ⟨hi.1, hi.2, by simpa using h⟩, if_pos h2]; rfl
        refine c_false rfl ?_
        refine c_skip ?_
        refine r_normal ?_
        refine r_none rfl ?_
        exact fun _ h => ⟨(), rfl, trivial, by rw [hT]; exact h⟩
  · have hT : turnM m i s = m := by unfold turnM; rw [if_neg (fun hh => hi ⟨hh.1, hh.2.1⟩)]
    refine enter (n := 32) (vs := [.pointer (some ⟨b, 0, none⟩), .int .i64 i, .int .i64 s]) (St w [b] [cellsE b 55 (tabC m)]) Try.func31 rfl rfl rfl (St.init hH) ?_
    refine c_seq ?_
    refine c_seq ?_
    refine c_region _ rfl ?_
    refine l_q rfl (q_move rfl rfl) rfl rfl ?_
    refine l_q rfl (q_move rfl rfl) rfl rfl ?_
    refine l_e rfl ?_
    refine e_call_11 (is_spec hm b i) rfl rfl rfl Try.call30 rfl (fun _ _ => trivial) ?_
    intro _ _
    refine l_q rfl (q_not rfl rfl) rfl rfl ?_
    refine l_q rfl (q_move rfl rfl) rfl rfl ?_
    refine Pre.setB (t := 10) (c := true) rfl (by simp only [Bool.not_eq_true', decide_eq_false_iff_not]; exact hi) ?_
    refine l_not rfl rfl rfl ?_
    refine l_not rfl rfl rfl ?_
    refine l_not rfl rfl rfl ?_
    refine l_not rfl rfl rfl ?_
    refine l_not rfl rfl rfl ?_
    refine l_not rfl rfl rfl ?_
    refine l_not rfl rfl rfl ?_
    refine l_q rfl (q_pick_t rfl rfl rfl) rfl rfl ?_
    refine l_nil ?_
    refine k_then ?_
    refine c_true rfl ?_
    refine c_ret ?_
    refine k_then_ret ?_
    refine r_none rfl ?_
    exact fun _ h => ⟨(), rfl, trivial, by rw [hT]; exact h⟩
set_option maxRecDepth 100000 in
set_option maxHeartbeats 1000000 in
theorem block_spec {m : Tab} {c : Int} (hm : m.Ok c) (b : Nat) (i : Int) : Con Try.prog 16 [.pointer (some ⟨b, 0, none⟩), .int .i64 i] (fun _ => True) [cellsE b 55 (tabC m)] (fun _ : Unit => .tuple #[]) (fun _ => True) (fun _ => [cellsE b 55 (tabC (turnM m i 1))]) := by
  intro w hE hH
  refine enter (n := 7) (vs := [.pointer (some ⟨b, 0, none⟩), .int .i64 i]) (St w [b] [cellsE b 55 (tabC m)]) Try.func16 rfl rfl rfl (St.init hH) ?_
  refine c_region _ rfl ?_
  refine l_q rfl (q_move rfl rfl) rfl rfl ?_
  refine l_q rfl (q_move rfl rfl) rfl rfl ?_
  refine l_e rfl ?_
  refine e_call_11 (turn_spec hm b i 1) rfl rfl rfl Try.call31 rfl (fun _ _ => trivial) ?_
  intro _ _
  refine l_nil ?_
  refine r_normal ?_
  refine r_none rfl ?_
  exact fun _ h => ⟨(), rfl, trivial, h⟩
set_option maxRecDepth 100000 in
set_option maxHeartbeats 1000000 in
theorem wake_spec {m : Tab} {c : Int} (hm : m.Ok c) (b : Nat) (i : Int) : Con Try.prog 18 [.pointer (some ⟨b, 0, none⟩), .int .i64 i] (fun _ => True) [cellsE b 55 (tabC m)] (fun _ : Unit => .tuple #[]) (fun _ => True) (fun _ => [cellsE b 55 (tabC (turnM m i 0))]) := by
  intro w hE hH
  refine enter (n := 7) (vs := [.pointer (some ⟨b, 0, none⟩), .int .i64 i]) (St w [b] [cellsE b 55 (tabC m)]) Try.func18 rfl rfl rfl (St.init hH) ?_
  refine c_region _ rfl ?_
  refine l_q rfl (q_move rfl rfl) rfl rfl ?_
  refine l_q rfl (q_move rfl rfl) rfl rfl ?_
  refine l_e rfl ?_
  refine e_call_11 (turn_spec hm b i 0) rfl rfl rfl Try.call31 rfl (fun _ _ => trivial) ?_
  intro _ _
  refine l_nil ?_
  refine r_normal ?_
  refine r_none rfl ?_
  exact fun _ h => ⟨(), rfl, trivial, h⟩
set_option maxRecDepth 100000 in
set_option maxHeartbeats 1000000 in
theorem end_spec {m : Tab} {c : Int} (hm : m.Ok c) (b : Nat) (i : Int) : Con Try.prog 20 [.pointer (some ⟨b, 0, none⟩), .int .i64 i] (fun _ => True) [cellsE b 55 (tabC m)] (fun _ : Unit => .tuple #[]) (fun _ => True) (fun _ => [cellsE b 55 (tabC (turnM m i 2))]) := by
  intro w hE hH
  refine enter (n := 7) (vs := [.pointer (some ⟨b, 0, none⟩), .int .i64 i]) (St w [b] [cellsE b 55 (tabC m)]) Try.func20 rfl rfl rfl (St.init hH) ?_
  refine c_region _ rfl ?_
  refine l_q rfl (q_move rfl rfl) rfl rfl ?_
  refine l_q rfl (q_move rfl rfl) rfl rfl ?_
  refine l_e rfl ?_
  refine e_call_11 (turn_spec hm b i 2) rfl rfl rfl Try.call31 rfl (fun _ _ => trivial) ?_
  intro _ _
  refine l_nil ?_
  refine r_normal ?_
  refine r_none rfl ?_
  exact fun _ h => ⟨(), rfl, trivial, h⟩
set_option maxRecDepth 100000 in
set_option maxHeartbeats 1000000 in
theorem picks_spec {m : Tab} {c : Int} (hm : m.Ok c) (b : Nat) (i : Int) : Con Try.prog 11 [.pointer (some ⟨b, 0, none⟩), .int .i64 i] (fun _ => True) [cellsE b 55 (tabC m)] (fun _ : Unit => .int .i64 (if 0 ≤ i ∧ i < m.n then m.pk.getD i.toNat 0 else 0)) (fun _ => True) (fun _ => [cellsE b 55 (tabC m)]) := by
  intro w hE hH
  by_cases hi : 0 ≤ i ∧ i < m.n
  · obtain ⟨k, rfl⟩ := Int.eq_ofNat_of_zero_le hi.1
    have hk : k < m.n := by omega
    have h8 := hm.n8
    refine enter (n := 15) (vs := [.pointer (some ⟨b, 0, none⟩), .int .i64 k]) (St w [b] [cellsE b 55 (tabC m)]) Try.func11 rfl rfl rfl (St.init hH) ?_
    refine c_seq ?_
    refine c_region _ rfl ?_
    refine l_q rfl (q_assign rfl rfl) rfl rfl ?_
    refine l_nil ?_
    refine k_then ?_
    refine c_seq ?_
    refine c_seq ?_
    refine c_region _ rfl ?_
    refine l_q rfl (q_move rfl rfl) rfl rfl ?_
    refine l_q rfl (q_move rfl rfl) rfl rfl ?_
    refine l_e rfl ?_
    refine e_call_11 (is_spec hm b k) rfl rfl rfl Try.call30 rfl (fun _ _ => trivial) ?_
    intro _ _
    refine l_q rfl (q_not rfl rfl) rfl rfl ?_
    refine l_nil ?_
    refine k_then ?_
    refine Pre.setB (t := 8) (c := false) rfl (by simp; omega) ?_
    refine c_false rfl ?_
    refine c_skip ?_
    refine k_then ?_
    refine c_seq ?_
    refine c_region _ rfl ?_
    refine l_q rfl (q_move rfl rfl) rfl rfl ?_
    refine l_q rfl (q_move rfl rfl) rfl rfl ?_
    refine l_q rfl (q_nilCheck rfl rfl) rfl rfl ?_
    refine l_q rfl (q_fieldAddr rfl Try.underlying55 rfl Try.sizeOf53 rfl rfl) rfl rfl ?_
    refine l_q rfl (q_indexArr k rfl Try.underlying53 Try.sizeOf3 rfl rfl rfl (by omega)) rfl rfl ?_
    refine l_q rfl (q_loadC rfl Try.isAgg3 rfl (fun _ h => h.at 0 rfl) (tab_pk hm (k := k) (by omega) (by simp))) rfl rfl ?_
    refine l_q rfl (q_assign rfl rfl) rfl rfl ?_
    refine l_nil ?_
    refine k_then ?_
    refine c_ret ?_
    refine r_one rfl rfl ?_
    exact fun _ h => ⟨(), by rw [if_pos hi]; rfl, trivial, h⟩
  · refine enter (n := 15) (vs := [.pointer (some ⟨b, 0, none⟩), .int .i64 i]) (St w [b] [cellsE b 55 (tabC m)]) Try.func11 rfl rfl rfl (St.init hH) ?_
    refine c_seq ?_
    refine c_region _ rfl ?_
    refine l_q rfl (q_assign rfl rfl) rfl rfl ?_
    refine l_nil ?_
    refine k_then ?_
    refine c_seq ?_
    refine c_seq ?_
    refine c_region _ rfl ?_
    refine l_q rfl (q_move rfl rfl) rfl rfl ?_
    refine l_q rfl (q_move rfl rfl) rfl rfl ?_
    refine l_e rfl ?_
    refine e_call_11 (is_spec hm b i) rfl rfl rfl Try.call30 rfl (fun _ _ => trivial) ?_
    intro _ _
    refine l_q rfl (q_not rfl rfl) rfl rfl ?_
    refine l_nil ?_
    refine k_then ?_
    refine Pre.setB (t := 8) (c := true) rfl (by simp only [Bool.not_eq_true', decide_eq_false_iff_not]; exact hi) ?_
    refine c_true rfl ?_
    refine c_seq ?_
    refine c_region _ rfl ?_
    refine l_q rfl (q_assign rfl rfl) rfl rfl ?_
    refine l_nil ?_
    refine k_then ?_
    refine c_ret ?_
    refine k_then_ret ?_
    refine r_one rfl rfl ?_
    exact fun _ h => ⟨(), by rw [if_neg hi], trivial, h⟩
set_option maxRecDepth 100000 in
set_option maxHeartbeats 1000000 in
theorem wait_spec {m : Tab} {c : Int} (hm : m.Ok c) (b : Nat) (i : Int) : Con Try.prog 12 [.pointer (some ⟨b, 0, none⟩), .int .i64 i] (fun _ => True) [cellsE b 55 (tabC m)] (fun _ : Unit => .int .i64 (if 0 ≤ i ∧ i < m.n then m.wt.getD i.toNat 0 else 0)) (fun _ => True) (fun _ => [cellsE b 55 (tabC m)]) := by
  intro w hE hH
  by_cases hi : 0 ≤ i ∧ i < m.n
  · obtain ⟨k, rfl⟩ := Int.eq_ofNat_of_zero_le hi.1
    have hk : k < m.n := by omega
    have h8 := hm.n8
    refine enter (n := 15) (vs := [.pointer (some ⟨b, 0, none⟩), .int .i64 k]) (St w [b] [cellsE b 55 (tabC m)]) Try.func12 rfl rfl rfl (St.init hH) ?_
    refine c_seq ?_
    refine c_region _ rfl ?_
    refine l_q rfl (q_assign rfl rfl) rfl rfl ?_
    refine l_nil ?_
    refine k_then ?_
    refine c_seq ?_
    refine c_seq ?_
    refine c_region _ rfl ?_
    refine l_q rfl (q_move rfl rfl) rfl rfl ?_
    refine l_q rfl (q_move rfl rfl) rfl rfl ?_
    refine l_e rfl ?_
    refine e_call_11 (is_spec hm b k) rfl rfl rfl Try.call30 rfl (fun _ _ => trivial) ?_
    intro _ _
    refine l_q rfl (q_not rfl rfl) rfl rfl ?_
    refine l_nil ?_
    refine k_then ?_
    refine Pre.setB (t := 8) (c := false) rfl (by simp; omega) ?_
    refine c_false rfl ?_
    refine c_skip ?_
    refine k_then ?_
    refine c_seq ?_
    refine c_region _ rfl ?_
    refine l_q rfl (q_move rfl rfl) rfl rfl ?_
    refine l_q rfl (q_move rfl rfl) rfl rfl ?_
    refine l_q rfl (q_nilCheck rfl rfl) rfl rfl ?_
    refine l_q rfl (q_fieldAddr rfl Try.underlying55 rfl Try.sizeOf53 rfl rfl) rfl rfl ?_
    refine l_q rfl (q_indexArr k rfl Try.underlying53 Try.sizeOf3 rfl rfl rfl (by omega)) rfl rfl ?_
    refine l_q rfl (q_loadC rfl Try.isAgg3 rfl (fun _ h => h.at 0 rfl) (tab_wt hm (k := k) (by omega) (by simp))) rfl rfl ?_
    refine l_q rfl (q_assign rfl rfl) rfl rfl ?_
    refine l_nil ?_
    refine k_then ?_
    refine c_ret ?_
    refine r_one rfl rfl ?_
    exact fun _ h => ⟨(), by rw [if_pos hi]; rfl, trivial, h⟩
  · refine enter (n := 15) (vs := [.pointer (some ⟨b, 0, none⟩), .int .i64 i]) (St w [b] [cellsE b 55 (tabC m)]) Try.func12 rfl rfl rfl (St.init hH) ?_
    refine c_seq ?_
    refine c_region _ rfl ?_
    refine l_q rfl (q_assign rfl rfl) rfl rfl ?_
    refine l_nil ?_
    refine k_then ?_
    refine c_seq ?_
    refine c_seq ?_
    refine c_region _ rfl ?_
    refine l_q rfl (q_move rfl rfl) rfl rfl ?_
    refine l_q rfl (q_move rfl rfl) rfl rfl ?_
    refine l_e rfl ?_
    refine e_call_11 (is_spec hm b i) rfl rfl rfl Try.call30 rfl (fun _ _ => trivial) ?_
    intro _ _
    refine l_q rfl (q_not rfl rfl) rfl rfl ?_
    refine l_nil ?_
    refine k_then ?_
    refine Pre.setB (t := 8) (c := true) rfl (by simp only [Bool.not_eq_true', decide_eq_false_iff_not]; exact hi) ?_
    refine c_true rfl ?_
    refine c_seq ?_
    refine c_region _ rfl ?_
    refine l_q rfl (q_assign rfl rfl) rfl rfl ?_
    refine l_nil ?_
    refine k_then ?_
    refine c_ret ?_
    refine k_then_ret ?_
    refine r_one rfl rfl ?_
    exact fun _ h => ⟨(), by rw [if_neg hi], trivial, h⟩
set_option maxRecDepth 100000 in
set_option maxHeartbeats 1000000 in
theorem worst_spec {m : Tab} {c : Int} (hm : m.Ok c) (b : Nat) : Con Try.prog 13 [.pointer (some ⟨b, 0, none⟩)] (fun _ => True) [cellsE b 55 (tabC m)] (fun _ : Unit => .int .i64 m.worst) (fun _ => True) (fun _ => [cellsE b 55 (tabC m)]) := by
  intro w hE hH
  refine enter (n := 7) (vs := [.pointer (some ⟨b, 0, none⟩)]) (St w [b] [cellsE b 55 (tabC m)]) Try.func13 rfl rfl rfl (St.init hH) ?_
  refine c_seq ?_
  refine c_region _ rfl ?_
  refine l_q rfl (q_assign rfl rfl) rfl rfl ?_
  refine l_nil ?_
  refine k_then ?_
  refine c_seq ?_
  refine c_region _ rfl ?_
  refine l_q rfl (q_move rfl rfl) rfl rfl ?_
  refine l_q rfl (q_nilCheck rfl rfl) rfl rfl ?_
  refine l_q rfl (q_fieldAddr rfl Try.underlying55 rfl Try.sizeOf3 rfl rfl) rfl rfl ?_
  refine l_q rfl (q_loadC rfl Try.isAgg3 rfl (fun _ h => h.at 0 rfl) (tab_worst hm rfl)) rfl rfl ?_
  refine l_q rfl (q_assign rfl rfl) rfl rfl ?_
  refine l_nil ?_
  refine k_then ?_
  refine c_ret ?_
  refine r_one rfl rfl ?_
  exact fun _ h => ⟨(), rfl, trivial, h⟩
end Go.Proofs.Ytjanmpghcigigaa
