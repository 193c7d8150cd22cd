/- clock: rows, Clone -/
import Derived.Test.YthjnfbpimcdndaaFx
import Derived.Test.YthjnfbpimcdndaaM
set_option linter.unusedVariables false
set_option linter.unusedSimpArgs false
namespace Go.Proofs.Ythjnfbpimcdndaa
open Go.Sep Go.RowKit

theorem gd {l : List Int} {k : Nat} (h : k < l.length) : l[k]? = some (l.getD k 0) := by simp [List.getD_eq_getElem?_getD, h]
theorem take_same {α : Type} {a b : List α} {k : Nat} {x y : α} (h : a.take k = b.take k) (hx : a[k]? = some x) (hy : b[k]? = some y) (e : x = y) : a.take (k + 1) = b.take (k + 1) := by
  subst e
  rw [List.take_add_one, List.take_add_one, hx, hy, h]

set_option maxRecDepth 100000 in
set_option maxHeartbeats 1000000 in
theorem sameints_spec {va vb : Value} (la lb : List Int) (hn : la.length ≤ 4611686018427387904) : Con Try.prog 12 [va, vb] (fun w => RdV w va (encI .i64) la ∧ RdV w vb (encI .i64) lb) [] (fun _ : Unit => .bool (decide (la = lb))) (fun _ => True) (fun _ => []) := by
  intro w hE hH
  obtain ⟨ha, hb⟩ := hE
  refine enter (n := 26) (vs := [va, vb]) (St w [] []) Try.func12 rfl rfl rfl (St.init hH) ?_
  refine c_seq ?_
  refine c_region _ rfl ?_
  refine l_q rfl (q_assign rfl rfl) rfl rfl ?_
  refine l_nil ?_
  refine k_then ?_
  refine c_seq ?_
  refine c_seq ?_
  refine c_region _ rfl ?_
  refine l_q rfl (q_move rfl rfl) rfl rfl ?_
  refine l_q rfl (q_lenV rfl Try.underlying28 rfl (fun _ h => ha.keep h (by simp [dom]))) rfl rfl ?_
  refine l_q rfl (q_move rfl rfl) rfl rfl ?_
  refine l_q rfl (q_lenV rfl Try.underlying28 rfl (fun _ h => hb.keep h (by simp [dom]))) rfl rfl ?_
  refine l_q rfl (q_neq rfl rfl rfl) rfl rfl ?_
  refine l_nil ?_
  refine k_then ?_
  refine Pre.caseB 10 rfl (fun hl => ?_) (fun hl => ?_)
  · simp only [decide_eq_true_eq, decide_eq_false_iff_not, Bool.not_eq_true', Bool.not_eq_false'] at hl
    refine c_true rfl ?_
    refine c_seq ?_
    refine c_region _ rfl ?_
    refine l_q rfl (q_assign rfl rfl) rfl rfl ?_
    refine l_nil ?_
    refine k_then ?_
    refine c_ret ?_
    refine k_then_ret ?_
    refine r_one rfl rfl ?_
    exact fun _ h => ⟨(), congrArg (fun z => Ending.returned (Value.bool z)) (decide_eq_false (fun e => hl (by rw [e]))).symm, trivial, h⟩
  · simp only [decide_eq_true_eq, decide_eq_false_iff_not, Bool.not_eq_true', Bool.not_eq_false'] at hl
    refine c_false rfl ?_
    refine c_skip ?_
    refine k_then ?_
    refine c_seq ?_
    refine c_seq ?_
    refine c_region _ rfl ?_
    refine l_q rfl (q_assign rfl rfl) rfl rfl ?_
    refine l_nil ?_
    refine k_then ?_
    refine c_block ?_
    refine c_loop1 (fun (k : Nat) => [(0, va), (1, vb), (5, .int .i64 (k : Int))]) (fun (k : Nat) => St w [] []) (fun (k : Nat) => k ≤ la.length ∧ la.take k = lb.take k) (fun (k : Nat) => la.length - k) (0) ⟨Nat.zero_le _, rfl⟩ (Sub.cons rfl (Sub.cons rfl (Sub.cons rfl (Sub.nil)))) (fun _ h => h) ?_
    intro k hk
    refine c_seq ?_
    refine c_seq ?_
    obtain ⟨hk, ht⟩ := hk
    refine c_region _ rfl ?_
    refine l_q rfl (q_move rfl rfl) rfl rfl ?_
    refine l_q rfl (q_move rfl rfl) rfl rfl ?_
    refine l_q rfl (q_lenV rfl Try.underlying28 rfl (fun _ h => ha.keep h (by simp [dom]))) rfl rfl ?_
    refine l_q rfl (q_lss rfl rfl rfl) rfl rfl ?_
    refine l_nil ?_
    refine k_then ?_
    refine Pre.caseB 14 rfl (fun hlt => ?_) (fun hlt => ?_)
    · simp only [decide_eq_true_eq, decide_eq_false_iff_not, Bool.not_eq_true', Bool.not_eq_false'] at hlt
      obtain ⟨x, hx⟩ : ∃ x, la[k]? = some x := ⟨_, List.getElem?_eq_getElem (by omega)⟩
      obtain ⟨y, hy⟩ : ∃ y, lb[k]? = some y := ⟨_, List.getElem?_eq_getElem (by omega)⟩
      refine c_true rfl ?_
      refine c_skip ?_
      refine k_then ?_
      refine c_seq ?_
      refine c_block ?_
      refine c_seq ?_
      refine c_draw [(0, some true), (1, some true), (2, some true), (3, some true), (4, some true), (5, some true), (6, some true), (7, some true), (8, some true)] [] [(_, some true), (_, some true), (_, some true), (_, some true), (_, some true), (_, some true), (_, some true), (_, some true), (_, some true)] _ (blind_then (blind_block (blind_then (blind_then (blind_block (blind_then blind_body)))))) rfl (by kernel_rfl) (by kernel_rfl) rfl rfl rfl (by kernel_rfl) St.drawn (fun _ h => h) ?_
      refine d_q rfl (q_move rfl rfl) rfl rfl ?_
      refine d_q rfl (q_move rfl rfl) rfl rfl ?_
      refine d_q rfl (q_indexV k rfl Try.underlying28 Try.sizeOf3 rfl (fun _ h => ha.keep h (by simp [dom])) rfl rfl (by omega)) rfl rfl ?_
      refine d_q rfl (q_loadV k 0 rfl Try.isAgg3 rfl rfl (fun _ h => ha.keep h (by simp [dom])) hx rfl) rfl rfl ?_
      refine d_q rfl (q_move rfl rfl) rfl rfl ?_
      refine d_q rfl (q_move rfl rfl) rfl rfl ?_
      refine d_q rfl (q_indexV k rfl Try.underlying28 Try.sizeOf3 rfl (fun _ h => hb.keep h (by simp [dom])) rfl rfl (by omega)) rfl rfl ?_
      refine d_q rfl (q_loadV k 0 rfl Try.isAgg3 rfl rfl (fun _ h => hb.keep h (by simp [dom])) hy rfl) rfl rfl ?_
      refine d_q rfl (q_neq rfl rfl rfl) rfl rfl ?_
      refine d_nil ?_
      refine k_then ?_
      refine Pre.caseB 25 rfl (fun hne => ?_) (fun hne => ?_)
      · simp only [decide_eq_true_eq, decide_eq_false_iff_not, Bool.not_eq_true', Bool.not_eq_false'] at hne
        refine c_true rfl ?_
        refine c_seq ?_
        refine c_region _ rfl ?_
        refine l_q rfl (q_assign rfl rfl) rfl rfl ?_
        refine l_nil ?_
        refine k_then ?_
        refine c_ret ?_
        refine k_block_ret ?_
        refine k_then_ret ?_
        refine k_then_ret ?_
        refine k_block_ret ?_
        refine k_then_ret ?_
        refine r_one rfl rfl ?_
        exact fun _ h => ⟨(), congrArg (fun z => Ending.returned (Value.bool z)) (decide_eq_false (fun e => hne (by rw [e, hy] at hx; exact (Option.some.inj hx).symm))).symm, trivial, h⟩
      · simp only [decide_eq_true_eq, decide_eq_false_iff_not, Bool.not_eq_true', Bool.not_eq_false'] at hne
        refine c_false rfl ?_
        refine c_skip ?_
        refine k_block ?_
        refine k_then ?_
        refine c_region _ rfl ?_
        refine l_q rfl (q_move rfl rfl) rfl rfl ?_
        refine l_q rfl (q_inc rfl rfl rfl (by omega)) rfl rfl ?_
        refine l_q rfl (q_assign rfl rfl) rfl rfl ?_
        refine l_nil ?_
        exact k_round (k + 1) (by omega) ⟨by omega, take_same ht hx hy hne⟩ (Sub.cons rfl (Sub.cons rfl (Sub.cons rfl (Sub.nil)))) (fun _ h => h)
    · simp only [decide_eq_true_eq, decide_eq_false_iff_not, Bool.not_eq_true', Bool.not_eq_false'] at hlt
      refine c_false rfl ?_
      refine c_exit ?_
      refine k_then_exit ?_
      refine k_then_exit ?_
      refine k_block_exit ?_
      refine k_then ?_
      refine c_seq ?_
      refine c_region _ rfl ?_
      refine l_q rfl (q_assign rfl rfl) rfl rfl ?_
      refine l_nil ?_
      refine k_then ?_
      refine c_ret ?_
      refine r_one rfl rfl ?_
      exact fun _ h => ⟨(), congrArg (fun z => Ending.returned (Value.bool z)) (decide_eq_true (by rw [List.take_of_length_le (by omega), List.take_of_length_le (by omega)] at ht; exact ht)).symm, trivial, h⟩
set_option maxRecDepth 100000 in
set_option maxHeartbeats 1000000 in
theorem same_spec {va vb : Value} (la lb : List Bool) (hn : la.length ≤ 4611686018427387904) : Con Try.prog 11 [va, vb] (fun w => RdV w va encB la ∧ RdV w vb encB lb) [] (fun _ : Unit => .bool (decide (la = lb))) (fun _ => True) (fun _ => []) := by
  intro w hE hH
  obtain ⟨ha, hb⟩ := hE
  refine enter (n := 26) (vs := [va, vb]) (St w [] []) Try.func11 rfl rfl rfl (St.init hH) ?_
  refine c_seq ?_
  refine c_region _ rfl ?_
  refine l_q rfl (q_assign rfl rfl) rfl rfl ?_
  refine l_nil ?_
  refine k_then ?_
  refine c_seq ?_
  refine c_seq ?_
  refine c_region _ rfl ?_
  refine l_q rfl (q_move rfl rfl) rfl rfl ?_
  refine l_q rfl (q_lenV rfl Try.underlying22 rfl (fun _ h => ha.keep h (by simp [dom]))) rfl rfl ?_
  refine l_q rfl (q_move rfl rfl) rfl rfl ?_
  refine l_q rfl (q_lenV rfl Try.underlying22 rfl (fun _ h => hb.keep h (by simp [dom]))) rfl rfl ?_
  refine l_q rfl (q_neq rfl rfl rfl) rfl rfl ?_
  refine l_nil ?_
  refine k_then ?_
  refine Pre.caseB 10 rfl (fun hl => ?_) (fun hl => ?_)
  · simp only [decide_eq_true_eq, decide_eq_false_iff_not, Bool.not_eq_true', Bool.not_eq_false'] at hl
    refine c_true rfl ?_
    refine c_seq ?_
    refine c_region _ rfl ?_
    refine l_q rfl (q_assign rfl rfl) rfl rfl ?_
    refine l_nil ?_
    refine k_then ?_
    refine c_ret ?_
    refine k_then_ret ?_
    refine r_one rfl rfl ?_
    exact fun _ h => ⟨(), congrArg (fun z => Ending.returned (Value.bool z)) (decide_eq_false (fun e => hl (by rw [e]))).symm, trivial, h⟩
  · simp only [decide_eq_true_eq, decide_eq_false_iff_not, Bool.not_eq_true', Bool.not_eq_false'] at hl
    refine c_false rfl ?_
    refine c_skip ?_
    refine k_then ?_
    refine c_seq ?_
    refine c_seq ?_
    refine c_region _ rfl ?_
    refine l_q rfl (q_assign rfl rfl) rfl rfl ?_
    refine l_nil ?_
    refine k_then ?_
    refine c_block ?_
    refine c_loop1 (fun (k : Nat) => [(0, va), (1, vb), (5, .int .i64 (k : Int))]) (fun (k : Nat) => St w [] []) (fun (k : Nat) => k ≤ la.length ∧ la.take k = lb.take k) (fun (k : Nat) => la.length - k) (0) ⟨Nat.zero_le _, rfl⟩ (Sub.cons rfl (Sub.cons rfl (Sub.cons rfl (Sub.nil)))) (fun _ h => h) ?_
    intro k hk
    refine c_seq ?_
    refine c_seq ?_
    obtain ⟨hk, ht⟩ := hk
    refine c_region _ rfl ?_
    refine l_q rfl (q_move rfl rfl) rfl rfl ?_
    refine l_q rfl (q_move rfl rfl) rfl rfl ?_
    refine l_q rfl (q_lenV rfl Try.underlying22 rfl (fun _ h => ha.keep h (by simp [dom]))) rfl rfl ?_
    refine l_q rfl (q_lss rfl rfl rfl) rfl rfl ?_
    refine l_nil ?_
    refine k_then ?_
    refine Pre.caseB 14 rfl (fun hlt => ?_) (fun hlt => ?_)
    · simp only [decide_eq_true_eq, decide_eq_false_iff_not, Bool.not_eq_true', Bool.not_eq_false'] at hlt
      obtain ⟨x, hx⟩ : ∃ x, la[k]? = some x := ⟨_, List.getElem?_eq_getElem (by omega)⟩
      obtain ⟨y, hy⟩ : ∃ y, lb[k]? = some y := ⟨_, List.getElem?_eq_getElem (by omega)⟩
      refine c_true rfl ?_
      refine c_skip ?_
      refine k_then ?_
      refine c_seq ?_
      refine c_block ?_
      refine c_seq ?_
      refine c_draw [(0, some true), (1, some true), (2, some true), (3, some true), (4, some true), (5, some true), (6, some true), (7, some true), (8, some true)] [] [(_, some true), (_, some true), (_, some true), (_, some true), (_, some true), (_, some true), (_, some true), (_, some true), (_, some true)] _ (blind_then (blind_block (blind_then (blind_then (blind_block (blind_then blind_body)))))) rfl (by kernel_rfl) (by kernel_rfl) rfl rfl rfl (by kernel_rfl) St.drawn (fun _ h => h) ?_
      refine d_q rfl (q_move rfl rfl) rfl rfl ?_
      refine d_q rfl (q_move rfl rfl) rfl rfl ?_
      refine d_q rfl (q_indexV k rfl Try.underlying22 Try.sizeOf4 rfl (fun _ h => ha.keep h (by simp [dom])) rfl rfl (by omega)) rfl rfl ?_
      refine d_q rfl (q_loadV k 0 rfl Try.isAgg4 rfl rfl (fun _ h => ha.keep h (by simp [dom])) hx rfl) rfl rfl ?_
      refine d_q rfl (q_move rfl rfl) rfl rfl ?_
      refine d_q rfl (q_move rfl rfl) rfl rfl ?_
      refine d_q rfl (q_indexV k rfl Try.underlying22 Try.sizeOf4 rfl (fun _ h => hb.keep h (by simp [dom])) rfl rfl (by omega)) rfl rfl ?_
      refine d_q rfl (q_loadV k 0 rfl Try.isAgg4 rfl rfl (fun _ h => hb.keep h (by simp [dom])) hy rfl) rfl rfl ?_
      refine d_q rfl (q_neb rfl Try.underlying4 rfl rfl) rfl rfl ?_
      refine d_nil ?_
      refine k_then ?_
      refine Pre.caseB 25 rfl (fun hne => ?_) (fun hne => ?_)
      · simp only [Bool.not_eq_true', Bool.not_eq_false', beq_iff_eq, beq_eq_false_iff_ne, ne_eq] at hne
        refine c_true rfl ?_
        refine c_seq ?_
        refine c_region _ rfl ?_
        refine l_q rfl (q_assign rfl rfl) rfl rfl ?_
        refine l_nil ?_
        refine k_then ?_
        refine c_ret ?_
        refine k_block_ret ?_
        refine k_then_ret ?_
        refine k_then_ret ?_
        refine k_block_ret ?_
        refine k_then_ret ?_
        refine r_one rfl rfl ?_
        exact fun _ h => ⟨(), congrArg (fun z => Ending.returned (Value.bool z)) (decide_eq_false (fun e => hne (by rw [e, hy] at hx; exact (Option.some.inj hx).symm))).symm, trivial, h⟩
      · simp only [Bool.not_eq_true', Bool.not_eq_false', beq_iff_eq, beq_eq_false_iff_ne, ne_eq] at hne
        refine c_false rfl ?_
        refine c_skip ?_
        refine k_block ?_
        refine k_then ?_
        refine c_region _ rfl ?_
        refine l_q rfl (q_move rfl rfl) rfl rfl ?_
        refine l_q rfl (q_inc rfl rfl rfl (by omega)) rfl rfl ?_
        refine l_q rfl (q_assign rfl rfl) rfl rfl ?_
        refine l_nil ?_
        exact k_round (k + 1) (by omega) ⟨by omega, take_same ht hx hy hne⟩ (Sub.cons rfl (Sub.cons rfl (Sub.cons rfl (Sub.nil)))) (fun _ h => h)
    · simp only [decide_eq_true_eq, decide_eq_false_iff_not, Bool.not_eq_true', Bool.not_eq_false'] at hlt
      refine c_false rfl ?_
      refine c_exit ?_
      refine k_then_exit ?_
      refine k_then_exit ?_
      refine k_block_exit ?_
      refine k_then ?_
      refine c_seq ?_
      refine c_region _ rfl ?_
      refine l_q rfl (q_assign rfl rfl) rfl rfl ?_
      refine l_nil ?_
      refine k_then ?_
      refine c_ret ?_
      refine r_one rfl rfl ?_
      exact fun _ h => ⟨(), congrArg (fun z => Ending.returned (Value.bool z)) (decide_eq_true (by rw [List.take_of_length_le (by omega), List.take_of_length_le (by omega)] at ht; exact ht)).symm, trivial, h⟩
set_option maxRecDepth 100000 in
set_option maxHeartbeats 1000000 in
theorem clone_spec {va : Value} (l : List Bool) (hn : l.length ≤ 65536) : Con Try.prog 18 [va] (fun w => RdV w va encB l) [] (fun v : Value => v) (fun _ => True) (fun v => [rowE v 4 encB l]) := by
  intro w hl hH
  obtain ⟨a, c, rfl⟩ := rd_sl hl
  refine enter (n := 8) (vs := [.slice a l.length c]) (St w [] []) Try.func18 rfl rfl rfl (St.init hH) ?_
  refine c_seq ?_
  refine c_region _ rfl ?_
  refine l_q rfl (q_assign rfl rfl) rfl rfl ?_
  refine l_nil ?_
  refine k_then ?_
  refine c_seq ?_
  refine c_seq ?_
  refine c_region _ rfl ?_
  refine l_q rfl (q_move rfl rfl) rfl rfl ?_
  refine l_q rfl (q_eqsl rfl Try.underlying22 rfl rfl) rfl rfl ?_
  refine l_nil ?_
  refine k_then ?_
  refine Pre.caseB 4 rfl (fun hn => ?_) (fun hn => ?_)
  · rw [Option.isNone_iff_eq_none] at hn
    subst hn
    have hl0 := rd_none hl
    subst hl0
    refine c_true rfl ?_
    refine c_seq ?_
    refine c_region _ rfl ?_
    refine l_q rfl (q_assign rfl rfl) rfl rfl ?_
    refine l_nil ?_
    refine k_then ?_
    refine c_ret ?_
    refine k_then_ret ?_
    refine row0 4 encB none ?_
    refine r_one rfl rfl ?_
    exact fun _ h => ⟨_, rfl, trivial, h⟩
  · refine c_false rfl ?_
    refine c_skip ?_
    refine k_then ?_
    refine c_seq ?_
    refine c_region _ rfl ?_
    refine l_e rfl ?_
    refine e_buildSliceV (sz := 1) [] rfl rfl rfl rfl rfl Try.underlying22 Try.sizeOf4 rfl Try.zeroValue4 rfl ?_
    intro b
    refine rowLit encB [] rfl rfl ?_
    refine l_q rfl (q_move rfl rfl) rfl rfl ?_
    refine l_e rfl ?_
    refine e_append rfl rfl rfl Try.underlying22 Try.underlying22 info4 rfl rfl rfl rfl rfl (fun _ h => hl.keep h (by simp)) (by simp only [byt4, List.length_append, List.length_cons, List.length_nil]; omega) (by simp only [List.length_append, List.length_cons, List.length_nil]; omega) ?_
    intro v
    refine l_q rfl (q_assign rfl rfl) rfl rfl ?_
    refine l_nil ?_
    refine k_then ?_
    refine c_ret ?_
    rw [List.nil_append]
    refine r_one rfl rfl ?_
    exact fun _ h => ⟨v, rfl, trivial, h⟩
end Go.Proofs.Ythjnfbpimcdndaa
