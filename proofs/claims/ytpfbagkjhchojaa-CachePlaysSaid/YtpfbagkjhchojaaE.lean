/- cache: May, what is claimed, nodes, frames -/
import Derived.Test.YtpfbagkjhchojaaD
set_option linter.unusedVariables false
set_option linter.unusedSimpArgs false
namespace Go.Proofs.Ytpfbagkjhchojaa
open Go.Sep Go.RowKit

/-- A node's row of entries. -/
abbrev nrow (v : NV) : Ent := rowE v.e.v 121 En.enc v.l
theorem node_part (f : FC) : (f.c.drop 6).take 5 = f.nv.c := rfl
/-- The frames' nodes can be read. -/
def NR (w : World) (S : CS) : Prop := ∀ f ∈ S.fl, RdV w f.nv.e.v En.enc f.nv.l
theorem NR.keep {w0 w : World} {S : CS} {H : List Ent} (h : NR w0 S) (s : St w0 [] H w) : NR w S := fun f hf => (h f hf).keep s (by simp)
theorem node_some {M : Mo} {b : Int} {i : Nat} (h : M.frI b 2 = some i) : M.node b = (((M.at' i).leaf, (M.at' i).es), true) := by unfold Mo.node Mo.ready; rw [h]
theorem node_none {M : Mo} {b : Int} (h : M.frI b 2 = none) : M.node b = ((false, []), false) := by unfold Mo.node Mo.ready; rw [h]
theorem nv_eta (v : NV) : (⟨v.leaf, v.e, v.l⟩ : NV) = v := rfl

set_option maxRecDepth 100000 in
set_option maxHeartbeats 1000000 in
theorem maygo_spec {bc : Nat} {S : CS} {M : Mo} {B : Nat} (hR : Rel S M) (hO : M.Ok B) (t : Int) : Con Try.prog 13 [.pointer (some ⟨bc, 0, none⟩), .int .i64 t] (fun w => CR w bc S) [] (fun _ : Unit => .bool (M.may t)) (fun _ => True) (fun _ => []) := by
  intro w hC hH
  refine enter (n := 41) (vs := [.pointer (some ⟨bc, 0, none⟩), .int .i64 t]) (St w [] []) Try.func13 rfl rfl rfl (St.init hH) ?_
  refine c_seq ?_
  refine c_region _ rfl ?_
  refine l_q rfl (q_assign rfl rfl) rfl rfl ?_
  refine l_nil ?_
  refine k_then ?_
  refine c_seq ?_
  refine c_seq ?_
  refine c_region _ rfl ?_
  refine l_q rfl (q_move rfl rfl) rfl rfl ?_
  refine l_e rfl ?_
  refine e_call_00 (task_spec t) rfl rfl rfl Try.call43 rfl (fun _ _ => trivial) ?_
  intro _ _
  refine l_q rfl (q_not rfl rfl) rfl rfl ?_
  refine l_q rfl (q_move rfl rfl) rfl rfl ?_
  refine Pre.caseB 9 rfl (fun h1 => ?_) (fun h1 => ?_)
  · try simp only [Bool.not_eq_true', Bool.not_eq_false'] at h1
    refine l_not rfl rfl rfl ?_
    refine l_not rfl rfl rfl ?_
    refine l_not rfl rfl rfl ?_
    refine l_q rfl (q_pick_t rfl rfl rfl) rfl rfl ?_
    refine l_nil ?_
    refine k_then ?_
    refine c_true rfl ?_
    refine c_seq ?_
    refine c_region _ rfl ?_
    refine l_q rfl (q_assign rfl rfl) rfl rfl ?_
    refine l_nil ?_
    refine k_then ?_
    refine c_ret ?_
    refine k_then_ret ?_
    refine r_one rfl rfl ?_
    exact fun _ h => ⟨(), congrArg (fun z => Ending.returned (Value.bool z)) (by unfold Mo.may; rw [h1]; rfl), trivial, h.nothing⟩
  · try simp only [Bool.not_eq_true', Bool.not_eq_false'] at h1
    refine l_q rfl (q_move rfl rfl) rfl rfl ?_
    refine l_q rfl (q_move rfl rfl) rfl rfl ?_
    refine l_e rfl ?_
    refine e_call_00 (waits_spec hR hO t) rfl rfl rfl Try.call44 rfl (fun _ h => CR.keep hC h) ?_
    intro _ _
    refine l_q rfl (q_pick_f rfl rfl rfl) rfl rfl ?_
    refine l_nil ?_
    refine k_then ?_
    refine Pre.caseB 13 rfl (fun h2 => ?_) (fun h2 => ?_)
    · try simp only [Bool.not_eq_true', Bool.not_eq_false'] at h2
      refine c_true rfl ?_
      refine c_seq ?_
      refine c_region _ rfl ?_
      refine l_q rfl (q_assign rfl rfl) rfl rfl ?_
      refine l_nil ?_
      refine k_then ?_
      refine c_ret ?_
      refine k_then_ret ?_
      refine r_one rfl rfl ?_
      exact fun _ h => ⟨(), congrArg (fun z => Ending.returned (Value.bool z)) (by unfold Mo.may; rw [h1, h2]; rfl), trivial, h.nothing⟩
    · try simp only [Bool.not_eq_true', Bool.not_eq_false'] at h2
      refine c_false rfl ?_
      refine c_skip ?_
      refine k_then ?_
      refine c_seq ?_
      refine c_region _ rfl ?_
      refine l_q rfl (q_move rfl rfl) rfl rfl ?_
      refine l_q rfl (q_move rfl rfl) rfl rfl ?_
      refine l_e rfl ?_
      refine e_call_00 (stands_spec hR hO t) rfl rfl rfl Try.call45 rfl (fun _ h => CR.keep hC h) ?_
      intro _ _
      refine l_q rfl (q_assign rfl rfl) rfl rfl ?_
      refine l_nil ?_
      refine k_then ?_
      refine c_seq ?_
      refine opt_cases (M.stand t) (fun hs => ?_) (fun k hs => ?_)
      · refine Pre.setV (t := 5) (c := .int .i64 (-1)) rfl (by rw [hs]; rfl) ?_
        refine c_region _ rfl ?_
        refine l_q rfl (q_move rfl rfl) rfl rfl ?_
        refine l_q rfl (q_lss rfl rfl rfl) rfl rfl ?_
        refine l_q rfl (q_move rfl rfl) rfl rfl ?_
        refine Pre.setB (t := 19) (c := true) rfl (rfl) ?_
        refine l_not rfl rfl rfl ?_
        refine l_not rfl rfl rfl ?_
        refine l_not rfl rfl rfl ?_
        refine l_not rfl rfl rfl ?_
        refine l_not rfl rfl rfl ?_
        refine l_not rfl rfl rfl ?_
        refine l_not rfl rfl rfl ?_
        refine l_q rfl (q_pick_t rfl rfl rfl) rfl rfl ?_
        refine l_q rfl (q_move rfl rfl) rfl rfl ?_
        refine l_not rfl rfl rfl ?_
        refine l_not rfl rfl rfl ?_
        refine l_not rfl rfl rfl ?_
        refine l_not rfl rfl rfl ?_
        refine l_not rfl rfl rfl ?_
        refine l_not rfl rfl rfl ?_
        refine l_not rfl rfl rfl ?_
        refine l_not rfl rfl rfl ?_
        refine l_not rfl rfl rfl ?_
        refine l_not rfl rfl rfl ?_
        refine l_not rfl rfl rfl ?_
        refine l_q rfl (q_pick_t rfl rfl rfl) rfl rfl ?_
        refine l_q rfl (q_assign rfl rfl) rfl rfl ?_
        refine l_nil ?_
        refine k_then ?_
        refine c_ret ?_
        refine r_one rfl rfl ?_
        exact fun _ h => ⟨(), congrArg (fun z => Ending.returned (Value.bool z)) ((may_none h1 h2 hs).symm), trivial, h.nothing⟩
      · obtain ⟨q, hq, hqt⟩ := stand_at hs
        have hmy := may_some h1 h2 hs hq
        have hlk : S.ln[k]? = some (wn q) := by rw [hR.ln, List.getElem?_map, hq]; rfl
        have hlt := (List.getElem?_eq_some_iff.1 hlk).1
        refine Pre.setV (t := 5) (c := .int .i64 (k : Int)) rfl (by rw [hs]; rfl) ?_
        refine c_region _ rfl ?_
        refine l_q rfl (q_move rfl rfl) rfl rfl ?_
        refine l_q rfl (q_lss rfl rfl rfl) rfl rfl ?_
        refine l_q rfl (q_move rfl rfl) rfl rfl ?_
        refine Pre.setB (t := 19) (c := false) rfl (decide_eq_false (by omega)) ?_
        refine l_q rfl (q_move rfl rfl) rfl rfl ?_
        refine l_q rfl (q_eql rfl rfl rfl) rfl rfl ?_
        refine l_q rfl (q_move rfl rfl) rfl rfl ?_
        refine Pre.caseB 22 rfl (fun hk => ?_) (fun hk => ?_)
        · try simp only [decide_eq_true_eq, decide_eq_false_iff_not, Bool.not_eq_true', Bool.not_eq_false'] at hk
          refine l_q rfl (q_move rfl rfl) rfl rfl ?_
          refine l_e rfl ?_
          refine e_call_00 (freen_spec hR hO) rfl rfl rfl Try.call18 rfl (fun _ h => CR.keep hC h) ?_
          intro _ _
          refine l_q rfl (q_gtr rfl rfl rfl) rfl rfl ?_
          refine l_q rfl (q_pick_t rfl rfl rfl) rfl rfl ?_
          refine l_q rfl (q_pick_f rfl rfl rfl) rfl rfl ?_
          refine l_q rfl (q_move rfl rfl) rfl rfl ?_
          refine Pre.caseB 28 rfl (fun hfr => ?_) (fun hfr => ?_)
          · try simp only [decide_eq_true_eq, decide_eq_false_iff_not, Bool.not_eq_true', Bool.not_eq_false'] at hfr
            refine l_not rfl rfl rfl ?_
            refine l_not rfl rfl rfl ?_
            refine l_not rfl rfl rfl ?_
            refine l_not rfl rfl rfl ?_
            refine l_not rfl rfl rfl ?_
            refine l_not rfl rfl rfl ?_
            refine l_not rfl rfl rfl ?_
            refine l_not rfl rfl rfl ?_
            refine l_not rfl rfl rfl ?_
            refine l_not rfl rfl rfl ?_
            refine l_not rfl rfl rfl ?_
            refine l_q rfl (q_pick_t rfl rfl rfl) rfl rfl ?_
            refine l_q rfl (q_assign rfl rfl) rfl rfl ?_
            refine l_nil ?_
            refine k_then ?_
            refine c_ret ?_
            refine r_one rfl rfl ?_
            exact fun _ h => ⟨(), congrArg (fun z => Ending.returned (Value.bool z)) (by rw [hmy, decide_eq_true (show k = 0 by omega), decide_eq_true (show 0 < M.free by omega)]; rfl), trivial, h.nothing⟩
          · try simp only [decide_eq_true_eq, decide_eq_false_iff_not, Bool.not_eq_true', Bool.not_eq_false'] at hfr
            refine l_q rfl (q_move rfl rfl) rfl rfl ?_
            refine l_q rfl (q_move rfl rfl) rfl rfl ?_
            refine l_q rfl (q_nilCheck rfl rfl) rfl rfl ?_
            refine l_q rfl (q_fieldAddr rfl Try.underlying78 rfl Try.sizeOf76 rfl rfl) rfl rfl ?_
            refine l_q rfl (q_loadC rfl Try.isAgg76 rfl (fun _ h => (CR.keep hC h).c) rfl) rfl rfl ?_
            refine l_q rfl (q_move rfl rfl) rfl rfl ?_
            refine l_q rfl (q_indexV k rfl Try.underlying76 Try.sizeOf83 rfl (fun _ h => hC.l.keep h (by simp [dom])) rfl rfl (by omega)) rfl rfl ?_
            refine l_q rfl (q_fieldAddr rfl Try.underlying83 rfl Try.sizeOf3 rfl rfl) rfl rfl ?_
            refine l_q rfl (q_loadV k 1 rfl Try.isAgg3 rfl rfl (fun _ h => hC.l.keep h (by simp [dom])) hlk rfl) rfl rfl ?_
            refine l_e rfl ?_
            refine e_call_00 (place_spec hR hO q.2) rfl rfl rfl Try.call38 rfl (fun _ h => CR.keep hC h) ?_
            intro _ _
            refine l_q rfl (q_geq rfl rfl rfl) rfl rfl ?_
            refine l_q rfl (q_pick_f rfl rfl rfl) rfl rfl ?_
            refine l_q rfl (q_assign rfl rfl) rfl rfl ?_
            refine l_nil ?_
            refine k_then ?_
            refine c_ret ?_
            refine r_one rfl rfl ?_
            exact fun _ h => ⟨(), congrArg (fun z => Ending.returned (Value.bool z)) (by rw [hmy, io_ge]; first | rfl | (rw [show decide (k = 0) = false from decide_eq_false (by omega)]; rfl) | (rw [show decide (0 < M.free) = false from decide_eq_false (by omega), Bool.and_false]; rfl)), trivial, h.nothing⟩
        · try simp only [decide_eq_true_eq, decide_eq_false_iff_not, Bool.not_eq_true', Bool.not_eq_false'] at hk
          refine l_not rfl rfl rfl ?_
          refine l_not rfl rfl rfl ?_
          refine l_not rfl rfl rfl ?_
          refine l_q rfl (q_pick_f rfl rfl rfl) rfl rfl ?_
          refine l_q rfl (q_pick_f rfl rfl rfl) rfl rfl ?_
          refine l_q rfl (q_move rfl rfl) rfl rfl ?_
          refine l_q rfl (q_move rfl rfl) rfl rfl ?_
          refine l_q rfl (q_move rfl rfl) rfl rfl ?_
          refine l_q rfl (q_nilCheck rfl rfl) rfl rfl ?_
          refine l_q rfl (q_fieldAddr rfl Try.underlying78 rfl Try.sizeOf76 rfl rfl) rfl rfl ?_
          refine l_q rfl (q_loadC rfl Try.isAgg76 rfl (fun _ h => (CR.keep hC h).c) rfl) rfl rfl ?_
          refine l_q rfl (q_move rfl rfl) rfl rfl ?_
          refine l_q rfl (q_indexV k rfl Try.underlying76 Try.sizeOf83 rfl (fun _ h => hC.l.keep h (by simp [dom])) rfl rfl (by omega)) rfl rfl ?_
          refine l_q rfl (q_fieldAddr rfl Try.underlying83 rfl Try.sizeOf3 rfl rfl) rfl rfl ?_
          refine l_q rfl (q_loadV k 1 rfl Try.isAgg3 rfl rfl (fun _ h => hC.l.keep h (by simp [dom])) hlk rfl) rfl rfl ?_
          refine l_e rfl ?_
          refine e_call_00 (place_spec hR hO q.2) rfl rfl rfl Try.call38 rfl (fun _ h => CR.keep hC h) ?_
          intro _ _
          refine l_q rfl (q_geq rfl rfl rfl) rfl rfl ?_
          refine l_q rfl (q_pick_f rfl rfl rfl) rfl rfl ?_
          refine l_q rfl (q_assign rfl rfl) rfl rfl ?_
          refine l_nil ?_
          refine k_then ?_
          refine c_ret ?_
          refine r_one rfl rfl ?_
          exact fun _ h => ⟨(), congrArg (fun z => Ending.returned (Value.bool z)) (by rw [hmy, io_ge]; first | rfl | (rw [show decide (k = 0) = false from decide_eq_false (by omega)]; rfl) | (rw [show decide (0 < M.free) = false from decide_eq_false (by omega), Bool.and_false]; rfl)), trivial, h.nothing⟩
set_option maxRecDepth 100000 in
set_option maxHeartbeats 1000000 in
theorem claimed_spec {bc : Nat} {S : CS} {M : Mo} {B : Nat} (hR : Rel S M) (hO : M.Ok B) (t : Int) : Con Try.prog 50 [.pointer (some ⟨bc, 0, none⟩), .int .i64 t] (fun w => CR w bc S) [] (fun v : Value => v) (fun _ => True) (fun v => [rowE v 85 (encFp S.vF) (cls M t M.fr.length)]) := by
  intro w hC hH
  refine enter (n := 41) (vs := [.pointer (some ⟨bc, 0, none⟩), .int .i64 t]) (St w [] []) Try.func50 rfl rfl rfl (St.init hH) ?_
  refine c_seq ?_
  have hfl := hR.len
  have h64 := hO.n64
  refine c_region _ rfl ?_
  refine l_q rfl (q_assign rfl rfl) rfl rfl ?_
  refine l_nil ?_
  refine k_then ?_
  refine c_seq ?_
  refine c_region _ rfl ?_
  refine l_q rfl (q_assign rfl rfl) rfl rfl ?_
  refine l_nil ?_
  refine k_then ?_
  refine c_seq ?_
  refine c_seq ?_
  refine c_region _ rfl ?_
  refine l_q rfl (q_move rfl rfl) rfl rfl ?_
  refine l_q rfl (q_nilCheck rfl rfl) rfl rfl ?_
  refine l_q rfl (q_fieldAddr rfl Try.underlying78 rfl Try.sizeOf75 rfl rfl) rfl rfl ?_
  refine l_q rfl (q_loadC rfl Try.isAgg75 rfl (fun _ h => (CR.keep hC h).c) rfl) rfl rfl ?_
  refine l_q rfl (q_lenV rfl Try.underlying75 rfl (fun _ h => hC.f.keep h (by simp [dom]))) rfl rfl ?_
  refine l_q rfl (q_move rfl rfl) rfl rfl ?_
  refine l_nil ?_
  refine k_then ?_
  refine c_block ?_
  refine row0 85 (encFp S.vF) none ?_
  refine c_loop2 (fun (i : Nat) (v : Value) => [(0, .pointer (some ⟨bc, 0, none⟩)), (1, .int .i64 t), (5, v), (12, .int .i64 (S.fl.length : Int)), (13, .int .i64 (i : Int))]) (fun (i : Nat) (v : Value) => St w [] [rowE v 85 (encFp S.vF) (cls M t i)]) (fun (i : Nat) (v : Value) => i ≤ S.fl.length) (fun (i : Nat) (v : Value) => S.fl.length - i) (0) (.slice none 0 0) (Nat.zero_le _) (Sub.cons rfl (Sub.cons rfl (Sub.cons rfl (Sub.cons rfl (Sub.cons rfl (Sub.nil)))))) (fun _ h => h) ?_
  intro i v hi
  refine c_seq ?_
  have hcl := cls_len M t i
  refine c_region _ rfl ?_
  refine l_q rfl (q_lss rfl rfl rfl) rfl rfl ?_
  refine l_nil ?_
  refine k_then ?_
  refine c_seq ?_
  refine Pre.caseB 14 rfl (fun h1 => ?_) (fun h1 => ?_)
  · try simp only [decide_eq_true_eq, decide_eq_false_iff_not, Bool.not_eq_true', Bool.not_eq_false'] at h1
    obtain ⟨f, hfi⟩ : ∃ f, S.fl[i]? = some f := ⟨_, List.getElem?_eq_getElem (by omega)⟩
    have hv := hR.vw_at hfi
    have hcs := cls_succ M t i
    rw [at_eq hv, isC_vw] at hcs
    refine c_true rfl ?_
    refine c_skip ?_
    refine k_then ?_
    refine c_seq ?_
    refine c_block ?_
    refine c_seq ?_
    refine c_region _ rfl ?_
    refine l_q rfl (q_move rfl rfl) rfl rfl ?_
    refine l_q rfl (q_assign rfl rfl) rfl rfl ?_
    refine l_nil ?_
    refine k_then ?_
    refine c_seq ?_
    refine c_region _ rfl ?_
    refine l_q rfl (q_move rfl rfl) rfl rfl ?_
    refine l_q rfl (q_nilCheck rfl rfl) rfl rfl ?_
    refine l_q rfl (q_fieldAddr rfl Try.underlying78 rfl Try.sizeOf75 rfl rfl) rfl rfl ?_
    refine l_q rfl (q_loadC rfl Try.isAgg75 rfl (fun _ h => (CR.keep hC h).c) rfl) rfl rfl ?_
    refine l_q rfl (q_move rfl rfl) rfl rfl ?_
    refine l_q rfl (q_indexV i rfl Try.underlying75 Try.sizeOf80 rfl (fun _ h => hC.f.keep h (by simp [dom])) rfl rfl (by omega)) rfl rfl ?_
    refine l_q rfl (q_assign rfl rfl) rfl rfl ?_
    refine l_nil ?_
    refine k_then ?_
    refine c_seq ?_
    refine c_region _ rfl ?_
    refine l_q rfl (q_move rfl rfl) rfl rfl ?_
    refine l_q rfl (q_nilCheck rfl rfl) rfl rfl ?_
    refine l_q rfl (q_fieldAddr rfl Try.underlying80 rfl Try.sizeOf3 rfl rfl) rfl rfl ?_
    refine l_q rfl (q_loadV i 0 rfl Try.isAgg3 rfl rfl (fun _ h => hC.f.keep h (by simp [dom])) hfi rfl) rfl rfl ?_
    refine l_q rfl (q_eql rfl rfl rfl) rfl rfl ?_
    refine l_q rfl (q_move rfl rfl) rfl rfl ?_
    refine Pre.caseB 27 rfl (fun h2 => ?_) (fun h2 => ?_)
    · try simp only [decide_eq_true_eq, decide_eq_false_iff_not, Bool.not_eq_true', Bool.not_eq_false'] at h2
      refine l_q rfl (q_move rfl rfl) rfl rfl ?_
      refine l_q rfl (q_nilCheck rfl rfl) rfl rfl ?_
      refine l_q rfl (q_fieldAddr rfl Try.underlying80 rfl Try.sizeOf3 rfl rfl) rfl rfl ?_
      refine l_q rfl (q_loadV i 2 rfl Try.isAgg3 rfl rfl (fun _ h => hC.f.keep h (by simp [dom])) hfi rfl) rfl rfl ?_
      refine l_q rfl (q_move rfl rfl) rfl rfl ?_
      refine l_q rfl (q_eql rfl rfl rfl) rfl rfl ?_
      refine l_q rfl (q_pick_t rfl rfl rfl) rfl rfl ?_
      refine l_nil ?_
      refine k_then ?_
      refine Pre.caseB 34 rfl (fun h3 => ?_) (fun h3 => ?_)
      · try simp only [decide_eq_true_eq, decide_eq_false_iff_not, Bool.not_eq_true', Bool.not_eq_false'] at h3
        rw [decide_eq_true h2, decide_eq_true h3, Bool.and_self, if_pos rfl] at hcs
        refine c_true rfl ?_
        refine c_region _ rfl ?_
        refine l_q rfl (q_move rfl rfl) rfl rfl ?_
        refine l_q rfl (q_move rfl rfl) rfl rfl ?_
        refine l_e rfl ?_
        refine e_buildSliceV (sz := 1) [.tmp 36] rfl rfl rfl rfl rfl Try.underlying94 Try.sizeOf85 rfl Try.zeroValue85 rfl ?_
        intro b1
        refine pull1 ?_
        refine l_e rfl ?_
        refine e_append rfl rfl rfl Try.underlying94 Try.underlying94 info85 rfl rfl rfl rfl rfl (fun _ h => lit_rd (h.at 1 rfl) (encFp S.vF) [i] rfl rfl) (by simp only [byt85, List.length_append, List.length_cons, List.length_nil]; omega) (by simp only [List.length_append, List.length_cons, List.length_nil]; omega) ?_
        intro v2
        refine pull1 ?_
        refine drop0 ?_
        refine l_q rfl (q_assign rfl rfl) rfl rfl ?_
        refine l_nil ?_
        refine k_block ?_
        refine k_then ?_
        refine c_region _ rfl ?_
        refine l_q rfl (q_inc rfl rfl rfl (by omega)) rfl rfl ?_
        refine l_q rfl (q_move rfl rfl) rfl rfl ?_
        refine l_nil ?_
        exact k_round ((i + 1, v2)) (by dsimp only; omega) (by dsimp only; omega) (Sub.cons rfl (Sub.cons rfl (Sub.cons rfl (Sub.cons rfl (Sub.cons rfl (Sub.nil)))))) (fun _ h => by dsimp only; rw [hcs]; exact h)
      · try simp only [decide_eq_true_eq, decide_eq_false_iff_not, Bool.not_eq_true', Bool.not_eq_false'] at h3
        rw [decide_eq_true h2, decide_eq_false h3, Bool.and_false, if_neg (by decide)] at hcs
        refine c_false rfl ?_
        refine c_skip ?_
        refine k_block ?_
        refine k_then ?_
        refine c_region _ rfl ?_
        refine l_q rfl (q_inc rfl rfl rfl (by omega)) rfl rfl ?_
        refine l_q rfl (q_move rfl rfl) rfl rfl ?_
        refine l_nil ?_
        exact k_round ((i + 1, v)) (by dsimp only; omega) (by dsimp only; omega) (Sub.cons rfl (Sub.cons rfl (Sub.cons rfl (Sub.cons rfl (Sub.cons rfl (Sub.nil)))))) (fun _ h => by dsimp only; rw [hcs]; exact h)
    · try simp only [decide_eq_true_eq, decide_eq_false_iff_not, Bool.not_eq_true', Bool.not_eq_false'] at h2
      rw [decide_eq_false h2, Bool.false_and, if_neg (by decide)] at hcs
      refine l_not rfl rfl rfl ?_
      refine l_not rfl rfl rfl ?_
      refine l_not rfl rfl rfl ?_
      refine l_not rfl rfl rfl ?_
      refine l_not rfl rfl rfl ?_
      refine l_not rfl rfl rfl ?_
      refine l_q rfl (q_pick_f rfl rfl rfl) rfl rfl ?_
      refine l_nil ?_
      refine k_then ?_
      refine c_false rfl ?_
      refine c_skip ?_
      refine k_block ?_
      refine k_then ?_
      refine c_region _ rfl ?_
      refine l_q rfl (q_inc rfl rfl rfl (by omega)) rfl rfl ?_
      refine l_q rfl (q_move rfl rfl) rfl rfl ?_
      refine l_nil ?_
      exact k_round ((i + 1, v)) (by dsimp only; omega) (by dsimp only; omega) (Sub.cons rfl (Sub.cons rfl (Sub.cons rfl (Sub.cons rfl (Sub.cons rfl (Sub.nil)))))) (fun _ h => by dsimp only; rw [hcs]; exact h)
  · try simp only [decide_eq_true_eq, decide_eq_false_iff_not, Bool.not_eq_true', Bool.not_eq_false'] at h1
    have hie : i = M.fr.length := by omega
    subst hie
    refine c_false rfl ?_
    refine c_exit ?_
    refine k_then_exit ?_
    refine k_then_exit ?_
    refine k_block_exit ?_
    refine k_then ?_
    refine c_seq ?_
    refine c_region _ rfl ?_
    refine l_q rfl (q_move rfl rfl) rfl rfl ?_
    refine l_q rfl (q_assign rfl rfl) rfl rfl ?_
    refine l_nil ?_
    refine k_then ?_
    refine c_ret ?_
    refine r_one rfl rfl ?_
    exact fun _ h => ⟨v, rfl, trivial, h⟩
set_option maxRecDepth 100000 in
set_option maxHeartbeats 1000000 in
theorem own_spec (nv : NV) (hn : nv.l.length ≤ 65536) : Con Try.prog 47 [.agg nv.c.toArray] (fun w => RdV w nv.e.v En.enc nv.l) [] (fun s : Sv => .agg (⟨nv.leaf, s, nv.l⟩ : NV).c.toArray) (fun _ => True) (fun s => [rowE s.v 121 En.enc nv.l]) := by
  intro w hE hH
  refine enter (n := 20) (vs := [.agg nv.c.toArray]) (St w [] []) Try.func47 rfl rfl rfl (St.init hH) ?_
  refine c_seq ?_
  refine c_region _ rfl ?_
  refine l_e rfl ?_
  refine e_box rfl rfl rfl rfl ?_
  intro bn
  refine cells_eq (show _ = nv.c from rfl) ?_
  refine l_e rfl ?_
  refine e_alloc rfl rfl rfl Try.zeroValue37 ?_
  intro bo
  refine cells_eq (show _ = nv0.c from rfl) ?_
  refine l_nil ?_
  refine k_then ?_
  refine c_seq ?_
  refine c_draw [(0, some true), (1, some true), (3, some true), (4, some true), (6, some true), (7, some true), (9, some true), (10, some true), (2, some false), (12, some true), (5, some false), (8, some false), (11, some false), (13, none), (14, none), (15, none), (16, none), (17, none), (18, none), (19, none)] [13, 14, 15, 16, 17, 18, 19] [(_, some true), (_, some true), (_, some true), (_, some true), (_, some true), (_, some true), (_, some true), (_, some true), (_, some false), (_, some true), (_, some false), (_, some false), (_, some false), (_, none), (_, none), (_, none), (_, none), (_, none), (_, none), (_, none)] (fun w2 => (cellsE bn 37 nv.c).at w2) (blind_then blind_body) rfl (by kernel_rfl) (by kernel_rfl) rfl rfl rfl (by kernel_rfl) St.drawn (fun _ h => h.at 1 rfl) ?_
  refine d_q rfl (q_fieldAddr rfl Try.underlying37 rfl Try.sizeOf33 rfl rfl) rfl rfl ?_
  refine d_q rfl (q_loadC rfl Try.isAgg33 rfl (fun _ h => h) rfl) rfl rfl ?_
  refine d_q rfl (q_fieldAddr rfl Try.underlying37 rfl Try.sizeOf28 rfl rfl) rfl rfl ?_
  refine d_q rfl (q_loadC rfl Try.isAgg28 rfl (fun _ h => h) rfl) rfl rfl ?_
  refine d_q rfl (q_fieldAddr rfl Try.underlying37 rfl Try.sizeOf34 rfl rfl) rfl rfl ?_
  refine d_q rfl (q_loadC rfl Try.isAgg34 rfl (fun _ h => h) rfl) rfl rfl ?_
  refine d_q rfl (q_fieldAddr rfl Try.underlying37 rfl Try.sizeOf35 rfl rfl) rfl rfl ?_
  refine d_q rfl (q_loadC rfl Try.isAgg35 rfl (fun _ h => h) rfl) rfl rfl ?_
  refine d_e rfl ?_
  refine e_call_01 (clonee_spec nv.l hn) rfl rfl rfl Try.call73 rfl (fun _ h => hE.keep h (by simp [dom])) ?_
  intro ve _
  refine d_held (fun _ h => h.at 2 rfl) ?_
  refine d_q rfl (q_fieldAddr rfl Try.underlying37 rfl Try.sizeOf33 rfl rfl) rfl rfl ?_
  refine Pre.fact (fun _ h => rd_sv (h.rd 0 rfl)) ?_
  rintro ⟨s, rfl⟩
  refine d_e rfl ?_
  refine e_call_00 (clonei_nil) rfl rfl rfl Try.call74 rfl (fun _ _ => trivial) ?_
  intro _ _
  refine d_held (fun _ h => h.at 2 rfl) ?_
  refine d_e rfl ?_
  refine e_call_00 (clonek_nil) rfl rfl rfl Try.call75 rfl (fun _ _ => trivial) ?_
  intro _ _
  refine d_held (fun _ h => h.at 2 rfl) ?_
  refine d_e rfl ?_
  refine e_call_00 (clonem_nil) rfl rfl rfl Try.call76 rfl (fun _ _ => trivial) ?_
  intro _ _
  refine d_held (fun _ h => h.at 2 rfl) ?_
  refine pull2 ?_
  refine d_t rfl ?_
  refine e_store rfl rfl Try.sizeOf33 rfl rfl rfl (by show 1 < 5; decide) ?_
  refine cells_eq (show _ = (⟨nv.leaf, s, nv.l⟩ : NV).c from rfl) ?_
  refine d_t rfl ?_
  refine e_q rfl rfl (q_fieldAddr rfl Try.underlying37 rfl Try.sizeOf28 rfl rfl) ?_
  refine d_t rfl ?_
  refine e_store rfl rfl Try.sizeOf28 rfl rfl rfl (by show 2 < 5; decide) ?_
  refine cells_eq (show _ = (⟨nv.leaf, s, nv.l⟩ : NV).c from rfl) ?_
  refine d_t rfl ?_
  refine e_q rfl rfl (q_fieldAddr rfl Try.underlying37 rfl Try.sizeOf34 rfl rfl) ?_
  refine d_t rfl ?_
  refine e_store rfl rfl Try.sizeOf34 rfl rfl rfl (by show 3 < 5; decide) ?_
  refine cells_eq (show _ = (⟨nv.leaf, s, nv.l⟩ : NV).c from rfl) ?_
  refine d_t rfl ?_
  refine e_q rfl rfl (q_fieldAddr rfl Try.underlying37 rfl Try.sizeOf35 rfl rfl) ?_
  refine d_t rfl ?_
  refine e_store rfl rfl Try.sizeOf35 rfl rfl rfl (by show 4 < 5; decide) ?_
  refine cells_eq (show _ = (⟨nv.leaf, s, nv.l⟩ : NV).c from rfl) ?_
  refine d_nil ?_
  refine k_then ?_
  refine c_seq ?_
  refine c_region _ rfl ?_
  refine l_q rfl (q_loadCAgg ((⟨nv.leaf, s, nv.l⟩ : NV).c) rfl Try.isAgg37 Try.sizeOf37 rfl (fun _ h => h.at 0 rfl) (rfl) (rfl)) rfl rfl ?_
  refine pull2 ?_
  refine l_e rfl ?_
  refine e_storeAgg rfl rfl Try.sizeOf37 rfl rfl rfl (NV.one _) (by show 0 + 5 ≤ 5; decide) ?_
  refine cells_eq (show Sep.splice _ 0 (⟨nv.leaf, s, nv.l⟩ : NV).c = (⟨nv.leaf, s, nv.l⟩ : NV).c from Sep.splice_all rfl) ?_
  refine l_nil ?_
  refine k_then ?_
  refine c_ret ?_
  refine pull2 ?_
  refine r_res1 rfl (res_cellA rfl Try.isAgg37 Try.sizeOf37 (fun _ h => h.at 1 rfl) (rfl)) ?_
  exact fun _ h => ⟨s, rfl, trivial, h.sublist (List.cons_sublist_cons.2 (List.nil_sublist _))⟩
end Go.Proofs.Ytpfbagkjhchojaa
