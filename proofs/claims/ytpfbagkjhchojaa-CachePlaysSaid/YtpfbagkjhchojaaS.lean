/- the reference cache: May, Node, Frames, takes; nodes and frames held against each other -/
import Derived.Test.YtpfbagkjhchojaaR
set_option linter.unusedVariables false
set_option linter.unusedSimpArgs false
namespace Go.Proofs.Ytpfbagkjhchojaa
open Go.Sep Go.RowKit

theorem takes_free {M : Mo} {t : Int} : M.takes t = if M.turn t = true then M.freeI else none := rfl
theorem free_pos {M : Mo} : decide (0 < M.free) = M.freeI.isSome := by
  unfold Mo.free Mo.freeI fst1
  rw [List.findIdx?_isSome, Bool.eq_iff_iff, decide_eq_true_eq, List.any_eq_true]
  exact List.countP_pos_iff
theorem tk_some {M : Mo} {t b : Int} {k : Nat} (h : M.takes t = some k) : M.tk t b = M.leave t := by unfold Mo.tk; rw [h]; rfl
theorem tk_none {M : Mo} {t b : Int} (h : M.takes t = none) : M.tk t b = M.ask t b := by unfold Mo.tk; rw [h]; rfl
theorem tk_fr (M : Mo) (t b : Int) : (M.tk t b).fr = M.fr := by unfold Mo.tk; split <;> rfl
theorem tk_hand (M : Mo) (t b : Int) : (M.tk t b).hand = M.hand := by unfold Mo.tk; split <;> rfl
theorem tk_loads (M : Mo) (t b : Int) : (M.tk t b).loads = M.loads := by unfold Mo.tk; split <;> rfl
theorem nodeR_part (f : FC) : (f.cR.drop 5).take 5 = f.nv.c := rfl
theorem set_nodeR (f : FC) (nv : NV) : Sep.splice f.cR 5 nv.c = ({ f with nv := nv } : FC).cR := rfl
theorem may_k {M : Mo} {t : Int} {k : Nat} {q : Int × Int} (h1 : tkB t = true) (h2 : M.waits t = false) (h : M.stand t = some k) (hq : M.line[k]? = some q) : M.may t = ((decide (k = 0) && M.freeI.isSome) || (M.find q.2).isSome) := by rw [may_some h1 h2 h hq, free_pos]
theorem find_neg {M : Mo} {B : Nat} (hO : M.Ok B) {b : Int} (h : b < 0) : M.find b = none := by
  cases hf : M.find b with
  | none => rfl
  | some i => have := find_bk hO hf; unfold bkB at this; simp at this; omega
/-- The frames' nodes can be read. -/
def NRr (w : World) (R : RS) : Prop := ∀ f ∈ R.fl, RdV w f.nv.e.v En.enc f.nv.l
theorem same_nd {a b : NV} : (decide (a.leaf = b.leaf) && decide (a.l = b.l)) = decide (a.leaf = b.leaf ∧ a.l = b.l) := by by_cases h : a.leaf = b.leaf <;> by_cases h2 : a.l = b.l <;> simp [h, h2]

set_option maxRecDepth 100000 in
set_option maxHeartbeats 1000000 in
theorem rmay_spec {br : Nat} {R : RS} {M : Mo} {B : Nat} (hR : RelR R M) (hO : M.Ok B) (t : Int) : Con Try.prog 64 [.pointer (some ⟨br, 0, none⟩), .int .i64 t] (fun w => RC w br R M) [] (fun _ : Unit => .bool (M.may t)) (fun _ => True) (fun _ => []) := by
  intro w hE hH
  have hC := hE
  refine enter (n := 59) (vs := [.pointer (some ⟨br, 0, none⟩), .int .i64 t]) (St w [] []) Try.func64 rfl rfl rfl (St.init hH) ?_
  refine c_seq ?_
  have hfl := hR.len
  have h64 := hO.n64
  have hB9 := hO.B9
  have hlB := hO.lB
  have hlL := hO.ll
  refine c_region _ rfl ?_
  refine l_q rfl (q_assign rfl rfl) rfl rfl ?_
  refine l_nil ?_
  refine k_then ?_
  refine c_seq ?_
  refine c_seq ?_
  refine c_region _ rfl ?_
  refine l_q rfl (q_move rfl rfl) rfl rfl ?_
  refine l_e rfl ?_
  refine e_call_00 (rtask_spec t) rfl rfl rfl Try.call84 rfl (fun _ _ => trivial) ?_
  intro _ _
  refine l_q rfl (q_not rfl rfl) rfl rfl ?_
  refine l_q rfl (q_move rfl rfl) rfl rfl ?_
  refine Pre.caseB 9 rfl (fun h1 => ?_) (fun h1 => ?_)
  · try simp only [Bool.not_eq_true', Bool.not_eq_false'] at h1
    refine l_not rfl rfl rfl ?_
    refine l_not rfl rfl rfl ?_
    refine l_not rfl rfl rfl ?_
    refine l_not rfl rfl rfl ?_
    refine l_not rfl rfl rfl ?_
    refine l_not rfl rfl rfl ?_
    refine l_not rfl rfl rfl ?_
    refine l_q rfl (q_pick_t rfl rfl rfl) rfl rfl ?_
    refine l_nil ?_
    refine k_then ?_
    refine c_true rfl ?_
    refine c_seq ?_
    refine c_region _ rfl ?_
    refine l_q rfl (q_assign rfl rfl) rfl rfl ?_
    refine l_nil ?_
    refine k_then ?_
    refine c_ret ?_
    refine k_then_ret ?_
    refine r_one rfl rfl ?_
    exact fun _ h => ⟨(), congrArg (fun z => Ending.returned (Value.bool z)) (by unfold Mo.may; rw [h1]; rfl), trivial, h.nothing⟩
  · try simp only [Bool.not_eq_true', Bool.not_eq_false'] at h1
    refine l_q rfl (q_move rfl rfl) rfl rfl ?_
    refine l_q rfl (q_nilCheck rfl rfl) rfl rfl ?_
    refine l_q rfl (q_fieldAddr rfl Try.underlying100 rfl Try.sizeOf98 rfl rfl) rfl rfl ?_
    refine l_q rfl (q_loadC rfl Try.isAgg98 rfl (fun _ h => (RC.keep hC h).c) rfl) rfl rfl ?_
    refine l_q rfl (q_move rfl rfl) rfl rfl ?_
    refine l_e rfl ?_
    refine e_call_00 (rat_spec M.loads t (by omega)) rfl rfl rfl Try.call86 rfl (fun _ h => (RC.keep hC h).o) ?_
    intro _ _
    refine l_q rfl (q_geq rfl rfl rfl) rfl rfl ?_
    refine l_q rfl (q_pick_f rfl rfl rfl) rfl rfl ?_
    refine l_nil ?_
    refine k_then ?_
    refine Pre.caseB 17 rfl (fun h2 => ?_) (fun h2 => ?_)
    · try simp only [io_ge, waits_at, decide_eq_true_eq] at h2
      have h3 : M.waits t = true := h2
      refine c_true rfl ?_
      refine c_seq ?_
      refine c_region _ rfl ?_
      refine l_q rfl (q_assign rfl rfl) rfl rfl ?_
      refine l_nil ?_
      refine k_then ?_
      refine c_ret ?_
      refine k_then_ret ?_
      refine r_one rfl rfl ?_
      exact fun _ h => ⟨(), congrArg (fun z => Ending.returned (Value.bool z)) (by unfold Mo.may; rw [h1, h3]; rfl), trivial, h.nothing⟩
    · try simp only [io_ge, waits_at, decide_eq_true_eq] at h2
      have h3 : M.waits t = false := h2
      refine c_false rfl ?_
      refine c_skip ?_
      refine k_then ?_
      refine c_seq ?_
      refine c_region _ rfl ?_
      refine l_q rfl (q_move rfl rfl) rfl rfl ?_
      refine l_q rfl (q_nilCheck rfl rfl) rfl rfl ?_
      refine l_q rfl (q_fieldAddr rfl Try.underlying100 rfl Try.sizeOf98 rfl rfl) rfl rfl ?_
      refine l_q rfl (q_loadC rfl Try.isAgg98 rfl (fun _ h => (RC.keep hC h).c) rfl) rfl rfl ?_
      refine l_q rfl (q_move rfl rfl) rfl rfl ?_
      refine l_e rfl ?_
      refine e_call_00 (rat_spec M.line t (by omega)) rfl rfl rfl Try.call86 rfl (fun _ h => (RC.keep hC h).l) ?_
      intro _ _
      refine l_q rfl (q_assign rfl rfl) rfl rfl ?_
      refine l_nil ?_
      refine k_then ?_
      refine c_seq ?_
      refine opt_cases (M.stand t) (fun hs => ?_) (fun k hs => ?_)
      · refine Pre.setV (t := 5) (c := .int .i64 (-1)) rfl (by rw [show fst1 (isT t) M.line = none from hs]; rfl) ?_
        refine c_region _ rfl ?_
        refine l_q rfl (q_move rfl rfl) rfl rfl ?_
        refine l_q rfl (q_lss rfl rfl rfl) rfl rfl ?_
        refine l_q rfl (q_move rfl rfl) rfl rfl ?_
        refine Pre.setB (t := 26) (c := true) rfl (rfl) ?_
        refine l_not rfl rfl rfl ?_
        refine l_not rfl rfl rfl ?_
        refine l_not rfl rfl rfl ?_
        refine l_not rfl rfl rfl ?_
        refine l_not rfl rfl rfl ?_
        refine l_not rfl rfl rfl ?_
        refine l_not rfl rfl rfl ?_
        refine l_q rfl (q_pick_t rfl rfl rfl) rfl rfl ?_
        refine l_q rfl (q_move rfl rfl) rfl rfl ?_
        refine l_not rfl rfl rfl ?_
        refine l_not rfl rfl rfl ?_
        refine l_not rfl rfl rfl ?_
        refine l_not rfl rfl rfl ?_
        refine l_not rfl rfl rfl ?_
        refine l_not rfl rfl rfl ?_
        refine l_not rfl rfl rfl ?_
        refine l_not rfl rfl rfl ?_
        refine l_not rfl rfl rfl ?_
        refine l_not rfl rfl rfl ?_
        refine l_not rfl rfl rfl ?_
        refine l_not rfl rfl rfl ?_
        refine l_not rfl rfl rfl ?_
        refine l_not rfl rfl rfl ?_
        refine l_not rfl rfl rfl ?_
        refine l_not rfl rfl rfl ?_
        refine l_not rfl rfl rfl ?_
        refine l_not rfl rfl rfl ?_
        refine l_not rfl rfl rfl ?_
        refine l_not rfl rfl rfl ?_
        refine l_not rfl rfl rfl ?_
        refine l_not rfl rfl rfl ?_
        refine l_q rfl (q_pick_t rfl rfl rfl) rfl rfl ?_
        refine l_q rfl (q_assign rfl rfl) rfl rfl ?_
        refine l_nil ?_
        refine k_then ?_
        refine c_ret ?_
        refine r_one rfl rfl ?_
        exact fun _ h => ⟨(), congrArg (fun z => Ending.returned (Value.bool z)) ((may_none h1 h3 hs).symm), trivial, h.nothing⟩
      · obtain ⟨q, hq, hqt⟩ := stand_at hs
        have hmy := may_k h1 h3 hs hq
        have hlt := (List.getElem?_eq_some_iff.1 hq).1
        refine Pre.setV (t := 5) (c := .int .i64 (k : Int)) rfl (by rw [show fst1 (isT t) M.line = some k from hs]; rfl) ?_
        refine c_region _ rfl ?_
        refine l_q rfl (q_move rfl rfl) rfl rfl ?_
        refine l_q rfl (q_lss rfl rfl rfl) rfl rfl ?_
        refine l_q rfl (q_move rfl rfl) rfl rfl ?_
        refine Pre.setB (t := 26) (c := false) rfl (decide_eq_false (by omega)) ?_
        refine l_q rfl (q_move rfl rfl) rfl rfl ?_
        refine l_q rfl (q_eql rfl rfl rfl) rfl rfl ?_
        refine l_q rfl (q_move rfl rfl) rfl rfl ?_
        refine Pre.caseB 29 rfl (fun hk => ?_) (fun hk => ?_)
        · try simp only [decide_eq_true_eq, decide_eq_false_iff_not, Bool.not_eq_true', Bool.not_eq_false'] at hk
          refine l_q rfl (q_move rfl rfl) rfl rfl ?_
          refine l_e rfl ?_
          refine e_call_00 (rfreei_spec hR hO) rfl rfl rfl Try.call90 rfl (fun _ h => RC.keep hC h) ?_
          intro _ _
          refine l_q rfl (q_geq rfl rfl rfl) rfl rfl ?_
          refine l_q rfl (q_pick_t rfl rfl rfl) rfl rfl ?_
          refine l_q rfl (q_pick_f rfl rfl rfl) rfl rfl ?_
          refine l_q rfl (q_move rfl rfl) rfl rfl ?_
          refine Pre.caseB 35 rfl (fun hfr => ?_) (fun hfr => ?_)
          · rw [io_ge] at hfr
            refine l_not rfl rfl rfl ?_
            refine l_not rfl rfl rfl ?_
            refine l_not rfl rfl rfl ?_
            refine l_not rfl rfl rfl ?_
            refine l_not rfl rfl rfl ?_
            refine l_not rfl rfl rfl ?_
            refine l_not rfl rfl rfl ?_
            refine l_not rfl rfl rfl ?_
            refine l_not rfl rfl rfl ?_
            refine l_not rfl rfl rfl ?_
            refine l_not rfl rfl rfl ?_
            refine l_not rfl rfl rfl ?_
            refine l_not rfl rfl rfl ?_
            refine l_not rfl rfl rfl ?_
            refine l_not rfl rfl rfl ?_
            refine l_not rfl rfl rfl ?_
            refine l_not rfl rfl rfl ?_
            refine l_not rfl rfl rfl ?_
            refine l_not rfl rfl rfl ?_
            refine l_not rfl rfl rfl ?_
            refine l_not rfl rfl rfl ?_
            refine l_not rfl rfl rfl ?_
            refine l_q rfl (q_pick_t rfl rfl rfl) rfl rfl ?_
            refine l_q rfl (q_assign rfl rfl) rfl rfl ?_
            refine l_nil ?_
            refine k_then ?_
            refine c_ret ?_
            refine r_one rfl rfl ?_
            exact fun _ h => ⟨(), congrArg (fun z => Ending.returned (Value.bool z)) (by rw [hmy, decide_eq_true (show k = 0 by omega), hfr]; rfl), trivial, h.nothing⟩
          · rw [io_ge] at hfr
            refine l_q rfl (q_move rfl rfl) rfl rfl ?_
            refine l_q rfl (q_nilCheck rfl rfl) rfl rfl ?_
            refine l_q rfl (q_fieldAddr rfl Try.underlying100 rfl Try.sizeOf98 rfl rfl) rfl rfl ?_
            refine l_q rfl (q_loadC rfl Try.isAgg98 rfl (fun _ h => (RC.keep hC h).c) rfl) rfl rfl ?_
            refine l_q rfl (q_move rfl rfl) rfl rfl ?_
            refine l_q rfl (q_indexV k rfl Try.underlying98 Try.sizeOf138 rfl (fun _ h => hC.l.keep h (by simp [dom])) rfl rfl (by omega)) rfl rfl ?_
            refine l_q rfl (q_fieldAddr rfl Try.underlying138 rfl Try.sizeOf3 rfl rfl) rfl rfl ?_
            refine l_q rfl (q_loadV k 1 rfl Try.isAgg3 rfl rfl (fun _ h => hC.l.keep h (by simp [dom])) hq rfl) rfl rfl ?_
            refine l_q rfl (q_geq rfl rfl rfl) rfl rfl ?_
            refine l_q rfl (q_move rfl rfl) rfl rfl ?_
            refine Pre.caseB 45 rfl (fun hb => ?_) (fun hb => ?_)
            · try simp only [decide_eq_true_eq, decide_eq_false_iff_not, Bool.not_eq_true', Bool.not_eq_false'] at hb
              refine l_q rfl (q_move rfl rfl) rfl rfl ?_
              refine l_q rfl (q_move rfl rfl) rfl rfl ?_
              refine l_q rfl (q_nilCheck rfl rfl) rfl rfl ?_
              refine l_q rfl (q_fieldAddr rfl Try.underlying100 rfl Try.sizeOf98 rfl rfl) rfl rfl ?_
              refine l_q rfl (q_loadC rfl Try.isAgg98 rfl (fun _ h => (RC.keep hC h).c) rfl) rfl rfl ?_
              refine l_q rfl (q_move rfl rfl) rfl rfl ?_
              refine l_q rfl (q_indexV k rfl Try.underlying98 Try.sizeOf138 rfl (fun _ h => hC.l.keep h (by simp [dom])) rfl rfl (by omega)) rfl rfl ?_
              refine l_q rfl (q_fieldAddr rfl Try.underlying138 rfl Try.sizeOf3 rfl rfl) rfl rfl ?_
              refine l_q rfl (q_loadV k 1 rfl Try.isAgg3 rfl rfl (fun _ h => hC.l.keep h (by simp [dom])) hq rfl) rfl rfl ?_
              refine l_e rfl ?_
              refine e_call_00 (rfind_spec hR hO q.2) rfl rfl rfl Try.call87 rfl (fun _ h => RC.keep hC h) ?_
              intro _ _
              refine l_q rfl (q_geq rfl rfl rfl) rfl rfl ?_
              refine l_q rfl (q_pick_t rfl rfl rfl) rfl rfl ?_
              refine l_q rfl (q_pick_f rfl rfl rfl) rfl rfl ?_
              refine l_q rfl (q_assign rfl rfl) rfl rfl ?_
              refine l_nil ?_
              refine k_then ?_
              refine c_ret ?_
              refine r_one rfl rfl ?_
              exact fun _ h => ⟨(), congrArg (fun z => Ending.returned (Value.bool z)) (by rw [hmy, io_ge, hfr, Bool.and_false]; first | rfl | simp), trivial, h.nothing⟩
            · try simp only [decide_eq_true_eq, decide_eq_false_iff_not, Bool.not_eq_true', Bool.not_eq_false'] at hb
              refine l_not rfl rfl rfl ?_
              refine l_not rfl rfl rfl ?_
              refine l_not rfl rfl rfl ?_
              refine l_not rfl rfl rfl ?_
              refine l_not rfl rfl rfl ?_
              refine l_not rfl rfl rfl ?_
              refine l_not rfl rfl rfl ?_
              refine l_not rfl rfl rfl ?_
              refine l_not rfl rfl rfl ?_
              refine l_not rfl rfl rfl ?_
              refine l_not rfl rfl rfl ?_
              refine l_q rfl (q_pick_f rfl rfl rfl) rfl rfl ?_
              refine l_q rfl (q_pick_f rfl rfl rfl) rfl rfl ?_
              refine l_q rfl (q_assign rfl rfl) rfl rfl ?_
              refine l_nil ?_
              refine k_then ?_
              refine c_ret ?_
              refine r_one rfl rfl ?_
              exact fun _ h => ⟨(), congrArg (fun z => Ending.returned (Value.bool z)) (by rw [hmy, find_neg hO (show q.2 < 0 by omega), hfr, Bool.and_false]; rfl), trivial, h.nothing⟩
        · try simp only [decide_eq_true_eq, decide_eq_false_iff_not, Bool.not_eq_true', Bool.not_eq_false'] at hk
          refine l_not rfl rfl rfl ?_
          refine l_not rfl rfl rfl ?_
          refine l_not rfl rfl rfl ?_
          refine l_q rfl (q_pick_f rfl rfl rfl) rfl rfl ?_
          refine l_q rfl (q_pick_f rfl rfl rfl) rfl rfl ?_
          refine l_q rfl (q_move rfl rfl) rfl rfl ?_
          refine l_q rfl (q_move rfl rfl) rfl rfl ?_
          refine l_q rfl (q_nilCheck rfl rfl) rfl rfl ?_
          refine l_q rfl (q_fieldAddr rfl Try.underlying100 rfl Try.sizeOf98 rfl rfl) rfl rfl ?_
          refine l_q rfl (q_loadC rfl Try.isAgg98 rfl (fun _ h => (RC.keep hC h).c) rfl) rfl rfl ?_
          refine l_q rfl (q_move rfl rfl) rfl rfl ?_
          refine l_q rfl (q_indexV k rfl Try.underlying98 Try.sizeOf138 rfl (fun _ h => hC.l.keep h (by simp [dom])) rfl rfl (by omega)) rfl rfl ?_
          refine l_q rfl (q_fieldAddr rfl Try.underlying138 rfl Try.sizeOf3 rfl rfl) rfl rfl ?_
          refine l_q rfl (q_loadV k 1 rfl Try.isAgg3 rfl rfl (fun _ h => hC.l.keep h (by simp [dom])) hq rfl) rfl rfl ?_
          refine l_q rfl (q_geq rfl rfl rfl) rfl rfl ?_
          refine l_q rfl (q_move rfl rfl) rfl rfl ?_
          refine Pre.caseB 45 rfl (fun hb => ?_) (fun hb => ?_)
          · try simp only [decide_eq_true_eq, decide_eq_false_iff_not, Bool.not_eq_true', Bool.not_eq_false'] at hb
            refine l_q rfl (q_move rfl rfl) rfl rfl ?_
            refine l_q rfl (q_move rfl rfl) rfl rfl ?_
            refine l_q rfl (q_nilCheck rfl rfl) rfl rfl ?_
            refine l_q rfl (q_fieldAddr rfl Try.underlying100 rfl Try.sizeOf98 rfl rfl) rfl rfl ?_
            refine l_q rfl (q_loadC rfl Try.isAgg98 rfl (fun _ h => (RC.keep hC h).c) rfl) rfl rfl ?_
            refine l_q rfl (q_move rfl rfl) rfl rfl ?_
            refine l_q rfl (q_indexV k rfl Try.underlying98 Try.sizeOf138 rfl (fun _ h => hC.l.keep h (by simp [dom])) rfl rfl (by omega)) rfl rfl ?_
            refine l_q rfl (q_fieldAddr rfl Try.underlying138 rfl Try.sizeOf3 rfl rfl) rfl rfl ?_
            refine l_q rfl (q_loadV k 1 rfl Try.isAgg3 rfl rfl (fun _ h => hC.l.keep h (by simp [dom])) hq rfl) rfl rfl ?_
            refine l_e rfl ?_
            refine e_call_00 (rfind_spec hR hO q.2) rfl rfl rfl Try.call87 rfl (fun _ h => RC.keep hC h) ?_
            intro _ _
            refine l_q rfl (q_geq rfl rfl rfl) rfl rfl ?_
            refine l_q rfl (q_pick_t rfl rfl rfl) rfl rfl ?_
            refine l_q rfl (q_pick_f rfl rfl rfl) rfl rfl ?_
            refine l_q rfl (q_assign rfl rfl) rfl rfl ?_
            refine l_nil ?_
            refine k_then ?_
            refine c_ret ?_
            refine r_one rfl rfl ?_
            exact fun _ h => ⟨(), congrArg (fun z => Ending.returned (Value.bool z)) (by rw [hmy, io_ge, decide_eq_false (show ¬ k = 0 by omega)]; first | rfl | simp), trivial, h.nothing⟩
          · try simp only [decide_eq_true_eq, decide_eq_false_iff_not, Bool.not_eq_true', Bool.not_eq_false'] at hb
            refine l_not rfl rfl rfl ?_
            refine l_not rfl rfl rfl ?_
            refine l_not rfl rfl rfl ?_
            refine l_not rfl rfl rfl ?_
            refine l_not rfl rfl rfl ?_
            refine l_not rfl rfl rfl ?_
            refine l_not rfl rfl rfl ?_
            refine l_not rfl rfl rfl ?_
            refine l_not rfl rfl rfl ?_
            refine l_not rfl rfl rfl ?_
            refine l_not rfl rfl rfl ?_
            refine l_q rfl (q_pick_f rfl rfl rfl) rfl rfl ?_
            refine l_q rfl (q_pick_f rfl rfl rfl) rfl rfl ?_
            refine l_q rfl (q_assign rfl rfl) rfl rfl ?_
            refine l_nil ?_
            refine k_then ?_
            refine c_ret ?_
            refine r_one rfl rfl ?_
            exact fun _ h => ⟨(), congrArg (fun z => Ending.returned (Value.bool z)) (by rw [hmy, find_neg hO (show q.2 < 0 by omega), decide_eq_false (show ¬ k = 0 by omega)]; rfl), trivial, h.nothing⟩
set_option maxRecDepth 100000 in
set_option maxHeartbeats 1000000 in
theorem rnode_spec {br : Nat} {R : RS} {M : Mo} {B : Nat} (hR : RelR R M) (hO : M.Ok B) (b : Int) : Con Try.prog 33 [.pointer (some ⟨br, 0, none⟩), .int .i64 b] (fun w => RC w br R M) [] (fun nv : NV => .tuple #[.agg nv.c.toArray, .bool (M.node b).2]) (fun nv => (nv.leaf = (M.node b).1.1 ∧ nv.l = (M.node b).1.2) ∧ ((nv.e = sv0 ∧ nv.l = []) ∨ ∃ f ∈ R.fl, nv = f.nv)) (fun _ => []) := by
  intro w hE hH
  have hC := hE
  refine enter (n := 21) (vs := [.pointer (some ⟨br, 0, none⟩), .int .i64 b]) (St w [] []) Try.func33 rfl rfl rfl (St.init hH) ?_
  refine c_seq ?_
  have hfl := hR.len
  have h64 := hO.n64
  have hB9 := hO.B9
  have hlB := hO.lB
  have hlL := hO.ll
  refine c_region _ rfl ?_
  refine l_e rfl ?_
  refine e_alloc rfl rfl rfl Try.zeroValue37 ?_
  intro bo
  refine cells_eq (show _ = nv0.c from rfl) ?_
  refine l_q rfl (q_assign rfl rfl) rfl rfl ?_
  refine l_nil ?_
  refine k_then ?_
  refine c_seq ?_
  refine c_region _ rfl ?_
  refine l_q rfl (q_move rfl rfl) rfl rfl ?_
  refine l_q rfl (q_move rfl rfl) rfl rfl ?_
  refine l_e rfl ?_
  refine e_call_00 (rready_spec hR hO b) rfl rfl rfl Try.call65 rfl (fun _ h => RC.keep hC h) ?_
  intro _ _
  refine l_q rfl (q_assign rfl rfl) rfl rfl ?_
  refine l_nil ?_
  refine k_then ?_
  refine c_seq ?_
  refine c_seq ?_
  refine opt_cases (M.frI b 2) (fun hf => ?_) (fun i hf => ?_)
  · refine Pre.setV (t := 6) (c := .int .i64 (-1)) rfl (by rw [hf]; rfl) ?_
    refine c_region _ rfl ?_
    refine l_q rfl (q_move rfl rfl) rfl rfl ?_
    refine l_q rfl (q_lss rfl rfl rfl) rfl rfl ?_
    refine l_nil ?_
    refine k_then ?_
    refine Pre.setB (t := 11) (c := true) rfl (rfl) ?_
    refine c_true rfl ?_
    refine c_seq ?_
    refine c_region _ rfl ?_
    refine l_q rfl (q_build (nv0.c) rfl rfl (fun w => by kernel_rfl)) rfl rfl ?_
    refine l_e rfl ?_
    refine e_storeAgg rfl rfl Try.sizeOf37 rfl rfl rfl (NV.one _) (by show 0 + 5 ≤ 5; decide) ?_
    refine cells_eq (show Sep.splice _ 0 (nv0).c = (nv0).c from Sep.splice_all rfl) ?_
    refine l_q rfl (q_assign rfl rfl) rfl rfl ?_
    refine l_nil ?_
    refine k_then ?_
    refine c_ret ?_
    refine k_then_ret ?_
    refine r_res2 rfl (res_cellA rfl Try.isAgg37 Try.sizeOf37 (fun _ h => h.at 0 rfl) (rfl)) (show Sep.look _ _ = some _ from rfl) ?_
    exact fun _ h => ⟨nv0, by rw [node_none hf], ⟨by rw [node_none hf]; exact ⟨rfl, rfl⟩, .inl ⟨rfl, rfl⟩⟩, h.nothing⟩
  · obtain ⟨hf1, hst⟩ := frI_at hf
    obtain ⟨y, hy, hyb, hys, hya⟩ := find_at hf1
    obtain ⟨f, hfi, hfy⟩ := hR.get hy
    have hlt := (List.getElem?_eq_some_iff.1 hfi).1
    have hnd := node_some hf
    rw [hya, ← hfy] at hnd
    have hfm := List.mem_of_getElem? hfi
    refine Pre.setV (t := 6) (c := .int .i64 (i : Int)) rfl (by rw [hf]; rfl) ?_
    refine c_region _ rfl ?_
    refine l_q rfl (q_move rfl rfl) rfl rfl ?_
    refine l_q rfl (q_lss rfl rfl rfl) rfl rfl ?_
    refine l_nil ?_
    refine k_then ?_
    refine Pre.setB (t := 11) (c := false) rfl (decide_eq_false (by omega)) ?_
    refine c_false rfl ?_
    refine c_skip ?_
    refine k_then ?_
    refine c_seq ?_
    refine c_region _ rfl ?_
    refine l_q rfl (q_move rfl rfl) rfl rfl ?_
    refine l_q rfl (q_nilCheck rfl rfl) rfl rfl ?_
    refine l_q rfl (q_fieldAddr rfl Try.underlying100 rfl Try.sizeOf97 rfl rfl) rfl rfl ?_
    refine l_q rfl (q_loadC rfl Try.isAgg97 rfl (fun _ h => (RC.keep hC h).c) rfl) rfl rfl ?_
    refine l_q rfl (q_move rfl rfl) rfl rfl ?_
    refine l_q rfl (q_indexV i rfl Try.underlying97 Try.sizeOf102 rfl (fun _ h => hC.f.keep h (by simp [dom])) rfl rfl (by omega)) rfl rfl ?_
    refine l_q rfl (q_fieldAddr rfl Try.underlying102 rfl Try.sizeOf37 rfl rfl) rfl rfl ?_
    refine l_q rfl (q_loadVPart i 5 rfl Try.isAgg37 Try.sizeOf37 rfl rfl (fun _ h => hC.f.keep h (by simp [dom])) hfi (by decide)) rfl rfl ?_
    refine Pre.setV (t := 20) (c := .agg f.nv.c.toArray) rfl (by rfl) ?_
    refine l_e rfl ?_
    refine e_storeAgg rfl rfl Try.sizeOf37 rfl rfl rfl (NV.one _) (by show 0 + 5 ≤ 5; decide) ?_
    refine cells_eq (show Sep.splice _ 0 (f.nv).c = (f.nv).c from Sep.splice_all rfl) ?_
    refine l_q rfl (q_assign rfl rfl) rfl rfl ?_
    refine l_nil ?_
    refine k_then ?_
    refine c_ret ?_
    refine r_res2 rfl (res_cellA rfl Try.isAgg37 Try.sizeOf37 (fun _ h => h.at 0 rfl) (rfl)) (show Sep.look _ _ = some _ from rfl) ?_
    exact fun _ h => ⟨f.nv, by rw [hnd], ⟨by rw [hnd]; exact ⟨rfl, rfl⟩, .inr ⟨f, hfm, rfl⟩⟩, h.nothing⟩
set_option maxRecDepth 100000 in
set_option maxHeartbeats 1000000 in
theorem rframes_spec {br : Nat} {R : RS} {M : Mo} {B : Nat} (hR : RelR R M) (hO : M.Ok B) : Con Try.prog 60 [.pointer (some ⟨br, 0, none⟩)] (fun w => RC w br R M) [] (fun v : Value => v) (fun _ => True) (fun v => [rowE v 44 FC.encA R.fl]) := by
  intro w hE hH
  have hC := hE
  refine enter (n := 39) (vs := [.pointer (some ⟨br, 0, none⟩)]) (St w [] []) Try.func60 rfl rfl rfl (St.init hH) ?_
  refine c_seq ?_
  have hfl := hR.len
  have h64 := hO.n64
  have hB9 := hO.B9
  have hlB := hO.lB
  have hlL := hO.ll
  refine c_region _ rfl ?_
  refine l_q rfl (q_assign rfl rfl) rfl rfl ?_
  refine l_nil ?_
  refine k_then ?_
  refine c_seq ?_
  refine c_region _ rfl ?_
  refine l_q rfl (q_assign rfl rfl) rfl rfl ?_
  refine l_nil ?_
  refine k_then ?_
  refine c_seq ?_
  refine c_seq ?_
  refine c_region _ rfl ?_
  refine l_q rfl (q_assign rfl rfl) rfl rfl ?_
  refine l_nil ?_
  refine k_then ?_
  refine c_block ?_
  refine row0 44 FC.encA none ?_
  refine c_loop2 (fun (i : Nat) (v : Value) => [(0, .pointer (some ⟨br, 0, none⟩)), (3, v), (4, .int .i64 (i : Int))]) (fun (i : Nat) (v : Value) => St w [] [rowE v 44 FC.encA (R.fl.take i)]) (fun (i : Nat) (v : Value) => i ≤ R.fl.length) (fun (i : Nat) (v : Value) => R.fl.length - i) (0) (.slice none 0 0) (Nat.zero_le _) (Sub.cons rfl (Sub.cons rfl (Sub.cons rfl (Sub.nil)))) (fun _ h => h) ?_
  intro i v hi
  refine c_seq ?_
  refine c_seq ?_
  have htl := List.length_take_le i R.fl
  refine c_region _ rfl ?_
  refine l_q rfl (q_move rfl rfl) rfl rfl ?_
  refine l_q rfl (q_move rfl rfl) rfl rfl ?_
  refine l_q rfl (q_nilCheck rfl rfl) rfl rfl ?_
  refine l_q rfl (q_fieldAddr rfl Try.underlying100 rfl Try.sizeOf97 rfl rfl) rfl rfl ?_
  refine l_q rfl (q_loadC rfl Try.isAgg97 rfl (fun _ h => (RC.keep hC h).c) rfl) rfl rfl ?_
  refine l_q rfl (q_lenV rfl Try.underlying97 rfl (fun _ h => hC.f.keep h (by simp [dom]))) rfl rfl ?_
  refine l_q rfl (q_lss rfl rfl rfl) rfl rfl ?_
  refine l_nil ?_
  refine k_then ?_
  refine Pre.caseB 12 rfl (fun h1 => ?_) (fun h1 => ?_)
  · try simp only [decide_eq_true_eq, decide_eq_false_iff_not, Bool.not_eq_true', Bool.not_eq_false'] at h1
    obtain ⟨f, hfi⟩ : ∃ f, R.fl[i]? = some f := ⟨_, List.getElem?_eq_getElem (by omega)⟩
    refine c_true rfl ?_
    refine c_skip ?_
    refine k_then ?_
    refine c_seq ?_
    refine c_block ?_
    refine c_seq ?_
    refine c_region _ rfl ?_
    refine l_q rfl (q_move rfl rfl) rfl rfl ?_
    refine l_q rfl (q_nilCheck rfl rfl) rfl rfl ?_
    refine l_q rfl (q_fieldAddr rfl Try.underlying100 rfl Try.sizeOf97 rfl rfl) rfl rfl ?_
    refine l_q rfl (q_loadC rfl Try.isAgg97 rfl (fun _ h => (RC.keep hC h).c) rfl) rfl rfl ?_
    refine l_q rfl (q_move rfl rfl) rfl rfl ?_
    refine l_q rfl (q_indexV i rfl Try.underlying97 Try.sizeOf102 rfl (fun _ h => hC.f.keep h (by simp [dom])) rfl rfl (by omega)) rfl rfl ?_
    refine l_q rfl (q_loadVAgg i rfl Try.isAgg102 Try.sizeOf102 rfl rfl (fun _ h => hC.f.keep h (by simp [dom])) hfi) rfl rfl ?_
    refine l_e rfl ?_
    refine e_alloc rfl rfl rfl Try.zeroValue102 ?_
    intro bf
    refine l_e rfl ?_
    refine e_storeAgg rfl rfl Try.sizeOf102 rfl rfl rfl (FC.oneR _) (by show 0 + 11 ≤ 11; decide) ?_
    refine cells_eq (show Sep.splice _ 0 (f).cR = (f).cR from Sep.splice_all rfl) ?_
    refine l_nil ?_
    refine k_then ?_
    refine c_region _ rfl ?_
    refine l_q rfl (q_move rfl rfl) rfl rfl ?_
    refine l_q rfl (q_fieldAddr rfl Try.underlying102 rfl Try.sizeOf3 rfl rfl) rfl rfl ?_
    refine l_q rfl (q_loadC rfl Try.isAgg3 rfl (fun _ h => h.at 0 rfl) rfl) rfl rfl ?_
    refine l_q rfl (q_fieldAddr rfl Try.underlying102 rfl Try.sizeOf3 rfl rfl) rfl rfl ?_
    refine l_q rfl (q_loadC rfl Try.isAgg3 rfl (fun _ h => h.at 0 rfl) rfl) rfl rfl ?_
    refine l_q rfl (q_fieldAddr rfl Try.underlying102 rfl Try.sizeOf3 rfl rfl) rfl rfl ?_
    refine l_q rfl (q_loadC rfl Try.isAgg3 rfl (fun _ h => h.at 0 rfl) rfl) rfl rfl ?_
    refine l_q rfl (q_fieldAddr rfl Try.underlying102 rfl Try.sizeOf4 rfl rfl) rfl rfl ?_
    refine l_q rfl (q_loadC rfl Try.isAgg4 rfl (fun _ h => h.at 0 rfl) rfl) rfl rfl ?_
    refine l_q rfl (q_fieldAddr rfl Try.underlying102 rfl Try.sizeOf4 rfl rfl) rfl rfl ?_
    refine l_q rfl (q_loadC rfl Try.isAgg4 rfl (fun _ h => h.at 0 rfl) rfl) rfl rfl ?_
    refine l_q rfl (q_fieldAddr rfl Try.underlying102 rfl Try.sizeOf37 rfl rfl) rfl rfl ?_
    refine l_q rfl (q_loadCAgg (f.nv.c) rfl Try.isAgg37 Try.sizeOf37 rfl (fun _ h => h.at 0 rfl) (nodeR_part _) (rfl)) rfl rfl ?_
    refine l_q rfl (q_build (f.cA) rfl rfl (fun w => by kernel_rfl)) rfl rfl ?_
    refine l_e rfl ?_
    refine e_buildSliceV (sz := 13) [.tmp 35] rfl rfl rfl rfl rfl Try.underlying39 Try.sizeOf44 rfl Try.zeroValue44 rfl ?_
    intro b1
    refine pull2 ?_
    refine l_e rfl ?_
    refine e_append rfl rfl rfl Try.underlying39 Try.underlying39 info44 rfl rfl rfl rfl rfl (fun _ h => lit_rd (h.at 1 rfl) FC.encA [f] rfl rfl) (by simp only [byt44, List.length_append, List.length_cons, List.length_nil]; omega) (by simp only [List.length_append, List.length_cons, List.length_nil]; omega) ?_
    intro v2
    refine row_eq (show _ = R.fl.take (i + 1) from by rw [List.take_add_one, hfi]; rfl) ?_
    refine pull1 ?_
    refine drop0 ?_
    refine l_q rfl (q_assign rfl rfl) rfl rfl ?_
    refine l_nil ?_
    refine k_block ?_
    refine k_then ?_
    refine c_region _ rfl ?_
    refine l_q rfl (q_move rfl rfl) rfl rfl ?_
    refine l_q rfl (q_inc rfl rfl rfl (by omega)) rfl rfl ?_
    refine l_q rfl (q_assign rfl rfl) rfl rfl ?_
    refine l_nil ?_
    refine pull1 ?_
    refine drop0 ?_
    exact k_round ((i + 1, v2)) (by dsimp only; omega) (by dsimp only; omega) (Sub.cons rfl (Sub.cons rfl (Sub.cons rfl (Sub.nil)))) (fun _ h => h)
  · try simp only [decide_eq_true_eq, decide_eq_false_iff_not, Bool.not_eq_true', Bool.not_eq_false'] at h1
    rw [List.take_of_length_le (show R.fl.length ≤ i by omega)]
    refine c_false rfl ?_
    refine c_exit ?_
    refine k_then_exit ?_
    refine k_then_exit ?_
    refine k_block_exit ?_
    refine k_then ?_
    refine c_seq ?_
    refine c_region _ rfl ?_
    refine l_q rfl (q_move rfl rfl) rfl rfl ?_
    refine l_q rfl (q_assign rfl rfl) rfl rfl ?_
    refine l_nil ?_
    refine k_then ?_
    refine c_ret ?_
    refine r_one rfl rfl ?_
    exact fun _ h => ⟨v, rfl, trivial, h⟩
set_option maxRecDepth 100000 in
set_option maxHeartbeats 1000000 in
theorem samend_spec (a b : NV) (hn : a.l.length ≤ 65536) : Con Try.prog 34 [.agg a.c.toArray, .agg b.c.toArray] (fun w => RdV w a.e.v En.enc a.l ∧ RdV w b.e.v En.enc b.l) [] (fun _ : Unit => .bool (decide (a.leaf = b.leaf ∧ a.l = b.l))) (fun _ => True) (fun _ => []) := by
  intro w hE hH
  obtain ⟨ha, hb⟩ := hE
  refine enter (n := 38) (vs := [.agg a.c.toArray, .agg b.c.toArray]) (St w [] []) Try.func34 rfl rfl rfl (St.init hH) ?_
  refine c_seq ?_
  refine c_region _ rfl ?_
  refine l_e rfl ?_
  refine e_box rfl rfl rfl rfl ?_
  intro ba
  refine cells_eq (show _ = a.c from rfl) ?_
  refine l_e rfl ?_
  refine e_box rfl rfl rfl rfl ?_
  intro bb
  refine cells_eq (show _ = b.c from rfl) ?_
  refine l_q rfl (q_assign rfl rfl) rfl rfl ?_
  refine l_nil ?_
  refine k_then ?_
  refine c_seq ?_
  refine c_region _ rfl ?_
  refine l_q rfl (q_fieldAddr rfl Try.underlying37 rfl Try.sizeOf4 rfl rfl) rfl rfl ?_
  refine l_q rfl (q_loadC rfl Try.isAgg4 rfl (fun _ h => h.at 1 rfl) rfl) rfl rfl ?_
  refine l_q rfl (q_fieldAddr rfl Try.underlying37 rfl Try.sizeOf4 rfl rfl) rfl rfl ?_
  refine l_q rfl (q_loadC rfl Try.isAgg4 rfl (fun _ h => h.at 0 rfl) rfl) rfl rfl ?_
  refine l_q rfl (q_eqb rfl Try.underlying4 rfl rfl) rfl rfl ?_
  refine l_q rfl (q_move rfl rfl) rfl rfl ?_
  refine Pre.caseB 10 rfl (fun h1 => ?_) (fun h1 => ?_)
  · try simp only [beq_iff_eq, beq_eq_false_iff_ne, ne_eq] at h1
    refine l_q rfl (q_fieldAddr rfl Try.underlying37 rfl Try.sizeOf33 rfl rfl) rfl rfl ?_
    refine l_q rfl (q_loadC rfl Try.isAgg33 rfl (fun _ h => h.at 1 rfl) rfl) rfl rfl ?_
    refine l_q rfl (q_fieldAddr rfl Try.underlying37 rfl Try.sizeOf33 rfl rfl) rfl rfl ?_
    refine l_q rfl (q_loadC rfl Try.isAgg33 rfl (fun _ h => h.at 0 rfl) rfl) rfl rfl ?_
    refine l_e rfl ?_
    refine e_call_00 (sameen_spec a.l b.l (by omega)) rfl rfl rfl Try.call66 rfl (fun _ h => ⟨ha.keep h (by simp [dom]), hb.keep h (by simp [dom])⟩) ?_
    intro _ _
    refine l_q rfl (q_pick_t rfl rfl rfl) rfl rfl ?_
    refine l_q rfl (q_move rfl rfl) rfl rfl ?_
    refine Pre.caseB 17 rfl (fun h2 => ?_) (fun h2 => ?_)
    · try simp only [decide_eq_true_eq, decide_eq_false_iff_not, Bool.not_eq_true', Bool.not_eq_false'] at h2
      refine l_q rfl (q_fieldAddr rfl Try.underlying37 rfl Try.sizeOf28 rfl rfl) rfl rfl ?_
      refine l_q rfl (q_loadC rfl Try.isAgg28 rfl (fun _ h => h.at 1 rfl) rfl) rfl rfl ?_
      refine l_q rfl (q_fieldAddr rfl Try.underlying37 rfl Try.sizeOf28 rfl rfl) rfl rfl ?_
      refine l_q rfl (q_loadC rfl Try.isAgg28 rfl (fun _ h => h.at 0 rfl) rfl) rfl rfl ?_
      refine l_e rfl ?_
      refine e_call_00 (sameints_spec [] [] (by decide)) rfl rfl rfl Try.call17 rfl (fun _ _ => ⟨rd_nil _, rd_nil _⟩) ?_
      intro _ _
      refine l_q rfl (q_pick_t rfl rfl rfl) rfl rfl ?_
      refine l_q rfl (q_move rfl rfl) rfl rfl ?_
      refine Pre.setB (t := 24) (c := true) rfl (rfl) ?_
      refine l_q rfl (q_fieldAddr rfl Try.underlying37 rfl Try.sizeOf34 rfl rfl) rfl rfl ?_
      refine l_q rfl (q_loadC rfl Try.isAgg34 rfl (fun _ h => h.at 1 rfl) rfl) rfl rfl ?_
      refine l_q rfl (q_fieldAddr rfl Try.underlying37 rfl Try.sizeOf34 rfl rfl) rfl rfl ?_
      refine l_q rfl (q_loadC rfl Try.isAgg34 rfl (fun _ h => h.at 0 rfl) rfl) rfl rfl ?_
      refine l_e rfl ?_
      refine e_call_00 (samek_nil) rfl rfl rfl Try.call67 rfl (fun _ _ => trivial) ?_
      intro _ _
      refine l_q rfl (q_pick_t rfl rfl rfl) rfl rfl ?_
      refine l_q rfl (q_move rfl rfl) rfl rfl ?_
      refine Pre.setB (t := 31) (c := true) rfl (rfl) ?_
      refine l_q rfl (q_fieldAddr rfl Try.underlying37 rfl Try.sizeOf35 rfl rfl) rfl rfl ?_
      refine l_q rfl (q_loadC rfl Try.isAgg35 rfl (fun _ h => h.at 1 rfl) rfl) rfl rfl ?_
      refine l_q rfl (q_fieldAddr rfl Try.underlying37 rfl Try.sizeOf35 rfl rfl) rfl rfl ?_
      refine l_q rfl (q_loadC rfl Try.isAgg35 rfl (fun _ h => h.at 0 rfl) rfl) rfl rfl ?_
      refine l_e rfl ?_
      refine e_call_00 (samem_nil) rfl rfl rfl Try.call68 rfl (fun _ _ => trivial) ?_
      intro _ _
      refine l_q rfl (q_pick_t rfl rfl rfl) rfl rfl ?_
      refine l_q rfl (q_assign rfl rfl) rfl rfl ?_
      refine l_nil ?_
      refine k_then ?_
      refine c_ret ?_
      refine r_one rfl rfl ?_
      exact fun _ h => ⟨(), congrArg (fun z => Ending.returned (Value.bool z)) (by rw [← same_nd, decide_eq_true h1, decide_eq_true h2]; rfl), trivial, h.nothing⟩
    · try simp only [decide_eq_true_eq, decide_eq_false_iff_not, Bool.not_eq_true', Bool.not_eq_false'] at h2
      refine l_not rfl rfl rfl ?_
      refine l_not rfl rfl rfl ?_
      refine l_not rfl rfl rfl ?_
      refine l_not rfl rfl rfl ?_
      refine l_not rfl rfl rfl ?_
      refine l_q rfl (q_pick_f rfl rfl rfl) rfl rfl ?_
      refine l_q rfl (q_move rfl rfl) rfl rfl ?_
      refine l_not rfl rfl rfl ?_
      refine l_not rfl rfl rfl ?_
      refine l_not rfl rfl rfl ?_
      refine l_not rfl rfl rfl ?_
      refine l_not rfl rfl rfl ?_
      refine l_q rfl (q_pick_f rfl rfl rfl) rfl rfl ?_
      refine l_q rfl (q_move rfl rfl) rfl rfl ?_
      refine l_not rfl rfl rfl ?_
      refine l_not rfl rfl rfl ?_
      refine l_not rfl rfl rfl ?_
      refine l_not rfl rfl rfl ?_
      refine l_not rfl rfl rfl ?_
      refine l_q rfl (q_pick_f rfl rfl rfl) rfl rfl ?_
      refine l_q rfl (q_assign rfl rfl) rfl rfl ?_
      refine l_nil ?_
      refine k_then ?_
      refine c_ret ?_
      refine r_one rfl rfl ?_
      exact fun _ h => ⟨(), congrArg (fun z => Ending.returned (Value.bool z)) (by rw [← same_nd, decide_eq_false h2, Bool.and_false]), trivial, h.nothing⟩
  · try simp only [beq_iff_eq, beq_eq_false_iff_ne, ne_eq] at h1
    refine l_not rfl rfl rfl ?_
    refine l_not rfl rfl rfl ?_
    refine l_not rfl rfl rfl ?_
    refine l_not rfl rfl rfl ?_
    refine l_not rfl rfl rfl ?_
    refine l_q rfl (q_pick_f rfl rfl rfl) rfl rfl ?_
    refine l_q rfl (q_move rfl rfl) rfl rfl ?_
    refine l_not rfl rfl rfl ?_
    refine l_not rfl rfl rfl ?_
    refine l_not rfl rfl rfl ?_
    refine l_not rfl rfl rfl ?_
    refine l_not rfl rfl rfl ?_
    refine l_q rfl (q_pick_f rfl rfl rfl) rfl rfl ?_
    refine l_q rfl (q_move rfl rfl) rfl rfl ?_
    refine l_not rfl rfl rfl ?_
    refine l_not rfl rfl rfl ?_
    refine l_not rfl rfl rfl ?_
    refine l_not rfl rfl rfl ?_
    refine l_not rfl rfl rfl ?_
    refine l_q rfl (q_pick_f rfl rfl rfl) rfl rfl ?_
    refine l_q rfl (q_move rfl rfl) rfl rfl ?_
    refine l_not rfl rfl rfl ?_
    refine l_not rfl rfl rfl ?_
    refine l_not rfl rfl rfl ?_
    refine l_not rfl rfl rfl ?_
    refine l_not rfl rfl rfl ?_
    refine l_q rfl (q_pick_f rfl rfl rfl) rfl rfl ?_
    refine l_q rfl (q_assign rfl rfl) rfl rfl ?_
    refine l_nil ?_
    refine k_then ?_
    refine c_ret ?_
    refine r_one rfl rfl ?_
    exact fun _ h => ⟨(), congrArg (fun z => Ending.returned (Value.bool z)) (by rw [← same_nd, decide_eq_false h1]; rfl), trivial, h.nothing⟩
/-- Are two frames alike, without their latches? -/
def sfB (a b : FC) : Bool := decide (a.st = b.st) && (decide (a.blk = b.blk) && (decide (a.pins = b.pins) && (decide (a.ref = b.ref) && (decide (a.dirty = b.dirty) && decide (a.nv.leaf = b.nv.leaf ∧ a.nv.l = b.nv.l)))))
theorem sf_vw {a b : FC} (h : vw a = vw b) : sfB a b = true := by
  unfold vw at h
  simp only [Vw.mk.injEq] at h
  unfold sfB
  simp [h.1, h.2.1, h.2.2.2.1, h.2.2.2.2.1, h.2.2.2.2.2.1, h.2.2.2.2.2.2.1, h.2.2.2.2.2.2.2]
set_option maxRecDepth 100000 in
set_option maxHeartbeats 1000000 in
theorem samefr_spec (a b : FC) (hn : a.nv.l.length ≤ 65536) : Con Try.prog 63 [.agg a.cA.toArray, .agg b.cA.toArray] (fun w => RdV w a.nv.e.v En.enc a.nv.l ∧ RdV w b.nv.e.v En.enc b.nv.l) [] (fun _ : Unit => .bool (sfB a b)) (fun _ => True) (fun _ => []) := by
  intro w hE hH
  obtain ⟨ha, hb⟩ := hE
  refine enter (n := 45) (vs := [.agg a.cA.toArray, .agg b.cA.toArray]) (St w [] []) Try.func63 rfl rfl rfl (St.init hH) ?_
  refine c_seq ?_
  refine c_region _ rfl ?_
  refine l_e rfl ?_
  refine e_box rfl rfl rfl rfl ?_
  intro ba
  refine cells_eq (show _ = a.cA from rfl) ?_
  refine l_e rfl ?_
  refine e_box rfl rfl rfl rfl ?_
  intro bb
  refine cells_eq (show _ = b.cA from rfl) ?_
  refine l_q rfl (q_assign rfl rfl) rfl rfl ?_
  refine l_nil ?_
  refine k_then ?_
  refine c_seq ?_
  refine c_region _ rfl ?_
  refine l_q rfl (q_fieldAddr rfl Try.underlying44 rfl Try.sizeOf3 rfl rfl) rfl rfl ?_
  refine l_q rfl (q_loadC rfl Try.isAgg3 rfl (fun _ h => h.at 1 rfl) rfl) rfl rfl ?_
  refine l_q rfl (q_fieldAddr rfl Try.underlying44 rfl Try.sizeOf3 rfl rfl) rfl rfl ?_
  refine l_q rfl (q_loadC rfl Try.isAgg3 rfl (fun _ h => h.at 0 rfl) rfl) rfl rfl ?_
  refine l_q rfl (q_eql rfl rfl rfl) rfl rfl ?_
  refine l_q rfl (q_move rfl rfl) rfl rfl ?_
  refine Pre.caseB 10 rfl (fun g0 => ?_) (fun g0 => ?_)
  · try simp only [decide_eq_true_eq, decide_eq_false_iff_not, beq_iff_eq, beq_eq_false_iff_ne, ne_eq] at g0
    refine l_q rfl (q_fieldAddr rfl Try.underlying44 rfl Try.sizeOf3 rfl rfl) rfl rfl ?_
    refine l_q rfl (q_loadC rfl Try.isAgg3 rfl (fun _ h => h.at 1 rfl) rfl) rfl rfl ?_
    refine l_q rfl (q_fieldAddr rfl Try.underlying44 rfl Try.sizeOf3 rfl rfl) rfl rfl ?_
    refine l_q rfl (q_loadC rfl Try.isAgg3 rfl (fun _ h => h.at 0 rfl) rfl) rfl rfl ?_
    refine l_q rfl (q_eql rfl rfl rfl) rfl rfl ?_
    refine l_q rfl (q_pick_t rfl rfl rfl) rfl rfl ?_
    refine l_q rfl (q_move rfl rfl) rfl rfl ?_
    refine Pre.caseB 17 rfl (fun g1 => ?_) (fun g1 => ?_)
    · try simp only [decide_eq_true_eq, decide_eq_false_iff_not, beq_iff_eq, beq_eq_false_iff_ne, ne_eq] at g1
      refine l_q rfl (q_fieldAddr rfl Try.underlying44 rfl Try.sizeOf3 rfl rfl) rfl rfl ?_
      refine l_q rfl (q_loadC rfl Try.isAgg3 rfl (fun _ h => h.at 1 rfl) rfl) rfl rfl ?_
      refine l_q rfl (q_fieldAddr rfl Try.underlying44 rfl Try.sizeOf3 rfl rfl) rfl rfl ?_
      refine l_q rfl (q_loadC rfl Try.isAgg3 rfl (fun _ h => h.at 0 rfl) rfl) rfl rfl ?_
      refine l_q rfl (q_eql rfl rfl rfl) rfl rfl ?_
      refine l_q rfl (q_pick_t rfl rfl rfl) rfl rfl ?_
      refine l_q rfl (q_move rfl rfl) rfl rfl ?_
      refine Pre.caseB 24 rfl (fun g2 => ?_) (fun g2 => ?_)
      · try simp only [decide_eq_true_eq, decide_eq_false_iff_not, beq_iff_eq, beq_eq_false_iff_ne, ne_eq] at g2
        refine l_q rfl (q_fieldAddr rfl Try.underlying44 rfl Try.sizeOf4 rfl rfl) rfl rfl ?_
        refine l_q rfl (q_loadC rfl Try.isAgg4 rfl (fun _ h => h.at 1 rfl) rfl) rfl rfl ?_
        refine l_q rfl (q_fieldAddr rfl Try.underlying44 rfl Try.sizeOf4 rfl rfl) rfl rfl ?_
        refine l_q rfl (q_loadC rfl Try.isAgg4 rfl (fun _ h => h.at 0 rfl) rfl) rfl rfl ?_
        refine l_q rfl (q_eqb rfl Try.underlying4 rfl rfl) rfl rfl ?_
        refine l_q rfl (q_pick_t rfl rfl rfl) rfl rfl ?_
        refine l_q rfl (q_move rfl rfl) rfl rfl ?_
        refine Pre.caseB 31 rfl (fun g3 => ?_) (fun g3 => ?_)
        · try simp only [decide_eq_true_eq, decide_eq_false_iff_not, beq_iff_eq, beq_eq_false_iff_ne, ne_eq] at g3
          refine l_q rfl (q_fieldAddr rfl Try.underlying44 rfl Try.sizeOf4 rfl rfl) rfl rfl ?_
          refine l_q rfl (q_loadC rfl Try.isAgg4 rfl (fun _ h => h.at 1 rfl) rfl) rfl rfl ?_
          refine l_q rfl (q_fieldAddr rfl Try.underlying44 rfl Try.sizeOf4 rfl rfl) rfl rfl ?_
          refine l_q rfl (q_loadC rfl Try.isAgg4 rfl (fun _ h => h.at 0 rfl) rfl) rfl rfl ?_
          refine l_q rfl (q_eqb rfl Try.underlying4 rfl rfl) rfl rfl ?_
          refine l_q rfl (q_pick_t rfl rfl rfl) rfl rfl ?_
          refine l_q rfl (q_move rfl rfl) rfl rfl ?_
          refine Pre.caseB 38 rfl (fun g4 => ?_) (fun g4 => ?_)
          · try simp only [decide_eq_true_eq, decide_eq_false_iff_not, beq_iff_eq, beq_eq_false_iff_ne, ne_eq] at g4
            refine l_q rfl (q_fieldAddr rfl Try.underlying44 rfl Try.sizeOf37 rfl rfl) rfl rfl ?_
            refine l_q rfl (q_loadCAgg (a.nv.c) rfl Try.isAgg37 Try.sizeOf37 rfl (fun _ h => h.at 1 rfl) (rfl) (rfl)) rfl rfl ?_
            refine l_q rfl (q_fieldAddr rfl Try.underlying44 rfl Try.sizeOf37 rfl rfl) rfl rfl ?_
            refine l_q rfl (q_loadCAgg (b.nv.c) rfl Try.isAgg37 Try.sizeOf37 rfl (fun _ h => h.at 0 rfl) (rfl) (rfl)) rfl rfl ?_
            refine l_e rfl ?_
            refine e_call_00 (samend_spec a.nv b.nv (by omega)) rfl rfl rfl Try.call34 rfl (fun _ h => ⟨ha.keep h (by simp [dom]), hb.keep h (by simp [dom])⟩) ?_
            intro _ _
            refine l_q rfl (q_pick_t rfl rfl rfl) rfl rfl ?_
            refine l_q rfl (q_assign rfl rfl) rfl rfl ?_
            refine l_nil ?_
            refine k_then ?_
            refine c_ret ?_
            refine r_one rfl rfl ?_
            exact fun _ h => ⟨(), congrArg (fun z => Ending.returned (Value.bool z)) (by unfold sfB; rw [decide_eq_true g0, decide_eq_true g1, decide_eq_true g2, decide_eq_true g3, decide_eq_true g4]; rfl), trivial, h.nothing⟩
          · try simp only [decide_eq_true_eq, decide_eq_false_iff_not, beq_iff_eq, beq_eq_false_iff_ne, ne_eq] at g4
            refine l_not rfl rfl rfl ?_
            refine l_not rfl rfl rfl ?_
            refine l_not rfl rfl rfl ?_
            refine l_not rfl rfl rfl ?_
            refine l_not rfl rfl rfl ?_
            refine l_q rfl (q_pick_f rfl rfl rfl) rfl rfl ?_
            refine l_q rfl (q_assign rfl rfl) rfl rfl ?_
            refine l_nil ?_
            refine k_then ?_
            refine c_ret ?_
            refine r_one rfl rfl ?_
            exact fun _ h => ⟨(), congrArg (fun z => Ending.returned (Value.bool z)) (by unfold sfB; rw [decide_eq_true g0, decide_eq_true g1, decide_eq_true g2, decide_eq_true g3, decide_eq_false g4]; rfl), trivial, h.nothing⟩
        · try simp only [decide_eq_true_eq, decide_eq_false_iff_not, beq_iff_eq, beq_eq_false_iff_ne, ne_eq] at g3
          refine l_not rfl rfl rfl ?_
          refine l_not rfl rfl rfl ?_
          refine l_not rfl rfl rfl ?_
          refine l_not rfl rfl rfl ?_
          refine l_not rfl rfl rfl ?_
          refine l_q rfl (q_pick_f rfl rfl rfl) rfl rfl ?_
          refine l_q rfl (q_move rfl rfl) rfl rfl ?_
          refine l_not rfl rfl rfl ?_
          refine l_not rfl rfl rfl ?_
          refine l_not rfl rfl rfl ?_
          refine l_not rfl rfl rfl ?_
          refine l_not rfl rfl rfl ?_
          refine l_q rfl (q_pick_f rfl rfl rfl) rfl rfl ?_
          refine l_q rfl (q_assign rfl rfl) rfl rfl ?_
          refine l_nil ?_
          refine k_then ?_
          refine c_ret ?_
          refine r_one rfl rfl ?_
          exact fun _ h => ⟨(), congrArg (fun z => Ending.returned (Value.bool z)) (by unfold sfB; rw [decide_eq_true g0, decide_eq_true g1, decide_eq_true g2, decide_eq_false g3]; rfl), trivial, h.nothing⟩
      · try simp only [decide_eq_true_eq, decide_eq_false_iff_not, beq_iff_eq, beq_eq_false_iff_ne, ne_eq] at g2
        refine l_not rfl rfl rfl ?_
        refine l_not rfl rfl rfl ?_
        refine l_not rfl rfl rfl ?_
        refine l_not rfl rfl rfl ?_
        refine l_not rfl rfl rfl ?_
        refine l_q rfl (q_pick_f rfl rfl rfl) rfl rfl ?_
        refine l_q rfl (q_move rfl rfl) rfl rfl ?_
        refine l_not rfl rfl rfl ?_
        refine l_not rfl rfl rfl ?_
        refine l_not rfl rfl rfl ?_
        refine l_not rfl rfl rfl ?_
        refine l_not rfl rfl rfl ?_
        refine l_q rfl (q_pick_f rfl rfl rfl) rfl rfl ?_
        refine l_q rfl (q_move rfl rfl) rfl rfl ?_
        refine l_not rfl rfl rfl ?_
        refine l_not rfl rfl rfl ?_
        refine l_not rfl rfl rfl ?_
        refine l_not rfl rfl rfl ?_
        refine l_not rfl rfl rfl ?_
        refine l_q rfl (q_pick_f rfl rfl rfl) rfl rfl ?_
        refine l_q rfl (q_assign rfl rfl) rfl rfl ?_
        refine l_nil ?_
        refine k_then ?_
        refine c_ret ?_
        refine r_one rfl rfl ?_
        exact fun _ h => ⟨(), congrArg (fun z => Ending.returned (Value.bool z)) (by unfold sfB; rw [decide_eq_true g0, decide_eq_true g1, decide_eq_false g2]; rfl), trivial, h.nothing⟩
    · try simp only [decide_eq_true_eq, decide_eq_false_iff_not, beq_iff_eq, beq_eq_false_iff_ne, ne_eq] at g1
      refine l_not rfl rfl rfl ?_
      refine l_not rfl rfl rfl ?_
      refine l_not rfl rfl rfl ?_
      refine l_not rfl rfl rfl ?_
      refine l_not rfl rfl rfl ?_
      refine l_q rfl (q_pick_f rfl rfl rfl) rfl rfl ?_
      refine l_q rfl (q_move rfl rfl) rfl rfl ?_
      refine l_not rfl rfl rfl ?_
      refine l_not rfl rfl rfl ?_
      refine l_not rfl rfl rfl ?_
      refine l_not rfl rfl rfl ?_
      refine l_not rfl rfl rfl ?_
      refine l_q rfl (q_pick_f rfl rfl rfl) rfl rfl ?_
      refine l_q rfl (q_move rfl rfl) rfl rfl ?_
      refine l_not rfl rfl rfl ?_
      refine l_not rfl rfl rfl ?_
      refine l_not rfl rfl rfl ?_
      refine l_not rfl rfl rfl ?_
      refine l_not rfl rfl rfl ?_
      refine l_q rfl (q_pick_f rfl rfl rfl) rfl rfl ?_
      refine l_q rfl (q_move rfl rfl) rfl rfl ?_
      refine l_not rfl rfl rfl ?_
      refine l_not rfl rfl rfl ?_
      refine l_not rfl rfl rfl ?_
      refine l_not rfl rfl rfl ?_
      refine l_not rfl rfl rfl ?_
      refine l_q rfl (q_pick_f rfl rfl rfl) rfl rfl ?_
      refine l_q rfl (q_assign rfl rfl) rfl rfl ?_
      refine l_nil ?_
      refine k_then ?_
      refine c_ret ?_
      refine r_one rfl rfl ?_
      exact fun _ h => ⟨(), congrArg (fun z => Ending.returned (Value.bool z)) (by unfold sfB; rw [decide_eq_true g0, decide_eq_false g1]; rfl), trivial, h.nothing⟩
  · try simp only [decide_eq_true_eq, decide_eq_false_iff_not, beq_iff_eq, beq_eq_false_iff_ne, ne_eq] at g0
    refine l_not rfl rfl rfl ?_
    refine l_not rfl rfl rfl ?_
    refine l_not rfl rfl rfl ?_
    refine l_not rfl rfl rfl ?_
    refine l_not rfl rfl rfl ?_
    refine l_q rfl (q_pick_f rfl rfl rfl) rfl rfl ?_
    refine l_q rfl (q_move rfl rfl) rfl rfl ?_
    refine l_not rfl rfl rfl ?_
    refine l_not rfl rfl rfl ?_
    refine l_not rfl rfl rfl ?_
    refine l_not rfl rfl rfl ?_
    refine l_not rfl rfl rfl ?_
    refine l_q rfl (q_pick_f rfl rfl rfl) rfl rfl ?_
    refine l_q rfl (q_move rfl rfl) rfl rfl ?_
    refine l_not rfl rfl rfl ?_
    refine l_not rfl rfl rfl ?_
    refine l_not rfl rfl rfl ?_
    refine l_not rfl rfl rfl ?_
    refine l_not rfl rfl rfl ?_
    refine l_q rfl (q_pick_f rfl rfl rfl) rfl rfl ?_
    refine l_q rfl (q_move rfl rfl) rfl rfl ?_
    refine l_not rfl rfl rfl ?_
    refine l_not rfl rfl rfl ?_
    refine l_not rfl rfl rfl ?_
    refine l_not rfl rfl rfl ?_
    refine l_not rfl rfl rfl ?_
    refine l_q rfl (q_pick_f rfl rfl rfl) rfl rfl ?_
    refine l_q rfl (q_move rfl rfl) rfl rfl ?_
    refine l_not rfl rfl rfl ?_
    refine l_not rfl rfl rfl ?_
    refine l_not rfl rfl rfl ?_
    refine l_not rfl rfl rfl ?_
    refine l_not rfl rfl rfl ?_
    refine l_q rfl (q_pick_f rfl rfl rfl) rfl rfl ?_
    refine l_q rfl (q_assign rfl rfl) rfl rfl ?_
    refine l_nil ?_
    refine k_then ?_
    refine c_ret ?_
    refine r_one rfl rfl ?_
    exact fun _ h => ⟨(), congrArg (fun z => Ending.returned (Value.bool z)) (by unfold sfB; rw [decide_eq_false g0]; rfl), trivial, h.nothing⟩
end Go.Proofs.Ytpfbagkjhchojaa
