/- histories: may an operation be answered so? -/
import Derived.Test.YthfdmeikpbkpaaaC
set_option linter.unusedVariables false
set_option linter.unusedSimpArgs false
namespace Go.Proofs.Ythfdmeikpbkpaaa
open Go.Sep Go.RowKit

/-- May an operation be answered so? -/
def mayB (o : Op) (a : An) : Bool := (if lrg o = true then decide (a.code = 2) else decide (a.code = 0) || (decide (a.code = 3) && decide (o.kind ≠ 4))) && (!a.found || (decide (o.kind = 4) && decide (a.code = 0))) && vck a.v && (a.found || decide (a.v = kv0 16))
def kndB (o : Op) : Bool := decide (1 ≤ o.kind) && decide (o.kind ≤ 4)
set_option maxRecDepth 100000 in
set_option maxHeartbeats 1000000 in
theorem may_spec (o : Op) (a : An) : Con Try.prog 27 [.agg o.c.toArray, .agg a.c.toArray] (fun _ => True) [] (fun _ : Unit => .bool (mayB o a)) (fun _ => True) (fun _ => []) := by
  intro w hE hH
  refine enter (n := 57) (vs := [.agg o.c.toArray, .agg a.c.toArray]) (St w [] []) Try.func27 rfl rfl rfl (St.init hH) ?_
  refine c_seq ?_
  refine c_region _ rfl ?_
  refine l_e rfl ?_
  refine e_box rfl rfl rfl rfl ?_
  intro bo
  refine cells_eq (show _ = o.c from rfl) ?_
  refine l_e rfl ?_
  refine e_box rfl rfl rfl rfl ?_
  intro ba
  refine cells_eq (show _ = a.c from rfl) ?_
  refine l_q rfl (q_assign rfl rfl) rfl rfl ?_
  refine l_nil ?_
  refine k_then ?_
  refine c_seq ?_
  refine c_region _ rfl ?_
  refine l_q rfl (q_fieldAddr rfl Try.underlying45 rfl Try.sizeOf40 rfl rfl) rfl rfl ?_
  refine l_q rfl (q_loadC rfl Try.isAgg40 rfl (fun _ h => h.at 0 rfl) rfl) rfl rfl ?_
  refine l_q rfl (q_eql rfl rfl rfl) rfl rfl ?_
  refine l_q rfl (q_move rfl rfl) rfl rfl ?_
  refine Pre.caseB 10 rfl (fun h1 => ?_) (fun h1 => ?_)
  · try simp only [decide_eq_true_eq, decide_eq_false_iff_not, Bool.not_eq_true', Bool.not_eq_false'] at h1
    refine l_not rfl rfl rfl ?_
    refine l_not rfl rfl rfl ?_
    refine l_not rfl rfl rfl ?_
    refine l_not rfl rfl rfl ?_
    refine l_not rfl rfl rfl ?_
    refine l_not rfl rfl rfl ?_
    refine l_not rfl rfl rfl ?_
    refine l_not rfl rfl rfl ?_
    refine l_q rfl (q_pick_t rfl rfl rfl) rfl rfl ?_
    refine l_q rfl (q_assign rfl rfl) rfl rfl ?_
    refine l_nil ?_
    refine k_then ?_
    refine c_seq ?_
    refine c_seq ?_
    refine c_region _ rfl ?_
    refine l_q rfl (q_loadCAgg (o.c) rfl Try.isAgg37 Try.sizeOf37 rfl (fun _ h => h.at 1 rfl) (rfl) (rfl)) rfl rfl ?_
    refine l_e rfl ?_
    refine e_call_00 (lrg_spec o) rfl rfl rfl Try.call23 rfl (fun _ _ => trivial) ?_
    intro _ _
    refine l_nil ?_
    refine k_then ?_
    refine Pre.caseB 21 rfl (fun h2 => ?_) (fun h2 => ?_)
    · try simp only [decide_eq_true_eq, decide_eq_false_iff_not, Bool.not_eq_true', Bool.not_eq_false'] at h2
      refine c_true rfl ?_
      refine c_region _ rfl ?_
      refine l_q rfl (q_fieldAddr rfl Try.underlying45 rfl Try.sizeOf40 rfl rfl) rfl rfl ?_
      refine l_q rfl (q_loadC rfl Try.isAgg40 rfl (fun _ h => h.at 0 rfl) rfl) rfl rfl ?_
      refine l_q rfl (q_eql rfl rfl rfl) rfl rfl ?_
      refine l_q rfl (q_assign rfl rfl) rfl rfl ?_
      refine l_nil ?_
      refine k_then ?_
      refine c_seq ?_
      refine c_region _ rfl ?_
      refine l_q rfl (q_fieldAddr rfl Try.underlying45 rfl Try.sizeOf4 rfl rfl) rfl rfl ?_
      refine l_q rfl (q_loadC rfl Try.isAgg4 rfl (fun _ h => h.at 0 rfl) rfl) rfl rfl ?_
      refine l_q rfl (q_not rfl rfl) rfl rfl ?_
      refine l_q rfl (q_move rfl rfl) rfl rfl ?_
      refine Pre.caseB 28 rfl (fun h3 => ?_) (fun h3 => ?_)
      · try simp only [Bool.not_eq_true', Bool.not_eq_false'] at h3
        refine l_not rfl rfl rfl ?_
        refine l_not rfl rfl rfl ?_
        refine l_not rfl rfl rfl ?_
        refine l_not rfl rfl rfl ?_
        refine l_not rfl rfl rfl ?_
        refine l_not rfl rfl rfl ?_
        refine l_not rfl rfl rfl ?_
        refine l_not rfl rfl rfl ?_
        refine l_q rfl (q_pick_t rfl rfl rfl) rfl rfl ?_
        refine l_q rfl (q_assign rfl rfl) rfl rfl ?_
        refine l_nil ?_
        refine k_then ?_
        refine c_seq ?_
        refine c_region _ rfl ?_
        refine l_q rfl (q_move rfl rfl) rfl rfl ?_
        refine l_q rfl (q_move rfl rfl) rfl rfl ?_
        refine Pre.caseB 39 rfl (fun h4 => ?_) (fun h4 => ?_)
        · try simp only [decide_eq_true_eq, decide_eq_false_iff_not, Bool.not_eq_true', Bool.not_eq_false'] at h4
          refine l_q rfl (q_move rfl rfl) rfl rfl ?_
          refine l_q rfl (q_pick_t rfl rfl rfl) rfl rfl ?_
          refine l_q rfl (q_move rfl rfl) rfl rfl ?_
          refine l_q rfl (q_fieldAddr rfl Try.underlying45 rfl Try.sizeOf43 rfl rfl) rfl rfl ?_
          refine l_q rfl (q_loadCAgg (a.v.c) rfl Try.isAgg43 Try.sizeOf43 rfl (fun _ h => h.at 0 rfl) (An.v_part _) (Kv.c_len _)) rfl rfl ?_
          refine l_e rfl ?_
          refine e_call_00 (vcheck_spec a.v) rfl rfl rfl Try.call34 rfl (fun _ _ => trivial) ?_
          intro _ _
          refine l_q rfl (q_pick_t rfl rfl rfl) rfl rfl ?_
          refine l_q rfl (q_move rfl rfl) rfl rfl ?_
          refine Pre.caseB 47 rfl (fun h5 => ?_) (fun h5 => ?_)
          · try simp only [decide_eq_true_eq, decide_eq_false_iff_not, Bool.not_eq_true', Bool.not_eq_false'] at h5
            refine l_q rfl (q_fieldAddr rfl Try.underlying45 rfl Try.sizeOf4 rfl rfl) rfl rfl ?_
            refine l_q rfl (q_loadC rfl Try.isAgg4 rfl (fun _ h => h.at 0 rfl) rfl) rfl rfl ?_
            refine l_q rfl (q_move rfl rfl) rfl rfl ?_
            refine Pre.setB (t := 50) (c := false) rfl (h3) ?_
            refine l_q rfl (q_fieldAddr rfl Try.underlying45 rfl Try.sizeOf43 rfl rfl) rfl rfl ?_
            refine l_q rfl (q_loadCAgg (a.v.c) rfl Try.isAgg43 Try.sizeOf43 rfl (fun _ h => h.at 0 rfl) (An.v_part _) (Kv.c_len _)) rfl rfl ?_
            refine l_q rfl (q_build ((kv0 16).c) rfl rfl (fun w => by kernel_rfl)) rfl rfl ?_
            refine l_q rfl (q_eqV (a.v) ((kv0 16)) rfl rfl rfl) rfl rfl ?_
            refine l_q rfl (q_pick_f rfl rfl rfl) rfl rfl ?_
            refine l_q rfl (q_pick_t rfl rfl rfl) rfl rfl ?_
            refine l_q rfl (q_assign rfl rfl) rfl rfl ?_
            refine l_nil ?_
            refine k_then ?_
            refine c_ret ?_
            refine r_one rfl rfl ?_
            exact fun _ h => ⟨(), congrArg (fun z => Ending.returned (Value.bool z)) (by first | (exfalso; omega) | (simp_all [mayB]; done) | (simp_all [mayB]; omega) | (cases hl : lrg o <;> simp_all [mayB] <;> omega)), trivial, h.nothing⟩
          · try simp only [decide_eq_true_eq, decide_eq_false_iff_not, Bool.not_eq_true', Bool.not_eq_false'] at h5
            refine l_not rfl rfl rfl ?_
            refine l_not rfl rfl rfl ?_
            refine l_not rfl rfl rfl ?_
            refine l_not rfl rfl rfl ?_
            refine l_not rfl rfl rfl ?_
            refine l_not rfl rfl rfl ?_
            refine l_not rfl rfl rfl ?_
            refine l_not rfl rfl rfl ?_
            refine l_q rfl (q_pick_f rfl rfl rfl) rfl rfl ?_
            refine l_q rfl (q_assign rfl rfl) rfl rfl ?_
            refine l_nil ?_
            refine k_then ?_
            refine c_ret ?_
            refine r_one rfl rfl ?_
            exact fun _ h => ⟨(), congrArg (fun z => Ending.returned (Value.bool z)) (by first | (exfalso; omega) | (simp_all [mayB]; done) | (simp_all [mayB]; omega) | (cases hl : lrg o <;> simp_all [mayB] <;> omega)), trivial, h.nothing⟩
        · try simp only [decide_eq_true_eq, decide_eq_false_iff_not, Bool.not_eq_true', Bool.not_eq_false'] at h4
          refine l_not rfl rfl rfl ?_
          refine l_q rfl (q_pick_f rfl rfl rfl) rfl rfl ?_
          refine l_q rfl (q_move rfl rfl) rfl rfl ?_
          refine l_not rfl rfl rfl ?_
          refine l_not rfl rfl rfl ?_
          refine l_not rfl rfl rfl ?_
          refine l_q rfl (q_pick_f rfl rfl rfl) rfl rfl ?_
          refine l_q rfl (q_move rfl rfl) rfl rfl ?_
          refine l_not rfl rfl rfl ?_
          refine l_not rfl rfl rfl ?_
          refine l_not rfl rfl rfl ?_
          refine l_not rfl rfl rfl ?_
          refine l_not rfl rfl rfl ?_
          refine l_not rfl rfl rfl ?_
          refine l_not rfl rfl rfl ?_
          refine l_not rfl rfl rfl ?_
          refine l_q rfl (q_pick_f rfl rfl rfl) rfl rfl ?_
          refine l_q rfl (q_assign rfl rfl) rfl rfl ?_
          refine l_nil ?_
          refine k_then ?_
          refine c_ret ?_
          refine r_one rfl rfl ?_
          exact fun _ h => ⟨(), congrArg (fun z => Ending.returned (Value.bool z)) (by first | (exfalso; omega) | (simp_all [mayB]; done) | (simp_all [mayB]; omega) | (cases hl : lrg o <;> simp_all [mayB] <;> omega)), trivial, h.nothing⟩
      · try simp only [Bool.not_eq_true', Bool.not_eq_false'] at h3
        refine l_q rfl (q_fieldAddr rfl Try.underlying37 rfl Try.sizeOf3 rfl rfl) rfl rfl ?_
        refine l_q rfl (q_loadC rfl Try.isAgg3 rfl (fun _ h => h.at 1 rfl) rfl) rfl rfl ?_
        refine l_q rfl (q_eql rfl rfl rfl) rfl rfl ?_
        refine l_q rfl (q_move rfl rfl) rfl rfl ?_
        refine Pre.caseB 32 rfl (fun h6 => ?_) (fun h6 => ?_)
        · try simp only [decide_eq_true_eq, decide_eq_false_iff_not, Bool.not_eq_true', Bool.not_eq_false'] at h6
          refine l_q rfl (q_fieldAddr rfl Try.underlying45 rfl Try.sizeOf40 rfl rfl) rfl rfl ?_
          refine l_q rfl (q_loadC rfl Try.isAgg40 rfl (fun _ h => h.at 0 rfl) rfl) rfl rfl ?_
          refine l_q rfl (q_eql rfl rfl rfl) rfl rfl ?_
          refine l_q rfl (q_pick_t rfl rfl rfl) rfl rfl ?_
          refine l_q rfl (q_pick_f rfl rfl rfl) rfl rfl ?_
          refine l_q rfl (q_assign rfl rfl) rfl rfl ?_
          refine l_nil ?_
          refine k_then ?_
          refine c_seq ?_
          refine c_region _ rfl ?_
          refine l_q rfl (q_move rfl rfl) rfl rfl ?_
          refine l_q rfl (q_move rfl rfl) rfl rfl ?_
          refine Pre.caseB 39 rfl (fun h7 => ?_) (fun h7 => ?_)
          · try simp only [decide_eq_true_eq, decide_eq_false_iff_not, Bool.not_eq_true', Bool.not_eq_false'] at h7
            refine l_q rfl (q_move rfl rfl) rfl rfl ?_
            refine l_q rfl (q_pick_t rfl rfl rfl) rfl rfl ?_
            refine l_q rfl (q_move rfl rfl) rfl rfl ?_
            refine Pre.caseB 42 rfl (fun h8 => ?_) (fun h8 => ?_)
            · try simp only [decide_eq_true_eq, decide_eq_false_iff_not, Bool.not_eq_true', Bool.not_eq_false'] at h8
              refine l_q rfl (q_fieldAddr rfl Try.underlying45 rfl Try.sizeOf43 rfl rfl) rfl rfl ?_
              refine l_q rfl (q_loadCAgg (a.v.c) rfl Try.isAgg43 Try.sizeOf43 rfl (fun _ h => h.at 0 rfl) (An.v_part _) (Kv.c_len _)) rfl rfl ?_
              refine l_e rfl ?_
              refine e_call_00 (vcheck_spec a.v) rfl rfl rfl Try.call34 rfl (fun _ _ => trivial) ?_
              intro _ _
              refine l_q rfl (q_pick_t rfl rfl rfl) rfl rfl ?_
              refine l_q rfl (q_move rfl rfl) rfl rfl ?_
              refine Pre.caseB 47 rfl (fun h9 => ?_) (fun h9 => ?_)
              · try simp only [decide_eq_true_eq, decide_eq_false_iff_not, Bool.not_eq_true', Bool.not_eq_false'] at h9
                refine l_q rfl (q_fieldAddr rfl Try.underlying45 rfl Try.sizeOf4 rfl rfl) rfl rfl ?_
                refine l_q rfl (q_loadC rfl Try.isAgg4 rfl (fun _ h => h.at 0 rfl) rfl) rfl rfl ?_
                refine l_q rfl (q_move rfl rfl) rfl rfl ?_
                refine Pre.setB (t := 50) (c := true) rfl (h3) ?_
                refine l_not rfl rfl rfl ?_
                refine l_not rfl rfl rfl ?_
                refine l_not rfl rfl rfl ?_
                refine l_not rfl rfl rfl ?_
                refine l_q rfl (q_pick_t rfl rfl rfl) rfl rfl ?_
                refine l_q rfl (q_pick_t rfl rfl rfl) rfl rfl ?_
                refine l_q rfl (q_assign rfl rfl) rfl rfl ?_
                refine l_nil ?_
                refine k_then ?_
                refine c_ret ?_
                refine r_one rfl rfl ?_
                exact fun _ h => ⟨(), congrArg (fun z => Ending.returned (Value.bool z)) (by first | (exfalso; omega) | (simp_all [mayB]; done) | (simp_all [mayB]; omega) | (cases hl : lrg o <;> simp_all [mayB] <;> omega)), trivial, h.nothing⟩
              · try simp only [decide_eq_true_eq, decide_eq_false_iff_not, Bool.not_eq_true', Bool.not_eq_false'] at h9
                refine l_not rfl rfl rfl ?_
                refine l_not rfl rfl rfl ?_
                refine l_not rfl rfl rfl ?_
                refine l_not rfl rfl rfl ?_
                refine l_not rfl rfl rfl ?_
                refine l_not rfl rfl rfl ?_
                refine l_not rfl rfl rfl ?_
                refine l_not rfl rfl rfl ?_
                refine l_q rfl (q_pick_f rfl rfl rfl) rfl rfl ?_
                refine l_q rfl (q_assign rfl rfl) rfl rfl ?_
                refine l_nil ?_
                refine k_then ?_
                refine c_ret ?_
                refine r_one rfl rfl ?_
                exact fun _ h => ⟨(), congrArg (fun z => Ending.returned (Value.bool z)) (by first | (exfalso; omega) | (simp_all [mayB]; done) | (simp_all [mayB]; omega) | (cases hl : lrg o <;> simp_all [mayB] <;> omega)), trivial, h.nothing⟩
            · try simp only [decide_eq_true_eq, decide_eq_false_iff_not, Bool.not_eq_true', Bool.not_eq_false'] at h8
              refine l_not rfl rfl rfl ?_
              refine l_not rfl rfl rfl ?_
              refine l_not rfl rfl rfl ?_
              refine l_q rfl (q_pick_f rfl rfl rfl) rfl rfl ?_
              refine l_q rfl (q_move rfl rfl) rfl rfl ?_
              refine l_not rfl rfl rfl ?_
              refine l_not rfl rfl rfl ?_
              refine l_not rfl rfl rfl ?_
              refine l_not rfl rfl rfl ?_
              refine l_not rfl rfl rfl ?_
              refine l_not rfl rfl rfl ?_
              refine l_not rfl rfl rfl ?_
              refine l_not rfl rfl rfl ?_
              refine l_q rfl (q_pick_f rfl rfl rfl) rfl rfl ?_
              refine l_q rfl (q_assign rfl rfl) rfl rfl ?_
              refine l_nil ?_
              refine k_then ?_
              refine c_ret ?_
              refine r_one rfl rfl ?_
              exact fun _ h => ⟨(), congrArg (fun z => Ending.returned (Value.bool z)) (by first | (exfalso; omega) | (simp_all [mayB]; done) | (simp_all [mayB]; omega) | (cases hl : lrg o <;> simp_all [mayB] <;> omega)), trivial, h.nothing⟩
          · try simp only [decide_eq_true_eq, decide_eq_false_iff_not, Bool.not_eq_true', Bool.not_eq_false'] at h7
            refine l_not rfl rfl rfl ?_
            refine l_q rfl (q_pick_f rfl rfl rfl) rfl rfl ?_
            refine l_q rfl (q_move rfl rfl) rfl rfl ?_
            refine l_not rfl rfl rfl ?_
            refine l_not rfl rfl rfl ?_
            refine l_not rfl rfl rfl ?_
            refine l_q rfl (q_pick_f rfl rfl rfl) rfl rfl ?_
            refine l_q rfl (q_move rfl rfl) rfl rfl ?_
            refine l_not rfl rfl rfl ?_
            refine l_not rfl rfl rfl ?_
            refine l_not rfl rfl rfl ?_
            refine l_not rfl rfl rfl ?_
            refine l_not rfl rfl rfl ?_
            refine l_not rfl rfl rfl ?_
            refine l_not rfl rfl rfl ?_
            refine l_not rfl rfl rfl ?_
            refine l_q rfl (q_pick_f rfl rfl rfl) rfl rfl ?_
            refine l_q rfl (q_assign rfl rfl) rfl rfl ?_
            refine l_nil ?_
            refine k_then ?_
            refine c_ret ?_
            refine r_one rfl rfl ?_
            exact fun _ h => ⟨(), congrArg (fun z => Ending.returned (Value.bool z)) (by first | (exfalso; omega) | (simp_all [mayB]; done) | (simp_all [mayB]; omega) | (cases hl : lrg o <;> simp_all [mayB] <;> omega)), trivial, h.nothing⟩
        · try simp only [decide_eq_true_eq, decide_eq_false_iff_not, Bool.not_eq_true', Bool.not_eq_false'] at h6
          refine l_not rfl rfl rfl ?_
          refine l_not rfl rfl rfl ?_
          refine l_not rfl rfl rfl ?_
          refine l_q rfl (q_pick_f rfl rfl rfl) rfl rfl ?_
          refine l_q rfl (q_pick_f rfl rfl rfl) rfl rfl ?_
          refine l_q rfl (q_assign rfl rfl) rfl rfl ?_
          refine l_nil ?_
          refine k_then ?_
          refine c_seq ?_
          refine c_region _ rfl ?_
          refine l_q rfl (q_move rfl rfl) rfl rfl ?_
          refine l_q rfl (q_move rfl rfl) rfl rfl ?_
          refine Pre.caseB 39 rfl (fun h10 => ?_) (fun h10 => ?_)
          · try simp only [decide_eq_true_eq, decide_eq_false_iff_not, Bool.not_eq_true', Bool.not_eq_false'] at h10
            refine l_q rfl (q_move rfl rfl) rfl rfl ?_
            refine l_q rfl (q_pick_t rfl rfl rfl) rfl rfl ?_
            refine l_q rfl (q_move rfl rfl) rfl rfl ?_
            refine l_not rfl rfl rfl ?_
            refine l_not rfl rfl rfl ?_
            refine l_not rfl rfl rfl ?_
            refine l_q rfl (q_pick_f rfl rfl rfl) rfl rfl ?_
            refine l_q rfl (q_move rfl rfl) rfl rfl ?_
            refine l_not rfl rfl rfl ?_
            refine l_not rfl rfl rfl ?_
            refine l_not rfl rfl rfl ?_
            refine l_not rfl rfl rfl ?_
            refine l_not rfl rfl rfl ?_
            refine l_not rfl rfl rfl ?_
            refine l_not rfl rfl rfl ?_
            refine l_not rfl rfl rfl ?_
            refine l_q rfl (q_pick_f rfl rfl rfl) rfl rfl ?_
            refine l_q rfl (q_assign rfl rfl) rfl rfl ?_
            refine l_nil ?_
            refine k_then ?_
            refine c_ret ?_
            refine r_one rfl rfl ?_
            exact fun _ h => ⟨(), congrArg (fun z => Ending.returned (Value.bool z)) (by first | (exfalso; omega) | (simp_all [mayB]; done) | (simp_all [mayB]; omega) | (cases hl : lrg o <;> simp_all [mayB] <;> omega)), trivial, h.nothing⟩
          · try simp only [decide_eq_true_eq, decide_eq_false_iff_not, Bool.not_eq_true', Bool.not_eq_false'] at h10
            refine l_not rfl rfl rfl ?_
            refine l_q rfl (q_pick_f rfl rfl rfl) rfl rfl ?_
            refine l_q rfl (q_move rfl rfl) rfl rfl ?_
            refine l_not rfl rfl rfl ?_
            refine l_not rfl rfl rfl ?_
            refine l_not rfl rfl rfl ?_
            refine l_q rfl (q_pick_f rfl rfl rfl) rfl rfl ?_
            refine l_q rfl (q_move rfl rfl) rfl rfl ?_
            refine l_not rfl rfl rfl ?_
            refine l_not rfl rfl rfl ?_
            refine l_not rfl rfl rfl ?_
            refine l_not rfl rfl rfl ?_
            refine l_not rfl rfl rfl ?_
            refine l_not rfl rfl rfl ?_
            refine l_not rfl rfl rfl ?_
            refine l_not rfl rfl rfl ?_
            refine l_q rfl (q_pick_f rfl rfl rfl) rfl rfl ?_
            refine l_q rfl (q_assign rfl rfl) rfl rfl ?_
            refine l_nil ?_
            refine k_then ?_
            refine c_ret ?_
            refine r_one rfl rfl ?_
            exact fun _ h => ⟨(), congrArg (fun z => Ending.returned (Value.bool z)) (by first | (exfalso; omega) | (simp_all [mayB]; done) | (simp_all [mayB]; omega) | (cases hl : lrg o <;> simp_all [mayB] <;> omega)), trivial, h.nothing⟩
    · try simp only [decide_eq_true_eq, decide_eq_false_iff_not, Bool.not_eq_true', Bool.not_eq_false'] at h2
      refine c_false rfl ?_
      refine c_skip ?_
      refine k_then ?_
      refine c_seq ?_
      refine c_region _ rfl ?_
      refine l_q rfl (q_fieldAddr rfl Try.underlying45 rfl Try.sizeOf4 rfl rfl) rfl rfl ?_
      refine l_q rfl (q_loadC rfl Try.isAgg4 rfl (fun _ h => h.at 0 rfl) rfl) rfl rfl ?_
      refine l_q rfl (q_not rfl rfl) rfl rfl ?_
      refine l_q rfl (q_move rfl rfl) rfl rfl ?_
      refine Pre.caseB 28 rfl (fun h11 => ?_) (fun h11 => ?_)
      · try simp only [Bool.not_eq_true', Bool.not_eq_false'] at h11
        refine l_not rfl rfl rfl ?_
        refine l_not rfl rfl rfl ?_
        refine l_not rfl rfl rfl ?_
        refine l_not rfl rfl rfl ?_
        refine l_not rfl rfl rfl ?_
        refine l_not rfl rfl rfl ?_
        refine l_not rfl rfl rfl ?_
        refine l_not rfl rfl rfl ?_
        refine l_q rfl (q_pick_t rfl rfl rfl) rfl rfl ?_
        refine l_q rfl (q_assign rfl rfl) rfl rfl ?_
        refine l_nil ?_
        refine k_then ?_
        refine c_seq ?_
        refine c_region _ rfl ?_
        refine l_q rfl (q_move rfl rfl) rfl rfl ?_
        refine l_q rfl (q_move rfl rfl) rfl rfl ?_
        refine l_q rfl (q_move rfl rfl) rfl rfl ?_
        refine l_q rfl (q_pick_t rfl rfl rfl) rfl rfl ?_
        refine l_q rfl (q_move rfl rfl) rfl rfl ?_
        refine l_q rfl (q_fieldAddr rfl Try.underlying45 rfl Try.sizeOf43 rfl rfl) rfl rfl ?_
        refine l_q rfl (q_loadCAgg (a.v.c) rfl Try.isAgg43 Try.sizeOf43 rfl (fun _ h => h.at 0 rfl) (An.v_part _) (Kv.c_len _)) rfl rfl ?_
        refine l_e rfl ?_
        refine e_call_00 (vcheck_spec a.v) rfl rfl rfl Try.call34 rfl (fun _ _ => trivial) ?_
        intro _ _
        refine l_q rfl (q_pick_t rfl rfl rfl) rfl rfl ?_
        refine l_q rfl (q_move rfl rfl) rfl rfl ?_
        refine Pre.caseB 47 rfl (fun h12 => ?_) (fun h12 => ?_)
        · try simp only [decide_eq_true_eq, decide_eq_false_iff_not, Bool.not_eq_true', Bool.not_eq_false'] at h12
          refine l_q rfl (q_fieldAddr rfl Try.underlying45 rfl Try.sizeOf4 rfl rfl) rfl rfl ?_
          refine l_q rfl (q_loadC rfl Try.isAgg4 rfl (fun _ h => h.at 0 rfl) rfl) rfl rfl ?_
          refine l_q rfl (q_move rfl rfl) rfl rfl ?_
          refine Pre.setB (t := 50) (c := false) rfl (h11) ?_
          refine l_q rfl (q_fieldAddr rfl Try.underlying45 rfl Try.sizeOf43 rfl rfl) rfl rfl ?_
          refine l_q rfl (q_loadCAgg (a.v.c) rfl Try.isAgg43 Try.sizeOf43 rfl (fun _ h => h.at 0 rfl) (An.v_part _) (Kv.c_len _)) rfl rfl ?_
          refine l_q rfl (q_build ((kv0 16).c) rfl rfl (fun w => by kernel_rfl)) rfl rfl ?_
          refine l_q rfl (q_eqV (a.v) ((kv0 16)) rfl rfl rfl) rfl rfl ?_
          refine l_q rfl (q_pick_f rfl rfl rfl) rfl rfl ?_
          refine l_q rfl (q_pick_t rfl rfl rfl) rfl rfl ?_
          refine l_q rfl (q_assign rfl rfl) rfl rfl ?_
          refine l_nil ?_
          refine k_then ?_
          refine c_ret ?_
          refine r_one rfl rfl ?_
          exact fun _ h => ⟨(), congrArg (fun z => Ending.returned (Value.bool z)) (by first | (exfalso; omega) | (simp_all [mayB]; done) | (simp_all [mayB]; omega) | (cases hl : lrg o <;> simp_all [mayB] <;> omega)), trivial, h.nothing⟩
        · try simp only [decide_eq_true_eq, decide_eq_false_iff_not, Bool.not_eq_true', Bool.not_eq_false'] at h12
          refine l_not rfl rfl rfl ?_
          refine l_not rfl rfl rfl ?_
          refine l_not rfl rfl rfl ?_
          refine l_not rfl rfl rfl ?_
          refine l_not rfl rfl rfl ?_
          refine l_not rfl rfl rfl ?_
          refine l_not rfl rfl rfl ?_
          refine l_not rfl rfl rfl ?_
          refine l_q rfl (q_pick_f rfl rfl rfl) rfl rfl ?_
          refine l_q rfl (q_assign rfl rfl) rfl rfl ?_
          refine l_nil ?_
          refine k_then ?_
          refine c_ret ?_
          refine r_one rfl rfl ?_
          exact fun _ h => ⟨(), congrArg (fun z => Ending.returned (Value.bool z)) (by first | (exfalso; omega) | (simp_all [mayB]; done) | (simp_all [mayB]; omega) | (cases hl : lrg o <;> simp_all [mayB] <;> omega)), trivial, h.nothing⟩
      · try simp only [Bool.not_eq_true', Bool.not_eq_false'] at h11
        refine l_q rfl (q_fieldAddr rfl Try.underlying37 rfl Try.sizeOf3 rfl rfl) rfl rfl ?_
        refine l_q rfl (q_loadC rfl Try.isAgg3 rfl (fun _ h => h.at 1 rfl) rfl) rfl rfl ?_
        refine l_q rfl (q_eql rfl rfl rfl) rfl rfl ?_
        refine l_q rfl (q_move rfl rfl) rfl rfl ?_
        refine Pre.caseB 32 rfl (fun h13 => ?_) (fun h13 => ?_)
        · try simp only [decide_eq_true_eq, decide_eq_false_iff_not, Bool.not_eq_true', Bool.not_eq_false'] at h13
          refine l_q rfl (q_fieldAddr rfl Try.underlying45 rfl Try.sizeOf40 rfl rfl) rfl rfl ?_
          refine l_q rfl (q_loadC rfl Try.isAgg40 rfl (fun _ h => h.at 0 rfl) rfl) rfl rfl ?_
          refine l_q rfl (q_eql rfl rfl rfl) rfl rfl ?_
          refine l_q rfl (q_pick_t rfl rfl rfl) rfl rfl ?_
          refine l_q rfl (q_pick_f rfl rfl rfl) rfl rfl ?_
          refine l_q rfl (q_assign rfl rfl) rfl rfl ?_
          refine l_nil ?_
          refine k_then ?_
          refine c_seq ?_
          refine c_region _ rfl ?_
          refine l_q rfl (q_move rfl rfl) rfl rfl ?_
          refine l_q rfl (q_move rfl rfl) rfl rfl ?_
          refine l_q rfl (q_move rfl rfl) rfl rfl ?_
          refine l_q rfl (q_pick_t rfl rfl rfl) rfl rfl ?_
          refine l_q rfl (q_move rfl rfl) rfl rfl ?_
          refine Pre.caseB 42 rfl (fun h14 => ?_) (fun h14 => ?_)
          · try simp only [decide_eq_true_eq, decide_eq_false_iff_not, Bool.not_eq_true', Bool.not_eq_false'] at h14
            refine l_q rfl (q_fieldAddr rfl Try.underlying45 rfl Try.sizeOf43 rfl rfl) rfl rfl ?_
            refine l_q rfl (q_loadCAgg (a.v.c) rfl Try.isAgg43 Try.sizeOf43 rfl (fun _ h => h.at 0 rfl) (An.v_part _) (Kv.c_len _)) rfl rfl ?_
            refine l_e rfl ?_
            refine e_call_00 (vcheck_spec a.v) rfl rfl rfl Try.call34 rfl (fun _ _ => trivial) ?_
            intro _ _
            refine l_q rfl (q_pick_t rfl rfl rfl) rfl rfl ?_
            refine l_q rfl (q_move rfl rfl) rfl rfl ?_
            refine Pre.caseB 47 rfl (fun h15 => ?_) (fun h15 => ?_)
            · try simp only [decide_eq_true_eq, decide_eq_false_iff_not, Bool.not_eq_true', Bool.not_eq_false'] at h15
              refine l_q rfl (q_fieldAddr rfl Try.underlying45 rfl Try.sizeOf4 rfl rfl) rfl rfl ?_
              refine l_q rfl (q_loadC rfl Try.isAgg4 rfl (fun _ h => h.at 0 rfl) rfl) rfl rfl ?_
              refine l_q rfl (q_move rfl rfl) rfl rfl ?_
              refine Pre.setB (t := 50) (c := true) rfl (h11) ?_
              refine l_not rfl rfl rfl ?_
              refine l_not rfl rfl rfl ?_
              refine l_not rfl rfl rfl ?_
              refine l_not rfl rfl rfl ?_
              refine l_q rfl (q_pick_t rfl rfl rfl) rfl rfl ?_
              refine l_q rfl (q_pick_t rfl rfl rfl) rfl rfl ?_
              refine l_q rfl (q_assign rfl rfl) rfl rfl ?_
              refine l_nil ?_
              refine k_then ?_
              refine c_ret ?_
              refine r_one rfl rfl ?_
              exact fun _ h => ⟨(), congrArg (fun z => Ending.returned (Value.bool z)) (by first | (exfalso; omega) | (simp_all [mayB]; done) | (simp_all [mayB]; omega) | (cases hl : lrg o <;> simp_all [mayB] <;> omega)), trivial, h.nothing⟩
            · try simp only [decide_eq_true_eq, decide_eq_false_iff_not, Bool.not_eq_true', Bool.not_eq_false'] at h15
              refine l_not rfl rfl rfl ?_
              refine l_not rfl rfl rfl ?_
              refine l_not rfl rfl rfl ?_
              refine l_not rfl rfl rfl ?_
              refine l_not rfl rfl rfl ?_
              refine l_not rfl rfl rfl ?_
              refine l_not rfl rfl rfl ?_
              refine l_not rfl rfl rfl ?_
              refine l_q rfl (q_pick_f rfl rfl rfl) rfl rfl ?_
              refine l_q rfl (q_assign rfl rfl) rfl rfl ?_
              refine l_nil ?_
              refine k_then ?_
              refine c_ret ?_
              refine r_one rfl rfl ?_
              exact fun _ h => ⟨(), congrArg (fun z => Ending.returned (Value.bool z)) (by first | (exfalso; omega) | (simp_all [mayB]; done) | (simp_all [mayB]; omega) | (cases hl : lrg o <;> simp_all [mayB] <;> omega)), trivial, h.nothing⟩
          · try simp only [decide_eq_true_eq, decide_eq_false_iff_not, Bool.not_eq_true', Bool.not_eq_false'] at h14
            refine l_not rfl rfl rfl ?_
            refine l_not rfl rfl rfl ?_
            refine l_not rfl rfl rfl ?_
            refine l_q rfl (q_pick_f rfl rfl rfl) rfl rfl ?_
            refine l_q rfl (q_move rfl rfl) rfl rfl ?_
            refine l_not rfl rfl rfl ?_
            refine l_not rfl rfl rfl ?_
            refine l_not rfl rfl rfl ?_
            refine l_not rfl rfl rfl ?_
            refine l_not rfl rfl rfl ?_
            refine l_not rfl rfl rfl ?_
            refine l_not rfl rfl rfl ?_
            refine l_not rfl rfl rfl ?_
            refine l_q rfl (q_pick_f rfl rfl rfl) rfl rfl ?_
            refine l_q rfl (q_assign rfl rfl) rfl rfl ?_
            refine l_nil ?_
            refine k_then ?_
            refine c_ret ?_
            refine r_one rfl rfl ?_
            exact fun _ h => ⟨(), congrArg (fun z => Ending.returned (Value.bool z)) (by first | (exfalso; omega) | (simp_all [mayB]; done) | (simp_all [mayB]; omega) | (cases hl : lrg o <;> simp_all [mayB] <;> omega)), trivial, h.nothing⟩
        · try simp only [decide_eq_true_eq, decide_eq_false_iff_not, Bool.not_eq_true', Bool.not_eq_false'] at h13
          refine l_not rfl rfl rfl ?_
          refine l_not rfl rfl rfl ?_
          refine l_not rfl rfl rfl ?_
          refine l_q rfl (q_pick_f rfl rfl rfl) rfl rfl ?_
          refine l_q rfl (q_pick_f rfl rfl rfl) rfl rfl ?_
          refine l_q rfl (q_assign rfl rfl) rfl rfl ?_
          refine l_nil ?_
          refine k_then ?_
          refine c_seq ?_
          refine c_region _ rfl ?_
          refine l_q rfl (q_move rfl rfl) rfl rfl ?_
          refine l_q rfl (q_move rfl rfl) rfl rfl ?_
          refine l_q rfl (q_move rfl rfl) rfl rfl ?_
          refine l_q rfl (q_pick_t rfl rfl rfl) rfl rfl ?_
          refine l_q rfl (q_move rfl rfl) rfl rfl ?_
          refine l_not rfl rfl rfl ?_
          refine l_not rfl rfl rfl ?_
          refine l_not rfl rfl rfl ?_
          refine l_q rfl (q_pick_f rfl rfl rfl) rfl rfl ?_
          refine l_q rfl (q_move rfl rfl) rfl rfl ?_
          refine l_not rfl rfl rfl ?_
          refine l_not rfl rfl rfl ?_
          refine l_not rfl rfl rfl ?_
          refine l_not rfl rfl rfl ?_
          refine l_not rfl rfl rfl ?_
          refine l_not rfl rfl rfl ?_
          refine l_not rfl rfl rfl ?_
          refine l_not rfl rfl rfl ?_
          refine l_q rfl (q_pick_f rfl rfl rfl) rfl rfl ?_
          refine l_q rfl (q_assign rfl rfl) rfl rfl ?_
          refine l_nil ?_
          refine k_then ?_
          refine c_ret ?_
          refine r_one rfl rfl ?_
          exact fun _ h => ⟨(), congrArg (fun z => Ending.returned (Value.bool z)) (by first | (exfalso; omega) | (simp_all [mayB]; done) | (simp_all [mayB]; omega) | (cases hl : lrg o <;> simp_all [mayB] <;> omega)), trivial, h.nothing⟩
  · try simp only [decide_eq_true_eq, decide_eq_false_iff_not, Bool.not_eq_true', Bool.not_eq_false'] at h1
    refine l_q rfl (q_fieldAddr rfl Try.underlying45 rfl Try.sizeOf40 rfl rfl) rfl rfl ?_
    refine l_q rfl (q_loadC rfl Try.isAgg40 rfl (fun _ h => h.at 0 rfl) rfl) rfl rfl ?_
    refine l_q rfl (q_eql rfl rfl rfl) rfl rfl ?_
    refine l_q rfl (q_move rfl rfl) rfl rfl ?_
    refine Pre.caseB 14 rfl (fun h16 => ?_) (fun h16 => ?_)
    · try simp only [decide_eq_true_eq, decide_eq_false_iff_not, Bool.not_eq_true', Bool.not_eq_false'] at h16
      refine l_q rfl (q_fieldAddr rfl Try.underlying37 rfl Try.sizeOf3 rfl rfl) rfl rfl ?_
      refine l_q rfl (q_loadC rfl Try.isAgg3 rfl (fun _ h => h.at 1 rfl) rfl) rfl rfl ?_
      refine l_q rfl (q_neq rfl rfl rfl) rfl rfl ?_
      refine l_q rfl (q_pick_t rfl rfl rfl) rfl rfl ?_
      refine l_q rfl (q_pick_f rfl rfl rfl) rfl rfl ?_
      refine l_q rfl (q_assign rfl rfl) rfl rfl ?_
      refine l_nil ?_
      refine k_then ?_
      refine c_seq ?_
      refine c_seq ?_
      refine c_region _ rfl ?_
      refine l_q rfl (q_loadCAgg (o.c) rfl Try.isAgg37 Try.sizeOf37 rfl (fun _ h => h.at 1 rfl) (rfl) (rfl)) rfl rfl ?_
      refine l_e rfl ?_
      refine e_call_00 (lrg_spec o) rfl rfl rfl Try.call23 rfl (fun _ _ => trivial) ?_
      intro _ _
      refine l_nil ?_
      refine k_then ?_
      refine Pre.caseB 21 rfl (fun h17 => ?_) (fun h17 => ?_)
      · try simp only [decide_eq_true_eq, decide_eq_false_iff_not, Bool.not_eq_true', Bool.not_eq_false'] at h17
        refine c_true rfl ?_
        refine c_region _ rfl ?_
        refine l_q rfl (q_fieldAddr rfl Try.underlying45 rfl Try.sizeOf40 rfl rfl) rfl rfl ?_
        refine l_q rfl (q_loadC rfl Try.isAgg40 rfl (fun _ h => h.at 0 rfl) rfl) rfl rfl ?_
        refine l_q rfl (q_eql rfl rfl rfl) rfl rfl ?_
        refine l_q rfl (q_assign rfl rfl) rfl rfl ?_
        refine l_nil ?_
        refine k_then ?_
        refine c_seq ?_
        refine c_region _ rfl ?_
        refine l_q rfl (q_fieldAddr rfl Try.underlying45 rfl Try.sizeOf4 rfl rfl) rfl rfl ?_
        refine l_q rfl (q_loadC rfl Try.isAgg4 rfl (fun _ h => h.at 0 rfl) rfl) rfl rfl ?_
        refine l_q rfl (q_not rfl rfl) rfl rfl ?_
        refine l_q rfl (q_move rfl rfl) rfl rfl ?_
        refine Pre.caseB 28 rfl (fun h18 => ?_) (fun h18 => ?_)
        · try simp only [Bool.not_eq_true', Bool.not_eq_false'] at h18
          refine l_not rfl rfl rfl ?_
          refine l_not rfl rfl rfl ?_
          refine l_not rfl rfl rfl ?_
          refine l_not rfl rfl rfl ?_
          refine l_not rfl rfl rfl ?_
          refine l_not rfl rfl rfl ?_
          refine l_not rfl rfl rfl ?_
          refine l_not rfl rfl rfl ?_
          refine l_q rfl (q_pick_t rfl rfl rfl) rfl rfl ?_
          refine l_q rfl (q_assign rfl rfl) rfl rfl ?_
          refine l_nil ?_
          refine k_then ?_
          refine c_seq ?_
          refine c_region _ rfl ?_
          refine l_q rfl (q_move rfl rfl) rfl rfl ?_
          refine l_q rfl (q_move rfl rfl) rfl rfl ?_
          refine Pre.caseB 39 rfl (fun h19 => ?_) (fun h19 => ?_)
          · try simp only [decide_eq_true_eq, decide_eq_false_iff_not, Bool.not_eq_true', Bool.not_eq_false'] at h19
            refine l_q rfl (q_move rfl rfl) rfl rfl ?_
            refine l_q rfl (q_pick_t rfl rfl rfl) rfl rfl ?_
            refine l_q rfl (q_move rfl rfl) rfl rfl ?_
            refine l_q rfl (q_fieldAddr rfl Try.underlying45 rfl Try.sizeOf43 rfl rfl) rfl rfl ?_
            refine l_q rfl (q_loadCAgg (a.v.c) rfl Try.isAgg43 Try.sizeOf43 rfl (fun _ h => h.at 0 rfl) (An.v_part _) (Kv.c_len _)) rfl rfl ?_
            refine l_e rfl ?_
            refine e_call_00 (vcheck_spec a.v) rfl rfl rfl Try.call34 rfl (fun _ _ => trivial) ?_
            intro _ _
            refine l_q rfl (q_pick_t rfl rfl rfl) rfl rfl ?_
            refine l_q rfl (q_move rfl rfl) rfl rfl ?_
            refine Pre.caseB 47 rfl (fun h20 => ?_) (fun h20 => ?_)
            · try simp only [decide_eq_true_eq, decide_eq_false_iff_not, Bool.not_eq_true', Bool.not_eq_false'] at h20
              refine l_q rfl (q_fieldAddr rfl Try.underlying45 rfl Try.sizeOf4 rfl rfl) rfl rfl ?_
              refine l_q rfl (q_loadC rfl Try.isAgg4 rfl (fun _ h => h.at 0 rfl) rfl) rfl rfl ?_
              refine l_q rfl (q_move rfl rfl) rfl rfl ?_
              refine Pre.setB (t := 50) (c := false) rfl (h18) ?_
              refine l_q rfl (q_fieldAddr rfl Try.underlying45 rfl Try.sizeOf43 rfl rfl) rfl rfl ?_
              refine l_q rfl (q_loadCAgg (a.v.c) rfl Try.isAgg43 Try.sizeOf43 rfl (fun _ h => h.at 0 rfl) (An.v_part _) (Kv.c_len _)) rfl rfl ?_
              refine l_q rfl (q_build ((kv0 16).c) rfl rfl (fun w => by kernel_rfl)) rfl rfl ?_
              refine l_q rfl (q_eqV (a.v) ((kv0 16)) rfl rfl rfl) rfl rfl ?_
              refine l_q rfl (q_pick_f rfl rfl rfl) rfl rfl ?_
              refine l_q rfl (q_pick_t rfl rfl rfl) rfl rfl ?_
              refine l_q rfl (q_assign rfl rfl) rfl rfl ?_
              refine l_nil ?_
              refine k_then ?_
              refine c_ret ?_
              refine r_one rfl rfl ?_
              exact fun _ h => ⟨(), congrArg (fun z => Ending.returned (Value.bool z)) (by first | (exfalso; omega) | (simp_all [mayB]; done) | (simp_all [mayB]; omega) | (cases hl : lrg o <;> simp_all [mayB] <;> omega)), trivial, h.nothing⟩
            · try simp only [decide_eq_true_eq, decide_eq_false_iff_not, Bool.not_eq_true', Bool.not_eq_false'] at h20
              refine l_not rfl rfl rfl ?_
              refine l_not rfl rfl rfl ?_
              refine l_not rfl rfl rfl ?_
              refine l_not rfl rfl rfl ?_
              refine l_not rfl rfl rfl ?_
              refine l_not rfl rfl rfl ?_
              refine l_not rfl rfl rfl ?_
              refine l_not rfl rfl rfl ?_
              refine l_q rfl (q_pick_f rfl rfl rfl) rfl rfl ?_
              refine l_q rfl (q_assign rfl rfl) rfl rfl ?_
              refine l_nil ?_
              refine k_then ?_
              refine c_ret ?_
              refine r_one rfl rfl ?_
              exact fun _ h => ⟨(), congrArg (fun z => Ending.returned (Value.bool z)) (by first | (exfalso; omega) | (simp_all [mayB]; done) | (simp_all [mayB]; omega) | (cases hl : lrg o <;> simp_all [mayB] <;> omega)), trivial, h.nothing⟩
          · try simp only [decide_eq_true_eq, decide_eq_false_iff_not, Bool.not_eq_true', Bool.not_eq_false'] at h19
            refine l_not rfl rfl rfl ?_
            refine l_q rfl (q_pick_f rfl rfl rfl) rfl rfl ?_
            refine l_q rfl (q_move rfl rfl) rfl rfl ?_
            refine l_not rfl rfl rfl ?_
            refine l_not rfl rfl rfl ?_
            refine l_not rfl rfl rfl ?_
            refine l_q rfl (q_pick_f rfl rfl rfl) rfl rfl ?_
            refine l_q rfl (q_move rfl rfl) rfl rfl ?_
            refine l_not rfl rfl rfl ?_
            refine l_not rfl rfl rfl ?_
            refine l_not rfl rfl rfl ?_
            refine l_not rfl rfl rfl ?_
            refine l_not rfl rfl rfl ?_
            refine l_not rfl rfl rfl ?_
            refine l_not rfl rfl rfl ?_
            refine l_not rfl rfl rfl ?_
            refine l_q rfl (q_pick_f rfl rfl rfl) rfl rfl ?_
            refine l_q rfl (q_assign rfl rfl) rfl rfl ?_
            refine l_nil ?_
            refine k_then ?_
            refine c_ret ?_
            refine r_one rfl rfl ?_
            exact fun _ h => ⟨(), congrArg (fun z => Ending.returned (Value.bool z)) (by first | (exfalso; omega) | (simp_all [mayB]; done) | (simp_all [mayB]; omega) | (cases hl : lrg o <;> simp_all [mayB] <;> omega)), trivial, h.nothing⟩
        · try simp only [Bool.not_eq_true', Bool.not_eq_false'] at h18
          refine l_q rfl (q_fieldAddr rfl Try.underlying37 rfl Try.sizeOf3 rfl rfl) rfl rfl ?_
          refine l_q rfl (q_loadC rfl Try.isAgg3 rfl (fun _ h => h.at 1 rfl) rfl) rfl rfl ?_
          refine l_q rfl (q_eql rfl rfl rfl) rfl rfl ?_
          refine l_q rfl (q_move rfl rfl) rfl rfl ?_
          refine Pre.caseB 32 rfl (fun h21 => ?_) (fun h21 => ?_)
          · try simp only [decide_eq_true_eq, decide_eq_false_iff_not, Bool.not_eq_true', Bool.not_eq_false'] at h21
            refine l_q rfl (q_fieldAddr rfl Try.underlying45 rfl Try.sizeOf40 rfl rfl) rfl rfl ?_
            refine l_q rfl (q_loadC rfl Try.isAgg40 rfl (fun _ h => h.at 0 rfl) rfl) rfl rfl ?_
            refine l_q rfl (q_eql rfl rfl rfl) rfl rfl ?_
            refine l_q rfl (q_pick_t rfl rfl rfl) rfl rfl ?_
            refine l_q rfl (q_pick_f rfl rfl rfl) rfl rfl ?_
            refine l_q rfl (q_assign rfl rfl) rfl rfl ?_
            refine l_nil ?_
            refine k_then ?_
            refine c_seq ?_
            refine c_region _ rfl ?_
            refine l_q rfl (q_move rfl rfl) rfl rfl ?_
            refine l_q rfl (q_move rfl rfl) rfl rfl ?_
            refine Pre.caseB 39 rfl (fun h22 => ?_) (fun h22 => ?_)
            · try simp only [decide_eq_true_eq, decide_eq_false_iff_not, Bool.not_eq_true', Bool.not_eq_false'] at h22
              refine l_q rfl (q_move rfl rfl) rfl rfl ?_
              refine l_q rfl (q_pick_t rfl rfl rfl) rfl rfl ?_
              refine l_q rfl (q_move rfl rfl) rfl rfl ?_
              refine Pre.caseB 42 rfl (fun h23 => ?_) (fun h23 => ?_)
              · try simp only [decide_eq_true_eq, decide_eq_false_iff_not, Bool.not_eq_true', Bool.not_eq_false'] at h23
                refine l_q rfl (q_fieldAddr rfl Try.underlying45 rfl Try.sizeOf43 rfl rfl) rfl rfl ?_
                refine l_q rfl (q_loadCAgg (a.v.c) rfl Try.isAgg43 Try.sizeOf43 rfl (fun _ h => h.at 0 rfl) (An.v_part _) (Kv.c_len _)) rfl rfl ?_
                refine l_e rfl ?_
                refine e_call_00 (vcheck_spec a.v) rfl rfl rfl Try.call34 rfl (fun _ _ => trivial) ?_
                intro _ _
                refine l_q rfl (q_pick_t rfl rfl rfl) rfl rfl ?_
                refine l_q rfl (q_move rfl rfl) rfl rfl ?_
                refine Pre.caseB 47 rfl (fun h24 => ?_) (fun h24 => ?_)
                · try simp only [decide_eq_true_eq, decide_eq_false_iff_not, Bool.not_eq_true', Bool.not_eq_false'] at h24
                  refine l_q rfl (q_fieldAddr rfl Try.underlying45 rfl Try.sizeOf4 rfl rfl) rfl rfl ?_
                  refine l_q rfl (q_loadC rfl Try.isAgg4 rfl (fun _ h => h.at 0 rfl) rfl) rfl rfl ?_
                  refine l_q rfl (q_move rfl rfl) rfl rfl ?_
                  refine Pre.setB (t := 50) (c := true) rfl (h18) ?_
                  refine l_not rfl rfl rfl ?_
                  refine l_not rfl rfl rfl ?_
                  refine l_not rfl rfl rfl ?_
                  refine l_not rfl rfl rfl ?_
                  refine l_q rfl (q_pick_t rfl rfl rfl) rfl rfl ?_
                  refine l_q rfl (q_pick_t rfl rfl rfl) rfl rfl ?_
                  refine l_q rfl (q_assign rfl rfl) rfl rfl ?_
                  refine l_nil ?_
                  refine k_then ?_
                  refine c_ret ?_
                  refine r_one rfl rfl ?_
                  exact fun _ h => ⟨(), congrArg (fun z => Ending.returned (Value.bool z)) (by first | (exfalso; omega) | (simp_all [mayB]; done) | (simp_all [mayB]; omega) | (cases hl : lrg o <;> simp_all [mayB] <;> omega)), trivial, h.nothing⟩
                · try simp only [decide_eq_true_eq, decide_eq_false_iff_not, Bool.not_eq_true', Bool.not_eq_false'] at h24
                  refine l_not rfl rfl rfl ?_
                  refine l_not rfl rfl rfl ?_
                  refine l_not rfl rfl rfl ?_
                  refine l_not rfl rfl rfl ?_
                  refine l_not rfl rfl rfl ?_
                  refine l_not rfl rfl rfl ?_
                  refine l_not rfl rfl rfl ?_
                  refine l_not rfl rfl rfl ?_
                  refine l_q rfl (q_pick_f rfl rfl rfl) rfl rfl ?_
                  refine l_q rfl (q_assign rfl rfl) rfl rfl ?_
                  refine l_nil ?_
                  refine k_then ?_
                  refine c_ret ?_
                  refine r_one rfl rfl ?_
                  exact fun _ h => ⟨(), congrArg (fun z => Ending.returned (Value.bool z)) (by first | (exfalso; omega) | (simp_all [mayB]; done) | (simp_all [mayB]; omega) | (cases hl : lrg o <;> simp_all [mayB] <;> omega)), trivial, h.nothing⟩
              · try simp only [decide_eq_true_eq, decide_eq_false_iff_not, Bool.not_eq_true', Bool.not_eq_false'] at h23
                refine l_not rfl rfl rfl ?_
                refine l_not rfl rfl rfl ?_
                refine l_not rfl rfl rfl ?_
                refine l_q rfl (q_pick_f rfl rfl rfl) rfl rfl ?_
                refine l_q rfl (q_move rfl rfl) rfl rfl ?_
                refine l_not rfl rfl rfl ?_
                refine l_not rfl rfl rfl ?_
                refine l_not rfl rfl rfl ?_
                refine l_not rfl rfl rfl ?_
                refine l_not rfl rfl rfl ?_
                refine l_not rfl rfl rfl ?_
                refine l_not rfl rfl rfl ?_
                refine l_not rfl rfl rfl ?_
                refine l_q rfl (q_pick_f rfl rfl rfl) rfl rfl ?_
                refine l_q rfl (q_assign rfl rfl) rfl rfl ?_
                refine l_nil ?_
                refine k_then ?_
                refine c_ret ?_
                refine r_one rfl rfl ?_
                exact fun _ h => ⟨(), congrArg (fun z => Ending.returned (Value.bool z)) (by first | (exfalso; omega) | (simp_all [mayB]; done) | (simp_all [mayB]; omega) | (cases hl : lrg o <;> simp_all [mayB] <;> omega)), trivial, h.nothing⟩
            · try simp only [decide_eq_true_eq, decide_eq_false_iff_not, Bool.not_eq_true', Bool.not_eq_false'] at h22
              refine l_not rfl rfl rfl ?_
              refine l_q rfl (q_pick_f rfl rfl rfl) rfl rfl ?_
              refine l_q rfl (q_move rfl rfl) rfl rfl ?_
              refine l_not rfl rfl rfl ?_
              refine l_not rfl rfl rfl ?_
              refine l_not rfl rfl rfl ?_
              refine l_q rfl (q_pick_f rfl rfl rfl) rfl rfl ?_
              refine l_q rfl (q_move rfl rfl) rfl rfl ?_
              refine l_not rfl rfl rfl ?_
              refine l_not rfl rfl rfl ?_
              refine l_not rfl rfl rfl ?_
              refine l_not rfl rfl rfl ?_
              refine l_not rfl rfl rfl ?_
              refine l_not rfl rfl rfl ?_
              refine l_not rfl rfl rfl ?_
              refine l_not rfl rfl rfl ?_
              refine l_q rfl (q_pick_f rfl rfl rfl) rfl rfl ?_
              refine l_q rfl (q_assign rfl rfl) rfl rfl ?_
              refine l_nil ?_
              refine k_then ?_
              refine c_ret ?_
              refine r_one rfl rfl ?_
              exact fun _ h => ⟨(), congrArg (fun z => Ending.returned (Value.bool z)) (by first | (exfalso; omega) | (simp_all [mayB]; done) | (simp_all [mayB]; omega) | (cases hl : lrg o <;> simp_all [mayB] <;> omega)), trivial, h.nothing⟩
          · try simp only [decide_eq_true_eq, decide_eq_false_iff_not, Bool.not_eq_true', Bool.not_eq_false'] at h21
            refine l_not rfl rfl rfl ?_
            refine l_not rfl rfl rfl ?_
            refine l_not rfl rfl rfl ?_
            refine l_q rfl (q_pick_f rfl rfl rfl) rfl rfl ?_
            refine l_q rfl (q_pick_f rfl rfl rfl) rfl rfl ?_
            refine l_q rfl (q_assign rfl rfl) rfl rfl ?_
            refine l_nil ?_
            refine k_then ?_
            refine c_seq ?_
            refine c_region _ rfl ?_
            refine l_q rfl (q_move rfl rfl) rfl rfl ?_
            refine l_q rfl (q_move rfl rfl) rfl rfl ?_
            refine Pre.caseB 39 rfl (fun h25 => ?_) (fun h25 => ?_)
            · try simp only [decide_eq_true_eq, decide_eq_false_iff_not, Bool.not_eq_true', Bool.not_eq_false'] at h25
              refine l_q rfl (q_move rfl rfl) rfl rfl ?_
              refine l_q rfl (q_pick_t rfl rfl rfl) rfl rfl ?_
              refine l_q rfl (q_move rfl rfl) rfl rfl ?_
              refine l_not rfl rfl rfl ?_
              refine l_not rfl rfl rfl ?_
              refine l_not rfl rfl rfl ?_
              refine l_q rfl (q_pick_f rfl rfl rfl) rfl rfl ?_
              refine l_q rfl (q_move rfl rfl) rfl rfl ?_
              refine l_not rfl rfl rfl ?_
              refine l_not rfl rfl rfl ?_
              refine l_not rfl rfl rfl ?_
              refine l_not rfl rfl rfl ?_
              refine l_not rfl rfl rfl ?_
              refine l_not rfl rfl rfl ?_
              refine l_not rfl rfl rfl ?_
              refine l_not rfl rfl rfl ?_
              refine l_q rfl (q_pick_f rfl rfl rfl) rfl rfl ?_
              refine l_q rfl (q_assign rfl rfl) rfl rfl ?_
              refine l_nil ?_
              refine k_then ?_
              refine c_ret ?_
              refine r_one rfl rfl ?_
              exact fun _ h => ⟨(), congrArg (fun z => Ending.returned (Value.bool z)) (by first | (exfalso; omega) | (simp_all [mayB]; done) | (simp_all [mayB]; omega) | (cases hl : lrg o <;> simp_all [mayB] <;> omega)), trivial, h.nothing⟩
            · try simp only [decide_eq_true_eq, decide_eq_false_iff_not, Bool.not_eq_true', Bool.not_eq_false'] at h25
              refine l_not rfl rfl rfl ?_
              refine l_q rfl (q_pick_f rfl rfl rfl) rfl rfl ?_
              refine l_q rfl (q_move rfl rfl) rfl rfl ?_
              refine l_not rfl rfl rfl ?_
              refine l_not rfl rfl rfl ?_
              refine l_not rfl rfl rfl ?_
              refine l_q rfl (q_pick_f rfl rfl rfl) rfl rfl ?_
              refine l_q rfl (q_move rfl rfl) rfl rfl ?_
              refine l_not rfl rfl rfl ?_
              refine l_not rfl rfl rfl ?_
              refine l_not rfl rfl rfl ?_
              refine l_not rfl rfl rfl ?_
              refine l_not rfl rfl rfl ?_
              refine l_not rfl rfl rfl ?_
              refine l_not rfl rfl rfl ?_
              refine l_not rfl rfl rfl ?_
              refine l_q rfl (q_pick_f rfl rfl rfl) rfl rfl ?_
              refine l_q rfl (q_assign rfl rfl) rfl rfl ?_
              refine l_nil ?_
              refine k_then ?_
              refine c_ret ?_
              refine r_one rfl rfl ?_
              exact fun _ h => ⟨(), congrArg (fun z => Ending.returned (Value.bool z)) (by first | (exfalso; omega) | (simp_all [mayB]; done) | (simp_all [mayB]; omega) | (cases hl : lrg o <;> simp_all [mayB] <;> omega)), trivial, h.nothing⟩
      · try simp only [decide_eq_true_eq, decide_eq_false_iff_not, Bool.not_eq_true', Bool.not_eq_false'] at h17
        refine c_false rfl ?_
        refine c_skip ?_
        refine k_then ?_
        refine c_seq ?_
        refine c_region _ rfl ?_
        refine l_q rfl (q_fieldAddr rfl Try.underlying45 rfl Try.sizeOf4 rfl rfl) rfl rfl ?_
        refine l_q rfl (q_loadC rfl Try.isAgg4 rfl (fun _ h => h.at 0 rfl) rfl) rfl rfl ?_
        refine l_q rfl (q_not rfl rfl) rfl rfl ?_
        refine l_q rfl (q_move rfl rfl) rfl rfl ?_
        refine Pre.caseB 28 rfl (fun h26 => ?_) (fun h26 => ?_)
        · try simp only [Bool.not_eq_true', Bool.not_eq_false'] at h26
          refine l_not rfl rfl rfl ?_
          refine l_not rfl rfl rfl ?_
          refine l_not rfl rfl rfl ?_
          refine l_not rfl rfl rfl ?_
          refine l_not rfl rfl rfl ?_
          refine l_not rfl rfl rfl ?_
          refine l_not rfl rfl rfl ?_
          refine l_not rfl rfl rfl ?_
          refine l_q rfl (q_pick_t rfl rfl rfl) rfl rfl ?_
          refine l_q rfl (q_assign rfl rfl) rfl rfl ?_
          refine l_nil ?_
          refine k_then ?_
          refine c_seq ?_
          refine c_region _ rfl ?_
          refine l_q rfl (q_move rfl rfl) rfl rfl ?_
          refine l_q rfl (q_move rfl rfl) rfl rfl ?_
          refine Pre.caseB 39 rfl (fun h27 => ?_) (fun h27 => ?_)
          · try simp only [decide_eq_true_eq, decide_eq_false_iff_not, Bool.not_eq_true', Bool.not_eq_false'] at h27
            refine l_q rfl (q_move rfl rfl) rfl rfl ?_
            refine l_q rfl (q_pick_t rfl rfl rfl) rfl rfl ?_
            refine l_q rfl (q_move rfl rfl) rfl rfl ?_
            refine l_q rfl (q_fieldAddr rfl Try.underlying45 rfl Try.sizeOf43 rfl rfl) rfl rfl ?_
            refine l_q rfl (q_loadCAgg (a.v.c) rfl Try.isAgg43 Try.sizeOf43 rfl (fun _ h => h.at 0 rfl) (An.v_part _) (Kv.c_len _)) rfl rfl ?_
            refine l_e rfl ?_
            refine e_call_00 (vcheck_spec a.v) rfl rfl rfl Try.call34 rfl (fun _ _ => trivial) ?_
            intro _ _
            refine l_q rfl (q_pick_t rfl rfl rfl) rfl rfl ?_
            refine l_q rfl (q_move rfl rfl) rfl rfl ?_
            refine Pre.caseB 47 rfl (fun h28 => ?_) (fun h28 => ?_)
            · try simp only [decide_eq_true_eq, decide_eq_false_iff_not, Bool.not_eq_true', Bool.not_eq_false'] at h28
              refine l_q rfl (q_fieldAddr rfl Try.underlying45 rfl Try.sizeOf4 rfl rfl) rfl rfl ?_
              refine l_q rfl (q_loadC rfl Try.isAgg4 rfl (fun _ h => h.at 0 rfl) rfl) rfl rfl ?_
              refine l_q rfl (q_move rfl rfl) rfl rfl ?_
              refine Pre.setB (t := 50) (c := false) rfl (h26) ?_
              refine l_q rfl (q_fieldAddr rfl Try.underlying45 rfl Try.sizeOf43 rfl rfl) rfl rfl ?_
              refine l_q rfl (q_loadCAgg (a.v.c) rfl Try.isAgg43 Try.sizeOf43 rfl (fun _ h => h.at 0 rfl) (An.v_part _) (Kv.c_len _)) rfl rfl ?_
              refine l_q rfl (q_build ((kv0 16).c) rfl rfl (fun w => by kernel_rfl)) rfl rfl ?_
              refine l_q rfl (q_eqV (a.v) ((kv0 16)) rfl rfl rfl) rfl rfl ?_
              refine l_q rfl (q_pick_f rfl rfl rfl) rfl rfl ?_
              refine l_q rfl (q_pick_t rfl rfl rfl) rfl rfl ?_
              refine l_q rfl (q_assign rfl rfl) rfl rfl ?_
              refine l_nil ?_
              refine k_then ?_
              refine c_ret ?_
              refine r_one rfl rfl ?_
              exact fun _ h => ⟨(), congrArg (fun z => Ending.returned (Value.bool z)) (by first | (exfalso; omega) | (simp_all [mayB]; done) | (simp_all [mayB]; omega) | (cases hl : lrg o <;> simp_all [mayB] <;> omega)), trivial, h.nothing⟩
            · try simp only [decide_eq_true_eq, decide_eq_false_iff_not, Bool.not_eq_true', Bool.not_eq_false'] at h28
              refine l_not rfl rfl rfl ?_
              refine l_not rfl rfl rfl ?_
              refine l_not rfl rfl rfl ?_
              refine l_not rfl rfl rfl ?_
              refine l_not rfl rfl rfl ?_
              refine l_not rfl rfl rfl ?_
              refine l_not rfl rfl rfl ?_
              refine l_not rfl rfl rfl ?_
              refine l_q rfl (q_pick_f rfl rfl rfl) rfl rfl ?_
              refine l_q rfl (q_assign rfl rfl) rfl rfl ?_
              refine l_nil ?_
              refine k_then ?_
              refine c_ret ?_
              refine r_one rfl rfl ?_
              exact fun _ h => ⟨(), congrArg (fun z => Ending.returned (Value.bool z)) (by first | (exfalso; omega) | (simp_all [mayB]; done) | (simp_all [mayB]; omega) | (cases hl : lrg o <;> simp_all [mayB] <;> omega)), trivial, h.nothing⟩
          · try simp only [decide_eq_true_eq, decide_eq_false_iff_not, Bool.not_eq_true', Bool.not_eq_false'] at h27
            refine l_not rfl rfl rfl ?_
            refine l_q rfl (q_pick_f rfl rfl rfl) rfl rfl ?_
            refine l_q rfl (q_move rfl rfl) rfl rfl ?_
            refine l_not rfl rfl rfl ?_
            refine l_not rfl rfl rfl ?_
            refine l_not rfl rfl rfl ?_
            refine l_q rfl (q_pick_f rfl rfl rfl) rfl rfl ?_
            refine l_q rfl (q_move rfl rfl) rfl rfl ?_
            refine l_not rfl rfl rfl ?_
            refine l_not rfl rfl rfl ?_
            refine l_not rfl rfl rfl ?_
            refine l_not rfl rfl rfl ?_
            refine l_not rfl rfl rfl ?_
            refine l_not rfl rfl rfl ?_
            refine l_not rfl rfl rfl ?_
            refine l_not rfl rfl rfl ?_
            refine l_q rfl (q_pick_f rfl rfl rfl) rfl rfl ?_
            refine l_q rfl (q_assign rfl rfl) rfl rfl ?_
            refine l_nil ?_
            refine k_then ?_
            refine c_ret ?_
            refine r_one rfl rfl ?_
            exact fun _ h => ⟨(), congrArg (fun z => Ending.returned (Value.bool z)) (by first | (exfalso; omega) | (simp_all [mayB]; done) | (simp_all [mayB]; omega) | (cases hl : lrg o <;> simp_all [mayB] <;> omega)), trivial, h.nothing⟩
        · try simp only [Bool.not_eq_true', Bool.not_eq_false'] at h26
          refine l_q rfl (q_fieldAddr rfl Try.underlying37 rfl Try.sizeOf3 rfl rfl) rfl rfl ?_
          refine l_q rfl (q_loadC rfl Try.isAgg3 rfl (fun _ h => h.at 1 rfl) rfl) rfl rfl ?_
          refine l_q rfl (q_eql rfl rfl rfl) rfl rfl ?_
          refine l_q rfl (q_move rfl rfl) rfl rfl ?_
          refine Pre.caseB 32 rfl (fun h29 => ?_) (fun h29 => ?_)
          · try simp only [decide_eq_true_eq, decide_eq_false_iff_not, Bool.not_eq_true', Bool.not_eq_false'] at h29
            refine l_q rfl (q_fieldAddr rfl Try.underlying45 rfl Try.sizeOf40 rfl rfl) rfl rfl ?_
            refine l_q rfl (q_loadC rfl Try.isAgg40 rfl (fun _ h => h.at 0 rfl) rfl) rfl rfl ?_
            refine l_q rfl (q_eql rfl rfl rfl) rfl rfl ?_
            refine l_q rfl (q_pick_t rfl rfl rfl) rfl rfl ?_
            refine l_q rfl (q_pick_f rfl rfl rfl) rfl rfl ?_
            refine l_q rfl (q_assign rfl rfl) rfl rfl ?_
            refine l_nil ?_
            refine k_then ?_
            refine c_seq ?_
            refine c_region _ rfl ?_
            refine l_q rfl (q_move rfl rfl) rfl rfl ?_
            refine l_q rfl (q_move rfl rfl) rfl rfl ?_
            refine Pre.caseB 39 rfl (fun h30 => ?_) (fun h30 => ?_)
            · try simp only [decide_eq_true_eq, decide_eq_false_iff_not, Bool.not_eq_true', Bool.not_eq_false'] at h30
              refine l_q rfl (q_move rfl rfl) rfl rfl ?_
              refine l_q rfl (q_pick_t rfl rfl rfl) rfl rfl ?_
              refine l_q rfl (q_move rfl rfl) rfl rfl ?_
              refine Pre.caseB 42 rfl (fun h31 => ?_) (fun h31 => ?_)
              · try simp only [decide_eq_true_eq, decide_eq_false_iff_not, Bool.not_eq_true', Bool.not_eq_false'] at h31
                refine l_q rfl (q_fieldAddr rfl Try.underlying45 rfl Try.sizeOf43 rfl rfl) rfl rfl ?_
                refine l_q rfl (q_loadCAgg (a.v.c) rfl Try.isAgg43 Try.sizeOf43 rfl (fun _ h => h.at 0 rfl) (An.v_part _) (Kv.c_len _)) rfl rfl ?_
                refine l_e rfl ?_
                refine e_call_00 (vcheck_spec a.v) rfl rfl rfl Try.call34 rfl (fun _ _ => trivial) ?_
                intro _ _
                refine l_q rfl (q_pick_t rfl rfl rfl) rfl rfl ?_
                refine l_q rfl (q_move rfl rfl) rfl rfl ?_
                refine Pre.caseB 47 rfl (fun h32 => ?_) (fun h32 => ?_)
                · try simp only [decide_eq_true_eq, decide_eq_false_iff_not, Bool.not_eq_true', Bool.not_eq_false'] at h32
                  refine l_q rfl (q_fieldAddr rfl Try.underlying45 rfl Try.sizeOf4 rfl rfl) rfl rfl ?_
                  refine l_q rfl (q_loadC rfl Try.isAgg4 rfl (fun _ h => h.at 0 rfl) rfl) rfl rfl ?_
                  refine l_q rfl (q_move rfl rfl) rfl rfl ?_
                  refine Pre.setB (t := 50) (c := true) rfl (h26) ?_
                  refine l_not rfl rfl rfl ?_
                  refine l_not rfl rfl rfl ?_
                  refine l_not rfl rfl rfl ?_
                  refine l_not rfl rfl rfl ?_
                  refine l_q rfl (q_pick_t rfl rfl rfl) rfl rfl ?_
                  refine l_q rfl (q_pick_t rfl rfl rfl) rfl rfl ?_
                  refine l_q rfl (q_assign rfl rfl) rfl rfl ?_
                  refine l_nil ?_
                  refine k_then ?_
                  refine c_ret ?_
                  refine r_one rfl rfl ?_
                  exact fun _ h => ⟨(), congrArg (fun z => Ending.returned (Value.bool z)) (by first | (exfalso; omega) | (simp_all [mayB]; done) | (simp_all [mayB]; omega) | (cases hl : lrg o <;> simp_all [mayB] <;> omega)), trivial, h.nothing⟩
                · try simp only [decide_eq_true_eq, decide_eq_false_iff_not, Bool.not_eq_true', Bool.not_eq_false'] at h32
                  refine l_not rfl rfl rfl ?_
                  refine l_not rfl rfl rfl ?_
                  refine l_not rfl rfl rfl ?_
                  refine l_not rfl rfl rfl ?_
                  refine l_not rfl rfl rfl ?_
                  refine l_not rfl rfl rfl ?_
                  refine l_not rfl rfl rfl ?_
                  refine l_not rfl rfl rfl ?_
                  refine l_q rfl (q_pick_f rfl rfl rfl) rfl rfl ?_
                  refine l_q rfl (q_assign rfl rfl) rfl rfl ?_
                  refine l_nil ?_
                  refine k_then ?_
                  refine c_ret ?_
                  refine r_one rfl rfl ?_
                  exact fun _ h => ⟨(), congrArg (fun z => Ending.returned (Value.bool z)) (by first | (exfalso; omega) | (simp_all [mayB]; done) | (simp_all [mayB]; omega) | (cases hl : lrg o <;> simp_all [mayB] <;> omega)), trivial, h.nothing⟩
              · try simp only [decide_eq_true_eq, decide_eq_false_iff_not, Bool.not_eq_true', Bool.not_eq_false'] at h31
                refine l_not rfl rfl rfl ?_
                refine l_not rfl rfl rfl ?_
                refine l_not rfl rfl rfl ?_
                refine l_q rfl (q_pick_f rfl rfl rfl) rfl rfl ?_
                refine l_q rfl (q_move rfl rfl) rfl rfl ?_
                refine l_not rfl rfl rfl ?_
                refine l_not rfl rfl rfl ?_
                refine l_not rfl rfl rfl ?_
                refine l_not rfl rfl rfl ?_
                refine l_not rfl rfl rfl ?_
                refine l_not rfl rfl rfl ?_
                refine l_not rfl rfl rfl ?_
                refine l_not rfl rfl rfl ?_
                refine l_q rfl (q_pick_f rfl rfl rfl) rfl rfl ?_
                refine l_q rfl (q_assign rfl rfl) rfl rfl ?_
                refine l_nil ?_
                refine k_then ?_
                refine c_ret ?_
                refine r_one rfl rfl ?_
                exact fun _ h => ⟨(), congrArg (fun z => Ending.returned (Value.bool z)) (by first | (exfalso; omega) | (simp_all [mayB]; done) | (simp_all [mayB]; omega) | (cases hl : lrg o <;> simp_all [mayB] <;> omega)), trivial, h.nothing⟩
            · try simp only [decide_eq_true_eq, decide_eq_false_iff_not, Bool.not_eq_true', Bool.not_eq_false'] at h30
              refine l_not rfl rfl rfl ?_
              refine l_q rfl (q_pick_f rfl rfl rfl) rfl rfl ?_
              refine l_q rfl (q_move rfl rfl) rfl rfl ?_
              refine l_not rfl rfl rfl ?_
              refine l_not rfl rfl rfl ?_
              refine l_not rfl rfl rfl ?_
              refine l_q rfl (q_pick_f rfl rfl rfl) rfl rfl ?_
              refine l_q rfl (q_move rfl rfl) rfl rfl ?_
              refine l_not rfl rfl rfl ?_
              refine l_not rfl rfl rfl ?_
              refine l_not rfl rfl rfl ?_
              refine l_not rfl rfl rfl ?_
              refine l_not rfl rfl rfl ?_
              refine l_not rfl rfl rfl ?_
              refine l_not rfl rfl rfl ?_
              refine l_not rfl rfl rfl ?_
              refine l_q rfl (q_pick_f rfl rfl rfl) rfl rfl ?_
              refine l_q rfl (q_assign rfl rfl) rfl rfl ?_
              refine l_nil ?_
              refine k_then ?_
              refine c_ret ?_
              refine r_one rfl rfl ?_
              exact fun _ h => ⟨(), congrArg (fun z => Ending.returned (Value.bool z)) (by first | (exfalso; omega) | (simp_all [mayB]; done) | (simp_all [mayB]; omega) | (cases hl : lrg o <;> simp_all [mayB] <;> omega)), trivial, h.nothing⟩
          · try simp only [decide_eq_true_eq, decide_eq_false_iff_not, Bool.not_eq_true', Bool.not_eq_false'] at h29
            refine l_not rfl rfl rfl ?_
            refine l_not rfl rfl rfl ?_
            refine l_not rfl rfl rfl ?_
            refine l_q rfl (q_pick_f rfl rfl rfl) rfl rfl ?_
            refine l_q rfl (q_pick_f rfl rfl rfl) rfl rfl ?_
            refine l_q rfl (q_assign rfl rfl) rfl rfl ?_
            refine l_nil ?_
            refine k_then ?_
            refine c_seq ?_
            refine c_region _ rfl ?_
            refine l_q rfl (q_move rfl rfl) rfl rfl ?_
            refine l_q rfl (q_move rfl rfl) rfl rfl ?_
            refine Pre.caseB 39 rfl (fun h33 => ?_) (fun h33 => ?_)
            · try simp only [decide_eq_true_eq, decide_eq_false_iff_not, Bool.not_eq_true', Bool.not_eq_false'] at h33
              refine l_q rfl (q_move rfl rfl) rfl rfl ?_
              refine l_q rfl (q_pick_t rfl rfl rfl) rfl rfl ?_
              refine l_q rfl (q_move rfl rfl) rfl rfl ?_
              refine l_not rfl rfl rfl ?_
              refine l_not rfl rfl rfl ?_
              refine l_not rfl rfl rfl ?_
              refine l_q rfl (q_pick_f rfl rfl rfl) rfl rfl ?_
              refine l_q rfl (q_move rfl rfl) rfl rfl ?_
              refine l_not rfl rfl rfl ?_
              refine l_not rfl rfl rfl ?_
              refine l_not rfl rfl rfl ?_
              refine l_not rfl rfl rfl ?_
              refine l_not rfl rfl rfl ?_
              refine l_not rfl rfl rfl ?_
              refine l_not rfl rfl rfl ?_
              refine l_not rfl rfl rfl ?_
              refine l_q rfl (q_pick_f rfl rfl rfl) rfl rfl ?_
              refine l_q rfl (q_assign rfl rfl) rfl rfl ?_
              refine l_nil ?_
              refine k_then ?_
              refine c_ret ?_
              refine r_one rfl rfl ?_
              exact fun _ h => ⟨(), congrArg (fun z => Ending.returned (Value.bool z)) (by first | (exfalso; omega) | (simp_all [mayB]; done) | (simp_all [mayB]; omega) | (cases hl : lrg o <;> simp_all [mayB] <;> omega)), trivial, h.nothing⟩
            · try simp only [decide_eq_true_eq, decide_eq_false_iff_not, Bool.not_eq_true', Bool.not_eq_false'] at h33
              refine l_not rfl rfl rfl ?_
              refine l_q rfl (q_pick_f rfl rfl rfl) rfl rfl ?_
              refine l_q rfl (q_move rfl rfl) rfl rfl ?_
              refine l_not rfl rfl rfl ?_
              refine l_not rfl rfl rfl ?_
              refine l_not rfl rfl rfl ?_
              refine l_q rfl (q_pick_f rfl rfl rfl) rfl rfl ?_
              refine l_q rfl (q_move rfl rfl) rfl rfl ?_
              refine l_not rfl rfl rfl ?_
              refine l_not rfl rfl rfl ?_
              refine l_not rfl rfl rfl ?_
              refine l_not rfl rfl rfl ?_
              refine l_not rfl rfl rfl ?_
              refine l_not rfl rfl rfl ?_
              refine l_not rfl rfl rfl ?_
              refine l_not rfl rfl rfl ?_
              refine l_q rfl (q_pick_f rfl rfl rfl) rfl rfl ?_
              refine l_q rfl (q_assign rfl rfl) rfl rfl ?_
              refine l_nil ?_
              refine k_then ?_
              refine c_ret ?_
              refine r_one rfl rfl ?_
              exact fun _ h => ⟨(), congrArg (fun z => Ending.returned (Value.bool z)) (by first | (exfalso; omega) | (simp_all [mayB]; done) | (simp_all [mayB]; omega) | (cases hl : lrg o <;> simp_all [mayB] <;> omega)), trivial, h.nothing⟩
    · try simp only [decide_eq_true_eq, decide_eq_false_iff_not, Bool.not_eq_true', Bool.not_eq_false'] at h16
      refine l_not rfl rfl rfl ?_
      refine l_not rfl rfl rfl ?_
      refine l_not rfl rfl rfl ?_
      refine l_q rfl (q_pick_f rfl rfl rfl) rfl rfl ?_
      refine l_q rfl (q_pick_f rfl rfl rfl) rfl rfl ?_
      refine l_q rfl (q_assign rfl rfl) rfl rfl ?_
      refine l_nil ?_
      refine k_then ?_
      refine c_seq ?_
      refine c_seq ?_
      refine c_region _ rfl ?_
      refine l_q rfl (q_loadCAgg (o.c) rfl Try.isAgg37 Try.sizeOf37 rfl (fun _ h => h.at 1 rfl) (rfl) (rfl)) rfl rfl ?_
      refine l_e rfl ?_
      refine e_call_00 (lrg_spec o) rfl rfl rfl Try.call23 rfl (fun _ _ => trivial) ?_
      intro _ _
      refine l_nil ?_
      refine k_then ?_
      refine Pre.caseB 21 rfl (fun h34 => ?_) (fun h34 => ?_)
      · try simp only [decide_eq_true_eq, decide_eq_false_iff_not, Bool.not_eq_true', Bool.not_eq_false'] at h34
        refine c_true rfl ?_
        refine c_region _ rfl ?_
        refine l_q rfl (q_fieldAddr rfl Try.underlying45 rfl Try.sizeOf40 rfl rfl) rfl rfl ?_
        refine l_q rfl (q_loadC rfl Try.isAgg40 rfl (fun _ h => h.at 0 rfl) rfl) rfl rfl ?_
        refine l_q rfl (q_eql rfl rfl rfl) rfl rfl ?_
        refine l_q rfl (q_assign rfl rfl) rfl rfl ?_
        refine l_nil ?_
        refine k_then ?_
        refine c_seq ?_
        refine c_region _ rfl ?_
        refine l_q rfl (q_fieldAddr rfl Try.underlying45 rfl Try.sizeOf4 rfl rfl) rfl rfl ?_
        refine l_q rfl (q_loadC rfl Try.isAgg4 rfl (fun _ h => h.at 0 rfl) rfl) rfl rfl ?_
        refine l_q rfl (q_not rfl rfl) rfl rfl ?_
        refine l_q rfl (q_move rfl rfl) rfl rfl ?_
        refine Pre.caseB 28 rfl (fun h35 => ?_) (fun h35 => ?_)
        · try simp only [Bool.not_eq_true', Bool.not_eq_false'] at h35
          refine l_not rfl rfl rfl ?_
          refine l_not rfl rfl rfl ?_
          refine l_not rfl rfl rfl ?_
          refine l_not rfl rfl rfl ?_
          refine l_not rfl rfl rfl ?_
          refine l_not rfl rfl rfl ?_
          refine l_not rfl rfl rfl ?_
          refine l_not rfl rfl rfl ?_
          refine l_q rfl (q_pick_t rfl rfl rfl) rfl rfl ?_
          refine l_q rfl (q_assign rfl rfl) rfl rfl ?_
          refine l_nil ?_
          refine k_then ?_
          refine c_seq ?_
          refine c_region _ rfl ?_
          refine l_q rfl (q_move rfl rfl) rfl rfl ?_
          refine l_q rfl (q_move rfl rfl) rfl rfl ?_
          refine Pre.caseB 39 rfl (fun h36 => ?_) (fun h36 => ?_)
          · try simp only [decide_eq_true_eq, decide_eq_false_iff_not, Bool.not_eq_true', Bool.not_eq_false'] at h36
            refine l_q rfl (q_move rfl rfl) rfl rfl ?_
            refine l_q rfl (q_pick_t rfl rfl rfl) rfl rfl ?_
            refine l_q rfl (q_move rfl rfl) rfl rfl ?_
            refine l_q rfl (q_fieldAddr rfl Try.underlying45 rfl Try.sizeOf43 rfl rfl) rfl rfl ?_
            refine l_q rfl (q_loadCAgg (a.v.c) rfl Try.isAgg43 Try.sizeOf43 rfl (fun _ h => h.at 0 rfl) (An.v_part _) (Kv.c_len _)) rfl rfl ?_
            refine l_e rfl ?_
            refine e_call_00 (vcheck_spec a.v) rfl rfl rfl Try.call34 rfl (fun _ _ => trivial) ?_
            intro _ _
            refine l_q rfl (q_pick_t rfl rfl rfl) rfl rfl ?_
            refine l_q rfl (q_move rfl rfl) rfl rfl ?_
            refine Pre.caseB 47 rfl (fun h37 => ?_) (fun h37 => ?_)
            · try simp only [decide_eq_true_eq, decide_eq_false_iff_not, Bool.not_eq_true', Bool.not_eq_false'] at h37
              refine l_q rfl (q_fieldAddr rfl Try.underlying45 rfl Try.sizeOf4 rfl rfl) rfl rfl ?_
              refine l_q rfl (q_loadC rfl Try.isAgg4 rfl (fun _ h => h.at 0 rfl) rfl) rfl rfl ?_
              refine l_q rfl (q_move rfl rfl) rfl rfl ?_
              refine Pre.setB (t := 50) (c := false) rfl (h35) ?_
              refine l_q rfl (q_fieldAddr rfl Try.underlying45 rfl Try.sizeOf43 rfl rfl) rfl rfl ?_
              refine l_q rfl (q_loadCAgg (a.v.c) rfl Try.isAgg43 Try.sizeOf43 rfl (fun _ h => h.at 0 rfl) (An.v_part _) (Kv.c_len _)) rfl rfl ?_
              refine l_q rfl (q_build ((kv0 16).c) rfl rfl (fun w => by kernel_rfl)) rfl rfl ?_
              refine l_q rfl (q_eqV (a.v) ((kv0 16)) rfl rfl rfl) rfl rfl ?_
              refine l_q rfl (q_pick_f rfl rfl rfl) rfl rfl ?_
              refine l_q rfl (q_pick_t rfl rfl rfl) rfl rfl ?_
              refine l_q rfl (q_assign rfl rfl) rfl rfl ?_
              refine l_nil ?_
              refine k_then ?_
              refine c_ret ?_
              refine r_one rfl rfl ?_
              exact fun _ h => ⟨(), congrArg (fun z => Ending.returned (Value.bool z)) (by first | (exfalso; omega) | (simp_all [mayB]; done) | (simp_all [mayB]; omega) | (cases hl : lrg o <;> simp_all [mayB] <;> omega)), trivial, h.nothing⟩
            · try simp only [decide_eq_true_eq, decide_eq_false_iff_not, Bool.not_eq_true', Bool.not_eq_false'] at h37
              refine l_not rfl rfl rfl ?_
              refine l_not rfl rfl rfl ?_
              refine l_not rfl rfl rfl ?_
              refine l_not rfl rfl rfl ?_
              refine l_not rfl rfl rfl ?_
              refine l_not rfl rfl rfl ?_
              refine l_not rfl rfl rfl ?_
              refine l_not rfl rfl rfl ?_
              refine l_q rfl (q_pick_f rfl rfl rfl) rfl rfl ?_
              refine l_q rfl (q_assign rfl rfl) rfl rfl ?_
              refine l_nil ?_
              refine k_then ?_
              refine c_ret ?_
              refine r_one rfl rfl ?_
              exact fun _ h => ⟨(), congrArg (fun z => Ending.returned (Value.bool z)) (by first | (exfalso; omega) | (simp_all [mayB]; done) | (simp_all [mayB]; omega) | (cases hl : lrg o <;> simp_all [mayB] <;> omega)), trivial, h.nothing⟩
          · try simp only [decide_eq_true_eq, decide_eq_false_iff_not, Bool.not_eq_true', Bool.not_eq_false'] at h36
            refine l_not rfl rfl rfl ?_
            refine l_q rfl (q_pick_f rfl rfl rfl) rfl rfl ?_
            refine l_q rfl (q_move rfl rfl) rfl rfl ?_
            refine l_not rfl rfl rfl ?_
            refine l_not rfl rfl rfl ?_
            refine l_not rfl rfl rfl ?_
            refine l_q rfl (q_pick_f rfl rfl rfl) rfl rfl ?_
            refine l_q rfl (q_move rfl rfl) rfl rfl ?_
            refine l_not rfl rfl rfl ?_
            refine l_not rfl rfl rfl ?_
            refine l_not rfl rfl rfl ?_
            refine l_not rfl rfl rfl ?_
            refine l_not rfl rfl rfl ?_
            refine l_not rfl rfl rfl ?_
            refine l_not rfl rfl rfl ?_
            refine l_not rfl rfl rfl ?_
            refine l_q rfl (q_pick_f rfl rfl rfl) rfl rfl ?_
            refine l_q rfl (q_assign rfl rfl) rfl rfl ?_
            refine l_nil ?_
            refine k_then ?_
            refine c_ret ?_
            refine r_one rfl rfl ?_
            exact fun _ h => ⟨(), congrArg (fun z => Ending.returned (Value.bool z)) (by first | (exfalso; omega) | (simp_all [mayB]; done) | (simp_all [mayB]; omega) | (cases hl : lrg o <;> simp_all [mayB] <;> omega)), trivial, h.nothing⟩
        · try simp only [Bool.not_eq_true', Bool.not_eq_false'] at h35
          refine l_q rfl (q_fieldAddr rfl Try.underlying37 rfl Try.sizeOf3 rfl rfl) rfl rfl ?_
          refine l_q rfl (q_loadC rfl Try.isAgg3 rfl (fun _ h => h.at 1 rfl) rfl) rfl rfl ?_
          refine l_q rfl (q_eql rfl rfl rfl) rfl rfl ?_
          refine l_q rfl (q_move rfl rfl) rfl rfl ?_
          refine Pre.caseB 32 rfl (fun h38 => ?_) (fun h38 => ?_)
          · try simp only [decide_eq_true_eq, decide_eq_false_iff_not, Bool.not_eq_true', Bool.not_eq_false'] at h38
            refine l_q rfl (q_fieldAddr rfl Try.underlying45 rfl Try.sizeOf40 rfl rfl) rfl rfl ?_
            refine l_q rfl (q_loadC rfl Try.isAgg40 rfl (fun _ h => h.at 0 rfl) rfl) rfl rfl ?_
            refine l_q rfl (q_eql rfl rfl rfl) rfl rfl ?_
            refine l_q rfl (q_pick_t rfl rfl rfl) rfl rfl ?_
            refine l_q rfl (q_pick_f rfl rfl rfl) rfl rfl ?_
            refine l_q rfl (q_assign rfl rfl) rfl rfl ?_
            refine l_nil ?_
            refine k_then ?_
            refine c_seq ?_
            refine c_region _ rfl ?_
            refine l_q rfl (q_move rfl rfl) rfl rfl ?_
            refine l_q rfl (q_move rfl rfl) rfl rfl ?_
            refine Pre.caseB 39 rfl (fun h39 => ?_) (fun h39 => ?_)
            · try simp only [decide_eq_true_eq, decide_eq_false_iff_not, Bool.not_eq_true', Bool.not_eq_false'] at h39
              refine l_q rfl (q_move rfl rfl) rfl rfl ?_
              refine l_q rfl (q_pick_t rfl rfl rfl) rfl rfl ?_
              refine l_q rfl (q_move rfl rfl) rfl rfl ?_
              refine Pre.caseB 42 rfl (fun h40 => ?_) (fun h40 => ?_)
              · try simp only [decide_eq_true_eq, decide_eq_false_iff_not, Bool.not_eq_true', Bool.not_eq_false'] at h40
                refine l_q rfl (q_fieldAddr rfl Try.underlying45 rfl Try.sizeOf43 rfl rfl) rfl rfl ?_
                refine l_q rfl (q_loadCAgg (a.v.c) rfl Try.isAgg43 Try.sizeOf43 rfl (fun _ h => h.at 0 rfl) (An.v_part _) (Kv.c_len _)) rfl rfl ?_
                refine l_e rfl ?_
                refine e_call_00 (vcheck_spec a.v) rfl rfl rfl Try.call34 rfl (fun _ _ => trivial) ?_
                intro _ _
                refine l_q rfl (q_pick_t rfl rfl rfl) rfl rfl ?_
                refine l_q rfl (q_move rfl rfl) rfl rfl ?_
                refine Pre.caseB 47 rfl (fun h41 => ?_) (fun h41 => ?_)
                · try simp only [decide_eq_true_eq, decide_eq_false_iff_not, Bool.not_eq_true', Bool.not_eq_false'] at h41
                  refine l_q rfl (q_fieldAddr rfl Try.underlying45 rfl Try.sizeOf4 rfl rfl) rfl rfl ?_
                  refine l_q rfl (q_loadC rfl Try.isAgg4 rfl (fun _ h => h.at 0 rfl) rfl) rfl rfl ?_
                  refine l_q rfl (q_move rfl rfl) rfl rfl ?_
                  refine Pre.setB (t := 50) (c := true) rfl (h35) ?_
                  refine l_not rfl rfl rfl ?_
                  refine l_not rfl rfl rfl ?_
                  refine l_not rfl rfl rfl ?_
                  refine l_not rfl rfl rfl ?_
                  refine l_q rfl (q_pick_t rfl rfl rfl) rfl rfl ?_
                  refine l_q rfl (q_pick_t rfl rfl rfl) rfl rfl ?_
                  refine l_q rfl (q_assign rfl rfl) rfl rfl ?_
                  refine l_nil ?_
                  refine k_then ?_
                  refine c_ret ?_
                  refine r_one rfl rfl ?_
                  exact fun _ h => ⟨(), congrArg (fun z => Ending.returned (Value.bool z)) (by first | (exfalso; omega) | (simp_all [mayB]; done) | (simp_all [mayB]; omega) | (cases hl : lrg o <;> simp_all [mayB] <;> omega)), trivial, h.nothing⟩
                · try simp only [decide_eq_true_eq, decide_eq_false_iff_not, Bool.not_eq_true', Bool.not_eq_false'] at h41
                  refine l_not rfl rfl rfl ?_
                  refine l_not rfl rfl rfl ?_
                  refine l_not rfl rfl rfl ?_
                  refine l_not rfl rfl rfl ?_
                  refine l_not rfl rfl rfl ?_
                  refine l_not rfl rfl rfl ?_
                  refine l_not rfl rfl rfl ?_
                  refine l_not rfl rfl rfl ?_
                  refine l_q rfl (q_pick_f rfl rfl rfl) rfl rfl ?_
                  refine l_q rfl (q_assign rfl rfl) rfl rfl ?_
                  refine l_nil ?_
                  refine k_then ?_
                  refine c_ret ?_
                  refine r_one rfl rfl ?_
                  exact fun _ h => ⟨(), congrArg (fun z => Ending.returned (Value.bool z)) (by first | (exfalso; omega) | (simp_all [mayB]; done) | (simp_all [mayB]; omega) | (cases hl : lrg o <;> simp_all [mayB] <;> omega)), trivial, h.nothing⟩
              · try simp only [decide_eq_true_eq, decide_eq_false_iff_not, Bool.not_eq_true', Bool.not_eq_false'] at h40
                refine l_not rfl rfl rfl ?_
                refine l_not rfl rfl rfl ?_
                refine l_not rfl rfl rfl ?_
                refine l_q rfl (q_pick_f rfl rfl rfl) rfl rfl ?_
                refine l_q rfl (q_move rfl rfl) rfl rfl ?_
                refine l_not rfl rfl rfl ?_
                refine l_not rfl rfl rfl ?_
                refine l_not rfl rfl rfl ?_
                refine l_not rfl rfl rfl ?_
                refine l_not rfl rfl rfl ?_
                refine l_not rfl rfl rfl ?_
                refine l_not rfl rfl rfl ?_
                refine l_not rfl rfl rfl ?_
                refine l_q rfl (q_pick_f rfl rfl rfl) rfl rfl ?_
                refine l_q rfl (q_assign rfl rfl) rfl rfl ?_
                refine l_nil ?_
                refine k_then ?_
                refine c_ret ?_
                refine r_one rfl rfl ?_
                exact fun _ h => ⟨(), congrArg (fun z => Ending.returned (Value.bool z)) (by first | (exfalso; omega) | (simp_all [mayB]; done) | (simp_all [mayB]; omega) | (cases hl : lrg o <;> simp_all [mayB] <;> omega)), trivial, h.nothing⟩
            · try simp only [decide_eq_true_eq, decide_eq_false_iff_not, Bool.not_eq_true', Bool.not_eq_false'] at h39
              refine l_not rfl rfl rfl ?_
              refine l_q rfl (q_pick_f rfl rfl rfl) rfl rfl ?_
              refine l_q rfl (q_move rfl rfl) rfl rfl ?_
              refine l_not rfl rfl rfl ?_
              refine l_not rfl rfl rfl ?_
              refine l_not rfl rfl rfl ?_
              refine l_q rfl (q_pick_f rfl rfl rfl) rfl rfl ?_
              refine l_q rfl (q_move rfl rfl) rfl rfl ?_
              refine l_not rfl rfl rfl ?_
              refine l_not rfl rfl rfl ?_
              refine l_not rfl rfl rfl ?_
              refine l_not rfl rfl rfl ?_
              refine l_not rfl rfl rfl ?_
              refine l_not rfl rfl rfl ?_
              refine l_not rfl rfl rfl ?_
              refine l_not rfl rfl rfl ?_
              refine l_q rfl (q_pick_f rfl rfl rfl) rfl rfl ?_
              refine l_q rfl (q_assign rfl rfl) rfl rfl ?_
              refine l_nil ?_
              refine k_then ?_
              refine c_ret ?_
              refine r_one rfl rfl ?_
              exact fun _ h => ⟨(), congrArg (fun z => Ending.returned (Value.bool z)) (by first | (exfalso; omega) | (simp_all [mayB]; done) | (simp_all [mayB]; omega) | (cases hl : lrg o <;> simp_all [mayB] <;> omega)), trivial, h.nothing⟩
          · try simp only [decide_eq_true_eq, decide_eq_false_iff_not, Bool.not_eq_true', Bool.not_eq_false'] at h38
            refine l_not rfl rfl rfl ?_
            refine l_not rfl rfl rfl ?_
            refine l_not rfl rfl rfl ?_
            refine l_q rfl (q_pick_f rfl rfl rfl) rfl rfl ?_
            refine l_q rfl (q_pick_f rfl rfl rfl) rfl rfl ?_
            refine l_q rfl (q_assign rfl rfl) rfl rfl ?_
            refine l_nil ?_
            refine k_then ?_
            refine c_seq ?_
            refine c_region _ rfl ?_
            refine l_q rfl (q_move rfl rfl) rfl rfl ?_
            refine l_q rfl (q_move rfl rfl) rfl rfl ?_
            refine Pre.caseB 39 rfl (fun h42 => ?_) (fun h42 => ?_)
            · try simp only [decide_eq_true_eq, decide_eq_false_iff_not, Bool.not_eq_true', Bool.not_eq_false'] at h42
              refine l_q rfl (q_move rfl rfl) rfl rfl ?_
              refine l_q rfl (q_pick_t rfl rfl rfl) rfl rfl ?_
              refine l_q rfl (q_move rfl rfl) rfl rfl ?_
              refine l_not rfl rfl rfl ?_
              refine l_not rfl rfl rfl ?_
              refine l_not rfl rfl rfl ?_
              refine l_q rfl (q_pick_f rfl rfl rfl) rfl rfl ?_
              refine l_q rfl (q_move rfl rfl) rfl rfl ?_
              refine l_not rfl rfl rfl ?_
              refine l_not rfl rfl rfl ?_
              refine l_not rfl rfl rfl ?_
              refine l_not rfl rfl rfl ?_
              refine l_not rfl rfl rfl ?_
              refine l_not rfl rfl rfl ?_
              refine l_not rfl rfl rfl ?_
              refine l_not rfl rfl rfl ?_
              refine l_q rfl (q_pick_f rfl rfl rfl) rfl rfl ?_
              refine l_q rfl (q_assign rfl rfl) rfl rfl ?_
              refine l_nil ?_
              refine k_then ?_
              refine c_ret ?_
              refine r_one rfl rfl ?_
              exact fun _ h => ⟨(), congrArg (fun z => Ending.returned (Value.bool z)) (by first | (exfalso; omega) | (simp_all [mayB]; done) | (simp_all [mayB]; omega) | (cases hl : lrg o <;> simp_all [mayB] <;> omega)), trivial, h.nothing⟩
            · try simp only [decide_eq_true_eq, decide_eq_false_iff_not, Bool.not_eq_true', Bool.not_eq_false'] at h42
              refine l_not rfl rfl rfl ?_
              refine l_q rfl (q_pick_f rfl rfl rfl) rfl rfl ?_
              refine l_q rfl (q_move rfl rfl) rfl rfl ?_
              refine l_not rfl rfl rfl ?_
              refine l_not rfl rfl rfl ?_
              refine l_not rfl rfl rfl ?_
              refine l_q rfl (q_pick_f rfl rfl rfl) rfl rfl ?_
              refine l_q rfl (q_move rfl rfl) rfl rfl ?_
              refine l_not rfl rfl rfl ?_
              refine l_not rfl rfl rfl ?_
              refine l_not rfl rfl rfl ?_
              refine l_not rfl rfl rfl ?_
              refine l_not rfl rfl rfl ?_
              refine l_not rfl rfl rfl ?_
              refine l_not rfl rfl rfl ?_
              refine l_not rfl rfl rfl ?_
              refine l_q rfl (q_pick_f rfl rfl rfl) rfl rfl ?_
              refine l_q rfl (q_assign rfl rfl) rfl rfl ?_
              refine l_nil ?_
              refine k_then ?_
              refine c_ret ?_
              refine r_one rfl rfl ?_
              exact fun _ h => ⟨(), congrArg (fun z => Ending.returned (Value.bool z)) (by first | (exfalso; omega) | (simp_all [mayB]; done) | (simp_all [mayB]; omega) | (cases hl : lrg o <;> simp_all [mayB] <;> omega)), trivial, h.nothing⟩
      · try simp only [decide_eq_true_eq, decide_eq_false_iff_not, Bool.not_eq_true', Bool.not_eq_false'] at h34
        refine c_false rfl ?_
        refine c_skip ?_
        refine k_then ?_
        refine c_seq ?_
        refine c_region _ rfl ?_
        refine l_q rfl (q_fieldAddr rfl Try.underlying45 rfl Try.sizeOf4 rfl rfl) rfl rfl ?_
        refine l_q rfl (q_loadC rfl Try.isAgg4 rfl (fun _ h => h.at 0 rfl) rfl) rfl rfl ?_
        refine l_q rfl (q_not rfl rfl) rfl rfl ?_
        refine l_q rfl (q_move rfl rfl) rfl rfl ?_
        refine Pre.caseB 28 rfl (fun h43 => ?_) (fun h43 => ?_)
        · try simp only [Bool.not_eq_true', Bool.not_eq_false'] at h43
          refine l_not rfl rfl rfl ?_
          refine l_not rfl rfl rfl ?_
          refine l_not rfl rfl rfl ?_
          refine l_not rfl rfl rfl ?_
          refine l_not rfl rfl rfl ?_
          refine l_not rfl rfl rfl ?_
          refine l_not rfl rfl rfl ?_
          refine l_not rfl rfl rfl ?_
          refine l_q rfl (q_pick_t rfl rfl rfl) rfl rfl ?_
          refine l_q rfl (q_assign rfl rfl) rfl rfl ?_
          refine l_nil ?_
          refine k_then ?_
          refine c_seq ?_
          refine c_region _ rfl ?_
          refine l_q rfl (q_move rfl rfl) rfl rfl ?_
          refine l_q rfl (q_move rfl rfl) rfl rfl ?_
          refine l_not rfl rfl rfl ?_
          refine l_q rfl (q_pick_f rfl rfl rfl) rfl rfl ?_
          refine l_q rfl (q_move rfl rfl) rfl rfl ?_
          refine l_not rfl rfl rfl ?_
          refine l_not rfl rfl rfl ?_
          refine l_not rfl rfl rfl ?_
          refine l_q rfl (q_pick_f rfl rfl rfl) rfl rfl ?_
          refine l_q rfl (q_move rfl rfl) rfl rfl ?_
          refine l_not rfl rfl rfl ?_
          refine l_not rfl rfl rfl ?_
          refine l_not rfl rfl rfl ?_
          refine l_not rfl rfl rfl ?_
          refine l_not rfl rfl rfl ?_
          refine l_not rfl rfl rfl ?_
          refine l_not rfl rfl rfl ?_
          refine l_not rfl rfl rfl ?_
          refine l_q rfl (q_pick_f rfl rfl rfl) rfl rfl ?_
          refine l_q rfl (q_assign rfl rfl) rfl rfl ?_
          refine l_nil ?_
          refine k_then ?_
          refine c_ret ?_
          refine r_one rfl rfl ?_
          exact fun _ h => ⟨(), congrArg (fun z => Ending.returned (Value.bool z)) (by first | (exfalso; omega) | (simp_all [mayB]; done) | (simp_all [mayB]; omega) | (cases hl : lrg o <;> simp_all [mayB] <;> omega)), trivial, h.nothing⟩
        · try simp only [Bool.not_eq_true', Bool.not_eq_false'] at h43
          refine l_q rfl (q_fieldAddr rfl Try.underlying37 rfl Try.sizeOf3 rfl rfl) rfl rfl ?_
          refine l_q rfl (q_loadC rfl Try.isAgg3 rfl (fun _ h => h.at 1 rfl) rfl) rfl rfl ?_
          refine l_q rfl (q_eql rfl rfl rfl) rfl rfl ?_
          refine l_q rfl (q_move rfl rfl) rfl rfl ?_
          refine Pre.caseB 32 rfl (fun h44 => ?_) (fun h44 => ?_)
          · try simp only [decide_eq_true_eq, decide_eq_false_iff_not, Bool.not_eq_true', Bool.not_eq_false'] at h44
            refine l_q rfl (q_fieldAddr rfl Try.underlying45 rfl Try.sizeOf40 rfl rfl) rfl rfl ?_
            refine l_q rfl (q_loadC rfl Try.isAgg40 rfl (fun _ h => h.at 0 rfl) rfl) rfl rfl ?_
            refine l_q rfl (q_eql rfl rfl rfl) rfl rfl ?_
            refine l_q rfl (q_pick_t rfl rfl rfl) rfl rfl ?_
            refine l_q rfl (q_pick_f rfl rfl rfl) rfl rfl ?_
            refine l_q rfl (q_assign rfl rfl) rfl rfl ?_
            refine l_nil ?_
            refine k_then ?_
            refine c_seq ?_
            refine c_region _ rfl ?_
            refine l_q rfl (q_move rfl rfl) rfl rfl ?_
            refine l_q rfl (q_move rfl rfl) rfl rfl ?_
            refine l_not rfl rfl rfl ?_
            refine l_q rfl (q_pick_f rfl rfl rfl) rfl rfl ?_
            refine l_q rfl (q_move rfl rfl) rfl rfl ?_
            refine l_not rfl rfl rfl ?_
            refine l_not rfl rfl rfl ?_
            refine l_not rfl rfl rfl ?_
            refine l_q rfl (q_pick_f rfl rfl rfl) rfl rfl ?_
            refine l_q rfl (q_move rfl rfl) rfl rfl ?_
            refine l_not rfl rfl rfl ?_
            refine l_not rfl rfl rfl ?_
            refine l_not rfl rfl rfl ?_
            refine l_not rfl rfl rfl ?_
            refine l_not rfl rfl rfl ?_
            refine l_not rfl rfl rfl ?_
            refine l_not rfl rfl rfl ?_
            refine l_not rfl rfl rfl ?_
            refine l_q rfl (q_pick_f rfl rfl rfl) rfl rfl ?_
            refine l_q rfl (q_assign rfl rfl) rfl rfl ?_
            refine l_nil ?_
            refine k_then ?_
            refine c_ret ?_
            refine r_one rfl rfl ?_
            exact fun _ h => ⟨(), congrArg (fun z => Ending.returned (Value.bool z)) (by first | (exfalso; omega) | (simp_all [mayB]; done) | (simp_all [mayB]; omega) | (cases hl : lrg o <;> simp_all [mayB] <;> omega)), trivial, h.nothing⟩
          · try simp only [decide_eq_true_eq, decide_eq_false_iff_not, Bool.not_eq_true', Bool.not_eq_false'] at h44
            refine l_not rfl rfl rfl ?_
            refine l_not rfl rfl rfl ?_
            refine l_not rfl rfl rfl ?_
            refine l_q rfl (q_pick_f rfl rfl rfl) rfl rfl ?_
            refine l_q rfl (q_pick_f rfl rfl rfl) rfl rfl ?_
            refine l_q rfl (q_assign rfl rfl) rfl rfl ?_
            refine l_nil ?_
            refine k_then ?_
            refine c_seq ?_
            refine c_region _ rfl ?_
            refine l_q rfl (q_move rfl rfl) rfl rfl ?_
            refine l_q rfl (q_move rfl rfl) rfl rfl ?_
            refine l_not rfl rfl rfl ?_
            refine l_q rfl (q_pick_f rfl rfl rfl) rfl rfl ?_
            refine l_q rfl (q_move rfl rfl) rfl rfl ?_
            refine l_not rfl rfl rfl ?_
            refine l_not rfl rfl rfl ?_
            refine l_not rfl rfl rfl ?_
            refine l_q rfl (q_pick_f rfl rfl rfl) rfl rfl ?_
            refine l_q rfl (q_move rfl rfl) rfl rfl ?_
            refine l_not rfl rfl rfl ?_
            refine l_not rfl rfl rfl ?_
            refine l_not rfl rfl rfl ?_
            refine l_not rfl rfl rfl ?_
            refine l_not rfl rfl rfl ?_
            refine l_not rfl rfl rfl ?_
            refine l_not rfl rfl rfl ?_
            refine l_not rfl rfl rfl ?_
            refine l_q rfl (q_pick_f rfl rfl rfl) rfl rfl ?_
            refine l_q rfl (q_assign rfl rfl) rfl rfl ?_
            refine l_nil ?_
            refine k_then ?_
            refine c_ret ?_
            refine r_one rfl rfl ?_
            exact fun _ h => ⟨(), congrArg (fun z => Ending.returned (Value.bool z)) (by first | (exfalso; omega) | (simp_all [mayB]; done) | (simp_all [mayB]; omega) | (cases hl : lrg o <;> simp_all [mayB] <;> omega)), trivial, h.nothing⟩
set_option maxRecDepth 100000 in
set_option maxHeartbeats 1000000 in
theorem rmay_spec (o : Op) (a : An) : Con Try.prog 28 [.agg o.c.toArray, .agg a.c.toArray] (fun _ => True) [] (fun _ : Unit => .bool (kndB o && mayB o a)) (fun _ => True) (fun _ => []) := by
  intro w hE hH
  refine enter (n := 64) (vs := [.agg o.c.toArray, .agg a.c.toArray]) (St w [] []) Try.func28 rfl rfl rfl (St.init hH) ?_
  refine c_seq ?_
  refine c_region _ rfl ?_
  refine l_e rfl ?_
  refine e_box rfl rfl rfl rfl ?_
  intro bo
  refine cells_eq (show _ = o.c from rfl) ?_
  refine l_e rfl ?_
  refine e_box rfl rfl rfl rfl ?_
  intro ba
  refine cells_eq (show _ = a.c from rfl) ?_
  refine l_q rfl (q_assign rfl rfl) rfl rfl ?_
  refine l_nil ?_
  refine k_then ?_
  refine c_seq ?_
  refine c_seq ?_
  refine c_draw [(0, some true), (1, some true), (2, some true), (3, some true), (4, some true), (5, some true), (6, some true), (7, some true), (8, some true), (9, some true), (10, some true), (11, some true), (12, some true), (13, some false), (14, some true), (15, some true)] [] [(_, some true), (_, some true), (_, some true), (_, some true), (_, some true), (_, some true), (_, some true), (_, some true), (_, some true), (_, some true), (_, some true), (_, some true), (_, some true), (_, some false), (_, some true), (_, some true)] _ (blind_then (blind_then blind_body)) rfl (by kernel_rfl) (by kernel_rfl) rfl rfl rfl (by kernel_rfl) St.drawn (fun _ h => h) ?_
  refine d_q rfl (q_fieldAddr rfl Try.underlying37 rfl Try.sizeOf3 rfl rfl) rfl rfl ?_
  refine d_q rfl (q_loadC rfl Try.isAgg3 rfl (fun _ h => h.at 1 rfl) rfl) rfl rfl ?_
  refine d_q rfl (q_lss rfl rfl rfl) rfl rfl ?_
  refine d_q rfl (q_move rfl rfl) rfl rfl ?_
  refine Pre.caseB 8 rfl (fun h2 => ?_) (fun h2 => ?_)
  · try simp only [decide_eq_true_eq, decide_eq_false_iff_not, Bool.not_eq_true', Bool.not_eq_false'] at h2
    refine d_not rfl rfl rfl ?_
    refine d_not rfl rfl rfl ?_
    refine d_not rfl rfl rfl ?_
    refine d_q rfl (q_pick_t rfl rfl rfl) rfl rfl ?_
    refine d_q rfl (q_move rfl rfl) rfl rfl ?_
    refine d_not rfl rfl rfl ?_
    refine d_not rfl rfl rfl ?_
    refine d_not rfl rfl rfl ?_
    refine d_not rfl rfl rfl ?_
    refine d_not rfl rfl rfl ?_
    refine d_not rfl rfl rfl ?_
    refine d_q rfl (q_pick_t rfl rfl rfl) rfl rfl ?_
    refine d_nil ?_
    refine k_then ?_
    refine c_true rfl ?_
    refine c_seq ?_
    refine c_region _ rfl ?_
    refine l_q rfl (q_assign rfl rfl) rfl rfl ?_
    refine l_nil ?_
    refine k_then ?_
    refine c_ret ?_
    refine k_then_ret ?_
    refine r_one rfl rfl ?_
    exact fun _ h => ⟨(), congrArg (fun z => Ending.returned (Value.bool z)) (by first | (exfalso; omega) | (simp_all [mayB, kndB]; done) | (simp_all [mayB, kndB]; omega) | (cases hl : lrg o <;> simp_all [mayB, kndB] <;> omega)), trivial, h.nothing⟩
  · try simp only [decide_eq_true_eq, decide_eq_false_iff_not, Bool.not_eq_true', Bool.not_eq_false'] at h2
    refine d_q rfl (q_fieldAddr rfl Try.underlying37 rfl Try.sizeOf3 rfl rfl) rfl rfl ?_
    refine d_q rfl (q_loadC rfl Try.isAgg3 rfl (fun _ h => h.at 1 rfl) rfl) rfl rfl ?_
    refine d_q rfl (q_gtr rfl rfl rfl) rfl rfl ?_
    refine d_q rfl (q_pick_f rfl rfl rfl) rfl rfl ?_
    refine d_q rfl (q_move rfl rfl) rfl rfl ?_
    refine Pre.caseB 13 rfl (fun h3 => ?_) (fun h3 => ?_)
    · try simp only [decide_eq_true_eq, decide_eq_false_iff_not, Bool.not_eq_true', Bool.not_eq_false'] at h3
      refine d_not rfl rfl rfl ?_
      refine d_not rfl rfl rfl ?_
      refine d_not rfl rfl rfl ?_
      refine d_not rfl rfl rfl ?_
      refine d_not rfl rfl rfl ?_
      refine d_not rfl rfl rfl ?_
      refine d_q rfl (q_pick_t rfl rfl rfl) rfl rfl ?_
      refine d_nil ?_
      refine k_then ?_
      refine c_true rfl ?_
      refine c_seq ?_
      refine c_region _ rfl ?_
      refine l_q rfl (q_assign rfl rfl) rfl rfl ?_
      refine l_nil ?_
      refine k_then ?_
      refine c_ret ?_
      refine k_then_ret ?_
      refine r_one rfl rfl ?_
      exact fun _ h => ⟨(), congrArg (fun z => Ending.returned (Value.bool z)) (by first | (exfalso; omega) | (simp_all [mayB, kndB]; done) | (simp_all [mayB, kndB]; omega) | (cases hl : lrg o <;> simp_all [mayB, kndB] <;> omega)), trivial, h.nothing⟩
    · try simp only [decide_eq_true_eq, decide_eq_false_iff_not, Bool.not_eq_true', Bool.not_eq_false'] at h3
      refine d_q rfl (q_fieldAddr rfl Try.underlying45 rfl Try.sizeOf40 rfl rfl) rfl rfl ?_
      refine d_q rfl (q_loadC rfl Try.isAgg40 rfl (fun _ h => h.at 0 rfl) rfl) rfl rfl ?_
      refine d_q rfl (q_eql rfl rfl rfl) rfl rfl ?_
      refine d_q rfl (q_loadCAgg (o.c) rfl Try.isAgg37 Try.sizeOf37 rfl (fun _ h => h.at 1 rfl) (rfl) (rfl)) rfl rfl ?_
      refine d_e rfl ?_
      refine e_call_00 (rlrg_spec o) rfl rfl rfl Try.call24 rfl (fun _ _ => trivial) ?_
      intro _ _
      refine d_held (fun _ h => h) ?_
      refine d_q rfl (q_neb rfl Try.underlying4 rfl rfl) rfl rfl ?_
      refine d_q rfl (q_pick_f rfl rfl rfl) rfl rfl ?_
      refine d_nil ?_
      refine k_then ?_
      refine Pre.caseB 20 rfl (fun h4 => ?_) (fun h4 => ?_)
      · try simp only [decide_eq_true_eq, decide_eq_false_iff_not, Bool.not_eq_true', Bool.not_eq_false'] at h4
        refine c_true rfl ?_
        refine c_seq ?_
        refine c_region _ rfl ?_
        refine l_q rfl (q_assign rfl rfl) rfl rfl ?_
        refine l_nil ?_
        refine k_then ?_
        refine c_ret ?_
        refine k_then_ret ?_
        refine r_one rfl rfl ?_
        exact fun _ h => ⟨(), congrArg (fun z => Ending.returned (Value.bool z)) (by first | (exfalso; omega) | (simp_all [mayB, kndB]; done) | (simp_all [mayB, kndB]; omega) | (cases hl : lrg o <;> simp_all [mayB, kndB] <;> omega)), trivial, h.nothing⟩
      · try simp only [decide_eq_true_eq, decide_eq_false_iff_not, Bool.not_eq_true', Bool.not_eq_false'] at h4
        refine c_false rfl ?_
        refine c_skip ?_
        refine k_then ?_
        refine c_seq ?_
        refine c_seq ?_
        refine c_region _ rfl ?_
        refine l_q rfl (q_fieldAddr rfl Try.underlying45 rfl Try.sizeOf40 rfl rfl) rfl rfl ?_
        refine l_q rfl (q_loadC rfl Try.isAgg40 rfl (fun _ h => h.at 0 rfl) rfl) rfl rfl ?_
        refine l_q rfl (q_neq rfl rfl rfl) rfl rfl ?_
        refine l_q rfl (q_move rfl rfl) rfl rfl ?_
        refine Pre.caseB 24 rfl (fun h5 => ?_) (fun h5 => ?_)
        · try simp only [decide_eq_true_eq, decide_eq_false_iff_not, Bool.not_eq_true', Bool.not_eq_false'] at h5
          refine l_q rfl (q_fieldAddr rfl Try.underlying45 rfl Try.sizeOf40 rfl rfl) rfl rfl ?_
          refine l_q rfl (q_loadC rfl Try.isAgg40 rfl (fun _ h => h.at 0 rfl) rfl) rfl rfl ?_
          refine l_q rfl (q_neq rfl rfl rfl) rfl rfl ?_
          refine l_q rfl (q_pick_t rfl rfl rfl) rfl rfl ?_
          refine l_q rfl (q_move rfl rfl) rfl rfl ?_
          refine Pre.caseB 29 rfl (fun h6 => ?_) (fun h6 => ?_)
          · try simp only [decide_eq_true_eq, decide_eq_false_iff_not, Bool.not_eq_true', Bool.not_eq_false'] at h6
            refine l_q rfl (q_fieldAddr rfl Try.underlying45 rfl Try.sizeOf40 rfl rfl) rfl rfl ?_
            refine l_q rfl (q_loadC rfl Try.isAgg40 rfl (fun _ h => h.at 0 rfl) rfl) rfl rfl ?_
            refine l_q rfl (q_neq rfl rfl rfl) rfl rfl ?_
            refine l_q rfl (q_move rfl rfl) rfl rfl ?_
            refine Pre.caseB 33 rfl (fun h7 => ?_) (fun h7 => ?_)
            · try simp only [decide_eq_true_eq, decide_eq_false_iff_not, Bool.not_eq_true', Bool.not_eq_false'] at h7
              refine l_not rfl rfl rfl ?_
              refine l_not rfl rfl rfl ?_
              refine l_not rfl rfl rfl ?_
              refine l_q rfl (q_pick_t rfl rfl rfl) rfl rfl ?_
              refine l_q rfl (q_pick_t rfl rfl rfl) rfl rfl ?_
              refine l_nil ?_
              refine k_then ?_
              refine c_true rfl ?_
              refine c_seq ?_
              refine c_region _ rfl ?_
              refine l_q rfl (q_assign rfl rfl) rfl rfl ?_
              refine l_nil ?_
              refine k_then ?_
              refine c_ret ?_
              refine k_then_ret ?_
              refine r_one rfl rfl ?_
              exact fun _ h => ⟨(), congrArg (fun z => Ending.returned (Value.bool z)) (by first | (exfalso; omega) | (simp_all [mayB, kndB]; done) | (simp_all [mayB, kndB]; omega) | (cases hl : lrg o <;> simp_all [mayB, kndB] <;> omega)), trivial, h.nothing⟩
            · try simp only [decide_eq_true_eq, decide_eq_false_iff_not, Bool.not_eq_true', Bool.not_eq_false'] at h7
              refine l_q rfl (q_fieldAddr rfl Try.underlying37 rfl Try.sizeOf3 rfl rfl) rfl rfl ?_
              refine l_q rfl (q_loadC rfl Try.isAgg3 rfl (fun _ h => h.at 1 rfl) rfl) rfl rfl ?_
              refine l_q rfl (q_eql rfl rfl rfl) rfl rfl ?_
              refine l_q rfl (q_pick_f rfl rfl rfl) rfl rfl ?_
              refine l_q rfl (q_pick_t rfl rfl rfl) rfl rfl ?_
              refine l_nil ?_
              refine k_then ?_
              refine Pre.caseB 38 rfl (fun h8 => ?_) (fun h8 => ?_)
              · try simp only [decide_eq_true_eq, decide_eq_false_iff_not, Bool.not_eq_true', Bool.not_eq_false'] at h8
                refine c_true rfl ?_
                refine c_seq ?_
                refine c_region _ rfl ?_
                refine l_q rfl (q_assign rfl rfl) rfl rfl ?_
                refine l_nil ?_
                refine k_then ?_
                refine c_ret ?_
                refine k_then_ret ?_
                refine r_one rfl rfl ?_
                exact fun _ h => ⟨(), congrArg (fun z => Ending.returned (Value.bool z)) (by first | (exfalso; omega) | (simp_all [mayB, kndB]; done) | (simp_all [mayB, kndB]; omega) | (cases hl : lrg o <;> simp_all [mayB, kndB] <;> omega)), trivial, h.nothing⟩
              · try simp only [decide_eq_true_eq, decide_eq_false_iff_not, Bool.not_eq_true', Bool.not_eq_false'] at h8
                refine c_false rfl ?_
                refine c_skip ?_
                refine k_then ?_
                refine c_seq ?_
                refine c_seq ?_
                refine c_region _ rfl ?_
                refine l_q rfl (q_fieldAddr rfl Try.underlying45 rfl Try.sizeOf4 rfl rfl) rfl rfl ?_
                refine l_q rfl (q_loadC rfl Try.isAgg4 rfl (fun _ h => h.at 0 rfl) rfl) rfl rfl ?_
                refine l_q rfl (q_move rfl rfl) rfl rfl ?_
                refine Pre.caseB 41 rfl (fun h9 => ?_) (fun h9 => ?_)
                · refine l_q rfl (q_fieldAddr rfl Try.underlying37 rfl Try.sizeOf3 rfl rfl) rfl rfl ?_
                  refine l_q rfl (q_loadC rfl Try.isAgg3 rfl (fun _ h => h.at 1 rfl) rfl) rfl rfl ?_
                  refine l_q rfl (q_neq rfl rfl rfl) rfl rfl ?_
                  refine l_q rfl (q_move rfl rfl) rfl rfl ?_
                  refine Pre.caseB 45 rfl (fun h10 => ?_) (fun h10 => ?_)
                  · try simp only [decide_eq_true_eq, decide_eq_false_iff_not, Bool.not_eq_true', Bool.not_eq_false'] at h10
                    refine l_not rfl rfl rfl ?_
                    refine l_not rfl rfl rfl ?_
                    refine l_not rfl rfl rfl ?_
                    refine l_q rfl (q_pick_t rfl rfl rfl) rfl rfl ?_
                    refine l_q rfl (q_pick_t rfl rfl rfl) rfl rfl ?_
                    refine l_nil ?_
                    refine k_then ?_
                    refine c_true rfl ?_
                    refine c_seq ?_
                    refine c_region _ rfl ?_
                    refine l_q rfl (q_assign rfl rfl) rfl rfl ?_
                    refine l_nil ?_
                    refine k_then ?_
                    refine c_ret ?_
                    refine k_then_ret ?_
                    refine r_one rfl rfl ?_
                    exact fun _ h => ⟨(), congrArg (fun z => Ending.returned (Value.bool z)) (by first | (exfalso; omega) | (simp_all [mayB, kndB]; done) | (simp_all [mayB, kndB]; omega) | (cases hl : lrg o <;> simp_all [mayB, kndB] <;> omega)), trivial, h.nothing⟩
                  · try simp only [decide_eq_true_eq, decide_eq_false_iff_not, Bool.not_eq_true', Bool.not_eq_false'] at h10
                    refine l_q rfl (q_fieldAddr rfl Try.underlying45 rfl Try.sizeOf40 rfl rfl) rfl rfl ?_
                    refine l_q rfl (q_loadC rfl Try.isAgg40 rfl (fun _ h => h.at 0 rfl) rfl) rfl rfl ?_
                    refine l_q rfl (q_neq rfl rfl rfl) rfl rfl ?_
                    refine l_q rfl (q_pick_f rfl rfl rfl) rfl rfl ?_
                    refine l_q rfl (q_pick_t rfl rfl rfl) rfl rfl ?_
                    refine l_nil ?_
                    refine k_then ?_
                    refine Pre.caseB 50 rfl (fun h11 => ?_) (fun h11 => ?_)
                    · try simp only [decide_eq_true_eq, decide_eq_false_iff_not, Bool.not_eq_true', Bool.not_eq_false'] at h11
                      refine c_true rfl ?_
                      refine c_seq ?_
                      refine c_region _ rfl ?_
                      refine l_q rfl (q_assign rfl rfl) rfl rfl ?_
                      refine l_nil ?_
                      refine k_then ?_
                      refine c_ret ?_
                      refine k_then_ret ?_
                      refine r_one rfl rfl ?_
                      exact fun _ h => ⟨(), congrArg (fun z => Ending.returned (Value.bool z)) (by first | (exfalso; omega) | (simp_all [mayB, kndB]; done) | (simp_all [mayB, kndB]; omega) | (cases hl : lrg o <;> simp_all [mayB, kndB] <;> omega)), trivial, h.nothing⟩
                    · try simp only [decide_eq_true_eq, decide_eq_false_iff_not, Bool.not_eq_true', Bool.not_eq_false'] at h11
                      refine c_false rfl ?_
                      refine c_skip ?_
                      refine k_then ?_
                      refine c_seq ?_
                      refine c_region _ rfl ?_
                      refine l_q rfl (q_fieldAddr rfl Try.underlying45 rfl Try.sizeOf43 rfl rfl) rfl rfl ?_
                      refine l_q rfl (q_loadCAgg (a.v.c) rfl Try.isAgg43 Try.sizeOf43 rfl (fun _ h => h.at 0 rfl) (An.v_part _) (Kv.c_len _)) rfl rfl ?_
                      refine l_e rfl ?_
                      refine e_call_00 (rvcheck_spec a.v) rfl rfl rfl Try.call35 rfl (fun _ _ => trivial) ?_
                      intro _ _
                      refine l_q rfl (q_move rfl rfl) rfl rfl ?_
                      refine Pre.caseB 54 rfl (fun h12 => ?_) (fun h12 => ?_)
                      · try simp only [decide_eq_true_eq, decide_eq_false_iff_not, Bool.not_eq_true', Bool.not_eq_false'] at h12
                        refine l_q rfl (q_fieldAddr rfl Try.underlying45 rfl Try.sizeOf4 rfl rfl) rfl rfl ?_
                        refine l_q rfl (q_loadC rfl Try.isAgg4 rfl (fun _ h => h.at 0 rfl) rfl) rfl rfl ?_
                        refine l_q rfl (q_move rfl rfl) rfl rfl ?_
                        refine Pre.setB (t := 57) (c := true) rfl (h9) ?_
                        refine l_not rfl rfl rfl ?_
                        refine l_not rfl rfl rfl ?_
                        refine l_not rfl rfl rfl ?_
                        refine l_not rfl rfl rfl ?_
                        refine l_q rfl (q_pick_t rfl rfl rfl) rfl rfl ?_
                        refine l_q rfl (q_pick_t rfl rfl rfl) rfl rfl ?_
                        refine l_q rfl (q_assign rfl rfl) rfl rfl ?_
                        refine l_nil ?_
                        refine k_then ?_
                        refine c_ret ?_
                        refine r_one rfl rfl ?_
                        exact fun _ h => ⟨(), congrArg (fun z => Ending.returned (Value.bool z)) (by first | (exfalso; omega) | (simp_all [mayB, kndB]; done) | (simp_all [mayB, kndB]; omega) | (cases hl : lrg o <;> simp_all [mayB, kndB] <;> omega)), trivial, h.nothing⟩
                      · try simp only [decide_eq_true_eq, decide_eq_false_iff_not, Bool.not_eq_true', Bool.not_eq_false'] at h12
                        refine l_not rfl rfl rfl ?_
                        refine l_not rfl rfl rfl ?_
                        refine l_not rfl rfl rfl ?_
                        refine l_not rfl rfl rfl ?_
                        refine l_not rfl rfl rfl ?_
                        refine l_not rfl rfl rfl ?_
                        refine l_not rfl rfl rfl ?_
                        refine l_not rfl rfl rfl ?_
                        refine l_q rfl (q_pick_f rfl rfl rfl) rfl rfl ?_
                        refine l_q rfl (q_assign rfl rfl) rfl rfl ?_
                        refine l_nil ?_
                        refine k_then ?_
                        refine c_ret ?_
                        refine r_one rfl rfl ?_
                        exact fun _ h => ⟨(), congrArg (fun z => Ending.returned (Value.bool z)) (by first | (exfalso; omega) | (simp_all [mayB, kndB]; done) | (simp_all [mayB, kndB]; omega) | (cases hl : lrg o <;> simp_all [mayB, kndB] <;> omega)), trivial, h.nothing⟩
                · refine l_not rfl rfl rfl ?_
                  refine l_not rfl rfl rfl ?_
                  refine l_not rfl rfl rfl ?_
                  refine l_not rfl rfl rfl ?_
                  refine l_not rfl rfl rfl ?_
                  refine l_not rfl rfl rfl ?_
                  refine l_not rfl rfl rfl ?_
                  refine l_not rfl rfl rfl ?_
                  refine l_q rfl (q_pick_f rfl rfl rfl) rfl rfl ?_
                  refine l_nil ?_
                  refine k_then ?_
                  refine c_false rfl ?_
                  refine c_skip ?_
                  refine k_then ?_
                  refine c_seq ?_
                  refine c_region _ rfl ?_
                  refine l_q rfl (q_fieldAddr rfl Try.underlying45 rfl Try.sizeOf43 rfl rfl) rfl rfl ?_
                  refine l_q rfl (q_loadCAgg (a.v.c) rfl Try.isAgg43 Try.sizeOf43 rfl (fun _ h => h.at 0 rfl) (An.v_part _) (Kv.c_len _)) rfl rfl ?_
                  refine l_e rfl ?_
                  refine e_call_00 (rvcheck_spec a.v) rfl rfl rfl Try.call35 rfl (fun _ _ => trivial) ?_
                  intro _ _
                  refine l_q rfl (q_move rfl rfl) rfl rfl ?_
                  refine Pre.caseB 54 rfl (fun h13 => ?_) (fun h13 => ?_)
                  · try simp only [decide_eq_true_eq, decide_eq_false_iff_not, Bool.not_eq_true', Bool.not_eq_false'] at h13
                    refine l_q rfl (q_fieldAddr rfl Try.underlying45 rfl Try.sizeOf4 rfl rfl) rfl rfl ?_
                    refine l_q rfl (q_loadC rfl Try.isAgg4 rfl (fun _ h => h.at 0 rfl) rfl) rfl rfl ?_
                    refine l_q rfl (q_move rfl rfl) rfl rfl ?_
                    refine Pre.setB (t := 57) (c := false) rfl (h9) ?_
                    refine l_q rfl (q_fieldAddr rfl Try.underlying45 rfl Try.sizeOf43 rfl rfl) rfl rfl ?_
                    refine l_q rfl (q_loadCAgg (a.v.c) rfl Try.isAgg43 Try.sizeOf43 rfl (fun _ h => h.at 0 rfl) (An.v_part _) (Kv.c_len _)) rfl rfl ?_
                    refine l_q rfl (q_build ((kv0 16).c) rfl rfl (fun w => by kernel_rfl)) rfl rfl ?_
                    refine l_q rfl (q_eqV (a.v) ((kv0 16)) rfl rfl rfl) rfl rfl ?_
                    refine l_q rfl (q_pick_f rfl rfl rfl) rfl rfl ?_
                    refine l_q rfl (q_pick_t rfl rfl rfl) rfl rfl ?_
                    refine l_q rfl (q_assign rfl rfl) rfl rfl ?_
                    refine l_nil ?_
                    refine k_then ?_
                    refine c_ret ?_
                    refine r_one rfl rfl ?_
                    exact fun _ h => ⟨(), congrArg (fun z => Ending.returned (Value.bool z)) (by first | (exfalso; omega) | (simp_all [mayB, kndB]; done) | (simp_all [mayB, kndB]; omega) | (cases hl : lrg o <;> simp_all [mayB, kndB] <;> omega)), trivial, h.nothing⟩
                  · try simp only [decide_eq_true_eq, decide_eq_false_iff_not, Bool.not_eq_true', Bool.not_eq_false'] at h13
                    refine l_not rfl rfl rfl ?_
                    refine l_not rfl rfl rfl ?_
                    refine l_not rfl rfl rfl ?_
                    refine l_not rfl rfl rfl ?_
                    refine l_not rfl rfl rfl ?_
                    refine l_not rfl rfl rfl ?_
                    refine l_not rfl rfl rfl ?_
                    refine l_not rfl rfl rfl ?_
                    refine l_q rfl (q_pick_f rfl rfl rfl) rfl rfl ?_
                    refine l_q rfl (q_assign rfl rfl) rfl rfl ?_
                    refine l_nil ?_
                    refine k_then ?_
                    refine c_ret ?_
                    refine r_one rfl rfl ?_
                    exact fun _ h => ⟨(), congrArg (fun z => Ending.returned (Value.bool z)) (by first | (exfalso; omega) | (simp_all [mayB, kndB]; done) | (simp_all [mayB, kndB]; omega) | (cases hl : lrg o <;> simp_all [mayB, kndB] <;> omega)), trivial, h.nothing⟩
          · try simp only [decide_eq_true_eq, decide_eq_false_iff_not, Bool.not_eq_true', Bool.not_eq_false'] at h6
            refine l_not rfl rfl rfl ?_
            refine l_not rfl rfl rfl ?_
            refine l_not rfl rfl rfl ?_
            refine l_not rfl rfl rfl ?_
            refine l_not rfl rfl rfl ?_
            refine l_not rfl rfl rfl ?_
            refine l_not rfl rfl rfl ?_
            refine l_not rfl rfl rfl ?_
            refine l_q rfl (q_pick_f rfl rfl rfl) rfl rfl ?_
            refine l_nil ?_
            refine k_then ?_
            refine c_false rfl ?_
            refine c_skip ?_
            refine k_then ?_
            refine c_seq ?_
            refine c_seq ?_
            refine c_region _ rfl ?_
            refine l_q rfl (q_fieldAddr rfl Try.underlying45 rfl Try.sizeOf4 rfl rfl) rfl rfl ?_
            refine l_q rfl (q_loadC rfl Try.isAgg4 rfl (fun _ h => h.at 0 rfl) rfl) rfl rfl ?_
            refine l_q rfl (q_move rfl rfl) rfl rfl ?_
            refine Pre.caseB 41 rfl (fun h14 => ?_) (fun h14 => ?_)
            · refine l_q rfl (q_fieldAddr rfl Try.underlying37 rfl Try.sizeOf3 rfl rfl) rfl rfl ?_
              refine l_q rfl (q_loadC rfl Try.isAgg3 rfl (fun _ h => h.at 1 rfl) rfl) rfl rfl ?_
              refine l_q rfl (q_neq rfl rfl rfl) rfl rfl ?_
              refine l_q rfl (q_move rfl rfl) rfl rfl ?_
              refine Pre.caseB 45 rfl (fun h15 => ?_) (fun h15 => ?_)
              · try simp only [decide_eq_true_eq, decide_eq_false_iff_not, Bool.not_eq_true', Bool.not_eq_false'] at h15
                refine l_not rfl rfl rfl ?_
                refine l_not rfl rfl rfl ?_
                refine l_not rfl rfl rfl ?_
                refine l_q rfl (q_pick_t rfl rfl rfl) rfl rfl ?_
                refine l_q rfl (q_pick_t rfl rfl rfl) rfl rfl ?_
                refine l_nil ?_
                refine k_then ?_
                refine c_true rfl ?_
                refine c_seq ?_
                refine c_region _ rfl ?_
                refine l_q rfl (q_assign rfl rfl) rfl rfl ?_
                refine l_nil ?_
                refine k_then ?_
                refine c_ret ?_
                refine k_then_ret ?_
                refine r_one rfl rfl ?_
                exact fun _ h => ⟨(), congrArg (fun z => Ending.returned (Value.bool z)) (by first | (exfalso; omega) | (simp_all [mayB, kndB]; done) | (simp_all [mayB, kndB]; omega) | (cases hl : lrg o <;> simp_all [mayB, kndB] <;> omega)), trivial, h.nothing⟩
              · try simp only [decide_eq_true_eq, decide_eq_false_iff_not, Bool.not_eq_true', Bool.not_eq_false'] at h15
                refine l_q rfl (q_fieldAddr rfl Try.underlying45 rfl Try.sizeOf40 rfl rfl) rfl rfl ?_
                refine l_q rfl (q_loadC rfl Try.isAgg40 rfl (fun _ h => h.at 0 rfl) rfl) rfl rfl ?_
                refine l_q rfl (q_neq rfl rfl rfl) rfl rfl ?_
                refine l_q rfl (q_pick_f rfl rfl rfl) rfl rfl ?_
                refine l_q rfl (q_pick_t rfl rfl rfl) rfl rfl ?_
                refine l_nil ?_
                refine k_then ?_
                refine Pre.caseB 50 rfl (fun h16 => ?_) (fun h16 => ?_)
                · try simp only [decide_eq_true_eq, decide_eq_false_iff_not, Bool.not_eq_true', Bool.not_eq_false'] at h16
                  refine c_true rfl ?_
                  refine c_seq ?_
                  refine c_region _ rfl ?_
                  refine l_q rfl (q_assign rfl rfl) rfl rfl ?_
                  refine l_nil ?_
                  refine k_then ?_
                  refine c_ret ?_
                  refine k_then_ret ?_
                  refine r_one rfl rfl ?_
                  exact fun _ h => ⟨(), congrArg (fun z => Ending.returned (Value.bool z)) (by first | (exfalso; omega) | (simp_all [mayB, kndB]; done) | (simp_all [mayB, kndB]; omega) | (cases hl : lrg o <;> simp_all [mayB, kndB] <;> omega)), trivial, h.nothing⟩
                · try simp only [decide_eq_true_eq, decide_eq_false_iff_not, Bool.not_eq_true', Bool.not_eq_false'] at h16
                  refine c_false rfl ?_
                  refine c_skip ?_
                  refine k_then ?_
                  refine c_seq ?_
                  refine c_region _ rfl ?_
                  refine l_q rfl (q_fieldAddr rfl Try.underlying45 rfl Try.sizeOf43 rfl rfl) rfl rfl ?_
                  refine l_q rfl (q_loadCAgg (a.v.c) rfl Try.isAgg43 Try.sizeOf43 rfl (fun _ h => h.at 0 rfl) (An.v_part _) (Kv.c_len _)) rfl rfl ?_
                  refine l_e rfl ?_
                  refine e_call_00 (rvcheck_spec a.v) rfl rfl rfl Try.call35 rfl (fun _ _ => trivial) ?_
                  intro _ _
                  refine l_q rfl (q_move rfl rfl) rfl rfl ?_
                  refine Pre.caseB 54 rfl (fun h17 => ?_) (fun h17 => ?_)
                  · try simp only [decide_eq_true_eq, decide_eq_false_iff_not, Bool.not_eq_true', Bool.not_eq_false'] at h17
                    refine l_q rfl (q_fieldAddr rfl Try.underlying45 rfl Try.sizeOf4 rfl rfl) rfl rfl ?_
                    refine l_q rfl (q_loadC rfl Try.isAgg4 rfl (fun _ h => h.at 0 rfl) rfl) rfl rfl ?_
                    refine l_q rfl (q_move rfl rfl) rfl rfl ?_
                    refine Pre.setB (t := 57) (c := true) rfl (h14) ?_
                    refine l_not rfl rfl rfl ?_
                    refine l_not rfl rfl rfl ?_
                    refine l_not rfl rfl rfl ?_
                    refine l_not rfl rfl rfl ?_
                    refine l_q rfl (q_pick_t rfl rfl rfl) rfl rfl ?_
                    refine l_q rfl (q_pick_t rfl rfl rfl) rfl rfl ?_
                    refine l_q rfl (q_assign rfl rfl) rfl rfl ?_
                    refine l_nil ?_
                    refine k_then ?_
                    refine c_ret ?_
                    refine r_one rfl rfl ?_
                    exact fun _ h => ⟨(), congrArg (fun z => Ending.returned (Value.bool z)) (by first | (exfalso; omega) | (simp_all [mayB, kndB]; done) | (simp_all [mayB, kndB]; omega) | (cases hl : lrg o <;> simp_all [mayB, kndB] <;> omega)), trivial, h.nothing⟩
                  · try simp only [decide_eq_true_eq, decide_eq_false_iff_not, Bool.not_eq_true', Bool.not_eq_false'] at h17
                    refine l_not rfl rfl rfl ?_
                    refine l_not rfl rfl rfl ?_
                    refine l_not rfl rfl rfl ?_
                    refine l_not rfl rfl rfl ?_
                    refine l_not rfl rfl rfl ?_
                    refine l_not rfl rfl rfl ?_
                    refine l_not rfl rfl rfl ?_
                    refine l_not rfl rfl rfl ?_
                    refine l_q rfl (q_pick_f rfl rfl rfl) rfl rfl ?_
                    refine l_q rfl (q_assign rfl rfl) rfl rfl ?_
                    refine l_nil ?_
                    refine k_then ?_
                    refine c_ret ?_
                    refine r_one rfl rfl ?_
                    exact fun _ h => ⟨(), congrArg (fun z => Ending.returned (Value.bool z)) (by first | (exfalso; omega) | (simp_all [mayB, kndB]; done) | (simp_all [mayB, kndB]; omega) | (cases hl : lrg o <;> simp_all [mayB, kndB] <;> omega)), trivial, h.nothing⟩
            · refine l_not rfl rfl rfl ?_
              refine l_not rfl rfl rfl ?_
              refine l_not rfl rfl rfl ?_
              refine l_not rfl rfl rfl ?_
              refine l_not rfl rfl rfl ?_
              refine l_not rfl rfl rfl ?_
              refine l_not rfl rfl rfl ?_
              refine l_not rfl rfl rfl ?_
              refine l_q rfl (q_pick_f rfl rfl rfl) rfl rfl ?_
              refine l_nil ?_
              refine k_then ?_
              refine c_false rfl ?_
              refine c_skip ?_
              refine k_then ?_
              refine c_seq ?_
              refine c_region _ rfl ?_
              refine l_q rfl (q_fieldAddr rfl Try.underlying45 rfl Try.sizeOf43 rfl rfl) rfl rfl ?_
              refine l_q rfl (q_loadCAgg (a.v.c) rfl Try.isAgg43 Try.sizeOf43 rfl (fun _ h => h.at 0 rfl) (An.v_part _) (Kv.c_len _)) rfl rfl ?_
              refine l_e rfl ?_
              refine e_call_00 (rvcheck_spec a.v) rfl rfl rfl Try.call35 rfl (fun _ _ => trivial) ?_
              intro _ _
              refine l_q rfl (q_move rfl rfl) rfl rfl ?_
              refine Pre.caseB 54 rfl (fun h18 => ?_) (fun h18 => ?_)
              · try simp only [decide_eq_true_eq, decide_eq_false_iff_not, Bool.not_eq_true', Bool.not_eq_false'] at h18
                refine l_q rfl (q_fieldAddr rfl Try.underlying45 rfl Try.sizeOf4 rfl rfl) rfl rfl ?_
                refine l_q rfl (q_loadC rfl Try.isAgg4 rfl (fun _ h => h.at 0 rfl) rfl) rfl rfl ?_
                refine l_q rfl (q_move rfl rfl) rfl rfl ?_
                refine Pre.setB (t := 57) (c := false) rfl (h14) ?_
                refine l_q rfl (q_fieldAddr rfl Try.underlying45 rfl Try.sizeOf43 rfl rfl) rfl rfl ?_
                refine l_q rfl (q_loadCAgg (a.v.c) rfl Try.isAgg43 Try.sizeOf43 rfl (fun _ h => h.at 0 rfl) (An.v_part _) (Kv.c_len _)) rfl rfl ?_
                refine l_q rfl (q_build ((kv0 16).c) rfl rfl (fun w => by kernel_rfl)) rfl rfl ?_
                refine l_q rfl (q_eqV (a.v) ((kv0 16)) rfl rfl rfl) rfl rfl ?_
                refine l_q rfl (q_pick_f rfl rfl rfl) rfl rfl ?_
                refine l_q rfl (q_pick_t rfl rfl rfl) rfl rfl ?_
                refine l_q rfl (q_assign rfl rfl) rfl rfl ?_
                refine l_nil ?_
                refine k_then ?_
                refine c_ret ?_
                refine r_one rfl rfl ?_
                exact fun _ h => ⟨(), congrArg (fun z => Ending.returned (Value.bool z)) (by first | (exfalso; omega) | (simp_all [mayB, kndB]; done) | (simp_all [mayB, kndB]; omega) | (cases hl : lrg o <;> simp_all [mayB, kndB] <;> omega)), trivial, h.nothing⟩
              · try simp only [decide_eq_true_eq, decide_eq_false_iff_not, Bool.not_eq_true', Bool.not_eq_false'] at h18
                refine l_not rfl rfl rfl ?_
                refine l_not rfl rfl rfl ?_
                refine l_not rfl rfl rfl ?_
                refine l_not rfl rfl rfl ?_
                refine l_not rfl rfl rfl ?_
                refine l_not rfl rfl rfl ?_
                refine l_not rfl rfl rfl ?_
                refine l_not rfl rfl rfl ?_
                refine l_q rfl (q_pick_f rfl rfl rfl) rfl rfl ?_
                refine l_q rfl (q_assign rfl rfl) rfl rfl ?_
                refine l_nil ?_
                refine k_then ?_
                refine c_ret ?_
                refine r_one rfl rfl ?_
                exact fun _ h => ⟨(), congrArg (fun z => Ending.returned (Value.bool z)) (by first | (exfalso; omega) | (simp_all [mayB, kndB]; done) | (simp_all [mayB, kndB]; omega) | (cases hl : lrg o <;> simp_all [mayB, kndB] <;> omega)), trivial, h.nothing⟩
        · try simp only [decide_eq_true_eq, decide_eq_false_iff_not, Bool.not_eq_true', Bool.not_eq_false'] at h5
          refine l_not rfl rfl rfl ?_
          refine l_not rfl rfl rfl ?_
          refine l_not rfl rfl rfl ?_
          refine l_q rfl (q_pick_f rfl rfl rfl) rfl rfl ?_
          refine l_q rfl (q_move rfl rfl) rfl rfl ?_
          refine l_not rfl rfl rfl ?_
          refine l_not rfl rfl rfl ?_
          refine l_not rfl rfl rfl ?_
          refine l_not rfl rfl rfl ?_
          refine l_not rfl rfl rfl ?_
          refine l_not rfl rfl rfl ?_
          refine l_not rfl rfl rfl ?_
          refine l_not rfl rfl rfl ?_
          refine l_q rfl (q_pick_f rfl rfl rfl) rfl rfl ?_
          refine l_nil ?_
          refine k_then ?_
          refine c_false rfl ?_
          refine c_skip ?_
          refine k_then ?_
          refine c_seq ?_
          refine c_seq ?_
          refine c_region _ rfl ?_
          refine l_q rfl (q_fieldAddr rfl Try.underlying45 rfl Try.sizeOf4 rfl rfl) rfl rfl ?_
          refine l_q rfl (q_loadC rfl Try.isAgg4 rfl (fun _ h => h.at 0 rfl) rfl) rfl rfl ?_
          refine l_q rfl (q_move rfl rfl) rfl rfl ?_
          refine Pre.caseB 41 rfl (fun h19 => ?_) (fun h19 => ?_)
          · refine l_q rfl (q_fieldAddr rfl Try.underlying37 rfl Try.sizeOf3 rfl rfl) rfl rfl ?_
            refine l_q rfl (q_loadC rfl Try.isAgg3 rfl (fun _ h => h.at 1 rfl) rfl) rfl rfl ?_
            refine l_q rfl (q_neq rfl rfl rfl) rfl rfl ?_
            refine l_q rfl (q_move rfl rfl) rfl rfl ?_
            refine Pre.caseB 45 rfl (fun h20 => ?_) (fun h20 => ?_)
            · try simp only [decide_eq_true_eq, decide_eq_false_iff_not, Bool.not_eq_true', Bool.not_eq_false'] at h20
              refine l_not rfl rfl rfl ?_
              refine l_not rfl rfl rfl ?_
              refine l_not rfl rfl rfl ?_
              refine l_q rfl (q_pick_t rfl rfl rfl) rfl rfl ?_
              refine l_q rfl (q_pick_t rfl rfl rfl) rfl rfl ?_
              refine l_nil ?_
              refine k_then ?_
              refine c_true rfl ?_
              refine c_seq ?_
              refine c_region _ rfl ?_
              refine l_q rfl (q_assign rfl rfl) rfl rfl ?_
              refine l_nil ?_
              refine k_then ?_
              refine c_ret ?_
              refine k_then_ret ?_
              refine r_one rfl rfl ?_
              exact fun _ h => ⟨(), congrArg (fun z => Ending.returned (Value.bool z)) (by first | (exfalso; omega) | (simp_all [mayB, kndB]; done) | (simp_all [mayB, kndB]; omega) | (cases hl : lrg o <;> simp_all [mayB, kndB] <;> omega)), trivial, h.nothing⟩
            · try simp only [decide_eq_true_eq, decide_eq_false_iff_not, Bool.not_eq_true', Bool.not_eq_false'] at h20
              refine l_q rfl (q_fieldAddr rfl Try.underlying45 rfl Try.sizeOf40 rfl rfl) rfl rfl ?_
              refine l_q rfl (q_loadC rfl Try.isAgg40 rfl (fun _ h => h.at 0 rfl) rfl) rfl rfl ?_
              refine l_q rfl (q_neq rfl rfl rfl) rfl rfl ?_
              refine l_q rfl (q_pick_f rfl rfl rfl) rfl rfl ?_
              refine l_q rfl (q_pick_t rfl rfl rfl) rfl rfl ?_
              refine l_nil ?_
              refine k_then ?_
              refine Pre.caseB 50 rfl (fun h21 => ?_) (fun h21 => ?_)
              · try simp only [decide_eq_true_eq, decide_eq_false_iff_not, Bool.not_eq_true', Bool.not_eq_false'] at h21
                refine c_true rfl ?_
                refine c_seq ?_
                refine c_region _ rfl ?_
                refine l_q rfl (q_assign rfl rfl) rfl rfl ?_
                refine l_nil ?_
                refine k_then ?_
                refine c_ret ?_
                refine k_then_ret ?_
                refine r_one rfl rfl ?_
                exact fun _ h => ⟨(), congrArg (fun z => Ending.returned (Value.bool z)) (by first | (exfalso; omega) | (simp_all [mayB, kndB]; done) | (simp_all [mayB, kndB]; omega) | (cases hl : lrg o <;> simp_all [mayB, kndB] <;> omega)), trivial, h.nothing⟩
              · try simp only [decide_eq_true_eq, decide_eq_false_iff_not, Bool.not_eq_true', Bool.not_eq_false'] at h21
                refine c_false rfl ?_
                refine c_skip ?_
                refine k_then ?_
                refine c_seq ?_
                refine c_region _ rfl ?_
                refine l_q rfl (q_fieldAddr rfl Try.underlying45 rfl Try.sizeOf43 rfl rfl) rfl rfl ?_
                refine l_q rfl (q_loadCAgg (a.v.c) rfl Try.isAgg43 Try.sizeOf43 rfl (fun _ h => h.at 0 rfl) (An.v_part _) (Kv.c_len _)) rfl rfl ?_
                refine l_e rfl ?_
                refine e_call_00 (rvcheck_spec a.v) rfl rfl rfl Try.call35 rfl (fun _ _ => trivial) ?_
                intro _ _
                refine l_q rfl (q_move rfl rfl) rfl rfl ?_
                refine Pre.caseB 54 rfl (fun h22 => ?_) (fun h22 => ?_)
                · try simp only [decide_eq_true_eq, decide_eq_false_iff_not, Bool.not_eq_true', Bool.not_eq_false'] at h22
                  refine l_q rfl (q_fieldAddr rfl Try.underlying45 rfl Try.sizeOf4 rfl rfl) rfl rfl ?_
                  refine l_q rfl (q_loadC rfl Try.isAgg4 rfl (fun _ h => h.at 0 rfl) rfl) rfl rfl ?_
                  refine l_q rfl (q_move rfl rfl) rfl rfl ?_
                  refine Pre.setB (t := 57) (c := true) rfl (h19) ?_
                  refine l_not rfl rfl rfl ?_
                  refine l_not rfl rfl rfl ?_
                  refine l_not rfl rfl rfl ?_
                  refine l_not rfl rfl rfl ?_
                  refine l_q rfl (q_pick_t rfl rfl rfl) rfl rfl ?_
                  refine l_q rfl (q_pick_t rfl rfl rfl) rfl rfl ?_
                  refine l_q rfl (q_assign rfl rfl) rfl rfl ?_
                  refine l_nil ?_
                  refine k_then ?_
                  refine c_ret ?_
                  refine r_one rfl rfl ?_
                  exact fun _ h => ⟨(), congrArg (fun z => Ending.returned (Value.bool z)) (by first | (exfalso; omega) | (simp_all [mayB, kndB]; done) | (simp_all [mayB, kndB]; omega) | (cases hl : lrg o <;> simp_all [mayB, kndB] <;> omega)), trivial, h.nothing⟩
                · try simp only [decide_eq_true_eq, decide_eq_false_iff_not, Bool.not_eq_true', Bool.not_eq_false'] at h22
                  refine l_not rfl rfl rfl ?_
                  refine l_not rfl rfl rfl ?_
                  refine l_not rfl rfl rfl ?_
                  refine l_not rfl rfl rfl ?_
                  refine l_not rfl rfl rfl ?_
                  refine l_not rfl rfl rfl ?_
                  refine l_not rfl rfl rfl ?_
                  refine l_not rfl rfl rfl ?_
                  refine l_q rfl (q_pick_f rfl rfl rfl) rfl rfl ?_
                  refine l_q rfl (q_assign rfl rfl) rfl rfl ?_
                  refine l_nil ?_
                  refine k_then ?_
                  refine c_ret ?_
                  refine r_one rfl rfl ?_
                  exact fun _ h => ⟨(), congrArg (fun z => Ending.returned (Value.bool z)) (by first | (exfalso; omega) | (simp_all [mayB, kndB]; done) | (simp_all [mayB, kndB]; omega) | (cases hl : lrg o <;> simp_all [mayB, kndB] <;> omega)), trivial, h.nothing⟩
          · refine l_not rfl rfl rfl ?_
            refine l_not rfl rfl rfl ?_
            refine l_not rfl rfl rfl ?_
            refine l_not rfl rfl rfl ?_
            refine l_not rfl rfl rfl ?_
            refine l_not rfl rfl rfl ?_
            refine l_not rfl rfl rfl ?_
            refine l_not rfl rfl rfl ?_
            refine l_q rfl (q_pick_f rfl rfl rfl) rfl rfl ?_
            refine l_nil ?_
            refine k_then ?_
            refine c_false rfl ?_
            refine c_skip ?_
            refine k_then ?_
            refine c_seq ?_
            refine c_region _ rfl ?_
            refine l_q rfl (q_fieldAddr rfl Try.underlying45 rfl Try.sizeOf43 rfl rfl) rfl rfl ?_
            refine l_q rfl (q_loadCAgg (a.v.c) rfl Try.isAgg43 Try.sizeOf43 rfl (fun _ h => h.at 0 rfl) (An.v_part _) (Kv.c_len _)) rfl rfl ?_
            refine l_e rfl ?_
            refine e_call_00 (rvcheck_spec a.v) rfl rfl rfl Try.call35 rfl (fun _ _ => trivial) ?_
            intro _ _
            refine l_q rfl (q_move rfl rfl) rfl rfl ?_
            refine Pre.caseB 54 rfl (fun h23 => ?_) (fun h23 => ?_)
            · try simp only [decide_eq_true_eq, decide_eq_false_iff_not, Bool.not_eq_true', Bool.not_eq_false'] at h23
              refine l_q rfl (q_fieldAddr rfl Try.underlying45 rfl Try.sizeOf4 rfl rfl) rfl rfl ?_
              refine l_q rfl (q_loadC rfl Try.isAgg4 rfl (fun _ h => h.at 0 rfl) rfl) rfl rfl ?_
              refine l_q rfl (q_move rfl rfl) rfl rfl ?_
              refine Pre.setB (t := 57) (c := false) rfl (h19) ?_
              refine l_q rfl (q_fieldAddr rfl Try.underlying45 rfl Try.sizeOf43 rfl rfl) rfl rfl ?_
              refine l_q rfl (q_loadCAgg (a.v.c) rfl Try.isAgg43 Try.sizeOf43 rfl (fun _ h => h.at 0 rfl) (An.v_part _) (Kv.c_len _)) rfl rfl ?_
              refine l_q rfl (q_build ((kv0 16).c) rfl rfl (fun w => by kernel_rfl)) rfl rfl ?_
              refine l_q rfl (q_eqV (a.v) ((kv0 16)) rfl rfl rfl) rfl rfl ?_
              refine l_q rfl (q_pick_f rfl rfl rfl) rfl rfl ?_
              refine l_q rfl (q_pick_t rfl rfl rfl) rfl rfl ?_
              refine l_q rfl (q_assign rfl rfl) rfl rfl ?_
              refine l_nil ?_
              refine k_then ?_
              refine c_ret ?_
              refine r_one rfl rfl ?_
              exact fun _ h => ⟨(), congrArg (fun z => Ending.returned (Value.bool z)) (by first | (exfalso; omega) | (simp_all [mayB, kndB]; done) | (simp_all [mayB, kndB]; omega) | (cases hl : lrg o <;> simp_all [mayB, kndB] <;> omega)), trivial, h.nothing⟩
            · try simp only [decide_eq_true_eq, decide_eq_false_iff_not, Bool.not_eq_true', Bool.not_eq_false'] at h23
              refine l_not rfl rfl rfl ?_
              refine l_not rfl rfl rfl ?_
              refine l_not rfl rfl rfl ?_
              refine l_not rfl rfl rfl ?_
              refine l_not rfl rfl rfl ?_
              refine l_not rfl rfl rfl ?_
              refine l_not rfl rfl rfl ?_
              refine l_not rfl rfl rfl ?_
              refine l_q rfl (q_pick_f rfl rfl rfl) rfl rfl ?_
              refine l_q rfl (q_assign rfl rfl) rfl rfl ?_
              refine l_nil ?_
              refine k_then ?_
              refine c_ret ?_
              refine r_one rfl rfl ?_
              exact fun _ h => ⟨(), congrArg (fun z => Ending.returned (Value.bool z)) (by first | (exfalso; omega) | (simp_all [mayB, kndB]; done) | (simp_all [mayB, kndB]; omega) | (cases hl : lrg o <;> simp_all [mayB, kndB] <;> omega)), trivial, h.nothing⟩
end Go.Proofs.Ythfdmeikpbkpaaa
