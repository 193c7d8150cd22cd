/- ClockAll, walked -/
import Derived.Test.YthjnfbpimcdndaaP
import Derived.Test.YthjnfbpimcdndaaS9
set_option linter.unusedVariables false
set_option linter.unusedSimpArgs false
namespace Go.Proofs.Ythjnfbpimcdndaa
open Go.Sep Go.RowKit

theorem swM_le (cs rs : List Bool) (hand : Int) (h : rs.length ≤ 64) : (swM cs rs hand).2.length ≤ 64 := by
  by_cases h0 : cs = [] ∨ rs.length ≠ cs.length
  · unfold swM; rw [if_pos h0]; simp
  · have hl : rs.length = cs.length := Classical.byContradiction (fun h => h0 (.inr h))
    have hp : 0 < cs.length := List.length_pos_iff.2 (fun e => h0 (.inl e))
    rw [swM_len hp hl]; omega
theorem ordM_len : ∀ (m : Nat) (cs rs : List Bool) (hd : Int), (ordM m cs rs hd).length ≤ m
  | 0, cs, rs, hd => by simp [ordM]
  | m + 1, cs, rs, hd => by
    cases hs : (swM cs rs hd).1 with
    | none => rw [ord_none hs]; simp
    | some k => rw [ord_some hs, List.length_cons]; have := ordM_len m (cs.set k false) (swM cs rs hd).2 (swN cs rs hd); omega
theorem ordM_le (m : Nat) (cs rs : List Bool) (hd : Int) : (nints (ordM m cs rs hd)).length ≤ m := by
  have := ordM_len m cs rs hd; simpa [nints] using this
set_option maxRecDepth 100000 in
set_option maxHeartbeats 1000000 in
theorem all_spec {va vb : Value} (cs rs : List Bool) (hand : Int) (hw : (Lit.int .i64 hand).wf = true) : Con Try.prog 3 [va, vb, .int .i64 hand] (fun w => RdV w va encB cs ∧ RdV w vb encB rs) [] (fun _ : Unit => .bool true) (fun _ => True) (fun _ => []) := by
  intro w hE hH
  obtain ⟨ha, hb⟩ := hE
  refine enter (n := 65) (vs := [va, vb, .int .i64 hand]) (St w [] []) Try.func3 rfl rfl rfl (St.init hH) ?_
  refine c_seq ?_
  refine c_region _ rfl ?_
  refine l_q rfl (q_assign rfl rfl) rfl rfl ?_
  refine l_nil ?_
  refine k_then ?_
  refine c_seq ?_
  refine c_seq ?_
  refine c_region _ rfl ?_
  refine l_q rfl (q_move rfl rfl) rfl rfl ?_
  refine l_q rfl (q_lenV rfl Try.underlying22 rfl (fun _ h => ha.keep h (by simp [dom]))) rfl rfl ?_
  refine l_q rfl (q_gtr rfl rfl rfl) rfl rfl ?_
  refine l_q rfl (q_move rfl rfl) rfl rfl ?_
  refine Pre.caseB 16 rfl (fun h1 => ?_) (fun h1 => ?_)
  · simp only [decide_eq_true_eq, decide_eq_false_iff_not, Bool.not_eq_true', Bool.not_eq_false'] at h1
    refine l_not rfl rfl rfl ?_
    refine l_not rfl rfl rfl ?_
    refine l_not rfl rfl rfl ?_
    refine l_q rfl (q_pick_t rfl rfl rfl) rfl rfl ?_
    refine l_nil ?_
    refine k_then ?_
    refine c_true rfl ?_
    refine c_seq ?_
    refine c_region _ rfl ?_
    refine l_e rfl ?_
    refine e_call_00 (awake_spec) rfl rfl rfl Try.call8 rfl (fun _ _ => trivial) ?_
    intro _ _
    refine l_q rfl (q_assign rfl rfl) rfl rfl ?_
    refine l_nil ?_
    refine k_then ?_
    refine c_ret ?_
    refine k_then_ret ?_
    refine r_one rfl rfl ?_
    exact fun _ h => ⟨(), rfl, trivial, h.nothing⟩
  · simp only [decide_eq_true_eq, decide_eq_false_iff_not, Bool.not_eq_true', Bool.not_eq_false'] at h1
    refine l_q rfl (q_move rfl rfl) rfl rfl ?_
    refine l_q rfl (q_lenV rfl Try.underlying22 rfl (fun _ h => hb.keep h (by simp [dom]))) rfl rfl ?_
    refine l_q rfl (q_gtr rfl rfl rfl) rfl rfl ?_
    refine l_q rfl (q_pick_f rfl rfl rfl) rfl rfl ?_
    refine l_nil ?_
    refine k_then ?_
    refine Pre.caseB 20 rfl (fun h2 => ?_) (fun h2 => ?_)
    · simp only [decide_eq_true_eq, decide_eq_false_iff_not, Bool.not_eq_true', Bool.not_eq_false'] at h2
      refine c_true rfl ?_
      refine c_seq ?_
      refine c_region _ rfl ?_
      refine l_e rfl ?_
      refine e_call_00 (awake_spec) rfl rfl rfl Try.call8 rfl (fun _ _ => trivial) ?_
      intro _ _
      refine l_q rfl (q_assign rfl rfl) rfl rfl ?_
      refine l_nil ?_
      refine k_then ?_
      refine c_ret ?_
      refine k_then_ret ?_
      refine r_one rfl rfl ?_
      exact fun _ h => ⟨(), rfl, trivial, h.nothing⟩
    · simp only [decide_eq_true_eq, decide_eq_false_iff_not, Bool.not_eq_true', Bool.not_eq_false'] at h2
      have hsl := swM_le cs rs hand (by omega)
      have hol := ordM_le (cs.length + 1) cs rs hand
      refine c_false rfl ?_
      refine c_skip ?_
      refine k_then ?_
      refine c_seq ?_
      refine c_region _ rfl ?_
      refine l_q rfl (q_move rfl rfl) rfl rfl ?_
      refine l_q rfl (q_move rfl rfl) rfl rfl ?_
      refine l_q rfl (q_move rfl rfl) rfl rfl ?_
      refine l_e rfl ?_
      refine e_call_01 (sweep_spec cs rs hand hw (by omega)) rfl rfl rfl Try.call9 rfl (fun _ h => ⟨ha.keep h (by simp), hb.keep h (by simp)⟩) ?_
      intro v1 _
      refine l_q rfl (q_move rfl rfl) rfl rfl ?_
      refine l_q rfl (q_extract rfl rfl rfl) rfl rfl ?_
      refine l_q rfl (q_extract rfl rfl rfl) rfl rfl ?_
      refine l_q rfl (q_extract rfl rfl rfl) rfl rfl ?_
      refine l_q rfl (q_assign rfl rfl) rfl rfl ?_
      refine l_q rfl (q_assign rfl rfl) rfl rfl ?_
      refine l_q rfl (q_assign rfl rfl) rfl rfl ?_
      refine l_nil ?_
      refine k_then ?_
      refine c_seq ?_
      refine c_region _ rfl ?_
      refine l_q rfl (q_move rfl rfl) rfl rfl ?_
      refine l_q rfl (q_move rfl rfl) rfl rfl ?_
      refine l_q rfl (q_move rfl rfl) rfl rfl ?_
      refine l_e rfl ?_
      refine e_call_01 (rsweep_spec cs rs hand hw (by omega)) rfl rfl rfl Try.call10 rfl (fun _ h => ⟨ha.keep h (by simp), hb.keep h (by simp)⟩) ?_
      intro v2 _
      refine l_q rfl (q_move rfl rfl) rfl rfl ?_
      refine l_q rfl (q_extract rfl rfl rfl) rfl rfl ?_
      refine l_q rfl (q_extract rfl rfl rfl) rfl rfl ?_
      refine l_q rfl (q_extract rfl rfl rfl) rfl rfl ?_
      refine l_q rfl (q_assign rfl rfl) rfl rfl ?_
      refine l_q rfl (q_assign rfl rfl) rfl rfl ?_
      refine l_q rfl (q_assign rfl rfl) rfl rfl ?_
      refine l_nil ?_
      refine k_then ?_
      refine c_seq ?_
      refine c_region _ rfl ?_
      refine l_q rfl (q_move rfl rfl) rfl rfl ?_
      refine l_q rfl (q_move rfl rfl) rfl rfl ?_
      refine l_q rfl (q_eql rfl rfl rfl) rfl rfl ?_
      refine l_q rfl (q_move rfl rfl) rfl rfl ?_
      refine Pre.setB (t := 41) (c := true) rfl (by simp) ?_
      refine l_q rfl (q_move rfl rfl) rfl rfl ?_
      refine l_q rfl (q_move rfl rfl) rfl rfl ?_
      refine l_q rfl (q_eql rfl rfl rfl) rfl rfl ?_
      refine l_q rfl (q_pick_t rfl rfl rfl) rfl rfl ?_
      refine l_q rfl (q_move rfl rfl) rfl rfl ?_
      refine Pre.setB (t := 46) (c := true) rfl (by simp) ?_
      refine l_q rfl (q_move rfl rfl) rfl rfl ?_
      refine l_q rfl (q_move rfl rfl) rfl rfl ?_
      refine l_e rfl ?_
      refine e_call_00 (same_spec (swM cs rs hand).2 (swM cs rs hand).2 (by omega)) rfl rfl rfl Try.call11 rfl (fun _ h => ⟨h.rd 1 rfl, h.rd 0 rfl⟩) ?_
      intro _ _
      refine l_q rfl (q_pick_t rfl rfl rfl) rfl rfl ?_
      refine l_q rfl (q_move rfl rfl) rfl rfl ?_
      refine Pre.setB (t := 51) (c := true) rfl (by simp) ?_
      refine l_q rfl (q_move rfl rfl) rfl rfl ?_
      refine l_q rfl (q_move rfl rfl) rfl rfl ?_
      refine l_q rfl (q_move rfl rfl) rfl rfl ?_
      refine l_e rfl ?_
      refine e_call_01 (order_spec cs rs hand hw (by omega)) rfl rfl rfl Try.call13 rfl (fun _ h => ⟨ha.keep h (by simp), hb.keep h (by simp)⟩) ?_
      intro v3 _
      refine l_q rfl (q_move rfl rfl) rfl rfl ?_
      refine l_q rfl (q_move rfl rfl) rfl rfl ?_
      refine l_q rfl (q_move rfl rfl) rfl rfl ?_
      refine l_e rfl ?_
      refine e_call_01 (rorder_spec cs rs hand hw (by omega)) rfl rfl rfl Try.call14 rfl (fun _ h => ⟨ha.keep h (by simp), hb.keep h (by simp)⟩) ?_
      intro v4 _
      refine l_e rfl ?_
      refine e_call_00 (sameints_spec (nints (ordM (cs.length + 1) cs rs hand)) (nints (ordM (cs.length + 1) cs rs hand)) (by omega)) rfl rfl rfl Try.call12 rfl (fun _ h => ⟨h.rd 1 rfl, h.rd 0 rfl⟩) ?_
      intro _ _
      refine l_q rfl (q_pick_t rfl rfl rfl) rfl rfl ?_
      refine l_q rfl (q_move rfl rfl) rfl rfl ?_
      refine Pre.setB (t := 62) (c := true) rfl (by simp) ?_
      refine l_e rfl ?_
      refine e_call_00 (awake_spec) rfl rfl rfl Try.call8 rfl (fun _ _ => trivial) ?_
      intro _ _
      refine l_q rfl (q_pick_t rfl rfl rfl) rfl rfl ?_
      refine l_q rfl (q_assign rfl rfl) rfl rfl ?_
      refine l_nil ?_
      refine k_then ?_
      refine c_ret ?_
      refine r_one rfl rfl ?_
      exact fun _ h => ⟨(), rfl, trivial, h.nothing⟩
theorem clockAll_walk (w : World) (A0 : Option Addr) (c0 : Nat) (z0 : List Bool) (rd0 : Rd w w.heap.size A0 (z0.map .bool)) (l0 : z0.length ≤ c0) (m0 : c0 ≤ maxLen) (A1 : Option Addr) (c1 : Nat) (z1 : List Bool) (rd1 : Rd w w.heap.size A1 (z1.map .bool)) (l1 : z1.length ≤ c1) (m1 : c1 ≤ maxLen) (a2 : Int) (w2 : (Lit.int .i64 a2).wf = true) :
    Calls Try.prog 3 #[.slice A0 z0.length c0, .slice A1 z1.length c1, .int .i64 a2] w fun e w' => e = .returned (.bool true) ∧ Below w.heap.size w w' := by
  have f0 := flat_one' encB Value.bool (fun _ => rfl) z0
  rw [← f0] at rd0
  have f1 := flat_one' encB Value.bool (fun _ => rfl) z1
  rw [← f1] at rd1
  exact con_walk (all_spec z0 z1 a2 w2) ⟨rdv_of rd0 l0, rdv_of rd1 l1⟩
end Go.Proofs.Ythjnfbpimcdndaa
