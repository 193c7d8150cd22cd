/- messages: the code and the reference -/
import Derived.Test.YtmnokoepimhelaaK
set_option linter.unusedVariables false
set_option linter.unusedSimpArgs false
namespace Go.Proofs.Ytmnokoepimhelaa
open Go.Sep Go.RowKit

/-- Is it a message? -/
def mck (m : Ms) : Bool := kck m.key && (if m.kind = 1 then vck m.val && decide (m.by' = 0) else if m.kind = 2 then decide (m.by' = 0) && decide (m.val = kv0 16) else if m.kind = 3 then decide (m.val = kv0 16) else false)
theorem ms_whole (m : Ms) : (m.c.drop 0).take 29 = m.c := List.take_of_length_le (by rw [List.drop_zero, Ms.c_len]; exact Nat.le_refl _)
theorem kck_bd {k : Kv 8} (h : kck k = true) : 0 ≤ k.n ∧ k.n ≤ 8 := by
  unfold kck at h; have := of_decide_eq_true h; exact ⟨this.1, this.2.1⟩
theorem vck_bd {k : Kv 16} (h : vck k = true) : 0 ≤ k.n ∧ k.n ≤ 16 := by
  unfold vck vcheck at h; have := of_decide_eq_true h; exact ⟨this.1, this.2.1⟩
def ms0 : Ms := ⟨0, 0, kv0 8, kv0 16, 0, by decide, by decide, by decide⟩
/-- How many bytes. -/
def mby (m : Ms) : Int := if mck m = true then 10 + m.key.n + (if m.kind = 1 then 1 + m.val.n else if m.kind = 3 then 8 else 0) else 0
theorem mck_key {m : Ms} (h : mck m = true) : 0 ≤ m.key.n ∧ m.key.n ≤ 8 := by
  unfold mck at h; rw [Bool.and_eq_true] at h; exact kck_bd h.1
theorem mck_val {m : Ms} (h : mck m = true) (hk : m.kind = 1) : 0 ≤ m.val.n ∧ m.val.n ≤ 16 := by
  unfold mck at h; rw [Bool.and_eq_true, if_pos hk, Bool.and_eq_true] at h; exact vck_bd h.2.1
theorem wf_wrap (z : Int) : (Lit.int .u64 (IntKind.u64.wrap z)).wf = true := by
  have := wrap_bd z
  simp only [Lit.wf, Bool.and_eq_true, decide_eq_true_eq]
  exact ⟨this.1, by show _ ≤ (2 ^ 64 - 1 : Int); omega⟩
theorem u64_bd {z : Int} (h : (Lit.int .u64 z).wf = true) : 0 ≤ z ∧ z < 18446744073709551616 := by have := Sep.wf_u64 h; omega
/-- What both do: the code's. -/
def mco (a b : Ms) : Ms := if b.kind ≠ 3 ∨ a.key ≠ b.key then b else if a.kind = 2 then { b with kind := 1, val := vplus (kv0 16) b.by', by' := 0, wk := by decide, wy := by decide } else
  if a.kind = 1 then { b with kind := 1, val := vplus a.val b.by', by' := 0, wk := by decide, wy := by decide } else if a.kind = 3 then { b with by' := IntKind.u64.wrap (b.by' + a.by'), wy := wf_wrap _ } else b
def rco (a b : Ms) : Ms := if b.kind ≠ 3 ∨ a.key ≠ b.key then b else if a.kind = 1 then { b with kind := 1, val := vplus a.val b.by', by' := 0, wk := by decide, wy := by decide } else
  if a.kind = 2 then { b with kind := 1, val := vfrom b.by', by' := 0, wk := by decide, wy := by decide } else { b with kind := 3, val := kv0 16, by' := IntKind.u64.wrap (a.by' + b.by'), wk := by decide, wy := wf_wrap _ }
def map' (v : Kv 16) (t : Bool) (m : Ms) : Kv 16 × Bool := if m.kind = 1 then (m.val, true) else if m.kind = 3 then (vplus (if t = true then v else kv0 16) m.by', true) else (kv0 16, false)
def rap (v : Kv 16) (t : Bool) (m : Ms) : Kv 16 × Bool := if m.kind = 1 then (m.val, true) else if m.kind = 2 then (kv0 16, false) else if t = true then (vplus v m.by', true) else (vfrom m.by', true)
theorem plus0 {z : Int} (h : (Lit.int .u64 z).wf = true) : vplus (kv0 16) z = vfrom z := by
  have := u64_bd h
  unfold vplus
  rw [show num ((kv0 16).b.take 8) = 0 from by decide, Int.zero_add, wrap_id this.1 this.2]
theorem mck_kinds {m : Ms} (h : mck m = true) : m.kind = 1 ∨ m.kind = 2 ∨ m.kind = 3 := by
  unfold mck at h
  rw [Bool.and_eq_true] at h
  have h2 := h.2
  split at h2
  · exact .inl ‹_›
  · split at h2
    · exact .inr (.inl ‹_›)
    · split at h2
      · exact .inr (.inr ‹_›)
      · cases h2
theorem mck_add {m : Ms} (h : mck m = true) (hk : m.kind = 3) : m.val = kv0 16 := by
  unfold mck at h
  rw [Bool.and_eq_true, if_neg (by omega), if_neg (by omega), if_pos hk] at h
  exact of_decide_eq_true h.2
theorem co_eq {a b : Ms} (ha : mck a = true) (hb : mck b = true) : mco a b = rco a b := by
  unfold mco rco
  split
  · rfl
  · rename_i h
    have hk : b.kind = 3 := Classical.byContradiction (fun e => h (.inl e))
    have hv := mck_add hb hk
    rcases mck_kinds ha with h1 | h1 | h1
    · rw [if_neg (by omega), if_pos h1, if_pos h1]
    · rw [if_pos h1, if_neg (by omega), if_pos h1, plus0 b.wy]
    · rw [if_neg (by omega), if_neg (by omega), if_pos h1, if_neg (by omega), if_neg (by omega)]
      exact Ms.ext' hk rfl rfl hv (by show IntKind.u64.wrap _ = IntKind.u64.wrap _; rw [Int.add_comm])
theorem ap_eq {v : Kv 16} {t : Bool} {m : Ms} (h : mck m = true) : map' v t m = rap v t m := by
  unfold map' rap
  rcases mck_kinds h with h1 | h1 | h1
  · rw [if_pos h1, if_pos h1]
  · rw [if_neg (by omega), if_neg (by omega), if_neg (by omega), if_pos h1]
  · cases t <;> simp [h1, plus0 m.wy]
def mk3 (k q : Int) (key : Kv 8) (wk : (Lit.int .i64 k).wf = true) (wq : (Lit.int .u64 q).wf = true) : Ms := ⟨k, q, key, kv0 16, 0, wk, wq, by decide⟩
theorem kv8_list (k : Kv 8) : ∃ a b c d e f g h : Int, k.b = [a, b, c, d, e, f, g, h] := by
  obtain ⟨n, b, len, _, _⟩ := k
  match b, len with
  | [a, b, c, d, e, f, g, h], _ => exact ⟨a, b, c, d, e, f, g, h, rfl⟩
theorem build3 (k q : Int) (key : Kv 8) (wk : (Lit.int .i64 k).wf = true) (wq : (Lit.int .u64 q).wf = true) (w : World) : (Instr.build 30 #[(0, .int .i64 k), (1, .int .u64 q), (2, .agg key.c.toArray)]).run Try.prog w = .ok (.agg (mk3 k q key wk wq).c.toArray) w := by
  obtain ⟨a, b, c, d, e, f, g, h, hb⟩ := kv8_list key
  unfold Ms.c mk3 Kv.c
  rw [hb]
  kernel_rfl

set_option maxRecDepth 100000 in
set_option maxHeartbeats 1000000 in
theorem mcheck_spec (m : Ms) : Con Try.prog 9 [.agg m.c.toArray] (fun _ => True) [] (fun _ : Unit => .bool (mck m)) (fun _ => True) (fun _ => []) := by
  intro w hE hH
  refine enter (n := 39) (vs := [.agg m.c.toArray]) (St w [] []) Try.func9 rfl rfl rfl (St.init hH) ?_
  refine c_seq ?_
  refine c_region _ rfl ?_
  refine l_e rfl ?_
  refine e_box rfl rfl rfl rfl ?_
  intro bm
  refine cells_eq (show _ = m.c from rfl) ?_
  refine l_q rfl (q_assign rfl rfl) rfl rfl ?_
  refine l_nil ?_
  refine k_then ?_
  refine c_seq ?_
  refine c_region _ rfl ?_
  refine l_q rfl (q_fieldAddr rfl Try.underlying30 rfl Try.sizeOf25 rfl rfl) rfl rfl ?_
  refine l_q rfl (q_loadCAgg (m.key.c) rfl Try.isAgg25 Try.sizeOf25 rfl (fun _ h => h.at 0 rfl) (Ms.key_part _) (Kv.c_len _)) rfl rfl ?_
  refine l_e rfl ?_
  refine e_call_00 (kcheck_spec m.key) rfl rfl rfl Try.call23 rfl (fun _ _ => trivial) ?_
  intro _ _
  refine l_q rfl (q_assign rfl rfl) rfl rfl ?_
  refine l_nil ?_
  refine k_then ?_
  refine c_seq ?_
  refine c_seq ?_
  refine c_region _ rfl ?_
  refine l_q rfl (q_fieldAddr rfl Try.underlying30 rfl Try.sizeOf3 rfl rfl) rfl rfl ?_
  refine l_q rfl (q_loadC rfl Try.isAgg3 rfl (fun _ h => h.at 0 rfl) rfl) rfl rfl ?_
  refine l_nil ?_
  refine k_then ?_
  refine c_block ?_
  refine c_seq ?_
  refine c_block ?_
  refine c_seq ?_
  refine c_block ?_
  refine c_seq ?_
  refine c_block ?_
  refine c_seq ?_
  refine c_seq ?_
  refine c_seq ?_
  refine c_region _ rfl ?_
  refine l_q rfl (q_eql rfl rfl rfl) rfl rfl ?_
  refine l_q rfl (q_assign rfl rfl) rfl rfl ?_
  refine l_nil ?_
  refine k_then ?_
  refine Pre.caseB 9 rfl (fun h1 => ?_) (fun h1 => ?_)
  · try simp only [decide_eq_true_eq, decide_eq_false_iff_not, Bool.not_eq_true', Bool.not_eq_false'] at h1
    refine c_true rfl ?_
    refine c_exit ?_
    refine k_then_exit ?_
    refine k_then_exit ?_
    refine k_block_exit ?_
    refine k_then ?_
    refine c_seq ?_
    refine c_seq ?_
    refine c_region _ rfl ?_
    refine l_q rfl (q_move rfl rfl) rfl rfl ?_
    refine l_q rfl (q_move rfl rfl) rfl rfl ?_
    refine Pre.caseB 16 rfl (fun h2 => ?_) (fun h2 => ?_)
    · try simp only [decide_eq_true_eq, decide_eq_false_iff_not, Bool.not_eq_true', Bool.not_eq_false'] at h2
      refine l_q rfl (q_fieldAddr rfl Try.underlying30 rfl Try.sizeOf28 rfl rfl) rfl rfl ?_
      refine l_q rfl (q_loadCAgg (m.val.c) rfl Try.isAgg28 Try.sizeOf28 rfl (fun _ h => h.at 0 rfl) (Ms.val_part _) (Kv.c_len _)) rfl rfl ?_
      refine l_e rfl ?_
      refine e_call_00 (vcheck_con m.val) rfl rfl rfl Try.call24 rfl (fun _ _ => trivial) ?_
      intro _ _
      refine l_q rfl (q_pick_t rfl rfl rfl) rfl rfl ?_
      refine l_q rfl (q_move rfl rfl) rfl rfl ?_
      refine Pre.caseB 21 rfl (fun h3 => ?_) (fun h3 => ?_)
      · try simp only [decide_eq_true_eq, decide_eq_false_iff_not, Bool.not_eq_true', Bool.not_eq_false'] at h3
        refine l_q rfl (q_fieldAddr rfl Try.underlying30 rfl Try.sizeOf22 rfl rfl) rfl rfl ?_
        refine l_q rfl (q_loadC rfl Try.isAgg22 rfl (fun _ h => h.at 0 rfl) (Ms.by_part _)) rfl rfl ?_
        refine l_q rfl (q_eql rfl rfl rfl) rfl rfl ?_
        refine l_q rfl (q_pick_t rfl rfl rfl) rfl rfl ?_
        refine l_q rfl (q_assign rfl rfl) rfl rfl ?_
        refine l_nil ?_
        refine k_then ?_
        refine c_ret ?_
        refine k_then_ret ?_
        refine k_block_ret ?_
        refine k_then_ret ?_
        refine k_block_ret ?_
        refine k_then_ret ?_
        refine k_block_ret ?_
        refine k_then_ret ?_
        refine Pre.caseB 2 rfl (fun h4 => ?_) (fun h4 => ?_)
        · try simp only [decide_eq_true_eq, decide_eq_false_iff_not, Bool.not_eq_true', Bool.not_eq_false'] at h4
          have e : mck m = true := by
            unfold mck
            rcases (show m.kind = 1 ∨ m.kind = 2 ∨ m.kind = 3 ∨ (¬ m.kind = 1 ∧ ¬ m.kind = 2 ∧ ¬ m.kind = 3) by omega) with e | e | e | e <;> first | (exfalso; omega) | simp_all
          rw [e]
          refine r_one rfl rfl ?_
          exact fun _ h => ⟨(), rfl, trivial, h.nothing⟩
        · try simp only [decide_eq_true_eq, decide_eq_false_iff_not, Bool.not_eq_true', Bool.not_eq_false'] at h4
          have e : mck m = false := by
            unfold mck
            rcases (show m.kind = 1 ∨ m.kind = 2 ∨ m.kind = 3 ∨ (¬ m.kind = 1 ∧ ¬ m.kind = 2 ∧ ¬ m.kind = 3) by omega) with e | e | e | e <;> first | (exfalso; omega) | simp_all
          rw [e]
          refine r_one rfl rfl ?_
          exact fun _ h => ⟨(), rfl, trivial, h.nothing⟩
      · try simp only [decide_eq_true_eq, decide_eq_false_iff_not, Bool.not_eq_true', Bool.not_eq_false'] at h3
        refine l_not rfl rfl rfl ?_
        refine l_not rfl rfl rfl ?_
        refine l_not rfl rfl rfl ?_
        refine l_q rfl (q_pick_f rfl rfl rfl) rfl rfl ?_
        refine l_q rfl (q_assign rfl rfl) rfl rfl ?_
        refine l_nil ?_
        refine k_then ?_
        refine c_ret ?_
        refine k_then_ret ?_
        refine k_block_ret ?_
        refine k_then_ret ?_
        refine k_block_ret ?_
        refine k_then_ret ?_
        refine k_block_ret ?_
        refine k_then_ret ?_
        have e : mck m = false := by
          unfold mck
          rcases (show m.kind = 1 ∨ m.kind = 2 ∨ m.kind = 3 ∨ (¬ m.kind = 1 ∧ ¬ m.kind = 2 ∧ ¬ m.kind = 3) by omega) with e | e | e | e <;> first | (exfalso; omega) | simp_all
        rw [e]
        refine r_one rfl rfl ?_
        exact fun _ h => ⟨(), rfl, trivial, h.nothing⟩
    · try simp only [decide_eq_true_eq, decide_eq_false_iff_not, Bool.not_eq_true', Bool.not_eq_false'] at h2
      refine l_not rfl rfl rfl ?_
      refine l_not rfl rfl rfl ?_
      refine l_not rfl rfl rfl ?_
      refine l_q rfl (q_pick_f rfl rfl rfl) rfl rfl ?_
      refine l_q rfl (q_move rfl rfl) rfl rfl ?_
      refine l_not rfl rfl rfl ?_
      refine l_not rfl rfl rfl ?_
      refine l_not rfl rfl rfl ?_
      refine l_q rfl (q_pick_f rfl rfl rfl) rfl rfl ?_
      refine l_q rfl (q_assign rfl rfl) rfl rfl ?_
      refine l_nil ?_
      refine k_then ?_
      refine c_ret ?_
      refine k_then_ret ?_
      refine k_block_ret ?_
      refine k_then_ret ?_
      refine k_block_ret ?_
      refine k_then_ret ?_
      refine k_block_ret ?_
      refine k_then_ret ?_
      have e : mck m = false := by
        unfold mck
        rcases (show m.kind = 1 ∨ m.kind = 2 ∨ m.kind = 3 ∨ (¬ m.kind = 1 ∧ ¬ m.kind = 2 ∧ ¬ m.kind = 3) by omega) with e | e | e | e <;> first | (exfalso; omega) | simp_all
      rw [e]
      refine r_one rfl rfl ?_
      exact fun _ h => ⟨(), rfl, trivial, h.nothing⟩
  · try simp only [decide_eq_true_eq, decide_eq_false_iff_not, Bool.not_eq_true', Bool.not_eq_false'] at h1
    refine c_false rfl ?_
    refine c_skip ?_
    refine k_then ?_
    refine c_seq ?_
    refine c_seq ?_
    refine c_region _ rfl ?_
    refine l_q rfl (q_eql rfl rfl rfl) rfl rfl ?_
    refine l_q rfl (q_assign rfl rfl) rfl rfl ?_
    refine l_nil ?_
    refine k_then ?_
    refine Pre.caseB 11 rfl (fun h5 => ?_) (fun h5 => ?_)
    · try simp only [decide_eq_true_eq, decide_eq_false_iff_not, Bool.not_eq_true', Bool.not_eq_false'] at h5
      refine c_true rfl ?_
      refine c_exit ?_
      refine k_then_exit ?_
      refine k_then_exit ?_
      refine k_block_other rfl ?_
      refine k_then_exit ?_
      refine k_block_exit ?_
      refine k_then ?_
      refine c_region _ rfl ?_
      refine l_q rfl (q_move rfl rfl) rfl rfl ?_
      refine l_q rfl (q_move rfl rfl) rfl rfl ?_
      refine Pre.caseB 27 rfl (fun h6 => ?_) (fun h6 => ?_)
      · try simp only [decide_eq_true_eq, decide_eq_false_iff_not, Bool.not_eq_true', Bool.not_eq_false'] at h6
        refine l_q rfl (q_fieldAddr rfl Try.underlying30 rfl Try.sizeOf22 rfl rfl) rfl rfl ?_
        refine l_q rfl (q_loadC rfl Try.isAgg22 rfl (fun _ h => h.at 0 rfl) (Ms.by_part _)) rfl rfl ?_
        refine l_q rfl (q_eql rfl rfl rfl) rfl rfl ?_
        refine l_q rfl (q_pick_t rfl rfl rfl) rfl rfl ?_
        refine l_q rfl (q_assign rfl rfl) rfl rfl ?_
        refine l_nil ?_
        refine k_block ?_
        refine k_then ?_
        refine c_seq ?_
        refine c_seq ?_
        refine c_region _ rfl ?_
        refine l_q rfl (q_move rfl rfl) rfl rfl ?_
        refine l_q rfl (q_move rfl rfl) rfl rfl ?_
        refine Pre.caseB 33 rfl (fun h7 => ?_) (fun h7 => ?_)
        · try simp only [decide_eq_true_eq, decide_eq_false_iff_not, Bool.not_eq_true', Bool.not_eq_false'] at h7
          refine l_q rfl (q_fieldAddr rfl Try.underlying30 rfl Try.sizeOf28 rfl rfl) rfl rfl ?_
          refine l_q rfl (q_loadCAgg (m.val.c) rfl Try.isAgg28 Try.sizeOf28 rfl (fun _ h => h.at 0 rfl) (Ms.val_part _) (Kv.c_len _)) rfl rfl ?_
          refine l_q rfl (q_build ((kv0 16).c) rfl rfl (fun w => by kernel_rfl)) rfl rfl ?_
          refine l_q rfl (q_eqVl (m.val) ((kv0 16)) rfl rfl rfl) rfl rfl ?_
          refine l_q rfl (q_pick_t rfl rfl rfl) rfl rfl ?_
          refine l_q rfl (q_assign rfl rfl) rfl rfl ?_
          refine l_nil ?_
          refine k_then ?_
          refine c_ret ?_
          refine k_then_ret ?_
          refine k_block_ret ?_
          refine k_then_ret ?_
          refine Pre.caseB 2 rfl (fun h8 => ?_) (fun h8 => ?_)
          · try simp only [decide_eq_true_eq, decide_eq_false_iff_not, Bool.not_eq_true', Bool.not_eq_false'] at h8
            have e : mck m = true := by
              unfold mck
              rcases (show m.kind = 1 ∨ m.kind = 2 ∨ m.kind = 3 ∨ (¬ m.kind = 1 ∧ ¬ m.kind = 2 ∧ ¬ m.kind = 3) by omega) with e | e | e | e <;> first | (exfalso; omega) | simp_all
            rw [e]
            refine r_one rfl rfl ?_
            exact fun _ h => ⟨(), rfl, trivial, h.nothing⟩
          · try simp only [decide_eq_true_eq, decide_eq_false_iff_not, Bool.not_eq_true', Bool.not_eq_false'] at h8
            have e : mck m = false := by
              unfold mck
              rcases (show m.kind = 1 ∨ m.kind = 2 ∨ m.kind = 3 ∨ (¬ m.kind = 1 ∧ ¬ m.kind = 2 ∧ ¬ m.kind = 3) by omega) with e | e | e | e <;> first | (exfalso; omega) | simp_all
            rw [e]
            refine r_one rfl rfl ?_
            exact fun _ h => ⟨(), rfl, trivial, h.nothing⟩
        · try simp only [decide_eq_true_eq, decide_eq_false_iff_not, Bool.not_eq_true', Bool.not_eq_false'] at h7
          refine l_not rfl rfl rfl ?_
          refine l_not rfl rfl rfl ?_
          refine l_not rfl rfl rfl ?_
          refine l_not rfl rfl rfl ?_
          refine l_q rfl (q_pick_f rfl rfl rfl) rfl rfl ?_
          refine l_q rfl (q_assign rfl rfl) rfl rfl ?_
          refine l_nil ?_
          refine k_then ?_
          refine c_ret ?_
          refine k_then_ret ?_
          refine k_block_ret ?_
          refine k_then_ret ?_
          have e : mck m = false := by
            unfold mck
            rcases (show m.kind = 1 ∨ m.kind = 2 ∨ m.kind = 3 ∨ (¬ m.kind = 1 ∧ ¬ m.kind = 2 ∧ ¬ m.kind = 3) by omega) with e | e | e | e <;> first | (exfalso; omega) | simp_all
          rw [e]
          refine r_one rfl rfl ?_
          exact fun _ h => ⟨(), rfl, trivial, h.nothing⟩
      · try simp only [decide_eq_true_eq, decide_eq_false_iff_not, Bool.not_eq_true', Bool.not_eq_false'] at h6
        refine l_not rfl rfl rfl ?_
        refine l_not rfl rfl rfl ?_
        refine l_not rfl rfl rfl ?_
        refine l_q rfl (q_pick_f rfl rfl rfl) rfl rfl ?_
        refine l_q rfl (q_assign rfl rfl) rfl rfl ?_
        refine l_nil ?_
        refine k_block ?_
        refine k_then ?_
        refine c_seq ?_
        refine c_seq ?_
        refine c_region _ rfl ?_
        refine l_q rfl (q_move rfl rfl) rfl rfl ?_
        refine l_q rfl (q_move rfl rfl) rfl rfl ?_
        refine l_not rfl rfl rfl ?_
        refine l_not rfl rfl rfl ?_
        refine l_not rfl rfl rfl ?_
        refine l_not rfl rfl rfl ?_
        refine l_q rfl (q_pick_f rfl rfl rfl) rfl rfl ?_
        refine l_q rfl (q_assign rfl rfl) rfl rfl ?_
        refine l_nil ?_
        refine k_then ?_
        refine c_ret ?_
        refine k_then_ret ?_
        refine k_block_ret ?_
        refine k_then_ret ?_
        have e : mck m = false := by
          unfold mck
          rcases (show m.kind = 1 ∨ m.kind = 2 ∨ m.kind = 3 ∨ (¬ m.kind = 1 ∧ ¬ m.kind = 2 ∧ ¬ m.kind = 3) by omega) with e | e | e | e <;> first | (exfalso; omega) | simp_all
        rw [e]
        refine r_one rfl rfl ?_
        exact fun _ h => ⟨(), rfl, trivial, h.nothing⟩
    · try simp only [decide_eq_true_eq, decide_eq_false_iff_not, Bool.not_eq_true', Bool.not_eq_false'] at h5
      refine c_false rfl ?_
      refine c_skip ?_
      refine k_then ?_
      refine c_seq ?_
      refine c_region _ rfl ?_
      refine l_q rfl (q_eql rfl rfl rfl) rfl rfl ?_
      refine l_q rfl (q_assign rfl rfl) rfl rfl ?_
      refine l_nil ?_
      refine k_then ?_
      refine Pre.caseB 13 rfl (fun h9 => ?_) (fun h9 => ?_)
      · try simp only [decide_eq_true_eq, decide_eq_false_iff_not, Bool.not_eq_true', Bool.not_eq_false'] at h9
        refine c_true rfl ?_
        refine c_exit ?_
        refine k_then_exit ?_
        refine k_block_other rfl ?_
        refine k_then_exit ?_
        refine k_block_other rfl ?_
        refine k_then_exit ?_
        refine k_block_exit ?_
        refine k_then ?_
        refine c_seq ?_
        refine c_seq ?_
        refine c_region _ rfl ?_
        refine l_q rfl (q_move rfl rfl) rfl rfl ?_
        refine l_q rfl (q_move rfl rfl) rfl rfl ?_
        refine Pre.caseB 33 rfl (fun h10 => ?_) (fun h10 => ?_)
        · try simp only [decide_eq_true_eq, decide_eq_false_iff_not, Bool.not_eq_true', Bool.not_eq_false'] at h10
          refine l_q rfl (q_fieldAddr rfl Try.underlying30 rfl Try.sizeOf28 rfl rfl) rfl rfl ?_
          refine l_q rfl (q_loadCAgg (m.val.c) rfl Try.isAgg28 Try.sizeOf28 rfl (fun _ h => h.at 0 rfl) (Ms.val_part _) (Kv.c_len _)) rfl rfl ?_
          refine l_q rfl (q_build ((kv0 16).c) rfl rfl (fun w => by kernel_rfl)) rfl rfl ?_
          refine l_q rfl (q_eqVl (m.val) ((kv0 16)) rfl rfl rfl) rfl rfl ?_
          refine l_q rfl (q_pick_t rfl rfl rfl) rfl rfl ?_
          refine l_q rfl (q_assign rfl rfl) rfl rfl ?_
          refine l_nil ?_
          refine k_then ?_
          refine c_ret ?_
          refine k_then_ret ?_
          refine k_block_ret ?_
          refine k_then_ret ?_
          refine Pre.caseB 2 rfl (fun h11 => ?_) (fun h11 => ?_)
          · try simp only [decide_eq_true_eq, decide_eq_false_iff_not, Bool.not_eq_true', Bool.not_eq_false'] at h11
            have e : mck m = true := by
              unfold mck
              rcases (show m.kind = 1 ∨ m.kind = 2 ∨ m.kind = 3 ∨ (¬ m.kind = 1 ∧ ¬ m.kind = 2 ∧ ¬ m.kind = 3) by omega) with e | e | e | e <;> first | (exfalso; omega) | simp_all
            rw [e]
            refine r_one rfl rfl ?_
            exact fun _ h => ⟨(), rfl, trivial, h.nothing⟩
          · try simp only [decide_eq_true_eq, decide_eq_false_iff_not, Bool.not_eq_true', Bool.not_eq_false'] at h11
            have e : mck m = false := by
              unfold mck
              rcases (show m.kind = 1 ∨ m.kind = 2 ∨ m.kind = 3 ∨ (¬ m.kind = 1 ∧ ¬ m.kind = 2 ∧ ¬ m.kind = 3) by omega) with e | e | e | e <;> first | (exfalso; omega) | simp_all
            rw [e]
            refine r_one rfl rfl ?_
            exact fun _ h => ⟨(), rfl, trivial, h.nothing⟩
        · try simp only [decide_eq_true_eq, decide_eq_false_iff_not, Bool.not_eq_true', Bool.not_eq_false'] at h10
          refine l_not rfl rfl rfl ?_
          refine l_not rfl rfl rfl ?_
          refine l_not rfl rfl rfl ?_
          refine l_not rfl rfl rfl ?_
          refine l_q rfl (q_pick_f rfl rfl rfl) rfl rfl ?_
          refine l_q rfl (q_assign rfl rfl) rfl rfl ?_
          refine l_nil ?_
          refine k_then ?_
          refine c_ret ?_
          refine k_then_ret ?_
          refine k_block_ret ?_
          refine k_then_ret ?_
          have e : mck m = false := by
            unfold mck
            rcases (show m.kind = 1 ∨ m.kind = 2 ∨ m.kind = 3 ∨ (¬ m.kind = 1 ∧ ¬ m.kind = 2 ∧ ¬ m.kind = 3) by omega) with e | e | e | e <;> first | (exfalso; omega) | simp_all
          rw [e]
          refine r_one rfl rfl ?_
          exact fun _ h => ⟨(), rfl, trivial, h.nothing⟩
      · try simp only [decide_eq_true_eq, decide_eq_false_iff_not, Bool.not_eq_true', Bool.not_eq_false'] at h9
        refine c_false rfl ?_
        refine c_skip ?_
        refine k_then ?_
        refine c_exit ?_
        refine k_block_other rfl ?_
        refine k_then_exit ?_
        refine k_block_other rfl ?_
        refine k_then_exit ?_
        refine k_block_other rfl ?_
        refine k_then_exit ?_
        refine k_block_exit ?_
        refine k_then ?_
        refine c_seq ?_
        refine c_region _ rfl ?_
        refine l_q rfl (q_assign rfl rfl) rfl rfl ?_
        refine l_nil ?_
        refine k_then ?_
        refine c_ret ?_
        have e : mck m = false := by
          unfold mck
          rcases (show m.kind = 1 ∨ m.kind = 2 ∨ m.kind = 3 ∨ (¬ m.kind = 1 ∧ ¬ m.kind = 2 ∧ ¬ m.kind = 3) by omega) with e | e | e | e <;> first | (exfalso; omega) | simp_all
        rw [e]
        refine r_one rfl rfl ?_
        exact fun _ h => ⟨(), rfl, trivial, h.nothing⟩
set_option maxRecDepth 100000 in
set_option maxHeartbeats 1000000 in
theorem rmcheck_spec (m : Ms) : Con Try.prog 10 [.agg m.c.toArray] (fun _ => True) [] (fun _ : Unit => .bool (mck m)) (fun _ => True) (fun _ => []) := by
  intro w hE hH
  refine enter (n := 45) (vs := [.agg m.c.toArray]) (St w [] []) Try.func10 rfl rfl rfl (St.init hH) ?_
  refine c_seq ?_
  refine c_region _ rfl ?_
  refine l_e rfl ?_
  refine e_box rfl rfl rfl rfl ?_
  intro bm
  refine cells_eq (show _ = m.c from rfl) ?_
  refine l_q rfl (q_assign rfl rfl) rfl rfl ?_
  refine l_nil ?_
  refine k_then ?_
  refine c_seq ?_
  refine c_seq ?_
  refine c_region _ rfl ?_
  refine l_q rfl (q_fieldAddr rfl Try.underlying30 rfl Try.sizeOf3 rfl rfl) rfl rfl ?_
  refine l_q rfl (q_loadC rfl Try.isAgg3 rfl (fun _ h => h.at 0 rfl) rfl) rfl rfl ?_
  refine l_q rfl (q_lss rfl rfl rfl) rfl rfl ?_
  refine l_q rfl (q_move rfl rfl) rfl rfl ?_
  refine Pre.caseB 6 rfl (fun h1 => ?_) (fun h1 => ?_)
  · try simp only [decide_eq_true_eq, decide_eq_false_iff_not, Bool.not_eq_true', Bool.not_eq_false'] at h1
    refine l_not rfl rfl rfl ?_
    refine l_not rfl rfl rfl ?_
    refine l_not rfl rfl rfl ?_
    refine l_q rfl (q_pick_t rfl rfl rfl) rfl rfl ?_
    refine l_q rfl (q_move rfl rfl) rfl rfl ?_
    refine l_not rfl rfl rfl ?_
    refine l_not rfl rfl rfl ?_
    refine l_not rfl rfl rfl ?_
    refine l_not rfl rfl rfl ?_
    refine l_q rfl (q_pick_t rfl rfl rfl) rfl rfl ?_
    refine l_nil ?_
    refine k_then ?_
    refine c_true rfl ?_
    refine c_seq ?_
    refine c_region _ rfl ?_
    refine l_q rfl (q_assign rfl rfl) rfl rfl ?_
    refine l_nil ?_
    refine k_then ?_
    refine c_ret ?_
    refine k_then_ret ?_
    have e : mck m = false := by
      unfold mck
      rcases (show m.kind = 1 ∨ m.kind = 2 ∨ m.kind = 3 ∨ (¬ m.kind = 1 ∧ ¬ m.kind = 2 ∧ ¬ m.kind = 3) by omega) with e | e | e | e <;> first | (exfalso; omega) | simp_all
    rw [e]
    refine r_one rfl rfl ?_
    exact fun _ h => ⟨(), rfl, trivial, h.nothing⟩
  · try simp only [decide_eq_true_eq, decide_eq_false_iff_not, Bool.not_eq_true', Bool.not_eq_false'] at h1
    refine l_q rfl (q_fieldAddr rfl Try.underlying30 rfl Try.sizeOf3 rfl rfl) rfl rfl ?_
    refine l_q rfl (q_loadC rfl Try.isAgg3 rfl (fun _ h => h.at 0 rfl) rfl) rfl rfl ?_
    refine l_q rfl (q_gtr rfl rfl rfl) rfl rfl ?_
    refine l_q rfl (q_pick_f rfl rfl rfl) rfl rfl ?_
    refine l_q rfl (q_move rfl rfl) rfl rfl ?_
    refine Pre.caseB 11 rfl (fun h2 => ?_) (fun h2 => ?_)
    · try simp only [decide_eq_true_eq, decide_eq_false_iff_not, Bool.not_eq_true', Bool.not_eq_false'] at h2
      refine l_not rfl rfl rfl ?_
      refine l_not rfl rfl rfl ?_
      refine l_not rfl rfl rfl ?_
      refine l_not rfl rfl rfl ?_
      refine l_q rfl (q_pick_t rfl rfl rfl) rfl rfl ?_
      refine l_nil ?_
      refine k_then ?_
      refine c_true rfl ?_
      refine c_seq ?_
      refine c_region _ rfl ?_
      refine l_q rfl (q_assign rfl rfl) rfl rfl ?_
      refine l_nil ?_
      refine k_then ?_
      refine c_ret ?_
      refine k_then_ret ?_
      have e : mck m = false := by
        unfold mck
        rcases (show m.kind = 1 ∨ m.kind = 2 ∨ m.kind = 3 ∨ (¬ m.kind = 1 ∧ ¬ m.kind = 2 ∧ ¬ m.kind = 3) by omega) with e | e | e | e <;> first | (exfalso; omega) | simp_all
      rw [e]
      refine r_one rfl rfl ?_
      exact fun _ h => ⟨(), rfl, trivial, h.nothing⟩
    · try simp only [decide_eq_true_eq, decide_eq_false_iff_not, Bool.not_eq_true', Bool.not_eq_false'] at h2
      refine l_q rfl (q_fieldAddr rfl Try.underlying30 rfl Try.sizeOf25 rfl rfl) rfl rfl ?_
      refine l_q rfl (q_loadCAgg (m.key.c) rfl Try.isAgg25 Try.sizeOf25 rfl (fun _ h => h.at 0 rfl) (Ms.key_part _) (Kv.c_len _)) rfl rfl ?_
      refine l_e rfl ?_
      refine e_call_00 (rkcheck_spec m.key) rfl rfl rfl Try.call25 rfl (fun _ _ => trivial) ?_
      intro _ _
      refine l_q rfl (q_not rfl rfl) rfl rfl ?_
      refine l_q rfl (q_pick_f rfl rfl rfl) rfl rfl ?_
      refine l_nil ?_
      refine k_then ?_
      refine Pre.caseB 16 rfl (fun h3 => ?_) (fun h3 => ?_)
      · try simp only [decide_eq_true_eq, decide_eq_false_iff_not, Bool.not_eq_true', Bool.not_eq_false'] at h3
        refine c_true rfl ?_
        refine c_seq ?_
        refine c_region _ rfl ?_
        refine l_q rfl (q_assign rfl rfl) rfl rfl ?_
        refine l_nil ?_
        refine k_then ?_
        refine c_ret ?_
        refine k_then_ret ?_
        have e : mck m = false := by
          unfold mck
          rcases (show m.kind = 1 ∨ m.kind = 2 ∨ m.kind = 3 ∨ (¬ m.kind = 1 ∧ ¬ m.kind = 2 ∧ ¬ m.kind = 3) by omega) with e | e | e | e <;> first | (exfalso; omega) | simp_all
        rw [e]
        refine r_one rfl rfl ?_
        exact fun _ h => ⟨(), rfl, trivial, h.nothing⟩
      · try simp only [decide_eq_true_eq, decide_eq_false_iff_not, Bool.not_eq_true', Bool.not_eq_false'] at h3
        refine c_false rfl ?_
        refine c_skip ?_
        refine k_then ?_
        refine c_seq ?_
        refine c_seq ?_
        refine c_region _ rfl ?_
        refine l_q rfl (q_fieldAddr rfl Try.underlying30 rfl Try.sizeOf3 rfl rfl) rfl rfl ?_
        refine l_q rfl (q_loadC rfl Try.isAgg3 rfl (fun _ h => h.at 0 rfl) rfl) rfl rfl ?_
        refine l_q rfl (q_eql rfl rfl rfl) rfl rfl ?_
        refine l_q rfl (q_move rfl rfl) rfl rfl ?_
        refine Pre.caseB 20 rfl (fun h4 => ?_) (fun h4 => ?_)
        · try simp only [decide_eq_true_eq, decide_eq_false_iff_not, Bool.not_eq_true', Bool.not_eq_false'] at h4
          refine l_q rfl (q_fieldAddr rfl Try.underlying30 rfl Try.sizeOf28 rfl rfl) rfl rfl ?_
          refine l_q rfl (q_loadCAgg (m.val.c) rfl Try.isAgg28 Try.sizeOf28 rfl (fun _ h => h.at 0 rfl) (Ms.val_part _) (Kv.c_len _)) rfl rfl ?_
          refine l_e rfl ?_
          refine e_call_00 (rvcheck_con m.val) rfl rfl rfl Try.call13 rfl (fun _ _ => trivial) ?_
          intro _ _
          refine l_q rfl (q_not rfl rfl) rfl rfl ?_
          refine l_q rfl (q_pick_t rfl rfl rfl) rfl rfl ?_
          refine l_q rfl (q_move rfl rfl) rfl rfl ?_
          refine Pre.caseB 26 rfl (fun h5 => ?_) (fun h5 => ?_)
          · try simp only [decide_eq_true_eq, decide_eq_false_iff_not, Bool.not_eq_true', Bool.not_eq_false'] at h5
            refine l_not rfl rfl rfl ?_
            refine l_not rfl rfl rfl ?_
            refine l_not rfl rfl rfl ?_
            refine l_not rfl rfl rfl ?_
            refine l_not rfl rfl rfl ?_
            refine l_not rfl rfl rfl ?_
            refine l_not rfl rfl rfl ?_
            refine l_not rfl rfl rfl ?_
            refine l_not rfl rfl rfl ?_
            refine l_q rfl (q_pick_t rfl rfl rfl) rfl rfl ?_
            refine l_nil ?_
            refine k_then ?_
            refine c_true rfl ?_
            refine c_seq ?_
            refine c_region _ rfl ?_
            refine l_q rfl (q_assign rfl rfl) rfl rfl ?_
            refine l_nil ?_
            refine k_then ?_
            refine c_ret ?_
            refine k_then_ret ?_
            have e : mck m = false := by
              unfold mck
              rcases (show m.kind = 1 ∨ m.kind = 2 ∨ m.kind = 3 ∨ (¬ m.kind = 1 ∧ ¬ m.kind = 2 ∧ ¬ m.kind = 3) by omega) with e | e | e | e <;> first | (exfalso; omega) | simp_all
            rw [e]
            refine r_one rfl rfl ?_
            exact fun _ h => ⟨(), rfl, trivial, h.nothing⟩
          · try simp only [decide_eq_true_eq, decide_eq_false_iff_not, Bool.not_eq_true', Bool.not_eq_false'] at h5
            refine l_q rfl (q_fieldAddr rfl Try.underlying30 rfl Try.sizeOf3 rfl rfl) rfl rfl ?_
            refine l_q rfl (q_loadC rfl Try.isAgg3 rfl (fun _ h => h.at 0 rfl) rfl) rfl rfl ?_
            refine l_q rfl (q_neq rfl rfl rfl) rfl rfl ?_
            refine l_q rfl (q_move rfl rfl) rfl rfl ?_
            refine Pre.caseB 30 rfl (fun h6 => ?_) (fun h6 => ?_)
            · try simp only [decide_eq_true_eq, decide_eq_false_iff_not, Bool.not_eq_true', Bool.not_eq_false'] at h6
              refine l_q rfl (q_fieldAddr rfl Try.underlying30 rfl Try.sizeOf28 rfl rfl) rfl rfl ?_
              refine l_q rfl (q_loadCAgg (m.val.c) rfl Try.isAgg28 Try.sizeOf28 rfl (fun _ h => h.at 0 rfl) (Ms.val_part _) (Kv.c_len _)) rfl rfl ?_
              refine l_q rfl (q_build ((kv0 16).c) rfl rfl (fun w => by kernel_rfl)) rfl rfl ?_
              refine l_q rfl (q_neVl (m.val) ((kv0 16)) rfl rfl rfl) rfl rfl ?_
              refine l_q rfl (q_pick_t rfl rfl rfl) rfl rfl ?_
              refine l_q rfl (q_pick_f rfl rfl rfl) rfl rfl ?_
              refine l_nil ?_
              refine k_then ?_
              refine Pre.caseB 36 rfl (fun h7 => ?_) (fun h7 => ?_)
              · try simp only [decide_eq_true_eq, decide_eq_false_iff_not, Bool.not_eq_true', Bool.not_eq_false'] at h7
                refine c_true rfl ?_
                refine c_seq ?_
                refine c_region _ rfl ?_
                refine l_q rfl (q_assign rfl rfl) rfl rfl ?_
                refine l_nil ?_
                refine k_then ?_
                refine c_ret ?_
                refine k_then_ret ?_
                have e : mck m = false := by
                  unfold mck
                  rcases (show m.kind = 1 ∨ m.kind = 2 ∨ m.kind = 3 ∨ (¬ m.kind = 1 ∧ ¬ m.kind = 2 ∧ ¬ m.kind = 3) by omega) with e | e | e | e <;> first | (exfalso; omega) | simp_all
                rw [e]
                refine r_one rfl rfl ?_
                exact fun _ h => ⟨(), rfl, trivial, h.nothing⟩
              · try simp only [decide_eq_true_eq, decide_eq_false_iff_not, Bool.not_eq_true', Bool.not_eq_false'] at h7
                refine c_false rfl ?_
                refine c_skip ?_
                refine k_then ?_
                refine c_seq ?_
                refine c_region _ rfl ?_
                refine l_q rfl (q_fieldAddr rfl Try.underlying30 rfl Try.sizeOf3 rfl rfl) rfl rfl ?_
                refine l_q rfl (q_loadC rfl Try.isAgg3 rfl (fun _ h => h.at 0 rfl) rfl) rfl rfl ?_
                refine l_q rfl (q_eql rfl rfl rfl) rfl rfl ?_
                refine l_q rfl (q_move rfl rfl) rfl rfl ?_
                refine Pre.caseB 40 rfl (fun h8 => ?_) (fun h8 => ?_)
                · try simp only [decide_eq_true_eq, decide_eq_false_iff_not, Bool.not_eq_true', Bool.not_eq_false'] at h8
                  refine l_not rfl rfl rfl ?_
                  refine l_not rfl rfl rfl ?_
                  refine l_not rfl rfl rfl ?_
                  refine l_q rfl (q_pick_t rfl rfl rfl) rfl rfl ?_
                  refine l_q rfl (q_assign rfl rfl) rfl rfl ?_
                  refine l_nil ?_
                  refine k_then ?_
                  refine c_ret ?_
                  have e : mck m = true := by
                    unfold mck
                    rcases (show m.kind = 1 ∨ m.kind = 2 ∨ m.kind = 3 ∨ (¬ m.kind = 1 ∧ ¬ m.kind = 2 ∧ ¬ m.kind = 3) by omega) with e | e | e | e <;> first | (exfalso; omega) | simp_all
                  rw [e]
                  refine r_one rfl rfl ?_
                  exact fun _ h => ⟨(), rfl, trivial, h.nothing⟩
                · try simp only [decide_eq_true_eq, decide_eq_false_iff_not, Bool.not_eq_true', Bool.not_eq_false'] at h8
                  refine l_q rfl (q_fieldAddr rfl Try.underlying30 rfl Try.sizeOf22 rfl rfl) rfl rfl ?_
                  refine l_q rfl (q_loadC rfl Try.isAgg22 rfl (fun _ h => h.at 0 rfl) (Ms.by_part _)) rfl rfl ?_
                  refine l_q rfl (q_eql rfl rfl rfl) rfl rfl ?_
                  refine l_q rfl (q_pick_f rfl rfl rfl) rfl rfl ?_
                  refine l_q rfl (q_assign rfl rfl) rfl rfl ?_
                  refine l_nil ?_
                  refine k_then ?_
                  refine c_ret ?_
                  refine Pre.caseB 2 rfl (fun h9 => ?_) (fun h9 => ?_)
                  · try simp only [decide_eq_true_eq, decide_eq_false_iff_not, Bool.not_eq_true', Bool.not_eq_false'] at h9
                    have e : mck m = true := by
                      unfold mck
                      rcases (show m.kind = 1 ∨ m.kind = 2 ∨ m.kind = 3 ∨ (¬ m.kind = 1 ∧ ¬ m.kind = 2 ∧ ¬ m.kind = 3) by omega) with e | e | e | e <;> first | (exfalso; omega) | simp_all
                    rw [e]
                    refine r_one rfl rfl ?_
                    exact fun _ h => ⟨(), rfl, trivial, h.nothing⟩
                  · try simp only [decide_eq_true_eq, decide_eq_false_iff_not, Bool.not_eq_true', Bool.not_eq_false'] at h9
                    have e : mck m = false := by
                      unfold mck
                      rcases (show m.kind = 1 ∨ m.kind = 2 ∨ m.kind = 3 ∨ (¬ m.kind = 1 ∧ ¬ m.kind = 2 ∧ ¬ m.kind = 3) by omega) with e | e | e | e <;> first | (exfalso; omega) | simp_all
                    rw [e]
                    refine r_one rfl rfl ?_
                    exact fun _ h => ⟨(), rfl, trivial, h.nothing⟩
            · try simp only [decide_eq_true_eq, decide_eq_false_iff_not, Bool.not_eq_true', Bool.not_eq_false'] at h6
              refine l_not rfl rfl rfl ?_
              refine l_not rfl rfl rfl ?_
              refine l_not rfl rfl rfl ?_
              refine l_not rfl rfl rfl ?_
              refine l_q rfl (q_pick_f rfl rfl rfl) rfl rfl ?_
              refine l_q rfl (q_pick_f rfl rfl rfl) rfl rfl ?_
              refine l_nil ?_
              refine k_then ?_
              refine c_false rfl ?_
              refine c_skip ?_
              refine k_then ?_
              refine c_seq ?_
              refine c_region _ rfl ?_
              refine l_q rfl (q_fieldAddr rfl Try.underlying30 rfl Try.sizeOf3 rfl rfl) rfl rfl ?_
              refine l_q rfl (q_loadC rfl Try.isAgg3 rfl (fun _ h => h.at 0 rfl) rfl) rfl rfl ?_
              refine l_q rfl (q_eql rfl rfl rfl) rfl rfl ?_
              refine l_q rfl (q_move rfl rfl) rfl rfl ?_
              refine Pre.caseB 40 rfl (fun h10 => ?_) (fun h10 => ?_)
              · try simp only [decide_eq_true_eq, decide_eq_false_iff_not, Bool.not_eq_true', Bool.not_eq_false'] at h10
                refine l_not rfl rfl rfl ?_
                refine l_not rfl rfl rfl ?_
                refine l_not rfl rfl rfl ?_
                refine l_q rfl (q_pick_t rfl rfl rfl) rfl rfl ?_
                refine l_q rfl (q_assign rfl rfl) rfl rfl ?_
                refine l_nil ?_
                refine k_then ?_
                refine c_ret ?_
                have e : mck m = true := by
                  unfold mck
                  rcases (show m.kind = 1 ∨ m.kind = 2 ∨ m.kind = 3 ∨ (¬ m.kind = 1 ∧ ¬ m.kind = 2 ∧ ¬ m.kind = 3) by omega) with e | e | e | e <;> first | (exfalso; omega) | simp_all
                rw [e]
                refine r_one rfl rfl ?_
                exact fun _ h => ⟨(), rfl, trivial, h.nothing⟩
              · try simp only [decide_eq_true_eq, decide_eq_false_iff_not, Bool.not_eq_true', Bool.not_eq_false'] at h10
                refine l_q rfl (q_fieldAddr rfl Try.underlying30 rfl Try.sizeOf22 rfl rfl) rfl rfl ?_
                refine l_q rfl (q_loadC rfl Try.isAgg22 rfl (fun _ h => h.at 0 rfl) (Ms.by_part _)) rfl rfl ?_
                refine l_q rfl (q_eql rfl rfl rfl) rfl rfl ?_
                refine l_q rfl (q_pick_f rfl rfl rfl) rfl rfl ?_
                refine l_q rfl (q_assign rfl rfl) rfl rfl ?_
                refine l_nil ?_
                refine k_then ?_
                refine c_ret ?_
                refine Pre.caseB 2 rfl (fun h11 => ?_) (fun h11 => ?_)
                · try simp only [decide_eq_true_eq, decide_eq_false_iff_not, Bool.not_eq_true', Bool.not_eq_false'] at h11
                  have e : mck m = true := by
                    unfold mck
                    rcases (show m.kind = 1 ∨ m.kind = 2 ∨ m.kind = 3 ∨ (¬ m.kind = 1 ∧ ¬ m.kind = 2 ∧ ¬ m.kind = 3) by omega) with e | e | e | e <;> first | (exfalso; omega) | simp_all
                  rw [e]
                  refine r_one rfl rfl ?_
                  exact fun _ h => ⟨(), rfl, trivial, h.nothing⟩
                · try simp only [decide_eq_true_eq, decide_eq_false_iff_not, Bool.not_eq_true', Bool.not_eq_false'] at h11
                  have e : mck m = false := by
                    unfold mck
                    rcases (show m.kind = 1 ∨ m.kind = 2 ∨ m.kind = 3 ∨ (¬ m.kind = 1 ∧ ¬ m.kind = 2 ∧ ¬ m.kind = 3) by omega) with e | e | e | e <;> first | (exfalso; omega) | simp_all
                  rw [e]
                  refine r_one rfl rfl ?_
                  exact fun _ h => ⟨(), rfl, trivial, h.nothing⟩
        · try simp only [decide_eq_true_eq, decide_eq_false_iff_not, Bool.not_eq_true', Bool.not_eq_false'] at h4
          refine l_not rfl rfl rfl ?_
          refine l_not rfl rfl rfl ?_
          refine l_not rfl rfl rfl ?_
          refine l_not rfl rfl rfl ?_
          refine l_q rfl (q_pick_f rfl rfl rfl) rfl rfl ?_
          refine l_q rfl (q_move rfl rfl) rfl rfl ?_
          refine l_q rfl (q_fieldAddr rfl Try.underlying30 rfl Try.sizeOf3 rfl rfl) rfl rfl ?_
          refine l_q rfl (q_loadC rfl Try.isAgg3 rfl (fun _ h => h.at 0 rfl) rfl) rfl rfl ?_
          refine l_q rfl (q_neq rfl rfl rfl) rfl rfl ?_
          refine l_q rfl (q_move rfl rfl) rfl rfl ?_
          refine Pre.caseB 30 rfl (fun h12 => ?_) (fun h12 => ?_)
          · try simp only [decide_eq_true_eq, decide_eq_false_iff_not, Bool.not_eq_true', Bool.not_eq_false'] at h12
            refine l_q rfl (q_fieldAddr rfl Try.underlying30 rfl Try.sizeOf28 rfl rfl) rfl rfl ?_
            refine l_q rfl (q_loadCAgg (m.val.c) rfl Try.isAgg28 Try.sizeOf28 rfl (fun _ h => h.at 0 rfl) (Ms.val_part _) (Kv.c_len _)) rfl rfl ?_
            refine l_q rfl (q_build ((kv0 16).c) rfl rfl (fun w => by kernel_rfl)) rfl rfl ?_
            refine l_q rfl (q_neVl (m.val) ((kv0 16)) rfl rfl rfl) rfl rfl ?_
            refine l_q rfl (q_pick_t rfl rfl rfl) rfl rfl ?_
            refine l_q rfl (q_pick_f rfl rfl rfl) rfl rfl ?_
            refine l_nil ?_
            refine k_then ?_
            refine Pre.caseB 36 rfl (fun h13 => ?_) (fun h13 => ?_)
            · try simp only [decide_eq_true_eq, decide_eq_false_iff_not, Bool.not_eq_true', Bool.not_eq_false'] at h13
              refine c_true rfl ?_
              refine c_seq ?_
              refine c_region _ rfl ?_
              refine l_q rfl (q_assign rfl rfl) rfl rfl ?_
              refine l_nil ?_
              refine k_then ?_
              refine c_ret ?_
              refine k_then_ret ?_
              have e : mck m = false := by
                unfold mck
                rcases (show m.kind = 1 ∨ m.kind = 2 ∨ m.kind = 3 ∨ (¬ m.kind = 1 ∧ ¬ m.kind = 2 ∧ ¬ m.kind = 3) by omega) with e | e | e | e <;> first | (exfalso; omega) | simp_all
              rw [e]
              refine r_one rfl rfl ?_
              exact fun _ h => ⟨(), rfl, trivial, h.nothing⟩
            · try simp only [decide_eq_true_eq, decide_eq_false_iff_not, Bool.not_eq_true', Bool.not_eq_false'] at h13
              refine c_false rfl ?_
              refine c_skip ?_
              refine k_then ?_
              refine c_seq ?_
              refine c_region _ rfl ?_
              refine l_q rfl (q_fieldAddr rfl Try.underlying30 rfl Try.sizeOf3 rfl rfl) rfl rfl ?_
              refine l_q rfl (q_loadC rfl Try.isAgg3 rfl (fun _ h => h.at 0 rfl) rfl) rfl rfl ?_
              refine l_q rfl (q_eql rfl rfl rfl) rfl rfl ?_
              refine l_q rfl (q_move rfl rfl) rfl rfl ?_
              refine Pre.caseB 40 rfl (fun h14 => ?_) (fun h14 => ?_)
              · try simp only [decide_eq_true_eq, decide_eq_false_iff_not, Bool.not_eq_true', Bool.not_eq_false'] at h14
                refine l_not rfl rfl rfl ?_
                refine l_not rfl rfl rfl ?_
                refine l_not rfl rfl rfl ?_
                refine l_q rfl (q_pick_t rfl rfl rfl) rfl rfl ?_
                refine l_q rfl (q_assign rfl rfl) rfl rfl ?_
                refine l_nil ?_
                refine k_then ?_
                refine c_ret ?_
                have e : mck m = true := by
                  unfold mck
                  rcases (show m.kind = 1 ∨ m.kind = 2 ∨ m.kind = 3 ∨ (¬ m.kind = 1 ∧ ¬ m.kind = 2 ∧ ¬ m.kind = 3) by omega) with e | e | e | e <;> first | (exfalso; omega) | simp_all
                rw [e]
                refine r_one rfl rfl ?_
                exact fun _ h => ⟨(), rfl, trivial, h.nothing⟩
              · try simp only [decide_eq_true_eq, decide_eq_false_iff_not, Bool.not_eq_true', Bool.not_eq_false'] at h14
                refine l_q rfl (q_fieldAddr rfl Try.underlying30 rfl Try.sizeOf22 rfl rfl) rfl rfl ?_
                refine l_q rfl (q_loadC rfl Try.isAgg22 rfl (fun _ h => h.at 0 rfl) (Ms.by_part _)) rfl rfl ?_
                refine l_q rfl (q_eql rfl rfl rfl) rfl rfl ?_
                refine l_q rfl (q_pick_f rfl rfl rfl) rfl rfl ?_
                refine l_q rfl (q_assign rfl rfl) rfl rfl ?_
                refine l_nil ?_
                refine k_then ?_
                refine c_ret ?_
                refine Pre.caseB 2 rfl (fun h15 => ?_) (fun h15 => ?_)
                · try simp only [decide_eq_true_eq, decide_eq_false_iff_not, Bool.not_eq_true', Bool.not_eq_false'] at h15
                  have e : mck m = true := by
                    unfold mck
                    rcases (show m.kind = 1 ∨ m.kind = 2 ∨ m.kind = 3 ∨ (¬ m.kind = 1 ∧ ¬ m.kind = 2 ∧ ¬ m.kind = 3) by omega) with e | e | e | e <;> first | (exfalso; omega) | simp_all
                  rw [e]
                  refine r_one rfl rfl ?_
                  exact fun _ h => ⟨(), rfl, trivial, h.nothing⟩
                · try simp only [decide_eq_true_eq, decide_eq_false_iff_not, Bool.not_eq_true', Bool.not_eq_false'] at h15
                  have e : mck m = false := by
                    unfold mck
                    rcases (show m.kind = 1 ∨ m.kind = 2 ∨ m.kind = 3 ∨ (¬ m.kind = 1 ∧ ¬ m.kind = 2 ∧ ¬ m.kind = 3) by omega) with e | e | e | e <;> first | (exfalso; omega) | simp_all
                  rw [e]
                  refine r_one rfl rfl ?_
                  exact fun _ h => ⟨(), rfl, trivial, h.nothing⟩
          · try simp only [decide_eq_true_eq, decide_eq_false_iff_not, Bool.not_eq_true', Bool.not_eq_false'] at h12
            refine l_not rfl rfl rfl ?_
            refine l_not rfl rfl rfl ?_
            refine l_not rfl rfl rfl ?_
            refine l_not rfl rfl rfl ?_
            refine l_q rfl (q_pick_f rfl rfl rfl) rfl rfl ?_
            refine l_q rfl (q_pick_f rfl rfl rfl) rfl rfl ?_
            refine l_nil ?_
            refine k_then ?_
            refine c_false rfl ?_
            refine c_skip ?_
            refine k_then ?_
            refine c_seq ?_
            refine c_region _ rfl ?_
            refine l_q rfl (q_fieldAddr rfl Try.underlying30 rfl Try.sizeOf3 rfl rfl) rfl rfl ?_
            refine l_q rfl (q_loadC rfl Try.isAgg3 rfl (fun _ h => h.at 0 rfl) rfl) rfl rfl ?_
            refine l_q rfl (q_eql rfl rfl rfl) rfl rfl ?_
            refine l_q rfl (q_move rfl rfl) rfl rfl ?_
            refine Pre.caseB 40 rfl (fun h16 => ?_) (fun h16 => ?_)
            · try simp only [decide_eq_true_eq, decide_eq_false_iff_not, Bool.not_eq_true', Bool.not_eq_false'] at h16
              refine l_not rfl rfl rfl ?_
              refine l_not rfl rfl rfl ?_
              refine l_not rfl rfl rfl ?_
              refine l_q rfl (q_pick_t rfl rfl rfl) rfl rfl ?_
              refine l_q rfl (q_assign rfl rfl) rfl rfl ?_
              refine l_nil ?_
              refine k_then ?_
              refine c_ret ?_
              have e : mck m = true := by
                unfold mck
                rcases (show m.kind = 1 ∨ m.kind = 2 ∨ m.kind = 3 ∨ (¬ m.kind = 1 ∧ ¬ m.kind = 2 ∧ ¬ m.kind = 3) by omega) with e | e | e | e <;> first | (exfalso; omega) | simp_all
              rw [e]
              refine r_one rfl rfl ?_
              exact fun _ h => ⟨(), rfl, trivial, h.nothing⟩
            · try simp only [decide_eq_true_eq, decide_eq_false_iff_not, Bool.not_eq_true', Bool.not_eq_false'] at h16
              refine l_q rfl (q_fieldAddr rfl Try.underlying30 rfl Try.sizeOf22 rfl rfl) rfl rfl ?_
              refine l_q rfl (q_loadC rfl Try.isAgg22 rfl (fun _ h => h.at 0 rfl) (Ms.by_part _)) rfl rfl ?_
              refine l_q rfl (q_eql rfl rfl rfl) rfl rfl ?_
              refine l_q rfl (q_pick_f rfl rfl rfl) rfl rfl ?_
              refine l_q rfl (q_assign rfl rfl) rfl rfl ?_
              refine l_nil ?_
              refine k_then ?_
              refine c_ret ?_
              refine Pre.caseB 2 rfl (fun h17 => ?_) (fun h17 => ?_)
              · try simp only [decide_eq_true_eq, decide_eq_false_iff_not, Bool.not_eq_true', Bool.not_eq_false'] at h17
                have e : mck m = true := by
                  unfold mck
                  rcases (show m.kind = 1 ∨ m.kind = 2 ∨ m.kind = 3 ∨ (¬ m.kind = 1 ∧ ¬ m.kind = 2 ∧ ¬ m.kind = 3) by omega) with e | e | e | e <;> first | (exfalso; omega) | simp_all
                rw [e]
                refine r_one rfl rfl ?_
                exact fun _ h => ⟨(), rfl, trivial, h.nothing⟩
              · try simp only [decide_eq_true_eq, decide_eq_false_iff_not, Bool.not_eq_true', Bool.not_eq_false'] at h17
                have e : mck m = false := by
                  unfold mck
                  rcases (show m.kind = 1 ∨ m.kind = 2 ∨ m.kind = 3 ∨ (¬ m.kind = 1 ∧ ¬ m.kind = 2 ∧ ¬ m.kind = 3) by omega) with e | e | e | e <;> first | (exfalso; omega) | simp_all
                rw [e]
                refine r_one rfl rfl ?_
                exact fun _ h => ⟨(), rfl, trivial, h.nothing⟩
set_option maxRecDepth 100000 in
set_option maxHeartbeats 1000000 in
theorem mbytes_spec (m : Ms) : Con Try.prog 11 [.agg m.c.toArray] (fun _ => True) [] (fun _ : Unit => .int .i64 (mby m)) (fun _ => True) (fun _ => []) := by
  intro w hE hH
  refine enter (n := 26) (vs := [.agg m.c.toArray]) (St w [] []) Try.func11 rfl rfl rfl (St.init hH) ?_
  refine c_seq ?_
  refine c_region _ rfl ?_
  refine l_e rfl ?_
  refine e_box rfl rfl rfl rfl ?_
  intro bm
  refine cells_eq (show _ = m.c from rfl) ?_
  refine l_q rfl (q_assign rfl rfl) rfl rfl ?_
  refine l_nil ?_
  refine k_then ?_
  refine c_seq ?_
  refine c_seq ?_
  refine c_region _ rfl ?_
  refine l_q rfl (q_loadCAgg (m.c) rfl Try.isAgg30 Try.sizeOf30 rfl (fun _ h => h.at 0 rfl) (ms_whole _) (Ms.c_len _)) rfl rfl ?_
  refine l_e rfl ?_
  refine e_call_00 (mcheck_spec m) rfl rfl rfl Try.call9 rfl (fun _ _ => trivial) ?_
  intro _ _
  refine l_q rfl (q_not rfl rfl) rfl rfl ?_
  refine l_nil ?_
  refine k_then ?_
  refine Pre.caseB 6 rfl (fun hm => ?_) (fun hm => ?_)
  · try simp only [decide_eq_true_eq, decide_eq_false_iff_not, Bool.not_eq_true', Bool.not_eq_false'] at hm
    refine c_true rfl ?_
    refine c_seq ?_
    refine c_region _ rfl ?_
    refine l_q rfl (q_assign rfl rfl) rfl rfl ?_
    refine l_nil ?_
    refine k_then ?_
    refine c_ret ?_
    refine k_then_ret ?_
    refine r_one rfl rfl ?_
    exact fun _ h => ⟨(), congrArg (fun z => Ending.returned (Value.int .i64 z)) (by unfold mby; rw [if_neg (by rw [hm]; simp)]), trivial, h.nothing⟩
  · try simp only [decide_eq_true_eq, decide_eq_false_iff_not, Bool.not_eq_true', Bool.not_eq_false'] at hm
    have hk := mck_key hm
    refine c_false rfl ?_
    refine c_skip ?_
    refine k_then ?_
    refine c_seq ?_
    refine c_region _ rfl ?_
    refine l_q rfl (q_fieldAddr rfl Try.underlying30 rfl Try.sizeOf25 rfl rfl) rfl rfl ?_
    refine l_q rfl (q_fieldAddr rfl Try.underlying25 rfl Try.sizeOf3 rfl rfl) rfl rfl ?_
    refine l_q rfl (q_loadC rfl Try.isAgg3 rfl (fun _ h => h.at 0 rfl) rfl) rfl rfl ?_
    refine l_q rfl (q_add64 rfl rfl rfl (by omega)) rfl rfl ?_
    refine l_q rfl (q_assign rfl rfl) rfl rfl ?_
    refine l_nil ?_
    refine k_then ?_
    refine c_seq ?_
    refine c_seq ?_
    refine c_region _ rfl ?_
    refine l_q rfl (q_fieldAddr rfl Try.underlying30 rfl Try.sizeOf3 rfl rfl) rfl rfl ?_
    refine l_q rfl (q_loadC rfl Try.isAgg3 rfl (fun _ h => h.at 0 rfl) rfl) rfl rfl ?_
    refine l_nil ?_
    refine k_then ?_
    refine c_block ?_
    refine c_seq ?_
    refine c_region _ rfl ?_
    refine l_q rfl (q_eql rfl rfl rfl) rfl rfl ?_
    refine l_q rfl (q_assign rfl rfl) rfl rfl ?_
    refine l_nil ?_
    refine k_then ?_
    refine Pre.caseB 13 rfl (fun e1 => ?_) (fun e1 => ?_)
    · try simp only [decide_eq_true_eq, decide_eq_false_iff_not, Bool.not_eq_true', Bool.not_eq_false'] at e1
      have hv := mck_val hm e1
      refine c_true rfl ?_
      refine c_region _ rfl ?_
      refine l_q rfl (q_move rfl rfl) rfl rfl ?_
      refine l_q rfl (q_fieldAddr rfl Try.underlying30 rfl Try.sizeOf28 rfl rfl) rfl rfl ?_
      refine l_q rfl (q_fieldAddr rfl Try.underlying28 rfl Try.sizeOf3 rfl rfl) rfl rfl ?_
      refine l_q rfl (q_loadC rfl Try.isAgg3 rfl (fun _ h => h.at 0 rfl) (Ms.valn_part _)) rfl rfl ?_
      refine l_q rfl (q_add64 rfl rfl rfl (by omega)) rfl rfl ?_
      refine l_q rfl (q_add64 rfl rfl rfl (by omega)) rfl rfl ?_
      refine l_q rfl (q_assign rfl rfl) rfl rfl ?_
      refine l_nil ?_
      refine k_block ?_
      refine k_then ?_
      refine c_seq ?_
      refine c_region _ rfl ?_
      refine l_q rfl (q_move rfl rfl) rfl rfl ?_
      refine l_q rfl (q_assign rfl rfl) rfl rfl ?_
      refine l_nil ?_
      refine k_then ?_
      refine c_ret ?_
      refine r_one rfl rfl ?_
      exact fun _ h => ⟨(), congrArg (fun z => Ending.returned (Value.int .i64 z)) (by unfold mby; rw [if_pos hm]; split <;> (try split) <;> omega), trivial, h.nothing⟩
    · try simp only [decide_eq_true_eq, decide_eq_false_iff_not, Bool.not_eq_true', Bool.not_eq_false'] at e1
      refine c_false rfl ?_
      refine c_seq ?_
      refine c_region _ rfl ?_
      refine l_q rfl (q_eql rfl rfl rfl) rfl rfl ?_
      refine l_q rfl (q_assign rfl rfl) rfl rfl ?_
      refine l_nil ?_
      refine k_then ?_
      refine Pre.caseB 21 rfl (fun e3 => ?_) (fun e3 => ?_)
      · try simp only [decide_eq_true_eq, decide_eq_false_iff_not, Bool.not_eq_true', Bool.not_eq_false'] at e3
        refine c_true rfl ?_
        refine c_region _ rfl ?_
        refine l_q rfl (q_move rfl rfl) rfl rfl ?_
        refine l_q rfl (q_add64 rfl rfl rfl (by omega)) rfl rfl ?_
        refine l_q rfl (q_assign rfl rfl) rfl rfl ?_
        refine l_nil ?_
        refine k_block ?_
        refine k_then ?_
        refine c_seq ?_
        refine c_region _ rfl ?_
        refine l_q rfl (q_move rfl rfl) rfl rfl ?_
        refine l_q rfl (q_assign rfl rfl) rfl rfl ?_
        refine l_nil ?_
        refine k_then ?_
        refine c_ret ?_
        refine r_one rfl rfl ?_
        exact fun _ h => ⟨(), congrArg (fun z => Ending.returned (Value.int .i64 z)) (by unfold mby; rw [if_pos hm]; split <;> (try split) <;> omega), trivial, h.nothing⟩
      · try simp only [decide_eq_true_eq, decide_eq_false_iff_not, Bool.not_eq_true', Bool.not_eq_false'] at e3
        refine c_false rfl ?_
        refine c_skip ?_
        refine k_block ?_
        refine k_then ?_
        refine c_seq ?_
        refine c_region _ rfl ?_
        refine l_q rfl (q_move rfl rfl) rfl rfl ?_
        refine l_q rfl (q_assign rfl rfl) rfl rfl ?_
        refine l_nil ?_
        refine k_then ?_
        refine c_ret ?_
        refine r_one rfl rfl ?_
        exact fun _ h => ⟨(), congrArg (fun z => Ending.returned (Value.int .i64 z)) (by unfold mby; rw [if_pos hm]; split <;> (try split) <;> omega), trivial, h.nothing⟩
set_option maxRecDepth 100000 in
set_option maxHeartbeats 1000000 in
theorem rmbytes_spec (m : Ms) : Con Try.prog 12 [.agg m.c.toArray] (fun _ => True) [] (fun _ : Unit => .int .i64 (mby m)) (fun _ => True) (fun _ => []) := by
  intro w hE hH
  refine enter (n := 28) (vs := [.agg m.c.toArray]) (St w [] []) Try.func12 rfl rfl rfl (St.init hH) ?_
  refine c_seq ?_
  refine c_region _ rfl ?_
  refine l_e rfl ?_
  refine e_box rfl rfl rfl rfl ?_
  intro bm
  refine cells_eq (show _ = m.c from rfl) ?_
  refine l_q rfl (q_assign rfl rfl) rfl rfl ?_
  refine l_nil ?_
  refine k_then ?_
  refine c_seq ?_
  refine c_seq ?_
  refine c_region _ rfl ?_
  refine l_q rfl (q_loadCAgg (m.c) rfl Try.isAgg30 Try.sizeOf30 rfl (fun _ h => h.at 0 rfl) (ms_whole _) (Ms.c_len _)) rfl rfl ?_
  refine l_e rfl ?_
  refine e_call_00 (rmcheck_spec m) rfl rfl rfl Try.call10 rfl (fun _ _ => trivial) ?_
  intro _ _
  refine l_q rfl (q_not rfl rfl) rfl rfl ?_
  refine l_nil ?_
  refine k_then ?_
  refine Pre.caseB 5 rfl (fun hm => ?_) (fun hm => ?_)
  · try simp only [decide_eq_true_eq, decide_eq_false_iff_not, Bool.not_eq_true', Bool.not_eq_false'] at hm
    refine c_true rfl ?_
    refine c_seq ?_
    refine c_region _ rfl ?_
    refine l_q rfl (q_assign rfl rfl) rfl rfl ?_
    refine l_nil ?_
    refine k_then ?_
    refine c_ret ?_
    refine k_then_ret ?_
    refine r_one rfl rfl ?_
    exact fun _ h => ⟨(), congrArg (fun z => Ending.returned (Value.int .i64 z)) (by unfold mby; rw [if_neg (by rw [hm]; simp)]), trivial, h.nothing⟩
  · try simp only [decide_eq_true_eq, decide_eq_false_iff_not, Bool.not_eq_true', Bool.not_eq_false'] at hm
    have hk := mck_key hm
    refine c_false rfl ?_
    refine c_skip ?_
    refine k_then ?_
    refine c_seq ?_
    refine c_seq ?_
    refine c_region _ rfl ?_
    refine l_q rfl (q_fieldAddr rfl Try.underlying30 rfl Try.sizeOf3 rfl rfl) rfl rfl ?_
    refine l_q rfl (q_loadC rfl Try.isAgg3 rfl (fun _ h => h.at 0 rfl) rfl) rfl rfl ?_
    refine l_nil ?_
    refine k_then ?_
    refine c_block ?_
    refine c_seq ?_
    refine c_region _ rfl ?_
    refine l_q rfl (q_eql rfl rfl rfl) rfl rfl ?_
    refine l_q rfl (q_assign rfl rfl) rfl rfl ?_
    refine l_nil ?_
    refine k_then ?_
    refine Pre.caseB 8 rfl (fun e1 => ?_) (fun e1 => ?_)
    · try simp only [decide_eq_true_eq, decide_eq_false_iff_not, Bool.not_eq_true', Bool.not_eq_false'] at e1
      have hv := mck_val hm e1
      refine c_true rfl ?_
      refine c_seq ?_
      refine c_region _ rfl ?_
      refine l_q rfl (q_fieldAddr rfl Try.underlying30 rfl Try.sizeOf25 rfl rfl) rfl rfl ?_
      refine l_q rfl (q_fieldAddr rfl Try.underlying25 rfl Try.sizeOf3 rfl rfl) rfl rfl ?_
      refine l_q rfl (q_loadC rfl Try.isAgg3 rfl (fun _ h => h.at 0 rfl) rfl) rfl rfl ?_
      refine l_q rfl (q_add64 rfl rfl rfl (by omega)) rfl rfl ?_
      refine l_q rfl (q_fieldAddr rfl Try.underlying30 rfl Try.sizeOf28 rfl rfl) rfl rfl ?_
      refine l_q rfl (q_fieldAddr rfl Try.underlying28 rfl Try.sizeOf3 rfl rfl) rfl rfl ?_
      refine l_q rfl (q_loadC rfl Try.isAgg3 rfl (fun _ h => h.at 0 rfl) (Ms.valn_part _)) rfl rfl ?_
      refine l_q rfl (q_add64 rfl rfl rfl (by omega)) rfl rfl ?_
      refine l_q rfl (q_assign rfl rfl) rfl rfl ?_
      refine l_nil ?_
      refine k_then ?_
      refine c_ret ?_
      refine k_block_ret ?_
      refine k_then_ret ?_
      refine r_one rfl rfl ?_
      exact fun _ h => ⟨(), congrArg (fun z => Ending.returned (Value.int .i64 z)) (by unfold mby; rw [if_pos hm]; split <;> (try split) <;> omega), trivial, h.nothing⟩
    · try simp only [decide_eq_true_eq, decide_eq_false_iff_not, Bool.not_eq_true', Bool.not_eq_false'] at e1
      refine c_false rfl ?_
      refine c_seq ?_
      refine c_region _ rfl ?_
      refine l_q rfl (q_eql rfl rfl rfl) rfl rfl ?_
      refine l_q rfl (q_assign rfl rfl) rfl rfl ?_
      refine l_nil ?_
      refine k_then ?_
      refine Pre.caseB 18 rfl (fun e3 => ?_) (fun e3 => ?_)
      · try simp only [decide_eq_true_eq, decide_eq_false_iff_not, Bool.not_eq_true', Bool.not_eq_false'] at e3
        refine c_true rfl ?_
        refine c_seq ?_
        refine c_region _ rfl ?_
        refine l_q rfl (q_fieldAddr rfl Try.underlying30 rfl Try.sizeOf25 rfl rfl) rfl rfl ?_
        refine l_q rfl (q_fieldAddr rfl Try.underlying25 rfl Try.sizeOf3 rfl rfl) rfl rfl ?_
        refine l_q rfl (q_loadC rfl Try.isAgg3 rfl (fun _ h => h.at 0 rfl) rfl) rfl rfl ?_
        refine l_q rfl (q_add64 rfl rfl rfl (by omega)) rfl rfl ?_
        refine l_q rfl (q_assign rfl rfl) rfl rfl ?_
        refine l_nil ?_
        refine k_then ?_
        refine c_ret ?_
        refine k_block_ret ?_
        refine k_then_ret ?_
        refine r_one rfl rfl ?_
        exact fun _ h => ⟨(), congrArg (fun z => Ending.returned (Value.int .i64 z)) (by unfold mby; rw [if_pos hm]; split <;> (try split) <;> omega), trivial, h.nothing⟩
      · try simp only [decide_eq_true_eq, decide_eq_false_iff_not, Bool.not_eq_true', Bool.not_eq_false'] at e3
        refine c_false rfl ?_
        refine c_skip ?_
        refine k_block ?_
        refine k_then ?_
        refine c_seq ?_
        refine c_region _ rfl ?_
        refine l_q rfl (q_fieldAddr rfl Try.underlying30 rfl Try.sizeOf25 rfl rfl) rfl rfl ?_
        refine l_q rfl (q_fieldAddr rfl Try.underlying25 rfl Try.sizeOf3 rfl rfl) rfl rfl ?_
        refine l_q rfl (q_loadC rfl Try.isAgg3 rfl (fun _ h => h.at 0 rfl) rfl) rfl rfl ?_
        refine l_q rfl (q_add64 rfl rfl rfl (by omega)) rfl rfl ?_
        refine l_q rfl (q_assign rfl rfl) rfl rfl ?_
        refine l_nil ?_
        refine k_then ?_
        refine c_ret ?_
        refine r_one rfl rfl ?_
        exact fun _ h => ⟨(), congrArg (fun z => Ending.returned (Value.int .i64 z)) (by unfold mby; rw [if_pos hm]; split <;> (try split) <;> omega), trivial, h.nothing⟩
set_option maxRecDepth 100000 in
set_option maxHeartbeats 1000000 in
theorem mcompose_spec (a b : Ms) : Con Try.prog 17 [.agg a.c.toArray, .agg b.c.toArray] (fun _ => True) [] (fun _ : Unit => .agg (mco a b).c.toArray) (fun _ => True) (fun _ => []) := by
  intro w hE hH
  refine enter (n := 41) (vs := [.agg a.c.toArray, .agg b.c.toArray]) (St w [] []) Try.func17 rfl rfl rfl (St.init hH) ?_
  refine c_seq ?_
  refine c_region _ rfl ?_
  refine l_e rfl ?_
  refine e_box rfl rfl rfl rfl ?_
  intro ba
  refine cells_eq (show _ = a.c from rfl) ?_
  refine l_e rfl ?_
  refine e_box rfl rfl rfl rfl ?_
  intro bb
  refine cells_eq (show _ = b.c from rfl) ?_
  refine l_e rfl ?_
  refine e_alloc rfl rfl rfl Try.zeroValue30 ?_
  intro br
  refine cells_eq (show _ = ms0.c from rfl) ?_
  refine l_nil ?_
  refine k_then ?_
  refine c_seq ?_
  refine c_seq ?_
  refine c_region _ rfl ?_
  refine l_q rfl (q_fieldAddr rfl Try.underlying30 rfl Try.sizeOf3 rfl rfl) rfl rfl ?_
  refine l_q rfl (q_loadC rfl Try.isAgg3 rfl (fun _ h => h.at 1 rfl) rfl) rfl rfl ?_
  refine l_q rfl (q_neq rfl rfl rfl) rfl rfl ?_
  refine l_q rfl (q_move rfl rfl) rfl rfl ?_
  refine Pre.caseB 8 rfl (fun h1 => ?_) (fun h1 => ?_)
  · try simp only [decide_eq_true_eq, decide_eq_false_iff_not, Bool.not_eq_true', Bool.not_eq_false'] at h1
    refine l_not rfl rfl rfl ?_
    refine l_not rfl rfl rfl ?_
    refine l_not rfl rfl rfl ?_
    refine l_not rfl rfl rfl ?_
    refine l_not rfl rfl rfl ?_
    refine l_q rfl (q_pick_t rfl rfl rfl) rfl rfl ?_
    refine l_nil ?_
    refine k_then ?_
    refine c_true rfl ?_
    refine c_seq ?_
    refine c_region _ rfl ?_
    refine l_q rfl (q_loadCAgg (b.c) rfl Try.isAgg30 Try.sizeOf30 rfl (fun _ h => h.at 1 rfl) (ms_whole _) (Ms.c_len _)) rfl rfl ?_
    refine l_e rfl ?_
    refine e_storeAgg rfl rfl Try.sizeOf30 rfl rfl (Ms.c_len _) (Ms.one _) (by simp only [Kv.c_len, Ms.c_len]; decide) ?_
    refine cells_eq (show _ = b.c from Sep.splice_all (by simp only [Kv.c_len, Ms.c_len])) ?_
    refine l_nil ?_
    refine k_then ?_
    refine c_ret ?_
    refine k_then_ret ?_
    refine r_res1 rfl (res_cellA rfl Try.isAgg30 Try.sizeOf30 (fun _ h => h.at 0 rfl) (Ms.c_len _)) ?_
    exact fun _ h => ⟨(), congrArg (fun z => Ending.returned (Value.agg (Ms.c z).toArray)) (show b = mco a b from by
      unfold mco
      simp_all [Ms.setKind, Ms.setVal, Ms.setBy, Ms.setKey]), trivial, h.nothing⟩
  · try simp only [decide_eq_true_eq, decide_eq_false_iff_not, Bool.not_eq_true', Bool.not_eq_false'] at h1
    refine l_q rfl (q_fieldAddr rfl Try.underlying30 rfl Try.sizeOf25 rfl rfl) rfl rfl ?_
    refine l_q rfl (q_loadCAgg (a.key.c) rfl Try.isAgg25 Try.sizeOf25 rfl (fun _ h => h.at 2 rfl) (Ms.key_part _) (Kv.c_len _)) rfl rfl ?_
    refine l_q rfl (q_fieldAddr rfl Try.underlying30 rfl Try.sizeOf25 rfl rfl) rfl rfl ?_
    refine l_q rfl (q_loadCAgg (b.key.c) rfl Try.isAgg25 Try.sizeOf25 rfl (fun _ h => h.at 1 rfl) (Ms.key_part _) (Kv.c_len _)) rfl rfl ?_
    refine l_q rfl (q_neK (a.key) (b.key) rfl rfl rfl) rfl rfl ?_
    refine l_q rfl (q_pick_f rfl rfl rfl) rfl rfl ?_
    refine l_nil ?_
    refine k_then ?_
    refine Pre.caseB 14 rfl (fun h2 => ?_) (fun h2 => ?_)
    · try simp only [decide_eq_true_eq, decide_eq_false_iff_not, Bool.not_eq_true', Bool.not_eq_false'] at h2
      refine c_true rfl ?_
      refine c_seq ?_
      refine c_region _ rfl ?_
      refine l_q rfl (q_loadCAgg (b.c) rfl Try.isAgg30 Try.sizeOf30 rfl (fun _ h => h.at 1 rfl) (ms_whole _) (Ms.c_len _)) rfl rfl ?_
      refine l_e rfl ?_
      refine e_storeAgg rfl rfl Try.sizeOf30 rfl rfl (Ms.c_len _) (Ms.one _) (by simp only [Kv.c_len, Ms.c_len]; decide) ?_
      refine cells_eq (show _ = b.c from Sep.splice_all (by simp only [Kv.c_len, Ms.c_len])) ?_
      refine l_nil ?_
      refine k_then ?_
      refine c_ret ?_
      refine k_then_ret ?_
      refine r_res1 rfl (res_cellA rfl Try.isAgg30 Try.sizeOf30 (fun _ h => h.at 0 rfl) (Ms.c_len _)) ?_
      exact fun _ h => ⟨(), congrArg (fun z => Ending.returned (Value.agg (Ms.c z).toArray)) (show b = mco a b from by
        unfold mco
        simp_all [Ms.setKind, Ms.setVal, Ms.setBy, Ms.setKey]), trivial, h.nothing⟩
    · try simp only [decide_eq_true_eq, decide_eq_false_iff_not, Bool.not_eq_true', Bool.not_eq_false'] at h2
      refine c_false rfl ?_
      refine c_skip ?_
      refine k_then ?_
      refine c_seq ?_
      refine c_seq ?_
      refine c_region _ rfl ?_
      refine l_q rfl (q_fieldAddr rfl Try.underlying30 rfl Try.sizeOf3 rfl rfl) rfl rfl ?_
      refine l_q rfl (q_loadC rfl Try.isAgg3 rfl (fun _ h => h.at 2 rfl) rfl) rfl rfl ?_
      refine l_nil ?_
      refine k_then ?_
      refine c_block ?_
      refine c_seq ?_
      refine c_block ?_
      refine c_seq ?_
      refine c_block ?_
      refine c_seq ?_
      refine c_block ?_
      refine c_seq ?_
      refine c_seq ?_
      refine c_seq ?_
      refine c_region _ rfl ?_
      refine l_q rfl (q_eql rfl rfl rfl) rfl rfl ?_
      refine l_q rfl (q_assign rfl rfl) rfl rfl ?_
      refine l_nil ?_
      refine k_then ?_
      refine Pre.caseB 18 rfl (fun h3 => ?_) (fun h3 => ?_)
      · try simp only [decide_eq_true_eq, decide_eq_false_iff_not, Bool.not_eq_true', Bool.not_eq_false'] at h3
        refine c_true rfl ?_
        refine c_exit ?_
        refine k_then_exit ?_
        refine k_then_exit ?_
        refine k_block_exit ?_
        refine k_then ?_
        refine c_region _ rfl ?_
        refine l_q rfl (q_build ((kv0 16).c) rfl rfl (fun w => by kernel_rfl)) rfl rfl ?_
        refine l_q rfl (q_fieldAddr rfl Try.underlying30 rfl Try.sizeOf28 rfl rfl) rfl rfl ?_
        refine pull2 ?_
        refine l_e rfl ?_
        refine e_storeAgg rfl rfl Try.sizeOf28 rfl rfl (Kv.c_len _) (Kv.one _) (by rw [Kv.c_len, Ms.c_len]; decide) ?_
        refine cells_eq (Ms.set_val _ _) ?_
        refine l_nil ?_
        refine k_block ?_
        refine k_then ?_
        refine c_seq ?_
        refine c_region _ rfl ?_
        refine l_q rfl (q_fieldAddr rfl Try.underlying30 rfl Try.sizeOf28 rfl rfl) rfl rfl ?_
        refine l_q rfl (q_loadCAgg ((a.setVal (kv0 16)).val.c) rfl Try.isAgg28 Try.sizeOf28 rfl (fun _ h => h.at 0 rfl) (Ms.val_part _) (Kv.c_len _)) rfl rfl ?_
        refine l_q rfl (q_fieldAddr rfl Try.underlying30 rfl Try.sizeOf22 rfl rfl) rfl rfl ?_
        refine l_q rfl (q_loadC rfl Try.isAgg22 rfl (fun _ h => h.at 2 rfl) (Ms.by_part _)) rfl rfl ?_
        refine l_e rfl ?_
        refine e_call_00 (plus_con (a.setVal (kv0 16)).val _) rfl rfl rfl Try.call26 rfl (fun _ _ => trivial) ?_
        intro _ _
        refine l_q rfl (q_fieldAddr rfl Try.underlying30 rfl Try.sizeOf3 rfl rfl) rfl rfl ?_
        refine pull2 ?_
        refine l_e rfl ?_
        refine e_store rfl rfl Try.sizeOf3 rfl rfl rfl (by rw [Ms.c_len]; decide) ?_
        refine cells_eq (Ms.set_kind _ _ (by decide)) ?_
        refine l_q rfl (q_fieldAddr rfl Try.underlying30 rfl Try.sizeOf28 rfl rfl) rfl rfl ?_
        refine l_e rfl ?_
        refine e_storeAgg rfl rfl Try.sizeOf28 rfl rfl (Kv.c_len _) (Kv.one _) (by rw [Kv.c_len, Ms.c_len]; decide) ?_
        refine cells_eq (Ms.set_val _ _) ?_
        refine l_q rfl (q_fieldAddr rfl Try.underlying30 rfl Try.sizeOf22 rfl rfl) rfl rfl ?_
        refine l_e rfl ?_
        refine e_store rfl rfl Try.sizeOf22 rfl rfl rfl (by rw [Ms.c_len]; decide) ?_
        refine cells_eq (Ms.set_by _ _ (by decide)) ?_
        refine l_nil ?_
        refine k_then ?_
        refine c_exit ?_
        refine k_block_other rfl ?_
        refine k_then_exit ?_
        refine k_block_exit ?_
        refine k_then ?_
        refine c_seq ?_
        refine c_region _ rfl ?_
        refine l_q rfl (q_loadCAgg ((((b.setKind 1 (by decide)).setVal (vplus (a.setVal (kv0 16)).val b.by')).setBy (0) (by decide)).c) rfl Try.isAgg30 Try.sizeOf30 rfl (fun _ h => h.at 0 rfl) (ms_whole _) (Ms.c_len _)) rfl rfl ?_
        refine pull2 ?_
        refine l_e rfl ?_
        refine e_storeAgg rfl rfl Try.sizeOf30 rfl rfl (Ms.c_len _) (Ms.one _) (by simp only [Kv.c_len, Ms.c_len]; decide) ?_
        refine cells_eq (show _ = (((b.setKind 1 (by decide)).setVal (vplus (a.setVal (kv0 16)).val b.by')).setBy (0) (by decide)).c from Sep.splice_all (by simp only [Kv.c_len, Ms.c_len])) ?_
        refine l_nil ?_
        refine k_then ?_
        refine c_ret ?_
        refine r_res1 rfl (res_cellA rfl Try.isAgg30 Try.sizeOf30 (fun _ h => h.at 0 rfl) (Ms.c_len _)) ?_
        exact fun _ h => ⟨(), congrArg (fun z => Ending.returned (Value.agg (Ms.c z).toArray)) (show (((b.setKind 1 (by decide)).setVal (vplus (a.setVal (kv0 16)).val b.by')).setBy (0) (by decide)) = mco a b from by
          unfold mco
          simp_all [Ms.setKind, Ms.setVal, Ms.setBy, Ms.setKey]), trivial, h.nothing⟩
      · try simp only [decide_eq_true_eq, decide_eq_false_iff_not, Bool.not_eq_true', Bool.not_eq_false'] at h3
        refine c_false rfl ?_
        refine c_skip ?_
        refine k_then ?_
        refine c_seq ?_
        refine c_seq ?_
        refine c_region _ rfl ?_
        refine l_q rfl (q_eql rfl rfl rfl) rfl rfl ?_
        refine l_q rfl (q_assign rfl rfl) rfl rfl ?_
        refine l_nil ?_
        refine k_then ?_
        refine Pre.caseB 20 rfl (fun h4 => ?_) (fun h4 => ?_)
        · try simp only [decide_eq_true_eq, decide_eq_false_iff_not, Bool.not_eq_true', Bool.not_eq_false'] at h4
          refine c_true rfl ?_
          refine c_exit ?_
          refine k_then_exit ?_
          refine k_then_exit ?_
          refine k_block_other rfl ?_
          refine k_then_exit ?_
          refine k_block_exit ?_
          refine k_then ?_
          refine c_seq ?_
          refine c_region _ rfl ?_
          refine l_q rfl (q_fieldAddr rfl Try.underlying30 rfl Try.sizeOf28 rfl rfl) rfl rfl ?_
          refine l_q rfl (q_loadCAgg (a.val.c) rfl Try.isAgg28 Try.sizeOf28 rfl (fun _ h => h.at 2 rfl) (Ms.val_part _) (Kv.c_len _)) rfl rfl ?_
          refine l_q rfl (q_fieldAddr rfl Try.underlying30 rfl Try.sizeOf22 rfl rfl) rfl rfl ?_
          refine l_q rfl (q_loadC rfl Try.isAgg22 rfl (fun _ h => h.at 1 rfl) (Ms.by_part _)) rfl rfl ?_
          refine l_e rfl ?_
          refine e_call_00 (plus_con a.val _) rfl rfl rfl Try.call26 rfl (fun _ _ => trivial) ?_
          intro _ _
          refine l_q rfl (q_fieldAddr rfl Try.underlying30 rfl Try.sizeOf3 rfl rfl) rfl rfl ?_
          refine pull1 ?_
          refine l_e rfl ?_
          refine e_store rfl rfl Try.sizeOf3 rfl rfl rfl (by rw [Ms.c_len]; decide) ?_
          refine cells_eq (Ms.set_kind _ _ (by decide)) ?_
          refine l_q rfl (q_fieldAddr rfl Try.underlying30 rfl Try.sizeOf28 rfl rfl) rfl rfl ?_
          refine l_e rfl ?_
          refine e_storeAgg rfl rfl Try.sizeOf28 rfl rfl (Kv.c_len _) (Kv.one _) (by rw [Kv.c_len, Ms.c_len]; decide) ?_
          refine cells_eq (Ms.set_val _ _) ?_
          refine l_q rfl (q_fieldAddr rfl Try.underlying30 rfl Try.sizeOf22 rfl rfl) rfl rfl ?_
          refine l_e rfl ?_
          refine e_store rfl rfl Try.sizeOf22 rfl rfl rfl (by rw [Ms.c_len]; decide) ?_
          refine cells_eq (Ms.set_by _ _ (by decide)) ?_
          refine l_nil ?_
          refine k_then ?_
          refine c_exit ?_
          refine k_block_other rfl ?_
          refine k_then_exit ?_
          refine k_block_exit ?_
          refine k_then ?_
          refine c_seq ?_
          refine c_region _ rfl ?_
          refine l_q rfl (q_loadCAgg ((((b.setKind 1 (by decide)).setVal (vplus a.val b.by')).setBy (0) (by decide)).c) rfl Try.isAgg30 Try.sizeOf30 rfl (fun _ h => h.at 0 rfl) (ms_whole _) (Ms.c_len _)) rfl rfl ?_
          refine pull1 ?_
          refine l_e rfl ?_
          refine e_storeAgg rfl rfl Try.sizeOf30 rfl rfl (Ms.c_len _) (Ms.one _) (by simp only [Kv.c_len, Ms.c_len]; decide) ?_
          refine cells_eq (show _ = (((b.setKind 1 (by decide)).setVal (vplus a.val b.by')).setBy (0) (by decide)).c from Sep.splice_all (by simp only [Kv.c_len, Ms.c_len])) ?_
          refine l_nil ?_
          refine k_then ?_
          refine c_ret ?_
          refine r_res1 rfl (res_cellA rfl Try.isAgg30 Try.sizeOf30 (fun _ h => h.at 0 rfl) (Ms.c_len _)) ?_
          exact fun _ h => ⟨(), congrArg (fun z => Ending.returned (Value.agg (Ms.c z).toArray)) (show (((b.setKind 1 (by decide)).setVal (vplus a.val b.by')).setBy (0) (by decide)) = mco a b from by
            unfold mco
            simp_all [Ms.setKind, Ms.setVal, Ms.setBy, Ms.setKey]), trivial, h.nothing⟩
        · try simp only [decide_eq_true_eq, decide_eq_false_iff_not, Bool.not_eq_true', Bool.not_eq_false'] at h4
          refine c_false rfl ?_
          refine c_skip ?_
          refine k_then ?_
          refine c_seq ?_
          refine c_region _ rfl ?_
          refine l_q rfl (q_eql rfl rfl rfl) rfl rfl ?_
          refine l_q rfl (q_assign rfl rfl) rfl rfl ?_
          refine l_nil ?_
          refine k_then ?_
          refine Pre.caseB 22 rfl (fun h5 => ?_) (fun h5 => ?_)
          · try simp only [decide_eq_true_eq, decide_eq_false_iff_not, Bool.not_eq_true', Bool.not_eq_false'] at h5
            refine c_true rfl ?_
            refine c_exit ?_
            refine k_then_exit ?_
            refine k_block_other rfl ?_
            refine k_then_exit ?_
            refine k_block_other rfl ?_
            refine k_then_exit ?_
            refine k_block_exit ?_
            refine k_then ?_
            refine c_seq ?_
            refine c_region _ rfl ?_
            refine l_q rfl (q_fieldAddr rfl Try.underlying30 rfl Try.sizeOf22 rfl rfl) rfl rfl ?_
            refine l_q rfl (q_loadC rfl Try.isAgg22 rfl (fun _ h => h.at 1 rfl) (Ms.by_part _)) rfl rfl ?_
            refine l_q rfl (q_fieldAddr rfl Try.underlying30 rfl Try.sizeOf22 rfl rfl) rfl rfl ?_
            refine l_q rfl (q_loadC rfl Try.isAgg22 rfl (fun _ h => h.at 2 rfl) (Ms.by_part _)) rfl rfl ?_
            refine l_q rfl (q_add rfl rfl rfl) rfl rfl ?_
            refine l_q rfl (q_fieldAddr rfl Try.underlying30 rfl Try.sizeOf22 rfl rfl) rfl rfl ?_
            refine pull1 ?_
            refine l_e rfl ?_
            refine e_store rfl rfl Try.sizeOf22 rfl rfl rfl (by rw [Ms.c_len]; decide) ?_
            refine cells_eq (Ms.set_by _ _ (wf_wrap _)) ?_
            refine l_nil ?_
            refine k_then ?_
            refine c_exit ?_
            refine k_block_exit ?_
            refine k_then ?_
            refine c_seq ?_
            refine c_region _ rfl ?_
            refine l_q rfl (q_loadCAgg ((b.setBy (IntKind.u64.wrap (b.by' + a.by')) (wf_wrap _)).c) rfl Try.isAgg30 Try.sizeOf30 rfl (fun _ h => h.at 0 rfl) (ms_whole _) (Ms.c_len _)) rfl rfl ?_
            refine pull1 ?_
            refine l_e rfl ?_
            refine e_storeAgg rfl rfl Try.sizeOf30 rfl rfl (Ms.c_len _) (Ms.one _) (by simp only [Kv.c_len, Ms.c_len]; decide) ?_
            refine cells_eq (show _ = (b.setBy (IntKind.u64.wrap (b.by' + a.by')) (wf_wrap _)).c from Sep.splice_all (by simp only [Kv.c_len, Ms.c_len])) ?_
            refine l_nil ?_
            refine k_then ?_
            refine c_ret ?_
            refine r_res1 rfl (res_cellA rfl Try.isAgg30 Try.sizeOf30 (fun _ h => h.at 0 rfl) (Ms.c_len _)) ?_
            exact fun _ h => ⟨(), congrArg (fun z => Ending.returned (Value.agg (Ms.c z).toArray)) (show (b.setBy (IntKind.u64.wrap (b.by' + a.by')) (wf_wrap _)) = mco a b from by
              unfold mco
              simp_all [Ms.setKind, Ms.setVal, Ms.setBy, Ms.setKey]), trivial, h.nothing⟩
          · try simp only [decide_eq_true_eq, decide_eq_false_iff_not, Bool.not_eq_true', Bool.not_eq_false'] at h5
            refine c_false rfl ?_
            refine c_skip ?_
            refine k_then ?_
            refine c_exit ?_
            refine k_block_other rfl ?_
            refine k_then_exit ?_
            refine k_block_other rfl ?_
            refine k_then_exit ?_
            refine k_block_other rfl ?_
            refine k_then_exit ?_
            refine k_block_exit ?_
            refine k_then ?_
            refine c_seq ?_
            refine c_region _ rfl ?_
            refine l_q rfl (q_loadCAgg (b.c) rfl Try.isAgg30 Try.sizeOf30 rfl (fun _ h => h.at 1 rfl) (ms_whole _) (Ms.c_len _)) rfl rfl ?_
            refine l_e rfl ?_
            refine e_storeAgg rfl rfl Try.sizeOf30 rfl rfl (Ms.c_len _) (Ms.one _) (by simp only [Kv.c_len, Ms.c_len]; decide) ?_
            refine cells_eq (show _ = b.c from Sep.splice_all (by simp only [Kv.c_len, Ms.c_len])) ?_
            refine l_nil ?_
            refine k_then ?_
            refine c_ret ?_
            refine r_res1 rfl (res_cellA rfl Try.isAgg30 Try.sizeOf30 (fun _ h => h.at 0 rfl) (Ms.c_len _)) ?_
            exact fun _ h => ⟨(), congrArg (fun z => Ending.returned (Value.agg (Ms.c z).toArray)) (show b = mco a b from by
              unfold mco
              simp_all [Ms.setKind, Ms.setVal, Ms.setBy, Ms.setKey]), trivial, h.nothing⟩
set_option maxRecDepth 100000 in
set_option maxHeartbeats 1000000 in
theorem mapply_spec (v : Kv 16) (t : Bool) (m : Ms) : Con Try.prog 15 [.agg v.c.toArray, .bool t, .agg m.c.toArray] (fun _ => True) [] (fun _ : Unit => .tuple #[.agg (map' v t m).1.c.toArray, .bool (map' v t m).2]) (fun _ => True) (fun _ => []) := by
  intro w hE hH
  refine enter (n := 24) (vs := [.agg v.c.toArray, .bool t, .agg m.c.toArray]) (St w [] []) Try.func15 rfl rfl rfl (St.init hH) ?_
  refine c_seq ?_
  refine c_region _ rfl ?_
  refine l_e rfl ?_
  refine e_box rfl rfl rfl rfl ?_
  intro bv
  refine cells_eq (show _ = v.c from rfl) ?_
  refine l_e rfl ?_
  refine e_box rfl rfl rfl rfl ?_
  intro bm
  refine cells_eq (show _ = m.c from rfl) ?_
  refine l_e rfl ?_
  refine e_alloc rfl rfl rfl Try.zeroValue28 ?_
  intro br
  refine cells_eq (show _ = (kv0 16).c from rfl) ?_
  refine l_q rfl (q_assign rfl rfl) rfl rfl ?_
  refine l_nil ?_
  refine k_then ?_
  refine c_seq ?_
  refine c_seq ?_
  refine c_region _ rfl ?_
  refine l_q rfl (q_fieldAddr rfl Try.underlying30 rfl Try.sizeOf3 rfl rfl) rfl rfl ?_
  refine l_q rfl (q_loadC rfl Try.isAgg3 rfl (fun _ h => h.at 1 rfl) rfl) rfl rfl ?_
  refine l_nil ?_
  refine k_then ?_
  refine c_block ?_
  refine c_seq ?_
  refine c_region _ rfl ?_
  refine l_q rfl (q_eql rfl rfl rfl) rfl rfl ?_
  refine l_q rfl (q_assign rfl rfl) rfl rfl ?_
  refine l_nil ?_
  refine k_then ?_
  refine Pre.caseB 10 rfl (fun h1 => ?_) (fun h1 => ?_)
  · try simp only [decide_eq_true_eq, decide_eq_false_iff_not, Bool.not_eq_true', Bool.not_eq_false'] at h1
    refine c_true rfl ?_
    refine c_seq ?_
    refine c_region _ rfl ?_
    refine l_q rfl (q_fieldAddr rfl Try.underlying30 rfl Try.sizeOf28 rfl rfl) rfl rfl ?_
    refine l_q rfl (q_loadCAgg (m.val.c) rfl Try.isAgg28 Try.sizeOf28 rfl (fun _ h => h.at 1 rfl) (Ms.val_part _) (Kv.c_len _)) rfl rfl ?_
    refine l_e rfl ?_
    refine e_storeAgg rfl rfl Try.sizeOf28 rfl rfl (Kv.c_len _) (Kv.one _) (by simp only [Kv.c_len, Ms.c_len]; decide) ?_
    refine cells_eq (show _ = m.val.c from Sep.splice_all (by simp only [Kv.c_len, Ms.c_len])) ?_
    refine l_q rfl (q_assign rfl rfl) rfl rfl ?_
    refine l_nil ?_
    refine k_then ?_
    refine c_ret ?_
    refine k_block_ret ?_
    refine k_then_ret ?_
    refine r_res2 rfl (res_cellA rfl Try.isAgg28 Try.sizeOf28 (fun _ h => h.at 0 rfl) (Kv.c_len _)) (show Sep.look _ _ = some _ from rfl) ?_
    exact fun _ h => ⟨(), congrArg (fun z : Kv 16 × Bool => Ending.returned (Value.tuple #[.agg (Kv.c z.1).toArray, .bool z.2])) (show (m.val, true) = map' v t m from by
      unfold map'
      simp_all), trivial, h.nothing⟩
  · try simp only [decide_eq_true_eq, decide_eq_false_iff_not, Bool.not_eq_true', Bool.not_eq_false'] at h1
    refine c_false rfl ?_
    refine c_seq ?_
    refine c_region _ rfl ?_
    refine l_q rfl (q_eql rfl rfl rfl) rfl rfl ?_
    refine l_q rfl (q_assign rfl rfl) rfl rfl ?_
    refine l_nil ?_
    refine k_then ?_
    refine Pre.caseB 14 rfl (fun h2 => ?_) (fun h2 => ?_)
    · try simp only [decide_eq_true_eq, decide_eq_false_iff_not, Bool.not_eq_true', Bool.not_eq_false'] at h2
      refine c_true rfl ?_
      refine c_seq ?_
      refine c_seq ?_
      refine c_region _ rfl ?_
      refine l_q rfl (q_move rfl rfl) rfl rfl ?_
      refine l_q rfl (q_not rfl rfl) rfl rfl ?_
      refine l_nil ?_
      refine k_then ?_
      refine Pre.caseB 17 rfl (fun h3 => ?_) (fun h3 => ?_)
      · try simp only [Bool.not_eq_true', Bool.not_eq_false'] at h3
        refine c_true rfl ?_
        refine c_region _ rfl ?_
        refine l_q rfl (q_build ((kv0 16).c) rfl rfl (fun w => by kernel_rfl)) rfl rfl ?_
        refine pull2 ?_
        refine l_e rfl ?_
        refine e_storeAgg rfl rfl Try.sizeOf28 rfl rfl (Kv.c_len _) (Kv.one _) (by simp only [Kv.c_len, Ms.c_len]; decide) ?_
        refine cells_eq (show _ = (kv0 16).c from Sep.splice_all (by simp only [Kv.c_len, Ms.c_len])) ?_
        refine l_nil ?_
        refine k_then ?_
        refine c_seq ?_
        refine c_region _ rfl ?_
        refine l_q rfl (q_loadCAgg ((kv0 16).c) rfl Try.isAgg28 Try.sizeOf28 rfl (fun _ h => h.at 0 rfl) (kv_whole _) (Kv.c_len _)) rfl rfl ?_
        refine l_q rfl (q_fieldAddr rfl Try.underlying30 rfl Try.sizeOf22 rfl rfl) rfl rfl ?_
        refine l_q rfl (q_loadC rfl Try.isAgg22 rfl (fun _ h => h.at 2 rfl) (Ms.by_part _)) rfl rfl ?_
        refine l_e rfl ?_
        refine e_call_00 (plus_con (kv0 16) _) rfl rfl rfl Try.call26 rfl (fun _ _ => trivial) ?_
        intro _ _
        refine pull1 ?_
        refine l_e rfl ?_
        refine e_storeAgg rfl rfl Try.sizeOf28 rfl rfl (Kv.c_len _) (Kv.one _) (by simp only [Kv.c_len, Ms.c_len]; decide) ?_
        refine cells_eq (show _ = (vplus (kv0 16) m.by').c from Sep.splice_all (by simp only [Kv.c_len, Ms.c_len])) ?_
        refine l_q rfl (q_assign rfl rfl) rfl rfl ?_
        refine l_nil ?_
        refine k_then ?_
        refine c_ret ?_
        refine k_block_ret ?_
        refine k_then_ret ?_
        refine r_res2 rfl (res_cellA rfl Try.isAgg28 Try.sizeOf28 (fun _ h => h.at 0 rfl) (Kv.c_len _)) (show Sep.look _ _ = some _ from rfl) ?_
        exact fun _ h => ⟨(), congrArg (fun z : Kv 16 × Bool => Ending.returned (Value.tuple #[.agg (Kv.c z.1).toArray, .bool z.2])) (show ((vplus (kv0 16) m.by'), true) = map' v t m from by
          unfold map'
          simp_all), trivial, h.nothing⟩
      · try simp only [Bool.not_eq_true', Bool.not_eq_false'] at h3
        refine c_false rfl ?_
        refine c_skip ?_
        refine k_then ?_
        refine c_seq ?_
        refine c_region _ rfl ?_
        refine l_q rfl (q_loadCAgg (v.c) rfl Try.isAgg28 Try.sizeOf28 rfl (fun _ h => h.at 2 rfl) (kv_whole _) (Kv.c_len _)) rfl rfl ?_
        refine l_q rfl (q_fieldAddr rfl Try.underlying30 rfl Try.sizeOf22 rfl rfl) rfl rfl ?_
        refine l_q rfl (q_loadC rfl Try.isAgg22 rfl (fun _ h => h.at 1 rfl) (Ms.by_part _)) rfl rfl ?_
        refine l_e rfl ?_
        refine e_call_00 (plus_con v _) rfl rfl rfl Try.call26 rfl (fun _ _ => trivial) ?_
        intro _ _
        refine l_e rfl ?_
        refine e_storeAgg rfl rfl Try.sizeOf28 rfl rfl (Kv.c_len _) (Kv.one _) (by simp only [Kv.c_len, Ms.c_len]; decide) ?_
        refine cells_eq (show _ = (vplus v m.by').c from Sep.splice_all (by simp only [Kv.c_len, Ms.c_len])) ?_
        refine l_q rfl (q_assign rfl rfl) rfl rfl ?_
        refine l_nil ?_
        refine k_then ?_
        refine c_ret ?_
        refine k_block_ret ?_
        refine k_then_ret ?_
        refine r_res2 rfl (res_cellA rfl Try.isAgg28 Try.sizeOf28 (fun _ h => h.at 0 rfl) (Kv.c_len _)) (show Sep.look _ _ = some _ from rfl) ?_
        exact fun _ h => ⟨(), congrArg (fun z : Kv 16 × Bool => Ending.returned (Value.tuple #[.agg (Kv.c z.1).toArray, .bool z.2])) (show ((vplus v m.by'), true) = map' v t m from by
          unfold map'
          simp_all), trivial, h.nothing⟩
    · try simp only [decide_eq_true_eq, decide_eq_false_iff_not, Bool.not_eq_true', Bool.not_eq_false'] at h2
      refine c_false rfl ?_
      refine c_skip ?_
      refine k_block ?_
      refine k_then ?_
      refine c_seq ?_
      refine c_region _ rfl ?_
      refine l_q rfl (q_build ((kv0 16).c) rfl rfl (fun w => by kernel_rfl)) rfl rfl ?_
      refine l_e rfl ?_
      refine e_storeAgg rfl rfl Try.sizeOf28 rfl rfl (Kv.c_len _) (Kv.one _) (by simp only [Kv.c_len, Ms.c_len]; decide) ?_
      refine cells_eq (show _ = (kv0 16).c from Sep.splice_all (by simp only [Kv.c_len, Ms.c_len])) ?_
      refine l_q rfl (q_assign rfl rfl) rfl rfl ?_
      refine l_nil ?_
      refine k_then ?_
      refine c_ret ?_
      refine r_res2 rfl (res_cellA rfl Try.isAgg28 Try.sizeOf28 (fun _ h => h.at 0 rfl) (Kv.c_len _)) (show Sep.look _ _ = some _ from rfl) ?_
      exact fun _ h => ⟨(), congrArg (fun z : Kv 16 × Bool => Ending.returned (Value.tuple #[.agg (Kv.c z.1).toArray, .bool z.2])) (show ((kv0 16), false) = map' v t m from by
        unfold map'
        simp_all), trivial, h.nothing⟩
set_option maxRecDepth 100000 in
set_option maxHeartbeats 1000000 in
theorem rmapply_spec (v : Kv 16) (t : Bool) (m : Ms) : Con Try.prog 16 [.agg v.c.toArray, .bool t, .agg m.c.toArray] (fun _ => True) [] (fun _ : Unit => .tuple #[.agg (rap v t m).1.c.toArray, .bool (rap v t m).2]) (fun _ => True) (fun _ => []) := by
  intro w hE hH
  refine enter (n := 26) (vs := [.agg v.c.toArray, .bool t, .agg m.c.toArray]) (St w [] []) Try.func16 rfl rfl rfl (St.init hH) ?_
  refine c_seq ?_
  refine c_region _ rfl ?_
  refine l_e rfl ?_
  refine e_box rfl rfl rfl rfl ?_
  intro bv
  refine cells_eq (show _ = v.c from rfl) ?_
  refine l_e rfl ?_
  refine e_box rfl rfl rfl rfl ?_
  intro bm
  refine cells_eq (show _ = m.c from rfl) ?_
  refine l_e rfl ?_
  refine e_alloc rfl rfl rfl Try.zeroValue28 ?_
  intro br
  refine cells_eq (show _ = (kv0 16).c from rfl) ?_
  refine l_q rfl (q_assign rfl rfl) rfl rfl ?_
  refine l_nil ?_
  refine k_then ?_
  refine c_seq ?_
  refine c_seq ?_
  refine c_region _ rfl ?_
  refine l_q rfl (q_fieldAddr rfl Try.underlying30 rfl Try.sizeOf3 rfl rfl) rfl rfl ?_
  refine l_q rfl (q_loadC rfl Try.isAgg3 rfl (fun _ h => h.at 1 rfl) rfl) rfl rfl ?_
  refine l_nil ?_
  refine k_then ?_
  refine c_block ?_
  refine c_seq ?_
  refine c_region _ rfl ?_
  refine l_q rfl (q_eql rfl rfl rfl) rfl rfl ?_
  refine l_q rfl (q_assign rfl rfl) rfl rfl ?_
  refine l_nil ?_
  refine k_then ?_
  refine Pre.caseB 10 rfl (fun h1 => ?_) (fun h1 => ?_)
  · try simp only [decide_eq_true_eq, decide_eq_false_iff_not, Bool.not_eq_true', Bool.not_eq_false'] at h1
    refine c_true rfl ?_
    refine c_seq ?_
    refine c_region _ rfl ?_
    refine l_q rfl (q_fieldAddr rfl Try.underlying30 rfl Try.sizeOf28 rfl rfl) rfl rfl ?_
    refine l_q rfl (q_loadCAgg (m.val.c) rfl Try.isAgg28 Try.sizeOf28 rfl (fun _ h => h.at 1 rfl) (Ms.val_part _) (Kv.c_len _)) rfl rfl ?_
    refine l_e rfl ?_
    refine e_storeAgg rfl rfl Try.sizeOf28 rfl rfl (Kv.c_len _) (Kv.one _) (by simp only [Kv.c_len, Ms.c_len]; decide) ?_
    refine cells_eq (show _ = m.val.c from Sep.splice_all (by simp only [Kv.c_len, Ms.c_len])) ?_
    refine l_q rfl (q_assign rfl rfl) rfl rfl ?_
    refine l_nil ?_
    refine k_then ?_
    refine c_ret ?_
    refine k_block_ret ?_
    refine k_then_ret ?_
    refine r_res2 rfl (res_cellA rfl Try.isAgg28 Try.sizeOf28 (fun _ h => h.at 0 rfl) (Kv.c_len _)) (show Sep.look _ _ = some _ from rfl) ?_
    exact fun _ h => ⟨(), congrArg (fun z : Kv 16 × Bool => Ending.returned (Value.tuple #[.agg (Kv.c z.1).toArray, .bool z.2])) (show (m.val, true) = rap v t m from by
      unfold rap
      simp_all), trivial, h.nothing⟩
  · try simp only [decide_eq_true_eq, decide_eq_false_iff_not, Bool.not_eq_true', Bool.not_eq_false'] at h1
    refine c_false rfl ?_
    refine c_seq ?_
    refine c_region _ rfl ?_
    refine l_q rfl (q_eql rfl rfl rfl) rfl rfl ?_
    refine l_q rfl (q_assign rfl rfl) rfl rfl ?_
    refine l_nil ?_
    refine k_then ?_
    refine Pre.caseB 14 rfl (fun h2 => ?_) (fun h2 => ?_)
    · try simp only [decide_eq_true_eq, decide_eq_false_iff_not, Bool.not_eq_true', Bool.not_eq_false'] at h2
      refine c_true rfl ?_
      refine c_seq ?_
      refine c_region _ rfl ?_
      refine l_q rfl (q_build ((kv0 16).c) rfl rfl (fun w => by kernel_rfl)) rfl rfl ?_
      refine l_e rfl ?_
      refine e_storeAgg rfl rfl Try.sizeOf28 rfl rfl (Kv.c_len _) (Kv.one _) (by simp only [Kv.c_len, Ms.c_len]; decide) ?_
      refine cells_eq (show _ = (kv0 16).c from Sep.splice_all (by simp only [Kv.c_len, Ms.c_len])) ?_
      refine l_q rfl (q_assign rfl rfl) rfl rfl ?_
      refine l_nil ?_
      refine k_then ?_
      refine c_ret ?_
      refine k_block_ret ?_
      refine k_then_ret ?_
      refine r_res2 rfl (res_cellA rfl Try.isAgg28 Try.sizeOf28 (fun _ h => h.at 0 rfl) (Kv.c_len _)) (show Sep.look _ _ = some _ from rfl) ?_
      exact fun _ h => ⟨(), congrArg (fun z : Kv 16 × Bool => Ending.returned (Value.tuple #[.agg (Kv.c z.1).toArray, .bool z.2])) (show ((kv0 16), false) = rap v t m from by
        unfold rap
        simp_all), trivial, h.nothing⟩
    · try simp only [decide_eq_true_eq, decide_eq_false_iff_not, Bool.not_eq_true', Bool.not_eq_false'] at h2
      refine c_false rfl ?_
      refine c_skip ?_
      refine k_block ?_
      refine k_then ?_
      refine c_seq ?_
      refine c_seq ?_
      refine c_region _ rfl ?_
      refine l_q rfl (q_move rfl rfl) rfl rfl ?_
      refine l_q rfl (q_not rfl rfl) rfl rfl ?_
      refine l_nil ?_
      refine k_then ?_
      refine Pre.caseB 18 rfl (fun h3 => ?_) (fun h3 => ?_)
      · try simp only [Bool.not_eq_true', Bool.not_eq_false'] at h3
        refine c_true rfl ?_
        refine c_seq ?_
        refine c_region _ rfl ?_
        refine l_q rfl (q_fieldAddr rfl Try.underlying30 rfl Try.sizeOf22 rfl rfl) rfl rfl ?_
        refine l_q rfl (q_loadC rfl Try.isAgg22 rfl (fun _ h => h.at 1 rfl) (Ms.by_part _)) rfl rfl ?_
        refine l_e rfl ?_
        refine e_call_00 (rfrom_con _ (u64_bd m.wy).1 (u64_bd m.wy).2) rfl rfl rfl Try.call22 rfl (fun _ _ => trivial) ?_
        intro _ _
        refine l_e rfl ?_
        refine e_storeAgg rfl rfl Try.sizeOf28 rfl rfl (Kv.c_len _) (Kv.one _) (by simp only [Kv.c_len, Ms.c_len]; decide) ?_
        refine cells_eq (show _ = (vfrom m.by').c from Sep.splice_all (by simp only [Kv.c_len, Ms.c_len])) ?_
        refine l_q rfl (q_assign rfl rfl) rfl rfl ?_
        refine l_nil ?_
        refine k_then ?_
        refine c_ret ?_
        refine k_then_ret ?_
        refine r_res2 rfl (res_cellA rfl Try.isAgg28 Try.sizeOf28 (fun _ h => h.at 0 rfl) (Kv.c_len _)) (show Sep.look _ _ = some _ from rfl) ?_
        exact fun _ h => ⟨(), congrArg (fun z : Kv 16 × Bool => Ending.returned (Value.tuple #[.agg (Kv.c z.1).toArray, .bool z.2])) (show ((vfrom m.by'), true) = rap v t m from by
          unfold rap
          simp_all), trivial, h.nothing⟩
      · try simp only [Bool.not_eq_true', Bool.not_eq_false'] at h3
        refine c_false rfl ?_
        refine c_skip ?_
        refine k_then ?_
        refine c_seq ?_
        refine c_region _ rfl ?_
        refine l_q rfl (q_loadCAgg (v.c) rfl Try.isAgg28 Try.sizeOf28 rfl (fun _ h => h.at 2 rfl) (kv_whole _) (Kv.c_len _)) rfl rfl ?_
        refine l_q rfl (q_fieldAddr rfl Try.underlying30 rfl Try.sizeOf22 rfl rfl) rfl rfl ?_
        refine l_q rfl (q_loadC rfl Try.isAgg22 rfl (fun _ h => h.at 1 rfl) (Ms.by_part _)) rfl rfl ?_
        refine l_e rfl ?_
        refine e_call_00 (rplus_con v _) rfl rfl rfl Try.call27 rfl (fun _ _ => trivial) ?_
        intro _ _
        refine l_e rfl ?_
        refine e_storeAgg rfl rfl Try.sizeOf28 rfl rfl (Kv.c_len _) (Kv.one _) (by simp only [Kv.c_len, Ms.c_len]; decide) ?_
        refine cells_eq (show _ = (vplus v m.by').c from Sep.splice_all (by simp only [Kv.c_len, Ms.c_len])) ?_
        refine l_q rfl (q_assign rfl rfl) rfl rfl ?_
        refine l_nil ?_
        refine k_then ?_
        refine c_ret ?_
        refine r_res2 rfl (res_cellA rfl Try.isAgg28 Try.sizeOf28 (fun _ h => h.at 0 rfl) (Kv.c_len _)) (show Sep.look _ _ = some _ from rfl) ?_
        exact fun _ h => ⟨(), congrArg (fun z : Kv 16 × Bool => Ending.returned (Value.tuple #[.agg (Kv.c z.1).toArray, .bool z.2])) (show ((vplus v m.by'), true) = rap v t m from by
          unfold rap
          simp_all), trivial, h.nothing⟩
set_option maxRecDepth 100000 in
set_option maxHeartbeats 1000000 in
theorem rmcompose_spec (a b : Ms) : Con Try.prog 18 [.agg a.c.toArray, .agg b.c.toArray] (fun _ => True) [] (fun _ : Unit => .agg (rco a b).c.toArray) (fun _ => True) (fun _ => []) := by
  intro w hE hH
  refine enter (n := 46) (vs := [.agg a.c.toArray, .agg b.c.toArray]) (St w [] []) Try.func18 rfl rfl rfl (St.init hH) ?_
  refine c_seq ?_
  refine c_region _ rfl ?_
  refine l_e rfl ?_
  refine e_box rfl rfl rfl rfl ?_
  intro ba
  refine cells_eq (show _ = a.c from rfl) ?_
  refine l_e rfl ?_
  refine e_box rfl rfl rfl rfl ?_
  intro bb
  refine cells_eq (show _ = b.c from rfl) ?_
  refine l_e rfl ?_
  refine e_alloc rfl rfl rfl Try.zeroValue30 ?_
  intro br
  refine cells_eq (show _ = ms0.c from rfl) ?_
  refine l_nil ?_
  refine k_then ?_
  refine c_seq ?_
  refine c_seq ?_
  refine c_region _ rfl ?_
  refine l_q rfl (q_fieldAddr rfl Try.underlying30 rfl Try.sizeOf3 rfl rfl) rfl rfl ?_
  refine l_q rfl (q_loadC rfl Try.isAgg3 rfl (fun _ h => h.at 1 rfl) rfl) rfl rfl ?_
  refine l_q rfl (q_neq rfl rfl rfl) rfl rfl ?_
  refine l_q rfl (q_move rfl rfl) rfl rfl ?_
  refine Pre.caseB 9 rfl (fun h1 => ?_) (fun h1 => ?_)
  · try simp only [decide_eq_true_eq, decide_eq_false_iff_not, Bool.not_eq_true', Bool.not_eq_false'] at h1
    refine l_not rfl rfl rfl ?_
    refine l_not rfl rfl rfl ?_
    refine l_not rfl rfl rfl ?_
    refine l_not rfl rfl rfl ?_
    refine l_not rfl rfl rfl ?_
    refine l_q rfl (q_pick_t rfl rfl rfl) rfl rfl ?_
    refine l_nil ?_
    refine k_then ?_
    refine c_true rfl ?_
    refine c_seq ?_
    refine c_region _ rfl ?_
    refine l_q rfl (q_loadCAgg (b.c) rfl Try.isAgg30 Try.sizeOf30 rfl (fun _ h => h.at 1 rfl) (ms_whole _) (Ms.c_len _)) rfl rfl ?_
    refine l_e rfl ?_
    refine e_storeAgg rfl rfl Try.sizeOf30 rfl rfl (Ms.c_len _) (Ms.one _) (by simp only [Kv.c_len, Ms.c_len]; decide) ?_
    refine cells_eq (show _ = b.c from Sep.splice_all (by simp only [Kv.c_len, Ms.c_len])) ?_
    refine l_nil ?_
    refine k_then ?_
    refine c_ret ?_
    refine k_then_ret ?_
    refine r_res1 rfl (res_cellA rfl Try.isAgg30 Try.sizeOf30 (fun _ h => h.at 0 rfl) (Ms.c_len _)) ?_
    exact fun _ h => ⟨(), congrArg (fun z => Ending.returned (Value.agg (Ms.c z).toArray)) (show b = rco a b from by
      unfold rco
      simp_all [Ms.setKind, Ms.setVal, Ms.setBy, Ms.setKey, mk3]), trivial, h.nothing⟩
  · try simp only [decide_eq_true_eq, decide_eq_false_iff_not, Bool.not_eq_true', Bool.not_eq_false'] at h1
    refine l_q rfl (q_fieldAddr rfl Try.underlying30 rfl Try.sizeOf25 rfl rfl) rfl rfl ?_
    refine l_q rfl (q_loadCAgg (a.key.c) rfl Try.isAgg25 Try.sizeOf25 rfl (fun _ h => h.at 2 rfl) (Ms.key_part _) (Kv.c_len _)) rfl rfl ?_
    refine l_q rfl (q_fieldAddr rfl Try.underlying30 rfl Try.sizeOf25 rfl rfl) rfl rfl ?_
    refine l_q rfl (q_loadCAgg (b.key.c) rfl Try.isAgg25 Try.sizeOf25 rfl (fun _ h => h.at 1 rfl) (Ms.key_part _) (Kv.c_len _)) rfl rfl ?_
    refine l_q rfl (q_neK (a.key) (b.key) rfl rfl rfl) rfl rfl ?_
    refine l_q rfl (q_pick_f rfl rfl rfl) rfl rfl ?_
    refine l_nil ?_
    refine k_then ?_
    refine Pre.caseB 15 rfl (fun h2 => ?_) (fun h2 => ?_)
    · try simp only [decide_eq_true_eq, decide_eq_false_iff_not, Bool.not_eq_true', Bool.not_eq_false'] at h2
      refine c_true rfl ?_
      refine c_seq ?_
      refine c_region _ rfl ?_
      refine l_q rfl (q_loadCAgg (b.c) rfl Try.isAgg30 Try.sizeOf30 rfl (fun _ h => h.at 1 rfl) (ms_whole _) (Ms.c_len _)) rfl rfl ?_
      refine l_e rfl ?_
      refine e_storeAgg rfl rfl Try.sizeOf30 rfl rfl (Ms.c_len _) (Ms.one _) (by simp only [Kv.c_len, Ms.c_len]; decide) ?_
      refine cells_eq (show _ = b.c from Sep.splice_all (by simp only [Kv.c_len, Ms.c_len])) ?_
      refine l_nil ?_
      refine k_then ?_
      refine c_ret ?_
      refine k_then_ret ?_
      refine r_res1 rfl (res_cellA rfl Try.isAgg30 Try.sizeOf30 (fun _ h => h.at 0 rfl) (Ms.c_len _)) ?_
      exact fun _ h => ⟨(), congrArg (fun z => Ending.returned (Value.agg (Ms.c z).toArray)) (show b = rco a b from by
        unfold rco
        simp_all [Ms.setKind, Ms.setVal, Ms.setBy, Ms.setKey, mk3]), trivial, h.nothing⟩
    · try simp only [decide_eq_true_eq, decide_eq_false_iff_not, Bool.not_eq_true', Bool.not_eq_false'] at h2
      refine c_false rfl ?_
      refine c_skip ?_
      refine k_then ?_
      refine c_seq ?_
      refine c_region _ rfl ?_
      refine l_q rfl (q_fieldAddr rfl Try.underlying30 rfl Try.sizeOf22 rfl rfl) rfl rfl ?_
      refine l_q rfl (q_loadC rfl Try.isAgg22 rfl (fun _ h => h.at 1 rfl) rfl) rfl rfl ?_
      refine l_q rfl (q_fieldAddr rfl Try.underlying30 rfl Try.sizeOf25 rfl rfl) rfl rfl ?_
      refine l_q rfl (q_loadCAgg (b.key.c) rfl Try.isAgg25 Try.sizeOf25 rfl (fun _ h => h.at 1 rfl) (Ms.key_part _) (Kv.c_len _)) rfl rfl ?_
      refine l_q rfl (q_build ((mk3 1 b.seq b.key (by decide) b.ws).c) rfl rfl (fun w => build3 _ _ _ (by decide) b.ws w)) rfl rfl ?_
      refine l_e rfl ?_
      refine e_alloc rfl rfl rfl Try.zeroValue30 ?_
      intro bo
      refine cells_eq (show _ = ms0.c from rfl) ?_
      refine l_e rfl ?_
      refine e_storeAgg rfl rfl Try.sizeOf30 rfl rfl (Ms.c_len _) (Ms.one _) (by simp only [Kv.c_len, Ms.c_len]; decide) ?_
      refine cells_eq (show _ = (mk3 1 b.seq b.key (by decide) b.ws).c from Sep.splice_all (by simp only [Kv.c_len, Ms.c_len])) ?_
      refine l_nil ?_
      refine k_then ?_
      refine c_seq ?_
      refine c_seq ?_
      refine c_region _ rfl ?_
      refine l_q rfl (q_fieldAddr rfl Try.underlying30 rfl Try.sizeOf3 rfl rfl) rfl rfl ?_
      refine l_q rfl (q_loadC rfl Try.isAgg3 rfl (fun _ h => h.at 3 rfl) rfl) rfl rfl ?_
      refine l_nil ?_
      refine k_then ?_
      refine c_block ?_
      refine c_seq ?_
      refine c_region _ rfl ?_
      refine l_q rfl (q_eql rfl rfl rfl) rfl rfl ?_
      refine l_q rfl (q_assign rfl rfl) rfl rfl ?_
      refine l_nil ?_
      refine k_then ?_
      refine Pre.caseB 31 rfl (fun h3 => ?_) (fun h3 => ?_)
      · try simp only [decide_eq_true_eq, decide_eq_false_iff_not, Bool.not_eq_true', Bool.not_eq_false'] at h3
        refine c_true rfl ?_
        refine c_region _ rfl ?_
        refine l_q rfl (q_fieldAddr rfl Try.underlying30 rfl Try.sizeOf28 rfl rfl) rfl rfl ?_
        refine l_q rfl (q_loadCAgg (a.val.c) rfl Try.isAgg28 Try.sizeOf28 rfl (fun _ h => h.at 3 rfl) (Ms.val_part _) (Kv.c_len _)) rfl rfl ?_
        refine l_q rfl (q_fieldAddr rfl Try.underlying30 rfl Try.sizeOf22 rfl rfl) rfl rfl ?_
        refine l_q rfl (q_loadC rfl Try.isAgg22 rfl (fun _ h => h.at 2 rfl) (Ms.by_part _)) rfl rfl ?_
        refine l_e rfl ?_
        refine e_call_00 (rplus_con a.val _) rfl rfl rfl Try.call27 rfl (fun _ _ => trivial) ?_
        intro _ _
        refine l_q rfl (q_fieldAddr rfl Try.underlying30 rfl Try.sizeOf28 rfl rfl) rfl rfl ?_
        refine l_e rfl ?_
        refine e_storeAgg rfl rfl Try.sizeOf28 rfl rfl (Kv.c_len _) (Kv.one _) (by rw [Kv.c_len, Ms.c_len]; decide) ?_
        refine cells_eq (Ms.set_val _ _) ?_
        refine l_nil ?_
        refine k_block ?_
        refine k_then ?_
        refine c_seq ?_
        refine c_region _ rfl ?_
        refine l_q rfl (q_loadCAgg (((mk3 1 b.seq b.key (by decide) b.ws).setVal (vplus a.val b.by')).c) rfl Try.isAgg30 Try.sizeOf30 rfl (fun _ h => h.at 0 rfl) (ms_whole _) (Ms.c_len _)) rfl rfl ?_
        refine pull1 ?_
        refine l_e rfl ?_
        refine e_storeAgg rfl rfl Try.sizeOf30 rfl rfl (Ms.c_len _) (Ms.one _) (by simp only [Kv.c_len, Ms.c_len]; decide) ?_
        refine cells_eq (show _ = ((mk3 1 b.seq b.key (by decide) b.ws).setVal (vplus a.val b.by')).c from Sep.splice_all (by simp only [Kv.c_len, Ms.c_len])) ?_
        refine l_nil ?_
        refine k_then ?_
        refine c_ret ?_
        refine r_res1 rfl (res_cellA rfl Try.isAgg30 Try.sizeOf30 (fun _ h => h.at 0 rfl) (Ms.c_len _)) ?_
        exact fun _ h => ⟨(), congrArg (fun z => Ending.returned (Value.agg (Ms.c z).toArray)) (show ((mk3 1 b.seq b.key (by decide) b.ws).setVal (vplus a.val b.by')) = rco a b from by
          unfold rco
          simp_all [Ms.setKind, Ms.setVal, Ms.setBy, Ms.setKey, mk3]), trivial, h.nothing⟩
      · try simp only [decide_eq_true_eq, decide_eq_false_iff_not, Bool.not_eq_true', Bool.not_eq_false'] at h3
        refine c_false rfl ?_
        refine c_seq ?_
        refine c_region _ rfl ?_
        refine l_q rfl (q_eql rfl rfl rfl) rfl rfl ?_
        refine l_q rfl (q_assign rfl rfl) rfl rfl ?_
        refine l_nil ?_
        refine k_then ?_
        refine Pre.caseB 39 rfl (fun h4 => ?_) (fun h4 => ?_)
        · try simp only [decide_eq_true_eq, decide_eq_false_iff_not, Bool.not_eq_true', Bool.not_eq_false'] at h4
          refine c_true rfl ?_
          refine c_region _ rfl ?_
          refine l_q rfl (q_fieldAddr rfl Try.underlying30 rfl Try.sizeOf22 rfl rfl) rfl rfl ?_
          refine l_q rfl (q_loadC rfl Try.isAgg22 rfl (fun _ h => h.at 2 rfl) (Ms.by_part _)) rfl rfl ?_
          refine l_e rfl ?_
          refine e_call_00 (rfrom_con _ (u64_bd b.wy).1 (u64_bd b.wy).2) rfl rfl rfl Try.call22 rfl (fun _ _ => trivial) ?_
          intro _ _
          refine l_q rfl (q_fieldAddr rfl Try.underlying30 rfl Try.sizeOf28 rfl rfl) rfl rfl ?_
          refine l_e rfl ?_
          refine e_storeAgg rfl rfl Try.sizeOf28 rfl rfl (Kv.c_len _) (Kv.one _) (by rw [Kv.c_len, Ms.c_len]; decide) ?_
          refine cells_eq (Ms.set_val _ _) ?_
          refine l_nil ?_
          refine k_block ?_
          refine k_then ?_
          refine c_seq ?_
          refine c_region _ rfl ?_
          refine l_q rfl (q_loadCAgg (((mk3 1 b.seq b.key (by decide) b.ws).setVal (vfrom b.by')).c) rfl Try.isAgg30 Try.sizeOf30 rfl (fun _ h => h.at 0 rfl) (ms_whole _) (Ms.c_len _)) rfl rfl ?_
          refine pull1 ?_
          refine l_e rfl ?_
          refine e_storeAgg rfl rfl Try.sizeOf30 rfl rfl (Ms.c_len _) (Ms.one _) (by simp only [Kv.c_len, Ms.c_len]; decide) ?_
          refine cells_eq (show _ = ((mk3 1 b.seq b.key (by decide) b.ws).setVal (vfrom b.by')).c from Sep.splice_all (by simp only [Kv.c_len, Ms.c_len])) ?_
          refine l_nil ?_
          refine k_then ?_
          refine c_ret ?_
          refine r_res1 rfl (res_cellA rfl Try.isAgg30 Try.sizeOf30 (fun _ h => h.at 0 rfl) (Ms.c_len _)) ?_
          exact fun _ h => ⟨(), congrArg (fun z => Ending.returned (Value.agg (Ms.c z).toArray)) (show ((mk3 1 b.seq b.key (by decide) b.ws).setVal (vfrom b.by')) = rco a b from by
            unfold rco
            simp_all [Ms.setKind, Ms.setVal, Ms.setBy, Ms.setKey, mk3]), trivial, h.nothing⟩
        · try simp only [decide_eq_true_eq, decide_eq_false_iff_not, Bool.not_eq_true', Bool.not_eq_false'] at h4
          refine c_false rfl ?_
          refine c_seq ?_
          refine c_region _ rfl ?_
          refine l_q rfl (q_fieldAddr rfl Try.underlying30 rfl Try.sizeOf3 rfl rfl) rfl rfl ?_
          refine l_e rfl ?_
          refine e_store rfl rfl Try.sizeOf3 rfl rfl rfl (by rw [Ms.c_len]; decide) ?_
          refine cells_eq (Ms.set_kind _ _ (by decide)) ?_
          refine l_nil ?_
          refine k_then ?_
          refine c_region _ rfl ?_
          refine l_q rfl (q_fieldAddr rfl Try.underlying30 rfl Try.sizeOf22 rfl rfl) rfl rfl ?_
          refine l_q rfl (q_loadC rfl Try.isAgg22 rfl (fun _ h => h.at 3 rfl) (Ms.by_part _)) rfl rfl ?_
          refine l_q rfl (q_fieldAddr rfl Try.underlying30 rfl Try.sizeOf22 rfl rfl) rfl rfl ?_
          refine l_q rfl (q_loadC rfl Try.isAgg22 rfl (fun _ h => h.at 2 rfl) (Ms.by_part _)) rfl rfl ?_
          refine l_q rfl (q_add rfl rfl rfl) rfl rfl ?_
          refine l_q rfl (q_fieldAddr rfl Try.underlying30 rfl Try.sizeOf22 rfl rfl) rfl rfl ?_
          refine l_e rfl ?_
          refine e_store rfl rfl Try.sizeOf22 rfl rfl rfl (by rw [Ms.c_len]; decide) ?_
          refine cells_eq (Ms.set_by _ _ (wf_wrap _)) ?_
          refine l_nil ?_
          refine k_block ?_
          refine k_then ?_
          refine c_seq ?_
          refine c_region _ rfl ?_
          refine l_q rfl (q_loadCAgg ((((mk3 1 b.seq b.key (by decide) b.ws).setKind 3 (by decide)).setBy (IntKind.u64.wrap (a.by' + b.by')) (wf_wrap _)).c) rfl Try.isAgg30 Try.sizeOf30 rfl (fun _ h => h.at 0 rfl) (ms_whole _) (Ms.c_len _)) rfl rfl ?_
          refine pull1 ?_
          refine l_e rfl ?_
          refine e_storeAgg rfl rfl Try.sizeOf30 rfl rfl (Ms.c_len _) (Ms.one _) (by simp only [Kv.c_len, Ms.c_len]; decide) ?_
          refine cells_eq (show _ = (((mk3 1 b.seq b.key (by decide) b.ws).setKind 3 (by decide)).setBy (IntKind.u64.wrap (a.by' + b.by')) (wf_wrap _)).c from Sep.splice_all (by simp only [Kv.c_len, Ms.c_len])) ?_
          refine l_nil ?_
          refine k_then ?_
          refine c_ret ?_
          refine r_res1 rfl (res_cellA rfl Try.isAgg30 Try.sizeOf30 (fun _ h => h.at 0 rfl) (Ms.c_len _)) ?_
          exact fun _ h => ⟨(), congrArg (fun z => Ending.returned (Value.agg (Ms.c z).toArray)) (show (((mk3 1 b.seq b.key (by decide) b.ws).setKind 3 (by decide)).setBy (IntKind.u64.wrap (a.by' + b.by')) (wf_wrap _)) = rco a b from by
            unfold rco
            simp_all [Ms.setKind, Ms.setVal, Ms.setBy, Ms.setKey, mk3]), trivial, h.nothing⟩
end Go.Proofs.Ytmnokoepimhelaa
