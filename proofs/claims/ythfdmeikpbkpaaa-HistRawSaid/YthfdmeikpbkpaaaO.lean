/- operations by numbers -/
import Derived.Test.YthfdmeikpbkpaaaN
set_option linter.unusedVariables false
set_option linter.unusedSimpArgs false
namespace Go.Proofs.Ythfdmeikpbkpaaa
open Go.Sep Go.RowKit

set_option maxRecDepth 100000 in
set_option maxHeartbeats 1000000 in
theorem op_ex (v : Int) : Con Try.prog 25 [.int .i64 v] (fun _ => True) [] (fun o : Op => .agg o.c.toArray) (fun _ => True) (fun _ => []) := by
  intro w hE hH
  refine enter (n := 53) (vs := [.int .i64 v]) (St w [] []) Try.func25 rfl rfl rfl (St.init hH) ?_
  refine c_seq ?_
  refine c_region _ rfl ?_
  refine l_e rfl ?_
  refine e_alloc rfl rfl rfl Try.zeroValue37 ?_
  intro br
  refine cells_eq (show _ = op0.c from rfl) ?_
  refine l_nil ?_
  refine k_then ?_
  refine c_seq ?_
  refine c_region _ rfl ?_
  refine l_q rfl (q_move rfl rfl) rfl rfl ?_
  refine l_e rfl ?_
  refine e_call_00 (place_spec (v) 1099511627776 (by decide) (by decide)) rfl rfl rfl Try.call9 rfl (fun _ _ => trivial) ?_
  intro _ _
  refine l_q rfl (q_assign rfl rfl) rfl rfl ?_
  refine l_nil ?_
  refine k_then ?_
  refine c_seq ?_
  obtain ⟨k, hk, hkb⟩ : ∃ k : Nat, v % 1099511627776 = (k : Int) ∧ k < 1099511627776 := ⟨(v % 1099511627776).toNat, by omega, by omega⟩
  refine Pre.setV (t := 3) (c := .int .i64 (k : Int)) rfl (by rw [hk]) ?_
  refine c_region _ rfl ?_
  refine l_q rfl (q_move rfl rfl) rfl rfl ?_
  refine l_q rfl (q_rem_nn rfl rfl rfl (by omega) (by omega)) rfl rfl ?_
  refine l_q rfl (q_add64 rfl rfl rfl (by omega)) rfl rfl ?_
  refine l_q rfl (q_move rfl rfl) rfl rfl ?_
  refine l_q rfl (q_quo_nn rfl rfl rfl (by omega) (by omega) (by omega)) rfl rfl ?_
  refine l_e rfl ?_
  refine e_call_00 (key_ex _) rfl rfl rfl Try.call31 rfl (fun _ _ => trivial) ?_
  intro ky _
  refine l_e rfl ?_
  refine e_call_00 (ktext_ex ky) rfl rfl rfl Try.call30 rfl (fun _ _ => trivial) ?_
  intro t ht
  refine l_q rfl (q_build ([.int .i64 (1 + (k : Int) % 4), .string t, .string .empty, .int .u64 0]) rfl rfl (fun w => by kernel_rfl)) rfl rfl ?_
  refine l_e rfl ?_
  refine e_alloc rfl rfl rfl Try.zeroValue37 ?_
  intro bo
  refine cells_eq (show _ = op0.c from rfl) ?_
  refine l_e rfl ?_
  refine e_storeAgg rfl rfl Try.sizeOf37 rfl rfl rfl (by intro v hv; simp only [List.mem_cons, List.not_mem_nil, or_false] at hv; rcases hv with rfl | rfl | rfl | rfl <;> rfl) (by show 0 + 4 ≤ 4; decide) ?_
  refine cells_eq (rfl) ?_
  refine l_nil ?_
  refine k_then ?_
  refine c_seq ?_
  refine c_seq ?_
  refine c_region _ rfl ?_
  refine l_q rfl (q_fieldAddr rfl Try.underlying37 rfl Try.sizeOf3 rfl rfl) rfl rfl ?_
  refine l_q rfl (q_loadC rfl Try.isAgg3 rfl (fun _ h => h.at 0 rfl) rfl) rfl rfl ?_
  refine l_nil ?_
  refine k_then ?_
  refine c_block ?_
  refine c_seq ?_
  refine c_region _ rfl ?_
  refine l_q rfl (q_eql rfl rfl rfl) rfl rfl ?_
  refine l_q rfl (q_assign rfl rfl) rfl rfl ?_
  refine l_nil ?_
  refine k_then ?_
  refine Pre.caseB 17 rfl (fun h1 => ?_) (fun h1 => ?_)
  · try simp only [decide_eq_true_eq, decide_eq_false_iff_not, Bool.not_eq_true', Bool.not_eq_false'] at h1
    refine c_true rfl ?_
    refine c_region _ rfl ?_
    refine l_q rfl (q_move rfl rfl) rfl rfl ?_
    refine l_q rfl (q_quo_nn rfl rfl rfl (by omega) (by omega) (by omega)) rfl rfl ?_
    refine l_e rfl ?_
    refine e_call_00 (value_ex _) rfl rfl rfl Try.call26 rfl (fun _ _ => trivial) ?_
    intro vl _
    refine l_e rfl ?_
    refine e_call_00 (vtext_ex vl) rfl rfl rfl Try.call32 rfl (fun _ _ => trivial) ?_
    intro tv htv
    refine l_q rfl (q_fieldAddr rfl Try.underlying37 rfl Try.sizeOf9 rfl rfl) rfl rfl ?_
    refine l_e rfl ?_
    refine e_store rfl rfl Try.sizeOf9 rfl rfl rfl (by show 2 < 4; decide) ?_
    refine cells_eq (show _ = [.int .i64 (1 + (k : Int) % 4), .string t, .string tv, .int .u64 0] from rfl) ?_
    refine l_nil ?_
    refine k_block ?_
    refine k_then ?_
    refine c_seq ?_
    refine c_seq ?_
    refine c_region _ rfl ?_
    refine l_q rfl (q_move rfl rfl) rfl rfl ?_
    refine l_q rfl (q_quo_nn rfl rfl rfl (by omega) (by omega) (by omega)) rfl rfl ?_
    refine l_q rfl (q_rem_nn rfl rfl rfl (by omega) (by omega)) rfl rfl ?_
    refine l_q rfl (q_eql rfl rfl rfl) rfl rfl ?_
    refine l_nil ?_
    refine k_then ?_
    refine Pre.caseB 34 rfl (fun h2 => ?_) (fun h2 => ?_)
    · try simp only [decide_eq_true_eq, decide_eq_false_iff_not, Bool.not_eq_true', Bool.not_eq_false'] at h2
      refine c_true rfl ?_
      refine c_region _ rfl ?_
      refine l_q rfl (q_fieldAddr rfl Try.underlying37 rfl Try.sizeOf9 rfl rfl) rfl rfl ?_
      refine l_q rfl (q_loadC rfl Try.isAgg9 rfl (fun _ h => h.at 0 rfl) rfl) rfl rfl ?_
      refine l_q rfl (q_addS rfl rfl rfl (by first | (show t.size + 9 ≤ _; omega) | (show tv.size + 18 ≤ _; omega) | (show 0 + 18 ≤ _; decide))) rfl rfl ?_
      refine l_q rfl (q_fieldAddr rfl Try.underlying37 rfl Try.sizeOf9 rfl rfl) rfl rfl ?_
      refine l_e rfl ?_
      refine e_store rfl rfl Try.sizeOf9 rfl rfl rfl (by show 1 < 4; decide) ?_
      refine cells_eq (show _ = [.int .i64 (1 + (k : Int) % 4), .string (t ++ (⟨#[49, 50, 51, 52, 53, 54, 55, 56, 57]⟩ : ByteArray)), .string tv, .int .u64 0] from rfl) ?_
      refine l_nil ?_
      refine k_then ?_
      refine c_seq ?_
      refine c_seq ?_
      refine c_region _ rfl ?_
      refine l_q rfl (q_move rfl rfl) rfl rfl ?_
      refine l_q rfl (q_quo_nn rfl rfl rfl (by omega) (by omega) (by omega)) rfl rfl ?_
      refine l_q rfl (q_rem_nn rfl rfl rfl (by omega) (by omega)) rfl rfl ?_
      refine l_q rfl (q_eql rfl rfl rfl) rfl rfl ?_
      refine l_q rfl (q_move rfl rfl) rfl rfl ?_
      refine Pre.caseB 43 rfl (fun h3 => ?_) (fun h3 => ?_)
      · try simp only [decide_eq_true_eq, decide_eq_false_iff_not, Bool.not_eq_true', Bool.not_eq_false'] at h3
        refine l_q rfl (q_fieldAddr rfl Try.underlying37 rfl Try.sizeOf3 rfl rfl) rfl rfl ?_
        refine l_q rfl (q_loadC rfl Try.isAgg3 rfl (fun _ h => h.at 0 rfl) rfl) rfl rfl ?_
        refine l_q rfl (q_eql rfl rfl rfl) rfl rfl ?_
        refine l_q rfl (q_pick_t rfl rfl rfl) rfl rfl ?_
        refine l_nil ?_
        refine k_then ?_
        refine Pre.caseB 47 rfl (fun h4 => ?_) (fun h4 => ?_)
        · try simp only [decide_eq_true_eq, decide_eq_false_iff_not, Bool.not_eq_true', Bool.not_eq_false'] at h4
          refine c_true rfl ?_
          refine c_region _ rfl ?_
          refine l_q rfl (q_fieldAddr rfl Try.underlying37 rfl Try.sizeOf9 rfl rfl) rfl rfl ?_
          refine l_q rfl (q_loadC rfl Try.isAgg9 rfl (fun _ h => h.at 0 rfl) rfl) rfl rfl ?_
          refine l_q rfl (q_addS rfl rfl rfl (by first | (show t.size + 9 ≤ _; omega) | (show tv.size + 18 ≤ _; omega) | (show 0 + 18 ≤ _; decide))) rfl rfl ?_
          refine l_q rfl (q_fieldAddr rfl Try.underlying37 rfl Try.sizeOf9 rfl rfl) rfl rfl ?_
          refine l_e rfl ?_
          refine e_store rfl rfl Try.sizeOf9 rfl rfl rfl (by show 2 < 4; decide) ?_
          refine cells_eq (show _ = [.int .i64 (1 + (k : Int) % 4), .string (t ++ (⟨#[49, 50, 51, 52, 53, 54, 55, 56, 57]⟩ : ByteArray)), .string (tv ++ (⟨#[115, 101, 118, 101, 110, 116, 101, 101, 110, 32, 98, 121, 116, 101, 115, 32, 46, 46]⟩ : ByteArray)), .int .u64 0] from rfl) ?_
          refine l_nil ?_
          refine k_then ?_
          refine c_seq ?_
          refine c_region _ rfl ?_
          refine l_q rfl (q_loadCAgg ([.int .i64 (1 + (k : Int) % 4), .string (t ++ (⟨#[49, 50, 51, 52, 53, 54, 55, 56, 57]⟩ : ByteArray)), .string (tv ++ (⟨#[115, 101, 118, 101, 110, 116, 101, 101, 110, 32, 98, 121, 116, 101, 115, 32, 46, 46]⟩ : ByteArray)), .int .u64 0]) rfl Try.isAgg37 Try.sizeOf37 rfl (fun _ h => h.at 0 rfl) (rfl) (rfl)) rfl rfl ?_
          refine pull1 ?_
          refine l_e rfl ?_
          refine e_storeAgg rfl rfl Try.sizeOf37 rfl rfl rfl (by intro v hv; simp only [List.mem_cons, List.not_mem_nil, or_false] at hv; rcases hv with rfl | rfl | rfl | rfl <;> rfl) (by show 0 + 4 ≤ 4; decide) ?_
          refine cells_eq (show _ = [.int .i64 (1 + (k : Int) % 4), .string (t ++ (⟨#[49, 50, 51, 52, 53, 54, 55, 56, 57]⟩ : ByteArray)), .string (tv ++ (⟨#[115, 101, 118, 101, 110, 116, 101, 101, 110, 32, 98, 121, 116, 101, 115, 32, 46, 46]⟩ : ByteArray)), .int .u64 0] from rfl) ?_
          refine l_nil ?_
          refine k_then ?_
          refine c_ret ?_
          refine r_res1 rfl (res_cellA rfl Try.isAgg37 Try.sizeOf37 (fun _ h => h.at 0 rfl) (rfl)) ?_
          exact fun _ h => ⟨⟨(1 + (k : Int) % 4), (t ++ (⟨#[49, 50, 51, 52, 53, 54, 55, 56, 57]⟩ : ByteArray)), (tv ++ (⟨#[115, 101, 118, 101, 110, 116, 101, 101, 110, 32, 98, 121, 116, 101, 115, 32, 46, 46]⟩ : ByteArray)), 0, wf_small (by omega) (by omega), (by decide), (sz_ok (by first | (show t.size ≤ _; omega) | (show tv.size ≤ _; omega) | (rw [ByteArray.size_append]; show t.size + 9 ≤ _; omega) | (rw [ByteArray.size_append]; show tv.size + 18 ≤ _; omega) | (rw [ByteArray.size_append]; show 0 + 18 ≤ _; decide) | decide)), (sz_ok (by first | (show t.size ≤ _; omega) | (show tv.size ≤ _; omega) | (rw [ByteArray.size_append]; show t.size + 9 ≤ _; omega) | (rw [ByteArray.size_append]; show tv.size + 18 ≤ _; omega) | (rw [ByteArray.size_append]; show 0 + 18 ≤ _; decide) | decide))⟩, rfl, trivial, h.nothing⟩
        · try simp only [decide_eq_true_eq, decide_eq_false_iff_not, Bool.not_eq_true', Bool.not_eq_false'] at h4
          refine c_false rfl ?_
          refine c_skip ?_
          refine k_then ?_
          refine c_seq ?_
          refine c_region _ rfl ?_
          refine l_q rfl (q_loadCAgg ([.int .i64 (1 + (k : Int) % 4), .string (t ++ (⟨#[49, 50, 51, 52, 53, 54, 55, 56, 57]⟩ : ByteArray)), .string tv, .int .u64 0]) rfl Try.isAgg37 Try.sizeOf37 rfl (fun _ h => h.at 0 rfl) (rfl) (rfl)) rfl rfl ?_
          refine pull1 ?_
          refine l_e rfl ?_
          refine e_storeAgg rfl rfl Try.sizeOf37 rfl rfl rfl (by intro v hv; simp only [List.mem_cons, List.not_mem_nil, or_false] at hv; rcases hv with rfl | rfl | rfl | rfl <;> rfl) (by show 0 + 4 ≤ 4; decide) ?_
          refine cells_eq (show _ = [.int .i64 (1 + (k : Int) % 4), .string (t ++ (⟨#[49, 50, 51, 52, 53, 54, 55, 56, 57]⟩ : ByteArray)), .string tv, .int .u64 0] from rfl) ?_
          refine l_nil ?_
          refine k_then ?_
          refine c_ret ?_
          refine r_res1 rfl (res_cellA rfl Try.isAgg37 Try.sizeOf37 (fun _ h => h.at 0 rfl) (rfl)) ?_
          exact fun _ h => ⟨⟨(1 + (k : Int) % 4), (t ++ (⟨#[49, 50, 51, 52, 53, 54, 55, 56, 57]⟩ : ByteArray)), tv, 0, wf_small (by omega) (by omega), (by decide), (sz_ok (by first | (show t.size ≤ _; omega) | (show tv.size ≤ _; omega) | (rw [ByteArray.size_append]; show t.size + 9 ≤ _; omega) | (rw [ByteArray.size_append]; show tv.size + 18 ≤ _; omega) | (rw [ByteArray.size_append]; show 0 + 18 ≤ _; decide) | decide)), (sz_ok (by first | (show t.size ≤ _; omega) | (show tv.size ≤ _; omega) | (rw [ByteArray.size_append]; show t.size + 9 ≤ _; omega) | (rw [ByteArray.size_append]; show tv.size + 18 ≤ _; omega) | (rw [ByteArray.size_append]; show 0 + 18 ≤ _; decide) | decide))⟩, rfl, trivial, h.nothing⟩
      · try simp only [decide_eq_true_eq, decide_eq_false_iff_not, Bool.not_eq_true', Bool.not_eq_false'] at h3
        refine l_not rfl rfl rfl ?_
        refine l_not rfl rfl rfl ?_
        refine l_not rfl rfl rfl ?_
        refine l_q rfl (q_pick_f rfl rfl rfl) rfl rfl ?_
        refine l_nil ?_
        refine k_then ?_
        refine c_false rfl ?_
        refine c_skip ?_
        refine k_then ?_
        refine c_seq ?_
        refine c_region _ rfl ?_
        refine l_q rfl (q_loadCAgg ([.int .i64 (1 + (k : Int) % 4), .string (t ++ (⟨#[49, 50, 51, 52, 53, 54, 55, 56, 57]⟩ : ByteArray)), .string tv, .int .u64 0]) rfl Try.isAgg37 Try.sizeOf37 rfl (fun _ h => h.at 0 rfl) (rfl) (rfl)) rfl rfl ?_
        refine pull1 ?_
        refine l_e rfl ?_
        refine e_storeAgg rfl rfl Try.sizeOf37 rfl rfl rfl (by intro v hv; simp only [List.mem_cons, List.not_mem_nil, or_false] at hv; rcases hv with rfl | rfl | rfl | rfl <;> rfl) (by show 0 + 4 ≤ 4; decide) ?_
        refine cells_eq (show _ = [.int .i64 (1 + (k : Int) % 4), .string (t ++ (⟨#[49, 50, 51, 52, 53, 54, 55, 56, 57]⟩ : ByteArray)), .string tv, .int .u64 0] from rfl) ?_
        refine l_nil ?_
        refine k_then ?_
        refine c_ret ?_
        refine r_res1 rfl (res_cellA rfl Try.isAgg37 Try.sizeOf37 (fun _ h => h.at 0 rfl) (rfl)) ?_
        exact fun _ h => ⟨⟨(1 + (k : Int) % 4), (t ++ (⟨#[49, 50, 51, 52, 53, 54, 55, 56, 57]⟩ : ByteArray)), tv, 0, wf_small (by omega) (by omega), (by decide), (sz_ok (by first | (show t.size ≤ _; omega) | (show tv.size ≤ _; omega) | (rw [ByteArray.size_append]; show t.size + 9 ≤ _; omega) | (rw [ByteArray.size_append]; show tv.size + 18 ≤ _; omega) | (rw [ByteArray.size_append]; show 0 + 18 ≤ _; decide) | decide)), (sz_ok (by first | (show t.size ≤ _; omega) | (show tv.size ≤ _; omega) | (rw [ByteArray.size_append]; show t.size + 9 ≤ _; omega) | (rw [ByteArray.size_append]; show tv.size + 18 ≤ _; omega) | (rw [ByteArray.size_append]; show 0 + 18 ≤ _; decide) | decide))⟩, rfl, trivial, h.nothing⟩
    · try simp only [decide_eq_true_eq, decide_eq_false_iff_not, Bool.not_eq_true', Bool.not_eq_false'] at h2
      refine c_false rfl ?_
      refine c_skip ?_
      refine k_then ?_
      refine c_seq ?_
      refine c_seq ?_
      refine c_region _ rfl ?_
      refine l_q rfl (q_move rfl rfl) rfl rfl ?_
      refine l_q rfl (q_quo_nn rfl rfl rfl (by omega) (by omega) (by omega)) rfl rfl ?_
      refine l_q rfl (q_rem_nn rfl rfl rfl (by omega) (by omega)) rfl rfl ?_
      refine l_q rfl (q_eql rfl rfl rfl) rfl rfl ?_
      refine l_q rfl (q_move rfl rfl) rfl rfl ?_
      refine Pre.caseB 43 rfl (fun h5 => ?_) (fun h5 => ?_)
      · try simp only [decide_eq_true_eq, decide_eq_false_iff_not, Bool.not_eq_true', Bool.not_eq_false'] at h5
        refine l_q rfl (q_fieldAddr rfl Try.underlying37 rfl Try.sizeOf3 rfl rfl) rfl rfl ?_
        refine l_q rfl (q_loadC rfl Try.isAgg3 rfl (fun _ h => h.at 0 rfl) rfl) rfl rfl ?_
        refine l_q rfl (q_eql rfl rfl rfl) rfl rfl ?_
        refine l_q rfl (q_pick_t rfl rfl rfl) rfl rfl ?_
        refine l_nil ?_
        refine k_then ?_
        refine Pre.caseB 47 rfl (fun h6 => ?_) (fun h6 => ?_)
        · try simp only [decide_eq_true_eq, decide_eq_false_iff_not, Bool.not_eq_true', Bool.not_eq_false'] at h6
          refine c_true rfl ?_
          refine c_region _ rfl ?_
          refine l_q rfl (q_fieldAddr rfl Try.underlying37 rfl Try.sizeOf9 rfl rfl) rfl rfl ?_
          refine l_q rfl (q_loadC rfl Try.isAgg9 rfl (fun _ h => h.at 0 rfl) rfl) rfl rfl ?_
          refine l_q rfl (q_addS rfl rfl rfl (by first | (show t.size + 9 ≤ _; omega) | (show tv.size + 18 ≤ _; omega) | (show 0 + 18 ≤ _; decide))) rfl rfl ?_
          refine l_q rfl (q_fieldAddr rfl Try.underlying37 rfl Try.sizeOf9 rfl rfl) rfl rfl ?_
          refine l_e rfl ?_
          refine e_store rfl rfl Try.sizeOf9 rfl rfl rfl (by show 2 < 4; decide) ?_
          refine cells_eq (show _ = [.int .i64 (1 + (k : Int) % 4), .string t, .string (tv ++ (⟨#[115, 101, 118, 101, 110, 116, 101, 101, 110, 32, 98, 121, 116, 101, 115, 32, 46, 46]⟩ : ByteArray)), .int .u64 0] from rfl) ?_
          refine l_nil ?_
          refine k_then ?_
          refine c_seq ?_
          refine c_region _ rfl ?_
          refine l_q rfl (q_loadCAgg ([.int .i64 (1 + (k : Int) % 4), .string t, .string (tv ++ (⟨#[115, 101, 118, 101, 110, 116, 101, 101, 110, 32, 98, 121, 116, 101, 115, 32, 46, 46]⟩ : ByteArray)), .int .u64 0]) rfl Try.isAgg37 Try.sizeOf37 rfl (fun _ h => h.at 0 rfl) (rfl) (rfl)) rfl rfl ?_
          refine pull1 ?_
          refine l_e rfl ?_
          refine e_storeAgg rfl rfl Try.sizeOf37 rfl rfl rfl (by intro v hv; simp only [List.mem_cons, List.not_mem_nil, or_false] at hv; rcases hv with rfl | rfl | rfl | rfl <;> rfl) (by show 0 + 4 ≤ 4; decide) ?_
          refine cells_eq (show _ = [.int .i64 (1 + (k : Int) % 4), .string t, .string (tv ++ (⟨#[115, 101, 118, 101, 110, 116, 101, 101, 110, 32, 98, 121, 116, 101, 115, 32, 46, 46]⟩ : ByteArray)), .int .u64 0] from rfl) ?_
          refine l_nil ?_
          refine k_then ?_
          refine c_ret ?_
          refine r_res1 rfl (res_cellA rfl Try.isAgg37 Try.sizeOf37 (fun _ h => h.at 0 rfl) (rfl)) ?_
          exact fun _ h => ⟨⟨(1 + (k : Int) % 4), t, (tv ++ (⟨#[115, 101, 118, 101, 110, 116, 101, 101, 110, 32, 98, 121, 116, 101, 115, 32, 46, 46]⟩ : ByteArray)), 0, wf_small (by omega) (by omega), (by decide), (sz_ok (by first | (show t.size ≤ _; omega) | (show tv.size ≤ _; omega) | (rw [ByteArray.size_append]; show t.size + 9 ≤ _; omega) | (rw [ByteArray.size_append]; show tv.size + 18 ≤ _; omega) | (rw [ByteArray.size_append]; show 0 + 18 ≤ _; decide) | decide)), (sz_ok (by first | (show t.size ≤ _; omega) | (show tv.size ≤ _; omega) | (rw [ByteArray.size_append]; show t.size + 9 ≤ _; omega) | (rw [ByteArray.size_append]; show tv.size + 18 ≤ _; omega) | (rw [ByteArray.size_append]; show 0 + 18 ≤ _; decide) | decide))⟩, rfl, trivial, h.nothing⟩
        · try simp only [decide_eq_true_eq, decide_eq_false_iff_not, Bool.not_eq_true', Bool.not_eq_false'] at h6
          refine c_false rfl ?_
          refine c_skip ?_
          refine k_then ?_
          refine c_seq ?_
          refine c_region _ rfl ?_
          refine l_q rfl (q_loadCAgg ([.int .i64 (1 + (k : Int) % 4), .string t, .string tv, .int .u64 0]) rfl Try.isAgg37 Try.sizeOf37 rfl (fun _ h => h.at 0 rfl) (rfl) (rfl)) rfl rfl ?_
          refine pull1 ?_
          refine l_e rfl ?_
          refine e_storeAgg rfl rfl Try.sizeOf37 rfl rfl rfl (by intro v hv; simp only [List.mem_cons, List.not_mem_nil, or_false] at hv; rcases hv with rfl | rfl | rfl | rfl <;> rfl) (by show 0 + 4 ≤ 4; decide) ?_
          refine cells_eq (show _ = [.int .i64 (1 + (k : Int) % 4), .string t, .string tv, .int .u64 0] from rfl) ?_
          refine l_nil ?_
          refine k_then ?_
          refine c_ret ?_
          refine r_res1 rfl (res_cellA rfl Try.isAgg37 Try.sizeOf37 (fun _ h => h.at 0 rfl) (rfl)) ?_
          exact fun _ h => ⟨⟨(1 + (k : Int) % 4), t, tv, 0, wf_small (by omega) (by omega), (by decide), (sz_ok (by first | (show t.size ≤ _; omega) | (show tv.size ≤ _; omega) | (rw [ByteArray.size_append]; show t.size + 9 ≤ _; omega) | (rw [ByteArray.size_append]; show tv.size + 18 ≤ _; omega) | (rw [ByteArray.size_append]; show 0 + 18 ≤ _; decide) | decide)), (sz_ok (by first | (show t.size ≤ _; omega) | (show tv.size ≤ _; omega) | (rw [ByteArray.size_append]; show t.size + 9 ≤ _; omega) | (rw [ByteArray.size_append]; show tv.size + 18 ≤ _; omega) | (rw [ByteArray.size_append]; show 0 + 18 ≤ _; decide) | decide))⟩, rfl, trivial, h.nothing⟩
      · try simp only [decide_eq_true_eq, decide_eq_false_iff_not, Bool.not_eq_true', Bool.not_eq_false'] at h5
        refine l_not rfl rfl rfl ?_
        refine l_not rfl rfl rfl ?_
        refine l_not rfl rfl rfl ?_
        refine l_q rfl (q_pick_f rfl rfl rfl) rfl rfl ?_
        refine l_nil ?_
        refine k_then ?_
        refine c_false rfl ?_
        refine c_skip ?_
        refine k_then ?_
        refine c_seq ?_
        refine c_region _ rfl ?_
        refine l_q rfl (q_loadCAgg ([.int .i64 (1 + (k : Int) % 4), .string t, .string tv, .int .u64 0]) rfl Try.isAgg37 Try.sizeOf37 rfl (fun _ h => h.at 0 rfl) (rfl) (rfl)) rfl rfl ?_
        refine pull1 ?_
        refine l_e rfl ?_
        refine e_storeAgg rfl rfl Try.sizeOf37 rfl rfl rfl (by intro v hv; simp only [List.mem_cons, List.not_mem_nil, or_false] at hv; rcases hv with rfl | rfl | rfl | rfl <;> rfl) (by show 0 + 4 ≤ 4; decide) ?_
        refine cells_eq (show _ = [.int .i64 (1 + (k : Int) % 4), .string t, .string tv, .int .u64 0] from rfl) ?_
        refine l_nil ?_
        refine k_then ?_
        refine c_ret ?_
        refine r_res1 rfl (res_cellA rfl Try.isAgg37 Try.sizeOf37 (fun _ h => h.at 0 rfl) (rfl)) ?_
        exact fun _ h => ⟨⟨(1 + (k : Int) % 4), t, tv, 0, wf_small (by omega) (by omega), (by decide), (sz_ok (by first | (show t.size ≤ _; omega) | (show tv.size ≤ _; omega) | (rw [ByteArray.size_append]; show t.size + 9 ≤ _; omega) | (rw [ByteArray.size_append]; show tv.size + 18 ≤ _; omega) | (rw [ByteArray.size_append]; show 0 + 18 ≤ _; decide) | decide)), (sz_ok (by first | (show t.size ≤ _; omega) | (show tv.size ≤ _; omega) | (rw [ByteArray.size_append]; show t.size + 9 ≤ _; omega) | (rw [ByteArray.size_append]; show tv.size + 18 ≤ _; omega) | (rw [ByteArray.size_append]; show 0 + 18 ≤ _; decide) | decide))⟩, rfl, trivial, h.nothing⟩
  · try simp only [decide_eq_true_eq, decide_eq_false_iff_not, Bool.not_eq_true', Bool.not_eq_false'] at h1
    refine c_false rfl ?_
    refine c_seq ?_
    refine c_region _ rfl ?_
    refine l_q rfl (q_eql rfl rfl rfl) rfl rfl ?_
    refine l_q rfl (q_assign rfl rfl) rfl rfl ?_
    refine l_nil ?_
    refine k_then ?_
    refine Pre.caseB 24 rfl (fun h7 => ?_) (fun h7 => ?_)
    · try simp only [decide_eq_true_eq, decide_eq_false_iff_not, Bool.not_eq_true', Bool.not_eq_false'] at h7
      refine c_true rfl ?_
      refine c_region _ rfl ?_
      refine l_q rfl (q_move rfl rfl) rfl rfl ?_
      refine l_q rfl (q_quo_nn rfl rfl rfl (by omega) (by omega) (by omega)) rfl rfl ?_
      refine l_q rfl (q_conv_in rfl Try.underlying3 Try.underlying35 rfl (wrapu64_in (by omega))) rfl rfl ?_
      refine l_q rfl (q_mul rfl rfl rfl) rfl rfl ?_
      refine l_q rfl (q_fieldAddr rfl Try.underlying37 rfl Try.sizeOf35 rfl rfl) rfl rfl ?_
      refine l_e rfl ?_
      refine e_store rfl rfl Try.sizeOf35 rfl rfl rfl (by show 3 < 4; decide) ?_
      refine cells_eq (show _ = [.int .i64 (1 + (k : Int) % 4), .string t, .string .empty, .int .u64 (IntKind.u64.wrap ((k : Int) / 4096 * 4099))] from rfl) ?_
      refine l_nil ?_
      refine k_block ?_
      refine k_then ?_
      refine c_seq ?_
      refine c_seq ?_
      refine c_region _ rfl ?_
      refine l_q rfl (q_move rfl rfl) rfl rfl ?_
      refine l_q rfl (q_quo_nn rfl rfl rfl (by omega) (by omega) (by omega)) rfl rfl ?_
      refine l_q rfl (q_rem_nn rfl rfl rfl (by omega) (by omega)) rfl rfl ?_
      refine l_q rfl (q_eql rfl rfl rfl) rfl rfl ?_
      refine l_nil ?_
      refine k_then ?_
      refine Pre.caseB 34 rfl (fun h8 => ?_) (fun h8 => ?_)
      · try simp only [decide_eq_true_eq, decide_eq_false_iff_not, Bool.not_eq_true', Bool.not_eq_false'] at h8
        refine c_true rfl ?_
        refine c_region _ rfl ?_
        refine l_q rfl (q_fieldAddr rfl Try.underlying37 rfl Try.sizeOf9 rfl rfl) rfl rfl ?_
        refine l_q rfl (q_loadC rfl Try.isAgg9 rfl (fun _ h => h.at 0 rfl) rfl) rfl rfl ?_
        refine l_q rfl (q_addS rfl rfl rfl (by first | (show t.size + 9 ≤ _; omega) | (show tv.size + 18 ≤ _; omega) | (show 0 + 18 ≤ _; decide))) rfl rfl ?_
        refine l_q rfl (q_fieldAddr rfl Try.underlying37 rfl Try.sizeOf9 rfl rfl) rfl rfl ?_
        refine l_e rfl ?_
        refine e_store rfl rfl Try.sizeOf9 rfl rfl rfl (by show 1 < 4; decide) ?_
        refine cells_eq (show _ = [.int .i64 (1 + (k : Int) % 4), .string (t ++ (⟨#[49, 50, 51, 52, 53, 54, 55, 56, 57]⟩ : ByteArray)), .string .empty, .int .u64 (IntKind.u64.wrap ((k : Int) / 4096 * 4099))] from rfl) ?_
        refine l_nil ?_
        refine k_then ?_
        refine c_seq ?_
        refine c_seq ?_
        refine c_region _ rfl ?_
        refine l_q rfl (q_move rfl rfl) rfl rfl ?_
        refine l_q rfl (q_quo_nn rfl rfl rfl (by omega) (by omega) (by omega)) rfl rfl ?_
        refine l_q rfl (q_rem_nn rfl rfl rfl (by omega) (by omega)) rfl rfl ?_
        refine l_q rfl (q_eql rfl rfl rfl) rfl rfl ?_
        refine l_q rfl (q_move rfl rfl) rfl rfl ?_
        refine Pre.caseB 43 rfl (fun h9 => ?_) (fun h9 => ?_)
        · try simp only [decide_eq_true_eq, decide_eq_false_iff_not, Bool.not_eq_true', Bool.not_eq_false'] at h9
          refine l_q rfl (q_fieldAddr rfl Try.underlying37 rfl Try.sizeOf3 rfl rfl) rfl rfl ?_
          refine l_q rfl (q_loadC rfl Try.isAgg3 rfl (fun _ h => h.at 0 rfl) rfl) rfl rfl ?_
          refine l_q rfl (q_eql rfl rfl rfl) rfl rfl ?_
          refine l_q rfl (q_pick_t rfl rfl rfl) rfl rfl ?_
          refine l_nil ?_
          refine k_then ?_
          refine Pre.caseB 47 rfl (fun h10 => ?_) (fun h10 => ?_)
          · try simp only [decide_eq_true_eq, decide_eq_false_iff_not, Bool.not_eq_true', Bool.not_eq_false'] at h10
            refine c_true rfl ?_
            refine c_region _ rfl ?_
            refine l_q rfl (q_fieldAddr rfl Try.underlying37 rfl Try.sizeOf9 rfl rfl) rfl rfl ?_
            refine l_q rfl (q_loadC rfl Try.isAgg9 rfl (fun _ h => h.at 0 rfl) rfl) rfl rfl ?_
            refine l_q rfl (q_addS rfl rfl rfl (by first | (show t.size + 9 ≤ _; omega) | (show tv.size + 18 ≤ _; omega) | (show 0 + 18 ≤ _; decide))) rfl rfl ?_
            refine l_q rfl (q_fieldAddr rfl Try.underlying37 rfl Try.sizeOf9 rfl rfl) rfl rfl ?_
            refine l_e rfl ?_
            refine e_store rfl rfl Try.sizeOf9 rfl rfl rfl (by show 2 < 4; decide) ?_
            refine cells_eq (show _ = [.int .i64 (1 + (k : Int) % 4), .string (t ++ (⟨#[49, 50, 51, 52, 53, 54, 55, 56, 57]⟩ : ByteArray)), .string (.empty ++ (⟨#[115, 101, 118, 101, 110, 116, 101, 101, 110, 32, 98, 121, 116, 101, 115, 32, 46, 46]⟩ : ByteArray)), .int .u64 (IntKind.u64.wrap ((k : Int) / 4096 * 4099))] from rfl) ?_
            refine l_nil ?_
            refine k_then ?_
            refine c_seq ?_
            refine c_region _ rfl ?_
            refine l_q rfl (q_loadCAgg ([.int .i64 (1 + (k : Int) % 4), .string (t ++ (⟨#[49, 50, 51, 52, 53, 54, 55, 56, 57]⟩ : ByteArray)), .string (.empty ++ (⟨#[115, 101, 118, 101, 110, 116, 101, 101, 110, 32, 98, 121, 116, 101, 115, 32, 46, 46]⟩ : ByteArray)), .int .u64 (IntKind.u64.wrap ((k : Int) / 4096 * 4099))]) rfl Try.isAgg37 Try.sizeOf37 rfl (fun _ h => h.at 0 rfl) (rfl) (rfl)) rfl rfl ?_
            refine pull1 ?_
            refine l_e rfl ?_
            refine e_storeAgg rfl rfl Try.sizeOf37 rfl rfl rfl (by intro v hv; simp only [List.mem_cons, List.not_mem_nil, or_false] at hv; rcases hv with rfl | rfl | rfl | rfl <;> rfl) (by show 0 + 4 ≤ 4; decide) ?_
            refine cells_eq (show _ = [.int .i64 (1 + (k : Int) % 4), .string (t ++ (⟨#[49, 50, 51, 52, 53, 54, 55, 56, 57]⟩ : ByteArray)), .string (.empty ++ (⟨#[115, 101, 118, 101, 110, 116, 101, 101, 110, 32, 98, 121, 116, 101, 115, 32, 46, 46]⟩ : ByteArray)), .int .u64 (IntKind.u64.wrap ((k : Int) / 4096 * 4099))] from rfl) ?_
            refine l_nil ?_
            refine k_then ?_
            refine c_ret ?_
            refine r_res1 rfl (res_cellA rfl Try.isAgg37 Try.sizeOf37 (fun _ h => h.at 0 rfl) (rfl)) ?_
            exact fun _ h => ⟨⟨(1 + (k : Int) % 4), (t ++ (⟨#[49, 50, 51, 52, 53, 54, 55, 56, 57]⟩ : ByteArray)), (.empty ++ (⟨#[115, 101, 118, 101, 110, 116, 101, 101, 110, 32, 98, 121, 116, 101, 115, 32, 46, 46]⟩ : ByteArray)), (IntKind.u64.wrap ((k : Int) / 4096 * 4099)), wf_small (by omega) (by omega), (wf_wrap64 _), (sz_ok (by first | (show t.size ≤ _; omega) | (show tv.size ≤ _; omega) | (rw [ByteArray.size_append]; show t.size + 9 ≤ _; omega) | (rw [ByteArray.size_append]; show tv.size + 18 ≤ _; omega) | (rw [ByteArray.size_append]; show 0 + 18 ≤ _; decide) | decide)), (sz_ok (by first | (show t.size ≤ _; omega) | (show tv.size ≤ _; omega) | (rw [ByteArray.size_append]; show t.size + 9 ≤ _; omega) | (rw [ByteArray.size_append]; show tv.size + 18 ≤ _; omega) | (rw [ByteArray.size_append]; show 0 + 18 ≤ _; decide) | decide))⟩, rfl, trivial, h.nothing⟩
          · try simp only [decide_eq_true_eq, decide_eq_false_iff_not, Bool.not_eq_true', Bool.not_eq_false'] at h10
            refine c_false rfl ?_
            refine c_skip ?_
            refine k_then ?_
            refine c_seq ?_
            refine c_region _ rfl ?_
            refine l_q rfl (q_loadCAgg ([.int .i64 (1 + (k : Int) % 4), .string (t ++ (⟨#[49, 50, 51, 52, 53, 54, 55, 56, 57]⟩ : ByteArray)), .string .empty, .int .u64 (IntKind.u64.wrap ((k : Int) / 4096 * 4099))]) rfl Try.isAgg37 Try.sizeOf37 rfl (fun _ h => h.at 0 rfl) (rfl) (rfl)) rfl rfl ?_
            refine pull1 ?_
            refine l_e rfl ?_
            refine e_storeAgg rfl rfl Try.sizeOf37 rfl rfl rfl (by intro v hv; simp only [List.mem_cons, List.not_mem_nil, or_false] at hv; rcases hv with rfl | rfl | rfl | rfl <;> rfl) (by show 0 + 4 ≤ 4; decide) ?_
            refine cells_eq (show _ = [.int .i64 (1 + (k : Int) % 4), .string (t ++ (⟨#[49, 50, 51, 52, 53, 54, 55, 56, 57]⟩ : ByteArray)), .string .empty, .int .u64 (IntKind.u64.wrap ((k : Int) / 4096 * 4099))] from rfl) ?_
            refine l_nil ?_
            refine k_then ?_
            refine c_ret ?_
            refine r_res1 rfl (res_cellA rfl Try.isAgg37 Try.sizeOf37 (fun _ h => h.at 0 rfl) (rfl)) ?_
            exact fun _ h => ⟨⟨(1 + (k : Int) % 4), (t ++ (⟨#[49, 50, 51, 52, 53, 54, 55, 56, 57]⟩ : ByteArray)), .empty, (IntKind.u64.wrap ((k : Int) / 4096 * 4099)), wf_small (by omega) (by omega), (wf_wrap64 _), (sz_ok (by first | (show t.size ≤ _; omega) | (show tv.size ≤ _; omega) | (rw [ByteArray.size_append]; show t.size + 9 ≤ _; omega) | (rw [ByteArray.size_append]; show tv.size + 18 ≤ _; omega) | (rw [ByteArray.size_append]; show 0 + 18 ≤ _; decide) | decide)), (sz_ok (by first | (show t.size ≤ _; omega) | (show tv.size ≤ _; omega) | (rw [ByteArray.size_append]; show t.size + 9 ≤ _; omega) | (rw [ByteArray.size_append]; show tv.size + 18 ≤ _; omega) | (rw [ByteArray.size_append]; show 0 + 18 ≤ _; decide) | decide))⟩, rfl, trivial, h.nothing⟩
        · try simp only [decide_eq_true_eq, decide_eq_false_iff_not, Bool.not_eq_true', Bool.not_eq_false'] at h9
          refine l_not rfl rfl rfl ?_
          refine l_not rfl rfl rfl ?_
          refine l_not rfl rfl rfl ?_
          refine l_q rfl (q_pick_f rfl rfl rfl) rfl rfl ?_
          refine l_nil ?_
          refine k_then ?_
          refine c_false rfl ?_
          refine c_skip ?_
          refine k_then ?_
          refine c_seq ?_
          refine c_region _ rfl ?_
          refine l_q rfl (q_loadCAgg ([.int .i64 (1 + (k : Int) % 4), .string (t ++ (⟨#[49, 50, 51, 52, 53, 54, 55, 56, 57]⟩ : ByteArray)), .string .empty, .int .u64 (IntKind.u64.wrap ((k : Int) / 4096 * 4099))]) rfl Try.isAgg37 Try.sizeOf37 rfl (fun _ h => h.at 0 rfl) (rfl) (rfl)) rfl rfl ?_
          refine pull1 ?_
          refine l_e rfl ?_
          refine e_storeAgg rfl rfl Try.sizeOf37 rfl rfl rfl (by intro v hv; simp only [List.mem_cons, List.not_mem_nil, or_false] at hv; rcases hv with rfl | rfl | rfl | rfl <;> rfl) (by show 0 + 4 ≤ 4; decide) ?_
          refine cells_eq (show _ = [.int .i64 (1 + (k : Int) % 4), .string (t ++ (⟨#[49, 50, 51, 52, 53, 54, 55, 56, 57]⟩ : ByteArray)), .string .empty, .int .u64 (IntKind.u64.wrap ((k : Int) / 4096 * 4099))] from rfl) ?_
          refine l_nil ?_
          refine k_then ?_
          refine c_ret ?_
          refine r_res1 rfl (res_cellA rfl Try.isAgg37 Try.sizeOf37 (fun _ h => h.at 0 rfl) (rfl)) ?_
          exact fun _ h => ⟨⟨(1 + (k : Int) % 4), (t ++ (⟨#[49, 50, 51, 52, 53, 54, 55, 56, 57]⟩ : ByteArray)), .empty, (IntKind.u64.wrap ((k : Int) / 4096 * 4099)), wf_small (by omega) (by omega), (wf_wrap64 _), (sz_ok (by first | (show t.size ≤ _; omega) | (show tv.size ≤ _; omega) | (rw [ByteArray.size_append]; show t.size + 9 ≤ _; omega) | (rw [ByteArray.size_append]; show tv.size + 18 ≤ _; omega) | (rw [ByteArray.size_append]; show 0 + 18 ≤ _; decide) | decide)), (sz_ok (by first | (show t.size ≤ _; omega) | (show tv.size ≤ _; omega) | (rw [ByteArray.size_append]; show t.size + 9 ≤ _; omega) | (rw [ByteArray.size_append]; show tv.size + 18 ≤ _; omega) | (rw [ByteArray.size_append]; show 0 + 18 ≤ _; decide) | decide))⟩, rfl, trivial, h.nothing⟩
      · try simp only [decide_eq_true_eq, decide_eq_false_iff_not, Bool.not_eq_true', Bool.not_eq_false'] at h8
        refine c_false rfl ?_
        refine c_skip ?_
        refine k_then ?_
        refine c_seq ?_
        refine c_seq ?_
        refine c_region _ rfl ?_
        refine l_q rfl (q_move rfl rfl) rfl rfl ?_
        refine l_q rfl (q_quo_nn rfl rfl rfl (by omega) (by omega) (by omega)) rfl rfl ?_
        refine l_q rfl (q_rem_nn rfl rfl rfl (by omega) (by omega)) rfl rfl ?_
        refine l_q rfl (q_eql rfl rfl rfl) rfl rfl ?_
        refine l_q rfl (q_move rfl rfl) rfl rfl ?_
        refine Pre.caseB 43 rfl (fun h11 => ?_) (fun h11 => ?_)
        · try simp only [decide_eq_true_eq, decide_eq_false_iff_not, Bool.not_eq_true', Bool.not_eq_false'] at h11
          refine l_q rfl (q_fieldAddr rfl Try.underlying37 rfl Try.sizeOf3 rfl rfl) rfl rfl ?_
          refine l_q rfl (q_loadC rfl Try.isAgg3 rfl (fun _ h => h.at 0 rfl) rfl) rfl rfl ?_
          refine l_q rfl (q_eql rfl rfl rfl) rfl rfl ?_
          refine l_q rfl (q_pick_t rfl rfl rfl) rfl rfl ?_
          refine l_nil ?_
          refine k_then ?_
          refine Pre.caseB 47 rfl (fun h12 => ?_) (fun h12 => ?_)
          · try simp only [decide_eq_true_eq, decide_eq_false_iff_not, Bool.not_eq_true', Bool.not_eq_false'] at h12
            refine c_true rfl ?_
            refine c_region _ rfl ?_
            refine l_q rfl (q_fieldAddr rfl Try.underlying37 rfl Try.sizeOf9 rfl rfl) rfl rfl ?_
            refine l_q rfl (q_loadC rfl Try.isAgg9 rfl (fun _ h => h.at 0 rfl) rfl) rfl rfl ?_
            refine l_q rfl (q_addS rfl rfl rfl (by first | (show t.size + 9 ≤ _; omega) | (show tv.size + 18 ≤ _; omega) | (show 0 + 18 ≤ _; decide))) rfl rfl ?_
            refine l_q rfl (q_fieldAddr rfl Try.underlying37 rfl Try.sizeOf9 rfl rfl) rfl rfl ?_
            refine l_e rfl ?_
            refine e_store rfl rfl Try.sizeOf9 rfl rfl rfl (by show 2 < 4; decide) ?_
            refine cells_eq (show _ = [.int .i64 (1 + (k : Int) % 4), .string t, .string (.empty ++ (⟨#[115, 101, 118, 101, 110, 116, 101, 101, 110, 32, 98, 121, 116, 101, 115, 32, 46, 46]⟩ : ByteArray)), .int .u64 (IntKind.u64.wrap ((k : Int) / 4096 * 4099))] from rfl) ?_
            refine l_nil ?_
            refine k_then ?_
            refine c_seq ?_
            refine c_region _ rfl ?_
            refine l_q rfl (q_loadCAgg ([.int .i64 (1 + (k : Int) % 4), .string t, .string (.empty ++ (⟨#[115, 101, 118, 101, 110, 116, 101, 101, 110, 32, 98, 121, 116, 101, 115, 32, 46, 46]⟩ : ByteArray)), .int .u64 (IntKind.u64.wrap ((k : Int) / 4096 * 4099))]) rfl Try.isAgg37 Try.sizeOf37 rfl (fun _ h => h.at 0 rfl) (rfl) (rfl)) rfl rfl ?_
            refine pull1 ?_
            refine l_e rfl ?_
            refine e_storeAgg rfl rfl Try.sizeOf37 rfl rfl rfl (by intro v hv; simp only [List.mem_cons, List.not_mem_nil, or_false] at hv; rcases hv with rfl | rfl | rfl | rfl <;> rfl) (by show 0 + 4 ≤ 4; decide) ?_
            refine cells_eq (show _ = [.int .i64 (1 + (k : Int) % 4), .string t, .string (.empty ++ (⟨#[115, 101, 118, 101, 110, 116, 101, 101, 110, 32, 98, 121, 116, 101, 115, 32, 46, 46]⟩ : ByteArray)), .int .u64 (IntKind.u64.wrap ((k : Int) / 4096 * 4099))] from rfl) ?_
            refine l_nil ?_
            refine k_then ?_
            refine c_ret ?_
            refine r_res1 rfl (res_cellA rfl Try.isAgg37 Try.sizeOf37 (fun _ h => h.at 0 rfl) (rfl)) ?_
            exact fun _ h => ⟨⟨(1 + (k : Int) % 4), t, (.empty ++ (⟨#[115, 101, 118, 101, 110, 116, 101, 101, 110, 32, 98, 121, 116, 101, 115, 32, 46, 46]⟩ : ByteArray)), (IntKind.u64.wrap ((k : Int) / 4096 * 4099)), wf_small (by omega) (by omega), (wf_wrap64 _), (sz_ok (by first | (show t.size ≤ _; omega) | (show tv.size ≤ _; omega) | (rw [ByteArray.size_append]; show t.size + 9 ≤ _; omega) | (rw [ByteArray.size_append]; show tv.size + 18 ≤ _; omega) | (rw [ByteArray.size_append]; show 0 + 18 ≤ _; decide) | decide)), (sz_ok (by first | (show t.size ≤ _; omega) | (show tv.size ≤ _; omega) | (rw [ByteArray.size_append]; show t.size + 9 ≤ _; omega) | (rw [ByteArray.size_append]; show tv.size + 18 ≤ _; omega) | (rw [ByteArray.size_append]; show 0 + 18 ≤ _; decide) | decide))⟩, rfl, trivial, h.nothing⟩
          · try simp only [decide_eq_true_eq, decide_eq_false_iff_not, Bool.not_eq_true', Bool.not_eq_false'] at h12
            refine c_false rfl ?_
            refine c_skip ?_
            refine k_then ?_
            refine c_seq ?_
            refine c_region _ rfl ?_
            refine l_q rfl (q_loadCAgg ([.int .i64 (1 + (k : Int) % 4), .string t, .string .empty, .int .u64 (IntKind.u64.wrap ((k : Int) / 4096 * 4099))]) rfl Try.isAgg37 Try.sizeOf37 rfl (fun _ h => h.at 0 rfl) (rfl) (rfl)) rfl rfl ?_
            refine pull1 ?_
            refine l_e rfl ?_
            refine e_storeAgg rfl rfl Try.sizeOf37 rfl rfl rfl (by intro v hv; simp only [List.mem_cons, List.not_mem_nil, or_false] at hv; rcases hv with rfl | rfl | rfl | rfl <;> rfl) (by show 0 + 4 ≤ 4; decide) ?_
            refine cells_eq (show _ = [.int .i64 (1 + (k : Int) % 4), .string t, .string .empty, .int .u64 (IntKind.u64.wrap ((k : Int) / 4096 * 4099))] from rfl) ?_
            refine l_nil ?_
            refine k_then ?_
            refine c_ret ?_
            refine r_res1 rfl (res_cellA rfl Try.isAgg37 Try.sizeOf37 (fun _ h => h.at 0 rfl) (rfl)) ?_
            exact fun _ h => ⟨⟨(1 + (k : Int) % 4), t, .empty, (IntKind.u64.wrap ((k : Int) / 4096 * 4099)), wf_small (by omega) (by omega), (wf_wrap64 _), (sz_ok (by first | (show t.size ≤ _; omega) | (show tv.size ≤ _; omega) | (rw [ByteArray.size_append]; show t.size + 9 ≤ _; omega) | (rw [ByteArray.size_append]; show tv.size + 18 ≤ _; omega) | (rw [ByteArray.size_append]; show 0 + 18 ≤ _; decide) | decide)), (sz_ok (by first | (show t.size ≤ _; omega) | (show tv.size ≤ _; omega) | (rw [ByteArray.size_append]; show t.size + 9 ≤ _; omega) | (rw [ByteArray.size_append]; show tv.size + 18 ≤ _; omega) | (rw [ByteArray.size_append]; show 0 + 18 ≤ _; decide) | decide))⟩, rfl, trivial, h.nothing⟩
        · try simp only [decide_eq_true_eq, decide_eq_false_iff_not, Bool.not_eq_true', Bool.not_eq_false'] at h11
          refine l_not rfl rfl rfl ?_
          refine l_not rfl rfl rfl ?_
          refine l_not rfl rfl rfl ?_
          refine l_q rfl (q_pick_f rfl rfl rfl) rfl rfl ?_
          refine l_nil ?_
          refine k_then ?_
          refine c_false rfl ?_
          refine c_skip ?_
          refine k_then ?_
          refine c_seq ?_
          refine c_region _ rfl ?_
          refine l_q rfl (q_loadCAgg ([.int .i64 (1 + (k : Int) % 4), .string t, .string .empty, .int .u64 (IntKind.u64.wrap ((k : Int) / 4096 * 4099))]) rfl Try.isAgg37 Try.sizeOf37 rfl (fun _ h => h.at 0 rfl) (rfl) (rfl)) rfl rfl ?_
          refine pull1 ?_
          refine l_e rfl ?_
          refine e_storeAgg rfl rfl Try.sizeOf37 rfl rfl rfl (by intro v hv; simp only [List.mem_cons, List.not_mem_nil, or_false] at hv; rcases hv with rfl | rfl | rfl | rfl <;> rfl) (by show 0 + 4 ≤ 4; decide) ?_
          refine cells_eq (show _ = [.int .i64 (1 + (k : Int) % 4), .string t, .string .empty, .int .u64 (IntKind.u64.wrap ((k : Int) / 4096 * 4099))] from rfl) ?_
          refine l_nil ?_
          refine k_then ?_
          refine c_ret ?_
          refine r_res1 rfl (res_cellA rfl Try.isAgg37 Try.sizeOf37 (fun _ h => h.at 0 rfl) (rfl)) ?_
          exact fun _ h => ⟨⟨(1 + (k : Int) % 4), t, .empty, (IntKind.u64.wrap ((k : Int) / 4096 * 4099)), wf_small (by omega) (by omega), (wf_wrap64 _), (sz_ok (by first | (show t.size ≤ _; omega) | (show tv.size ≤ _; omega) | (rw [ByteArray.size_append]; show t.size + 9 ≤ _; omega) | (rw [ByteArray.size_append]; show tv.size + 18 ≤ _; omega) | (rw [ByteArray.size_append]; show 0 + 18 ≤ _; decide) | decide)), (sz_ok (by first | (show t.size ≤ _; omega) | (show tv.size ≤ _; omega) | (rw [ByteArray.size_append]; show t.size + 9 ≤ _; omega) | (rw [ByteArray.size_append]; show tv.size + 18 ≤ _; omega) | (rw [ByteArray.size_append]; show 0 + 18 ≤ _; decide) | decide))⟩, rfl, trivial, h.nothing⟩
    · try simp only [decide_eq_true_eq, decide_eq_false_iff_not, Bool.not_eq_true', Bool.not_eq_false'] at h7
      refine c_false rfl ?_
      refine c_skip ?_
      refine k_block ?_
      refine k_then ?_
      refine c_seq ?_
      refine c_seq ?_
      refine c_region _ rfl ?_
      refine l_q rfl (q_move rfl rfl) rfl rfl ?_
      refine l_q rfl (q_quo_nn rfl rfl rfl (by omega) (by omega) (by omega)) rfl rfl ?_
      refine l_q rfl (q_rem_nn rfl rfl rfl (by omega) (by omega)) rfl rfl ?_
      refine l_q rfl (q_eql rfl rfl rfl) rfl rfl ?_
      refine l_nil ?_
      refine k_then ?_
      refine Pre.caseB 34 rfl (fun h13 => ?_) (fun h13 => ?_)
      · try simp only [decide_eq_true_eq, decide_eq_false_iff_not, Bool.not_eq_true', Bool.not_eq_false'] at h13
        refine c_true rfl ?_
        refine c_region _ rfl ?_
        refine l_q rfl (q_fieldAddr rfl Try.underlying37 rfl Try.sizeOf9 rfl rfl) rfl rfl ?_
        refine l_q rfl (q_loadC rfl Try.isAgg9 rfl (fun _ h => h.at 0 rfl) rfl) rfl rfl ?_
        refine l_q rfl (q_addS rfl rfl rfl (by first | (show t.size + 9 ≤ _; omega) | (show tv.size + 18 ≤ _; omega) | (show 0 + 18 ≤ _; decide))) rfl rfl ?_
        refine l_q rfl (q_fieldAddr rfl Try.underlying37 rfl Try.sizeOf9 rfl rfl) rfl rfl ?_
        refine l_e rfl ?_
        refine e_store rfl rfl Try.sizeOf9 rfl rfl rfl (by show 1 < 4; decide) ?_
        refine cells_eq (show _ = [.int .i64 (1 + (k : Int) % 4), .string (t ++ (⟨#[49, 50, 51, 52, 53, 54, 55, 56, 57]⟩ : ByteArray)), .string .empty, .int .u64 0] from rfl) ?_
        refine l_nil ?_
        refine k_then ?_
        refine c_seq ?_
        refine c_seq ?_
        refine c_region _ rfl ?_
        refine l_q rfl (q_move rfl rfl) rfl rfl ?_
        refine l_q rfl (q_quo_nn rfl rfl rfl (by omega) (by omega) (by omega)) rfl rfl ?_
        refine l_q rfl (q_rem_nn rfl rfl rfl (by omega) (by omega)) rfl rfl ?_
        refine l_q rfl (q_eql rfl rfl rfl) rfl rfl ?_
        refine l_q rfl (q_move rfl rfl) rfl rfl ?_
        refine Pre.caseB 43 rfl (fun h14 => ?_) (fun h14 => ?_)
        · try simp only [decide_eq_true_eq, decide_eq_false_iff_not, Bool.not_eq_true', Bool.not_eq_false'] at h14
          refine l_q rfl (q_fieldAddr rfl Try.underlying37 rfl Try.sizeOf3 rfl rfl) rfl rfl ?_
          refine l_q rfl (q_loadC rfl Try.isAgg3 rfl (fun _ h => h.at 0 rfl) rfl) rfl rfl ?_
          refine l_q rfl (q_eql rfl rfl rfl) rfl rfl ?_
          refine l_q rfl (q_pick_t rfl rfl rfl) rfl rfl ?_
          refine l_nil ?_
          refine k_then ?_
          refine Pre.caseB 47 rfl (fun h15 => ?_) (fun h15 => ?_)
          · try simp only [decide_eq_true_eq, decide_eq_false_iff_not, Bool.not_eq_true', Bool.not_eq_false'] at h15
            refine c_true rfl ?_
            refine c_region _ rfl ?_
            refine l_q rfl (q_fieldAddr rfl Try.underlying37 rfl Try.sizeOf9 rfl rfl) rfl rfl ?_
            refine l_q rfl (q_loadC rfl Try.isAgg9 rfl (fun _ h => h.at 0 rfl) rfl) rfl rfl ?_
            refine l_q rfl (q_addS rfl rfl rfl (by first | (show t.size + 9 ≤ _; omega) | (show tv.size + 18 ≤ _; omega) | (show 0 + 18 ≤ _; decide))) rfl rfl ?_
            refine l_q rfl (q_fieldAddr rfl Try.underlying37 rfl Try.sizeOf9 rfl rfl) rfl rfl ?_
            refine l_e rfl ?_
            refine e_store rfl rfl Try.sizeOf9 rfl rfl rfl (by show 2 < 4; decide) ?_
            refine cells_eq (show _ = [.int .i64 (1 + (k : Int) % 4), .string (t ++ (⟨#[49, 50, 51, 52, 53, 54, 55, 56, 57]⟩ : ByteArray)), .string (.empty ++ (⟨#[115, 101, 118, 101, 110, 116, 101, 101, 110, 32, 98, 121, 116, 101, 115, 32, 46, 46]⟩ : ByteArray)), .int .u64 0] from rfl) ?_
            refine l_nil ?_
            refine k_then ?_
            refine c_seq ?_
            refine c_region _ rfl ?_
            refine l_q rfl (q_loadCAgg ([.int .i64 (1 + (k : Int) % 4), .string (t ++ (⟨#[49, 50, 51, 52, 53, 54, 55, 56, 57]⟩ : ByteArray)), .string (.empty ++ (⟨#[115, 101, 118, 101, 110, 116, 101, 101, 110, 32, 98, 121, 116, 101, 115, 32, 46, 46]⟩ : ByteArray)), .int .u64 0]) rfl Try.isAgg37 Try.sizeOf37 rfl (fun _ h => h.at 0 rfl) (rfl) (rfl)) rfl rfl ?_
            refine pull1 ?_
            refine l_e rfl ?_
            refine e_storeAgg rfl rfl Try.sizeOf37 rfl rfl rfl (by intro v hv; simp only [List.mem_cons, List.not_mem_nil, or_false] at hv; rcases hv with rfl | rfl | rfl | rfl <;> rfl) (by show 0 + 4 ≤ 4; decide) ?_
            refine cells_eq (show _ = [.int .i64 (1 + (k : Int) % 4), .string (t ++ (⟨#[49, 50, 51, 52, 53, 54, 55, 56, 57]⟩ : ByteArray)), .string (.empty ++ (⟨#[115, 101, 118, 101, 110, 116, 101, 101, 110, 32, 98, 121, 116, 101, 115, 32, 46, 46]⟩ : ByteArray)), .int .u64 0] from rfl) ?_
            refine l_nil ?_
            refine k_then ?_
            refine c_ret ?_
            refine r_res1 rfl (res_cellA rfl Try.isAgg37 Try.sizeOf37 (fun _ h => h.at 0 rfl) (rfl)) ?_
            exact fun _ h => ⟨⟨(1 + (k : Int) % 4), (t ++ (⟨#[49, 50, 51, 52, 53, 54, 55, 56, 57]⟩ : ByteArray)), (.empty ++ (⟨#[115, 101, 118, 101, 110, 116, 101, 101, 110, 32, 98, 121, 116, 101, 115, 32, 46, 46]⟩ : ByteArray)), 0, wf_small (by omega) (by omega), (by decide), (sz_ok (by first | (show t.size ≤ _; omega) | (show tv.size ≤ _; omega) | (rw [ByteArray.size_append]; show t.size + 9 ≤ _; omega) | (rw [ByteArray.size_append]; show tv.size + 18 ≤ _; omega) | (rw [ByteArray.size_append]; show 0 + 18 ≤ _; decide) | decide)), (sz_ok (by first | (show t.size ≤ _; omega) | (show tv.size ≤ _; omega) | (rw [ByteArray.size_append]; show t.size + 9 ≤ _; omega) | (rw [ByteArray.size_append]; show tv.size + 18 ≤ _; omega) | (rw [ByteArray.size_append]; show 0 + 18 ≤ _; decide) | decide))⟩, rfl, trivial, h.nothing⟩
          · try simp only [decide_eq_true_eq, decide_eq_false_iff_not, Bool.not_eq_true', Bool.not_eq_false'] at h15
            refine c_false rfl ?_
            refine c_skip ?_
            refine k_then ?_
            refine c_seq ?_
            refine c_region _ rfl ?_
            refine l_q rfl (q_loadCAgg ([.int .i64 (1 + (k : Int) % 4), .string (t ++ (⟨#[49, 50, 51, 52, 53, 54, 55, 56, 57]⟩ : ByteArray)), .string .empty, .int .u64 0]) rfl Try.isAgg37 Try.sizeOf37 rfl (fun _ h => h.at 0 rfl) (rfl) (rfl)) rfl rfl ?_
            refine pull1 ?_
            refine l_e rfl ?_
            refine e_storeAgg rfl rfl Try.sizeOf37 rfl rfl rfl (by intro v hv; simp only [List.mem_cons, List.not_mem_nil, or_false] at hv; rcases hv with rfl | rfl | rfl | rfl <;> rfl) (by show 0 + 4 ≤ 4; decide) ?_
            refine cells_eq (show _ = [.int .i64 (1 + (k : Int) % 4), .string (t ++ (⟨#[49, 50, 51, 52, 53, 54, 55, 56, 57]⟩ : ByteArray)), .string .empty, .int .u64 0] from rfl) ?_
            refine l_nil ?_
            refine k_then ?_
            refine c_ret ?_
            refine r_res1 rfl (res_cellA rfl Try.isAgg37 Try.sizeOf37 (fun _ h => h.at 0 rfl) (rfl)) ?_
            exact fun _ h => ⟨⟨(1 + (k : Int) % 4), (t ++ (⟨#[49, 50, 51, 52, 53, 54, 55, 56, 57]⟩ : ByteArray)), .empty, 0, wf_small (by omega) (by omega), (by decide), (sz_ok (by first | (show t.size ≤ _; omega) | (show tv.size ≤ _; omega) | (rw [ByteArray.size_append]; show t.size + 9 ≤ _; omega) | (rw [ByteArray.size_append]; show tv.size + 18 ≤ _; omega) | (rw [ByteArray.size_append]; show 0 + 18 ≤ _; decide) | decide)), (sz_ok (by first | (show t.size ≤ _; omega) | (show tv.size ≤ _; omega) | (rw [ByteArray.size_append]; show t.size + 9 ≤ _; omega) | (rw [ByteArray.size_append]; show tv.size + 18 ≤ _; omega) | (rw [ByteArray.size_append]; show 0 + 18 ≤ _; decide) | decide))⟩, rfl, trivial, h.nothing⟩
        · try simp only [decide_eq_true_eq, decide_eq_false_iff_not, Bool.not_eq_true', Bool.not_eq_false'] at h14
          refine l_not rfl rfl rfl ?_
          refine l_not rfl rfl rfl ?_
          refine l_not rfl rfl rfl ?_
          refine l_q rfl (q_pick_f rfl rfl rfl) rfl rfl ?_
          refine l_nil ?_
          refine k_then ?_
          refine c_false rfl ?_
          refine c_skip ?_
          refine k_then ?_
          refine c_seq ?_
          refine c_region _ rfl ?_
          refine l_q rfl (q_loadCAgg ([.int .i64 (1 + (k : Int) % 4), .string (t ++ (⟨#[49, 50, 51, 52, 53, 54, 55, 56, 57]⟩ : ByteArray)), .string .empty, .int .u64 0]) rfl Try.isAgg37 Try.sizeOf37 rfl (fun _ h => h.at 0 rfl) (rfl) (rfl)) rfl rfl ?_
          refine pull1 ?_
          refine l_e rfl ?_
          refine e_storeAgg rfl rfl Try.sizeOf37 rfl rfl rfl (by intro v hv; simp only [List.mem_cons, List.not_mem_nil, or_false] at hv; rcases hv with rfl | rfl | rfl | rfl <;> rfl) (by show 0 + 4 ≤ 4; decide) ?_
          refine cells_eq (show _ = [.int .i64 (1 + (k : Int) % 4), .string (t ++ (⟨#[49, 50, 51, 52, 53, 54, 55, 56, 57]⟩ : ByteArray)), .string .empty, .int .u64 0] from rfl) ?_
          refine l_nil ?_
          refine k_then ?_
          refine c_ret ?_
          refine r_res1 rfl (res_cellA rfl Try.isAgg37 Try.sizeOf37 (fun _ h => h.at 0 rfl) (rfl)) ?_
          exact fun _ h => ⟨⟨(1 + (k : Int) % 4), (t ++ (⟨#[49, 50, 51, 52, 53, 54, 55, 56, 57]⟩ : ByteArray)), .empty, 0, wf_small (by omega) (by omega), (by decide), (sz_ok (by first | (show t.size ≤ _; omega) | (show tv.size ≤ _; omega) | (rw [ByteArray.size_append]; show t.size + 9 ≤ _; omega) | (rw [ByteArray.size_append]; show tv.size + 18 ≤ _; omega) | (rw [ByteArray.size_append]; show 0 + 18 ≤ _; decide) | decide)), (sz_ok (by first | (show t.size ≤ _; omega) | (show tv.size ≤ _; omega) | (rw [ByteArray.size_append]; show t.size + 9 ≤ _; omega) | (rw [ByteArray.size_append]; show tv.size + 18 ≤ _; omega) | (rw [ByteArray.size_append]; show 0 + 18 ≤ _; decide) | decide))⟩, rfl, trivial, h.nothing⟩
      · try simp only [decide_eq_true_eq, decide_eq_false_iff_not, Bool.not_eq_true', Bool.not_eq_false'] at h13
        refine c_false rfl ?_
        refine c_skip ?_
        refine k_then ?_
        refine c_seq ?_
        refine c_seq ?_
        refine c_region _ rfl ?_
        refine l_q rfl (q_move rfl rfl) rfl rfl ?_
        refine l_q rfl (q_quo_nn rfl rfl rfl (by omega) (by omega) (by omega)) rfl rfl ?_
        refine l_q rfl (q_rem_nn rfl rfl rfl (by omega) (by omega)) rfl rfl ?_
        refine l_q rfl (q_eql rfl rfl rfl) rfl rfl ?_
        refine l_q rfl (q_move rfl rfl) rfl rfl ?_
        refine Pre.caseB 43 rfl (fun h16 => ?_) (fun h16 => ?_)
        · try simp only [decide_eq_true_eq, decide_eq_false_iff_not, Bool.not_eq_true', Bool.not_eq_false'] at h16
          refine l_q rfl (q_fieldAddr rfl Try.underlying37 rfl Try.sizeOf3 rfl rfl) rfl rfl ?_
          refine l_q rfl (q_loadC rfl Try.isAgg3 rfl (fun _ h => h.at 0 rfl) rfl) rfl rfl ?_
          refine l_q rfl (q_eql rfl rfl rfl) rfl rfl ?_
          refine l_q rfl (q_pick_t rfl rfl rfl) rfl rfl ?_
          refine l_nil ?_
          refine k_then ?_
          refine Pre.caseB 47 rfl (fun h17 => ?_) (fun h17 => ?_)
          · try simp only [decide_eq_true_eq, decide_eq_false_iff_not, Bool.not_eq_true', Bool.not_eq_false'] at h17
            refine c_true rfl ?_
            refine c_region _ rfl ?_
            refine l_q rfl (q_fieldAddr rfl Try.underlying37 rfl Try.sizeOf9 rfl rfl) rfl rfl ?_
            refine l_q rfl (q_loadC rfl Try.isAgg9 rfl (fun _ h => h.at 0 rfl) rfl) rfl rfl ?_
            refine l_q rfl (q_addS rfl rfl rfl (by first | (show t.size + 9 ≤ _; omega) | (show tv.size + 18 ≤ _; omega) | (show 0 + 18 ≤ _; decide))) rfl rfl ?_
            refine l_q rfl (q_fieldAddr rfl Try.underlying37 rfl Try.sizeOf9 rfl rfl) rfl rfl ?_
            refine l_e rfl ?_
            refine e_store rfl rfl Try.sizeOf9 rfl rfl rfl (by show 2 < 4; decide) ?_
            refine cells_eq (show _ = [.int .i64 (1 + (k : Int) % 4), .string t, .string (.empty ++ (⟨#[115, 101, 118, 101, 110, 116, 101, 101, 110, 32, 98, 121, 116, 101, 115, 32, 46, 46]⟩ : ByteArray)), .int .u64 0] from rfl) ?_
            refine l_nil ?_
            refine k_then ?_
            refine c_seq ?_
            refine c_region _ rfl ?_
            refine l_q rfl (q_loadCAgg ([.int .i64 (1 + (k : Int) % 4), .string t, .string (.empty ++ (⟨#[115, 101, 118, 101, 110, 116, 101, 101, 110, 32, 98, 121, 116, 101, 115, 32, 46, 46]⟩ : ByteArray)), .int .u64 0]) rfl Try.isAgg37 Try.sizeOf37 rfl (fun _ h => h.at 0 rfl) (rfl) (rfl)) rfl rfl ?_
            refine pull1 ?_
            refine l_e rfl ?_
            refine e_storeAgg rfl rfl Try.sizeOf37 rfl rfl rfl (by intro v hv; simp only [List.mem_cons, List.not_mem_nil, or_false] at hv; rcases hv with rfl | rfl | rfl | rfl <;> rfl) (by show 0 + 4 ≤ 4; decide) ?_
            refine cells_eq (show _ = [.int .i64 (1 + (k : Int) % 4), .string t, .string (.empty ++ (⟨#[115, 101, 118, 101, 110, 116, 101, 101, 110, 32, 98, 121, 116, 101, 115, 32, 46, 46]⟩ : ByteArray)), .int .u64 0] from rfl) ?_
            refine l_nil ?_
            refine k_then ?_
            refine c_ret ?_
            refine r_res1 rfl (res_cellA rfl Try.isAgg37 Try.sizeOf37 (fun _ h => h.at 0 rfl) (rfl)) ?_
            exact fun _ h => ⟨⟨(1 + (k : Int) % 4), t, (.empty ++ (⟨#[115, 101, 118, 101, 110, 116, 101, 101, 110, 32, 98, 121, 116, 101, 115, 32, 46, 46]⟩ : ByteArray)), 0, wf_small (by omega) (by omega), (by decide), (sz_ok (by first | (show t.size ≤ _; omega) | (show tv.size ≤ _; omega) | (rw [ByteArray.size_append]; show t.size + 9 ≤ _; omega) | (rw [ByteArray.size_append]; show tv.size + 18 ≤ _; omega) | (rw [ByteArray.size_append]; show 0 + 18 ≤ _; decide) | decide)), (sz_ok (by first | (show t.size ≤ _; omega) | (show tv.size ≤ _; omega) | (rw [ByteArray.size_append]; show t.size + 9 ≤ _; omega) | (rw [ByteArray.size_append]; show tv.size + 18 ≤ _; omega) | (rw [ByteArray.size_append]; show 0 + 18 ≤ _; decide) | decide))⟩, rfl, trivial, h.nothing⟩
          · try simp only [decide_eq_true_eq, decide_eq_false_iff_not, Bool.not_eq_true', Bool.not_eq_false'] at h17
            refine c_false rfl ?_
            refine c_skip ?_
            refine k_then ?_
            refine c_seq ?_
            refine c_region _ rfl ?_
            refine l_q rfl (q_loadCAgg ([.int .i64 (1 + (k : Int) % 4), .string t, .string .empty, .int .u64 0]) rfl Try.isAgg37 Try.sizeOf37 rfl (fun _ h => h.at 0 rfl) (rfl) (rfl)) rfl rfl ?_
            refine pull1 ?_
            refine l_e rfl ?_
            refine e_storeAgg rfl rfl Try.sizeOf37 rfl rfl rfl (by intro v hv; simp only [List.mem_cons, List.not_mem_nil, or_false] at hv; rcases hv with rfl | rfl | rfl | rfl <;> rfl) (by show 0 + 4 ≤ 4; decide) ?_
            refine cells_eq (show _ = [.int .i64 (1 + (k : Int) % 4), .string t, .string .empty, .int .u64 0] from rfl) ?_
            refine l_nil ?_
            refine k_then ?_
            refine c_ret ?_
            refine r_res1 rfl (res_cellA rfl Try.isAgg37 Try.sizeOf37 (fun _ h => h.at 0 rfl) (rfl)) ?_
            exact fun _ h => ⟨⟨(1 + (k : Int) % 4), t, .empty, 0, wf_small (by omega) (by omega), (by decide), (sz_ok (by first | (show t.size ≤ _; omega) | (show tv.size ≤ _; omega) | (rw [ByteArray.size_append]; show t.size + 9 ≤ _; omega) | (rw [ByteArray.size_append]; show tv.size + 18 ≤ _; omega) | (rw [ByteArray.size_append]; show 0 + 18 ≤ _; decide) | decide)), (sz_ok (by first | (show t.size ≤ _; omega) | (show tv.size ≤ _; omega) | (rw [ByteArray.size_append]; show t.size + 9 ≤ _; omega) | (rw [ByteArray.size_append]; show tv.size + 18 ≤ _; omega) | (rw [ByteArray.size_append]; show 0 + 18 ≤ _; decide) | decide))⟩, rfl, trivial, h.nothing⟩
        · try simp only [decide_eq_true_eq, decide_eq_false_iff_not, Bool.not_eq_true', Bool.not_eq_false'] at h16
          refine l_not rfl rfl rfl ?_
          refine l_not rfl rfl rfl ?_
          refine l_not rfl rfl rfl ?_
          refine l_q rfl (q_pick_f rfl rfl rfl) rfl rfl ?_
          refine l_nil ?_
          refine k_then ?_
          refine c_false rfl ?_
          refine c_skip ?_
          refine k_then ?_
          refine c_seq ?_
          refine c_region _ rfl ?_
          refine l_q rfl (q_loadCAgg ([.int .i64 (1 + (k : Int) % 4), .string t, .string .empty, .int .u64 0]) rfl Try.isAgg37 Try.sizeOf37 rfl (fun _ h => h.at 0 rfl) (rfl) (rfl)) rfl rfl ?_
          refine pull1 ?_
          refine l_e rfl ?_
          refine e_storeAgg rfl rfl Try.sizeOf37 rfl rfl rfl (by intro v hv; simp only [List.mem_cons, List.not_mem_nil, or_false] at hv; rcases hv with rfl | rfl | rfl | rfl <;> rfl) (by show 0 + 4 ≤ 4; decide) ?_
          refine cells_eq (show _ = [.int .i64 (1 + (k : Int) % 4), .string t, .string .empty, .int .u64 0] from rfl) ?_
          refine l_nil ?_
          refine k_then ?_
          refine c_ret ?_
          refine r_res1 rfl (res_cellA rfl Try.isAgg37 Try.sizeOf37 (fun _ h => h.at 0 rfl) (rfl)) ?_
          exact fun _ h => ⟨⟨(1 + (k : Int) % 4), t, .empty, 0, wf_small (by omega) (by omega), (by decide), (sz_ok (by first | (show t.size ≤ _; omega) | (show tv.size ≤ _; omega) | (rw [ByteArray.size_append]; show t.size + 9 ≤ _; omega) | (rw [ByteArray.size_append]; show tv.size + 18 ≤ _; omega) | (rw [ByteArray.size_append]; show 0 + 18 ≤ _; decide) | decide)), (sz_ok (by first | (show t.size ≤ _; omega) | (show tv.size ≤ _; omega) | (rw [ByteArray.size_append]; show t.size + 9 ≤ _; omega) | (rw [ByteArray.size_append]; show tv.size + 18 ≤ _; omega) | (rw [ByteArray.size_append]; show 0 + 18 ≤ _; decide) | decide))⟩, rfl, trivial, h.nothing⟩
end Go.Proofs.Ythfdmeikpbkpaaa
