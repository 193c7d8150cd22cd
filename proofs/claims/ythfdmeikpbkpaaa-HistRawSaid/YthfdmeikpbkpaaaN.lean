/- keys and operations by numbers -/
import Derived.Test.YthfdmeikpbkpaaaL
set_option linter.unusedVariables false
set_option linter.unusedSimpArgs false
namespace Go.Proofs.Ythfdmeikpbkpaaa
open Go.Sep Go.RowKit

section
variable {P : Program} {n : Nat} {L : Env} {X : World → Prop} {o : Oper}
theorem q_addS {t u : TypeId} {x y : Operand} {p q : ByteArray} (ho : o.op = .binOp .add t x y u) (hx : ev L x = some (.string p)) (hy : ev L y = some (.string q)) (hb : p.size + q.size ≤ 9223372036854775807) : QOp P n L X o (.string (p ++ q)) :=
  q_bin ho hx hy (fun w _ => by
    have h : (binOp .add t (.string p) (.string q)).run P w = .ok (.string (p ++ q)) w := by
      have hb' : ¬ ((p.size + q.size : Nat) : Int) > IntKind.i64.max := by
        show ¬ ((p.size + q.size : Nat) : Int) > 9223372036854775807
        omega
      show (Go.Op.stringOp .add p q).run P w = _
      unfold Go.Op.stringOp
      simp only [if_neg hb']; rfl
    exact run_both rfl h)
end
theorem wf_wrap64 (z : Int) : (Lit.int .u64 (IntKind.u64.wrap z)).wf = true := by
  simp only [Lit.wf, Bool.and_eq_true, decide_eq_true_eq, IntKind.wrap_u64]
  exact ⟨by show (0 : Int) ≤ _; omega, by show _ ≤ (2 ^ 64 - 1 : Int); omega⟩
theorem wf_small {z : Int} (h0 : 0 ≤ z) (h1 : z ≤ 65536) : (Lit.int .i64 z).wf = true := by
  simp only [Lit.wf, Bool.and_eq_true, decide_eq_true_eq]
  exact ⟨by show (-2 ^ 63 : Int) ≤ _; omega, by show _ ≤ (2 ^ 63 - 1 : Int); omega⟩
theorem sz_ok {t : ByteArray} (h : t.size ≤ 1000) : t.size ≤ maxLen := Nat.le_trans h (of_decide_eq_true (by kernel_rfl))
set_option maxRecDepth 100000 in
set_option maxHeartbeats 1000000 in
theorem key_ex (v : Int) : Con Try.prog 31 [.int .i64 v] (fun _ => True) [] (fun k : Kv 8 => .agg k.c.toArray) (fun _ => True) (fun _ => []) := by
  intro w hE hH
  refine enter (n := 93) (vs := [.int .i64 v]) (St w [] []) Try.func31 rfl rfl rfl (St.init hH) ?_
  refine c_seq ?_
  refine c_region _ rfl ?_
  refine l_e rfl ?_
  refine e_alloc rfl rfl rfl Try.zeroValue63 ?_
  intro br
  refine cells_eq (show _ = (kv0 8).c from rfl) ?_
  refine l_nil ?_
  refine k_then ?_
  refine c_seq ?_
  refine c_region _ rfl ?_
  refine l_q rfl (q_move rfl rfl) rfl rfl ?_
  refine l_e rfl ?_
  refine e_call_00 (place_spec (v) 1099511627776 (by decide) (by decide)) rfl rfl rfl Try.call9 rfl (fun _ _ => trivial) ?_
  intro _ _
  refine l_q rfl (q_assign rfl rfl) rfl rfl ?_
  refine l_nil ?_
  refine k_then ?_
  refine c_seq ?_
  refine c_region _ rfl ?_
  refine l_q rfl (q_assign rfl rfl) rfl rfl ?_
  refine l_nil ?_
  refine k_then ?_
  refine c_seq ?_
  refine c_seq ?_
  refine c_region _ rfl ?_
  refine l_q rfl (q_move rfl rfl) rfl rfl ?_
  refine l_q rfl (q_rem_nn rfl rfl rfl (by omega) (by omega)) rfl rfl ?_
  refine l_nil ?_
  refine k_then ?_
  refine c_block ?_
  refine c_seq ?_
  refine c_seq ?_
  refine c_region _ rfl ?_
  refine l_q rfl (q_eql rfl rfl rfl) rfl rfl ?_
  refine l_q rfl (q_assign rfl rfl) rfl rfl ?_
  refine l_nil ?_
  refine k_then ?_
  obtain ⟨k, hk, hkb⟩ : ∃ k : Nat, v % 1099511627776 = (k : Int) ∧ k < 1099511627776 := ⟨(v % 1099511627776).toNat, by omega, by omega⟩
  refine Pre.setV (t := 3) (c := .int .i64 (k : Int)) rfl (by rw [hk]) ?_
  refine Pre.caseB 25 rfl (fun h1 => ?_) (fun h1 => ?_)
  · try simp only [decide_eq_true_eq, decide_eq_false_iff_not, Bool.not_eq_true', Bool.not_eq_false'] at h1
    refine c_true rfl ?_
    refine c_skip ?_
    refine k_then ?_
    refine c_true rfl ?_
    refine c_region _ rfl ?_
    refine l_q rfl (q_move rfl rfl) rfl rfl ?_
    refine l_q rfl (q_quo_nn rfl rfl rfl (by omega) (by omega) (by omega)) rfl rfl ?_
    refine l_q rfl (q_rem_nn rfl rfl rfl (by omega) (by omega)) rfl rfl ?_
    refine l_q rfl (q_add64 rfl rfl rfl (by omega)) rfl rfl ?_
    refine l_q rfl (q_conv_in rfl Try.underlying3 Try.underlying5 rfl (wrapu8_in (by omega))) rfl rfl ?_
    refine l_e rfl ?_
    refine e_buildSliceV (sz := 1) [.tmp 33] rfl rfl rfl rfl rfl Try.underlying66 Try.sizeOf5 rfl Try.zeroValue5 rfl ?_
    intro b2
    refine l_q rfl (q_b2s (l := [97 + (k : Int) / 8 % 6]) rfl Try.underlying66 Try.underlying5 Try.underlying9 rfl (fun _ h => lit_rd (h.at 0 rfl) (encI .u8) [97 + (k : Int) / 8 % 6] rfl rfl)) rfl rfl ?_
    refine l_q rfl (q_assign rfl rfl) rfl rfl ?_
    refine l_nil ?_
    refine k_block ?_
    refine k_then ?_
    refine c_seq ?_
    refine c_region _ rfl ?_
    refine l_q rfl (q_move rfl rfl) rfl rfl ?_
    refine drop0 ?_
    refine l_e rfl ?_
    refine e_call_00 (kof_ex _ (by first | (rw [strOf_size]; exact Nat.le_of_ble_eq_true rfl) | (rw [ByteArray.size_extract, strOf_size]; simp only [List.length_cons, List.length_nil]; omega))) rfl rfl rfl Try.call37 rfl (fun _ _ => trivial) ?_
    intro ky _
    refine l_q rfl (q_move rfl rfl) rfl rfl ?_
    refine l_q rfl (q_extract rfl rfl rfl) rfl rfl ?_
    refine l_q rfl (q_extract rfl rfl rfl) rfl rfl ?_
    refine l_e rfl ?_
    refine e_alloc rfl rfl rfl Try.zeroValue63 ?_
    intro bo
    refine cells_eq (show _ = (kv0 8).c from rfl) ?_
    refine l_e rfl ?_
    refine e_storeAgg rfl rfl Try.sizeOf63 rfl rfl (Kv.c_len _) (Kv.one _) (by simp only [Kv.c_len]; decide) ?_
    refine cells_eq (show Sep.splice _ 0 (ky).c = (ky).c from Sep.splice_all (by simp only [Kv.c_len])) ?_
    refine l_q rfl (q_assign rfl rfl) rfl rfl ?_
    refine l_nil ?_
    refine k_then ?_
    refine c_seq ?_
    refine c_region _ rfl ?_
    refine l_q rfl (q_loadCAgg (ky.c) rfl Try.isAgg63 Try.sizeOf63 rfl (fun _ h => h.at 0 rfl) (kv_whole _) (Kv.c_len _)) rfl rfl ?_
    refine pull1 ?_
    refine l_e rfl ?_
    refine e_storeAgg rfl rfl Try.sizeOf63 rfl rfl (Kv.c_len _) (Kv.one _) (by simp only [Kv.c_len]; decide) ?_
    refine cells_eq (show Sep.splice _ 0 (ky).c = (ky).c from Sep.splice_all (by simp only [Kv.c_len])) ?_
    refine l_nil ?_
    refine k_then ?_
    refine c_ret ?_
    refine r_res1 rfl (res_cellA rfl Try.isAgg63 Try.sizeOf63 (fun _ h => h.at 0 rfl) (Kv.c_len _)) ?_
    exact fun _ h => ⟨ky, rfl, trivial, h.nothing⟩
  · try simp only [decide_eq_true_eq, decide_eq_false_iff_not, Bool.not_eq_true', Bool.not_eq_false'] at h1
    refine c_false rfl ?_
    refine c_seq ?_
    refine c_region _ rfl ?_
    refine l_q rfl (q_eql rfl rfl rfl) rfl rfl ?_
    refine l_q rfl (q_assign rfl rfl) rfl rfl ?_
    refine l_nil ?_
    refine k_then ?_
    refine Pre.caseB 25 rfl (fun h3 => ?_) (fun h3 => ?_)
    · try simp only [decide_eq_true_eq, decide_eq_false_iff_not, Bool.not_eq_true', Bool.not_eq_false'] at h3
      refine c_true rfl ?_
      refine c_skip ?_
      refine k_then ?_
      refine c_true rfl ?_
      refine c_region _ rfl ?_
      refine l_q rfl (q_move rfl rfl) rfl rfl ?_
      refine l_q rfl (q_quo_nn rfl rfl rfl (by omega) (by omega) (by omega)) rfl rfl ?_
      refine l_q rfl (q_rem_nn rfl rfl rfl (by omega) (by omega)) rfl rfl ?_
      refine l_q rfl (q_add64 rfl rfl rfl (by omega)) rfl rfl ?_
      refine l_q rfl (q_conv_in rfl Try.underlying3 Try.underlying5 rfl (wrapu8_in (by omega))) rfl rfl ?_
      refine l_e rfl ?_
      refine e_buildSliceV (sz := 1) [.tmp 33] rfl rfl rfl rfl rfl Try.underlying66 Try.sizeOf5 rfl Try.zeroValue5 rfl ?_
      intro b4
      refine l_q rfl (q_b2s (l := [97 + (k : Int) / 8 % 6]) rfl Try.underlying66 Try.underlying5 Try.underlying9 rfl (fun _ h => lit_rd (h.at 0 rfl) (encI .u8) [97 + (k : Int) / 8 % 6] rfl rfl)) rfl rfl ?_
      refine l_q rfl (q_assign rfl rfl) rfl rfl ?_
      refine l_nil ?_
      refine k_block ?_
      refine k_then ?_
      refine c_seq ?_
      refine c_region _ rfl ?_
      refine l_q rfl (q_move rfl rfl) rfl rfl ?_
      refine drop0 ?_
      refine l_e rfl ?_
      refine e_call_00 (kof_ex _ (by first | (rw [strOf_size]; exact Nat.le_of_ble_eq_true rfl) | (rw [ByteArray.size_extract, strOf_size]; simp only [List.length_cons, List.length_nil]; omega))) rfl rfl rfl Try.call37 rfl (fun _ _ => trivial) ?_
      intro ky _
      refine l_q rfl (q_move rfl rfl) rfl rfl ?_
      refine l_q rfl (q_extract rfl rfl rfl) rfl rfl ?_
      refine l_q rfl (q_extract rfl rfl rfl) rfl rfl ?_
      refine l_e rfl ?_
      refine e_alloc rfl rfl rfl Try.zeroValue63 ?_
      intro bo
      refine cells_eq (show _ = (kv0 8).c from rfl) ?_
      refine l_e rfl ?_
      refine e_storeAgg rfl rfl Try.sizeOf63 rfl rfl (Kv.c_len _) (Kv.one _) (by simp only [Kv.c_len]; decide) ?_
      refine cells_eq (show Sep.splice _ 0 (ky).c = (ky).c from Sep.splice_all (by simp only [Kv.c_len])) ?_
      refine l_q rfl (q_assign rfl rfl) rfl rfl ?_
      refine l_nil ?_
      refine k_then ?_
      refine c_seq ?_
      refine c_region _ rfl ?_
      refine l_q rfl (q_loadCAgg (ky.c) rfl Try.isAgg63 Try.sizeOf63 rfl (fun _ h => h.at 0 rfl) (kv_whole _) (Kv.c_len _)) rfl rfl ?_
      refine pull1 ?_
      refine l_e rfl ?_
      refine e_storeAgg rfl rfl Try.sizeOf63 rfl rfl (Kv.c_len _) (Kv.one _) (by simp only [Kv.c_len]; decide) ?_
      refine cells_eq (show Sep.splice _ 0 (ky).c = (ky).c from Sep.splice_all (by simp only [Kv.c_len])) ?_
      refine l_nil ?_
      refine k_then ?_
      refine c_ret ?_
      refine r_res1 rfl (res_cellA rfl Try.isAgg63 Try.sizeOf63 (fun _ h => h.at 0 rfl) (Kv.c_len _)) ?_
      exact fun _ h => ⟨ky, rfl, trivial, h.nothing⟩
    · try simp only [decide_eq_true_eq, decide_eq_false_iff_not, Bool.not_eq_true', Bool.not_eq_false'] at h3
      refine c_false rfl ?_
      refine c_region _ rfl ?_
      refine l_q rfl (q_eql rfl rfl rfl) rfl rfl ?_
      refine l_q rfl (q_assign rfl rfl) rfl rfl ?_
      refine l_nil ?_
      refine k_then ?_
      refine Pre.caseB 25 rfl (fun h5 => ?_) (fun h5 => ?_)
      · try simp only [decide_eq_true_eq, decide_eq_false_iff_not, Bool.not_eq_true', Bool.not_eq_false'] at h5
        refine c_true rfl ?_
        refine c_region _ rfl ?_
        refine l_q rfl (q_move rfl rfl) rfl rfl ?_
        refine l_q rfl (q_quo_nn rfl rfl rfl (by omega) (by omega) (by omega)) rfl rfl ?_
        refine l_q rfl (q_rem_nn rfl rfl rfl (by omega) (by omega)) rfl rfl ?_
        refine l_q rfl (q_add64 rfl rfl rfl (by omega)) rfl rfl ?_
        refine l_q rfl (q_conv_in rfl Try.underlying3 Try.underlying5 rfl (wrapu8_in (by omega))) rfl rfl ?_
        refine l_e rfl ?_
        refine e_buildSliceV (sz := 1) [.tmp 33] rfl rfl rfl rfl rfl Try.underlying66 Try.sizeOf5 rfl Try.zeroValue5 rfl ?_
        intro b6
        refine l_q rfl (q_b2s (l := [97 + (k : Int) / 8 % 6]) rfl Try.underlying66 Try.underlying5 Try.underlying9 rfl (fun _ h => lit_rd (h.at 0 rfl) (encI .u8) [97 + (k : Int) / 8 % 6] rfl rfl)) rfl rfl ?_
        refine l_q rfl (q_assign rfl rfl) rfl rfl ?_
        refine l_nil ?_
        refine k_block ?_
        refine k_then ?_
        refine c_seq ?_
        refine c_region _ rfl ?_
        refine l_q rfl (q_move rfl rfl) rfl rfl ?_
        refine drop0 ?_
        refine l_e rfl ?_
        refine e_call_00 (kof_ex _ (by first | (rw [strOf_size]; exact Nat.le_of_ble_eq_true rfl) | (rw [ByteArray.size_extract, strOf_size]; simp only [List.length_cons, List.length_nil]; omega))) rfl rfl rfl Try.call37 rfl (fun _ _ => trivial) ?_
        intro ky _
        refine l_q rfl (q_move rfl rfl) rfl rfl ?_
        refine l_q rfl (q_extract rfl rfl rfl) rfl rfl ?_
        refine l_q rfl (q_extract rfl rfl rfl) rfl rfl ?_
        refine l_e rfl ?_
        refine e_alloc rfl rfl rfl Try.zeroValue63 ?_
        intro bo
        refine cells_eq (show _ = (kv0 8).c from rfl) ?_
        refine l_e rfl ?_
        refine e_storeAgg rfl rfl Try.sizeOf63 rfl rfl (Kv.c_len _) (Kv.one _) (by simp only [Kv.c_len]; decide) ?_
        refine cells_eq (show Sep.splice _ 0 (ky).c = (ky).c from Sep.splice_all (by simp only [Kv.c_len])) ?_
        refine l_q rfl (q_assign rfl rfl) rfl rfl ?_
        refine l_nil ?_
        refine k_then ?_
        refine c_seq ?_
        refine c_region _ rfl ?_
        refine l_q rfl (q_loadCAgg (ky.c) rfl Try.isAgg63 Try.sizeOf63 rfl (fun _ h => h.at 0 rfl) (kv_whole _) (Kv.c_len _)) rfl rfl ?_
        refine pull1 ?_
        refine l_e rfl ?_
        refine e_storeAgg rfl rfl Try.sizeOf63 rfl rfl (Kv.c_len _) (Kv.one _) (by simp only [Kv.c_len]; decide) ?_
        refine cells_eq (show Sep.splice _ 0 (ky).c = (ky).c from Sep.splice_all (by simp only [Kv.c_len])) ?_
        refine l_nil ?_
        refine k_then ?_
        refine c_ret ?_
        refine r_res1 rfl (res_cellA rfl Try.isAgg63 Try.sizeOf63 (fun _ h => h.at 0 rfl) (Kv.c_len _)) ?_
        exact fun _ h => ⟨ky, rfl, trivial, h.nothing⟩
      · try simp only [decide_eq_true_eq, decide_eq_false_iff_not, Bool.not_eq_true', Bool.not_eq_false'] at h5
        refine c_false rfl ?_
        refine c_seq ?_
        refine c_seq ?_
        refine c_region _ rfl ?_
        refine l_q rfl (q_eql rfl rfl rfl) rfl rfl ?_
        refine l_q rfl (q_assign rfl rfl) rfl rfl ?_
        refine l_nil ?_
        refine k_then ?_
        refine Pre.caseB 36 rfl (fun h7 => ?_) (fun h7 => ?_)
        · try simp only [decide_eq_true_eq, decide_eq_false_iff_not, Bool.not_eq_true', Bool.not_eq_false'] at h7
          refine c_true rfl ?_
          refine c_skip ?_
          refine k_then ?_
          refine c_true rfl ?_
          refine c_region _ rfl ?_
          refine l_q rfl (q_move rfl rfl) rfl rfl ?_
          refine l_q rfl (q_quo_nn rfl rfl rfl (by omega) (by omega) (by omega)) rfl rfl ?_
          refine l_q rfl (q_rem_nn rfl rfl rfl (by omega) (by omega)) rfl rfl ?_
          refine l_q rfl (q_add64 rfl rfl rfl (by omega)) rfl rfl ?_
          refine l_q rfl (q_conv_in rfl Try.underlying3 Try.underlying5 rfl (wrapu8_in (by omega))) rfl rfl ?_
          refine l_q rfl (q_move rfl rfl) rfl rfl ?_
          refine l_q rfl (q_quo_nn rfl rfl rfl (by omega) (by omega) (by omega)) rfl rfl ?_
          refine l_q rfl (q_rem_nn rfl rfl rfl (by omega) (by omega)) rfl rfl ?_
          refine l_q rfl (q_add64 rfl rfl rfl (by omega)) rfl rfl ?_
          refine l_q rfl (q_conv_in rfl Try.underlying3 Try.underlying5 rfl (wrapu8_in (by omega))) rfl rfl ?_
          refine l_e rfl ?_
          refine e_buildSliceV (sz := 1) [.tmp 43, .tmp 48] rfl rfl rfl rfl rfl Try.underlying66 Try.sizeOf5 rfl Try.zeroValue5 rfl ?_
          intro b8
          refine l_q rfl (q_b2s (l := [97 + (k : Int) / 8 % 5, 97 + (k : Int) / 40 % 4]) rfl Try.underlying66 Try.underlying5 Try.underlying9 rfl (fun _ h => lit_rd (h.at 0 rfl) (encI .u8) [97 + (k : Int) / 8 % 5, 97 + (k : Int) / 40 % 4] rfl rfl)) rfl rfl ?_
          refine l_q rfl (q_assign rfl rfl) rfl rfl ?_
          refine l_nil ?_
          refine k_block ?_
          refine k_then ?_
          refine c_seq ?_
          refine c_region _ rfl ?_
          refine l_q rfl (q_move rfl rfl) rfl rfl ?_
          refine drop0 ?_
          refine l_e rfl ?_
          refine e_call_00 (kof_ex _ (by first | (rw [strOf_size]; exact Nat.le_of_ble_eq_true rfl) | (rw [ByteArray.size_extract, strOf_size]; simp only [List.length_cons, List.length_nil]; omega))) rfl rfl rfl Try.call37 rfl (fun _ _ => trivial) ?_
          intro ky _
          refine l_q rfl (q_move rfl rfl) rfl rfl ?_
          refine l_q rfl (q_extract rfl rfl rfl) rfl rfl ?_
          refine l_q rfl (q_extract rfl rfl rfl) rfl rfl ?_
          refine l_e rfl ?_
          refine e_alloc rfl rfl rfl Try.zeroValue63 ?_
          intro bo
          refine cells_eq (show _ = (kv0 8).c from rfl) ?_
          refine l_e rfl ?_
          refine e_storeAgg rfl rfl Try.sizeOf63 rfl rfl (Kv.c_len _) (Kv.one _) (by simp only [Kv.c_len]; decide) ?_
          refine cells_eq (show Sep.splice _ 0 (ky).c = (ky).c from Sep.splice_all (by simp only [Kv.c_len])) ?_
          refine l_q rfl (q_assign rfl rfl) rfl rfl ?_
          refine l_nil ?_
          refine k_then ?_
          refine c_seq ?_
          refine c_region _ rfl ?_
          refine l_q rfl (q_loadCAgg (ky.c) rfl Try.isAgg63 Try.sizeOf63 rfl (fun _ h => h.at 0 rfl) (kv_whole _) (Kv.c_len _)) rfl rfl ?_
          refine pull1 ?_
          refine l_e rfl ?_
          refine e_storeAgg rfl rfl Try.sizeOf63 rfl rfl (Kv.c_len _) (Kv.one _) (by simp only [Kv.c_len]; decide) ?_
          refine cells_eq (show Sep.splice _ 0 (ky).c = (ky).c from Sep.splice_all (by simp only [Kv.c_len])) ?_
          refine l_nil ?_
          refine k_then ?_
          refine c_ret ?_
          refine r_res1 rfl (res_cellA rfl Try.isAgg63 Try.sizeOf63 (fun _ h => h.at 0 rfl) (Kv.c_len _)) ?_
          exact fun _ h => ⟨ky, rfl, trivial, h.nothing⟩
        · try simp only [decide_eq_true_eq, decide_eq_false_iff_not, Bool.not_eq_true', Bool.not_eq_false'] at h7
          refine c_false rfl ?_
          refine c_region _ rfl ?_
          refine l_q rfl (q_eql rfl rfl rfl) rfl rfl ?_
          refine l_q rfl (q_assign rfl rfl) rfl rfl ?_
          refine l_nil ?_
          refine k_then ?_
          refine Pre.caseB 36 rfl (fun h9 => ?_) (fun h9 => ?_)
          · try simp only [decide_eq_true_eq, decide_eq_false_iff_not, Bool.not_eq_true', Bool.not_eq_false'] at h9
            refine c_true rfl ?_
            refine c_region _ rfl ?_
            refine l_q rfl (q_move rfl rfl) rfl rfl ?_
            refine l_q rfl (q_quo_nn rfl rfl rfl (by omega) (by omega) (by omega)) rfl rfl ?_
            refine l_q rfl (q_rem_nn rfl rfl rfl (by omega) (by omega)) rfl rfl ?_
            refine l_q rfl (q_add64 rfl rfl rfl (by omega)) rfl rfl ?_
            refine l_q rfl (q_conv_in rfl Try.underlying3 Try.underlying5 rfl (wrapu8_in (by omega))) rfl rfl ?_
            refine l_q rfl (q_move rfl rfl) rfl rfl ?_
            refine l_q rfl (q_quo_nn rfl rfl rfl (by omega) (by omega) (by omega)) rfl rfl ?_
            refine l_q rfl (q_rem_nn rfl rfl rfl (by omega) (by omega)) rfl rfl ?_
            refine l_q rfl (q_add64 rfl rfl rfl (by omega)) rfl rfl ?_
            refine l_q rfl (q_conv_in rfl Try.underlying3 Try.underlying5 rfl (wrapu8_in (by omega))) rfl rfl ?_
            refine l_e rfl ?_
            refine e_buildSliceV (sz := 1) [.tmp 43, .tmp 48] rfl rfl rfl rfl rfl Try.underlying66 Try.sizeOf5 rfl Try.zeroValue5 rfl ?_
            intro b10
            refine l_q rfl (q_b2s (l := [97 + (k : Int) / 8 % 5, 97 + (k : Int) / 40 % 4]) rfl Try.underlying66 Try.underlying5 Try.underlying9 rfl (fun _ h => lit_rd (h.at 0 rfl) (encI .u8) [97 + (k : Int) / 8 % 5, 97 + (k : Int) / 40 % 4] rfl rfl)) rfl rfl ?_
            refine l_q rfl (q_assign rfl rfl) rfl rfl ?_
            refine l_nil ?_
            refine k_block ?_
            refine k_then ?_
            refine c_seq ?_
            refine c_region _ rfl ?_
            refine l_q rfl (q_move rfl rfl) rfl rfl ?_
            refine drop0 ?_
            refine l_e rfl ?_
            refine e_call_00 (kof_ex _ (by first | (rw [strOf_size]; exact Nat.le_of_ble_eq_true rfl) | (rw [ByteArray.size_extract, strOf_size]; simp only [List.length_cons, List.length_nil]; omega))) rfl rfl rfl Try.call37 rfl (fun _ _ => trivial) ?_
            intro ky _
            refine l_q rfl (q_move rfl rfl) rfl rfl ?_
            refine l_q rfl (q_extract rfl rfl rfl) rfl rfl ?_
            refine l_q rfl (q_extract rfl rfl rfl) rfl rfl ?_
            refine l_e rfl ?_
            refine e_alloc rfl rfl rfl Try.zeroValue63 ?_
            intro bo
            refine cells_eq (show _ = (kv0 8).c from rfl) ?_
            refine l_e rfl ?_
            refine e_storeAgg rfl rfl Try.sizeOf63 rfl rfl (Kv.c_len _) (Kv.one _) (by simp only [Kv.c_len]; decide) ?_
            refine cells_eq (show Sep.splice _ 0 (ky).c = (ky).c from Sep.splice_all (by simp only [Kv.c_len])) ?_
            refine l_q rfl (q_assign rfl rfl) rfl rfl ?_
            refine l_nil ?_
            refine k_then ?_
            refine c_seq ?_
            refine c_region _ rfl ?_
            refine l_q rfl (q_loadCAgg (ky.c) rfl Try.isAgg63 Try.sizeOf63 rfl (fun _ h => h.at 0 rfl) (kv_whole _) (Kv.c_len _)) rfl rfl ?_
            refine pull1 ?_
            refine l_e rfl ?_
            refine e_storeAgg rfl rfl Try.sizeOf63 rfl rfl (Kv.c_len _) (Kv.one _) (by simp only [Kv.c_len]; decide) ?_
            refine cells_eq (show Sep.splice _ 0 (ky).c = (ky).c from Sep.splice_all (by simp only [Kv.c_len])) ?_
            refine l_nil ?_
            refine k_then ?_
            refine c_ret ?_
            refine r_res1 rfl (res_cellA rfl Try.isAgg63 Try.sizeOf63 (fun _ h => h.at 0 rfl) (Kv.c_len _)) ?_
            exact fun _ h => ⟨ky, rfl, trivial, h.nothing⟩
          · try simp only [decide_eq_true_eq, decide_eq_false_iff_not, Bool.not_eq_true', Bool.not_eq_false'] at h9
            refine c_false rfl ?_
            refine c_seq ?_
            refine c_region _ rfl ?_
            refine l_q rfl (q_eql rfl rfl rfl) rfl rfl ?_
            refine l_q rfl (q_assign rfl rfl) rfl rfl ?_
            refine l_nil ?_
            refine k_then ?_
            refine Pre.caseB 51 rfl (fun h11 => ?_) (fun h11 => ?_)
            · try simp only [decide_eq_true_eq, decide_eq_false_iff_not, Bool.not_eq_true', Bool.not_eq_false'] at h11
              refine c_true rfl ?_
              refine c_region _ rfl ?_
              refine l_q rfl (q_move rfl rfl) rfl rfl ?_
              refine l_q rfl (q_quo_nn rfl rfl rfl (by omega) (by omega) (by omega)) rfl rfl ?_
              refine l_q rfl (q_rem_nn rfl rfl rfl (by omega) (by omega)) rfl rfl ?_
              refine l_q rfl (q_add64 rfl rfl rfl (by omega)) rfl rfl ?_
              refine l_q rfl (q_conv_in rfl Try.underlying3 Try.underlying5 rfl (wrapu8_in (by omega))) rfl rfl ?_
              refine l_q rfl (q_move rfl rfl) rfl rfl ?_
              refine l_q rfl (q_quo_nn rfl rfl rfl (by omega) (by omega) (by omega)) rfl rfl ?_
              refine l_q rfl (q_rem_nn rfl rfl rfl (by omega) (by omega)) rfl rfl ?_
              refine l_q rfl (q_conv_in rfl Try.underlying3 Try.underlying5 rfl (wrapu8_in (by omega))) rfl rfl ?_
              refine l_q rfl (q_move rfl rfl) rfl rfl ?_
              refine l_q rfl (q_quo_nn rfl rfl rfl (by omega) (by omega) (by omega)) rfl rfl ?_
              refine l_q rfl (q_rem_nn rfl rfl rfl (by omega) (by omega)) rfl rfl ?_
              refine l_q rfl (q_conv_in rfl Try.underlying3 Try.underlying5 rfl (wrapu8_in (by omega))) rfl rfl ?_
              refine l_q rfl (q_move rfl rfl) rfl rfl ?_
              refine l_q rfl (q_quo_nn rfl rfl rfl (by omega) (by omega) (by omega)) rfl rfl ?_
              refine l_q rfl (q_rem_nn rfl rfl rfl (by omega) (by omega)) rfl rfl ?_
              refine l_q rfl (q_add64 rfl rfl rfl (by omega)) rfl rfl ?_
              refine l_q rfl (q_conv_in rfl Try.underlying3 Try.underlying5 rfl (wrapu8_in (by omega))) rfl rfl ?_
              refine l_e rfl ?_
              refine e_buildSliceV (sz := 1) [.tmp 57, .const (.int .u8 0), .tmp 61, .tmp 65, .const (.int .u8 255), .const (.int .u8 120), .const (.int .u8 121), .tmp 70] rfl rfl rfl rfl rfl Try.underlying66 Try.sizeOf5 rfl Try.zeroValue5 rfl ?_
              intro b12
              refine l_q rfl (q_b2s (l := [97 + (k : Int) / 8 % 4, 0, (k : Int) / 32 % 256, (k : Int) / 8192 % 4, 255, 120, 121, 97 + (k : Int) / 32768 % 3]) rfl Try.underlying66 Try.underlying5 Try.underlying9 rfl (fun _ h => lit_rd (h.at 0 rfl) (encI .u8) [97 + (k : Int) / 8 % 4, 0, (k : Int) / 32 % 256, (k : Int) / 8192 % 4, 255, 120, 121, 97 + (k : Int) / 32768 % 3] rfl rfl)) rfl rfl ?_
              refine l_q rfl (q_assign rfl rfl) rfl rfl ?_
              refine l_nil ?_
              refine k_block ?_
              refine k_then ?_
              refine c_seq ?_
              refine c_region _ rfl ?_
              refine l_q rfl (q_move rfl rfl) rfl rfl ?_
              refine drop0 ?_
              refine l_e rfl ?_
              refine e_call_00 (kof_ex _ (by first | (rw [strOf_size]; exact Nat.le_of_ble_eq_true rfl) | (rw [ByteArray.size_extract, strOf_size]; simp only [List.length_cons, List.length_nil]; omega))) rfl rfl rfl Try.call37 rfl (fun _ _ => trivial) ?_
              intro ky _
              refine l_q rfl (q_move rfl rfl) rfl rfl ?_
              refine l_q rfl (q_extract rfl rfl rfl) rfl rfl ?_
              refine l_q rfl (q_extract rfl rfl rfl) rfl rfl ?_
              refine l_e rfl ?_
              refine e_alloc rfl rfl rfl Try.zeroValue63 ?_
              intro bo
              refine cells_eq (show _ = (kv0 8).c from rfl) ?_
              refine l_e rfl ?_
              refine e_storeAgg rfl rfl Try.sizeOf63 rfl rfl (Kv.c_len _) (Kv.one _) (by simp only [Kv.c_len]; decide) ?_
              refine cells_eq (show Sep.splice _ 0 (ky).c = (ky).c from Sep.splice_all (by simp only [Kv.c_len])) ?_
              refine l_q rfl (q_assign rfl rfl) rfl rfl ?_
              refine l_nil ?_
              refine k_then ?_
              refine c_seq ?_
              refine c_region _ rfl ?_
              refine l_q rfl (q_loadCAgg (ky.c) rfl Try.isAgg63 Try.sizeOf63 rfl (fun _ h => h.at 0 rfl) (kv_whole _) (Kv.c_len _)) rfl rfl ?_
              refine pull1 ?_
              refine l_e rfl ?_
              refine e_storeAgg rfl rfl Try.sizeOf63 rfl rfl (Kv.c_len _) (Kv.one _) (by simp only [Kv.c_len]; decide) ?_
              refine cells_eq (show Sep.splice _ 0 (ky).c = (ky).c from Sep.splice_all (by simp only [Kv.c_len])) ?_
              refine l_nil ?_
              refine k_then ?_
              refine c_ret ?_
              refine r_res1 rfl (res_cellA rfl Try.isAgg63 Try.sizeOf63 (fun _ h => h.at 0 rfl) (Kv.c_len _)) ?_
              exact fun _ h => ⟨ky, rfl, trivial, h.nothing⟩
            · try simp only [decide_eq_true_eq, decide_eq_false_iff_not, Bool.not_eq_true', Bool.not_eq_false'] at h11
              refine c_false rfl ?_
              refine c_seq ?_
              refine c_region _ rfl ?_
              refine l_q rfl (q_eql rfl rfl rfl) rfl rfl ?_
              refine l_q rfl (q_assign rfl rfl) rfl rfl ?_
              refine l_nil ?_
              refine k_then ?_
              refine Pre.caseB 73 rfl (fun h13 => ?_) (fun h13 => ?_)
              · try simp only [decide_eq_true_eq, decide_eq_false_iff_not, Bool.not_eq_true', Bool.not_eq_false'] at h13
                refine c_true rfl ?_
                refine c_region _ rfl ?_
                refine l_q rfl (q_move rfl rfl) rfl rfl ?_
                refine l_q rfl (q_quo_nn rfl rfl rfl (by omega) (by omega) (by omega)) rfl rfl ?_
                refine l_q rfl (q_rem_nn rfl rfl rfl (by omega) (by omega)) rfl rfl ?_
                refine l_q rfl (q_add64 rfl rfl rfl (by omega)) rfl rfl ?_
                refine l_q rfl (q_conv_in rfl Try.underlying3 Try.underlying5 rfl (wrapu8_in (by omega))) rfl rfl ?_
                refine l_q rfl (q_move rfl rfl) rfl rfl ?_
                refine l_q rfl (q_quo_nn rfl rfl rfl (by omega) (by omega) (by omega)) rfl rfl ?_
                refine l_q rfl (q_rem_nn rfl rfl rfl (by omega) (by omega)) rfl rfl ?_
                refine l_q rfl (q_add64 rfl rfl rfl (by omega)) rfl rfl ?_
                refine l_q rfl (q_conv_in rfl Try.underlying3 Try.underlying5 rfl (wrapu8_in (by omega))) rfl rfl ?_
                refine l_e rfl ?_
                refine e_buildSliceV (sz := 1) [.tmp 79, .const (.int .u8 108), .const (.int .u8 111), .const (.int .u8 110), .const (.int .u8 103), .const (.int .u8 101), .const (.int .u8 114), .tmp 84] rfl rfl rfl rfl rfl Try.underlying66 Try.sizeOf5 rfl Try.zeroValue5 rfl ?_
                intro b14
                refine l_q rfl (q_b2s (l := [98 + (k : Int) / 8 % 3, 108, 111, 110, 103, 101, 114, 48 + (k : Int) / 24 % 9]) rfl Try.underlying66 Try.underlying5 Try.underlying9 rfl (fun _ h => lit_rd (h.at 0 rfl) (encI .u8) [98 + (k : Int) / 8 % 3, 108, 111, 110, 103, 101, 114, 48 + (k : Int) / 24 % 9] rfl rfl)) rfl rfl ?_
                refine l_q rfl (q_assign rfl rfl) rfl rfl ?_
                refine l_nil ?_
                refine k_block ?_
                refine k_then ?_
                refine c_seq ?_
                refine c_region _ rfl ?_
                refine l_q rfl (q_move rfl rfl) rfl rfl ?_
                refine drop0 ?_
                refine l_e rfl ?_
                refine e_call_00 (kof_ex _ (by first | (rw [strOf_size]; exact Nat.le_of_ble_eq_true rfl) | (rw [ByteArray.size_extract, strOf_size]; simp only [List.length_cons, List.length_nil]; omega))) rfl rfl rfl Try.call37 rfl (fun _ _ => trivial) ?_
                intro ky _
                refine l_q rfl (q_move rfl rfl) rfl rfl ?_
                refine l_q rfl (q_extract rfl rfl rfl) rfl rfl ?_
                refine l_q rfl (q_extract rfl rfl rfl) rfl rfl ?_
                refine l_e rfl ?_
                refine e_alloc rfl rfl rfl Try.zeroValue63 ?_
                intro bo
                refine cells_eq (show _ = (kv0 8).c from rfl) ?_
                refine l_e rfl ?_
                refine e_storeAgg rfl rfl Try.sizeOf63 rfl rfl (Kv.c_len _) (Kv.one _) (by simp only [Kv.c_len]; decide) ?_
                refine cells_eq (show Sep.splice _ 0 (ky).c = (ky).c from Sep.splice_all (by simp only [Kv.c_len])) ?_
                refine l_q rfl (q_assign rfl rfl) rfl rfl ?_
                refine l_nil ?_
                refine k_then ?_
                refine c_seq ?_
                refine c_region _ rfl ?_
                refine l_q rfl (q_loadCAgg (ky.c) rfl Try.isAgg63 Try.sizeOf63 rfl (fun _ h => h.at 0 rfl) (kv_whole _) (Kv.c_len _)) rfl rfl ?_
                refine pull1 ?_
                refine l_e rfl ?_
                refine e_storeAgg rfl rfl Try.sizeOf63 rfl rfl (Kv.c_len _) (Kv.one _) (by simp only [Kv.c_len]; decide) ?_
                refine cells_eq (show Sep.splice _ 0 (ky).c = (ky).c from Sep.splice_all (by simp only [Kv.c_len])) ?_
                refine l_nil ?_
                refine k_then ?_
                refine c_ret ?_
                refine r_res1 rfl (res_cellA rfl Try.isAgg63 Try.sizeOf63 (fun _ h => h.at 0 rfl) (Kv.c_len _)) ?_
                exact fun _ h => ⟨ky, rfl, trivial, h.nothing⟩
              · try simp only [decide_eq_true_eq, decide_eq_false_iff_not, Bool.not_eq_true', Bool.not_eq_false'] at h13
                refine c_false rfl ?_
                refine c_region _ rfl ?_
                refine l_q rfl (q_move rfl rfl) rfl rfl ?_
                refine l_q rfl (q_quo_nn rfl rfl rfl (by omega) (by omega) (by omega)) rfl rfl ?_
                refine l_q rfl (q_rem_nn rfl rfl rfl (by omega) (by omega)) rfl rfl ?_
                refine l_q rfl (q_conv_in rfl Try.underlying3 Try.underlying5 rfl (wrapu8_in (by omega))) rfl rfl ?_
                refine l_q rfl (q_move rfl rfl) rfl rfl ?_
                refine l_q rfl (q_quo_nn rfl rfl rfl (by omega) (by omega) (by omega)) rfl rfl ?_
                refine l_q rfl (q_rem_nn rfl rfl rfl (by omega) (by omega)) rfl rfl ?_
                refine l_q rfl (q_conv_in rfl Try.underlying3 Try.underlying5 rfl (wrapu8_in (by omega))) rfl rfl ?_
                refine l_e rfl ?_
                refine e_buildSliceV (sz := 1) [.tmp 14, .tmp 18] rfl rfl rfl rfl rfl Try.underlying66 Try.sizeOf5 rfl Try.zeroValue5 rfl ?_
                intro b15
                refine l_q rfl (q_b2s (l := [(k : Int) / 8 % 256, (k : Int) / 2048 % 256]) rfl Try.underlying66 Try.underlying5 Try.underlying9 rfl (fun _ h => lit_rd (h.at 0 rfl) (encI .u8) [(k : Int) / 8 % 256, (k : Int) / 2048 % 256] rfl rfl)) rfl rfl ?_
                refine l_q rfl (q_move rfl rfl) rfl rfl ?_
                refine l_q rfl (q_quo_nn rfl rfl rfl (by omega) (by omega) (by omega)) rfl rfl ?_
                refine l_q rfl (q_rem_nn rfl rfl rfl (by omega) (by omega)) rfl rfl ?_
                refine l_q rfl (q_sliceSH (((k : Int) / 524288 % 3).toNat) rfl Try.underlying9 rfl rfl (by omega) (by rw [strOf_size]; simp only [List.length_cons, List.length_nil]; omega)) rfl rfl ?_
                refine l_q rfl (q_assign rfl rfl) rfl rfl ?_
                refine l_nil ?_
                refine k_block ?_
                refine k_then ?_
                refine c_seq ?_
                refine c_region _ rfl ?_
                refine l_q rfl (q_move rfl rfl) rfl rfl ?_
                refine drop0 ?_
                refine l_e rfl ?_
                refine e_call_00 (kof_ex _ (by first | (rw [strOf_size]; exact Nat.le_of_ble_eq_true rfl) | (rw [ByteArray.size_extract, strOf_size]; simp only [List.length_cons, List.length_nil]; omega))) rfl rfl rfl Try.call37 rfl (fun _ _ => trivial) ?_
                intro ky _
                refine l_q rfl (q_move rfl rfl) rfl rfl ?_
                refine l_q rfl (q_extract rfl rfl rfl) rfl rfl ?_
                refine l_q rfl (q_extract rfl rfl rfl) rfl rfl ?_
                refine l_e rfl ?_
                refine e_alloc rfl rfl rfl Try.zeroValue63 ?_
                intro bo
                refine cells_eq (show _ = (kv0 8).c from rfl) ?_
                refine l_e rfl ?_
                refine e_storeAgg rfl rfl Try.sizeOf63 rfl rfl (Kv.c_len _) (Kv.one _) (by simp only [Kv.c_len]; decide) ?_
                refine cells_eq (show Sep.splice _ 0 (ky).c = (ky).c from Sep.splice_all (by simp only [Kv.c_len])) ?_
                refine l_q rfl (q_assign rfl rfl) rfl rfl ?_
                refine l_nil ?_
                refine k_then ?_
                refine c_seq ?_
                refine c_region _ rfl ?_
                refine l_q rfl (q_loadCAgg (ky.c) rfl Try.isAgg63 Try.sizeOf63 rfl (fun _ h => h.at 0 rfl) (kv_whole _) (Kv.c_len _)) rfl rfl ?_
                refine pull1 ?_
                refine l_e rfl ?_
                refine e_storeAgg rfl rfl Try.sizeOf63 rfl rfl (Kv.c_len _) (Kv.one _) (by simp only [Kv.c_len]; decide) ?_
                refine cells_eq (show Sep.splice _ 0 (ky).c = (ky).c from Sep.splice_all (by simp only [Kv.c_len])) ?_
                refine l_nil ?_
                refine k_then ?_
                refine c_ret ?_
                refine r_res1 rfl (res_cellA rfl Try.isAgg63 Try.sizeOf63 (fun _ h => h.at 0 rfl) (Kv.c_len _)) ?_
                exact fun _ h => ⟨ky, rfl, trivial, h.nothing⟩
end Go.Proofs.Ythfdmeikpbkpaaa
