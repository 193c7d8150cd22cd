/- keys, values, messages by numbers: Key, Value, Msg -/
import Derived.Test.YtmnokoepimhelaaG
set_option linter.unusedVariables false
set_option linter.unusedSimpArgs false
namespace Go.Proofs.Ytmnokoepimhelaa
open Go.Sep Go.RowKit

theorem ext8 {s : ByteArray} {h : Nat} (hs : s.size ≤ 8) : (s.extract 0 h).size ≤ 8 := by rw [ByteArray.size_extract]; omega
theorem b_one (l : List Int) (h : l.length ≤ 8) : (strOfNums l).size ≤ 8 := by rw [strOfNums_size]; exact h
theorem rvof_ex (s : ByteArray) (hs : s.size ≤ 16) : Con Try.prog 29 [.string s] (fun _ => True) [] (fun k : Kv 16 => .tuple #[.agg k.c.toArray, .int .i64 0]) (fun k => vck k = true) (fun _ => []) := fun w hE hH =>
  (rof_ok s w hs).mono (fun e w' ⟨he, hb⟩ => ⟨⟨s.size, Go.Proofs.Ytmnokoepimhelaa.pad (byt s) 16, pad_length _ _ (by rw [byt_length]; exact hs), wf_n8 (by omega), wf_pad 16 (byt_wf s)⟩, he, by
    have hl := byt_length s
    have := vcheck_nat s.size (Go.Proofs.Ytmnokoepimhelaa.pad (byt s) 16) hs
    show vcheck _ _ = true
    rw [this, decide_eq_true_eq]
    congr 1
    unfold Go.Proofs.Ytmnokoepimhelaa.pad
    rw [List.take_append_of_le_length (by omega), List.take_of_length_le (by omega)], ⟨HP.nil w', fun b hb' => (by cases hb'), ⟨hb.os, hb.tape, hb.output, hb.size, fun b hb' _ => hb.block b hb'⟩⟩⟩)
set_option maxRecDepth 100000 in
set_option maxHeartbeats 1000000 in
theorem key_spec (v : Int) : Con Try.prog 21 [.int .i64 v] (fun _ => True) [] (fun k : Kv 8 => .agg k.c.toArray) (fun k => kck k = true ∧ (v = 0 → k.n = 1)) (fun _ => []) := by
  intro w hE hH
  refine enter (n := 93) (vs := [.int .i64 v]) (St w [] []) Try.func21 rfl rfl rfl (St.init hH) ?_
  refine c_seq ?_
  refine c_region _ rfl ?_
  refine l_e rfl ?_
  refine e_alloc rfl rfl rfl Try.zeroValue25 ?_
  intro br
  refine cells_eq (show _ = (kv0 8).c from rfl) ?_
  refine l_nil ?_
  refine k_then ?_
  refine c_seq ?_
  refine c_region _ rfl ?_
  refine l_q rfl (q_move rfl rfl) rfl rfl ?_
  refine l_e rfl ?_
  refine e_call_00 (place_spec (v) 1099511627776 (by decide) (by decide)) rfl rfl rfl Try.call28 rfl (fun _ _ => trivial) ?_
  intro _ _
  refine l_q rfl (q_assign rfl rfl) rfl rfl ?_
  refine l_nil ?_
  refine k_then ?_
  refine c_seq ?_
  refine c_region _ rfl ?_
  refine l_q rfl (q_assign rfl rfl) rfl rfl ?_
  refine l_nil ?_
  refine k_then ?_
  refine c_seq ?_
  refine c_seq ?_
  refine c_region _ rfl ?_
  refine l_q rfl (q_move rfl rfl) rfl rfl ?_
  refine l_q rfl (q_rem_nn rfl rfl rfl (by omega) (by omega)) rfl rfl ?_
  refine l_nil ?_
  refine k_then ?_
  refine c_block ?_
  refine c_seq ?_
  refine c_seq ?_
  refine c_region _ rfl ?_
  refine l_q rfl (q_eql rfl rfl rfl) rfl rfl ?_
  refine l_q rfl (q_assign rfl rfl) rfl rfl ?_
  refine l_nil ?_
  refine k_then ?_
  obtain ⟨k, hk, hkb⟩ : ∃ k : Nat, v % 1099511627776 = (k : Int) ∧ k < 1099511627776 := ⟨(v % 1099511627776).toNat, by omega, by omega⟩
  refine Pre.setV (t := 3) (c := .int .i64 (k : Int)) rfl (by rw [hk]) ?_
  refine Pre.caseB 25 rfl (fun h1 => ?_) (fun h1 => ?_)
  · try simp only [decide_eq_true_eq, decide_eq_false_iff_not, Bool.not_eq_true', Bool.not_eq_false'] at h1
    refine c_true rfl ?_
    refine c_skip ?_
    refine k_then ?_
    refine c_true rfl ?_
    refine c_region _ rfl ?_
    refine l_q rfl (q_move rfl rfl) rfl rfl ?_
    refine l_q rfl (q_quo_nn rfl rfl rfl (by omega) (by omega) (by omega)) rfl rfl ?_
    refine l_q rfl (q_rem_nn rfl rfl rfl (by omega) (by omega)) rfl rfl ?_
    refine l_q rfl (q_add64 rfl rfl rfl (by omega)) rfl rfl ?_
    refine l_q rfl (q_conv_in rfl Try.underlying3 Try.underlying5 rfl (wrapu8_in (by omega))) rfl rfl ?_
    refine l_e rfl ?_
    refine e_buildSliceV (sz := 1) [.tmp 33] rfl rfl rfl rfl rfl Try.underlying52 Try.sizeOf5 rfl Try.zeroValue5 rfl ?_
    intro b2
    refine l_q rfl (q_b2s (l := [97 + (k : Int) / 8 % 6]) rfl Try.underlying52 Try.underlying5 Try.underlying9 rfl (fun _ h => lit_rd (h.at 0 rfl) (encI .u8) [97 + (k : Int) / 8 % 6] rfl rfl)) rfl rfl ?_
    refine l_q rfl (q_assign rfl rfl) rfl rfl ?_
    refine l_nil ?_
    refine k_block ?_
    refine k_then ?_
    refine c_seq ?_
    refine c_region _ rfl ?_
    refine l_q rfl (q_move rfl rfl) rfl rfl ?_
    refine drop0 ?_
    refine l_e rfl ?_
    refine e_call_00 (rof_ex _ (b_one _ (Nat.le_of_ble_eq_true rfl))) rfl rfl rfl Try.call30 rfl (fun _ _ => trivial) ?_
    intro ky hky
    refine l_q rfl (q_move rfl rfl) rfl rfl ?_
    refine l_q rfl (q_extract rfl rfl rfl) rfl rfl ?_
    refine l_q rfl (q_extract rfl rfl rfl) rfl rfl ?_
    refine l_e rfl ?_
    refine e_alloc rfl rfl rfl Try.zeroValue25 ?_
    intro bo
    refine cells_eq (show _ = (kv0 8).c from rfl) ?_
    refine l_e rfl ?_
    refine e_storeAgg rfl rfl Try.sizeOf25 rfl rfl (Kv.c_len _) (Kv.one _) (by simp only [Kv.c_len, Ms.c_len]; decide) ?_
    refine cells_eq (show _ = ky.c from Sep.splice_all (by simp only [Kv.c_len, Ms.c_len])) ?_
    refine l_q rfl (q_assign rfl rfl) rfl rfl ?_
    refine l_nil ?_
    refine k_then ?_
    refine c_seq ?_
    refine c_region _ rfl ?_
    refine l_q rfl (q_loadCAgg (ky.c) rfl Try.isAgg25 Try.sizeOf25 rfl (fun _ h => h.at 0 rfl) (kv_whole _) (Kv.c_len _)) rfl rfl ?_
    refine pull1 ?_
    refine l_e rfl ?_
    refine e_storeAgg rfl rfl Try.sizeOf25 rfl rfl (Kv.c_len _) (Kv.one _) (by simp only [Kv.c_len, Ms.c_len]; decide) ?_
    refine cells_eq (show _ = ky.c from Sep.splice_all (by simp only [Kv.c_len, Ms.c_len])) ?_
    refine l_nil ?_
    refine k_then ?_
    refine c_ret ?_
    refine r_res1 rfl (res_cellA rfl Try.isAgg25 Try.sizeOf25 (fun _ h => h.at 0 rfl) (Kv.c_len _)) ?_
    exact fun _ h => ⟨ky, rfl, ⟨hky.1, fun h0 => by have := hky.2; (try simp only [strOfNums_size, List.length_cons, List.length_nil] at this); omega⟩, h.nothing⟩
  · try simp only [decide_eq_true_eq, decide_eq_false_iff_not, Bool.not_eq_true', Bool.not_eq_false'] at h1
    refine c_false rfl ?_
    refine c_seq ?_
    refine c_region _ rfl ?_
    refine l_q rfl (q_eql rfl rfl rfl) rfl rfl ?_
    refine l_q rfl (q_assign rfl rfl) rfl rfl ?_
    refine l_nil ?_
    refine k_then ?_
    refine Pre.caseB 25 rfl (fun h3 => ?_) (fun h3 => ?_)
    · try simp only [decide_eq_true_eq, decide_eq_false_iff_not, Bool.not_eq_true', Bool.not_eq_false'] at h3
      refine c_true rfl ?_
      refine c_skip ?_
      refine k_then ?_
      refine c_true rfl ?_
      refine c_region _ rfl ?_
      refine l_q rfl (q_move rfl rfl) rfl rfl ?_
      refine l_q rfl (q_quo_nn rfl rfl rfl (by omega) (by omega) (by omega)) rfl rfl ?_
      refine l_q rfl (q_rem_nn rfl rfl rfl (by omega) (by omega)) rfl rfl ?_
      refine l_q rfl (q_add64 rfl rfl rfl (by omega)) rfl rfl ?_
      refine l_q rfl (q_conv_in rfl Try.underlying3 Try.underlying5 rfl (wrapu8_in (by omega))) rfl rfl ?_
      refine l_e rfl ?_
      refine e_buildSliceV (sz := 1) [.tmp 33] rfl rfl rfl rfl rfl Try.underlying52 Try.sizeOf5 rfl Try.zeroValue5 rfl ?_
      intro b4
      refine l_q rfl (q_b2s (l := [97 + (k : Int) / 8 % 6]) rfl Try.underlying52 Try.underlying5 Try.underlying9 rfl (fun _ h => lit_rd (h.at 0 rfl) (encI .u8) [97 + (k : Int) / 8 % 6] rfl rfl)) rfl rfl ?_
      refine l_q rfl (q_assign rfl rfl) rfl rfl ?_
      refine l_nil ?_
      refine k_block ?_
      refine k_then ?_
      refine c_seq ?_
      refine c_region _ rfl ?_
      refine l_q rfl (q_move rfl rfl) rfl rfl ?_
      refine drop0 ?_
      refine l_e rfl ?_
      refine e_call_00 (rof_ex _ (b_one _ (Nat.le_of_ble_eq_true rfl))) rfl rfl rfl Try.call30 rfl (fun _ _ => trivial) ?_
      intro ky hky
      refine l_q rfl (q_move rfl rfl) rfl rfl ?_
      refine l_q rfl (q_extract rfl rfl rfl) rfl rfl ?_
      refine l_q rfl (q_extract rfl rfl rfl) rfl rfl ?_
      refine l_e rfl ?_
      refine e_alloc rfl rfl rfl Try.zeroValue25 ?_
      intro bo
      refine cells_eq (show _ = (kv0 8).c from rfl) ?_
      refine l_e rfl ?_
      refine e_storeAgg rfl rfl Try.sizeOf25 rfl rfl (Kv.c_len _) (Kv.one _) (by simp only [Kv.c_len, Ms.c_len]; decide) ?_
      refine cells_eq (show _ = ky.c from Sep.splice_all (by simp only [Kv.c_len, Ms.c_len])) ?_
      refine l_q rfl (q_assign rfl rfl) rfl rfl ?_
      refine l_nil ?_
      refine k_then ?_
      refine c_seq ?_
      refine c_region _ rfl ?_
      refine l_q rfl (q_loadCAgg (ky.c) rfl Try.isAgg25 Try.sizeOf25 rfl (fun _ h => h.at 0 rfl) (kv_whole _) (Kv.c_len _)) rfl rfl ?_
      refine pull1 ?_
      refine l_e rfl ?_
      refine e_storeAgg rfl rfl Try.sizeOf25 rfl rfl (Kv.c_len _) (Kv.one _) (by simp only [Kv.c_len, Ms.c_len]; decide) ?_
      refine cells_eq (show _ = ky.c from Sep.splice_all (by simp only [Kv.c_len, Ms.c_len])) ?_
      refine l_nil ?_
      refine k_then ?_
      refine c_ret ?_
      refine r_res1 rfl (res_cellA rfl Try.isAgg25 Try.sizeOf25 (fun _ h => h.at 0 rfl) (Kv.c_len _)) ?_
      exact fun _ h => ⟨ky, rfl, ⟨hky.1, fun h0 => by have := hky.2; (try simp only [strOfNums_size, List.length_cons, List.length_nil] at this); omega⟩, h.nothing⟩
    · try simp only [decide_eq_true_eq, decide_eq_false_iff_not, Bool.not_eq_true', Bool.not_eq_false'] at h3
      refine c_false rfl ?_
      refine c_region _ rfl ?_
      refine l_q rfl (q_eql rfl rfl rfl) rfl rfl ?_
      refine l_q rfl (q_assign rfl rfl) rfl rfl ?_
      refine l_nil ?_
      refine k_then ?_
      refine Pre.caseB 25 rfl (fun h5 => ?_) (fun h5 => ?_)
      · try simp only [decide_eq_true_eq, decide_eq_false_iff_not, Bool.not_eq_true', Bool.not_eq_false'] at h5
        refine c_true rfl ?_
        refine c_region _ rfl ?_
        refine l_q rfl (q_move rfl rfl) rfl rfl ?_
        refine l_q rfl (q_quo_nn rfl rfl rfl (by omega) (by omega) (by omega)) rfl rfl ?_
        refine l_q rfl (q_rem_nn rfl rfl rfl (by omega) (by omega)) rfl rfl ?_
        refine l_q rfl (q_add64 rfl rfl rfl (by omega)) rfl rfl ?_
        refine l_q rfl (q_conv_in rfl Try.underlying3 Try.underlying5 rfl (wrapu8_in (by omega))) rfl rfl ?_
        refine l_e rfl ?_
        refine e_buildSliceV (sz := 1) [.tmp 33] rfl rfl rfl rfl rfl Try.underlying52 Try.sizeOf5 rfl Try.zeroValue5 rfl ?_
        intro b6
        refine l_q rfl (q_b2s (l := [97 + (k : Int) / 8 % 6]) rfl Try.underlying52 Try.underlying5 Try.underlying9 rfl (fun _ h => lit_rd (h.at 0 rfl) (encI .u8) [97 + (k : Int) / 8 % 6] rfl rfl)) rfl rfl ?_
        refine l_q rfl (q_assign rfl rfl) rfl rfl ?_
        refine l_nil ?_
        refine k_block ?_
        refine k_then ?_
        refine c_seq ?_
        refine c_region _ rfl ?_
        refine l_q rfl (q_move rfl rfl) rfl rfl ?_
        refine drop0 ?_
        refine l_e rfl ?_
        refine e_call_00 (rof_ex _ (b_one _ (Nat.le_of_ble_eq_true rfl))) rfl rfl rfl Try.call30 rfl (fun _ _ => trivial) ?_
        intro ky hky
        refine l_q rfl (q_move rfl rfl) rfl rfl ?_
        refine l_q rfl (q_extract rfl rfl rfl) rfl rfl ?_
        refine l_q rfl (q_extract rfl rfl rfl) rfl rfl ?_
        refine l_e rfl ?_
        refine e_alloc rfl rfl rfl Try.zeroValue25 ?_
        intro bo
        refine cells_eq (show _ = (kv0 8).c from rfl) ?_
        refine l_e rfl ?_
        refine e_storeAgg rfl rfl Try.sizeOf25 rfl rfl (Kv.c_len _) (Kv.one _) (by simp only [Kv.c_len, Ms.c_len]; decide) ?_
        refine cells_eq (show _ = ky.c from Sep.splice_all (by simp only [Kv.c_len, Ms.c_len])) ?_
        refine l_q rfl (q_assign rfl rfl) rfl rfl ?_
        refine l_nil ?_
        refine k_then ?_
        refine c_seq ?_
        refine c_region _ rfl ?_
        refine l_q rfl (q_loadCAgg (ky.c) rfl Try.isAgg25 Try.sizeOf25 rfl (fun _ h => h.at 0 rfl) (kv_whole _) (Kv.c_len _)) rfl rfl ?_
        refine pull1 ?_
        refine l_e rfl ?_
        refine e_storeAgg rfl rfl Try.sizeOf25 rfl rfl (Kv.c_len _) (Kv.one _) (by simp only [Kv.c_len, Ms.c_len]; decide) ?_
        refine cells_eq (show _ = ky.c from Sep.splice_all (by simp only [Kv.c_len, Ms.c_len])) ?_
        refine l_nil ?_
        refine k_then ?_
        refine c_ret ?_
        refine r_res1 rfl (res_cellA rfl Try.isAgg25 Try.sizeOf25 (fun _ h => h.at 0 rfl) (Kv.c_len _)) ?_
        exact fun _ h => ⟨ky, rfl, ⟨hky.1, fun h0 => by have := hky.2; (try simp only [strOfNums_size, List.length_cons, List.length_nil] at this); omega⟩, h.nothing⟩
      · try simp only [decide_eq_true_eq, decide_eq_false_iff_not, Bool.not_eq_true', Bool.not_eq_false'] at h5
        refine c_false rfl ?_
        refine c_seq ?_
        refine c_seq ?_
        refine c_region _ rfl ?_
        refine l_q rfl (q_eql rfl rfl rfl) rfl rfl ?_
        refine l_q rfl (q_assign rfl rfl) rfl rfl ?_
        refine l_nil ?_
        refine k_then ?_
        refine Pre.caseB 36 rfl (fun h7 => ?_) (fun h7 => ?_)
        · try simp only [decide_eq_true_eq, decide_eq_false_iff_not, Bool.not_eq_true', Bool.not_eq_false'] at h7
          refine c_true rfl ?_
          refine c_skip ?_
          refine k_then ?_
          refine c_true rfl ?_
          refine c_region _ rfl ?_
          refine l_q rfl (q_move rfl rfl) rfl rfl ?_
          refine l_q rfl (q_quo_nn rfl rfl rfl (by omega) (by omega) (by omega)) rfl rfl ?_
          refine l_q rfl (q_rem_nn rfl rfl rfl (by omega) (by omega)) rfl rfl ?_
          refine l_q rfl (q_add64 rfl rfl rfl (by omega)) rfl rfl ?_
          refine l_q rfl (q_conv_in rfl Try.underlying3 Try.underlying5 rfl (wrapu8_in (by omega))) rfl rfl ?_
          refine l_q rfl (q_move rfl rfl) rfl rfl ?_
          refine l_q rfl (q_quo_nn rfl rfl rfl (by omega) (by omega) (by omega)) rfl rfl ?_
          refine l_q rfl (q_rem_nn rfl rfl rfl (by omega) (by omega)) rfl rfl ?_
          refine l_q rfl (q_add64 rfl rfl rfl (by omega)) rfl rfl ?_
          refine l_q rfl (q_conv_in rfl Try.underlying3 Try.underlying5 rfl (wrapu8_in (by omega))) rfl rfl ?_
          refine l_e rfl ?_
          refine e_buildSliceV (sz := 1) [.tmp 43, .tmp 48] rfl rfl rfl rfl rfl Try.underlying52 Try.sizeOf5 rfl Try.zeroValue5 rfl ?_
          intro b8
          refine l_q rfl (q_b2s (l := [97 + (k : Int) / 8 % 5, 97 + (k : Int) / 40 % 4]) rfl Try.underlying52 Try.underlying5 Try.underlying9 rfl (fun _ h => lit_rd (h.at 0 rfl) (encI .u8) [97 + (k : Int) / 8 % 5, 97 + (k : Int) / 40 % 4] rfl rfl)) rfl rfl ?_
          refine l_q rfl (q_assign rfl rfl) rfl rfl ?_
          refine l_nil ?_
          refine k_block ?_
          refine k_then ?_
          refine c_seq ?_
          refine c_region _ rfl ?_
          refine l_q rfl (q_move rfl rfl) rfl rfl ?_
          refine drop0 ?_
          refine l_e rfl ?_
          refine e_call_00 (rof_ex _ (b_one _ (Nat.le_of_ble_eq_true rfl))) rfl rfl rfl Try.call30 rfl (fun _ _ => trivial) ?_
          intro ky hky
          refine l_q rfl (q_move rfl rfl) rfl rfl ?_
          refine l_q rfl (q_extract rfl rfl rfl) rfl rfl ?_
          refine l_q rfl (q_extract rfl rfl rfl) rfl rfl ?_
          refine l_e rfl ?_
          refine e_alloc rfl rfl rfl Try.zeroValue25 ?_
          intro bo
          refine cells_eq (show _ = (kv0 8).c from rfl) ?_
          refine l_e rfl ?_
          refine e_storeAgg rfl rfl Try.sizeOf25 rfl rfl (Kv.c_len _) (Kv.one _) (by simp only [Kv.c_len, Ms.c_len]; decide) ?_
          refine cells_eq (show _ = ky.c from Sep.splice_all (by simp only [Kv.c_len, Ms.c_len])) ?_
          refine l_q rfl (q_assign rfl rfl) rfl rfl ?_
          refine l_nil ?_
          refine k_then ?_
          refine c_seq ?_
          refine c_region _ rfl ?_
          refine l_q rfl (q_loadCAgg (ky.c) rfl Try.isAgg25 Try.sizeOf25 rfl (fun _ h => h.at 0 rfl) (kv_whole _) (Kv.c_len _)) rfl rfl ?_
          refine pull1 ?_
          refine l_e rfl ?_
          refine e_storeAgg rfl rfl Try.sizeOf25 rfl rfl (Kv.c_len _) (Kv.one _) (by simp only [Kv.c_len, Ms.c_len]; decide) ?_
          refine cells_eq (show _ = ky.c from Sep.splice_all (by simp only [Kv.c_len, Ms.c_len])) ?_
          refine l_nil ?_
          refine k_then ?_
          refine c_ret ?_
          refine r_res1 rfl (res_cellA rfl Try.isAgg25 Try.sizeOf25 (fun _ h => h.at 0 rfl) (Kv.c_len _)) ?_
          exact fun _ h => ⟨ky, rfl, ⟨hky.1, fun h0 => by have := hky.2; (try simp only [strOfNums_size, List.length_cons, List.length_nil] at this); omega⟩, h.nothing⟩
        · try simp only [decide_eq_true_eq, decide_eq_false_iff_not, Bool.not_eq_true', Bool.not_eq_false'] at h7
          refine c_false rfl ?_
          refine c_region _ rfl ?_
          refine l_q rfl (q_eql rfl rfl rfl) rfl rfl ?_
          refine l_q rfl (q_assign rfl rfl) rfl rfl ?_
          refine l_nil ?_
          refine k_then ?_
          refine Pre.caseB 36 rfl (fun h9 => ?_) (fun h9 => ?_)
          · try simp only [decide_eq_true_eq, decide_eq_false_iff_not, Bool.not_eq_true', Bool.not_eq_false'] at h9
            refine c_true rfl ?_
            refine c_region _ rfl ?_
            refine l_q rfl (q_move rfl rfl) rfl rfl ?_
            refine l_q rfl (q_quo_nn rfl rfl rfl (by omega) (by omega) (by omega)) rfl rfl ?_
            refine l_q rfl (q_rem_nn rfl rfl rfl (by omega) (by omega)) rfl rfl ?_
            refine l_q rfl (q_add64 rfl rfl rfl (by omega)) rfl rfl ?_
            refine l_q rfl (q_conv_in rfl Try.underlying3 Try.underlying5 rfl (wrapu8_in (by omega))) rfl rfl ?_
            refine l_q rfl (q_move rfl rfl) rfl rfl ?_
            refine l_q rfl (q_quo_nn rfl rfl rfl (by omega) (by omega) (by omega)) rfl rfl ?_
            refine l_q rfl (q_rem_nn rfl rfl rfl (by omega) (by omega)) rfl rfl ?_
            refine l_q rfl (q_add64 rfl rfl rfl (by omega)) rfl rfl ?_
            refine l_q rfl (q_conv_in rfl Try.underlying3 Try.underlying5 rfl (wrapu8_in (by omega))) rfl rfl ?_
            refine l_e rfl ?_
            refine e_buildSliceV (sz := 1) [.tmp 43, .tmp 48] rfl rfl rfl rfl rfl Try.underlying52 Try.sizeOf5 rfl Try.zeroValue5 rfl ?_
            intro b10
            refine l_q rfl (q_b2s (l := [97 + (k : Int) / 8 % 5, 97 + (k : Int) / 40 % 4]) rfl Try.underlying52 Try.underlying5 Try.underlying9 rfl (fun _ h => lit_rd (h.at 0 rfl) (encI .u8) [97 + (k : Int) / 8 % 5, 97 + (k : Int) / 40 % 4] rfl rfl)) rfl rfl ?_
            refine l_q rfl (q_assign rfl rfl) rfl rfl ?_
            refine l_nil ?_
            refine k_block ?_
            refine k_then ?_
            refine c_seq ?_
            refine c_region _ rfl ?_
            refine l_q rfl (q_move rfl rfl) rfl rfl ?_
            refine drop0 ?_
            refine l_e rfl ?_
            refine e_call_00 (rof_ex _ (b_one _ (Nat.le_of_ble_eq_true rfl))) rfl rfl rfl Try.call30 rfl (fun _ _ => trivial) ?_
            intro ky hky
            refine l_q rfl (q_move rfl rfl) rfl rfl ?_
            refine l_q rfl (q_extract rfl rfl rfl) rfl rfl ?_
            refine l_q rfl (q_extract rfl rfl rfl) rfl rfl ?_
            refine l_e rfl ?_
            refine e_alloc rfl rfl rfl Try.zeroValue25 ?_
            intro bo
            refine cells_eq (show _ = (kv0 8).c from rfl) ?_
            refine l_e rfl ?_
            refine e_storeAgg rfl rfl Try.sizeOf25 rfl rfl (Kv.c_len _) (Kv.one _) (by simp only [Kv.c_len, Ms.c_len]; decide) ?_
            refine cells_eq (show _ = ky.c from Sep.splice_all (by simp only [Kv.c_len, Ms.c_len])) ?_
            refine l_q rfl (q_assign rfl rfl) rfl rfl ?_
            refine l_nil ?_
            refine k_then ?_
            refine c_seq ?_
            refine c_region _ rfl ?_
            refine l_q rfl (q_loadCAgg (ky.c) rfl Try.isAgg25 Try.sizeOf25 rfl (fun _ h => h.at 0 rfl) (kv_whole _) (Kv.c_len _)) rfl rfl ?_
            refine pull1 ?_
            refine l_e rfl ?_
            refine e_storeAgg rfl rfl Try.sizeOf25 rfl rfl (Kv.c_len _) (Kv.one _) (by simp only [Kv.c_len, Ms.c_len]; decide) ?_
            refine cells_eq (show _ = ky.c from Sep.splice_all (by simp only [Kv.c_len, Ms.c_len])) ?_
            refine l_nil ?_
            refine k_then ?_
            refine c_ret ?_
            refine r_res1 rfl (res_cellA rfl Try.isAgg25 Try.sizeOf25 (fun _ h => h.at 0 rfl) (Kv.c_len _)) ?_
            exact fun _ h => ⟨ky, rfl, ⟨hky.1, fun h0 => by have := hky.2; (try simp only [strOfNums_size, List.length_cons, List.length_nil] at this); omega⟩, h.nothing⟩
          · try simp only [decide_eq_true_eq, decide_eq_false_iff_not, Bool.not_eq_true', Bool.not_eq_false'] at h9
            refine c_false rfl ?_
            refine c_seq ?_
            refine c_region _ rfl ?_
            refine l_q rfl (q_eql rfl rfl rfl) rfl rfl ?_
            refine l_q rfl (q_assign rfl rfl) rfl rfl ?_
            refine l_nil ?_
            refine k_then ?_
            refine Pre.caseB 51 rfl (fun h11 => ?_) (fun h11 => ?_)
            · try simp only [decide_eq_true_eq, decide_eq_false_iff_not, Bool.not_eq_true', Bool.not_eq_false'] at h11
              refine c_true rfl ?_
              refine c_region _ rfl ?_
              refine l_q rfl (q_move rfl rfl) rfl rfl ?_
              refine l_q rfl (q_quo_nn rfl rfl rfl (by omega) (by omega) (by omega)) rfl rfl ?_
              refine l_q rfl (q_rem_nn rfl rfl rfl (by omega) (by omega)) rfl rfl ?_
              refine l_q rfl (q_add64 rfl rfl rfl (by omega)) rfl rfl ?_
              refine l_q rfl (q_conv_in rfl Try.underlying3 Try.underlying5 rfl (wrapu8_in (by omega))) rfl rfl ?_
              refine l_q rfl (q_move rfl rfl) rfl rfl ?_
              refine l_q rfl (q_quo_nn rfl rfl rfl (by omega) (by omega) (by omega)) rfl rfl ?_
              refine l_q rfl (q_rem_nn rfl rfl rfl (by omega) (by omega)) rfl rfl ?_
              refine l_q rfl (q_conv_in rfl Try.underlying3 Try.underlying5 rfl (wrapu8_in (by omega))) rfl rfl ?_
              refine l_q rfl (q_move rfl rfl) rfl rfl ?_
              refine l_q rfl (q_quo_nn rfl rfl rfl (by omega) (by omega) (by omega)) rfl rfl ?_
              refine l_q rfl (q_rem_nn rfl rfl rfl (by omega) (by omega)) rfl rfl ?_
              refine l_q rfl (q_conv_in rfl Try.underlying3 Try.underlying5 rfl (wrapu8_in (by omega))) rfl rfl ?_
              refine l_q rfl (q_move rfl rfl) rfl rfl ?_
              refine l_q rfl (q_quo_nn rfl rfl rfl (by omega) (by omega) (by omega)) rfl rfl ?_
              refine l_q rfl (q_rem_nn rfl rfl rfl (by omega) (by omega)) rfl rfl ?_
              refine l_q rfl (q_add64 rfl rfl rfl (by omega)) rfl rfl ?_
              refine l_q rfl (q_conv_in rfl Try.underlying3 Try.underlying5 rfl (wrapu8_in (by omega))) rfl rfl ?_
              refine l_e rfl ?_
              refine e_buildSliceV (sz := 1) [.tmp 57, .const (.int .u8 0), .tmp 61, .tmp 65, .const (.int .u8 255), .const (.int .u8 120), .const (.int .u8 121), .tmp 70] rfl rfl rfl rfl rfl Try.underlying52 Try.sizeOf5 rfl Try.zeroValue5 rfl ?_
              intro b12
              refine l_q rfl (q_b2s (l := [97 + (k : Int) / 8 % 4, 0, (k : Int) / 32 % 256, (k : Int) / 8192 % 4, 255, 120, 121, 97 + (k : Int) / 32768 % 3]) rfl Try.underlying52 Try.underlying5 Try.underlying9 rfl (fun _ h => lit_rd (h.at 0 rfl) (encI .u8) [97 + (k : Int) / 8 % 4, 0, (k : Int) / 32 % 256, (k : Int) / 8192 % 4, 255, 120, 121, 97 + (k : Int) / 32768 % 3] rfl rfl)) rfl rfl ?_
              refine l_q rfl (q_assign rfl rfl) rfl rfl ?_
              refine l_nil ?_
              refine k_block ?_
              refine k_then ?_
              refine c_seq ?_
              refine c_region _ rfl ?_
              refine l_q rfl (q_move rfl rfl) rfl rfl ?_
              refine drop0 ?_
              refine l_e rfl ?_
              refine e_call_00 (rof_ex _ (b_one _ (Nat.le_of_ble_eq_true rfl))) rfl rfl rfl Try.call30 rfl (fun _ _ => trivial) ?_
              intro ky hky
              refine l_q rfl (q_move rfl rfl) rfl rfl ?_
              refine l_q rfl (q_extract rfl rfl rfl) rfl rfl ?_
              refine l_q rfl (q_extract rfl rfl rfl) rfl rfl ?_
              refine l_e rfl ?_
              refine e_alloc rfl rfl rfl Try.zeroValue25 ?_
              intro bo
              refine cells_eq (show _ = (kv0 8).c from rfl) ?_
              refine l_e rfl ?_
              refine e_storeAgg rfl rfl Try.sizeOf25 rfl rfl (Kv.c_len _) (Kv.one _) (by simp only [Kv.c_len, Ms.c_len]; decide) ?_
              refine cells_eq (show _ = ky.c from Sep.splice_all (by simp only [Kv.c_len, Ms.c_len])) ?_
              refine l_q rfl (q_assign rfl rfl) rfl rfl ?_
              refine l_nil ?_
              refine k_then ?_
              refine c_seq ?_
              refine c_region _ rfl ?_
              refine l_q rfl (q_loadCAgg (ky.c) rfl Try.isAgg25 Try.sizeOf25 rfl (fun _ h => h.at 0 rfl) (kv_whole _) (Kv.c_len _)) rfl rfl ?_
              refine pull1 ?_
              refine l_e rfl ?_
              refine e_storeAgg rfl rfl Try.sizeOf25 rfl rfl (Kv.c_len _) (Kv.one _) (by simp only [Kv.c_len, Ms.c_len]; decide) ?_
              refine cells_eq (show _ = ky.c from Sep.splice_all (by simp only [Kv.c_len, Ms.c_len])) ?_
              refine l_nil ?_
              refine k_then ?_
              refine c_ret ?_
              refine r_res1 rfl (res_cellA rfl Try.isAgg25 Try.sizeOf25 (fun _ h => h.at 0 rfl) (Kv.c_len _)) ?_
              exact fun _ h => ⟨ky, rfl, ⟨hky.1, fun h0 => by have := hky.2; (try simp only [strOfNums_size, List.length_cons, List.length_nil] at this); omega⟩, h.nothing⟩
            · try simp only [decide_eq_true_eq, decide_eq_false_iff_not, Bool.not_eq_true', Bool.not_eq_false'] at h11
              refine c_false rfl ?_
              refine c_seq ?_
              refine c_region _ rfl ?_
              refine l_q rfl (q_eql rfl rfl rfl) rfl rfl ?_
              refine l_q rfl (q_assign rfl rfl) rfl rfl ?_
              refine l_nil ?_
              refine k_then ?_
              refine Pre.caseB 73 rfl (fun h13 => ?_) (fun h13 => ?_)
              · try simp only [decide_eq_true_eq, decide_eq_false_iff_not, Bool.not_eq_true', Bool.not_eq_false'] at h13
                refine c_true rfl ?_
                refine c_region _ rfl ?_
                refine l_q rfl (q_move rfl rfl) rfl rfl ?_
                refine l_q rfl (q_quo_nn rfl rfl rfl (by omega) (by omega) (by omega)) rfl rfl ?_
                refine l_q rfl (q_rem_nn rfl rfl rfl (by omega) (by omega)) rfl rfl ?_
                refine l_q rfl (q_add64 rfl rfl rfl (by omega)) rfl rfl ?_
                refine l_q rfl (q_conv_in rfl Try.underlying3 Try.underlying5 rfl (wrapu8_in (by omega))) rfl rfl ?_
                refine l_q rfl (q_move rfl rfl) rfl rfl ?_
                refine l_q rfl (q_quo_nn rfl rfl rfl (by omega) (by omega) (by omega)) rfl rfl ?_
                refine l_q rfl (q_rem_nn rfl rfl rfl (by omega) (by omega)) rfl rfl ?_
                refine l_q rfl (q_add64 rfl rfl rfl (by omega)) rfl rfl ?_
                refine l_q rfl (q_conv_in rfl Try.underlying3 Try.underlying5 rfl (wrapu8_in (by omega))) rfl rfl ?_
                refine l_e rfl ?_
                refine e_buildSliceV (sz := 1) [.tmp 79, .const (.int .u8 108), .const (.int .u8 111), .const (.int .u8 110), .const (.int .u8 103), .const (.int .u8 101), .const (.int .u8 114), .tmp 84] rfl rfl rfl rfl rfl Try.underlying52 Try.sizeOf5 rfl Try.zeroValue5 rfl ?_
                intro b14
                refine l_q rfl (q_b2s (l := [98 + (k : Int) / 8 % 3, 108, 111, 110, 103, 101, 114, 48 + (k : Int) / 24 % 9]) rfl Try.underlying52 Try.underlying5 Try.underlying9 rfl (fun _ h => lit_rd (h.at 0 rfl) (encI .u8) [98 + (k : Int) / 8 % 3, 108, 111, 110, 103, 101, 114, 48 + (k : Int) / 24 % 9] rfl rfl)) rfl rfl ?_
                refine l_q rfl (q_assign rfl rfl) rfl rfl ?_
                refine l_nil ?_
                refine k_block ?_
                refine k_then ?_
                refine c_seq ?_
                refine c_region _ rfl ?_
                refine l_q rfl (q_move rfl rfl) rfl rfl ?_
                refine drop0 ?_
                refine l_e rfl ?_
                refine e_call_00 (rof_ex _ (b_one _ (Nat.le_of_ble_eq_true rfl))) rfl rfl rfl Try.call30 rfl (fun _ _ => trivial) ?_
                intro ky hky
                refine l_q rfl (q_move rfl rfl) rfl rfl ?_
                refine l_q rfl (q_extract rfl rfl rfl) rfl rfl ?_
                refine l_q rfl (q_extract rfl rfl rfl) rfl rfl ?_
                refine l_e rfl ?_
                refine e_alloc rfl rfl rfl Try.zeroValue25 ?_
                intro bo
                refine cells_eq (show _ = (kv0 8).c from rfl) ?_
                refine l_e rfl ?_
                refine e_storeAgg rfl rfl Try.sizeOf25 rfl rfl (Kv.c_len _) (Kv.one _) (by simp only [Kv.c_len, Ms.c_len]; decide) ?_
                refine cells_eq (show _ = ky.c from Sep.splice_all (by simp only [Kv.c_len, Ms.c_len])) ?_
                refine l_q rfl (q_assign rfl rfl) rfl rfl ?_
                refine l_nil ?_
                refine k_then ?_
                refine c_seq ?_
                refine c_region _ rfl ?_
                refine l_q rfl (q_loadCAgg (ky.c) rfl Try.isAgg25 Try.sizeOf25 rfl (fun _ h => h.at 0 rfl) (kv_whole _) (Kv.c_len _)) rfl rfl ?_
                refine pull1 ?_
                refine l_e rfl ?_
                refine e_storeAgg rfl rfl Try.sizeOf25 rfl rfl (Kv.c_len _) (Kv.one _) (by simp only [Kv.c_len, Ms.c_len]; decide) ?_
                refine cells_eq (show _ = ky.c from Sep.splice_all (by simp only [Kv.c_len, Ms.c_len])) ?_
                refine l_nil ?_
                refine k_then ?_
                refine c_ret ?_
                refine r_res1 rfl (res_cellA rfl Try.isAgg25 Try.sizeOf25 (fun _ h => h.at 0 rfl) (Kv.c_len _)) ?_
                exact fun _ h => ⟨ky, rfl, ⟨hky.1, fun h0 => by have := hky.2; (try simp only [strOfNums_size, List.length_cons, List.length_nil] at this); omega⟩, h.nothing⟩
              · try simp only [decide_eq_true_eq, decide_eq_false_iff_not, Bool.not_eq_true', Bool.not_eq_false'] at h13
                refine c_false rfl ?_
                refine c_region _ rfl ?_
                refine l_q rfl (q_move rfl rfl) rfl rfl ?_
                refine l_q rfl (q_quo_nn rfl rfl rfl (by omega) (by omega) (by omega)) rfl rfl ?_
                refine l_q rfl (q_rem_nn rfl rfl rfl (by omega) (by omega)) rfl rfl ?_
                refine l_q rfl (q_conv_in rfl Try.underlying3 Try.underlying5 rfl (wrapu8_in (by omega))) rfl rfl ?_
                refine l_q rfl (q_move rfl rfl) rfl rfl ?_
                refine l_q rfl (q_quo_nn rfl rfl rfl (by omega) (by omega) (by omega)) rfl rfl ?_
                refine l_q rfl (q_rem_nn rfl rfl rfl (by omega) (by omega)) rfl rfl ?_
                refine l_q rfl (q_conv_in rfl Try.underlying3 Try.underlying5 rfl (wrapu8_in (by omega))) rfl rfl ?_
                refine l_e rfl ?_
                refine e_buildSliceV (sz := 1) [.tmp 14, .tmp 18] rfl rfl rfl rfl rfl Try.underlying52 Try.sizeOf5 rfl Try.zeroValue5 rfl ?_
                intro b15
                refine l_q rfl (q_b2s (l := [(k : Int) / 8 % 256, (k : Int) / 2048 % 256]) rfl Try.underlying52 Try.underlying5 Try.underlying9 rfl (fun _ h => lit_rd (h.at 0 rfl) (encI .u8) [(k : Int) / 8 % 256, (k : Int) / 2048 % 256] rfl rfl)) rfl rfl ?_
                refine l_q rfl (q_move rfl rfl) rfl rfl ?_
                refine l_q rfl (q_quo_nn rfl rfl rfl (by omega) (by omega) (by omega)) rfl rfl ?_
                refine l_q rfl (q_rem_nn rfl rfl rfl (by omega) (by omega)) rfl rfl ?_
                refine l_q rfl (q_sliceSH (((k : Int) / 524288 % 3).toNat) rfl Try.underlying9 rfl rfl (by omega) (by rw [strOfNums_size]; simp only [List.length_cons, List.length_nil]; omega)) rfl rfl ?_
                refine l_q rfl (q_assign rfl rfl) rfl rfl ?_
                refine l_nil ?_
                refine k_block ?_
                refine k_then ?_
                refine c_seq ?_
                refine c_region _ rfl ?_
                refine l_q rfl (q_move rfl rfl) rfl rfl ?_
                refine drop0 ?_
                refine l_e rfl ?_
                refine e_call_00 (rof_ex _ (ext8 (b_one _ (Nat.le_of_ble_eq_true rfl)))) rfl rfl rfl Try.call30 rfl (fun _ _ => trivial) ?_
                intro ky hky
                refine l_q rfl (q_move rfl rfl) rfl rfl ?_
                refine l_q rfl (q_extract rfl rfl rfl) rfl rfl ?_
                refine l_q rfl (q_extract rfl rfl rfl) rfl rfl ?_
                refine l_e rfl ?_
                refine e_alloc rfl rfl rfl Try.zeroValue25 ?_
                intro bo
                refine cells_eq (show _ = (kv0 8).c from rfl) ?_
                refine l_e rfl ?_
                refine e_storeAgg rfl rfl Try.sizeOf25 rfl rfl (Kv.c_len _) (Kv.one _) (by simp only [Kv.c_len, Ms.c_len]; decide) ?_
                refine cells_eq (show _ = ky.c from Sep.splice_all (by simp only [Kv.c_len, Ms.c_len])) ?_
                refine l_q rfl (q_assign rfl rfl) rfl rfl ?_
                refine l_nil ?_
                refine k_then ?_
                refine c_seq ?_
                refine c_region _ rfl ?_
                refine l_q rfl (q_loadCAgg (ky.c) rfl Try.isAgg25 Try.sizeOf25 rfl (fun _ h => h.at 0 rfl) (kv_whole _) (Kv.c_len _)) rfl rfl ?_
                refine pull1 ?_
                refine l_e rfl ?_
                refine e_storeAgg rfl rfl Try.sizeOf25 rfl rfl (Kv.c_len _) (Kv.one _) (by simp only [Kv.c_len, Ms.c_len]; decide) ?_
                refine cells_eq (show _ = ky.c from Sep.splice_all (by simp only [Kv.c_len, Ms.c_len])) ?_
                refine l_nil ?_
                refine k_then ?_
                refine c_ret ?_
                refine r_res1 rfl (res_cellA rfl Try.isAgg25 Try.sizeOf25 (fun _ h => h.at 0 rfl) (Kv.c_len _)) ?_
                exact fun _ h => ⟨ky, rfl, ⟨hky.1, fun h0 => by have := hky.2; (try simp only [strOfNums_size, List.length_cons, List.length_nil] at this); omega⟩, h.nothing⟩
set_option maxRecDepth 100000 in
set_option maxHeartbeats 1000000 in
theorem value_spec (v : Int) : Con Try.prog 20 [.int .i64 v] (fun _ => True) [] (fun k : Kv 16 => .agg k.c.toArray) (fun k => vck k = true) (fun _ => []) := by
  intro w hE hH
  refine enter (n := 38) (vs := [.int .i64 v]) (St w [] []) Try.func20 rfl rfl rfl (St.init hH) ?_
  refine c_seq ?_
  refine c_region _ rfl ?_
  refine l_e rfl ?_
  refine e_alloc rfl rfl rfl Try.zeroValue28 ?_
  intro br
  refine cells_eq (show _ = (kv0 16).c from rfl) ?_
  refine l_nil ?_
  refine k_then ?_
  refine c_seq ?_
  refine c_region _ rfl ?_
  refine l_q rfl (q_move rfl rfl) rfl rfl ?_
  refine l_e rfl ?_
  refine e_call_00 (place_spec (v) 1099511627776 (by decide) (by decide)) rfl rfl rfl Try.call28 rfl (fun _ _ => trivial) ?_
  intro _ _
  refine l_q rfl (q_assign rfl rfl) rfl rfl ?_
  refine l_nil ?_
  refine k_then ?_
  refine c_seq ?_
  obtain ⟨k, hk, hkb⟩ : ∃ k : Nat, v % 1099511627776 = (k : Int) ∧ k < 1099511627776 := ⟨(v % 1099511627776).toNat, by omega, by omega⟩
  refine Pre.setV (t := 3) (c := .int .i64 (k : Int)) rfl (by rw [hk]) ?_
  obtain ⟨n, hn, hn17⟩ : ∃ n : Nat, (k : Int) % 17 = (n : Int) ∧ n < 17 := ⟨k % 17, by omega, by omega⟩
  refine c_region _ rfl ?_
  refine l_q rfl (q_move rfl rfl) rfl rfl ?_
  refine l_q rfl (q_rem_nn rfl rfl rfl (by omega) (by omega)) rfl rfl ?_
  refine l_q rfl (q_assign rfl rfl) rfl rfl ?_
  refine l_nil ?_
  refine k_then ?_
  refine c_seq ?_
  refine Pre.setV (t := 4) (c := .int .i64 (n : Int)) rfl (by rw [hn]) ?_
  refine c_region _ rfl ?_
  refine l_q rfl (q_move rfl rfl) rfl rfl ?_
  refine l_e rfl ?_
  refine e_makeSlice (encI .u8) 0 n rfl rfl rfl Try.underlying52 info5 rfl rfl rfl rfl rfl rfl rfl (by simp only [byt5]; omega) (by omega) ?_
  intro vb
  refine l_q rfl (q_assign rfl rfl) rfl rfl ?_
  refine l_nil ?_
  refine k_then ?_
  refine c_seq ?_
  refine c_seq ?_
  refine c_region _ rfl ?_
  refine l_q rfl (q_assign rfl rfl) rfl rfl ?_
  refine l_nil ?_
  refine k_then ?_
  refine c_block ?_
  refine pull1 ?_
  refine pull1 ?_
  refine c_loop2 (fun (i : Nat) (l : List Int) => [(2, .pointer (some ⟨br, 0, none⟩)), (3, .int .i64 (k : Int)), (4, .int .i64 (n : Int)), (5, vb), (6, .int .i64 (i : Int))]) (fun (i : Nat) (l : List Int) => St w [] [rowE vb 5 (encI .u8) l, cellsE br 28 (kv0 16).c]) (fun (i : Nat) (l : List Int) => i ≤ n ∧ l.length = n) (fun (i : Nat) (l : List Int) => n - i) (0) (List.replicate n 0) ⟨Nat.zero_le _, by simp⟩ (Sub.cons rfl (Sub.cons rfl (Sub.cons rfl (Sub.cons rfl (Sub.cons rfl (Sub.nil)))))) (fun _ h => h) ?_
  intro i l hp
  refine c_seq ?_
  refine c_seq ?_
  obtain ⟨hi, hl⟩ := hp
  refine c_region _ rfl ?_
  refine l_q rfl (q_move rfl rfl) rfl rfl ?_
  refine l_q rfl (q_move rfl rfl) rfl rfl ?_
  refine l_q rfl (q_lss rfl rfl rfl) rfl rfl ?_
  refine l_nil ?_
  refine k_then ?_
  refine Pre.caseB 17 rfl (fun hil => ?_) (fun hil => ?_)
  · try simp only [decide_eq_true_eq, decide_eq_false_iff_not, Bool.not_eq_true', Bool.not_eq_false'] at hil
    have hmul : (0 : Int) ≤ (i : Int) * ((k : Int) / 4352) ∧ (i : Int) * ((k : Int) / 4352) ≤ 17592186044416 := by
      have h1 : (i : Int) * ((k : Int) / 4352) = ((i * (k / 4352) : Nat) : Int) := by rw [Int.natCast_mul, Int.natCast_ediv]; rfl
      have h2 : i * (k / 4352) ≤ 16 * 1099511627776 := Nat.mul_le_mul (by omega) (by omega)
      rw [h1]; omega
    refine c_true rfl ?_
    refine c_skip ?_
    refine k_then ?_
    refine c_seq ?_
    refine c_block ?_
    refine c_region _ rfl ?_
    refine l_q rfl (q_move rfl rfl) rfl rfl ?_
    refine l_q rfl (q_move rfl rfl) rfl rfl ?_
    refine l_q rfl (q_move rfl rfl) rfl rfl ?_
    refine l_q rfl (q_quo_nn rfl rfl rfl (by omega) (by omega) (by omega)) rfl rfl ?_
    refine l_q rfl (q_move rfl rfl) rfl rfl ?_
    refine l_q rfl (q_move rfl rfl) rfl rfl ?_
    refine l_q rfl (q_quo_nn rfl rfl rfl (by omega) (by omega) (by omega)) rfl rfl ?_
    refine l_q rfl (q_mul64 rfl rfl rfl (by omega)) rfl rfl ?_
    refine l_q rfl (q_add64 rfl rfl rfl (by omega)) rfl rfl ?_
    refine l_q rfl (q_conv rfl Try.underlying3 Try.underlying5 rfl) rfl rfl ?_
    refine l_q rfl (q_indexV i rfl Try.underlying52 Try.sizeOf5 rfl (fun _ h => h.rd 0 rfl) rfl rfl (by omega)) rfl rfl ?_
    refine l_e rfl ?_
    refine e_storeV i 0 ((IntKind.u8.wrap ((k : Int) / 17 + (i : Int) * ((k : Int) / 4352)))) rfl rfl Try.sizeOf5 rfl rfl rfl (List.getElem?_eq_getElem (by omega)) (by decide) rfl ?_
    refine l_nil ?_
    refine k_block ?_
    refine k_then ?_
    refine c_region _ rfl ?_
    refine l_q rfl (q_move rfl rfl) rfl rfl ?_
    refine l_q rfl (q_inc rfl rfl rfl (by omega)) rfl rfl ?_
    refine l_q rfl (q_assign rfl rfl) rfl rfl ?_
    refine l_nil ?_
    exact k_round ((i + 1, l.set i (IntKind.u8.wrap ((k : Int) / 17 + (i : Int) * ((k : Int) / 4352))))) (by dsimp only; omega) ⟨by dsimp only; omega, by dsimp only; rw [List.length_set]; exact hl⟩ (Sub.cons rfl (Sub.cons rfl (Sub.cons rfl (Sub.cons rfl (Sub.cons rfl (Sub.nil)))))) (fun _ h => h)
  · try simp only [decide_eq_true_eq, decide_eq_false_iff_not, Bool.not_eq_true', Bool.not_eq_false'] at hil
    refine c_false rfl ?_
    refine c_exit ?_
    refine k_then_exit ?_
    refine k_then_exit ?_
    refine k_block_exit ?_
    refine k_then ?_
    refine c_seq ?_
    refine c_region _ rfl ?_
    refine l_q rfl (q_move rfl rfl) rfl rfl ?_
    refine l_q rfl (q_b2s rfl Try.underlying52 Try.underlying5 Try.underlying9 rfl (fun _ h => h.rd 0 rfl)) rfl rfl ?_
    refine drop0 ?_
    refine l_e rfl ?_
    refine e_call_00 (rvof_ex _ (by rw [strOfNums_size]; omega)) rfl rfl rfl Try.call29 rfl (fun _ _ => trivial) ?_
    intro ky hky
    refine l_q rfl (q_move rfl rfl) rfl rfl ?_
    refine l_q rfl (q_extract rfl rfl rfl) rfl rfl ?_
    refine l_q rfl (q_extract rfl rfl rfl) rfl rfl ?_
    refine l_e rfl ?_
    refine e_alloc rfl rfl rfl Try.zeroValue28 ?_
    intro bo
    refine cells_eq (show _ = (kv0 16).c from rfl) ?_
    refine l_e rfl ?_
    refine e_storeAgg rfl rfl Try.sizeOf28 rfl rfl (Kv.c_len _) (Kv.one _) (by simp only [Kv.c_len, Ms.c_len]; decide) ?_
    refine cells_eq (show _ = ky.c from Sep.splice_all (by simp only [Kv.c_len, Ms.c_len])) ?_
    refine l_q rfl (q_assign rfl rfl) rfl rfl ?_
    refine l_nil ?_
    refine k_then ?_
    refine c_seq ?_
    refine c_region _ rfl ?_
    refine l_q rfl (q_loadCAgg (ky.c) rfl Try.isAgg28 Try.sizeOf28 rfl (fun _ h => h.at 0 rfl) (kv_whole _) (Kv.c_len _)) rfl rfl ?_
    refine pull1 ?_
    refine l_e rfl ?_
    refine e_storeAgg rfl rfl Try.sizeOf28 rfl rfl (Kv.c_len _) (Kv.one _) (by simp only [Kv.c_len, Ms.c_len]; decide) ?_
    refine cells_eq (show _ = ky.c from Sep.splice_all (by simp only [Kv.c_len, Ms.c_len])) ?_
    refine l_nil ?_
    refine k_then ?_
    refine c_ret ?_
    refine r_res1 rfl (res_cellA rfl Try.isAgg28 Try.sizeOf28 (fun _ h => h.at 0 rfl) (Kv.c_len _)) ?_
    exact fun _ h => ⟨ky, rfl, hky, h.nothing⟩
set_option maxRecDepth 100000 in
set_option maxHeartbeats 1000000 in
theorem msg_spec (v sq : Int) : Con Try.prog 19 [.int .i64 v, .int .i64 sq] (fun _ => True) [] (fun m : Ms => .agg m.c.toArray) (fun m => mck m = true ∧ m.kind = 1 + v % 1099511627776 % 3 ∧ m.seq = sq % 1099511627776) (fun _ => []) := by
  intro w hE hH
  refine enter (n := 35) (vs := [.int .i64 v, .int .i64 sq]) (St w [] []) Try.func19 rfl rfl rfl (St.init hH) ?_
  refine c_seq ?_
  refine c_region _ rfl ?_
  refine l_e rfl ?_
  refine e_alloc rfl rfl rfl Try.zeroValue30 ?_
  intro br
  refine cells_eq (show _ = ms0.c from rfl) ?_
  refine l_nil ?_
  refine k_then ?_
  refine c_seq ?_
  refine c_region _ rfl ?_
  refine l_q rfl (q_move rfl rfl) rfl rfl ?_
  refine l_e rfl ?_
  refine e_call_00 (place_spec (v) 1099511627776 (by decide) (by decide)) rfl rfl rfl Try.call28 rfl (fun _ _ => trivial) ?_
  intro _ _
  refine l_q rfl (q_assign rfl rfl) rfl rfl ?_
  refine l_nil ?_
  refine k_then ?_
  refine c_seq ?_
  obtain ⟨k, hk, hkb⟩ : ∃ k : Nat, v % 1099511627776 = (k : Int) ∧ k < 1099511627776 := ⟨(v % 1099511627776).toNat, by omega, by omega⟩
  refine Pre.setV (t := 5) (c := .int .i64 (k : Int)) rfl (by rw [hk]) ?_
  obtain ⟨q, hq, hqb⟩ : ∃ q : Nat, sq % 1099511627776 = (q : Int) ∧ q < 1099511627776 := ⟨(sq % 1099511627776).toNat, by omega, by omega⟩
  have wk : (Lit.int .i64 (1 + (k : Int) % 3)).wf = true := by
    simp only [Lit.wf, Bool.and_eq_true, decide_eq_true_eq]
    exact ⟨by show (-2 ^ 63 : Int) ≤ _; omega, by show _ ≤ (2 ^ 63 - 1 : Int); omega⟩
  have wq : (Lit.int .u64 (q : Int)).wf = true := by
    simp only [Lit.wf, Bool.and_eq_true, decide_eq_true_eq]
    exact ⟨by show (0 : Int) ≤ _; omega, by show _ ≤ (2 ^ 64 - 1 : Int); omega⟩
  refine c_region _ rfl ?_
  refine l_q rfl (q_move rfl rfl) rfl rfl ?_
  refine l_q rfl (q_rem_nn rfl rfl rfl (by omega) (by omega)) rfl rfl ?_
  refine l_q rfl (q_add64 rfl rfl rfl (by omega)) rfl rfl ?_
  refine l_q rfl (q_move rfl rfl) rfl rfl ?_
  have wkk := wk
  refine l_e rfl ?_
  refine e_call_00 (place_spec sq 1099511627776 (by decide) (by decide)) rfl rfl rfl Try.call28 rfl (fun _ _ => trivial) ?_
  intro _ _
  rw [hq]
  refine l_q rfl (q_conv_in rfl Try.underlying3 Try.underlying22 rfl (wrapu64_in (by omega))) rfl rfl ?_
  refine l_q rfl (q_move rfl rfl) rfl rfl ?_
  refine l_q rfl (q_quo_nn rfl rfl rfl (by omega) (by omega) (by omega)) rfl rfl ?_
  refine l_e rfl ?_
  refine e_call_00 (key_spec _) rfl rfl rfl Try.call21 rfl (fun _ _ => trivial) ?_
  intro ky hky
  refine l_q rfl (q_build ((mk3 (1 + (k : Int) % 3) q ky wk wq).c) rfl rfl (fun w => build3 _ _ _ wk wq w)) rfl rfl ?_
  refine l_e rfl ?_
  refine e_alloc rfl rfl rfl Try.zeroValue30 ?_
  intro bo
  refine cells_eq (show _ = ms0.c from rfl) ?_
  refine l_e rfl ?_
  refine e_storeAgg rfl rfl Try.sizeOf30 rfl rfl (Ms.c_len _) (Ms.one _) (by simp only [Kv.c_len, Ms.c_len]; decide) ?_
  refine cells_eq (show _ = (mk3 (1 + (k : Int) % 3) q ky wk wq).c from Sep.splice_all (by simp only [Kv.c_len, Ms.c_len])) ?_
  refine l_nil ?_
  refine k_then ?_
  refine c_seq ?_
  refine c_seq ?_
  refine c_region _ rfl ?_
  refine l_q rfl (q_fieldAddr rfl Try.underlying30 rfl Try.sizeOf3 rfl rfl) rfl rfl ?_
  refine l_q rfl (q_loadC rfl Try.isAgg3 rfl (fun _ h => h.at 0 rfl) rfl) rfl rfl ?_
  refine l_nil ?_
  refine k_then ?_
  refine c_block ?_
  refine c_seq ?_
  refine c_region _ rfl ?_
  refine l_q rfl (q_eql rfl rfl rfl) rfl rfl ?_
  refine l_q rfl (q_assign rfl rfl) rfl rfl ?_
  refine l_nil ?_
  refine k_then ?_
  refine Pre.caseB 21 rfl (fun h1 => ?_) (fun h1 => ?_)
  · try simp only [decide_eq_true_eq, decide_eq_false_iff_not, Bool.not_eq_true', Bool.not_eq_false'] at h1
    refine c_true rfl ?_
    refine c_region _ rfl ?_
    refine l_q rfl (q_move rfl rfl) rfl rfl ?_
    refine l_q rfl (q_quo_nn rfl rfl rfl (by omega) (by omega) (by omega)) rfl rfl ?_
    refine l_e rfl ?_
    refine e_call_00 (value_spec _) rfl rfl rfl Try.call20 rfl (fun _ _ => trivial) ?_
    intro vl hvl
    refine l_q rfl (q_fieldAddr rfl Try.underlying30 rfl Try.sizeOf28 rfl rfl) rfl rfl ?_
    refine l_e rfl ?_
    refine e_storeAgg rfl rfl Try.sizeOf28 rfl rfl (Kv.c_len _) (Kv.one _) (by rw [Kv.c_len, Ms.c_len]; decide) ?_
    refine cells_eq (Ms.set_val _ _) ?_
    refine l_nil ?_
    refine k_block ?_
    refine k_then ?_
    refine c_seq ?_
    refine c_region _ rfl ?_
    refine l_q rfl (q_loadCAgg (((mk3 (1 + (k : Int) % 3) q ky wk wq).setVal vl).c) rfl Try.isAgg30 Try.sizeOf30 rfl (fun _ h => h.at 0 rfl) (ms_whole _) (Ms.c_len _)) rfl rfl ?_
    refine pull1 ?_
    refine l_e rfl ?_
    refine e_storeAgg rfl rfl Try.sizeOf30 rfl rfl (Ms.c_len _) (Ms.one _) (by simp only [Kv.c_len, Ms.c_len]; decide) ?_
    refine cells_eq (show _ = ((mk3 (1 + (k : Int) % 3) q ky wk wq).setVal vl).c from Sep.splice_all (by simp only [Kv.c_len, Ms.c_len])) ?_
    refine l_nil ?_
    refine k_then ?_
    refine c_ret ?_
    refine r_res1 rfl (res_cellA rfl Try.isAgg30 Try.sizeOf30 (fun _ h => h.at 0 rfl) (Ms.c_len _)) ?_
    exact fun _ h => ⟨((mk3 (1 + (k : Int) % 3) q ky wk wq).setVal vl), rfl, ⟨by unfold mck; simp_all [mk3, Ms.setVal, Ms.setBy] <;> omega, by rw [hk]; rfl, by first | rfl | (rw [hq]; rfl)⟩, h.nothing⟩
  · try simp only [decide_eq_true_eq, decide_eq_false_iff_not, Bool.not_eq_true', Bool.not_eq_false'] at h1
    refine c_false rfl ?_
    refine c_seq ?_
    refine c_region _ rfl ?_
    refine l_q rfl (q_eql rfl rfl rfl) rfl rfl ?_
    refine l_q rfl (q_assign rfl rfl) rfl rfl ?_
    refine l_nil ?_
    refine k_then ?_
    refine Pre.caseB 27 rfl (fun h2 => ?_) (fun h2 => ?_)
    · try simp only [decide_eq_true_eq, decide_eq_false_iff_not, Bool.not_eq_true', Bool.not_eq_false'] at h2
      refine c_true rfl ?_
      refine c_region _ rfl ?_
      refine l_q rfl (q_move rfl rfl) rfl rfl ?_
      refine l_q rfl (q_quo_nn rfl rfl rfl (by omega) (by omega) (by omega)) rfl rfl ?_
      refine l_q rfl (q_conv_in rfl Try.underlying3 Try.underlying22 rfl (wrapu64_in (by omega))) rfl rfl ?_
      refine l_q rfl (q_mul rfl rfl rfl) rfl rfl ?_
      refine l_q rfl (q_fieldAddr rfl Try.underlying30 rfl Try.sizeOf22 rfl rfl) rfl rfl ?_
      refine l_e rfl ?_
      refine e_store rfl rfl Try.sizeOf22 rfl rfl rfl (by rw [Ms.c_len]; decide) ?_
      refine cells_eq (Ms.set_by _ _ (wf_wrap _)) ?_
      refine l_nil ?_
      refine k_block ?_
      refine k_then ?_
      refine c_seq ?_
      refine c_region _ rfl ?_
      refine l_q rfl (q_loadCAgg (((mk3 (1 + (k : Int) % 3) q ky wk wq).setBy (IntKind.u64.wrap ((k : Int) / 1024 * 65537)) (wf_wrap _)).c) rfl Try.isAgg30 Try.sizeOf30 rfl (fun _ h => h.at 0 rfl) (ms_whole _) (Ms.c_len _)) rfl rfl ?_
      refine pull1 ?_
      refine l_e rfl ?_
      refine e_storeAgg rfl rfl Try.sizeOf30 rfl rfl (Ms.c_len _) (Ms.one _) (by simp only [Kv.c_len, Ms.c_len]; decide) ?_
      refine cells_eq (show _ = ((mk3 (1 + (k : Int) % 3) q ky wk wq).setBy (IntKind.u64.wrap ((k : Int) / 1024 * 65537)) (wf_wrap _)).c from Sep.splice_all (by simp only [Kv.c_len, Ms.c_len])) ?_
      refine l_nil ?_
      refine k_then ?_
      refine c_ret ?_
      refine r_res1 rfl (res_cellA rfl Try.isAgg30 Try.sizeOf30 (fun _ h => h.at 0 rfl) (Ms.c_len _)) ?_
      exact fun _ h => ⟨((mk3 (1 + (k : Int) % 3) q ky wk wq).setBy (IntKind.u64.wrap ((k : Int) / 1024 * 65537)) (wf_wrap _)), rfl, ⟨by unfold mck; simp_all [mk3, Ms.setVal, Ms.setBy] <;> omega, by rw [hk]; rfl, by first | rfl | (rw [hq]; rfl)⟩, h.nothing⟩
    · try simp only [decide_eq_true_eq, decide_eq_false_iff_not, Bool.not_eq_true', Bool.not_eq_false'] at h2
      refine c_false rfl ?_
      refine c_skip ?_
      refine k_block ?_
      refine k_then ?_
      refine c_seq ?_
      refine c_region _ rfl ?_
      refine l_q rfl (q_loadCAgg ((mk3 (1 + (k : Int) % 3) q ky wk wq).c) rfl Try.isAgg30 Try.sizeOf30 rfl (fun _ h => h.at 0 rfl) (ms_whole _) (Ms.c_len _)) rfl rfl ?_
      refine pull1 ?_
      refine l_e rfl ?_
      refine e_storeAgg rfl rfl Try.sizeOf30 rfl rfl (Ms.c_len _) (Ms.one _) (by simp only [Kv.c_len, Ms.c_len]; decide) ?_
      refine cells_eq (show _ = (mk3 (1 + (k : Int) % 3) q ky wk wq).c from Sep.splice_all (by simp only [Kv.c_len, Ms.c_len])) ?_
      refine l_nil ?_
      refine k_then ?_
      refine c_ret ?_
      refine r_res1 rfl (res_cellA rfl Try.isAgg30 Try.sizeOf30 (fun _ h => h.at 0 rfl) (Ms.c_len _)) ?_
      exact fun _ h => ⟨(mk3 (1 + (k : Int) % 3) q ky wk wq), rfl, ⟨by unfold mck; simp_all [mk3, Ms.setVal, Ms.setBy] <;> omega, by rw [hk]; rfl, by first | rfl | (rw [hq]; rfl)⟩, h.nothing⟩
end Go.Proofs.Ytmnokoepimhelaa
