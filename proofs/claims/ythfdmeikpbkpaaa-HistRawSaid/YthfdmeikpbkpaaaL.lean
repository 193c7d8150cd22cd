/- keys and values by numbers -/
import Derived.Test.YthfdmeikpbkpaaaK
set_option linter.unusedVariables false
set_option linter.unusedSimpArgs false
namespace Go.Proofs.Ythfdmeikpbkpaaa
open Go.Sep Go.RowKit

theorem strOf_size (l : List Int) : (strOfNums l).size = l.length := by unfold strOfNums; simp [ByteArray.size]
theorem kck_n {k : Kv 8} (h : kck k = true) : ∃ m : Nat, k.n = (m : Int) ∧ m ≤ 8 := by unfold kck at h; have := of_decide_eq_true h; exact ⟨k.n.toNat, by omega, by omega⟩
theorem vck_n {k : Kv 16} (h : vck k = true) : ∃ m : Nat, k.n = (m : Int) ∧ m ≤ 16 := by unfold vck at h; have := of_decide_eq_true h; exact ⟨k.n.toNat, by omega, by omega⟩
theorem npart {d : Nat} (k : Kv d) {m : Nat} : (k.c.drop 1).take (m * (encI .u8).sz) = (encI .u8).flat (k.b.take m) := by
  rw [flat_u8]
  show ((k.b.map (Value.int .u8))).take (m * 1) = _
  rw [Nat.mul_one, List.map_take]
theorem str_le (l : List Int) {d : Nat} (h : l.length ≤ d) : (strOfNums l).size ≤ d := by rw [strOf_size]; exact h
set_option maxRecDepth 100000 in
set_option maxHeartbeats 1000000 in
theorem ktext_ex (k : Kv 8) : Con Try.prog 30 [.agg k.c.toArray] (fun _ => True) [] (fun t : ByteArray => .string t) (fun t => t.size ≤ 8) (fun _ => []) := by
  intro w hE hH
  refine enter (n := 11) (vs := [.agg k.c.toArray]) (St w [] []) Try.func30 rfl rfl rfl (St.init hH) ?_
  refine c_seq ?_
  refine c_region _ rfl ?_
  refine l_e rfl ?_
  refine e_box rfl rfl rfl rfl ?_
  intro bk
  refine cells_eq (show _ = k.c from rfl) ?_
  refine l_q rfl (q_assign rfl rfl) rfl rfl ?_
  refine l_nil ?_
  refine k_then ?_
  refine c_seq ?_
  refine c_seq ?_
  refine c_region _ rfl ?_
  refine l_q rfl (q_loadCAgg (k.c) rfl Try.isAgg63 Try.sizeOf63 rfl (fun _ h => h.at 0 rfl) (kv_whole _) (Kv.c_len _)) rfl rfl ?_
  refine l_e rfl ?_
  refine e_call_00 (rkcheck_spec k) rfl rfl rfl Try.call36 rfl (fun _ _ => trivial) ?_
  intro _ _
  refine l_q rfl (q_not rfl rfl) rfl rfl ?_
  refine l_nil ?_
  refine k_then ?_
  refine Pre.caseB 5 rfl (fun h1 => ?_) (fun h1 => ?_)
  · try simp only [Bool.not_eq_true', Bool.not_eq_false'] at h1
    refine c_true rfl ?_
    refine c_seq ?_
    refine c_region _ rfl ?_
    refine l_q rfl (q_assign rfl rfl) rfl rfl ?_
    refine l_nil ?_
    refine k_then ?_
    refine c_ret ?_
    refine k_then_ret ?_
    refine r_one rfl rfl ?_
    exact fun _ h => ⟨.empty, rfl, by decide, h.nothing⟩
  · try simp only [Bool.not_eq_true', Bool.not_eq_false'] at h1
    obtain ⟨m, hm, hm8⟩ := kck_n h1
    have hkl := k.len
    refine c_false rfl ?_
    refine c_skip ?_
    refine k_then ?_
    refine c_seq ?_
    refine c_region _ rfl ?_
    refine l_q rfl (q_fieldAddr rfl Try.underlying63 rfl Try.sizeOf61 rfl rfl) rfl rfl ?_
    refine l_q rfl (q_fieldAddr rfl Try.underlying63 rfl Try.sizeOf3 rfl rfl) rfl rfl ?_
    refine l_q rfl (q_loadC rfl Try.isAgg3 rfl (fun _ h => h.at 0 rfl) rfl) rfl rfl ?_
    refine l_q rfl (q_sliceArrH m rfl Try.underlying61 Try.sizeOf5 rfl rfl hm (by omega)) rfl rfl ?_
    refine l_q rfl (q_b2s (l := k.b.take m) rfl Try.underlying66 Try.underlying5 Try.underlying9 rfl (fun _ h => rd_part (h.at 0 rfl) (encI .u8) (k.b.take m) (by rw [List.length_take]; omega) (by omega) (npart k))) rfl rfl ?_
    refine l_q rfl (q_assign rfl rfl) rfl rfl ?_
    refine l_nil ?_
    refine k_then ?_
    refine c_ret ?_
    refine r_one rfl rfl ?_
    exact fun _ h => ⟨strOfNums (k.b.take m), rfl, str_le _ (by rw [List.length_take]; omega), h.nothing⟩
set_option maxRecDepth 100000 in
set_option maxHeartbeats 1000000 in
theorem vtext_ex (k : Kv 16) : Con Try.prog 32 [.agg k.c.toArray] (fun _ => True) [] (fun t : ByteArray => .string t) (fun t => t.size ≤ 16) (fun _ => []) := by
  intro w hE hH
  refine enter (n := 11) (vs := [.agg k.c.toArray]) (St w [] []) Try.func32 rfl rfl rfl (St.init hH) ?_
  refine c_seq ?_
  refine c_region _ rfl ?_
  refine l_e rfl ?_
  refine e_box rfl rfl rfl rfl ?_
  intro bk
  refine cells_eq (show _ = k.c from rfl) ?_
  refine l_q rfl (q_assign rfl rfl) rfl rfl ?_
  refine l_nil ?_
  refine k_then ?_
  refine c_seq ?_
  refine c_seq ?_
  refine c_region _ rfl ?_
  refine l_q rfl (q_loadCAgg (k.c) rfl Try.isAgg43 Try.sizeOf43 rfl (fun _ h => h.at 0 rfl) (kv_whole _) (Kv.c_len _)) rfl rfl ?_
  refine l_e rfl ?_
  refine e_call_00 (rvcheck_spec k) rfl rfl rfl Try.call35 rfl (fun _ _ => trivial) ?_
  intro _ _
  refine l_q rfl (q_not rfl rfl) rfl rfl ?_
  refine l_nil ?_
  refine k_then ?_
  refine Pre.caseB 5 rfl (fun h1 => ?_) (fun h1 => ?_)
  · try simp only [Bool.not_eq_true', Bool.not_eq_false'] at h1
    refine c_true rfl ?_
    refine c_seq ?_
    refine c_region _ rfl ?_
    refine l_q rfl (q_assign rfl rfl) rfl rfl ?_
    refine l_nil ?_
    refine k_then ?_
    refine c_ret ?_
    refine k_then_ret ?_
    refine r_one rfl rfl ?_
    exact fun _ h => ⟨.empty, rfl, by decide, h.nothing⟩
  · try simp only [Bool.not_eq_true', Bool.not_eq_false'] at h1
    obtain ⟨m, hm, hm8⟩ := vck_n h1
    have hkl := k.len
    refine c_false rfl ?_
    refine c_skip ?_
    refine k_then ?_
    refine c_seq ?_
    refine c_region _ rfl ?_
    refine l_q rfl (q_fieldAddr rfl Try.underlying43 rfl Try.sizeOf41 rfl rfl) rfl rfl ?_
    refine l_q rfl (q_fieldAddr rfl Try.underlying43 rfl Try.sizeOf3 rfl rfl) rfl rfl ?_
    refine l_q rfl (q_loadC rfl Try.isAgg3 rfl (fun _ h => h.at 0 rfl) rfl) rfl rfl ?_
    refine l_q rfl (q_sliceArrH m rfl Try.underlying41 Try.sizeOf5 rfl rfl hm (by omega)) rfl rfl ?_
    refine l_q rfl (q_b2s (l := k.b.take m) rfl Try.underlying66 Try.underlying5 Try.underlying9 rfl (fun _ h => rd_part (h.at 0 rfl) (encI .u8) (k.b.take m) (by rw [List.length_take]; omega) (by omega) (npart k))) rfl rfl ?_
    refine l_q rfl (q_assign rfl rfl) rfl rfl ?_
    refine l_nil ?_
    refine k_then ?_
    refine c_ret ?_
    refine r_one rfl rfl ?_
    exact fun _ h => ⟨strOfNums (k.b.take m), rfl, str_le _ (by rw [List.length_take]; omega), h.nothing⟩
set_option maxRecDepth 100000 in
set_option maxHeartbeats 1000000 in
theorem value_ex (v : Int) : Con Try.prog 26 [.int .i64 v] (fun _ => True) [] (fun k : Kv 16 => .agg k.c.toArray) (fun _ => True) (fun _ => []) := by
  intro w hE hH
  refine enter (n := 38) (vs := [.int .i64 v]) (St w [] []) Try.func26 rfl rfl rfl (St.init hH) ?_
  refine c_seq ?_
  refine c_region _ rfl ?_
  refine l_e rfl ?_
  refine e_alloc rfl rfl rfl Try.zeroValue43 ?_
  intro br
  refine cells_eq (show _ = (kv0 16).c from rfl) ?_
  refine l_nil ?_
  refine k_then ?_
  refine c_seq ?_
  refine c_region _ rfl ?_
  refine l_q rfl (q_move rfl rfl) rfl rfl ?_
  refine l_e rfl ?_
  refine e_call_00 (place_spec (v) 1099511627776 (by decide) (by decide)) rfl rfl rfl Try.call9 rfl (fun _ _ => trivial) ?_
  intro _ _
  refine l_q rfl (q_assign rfl rfl) rfl rfl ?_
  refine l_nil ?_
  refine k_then ?_
  refine c_seq ?_
  obtain ⟨k, hk, hkb⟩ : ∃ k : Nat, v % 1099511627776 = (k : Int) ∧ k < 1099511627776 := ⟨(v % 1099511627776).toNat, by omega, by omega⟩
  refine Pre.setV (t := 3) (c := .int .i64 (k : Int)) rfl (by rw [hk]) ?_
  obtain ⟨n, hn, hn17⟩ : ∃ n : Nat, (k : Int) % 17 = (n : Int) ∧ n < 17 := ⟨k % 17, by omega, by omega⟩
  refine c_region _ rfl ?_
  refine l_q rfl (q_move rfl rfl) rfl rfl ?_
  refine l_q rfl (q_rem_nn rfl rfl rfl (by omega) (by omega)) rfl rfl ?_
  refine l_q rfl (q_assign rfl rfl) rfl rfl ?_
  refine l_nil ?_
  refine k_then ?_
  refine c_seq ?_
  refine Pre.setV (t := 4) (c := .int .i64 (n : Int)) rfl (by rw [hn]) ?_
  refine c_region _ rfl ?_
  refine l_q rfl (q_move rfl rfl) rfl rfl ?_
  refine l_e rfl ?_
  refine e_makeSlice (encI .u8) 0 n rfl rfl rfl Try.underlying66 info5 rfl rfl rfl rfl rfl rfl rfl (by simp only [byt5]; omega) (by omega) ?_
  intro vb
  refine l_q rfl (q_assign rfl rfl) rfl rfl ?_
  refine l_nil ?_
  refine k_then ?_
  refine c_seq ?_
  refine c_seq ?_
  refine c_region _ rfl ?_
  refine l_q rfl (q_assign rfl rfl) rfl rfl ?_
  refine l_nil ?_
  refine k_then ?_
  refine c_block ?_
  refine pull1 ?_
  refine pull1 ?_
  refine c_loop2 (fun (i : Nat) (l : List Int) => [(2, .pointer (some ⟨br, 0, none⟩)), (3, .int .i64 (k : Int)), (4, .int .i64 (n : Int)), (5, vb), (6, .int .i64 (i : Int))]) (fun (i : Nat) (l : List Int) => St w [] [rowE vb 5 (encI .u8) l, cellsE br 43 (kv0 16).c]) (fun (i : Nat) (l : List Int) => i ≤ n ∧ l.length = n) (fun (i : Nat) (l : List Int) => n - i) (0) (List.replicate n 0) ⟨Nat.zero_le _, by simp⟩ (Sub.cons rfl (Sub.cons rfl (Sub.cons rfl (Sub.cons rfl (Sub.cons rfl (Sub.nil)))))) (fun _ h => h) ?_
  intro i l hp
  refine c_seq ?_
  refine c_seq ?_
  obtain ⟨hi, hl⟩ := hp
  refine c_region _ rfl ?_
  refine l_q rfl (q_move rfl rfl) rfl rfl ?_
  refine l_q rfl (q_move rfl rfl) rfl rfl ?_
  refine l_q rfl (q_lss rfl rfl rfl) rfl rfl ?_
  refine l_nil ?_
  refine k_then ?_
  refine Pre.caseB 17 rfl (fun hil => ?_) (fun hil => ?_)
  · try simp only [decide_eq_true_eq, decide_eq_false_iff_not, Bool.not_eq_true', Bool.not_eq_false'] at hil
    have hmul : (0 : Int) ≤ (i : Int) * ((k : Int) / 4352) ∧ (i : Int) * ((k : Int) / 4352) ≤ 17592186044416 := by
      have h1 : (i : Int) * ((k : Int) / 4352) = ((i * (k / 4352) : Nat) : Int) := by rw [Int.natCast_mul, Int.natCast_ediv]; rfl
      have h2 : i * (k / 4352) ≤ 16 * 1099511627776 := Nat.mul_le_mul (by omega) (by omega)
      rw [h1]; omega
    refine c_true rfl ?_
    refine c_skip ?_
    refine k_then ?_
    refine c_seq ?_
    refine c_block ?_
    refine c_region _ rfl ?_
    refine l_q rfl (q_move rfl rfl) rfl rfl ?_
    refine l_q rfl (q_move rfl rfl) rfl rfl ?_
    refine l_q rfl (q_move rfl rfl) rfl rfl ?_
    refine l_q rfl (q_quo_nn rfl rfl rfl (by omega) (by omega) (by omega)) rfl rfl ?_
    refine l_q rfl (q_move rfl rfl) rfl rfl ?_
    refine l_q rfl (q_move rfl rfl) rfl rfl ?_
    refine l_q rfl (q_quo_nn rfl rfl rfl (by omega) (by omega) (by omega)) rfl rfl ?_
    refine l_q rfl (q_mul64 rfl rfl rfl (by omega)) rfl rfl ?_
    refine l_q rfl (q_add64 rfl rfl rfl (by omega)) rfl rfl ?_
    refine l_q rfl (q_conv rfl Try.underlying3 Try.underlying5 rfl) rfl rfl ?_
    refine l_q rfl (q_indexV i rfl Try.underlying66 Try.sizeOf5 rfl (fun _ h => h.rd 0 rfl) rfl rfl (by omega)) rfl rfl ?_
    refine l_e rfl ?_
    refine e_storeV i 0 ((IntKind.u8.wrap ((k : Int) / 17 + (i : Int) * ((k : Int) / 4352)))) rfl rfl Try.sizeOf5 rfl rfl rfl (List.getElem?_eq_getElem (by omega)) (by decide) rfl ?_
    refine l_nil ?_
    refine k_block ?_
    refine k_then ?_
    refine c_region _ rfl ?_
    refine l_q rfl (q_move rfl rfl) rfl rfl ?_
    refine l_q rfl (q_inc rfl rfl rfl (by omega)) rfl rfl ?_
    refine l_q rfl (q_assign rfl rfl) rfl rfl ?_
    refine l_nil ?_
    exact k_round ((i + 1, l.set i (IntKind.u8.wrap ((k : Int) / 17 + (i : Int) * ((k : Int) / 4352))))) (by dsimp only; omega) ⟨by dsimp only; omega, by dsimp only; rw [List.length_set]; exact hl⟩ (Sub.cons rfl (Sub.cons rfl (Sub.cons rfl (Sub.cons rfl (Sub.cons rfl (Sub.nil)))))) (fun _ h => h)
  · try simp only [decide_eq_true_eq, decide_eq_false_iff_not, Bool.not_eq_true', Bool.not_eq_false'] at hil
    refine c_false rfl ?_
    refine c_exit ?_
    refine k_then_exit ?_
    refine k_then_exit ?_
    refine k_block_exit ?_
    refine k_then ?_
    refine c_seq ?_
    refine c_region _ rfl ?_
    refine l_q rfl (q_move rfl rfl) rfl rfl ?_
    refine l_q rfl (q_b2s rfl Try.underlying66 Try.underlying5 Try.underlying9 rfl (fun _ h => h.rd 0 rfl)) rfl rfl ?_
    refine drop0 ?_
    refine l_e rfl ?_
    refine e_call_00 (vof_ex _ (by rw [strOf_size]; omega)) rfl rfl rfl Try.call33 rfl (fun _ _ => trivial) ?_
    intro ky _
    refine l_q rfl (q_move rfl rfl) rfl rfl ?_
    refine l_q rfl (q_extract rfl rfl rfl) rfl rfl ?_
    refine l_q rfl (q_extract rfl rfl rfl) rfl rfl ?_
    refine l_e rfl ?_
    refine e_alloc rfl rfl rfl Try.zeroValue43 ?_
    intro bo
    refine cells_eq (show _ = (kv0 16).c from rfl) ?_
    refine l_e rfl ?_
    refine e_storeAgg rfl rfl Try.sizeOf43 rfl rfl (Kv.c_len _) (Kv.one _) (by simp only [Kv.c_len]; decide) ?_
    refine cells_eq (show Sep.splice _ 0 (ky).c = (ky).c from Sep.splice_all (by simp only [Kv.c_len])) ?_
    refine l_q rfl (q_assign rfl rfl) rfl rfl ?_
    refine l_nil ?_
    refine k_then ?_
    refine c_seq ?_
    refine c_region _ rfl ?_
    refine l_q rfl (q_loadCAgg (ky.c) rfl Try.isAgg43 Try.sizeOf43 rfl (fun _ h => h.at 0 rfl) (kv_whole _) (Kv.c_len _)) rfl rfl ?_
    refine pull1 ?_
    refine l_e rfl ?_
    refine e_storeAgg rfl rfl Try.sizeOf43 rfl rfl (Kv.c_len _) (Kv.one _) (by simp only [Kv.c_len]; decide) ?_
    refine cells_eq (show Sep.splice _ 0 (ky).c = (ky).c from Sep.splice_all (by simp only [Kv.c_len])) ?_
    refine l_nil ?_
    refine k_then ?_
    refine c_ret ?_
    refine r_res1 rfl (res_cellA rfl Try.isAgg43 Try.sizeOf43 (fun _ h => h.at 0 rfl) (Kv.c_len _)) ?_
    exact fun _ h => ⟨ky, rfl, trivial, h.nothing⟩
end Go.Proofs.Ythfdmeikpbkpaaa
