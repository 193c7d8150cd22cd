/- keys and values, of texts -/
import Derived.Test.YthfdmeikpbkpaaaH
set_option linter.unusedVariables false
set_option linter.unusedSimpArgs false
namespace Go.Proofs.Ythfdmeikpbkpaaa
open Go.Sep Go.RowKit

/-! ## Keys and values, of texts -/
abbrev kc (n : Int) (l : List Int) : List Value := .int .i64 n :: l.map (.int .u8)
theorem kc_len {n : Int} {l : List Int} {m : Nat} (h : l.length = m) : (kc n l).length = m + 1 := by simp [h]
theorem kc_whole {n : Int} {l : List Int} {m : Nat} (h : l.length = m) : ((kc n l).drop 0).take (m + 1) = kc n l := List.take_of_length_le (by simp [h])
theorem kc_set {n : Int} {l : List Int} {j : Nat} (x : Int) : (kc n l).set (0 + 1 + j * 1) (.int .u8 x) = kc n (l.set j x) := by
  rw [show 0 + 1 + j * 1 = j + 1 from by omega]
  simp [List.map_set]
theorem kc_n {n m : Int} {l : List Int} : (kc n l).set 0 (.int .i64 m) = kc m l := rfl
theorem kc_one {n : Int} {l : List Int} : ∀ v ∈ kc n l, v.oneCell' = true := by
  intro v hv
  rcases List.mem_cons.1 hv with rfl | hv
  · rfl
  · obtain ⟨z, _, rfl⟩ := List.mem_map.1 hv; rfl
theorem kc_all {n m : Int} {l k : List Int} {d : Nat} (h : l.length = d) (h' : k.length = d) : Sep.splice (kc n l) 0 (kc m k) = kc m k := Sep.splice_all (by rw [kc_len h, kc_len h'])
abbrev z8 : List Int := List.replicate 8 0
abbrev z16 : List Int := List.replicate 16 0
theorem z_wf {m : Nat} : ∀ x ∈ List.replicate m (0 : Int), (Lit.int .u8 x).wf = true := fun x h => by rw [(List.mem_replicate.1 h).2]; decide
theorem set_wf {l : List Int} {i : Nat} {b : UInt8} (h : ∀ x ∈ l, (Lit.int .u8 x).wf = true) : ∀ x ∈ l.set i (b.toNat : Int), (Lit.int .u8 x).wf = true := fun x hx => by
  rcases List.mem_or_eq_of_mem_set hx with hx | rfl
  · exact h x hx
  · have := b.toNat_lt
    simp only [Lit.wf, Bool.and_eq_true, decide_eq_true_eq]
    exact ⟨by show (0 : Int) ≤ _; omega, by show _ ≤ (2 ^ 8 - 1 : Int); omega⟩
theorem str_at {s : ByteArray} {i : Nat} (h : i < s.size) : ∃ b, s[i]? = some b := ⟨s[i]'h, getElem?_pos s i h⟩

/-- Any number as one from 0 to n - 1. -/
def plc (v n : Int) : Int := v % n
theorem tmod_place {v n : Int} (hn : 0 < n) : (if v.tmod n < 0 then v.tmod n + n else v.tmod n) = v % n := by
  have h1 := Int.tmod_lt_of_pos v hn
  have h2 : -n < v.tmod n := Int.lt_tmod_of_pos v hn
  have h3 := Int.mul_tdiv_add_tmod v n
  have key : ∀ r : Int, 0 ≤ r → r < n → (∃ q, v = n * q + r) → r = v % n := by
    rintro r hr0 hr1 ⟨q, hq⟩
    rw [hq, Int.mul_add_emod_self_left, Int.emod_eq_of_lt hr0 hr1]
  split
  · exact key _ (by omega) (by omega) ⟨v.tdiv n - 1, by rw [Int.mul_sub]; omega⟩
  · exact key _ (by omega) (by omega) ⟨v.tdiv n, by omega⟩

set_option maxRecDepth 100000 in
set_option maxHeartbeats 1000000 in
theorem place_spec (v n : Int) (hn : 0 < n) (hn2 : n ≤ 4611686018427387904) : Con Try.prog 9 [.int .i64 v, .int .i64 n] (fun _ => True) [] (fun _ : Unit => .int .i64 (v % n)) (fun _ => True) (fun _ => []) := by
  intro w hE hH
  have h1 := Int.tmod_lt_of_pos v hn
  have h2 : -n < v.tmod n := Int.lt_tmod_of_pos v hn
  have h3 := tmod_place (v := v) hn
  refine enter (n := 15) (vs := [.int .i64 v, .int .i64 n]) (St w [] []) Try.func9 rfl rfl rfl (St.init hH) ?_
  refine c_seq ?_
  refine c_region _ rfl ?_
  refine l_q rfl (q_assign rfl rfl) rfl rfl ?_
  refine l_nil ?_
  refine k_then ?_
  refine c_seq ?_
  refine c_region _ rfl ?_
  refine l_q rfl (q_move rfl rfl) rfl rfl ?_
  refine l_q rfl (q_move rfl rfl) rfl rfl ?_
  refine l_q rfl (q_rem rfl rfl rfl (by omega)) rfl rfl ?_
  refine l_q rfl (q_assign rfl rfl) rfl rfl ?_
  refine l_nil ?_
  refine k_then ?_
  refine c_seq ?_
  refine c_seq ?_
  refine c_region _ rfl ?_
  refine l_q rfl (q_move rfl rfl) rfl rfl ?_
  refine l_q rfl (q_lss rfl rfl rfl) rfl rfl ?_
  refine l_nil ?_
  refine k_then ?_
  refine Pre.caseB 10 rfl (fun h => ?_) (fun h => ?_)
  · simp only [decide_eq_true_eq, decide_eq_false_iff_not, Bool.not_eq_true', Bool.not_eq_false'] at h
    rw [if_pos h] at h3
    refine c_true rfl ?_
    refine c_region _ rfl ?_
    refine l_q rfl (q_move rfl rfl) rfl rfl ?_
    refine l_q rfl (q_move rfl rfl) rfl rfl ?_
    refine l_q rfl (q_add64 rfl rfl rfl (by omega)) rfl rfl ?_
    refine l_q rfl (q_assign rfl rfl) rfl rfl ?_
    refine l_nil ?_
    refine k_then ?_
    refine c_seq ?_
    refine c_region _ rfl ?_
    refine l_q rfl (q_move rfl rfl) rfl rfl ?_
    refine l_q rfl (q_assign rfl rfl) rfl rfl ?_
    refine l_nil ?_
    refine k_then ?_
    refine c_ret ?_
    refine r_one rfl rfl ?_
    exact fun _ h => ⟨(), congrArg (fun z => Ending.returned (Value.int .i64 z)) h3, trivial, h⟩
  · simp only [decide_eq_true_eq, decide_eq_false_iff_not, Bool.not_eq_true', Bool.not_eq_false'] at h
    rw [if_neg h] at h3
    refine c_false rfl ?_
    refine c_skip ?_
    refine k_then ?_
    refine c_seq ?_
    refine c_region _ rfl ?_
    refine l_q rfl (q_move rfl rfl) rfl rfl ?_
    refine l_q rfl (q_assign rfl rfl) rfl rfl ?_
    refine l_nil ?_
    refine k_then ?_
    refine c_ret ?_
    refine r_one rfl rfl ?_
    exact fun _ h => ⟨(), congrArg (fun z => Ending.returned (Value.int .i64 z)) h3, trivial, h⟩
set_option maxRecDepth 100000 in
set_option maxHeartbeats 1000000 in
theorem kof_ex (s : ByteArray) (hs : s.size ≤ 8) : Con Try.prog 37 [.string s] (fun _ => True) [] (fun q : Kv 8 => .tuple #[.agg q.c.toArray, .int .i64 0]) (fun _ => True) (fun _ => []) := by
  intro w hE hH
  refine enter (n := 27) (vs := [.string s]) (St w [] []) Try.func37 rfl rfl rfl (St.init hH) ?_
  refine c_seq ?_
  have hzl : z8.length = 8 := List.length_replicate ..
  refine c_region _ rfl ?_
  refine l_e rfl ?_
  refine e_alloc rfl rfl rfl Try.zeroValue63 ?_
  intro br
  refine cells_eq (show _ = kc 0 z8 from rfl) ?_
  refine l_q rfl (q_assign rfl rfl) rfl rfl ?_
  refine l_nil ?_
  refine k_then ?_
  refine c_seq ?_
  refine c_region _ rfl ?_
  refine l_q rfl (q_build (kc 0 z8) rfl rfl (fun w => by kernel_rfl)) rfl rfl ?_
  refine l_e rfl ?_
  refine e_alloc rfl rfl rfl Try.zeroValue63 ?_
  intro bk
  refine cells_eq (show _ = kc 0 z8 from rfl) ?_
  refine l_e rfl ?_
  refine e_storeAgg rfl rfl Try.sizeOf63 rfl rfl rfl kc_one (Nat.le_of_ble_eq_true rfl) ?_
  refine cells_eq (kc_all hzl hzl) ?_
  refine l_nil ?_
  refine k_then ?_
  refine c_seq ?_
  refine c_seq ?_
  refine c_region _ rfl ?_
  refine l_q rfl (q_move rfl rfl) rfl rfl ?_
  refine l_q rfl (q_lenS rfl Try.underlying9 rfl) rfl rfl ?_
  refine l_q rfl (q_gtr rfl rfl rfl) rfl rfl ?_
  refine l_nil ?_
  refine k_then ?_
  refine Pre.setB (t := 9) (c := false) rfl (decide_eq_false (by omega)) ?_
  refine c_false rfl ?_
  refine c_skip ?_
  refine k_then ?_
  refine c_seq ?_
  refine c_region _ rfl ?_
  refine l_q rfl (q_move rfl rfl) rfl rfl ?_
  refine l_q rfl (q_lenS rfl Try.underlying9 rfl) rfl rfl ?_
  refine l_q rfl (q_fieldAddr rfl Try.underlying63 rfl Try.sizeOf3 rfl rfl) rfl rfl ?_
  refine l_e rfl ?_
  refine e_store rfl rfl Try.sizeOf3 rfl rfl rfl (by rw [kc_len hzl]; decide) ?_
  refine cells_eq (kc_n) ?_
  refine l_nil ?_
  refine k_then ?_
  refine c_seq ?_
  refine c_seq ?_
  refine c_region _ rfl ?_
  refine l_q rfl (q_assign rfl rfl) rfl rfl ?_
  refine l_nil ?_
  refine k_then ?_
  refine c_block ?_
  refine pull1 ?_
  refine pull1 ?_
  refine c_loop2 (fun (i : Nat) (l : List Int) => [(0, .string s), (2, .pointer (some ⟨br, 0, none⟩)), (3, .int .i64 0), (4, .pointer (some ⟨bk, 0, none⟩)), (5, .int .i64 (i : Int))]) (fun (i : Nat) (l : List Int) => St w [] [cellsE bk 63 (kc (s.size : Int) l), cellsE br 63 (kc 0 z8)]) (fun (i : Nat) (l : List Int) => i ≤ s.size ∧ l.length = 8 ∧ ∀ x ∈ l, (Lit.int .u8 x).wf = true) (fun (i : Nat) (l : List Int) => s.size - i) (0) (z8) ⟨Nat.zero_le _, hzl, z_wf⟩ (Sub.cons rfl (Sub.cons rfl (Sub.cons rfl (Sub.cons rfl (Sub.cons rfl (Sub.nil)))))) (fun _ h => h) ?_
  intro i l hp
  refine c_seq ?_
  refine c_seq ?_
  obtain ⟨hi, hll, hlw⟩ := hp
  refine c_region _ rfl ?_
  refine l_q rfl (q_move rfl rfl) rfl rfl ?_
  refine l_q rfl (q_move rfl rfl) rfl rfl ?_
  refine l_q rfl (q_lenS rfl Try.underlying9 rfl) rfl rfl ?_
  refine l_q rfl (q_lss rfl rfl rfl) rfl rfl ?_
  refine l_nil ?_
  refine k_then ?_
  refine Pre.caseB 17 rfl (fun h1 => ?_) (fun h1 => ?_)
  · try simp only [decide_eq_true_eq, decide_eq_false_iff_not, Bool.not_eq_true', Bool.not_eq_false'] at h1
    obtain ⟨b, hb⟩ := str_at (s := s) (i := i) (by omega)
    refine c_true rfl ?_
    refine c_skip ?_
    refine k_then ?_
    refine c_seq ?_
    refine c_block ?_
    refine c_region _ rfl ?_
    refine l_q rfl (q_move rfl rfl) rfl rfl ?_
    refine l_q rfl (q_move rfl rfl) rfl rfl ?_
    refine l_q rfl (q_move rfl rfl) rfl rfl ?_
    refine l_q rfl (q_indexS i _ rfl Try.underlying9 rfl rfl rfl hb) rfl rfl ?_
    refine l_q rfl (q_fieldAddr rfl Try.underlying63 rfl Try.sizeOf61 rfl rfl) rfl rfl ?_
    refine l_q rfl (q_indexArr i rfl Try.underlying61 Try.sizeOf5 rfl rfl rfl (by omega)) rfl rfl ?_
    refine l_e rfl ?_
    refine e_store rfl rfl Try.sizeOf5 rfl rfl rfl (by rw [kc_len hll]; show 0 + 1 + i * 1 < 9; omega) ?_
    refine cells_eq (kc_set _) ?_
    refine l_nil ?_
    refine k_block ?_
    refine k_then ?_
    refine c_region _ rfl ?_
    refine l_q rfl (q_move rfl rfl) rfl rfl ?_
    refine l_q rfl (q_inc rfl rfl rfl (by omega)) rfl rfl ?_
    refine l_q rfl (q_assign rfl rfl) rfl rfl ?_
    refine l_nil ?_
    exact k_round ((i + 1, l.set i (b.toNat : Int))) (by dsimp only; omega) ⟨by dsimp only; omega, by dsimp only; rw [List.length_set]; exact hll, set_wf hlw⟩ (Sub.cons rfl (Sub.cons rfl (Sub.cons rfl (Sub.cons rfl (Sub.cons rfl (Sub.nil)))))) (fun _ h => h)
  · try simp only [decide_eq_true_eq, decide_eq_false_iff_not, Bool.not_eq_true', Bool.not_eq_false'] at h1
    obtain ⟨q, hq⟩ : ∃ q : Kv 8, kc (s.size : Int) l = q.c := ⟨⟨s.size, l, hll, wf_n8 (by omega), hlw⟩, rfl⟩
    rw [hq]
    refine c_false rfl ?_
    refine c_exit ?_
    refine k_then_exit ?_
    refine k_then_exit ?_
    refine k_block_exit ?_
    refine k_then ?_
    refine c_seq ?_
    refine c_region _ rfl ?_
    refine l_q rfl (q_loadCAgg (q.c) rfl Try.isAgg63 Try.sizeOf63 rfl (fun _ h => h.at 0 rfl) (kv_whole _) (Kv.c_len _)) rfl rfl ?_
    refine pull1 ?_
    refine l_e rfl ?_
    refine e_storeAgg rfl rfl Try.sizeOf63 rfl rfl (Kv.c_len _) (Kv.one _) (by rw [Kv.c_len, kc_len hzl]; decide) ?_
    refine cells_eq (Sep.splice_all (by rw [Kv.c_len, kc_len hzl])) ?_
    refine l_q rfl (q_assign rfl rfl) rfl rfl ?_
    refine l_nil ?_
    refine k_then ?_
    refine c_ret ?_
    refine r_res2 rfl (res_cellA rfl Try.isAgg63 Try.sizeOf63 (fun _ h => h.at 0 rfl) (Kv.c_len _)) (show Sep.look _ _ = some _ from rfl) ?_
    exact fun _ h => ⟨q, rfl, trivial, h.nothing⟩
set_option maxRecDepth 100000 in
set_option maxHeartbeats 1000000 in
theorem vof_ex (s : ByteArray) (hs : s.size ≤ 16) : Con Try.prog 33 [.string s] (fun _ => True) [] (fun q : Kv 16 => .tuple #[.agg q.c.toArray, .int .i64 0]) (fun _ => True) (fun _ => []) := by
  intro w hE hH
  refine enter (n := 27) (vs := [.string s]) (St w [] []) Try.func33 rfl rfl rfl (St.init hH) ?_
  refine c_seq ?_
  have hzl : z16.length = 16 := List.length_replicate ..
  refine c_region _ rfl ?_
  refine l_e rfl ?_
  refine e_alloc rfl rfl rfl Try.zeroValue43 ?_
  intro br
  refine cells_eq (show _ = kc 0 z16 from rfl) ?_
  refine l_q rfl (q_assign rfl rfl) rfl rfl ?_
  refine l_nil ?_
  refine k_then ?_
  refine c_seq ?_
  refine c_region _ rfl ?_
  refine l_q rfl (q_build (kc 0 z16) rfl rfl (fun w => by kernel_rfl)) rfl rfl ?_
  refine l_e rfl ?_
  refine e_alloc rfl rfl rfl Try.zeroValue43 ?_
  intro bk
  refine cells_eq (show _ = kc 0 z16 from rfl) ?_
  refine l_e rfl ?_
  refine e_storeAgg rfl rfl Try.sizeOf43 rfl rfl rfl kc_one (Nat.le_of_ble_eq_true rfl) ?_
  refine cells_eq (kc_all hzl hzl) ?_
  refine l_nil ?_
  refine k_then ?_
  refine c_seq ?_
  refine c_seq ?_
  refine c_region _ rfl ?_
  refine l_q rfl (q_move rfl rfl) rfl rfl ?_
  refine l_q rfl (q_lenS rfl Try.underlying9 rfl) rfl rfl ?_
  refine l_q rfl (q_gtr rfl rfl rfl) rfl rfl ?_
  refine l_nil ?_
  refine k_then ?_
  refine Pre.setB (t := 9) (c := false) rfl (decide_eq_false (by omega)) ?_
  refine c_false rfl ?_
  refine c_skip ?_
  refine k_then ?_
  refine c_seq ?_
  refine c_region _ rfl ?_
  refine l_q rfl (q_move rfl rfl) rfl rfl ?_
  refine l_q rfl (q_lenS rfl Try.underlying9 rfl) rfl rfl ?_
  refine l_q rfl (q_fieldAddr rfl Try.underlying43 rfl Try.sizeOf3 rfl rfl) rfl rfl ?_
  refine l_e rfl ?_
  refine e_store rfl rfl Try.sizeOf3 rfl rfl rfl (by rw [kc_len hzl]; decide) ?_
  refine cells_eq (kc_n) ?_
  refine l_nil ?_
  refine k_then ?_
  refine c_seq ?_
  refine c_seq ?_
  refine c_region _ rfl ?_
  refine l_q rfl (q_assign rfl rfl) rfl rfl ?_
  refine l_nil ?_
  refine k_then ?_
  refine c_block ?_
  refine pull1 ?_
  refine pull1 ?_
  refine c_loop2 (fun (i : Nat) (l : List Int) => [(0, .string s), (2, .pointer (some ⟨br, 0, none⟩)), (3, .int .i64 0), (4, .pointer (some ⟨bk, 0, none⟩)), (5, .int .i64 (i : Int))]) (fun (i : Nat) (l : List Int) => St w [] [cellsE bk 43 (kc (s.size : Int) l), cellsE br 43 (kc 0 z16)]) (fun (i : Nat) (l : List Int) => i ≤ s.size ∧ l.length = 16 ∧ ∀ x ∈ l, (Lit.int .u8 x).wf = true) (fun (i : Nat) (l : List Int) => s.size - i) (0) (z16) ⟨Nat.zero_le _, hzl, z_wf⟩ (Sub.cons rfl (Sub.cons rfl (Sub.cons rfl (Sub.cons rfl (Sub.cons rfl (Sub.nil)))))) (fun _ h => h) ?_
  intro i l hp
  refine c_seq ?_
  refine c_seq ?_
  obtain ⟨hi, hll, hlw⟩ := hp
  refine c_region _ rfl ?_
  refine l_q rfl (q_move rfl rfl) rfl rfl ?_
  refine l_q rfl (q_move rfl rfl) rfl rfl ?_
  refine l_q rfl (q_lenS rfl Try.underlying9 rfl) rfl rfl ?_
  refine l_q rfl (q_lss rfl rfl rfl) rfl rfl ?_
  refine l_nil ?_
  refine k_then ?_
  refine Pre.caseB 17 rfl (fun h1 => ?_) (fun h1 => ?_)
  · try simp only [decide_eq_true_eq, decide_eq_false_iff_not, Bool.not_eq_true', Bool.not_eq_false'] at h1
    obtain ⟨b, hb⟩ := str_at (s := s) (i := i) (by omega)
    refine c_true rfl ?_
    refine c_skip ?_
    refine k_then ?_
    refine c_seq ?_
    refine c_block ?_
    refine c_region _ rfl ?_
    refine l_q rfl (q_move rfl rfl) rfl rfl ?_
    refine l_q rfl (q_move rfl rfl) rfl rfl ?_
    refine l_q rfl (q_move rfl rfl) rfl rfl ?_
    refine l_q rfl (q_indexS i _ rfl Try.underlying9 rfl rfl rfl hb) rfl rfl ?_
    refine l_q rfl (q_fieldAddr rfl Try.underlying43 rfl Try.sizeOf41 rfl rfl) rfl rfl ?_
    refine l_q rfl (q_indexArr i rfl Try.underlying41 Try.sizeOf5 rfl rfl rfl (by omega)) rfl rfl ?_
    refine l_e rfl ?_
    refine e_store rfl rfl Try.sizeOf5 rfl rfl rfl (by rw [kc_len hll]; show 0 + 1 + i * 1 < 17; omega) ?_
    refine cells_eq (kc_set _) ?_
    refine l_nil ?_
    refine k_block ?_
    refine k_then ?_
    refine c_region _ rfl ?_
    refine l_q rfl (q_move rfl rfl) rfl rfl ?_
    refine l_q rfl (q_inc rfl rfl rfl (by omega)) rfl rfl ?_
    refine l_q rfl (q_assign rfl rfl) rfl rfl ?_
    refine l_nil ?_
    exact k_round ((i + 1, l.set i (b.toNat : Int))) (by dsimp only; omega) ⟨by dsimp only; omega, by dsimp only; rw [List.length_set]; exact hll, set_wf hlw⟩ (Sub.cons rfl (Sub.cons rfl (Sub.cons rfl (Sub.cons rfl (Sub.cons rfl (Sub.nil)))))) (fun _ h => h)
  · try simp only [decide_eq_true_eq, decide_eq_false_iff_not, Bool.not_eq_true', Bool.not_eq_false'] at h1
    obtain ⟨q, hq⟩ : ∃ q : Kv 16, kc (s.size : Int) l = q.c := ⟨⟨s.size, l, hll, wf_n8 (by omega), hlw⟩, rfl⟩
    rw [hq]
    refine c_false rfl ?_
    refine c_exit ?_
    refine k_then_exit ?_
    refine k_then_exit ?_
    refine k_block_exit ?_
    refine k_then ?_
    refine c_seq ?_
    refine c_region _ rfl ?_
    refine l_q rfl (q_loadCAgg (q.c) rfl Try.isAgg43 Try.sizeOf43 rfl (fun _ h => h.at 0 rfl) (kv_whole _) (Kv.c_len _)) rfl rfl ?_
    refine pull1 ?_
    refine l_e rfl ?_
    refine e_storeAgg rfl rfl Try.sizeOf43 rfl rfl (Kv.c_len _) (Kv.one _) (by rw [Kv.c_len, kc_len hzl]; decide) ?_
    refine cells_eq (Sep.splice_all (by rw [Kv.c_len, kc_len hzl])) ?_
    refine l_q rfl (q_assign rfl rfl) rfl rfl ?_
    refine l_nil ?_
    refine k_then ?_
    refine c_ret ?_
    refine r_res2 rfl (res_cellA rfl Try.isAgg43 Try.sizeOf43 (fun _ h => h.at 0 rfl) (Kv.c_len _)) (show Sep.look _ _ = some _ from rfl) ?_
    exact fun _ h => ⟨q, rfl, trivial, h.nothing⟩
set_option maxRecDepth 100000 in
set_option maxHeartbeats 1000000 in
theorem rkcheck_spec (k : Kv 8) : Con Try.prog 36 [.agg k.c.toArray] (fun _ => True) [] (fun _ : Unit => .bool (kck k)) (fun _ => True) (fun _ => []) := by
  intro w hE hH
  refine enter (n := 23) (vs := [.agg k.c.toArray]) (St w [] []) Try.func36 rfl rfl rfl (St.init hH) ?_
  refine c_seq ?_
  refine c_region _ rfl ?_
  refine l_e rfl ?_
  refine e_box rfl rfl rfl rfl ?_
  intro bk
  refine cells_eq (show _ = k.c from rfl) ?_
  refine l_q rfl (q_assign rfl rfl) rfl rfl ?_
  refine l_nil ?_
  refine k_then ?_
  refine c_seq ?_
  refine c_seq ?_
  refine c_region _ rfl ?_
  refine l_q rfl (q_fieldAddr rfl Try.underlying63 rfl Try.sizeOf3 rfl rfl) rfl rfl ?_
  refine l_q rfl (q_loadC rfl Try.isAgg3 rfl (fun _ h => h.at 0 rfl) rfl) rfl rfl ?_
  refine l_q rfl (q_lss rfl rfl rfl) rfl rfl ?_
  refine l_q rfl (q_move rfl rfl) rfl rfl ?_
  refine Pre.caseB 7 rfl (fun h1 => ?_) (fun h1 => ?_)
  · try simp only [decide_eq_true_eq, decide_eq_false_iff_not, Bool.not_eq_true', Bool.not_eq_false'] at h1
    rw [kck_lo h1]
    refine l_not rfl rfl rfl ?_
    refine l_not rfl rfl rfl ?_
    refine l_not rfl rfl rfl ?_
    refine l_q rfl (q_pick_t rfl rfl rfl) rfl rfl ?_
    refine l_nil ?_
    refine k_then ?_
    refine c_true rfl ?_
    refine c_seq ?_
    refine c_region _ rfl ?_
    refine l_q rfl (q_assign rfl rfl) rfl rfl ?_
    refine l_nil ?_
    refine k_then ?_
    refine c_ret ?_
    refine k_then_ret ?_
    refine r_one rfl rfl ?_
    exact fun _ h => ⟨(), congrArg (fun z => Ending.returned (Value.bool z)) (rfl), trivial, h.nothing⟩
  · try simp only [decide_eq_true_eq, decide_eq_false_iff_not, Bool.not_eq_true', Bool.not_eq_false'] at h1
    refine l_q rfl (q_fieldAddr rfl Try.underlying63 rfl Try.sizeOf3 rfl rfl) rfl rfl ?_
    refine l_q rfl (q_loadC rfl Try.isAgg3 rfl (fun _ h => h.at 0 rfl) rfl) rfl rfl ?_
    refine l_q rfl (q_gtr rfl rfl rfl) rfl rfl ?_
    refine l_q rfl (q_pick_f rfl rfl rfl) rfl rfl ?_
    refine l_nil ?_
    refine k_then ?_
    refine Pre.caseB 11 rfl (fun h2 => ?_) (fun h2 => ?_)
    · try simp only [decide_eq_true_eq, decide_eq_false_iff_not, Bool.not_eq_true', Bool.not_eq_false'] at h2
      rw [kck_hi h2]
      refine c_true rfl ?_
      refine c_seq ?_
      refine c_region _ rfl ?_
      refine l_q rfl (q_assign rfl rfl) rfl rfl ?_
      refine l_nil ?_
      refine k_then ?_
      refine c_ret ?_
      refine k_then_ret ?_
      refine r_one rfl rfl ?_
      exact fun _ h => ⟨(), congrArg (fun z => Ending.returned (Value.bool z)) (rfl), trivial, h.nothing⟩
    · try simp only [decide_eq_true_eq, decide_eq_false_iff_not, Bool.not_eq_true', Bool.not_eq_false'] at h2
      obtain ⟨m, hm, hm16⟩ : ∃ m : Nat, k.n = (m : Int) ∧ m ≤ 8 := ⟨k.n.toNat, by omega, by omega⟩
      refine c_false rfl ?_
      refine c_skip ?_
      refine k_then ?_
      refine c_seq ?_
      refine c_seq ?_
      refine c_region _ rfl ?_
      refine l_q rfl (q_fieldAddr rfl Try.underlying63 rfl Try.sizeOf3 rfl rfl) rfl rfl ?_
      refine l_q rfl (q_loadC rfl Try.isAgg3 rfl (fun _ h => h.at 0 rfl) rfl) rfl rfl ?_
      refine l_q rfl (q_assign rfl rfl) rfl rfl ?_
      refine l_nil ?_
      refine k_then ?_
      refine c_block ?_
      refine c_loop1 (fun (i : Nat) => [(1, .pointer (some ⟨bk, 0, none⟩)), (3, .int .i64 (i : Int))]) (fun (i : Nat) => St w [] [cellsE bk 63 k.c]) (fun (i : Nat) => i ≤ 8 ∧ m ≤ i ∧ ∀ j, m ≤ j → j < i → k.b.getD j 0 = 0) (fun (i : Nat) => 8 - i) (m) ⟨hm16, Nat.le_refl _, fun j h1 h2 => by omega⟩ (Sub.cons rfl (Sub.consE rfl (by rw [hm]) Sub.nil)) (fun _ h => h) ?_
      intro i hp
      refine c_seq ?_
      refine c_seq ?_
      obtain ⟨hi, hmi, hz⟩ := hp
      refine c_region _ rfl ?_
      refine l_q rfl (q_move rfl rfl) rfl rfl ?_
      refine l_q rfl (q_lss rfl rfl rfl) rfl rfl ?_
      refine l_nil ?_
      refine k_then ?_
      refine Pre.caseB 15 rfl (fun hil => ?_) (fun hil => ?_)
      · try simp only [decide_eq_true_eq, decide_eq_false_iff_not, Bool.not_eq_true', Bool.not_eq_false'] at hil
        refine c_true rfl ?_
        refine c_skip ?_
        refine k_then ?_
        refine c_seq ?_
        refine c_block ?_
        refine c_seq ?_
        refine c_region _ rfl ?_
        refine l_q rfl (q_move rfl rfl) rfl rfl ?_
        refine l_q rfl (q_fieldAddr rfl Try.underlying63 rfl Try.sizeOf61 rfl rfl) rfl rfl ?_
        refine l_q rfl (q_indexArr i rfl Try.underlying61 Try.sizeOf5 rfl rfl rfl (by omega)) rfl rfl ?_
        refine l_q rfl (q_loadC rfl Try.isAgg5 rfl (fun _ h => h.at 0 rfl) (kv_get k (by omega))) rfl rfl ?_
        refine l_q rfl (q_neq rfl rfl rfl) rfl rfl ?_
        refine l_nil ?_
        refine k_then ?_
        refine Pre.caseB 22 rfl (fun hne => ?_) (fun hne => ?_)
        · try simp only [decide_eq_true_eq, decide_eq_false_iff_not, Bool.not_eq_true', Bool.not_eq_false'] at hne
          have hf : kck k = false := kck_no (i := i) (by omega) (by omega) (by simpa using hne)
          rw [hf]
          refine c_true rfl ?_
          refine c_seq ?_
          refine c_region _ rfl ?_
          refine l_q rfl (q_assign rfl rfl) rfl rfl ?_
          refine l_nil ?_
          refine k_then ?_
          refine c_ret ?_
          refine k_block_ret ?_
          refine k_then_ret ?_
          refine k_then_ret ?_
          refine k_block_ret ?_
          refine k_then_ret ?_
          refine r_one rfl rfl ?_
          exact fun _ h => ⟨(), congrArg (fun z => Ending.returned (Value.bool z)) (rfl), trivial, h.nothing⟩
        · try simp only [decide_eq_true_eq, decide_eq_false_iff_not, Bool.not_eq_true', Bool.not_eq_false'] at hne
          refine c_false rfl ?_
          refine c_skip ?_
          refine k_block ?_
          refine k_then ?_
          refine c_region _ rfl ?_
          refine l_q rfl (q_move rfl rfl) rfl rfl ?_
          refine l_q rfl (q_inc rfl rfl rfl (by omega)) rfl rfl ?_
          refine l_q rfl (q_assign rfl rfl) rfl rfl ?_
          refine l_nil ?_
          exact k_round (i + 1) (by omega) ⟨by omega, by omega, fun j h1 h2 => by
              rcases Nat.lt_succ_iff_lt_or_eq.1 h2 with h3 | rfl
              · exact hz j h1 h3
              · simpa using hne⟩ (Sub.cons rfl (Sub.cons rfl (Sub.nil))) (fun _ h => h)
      · try simp only [decide_eq_true_eq, decide_eq_false_iff_not, Bool.not_eq_true', Bool.not_eq_false'] at hil
        have hf : kck k = true := kck_yes hm hm16 (fun j h1 h2 => hz j h1 (by omega))
        rw [hf]
        refine c_false rfl ?_
        refine c_exit ?_
        refine k_then_exit ?_
        refine k_then_exit ?_
        refine k_block_exit ?_
        refine k_then ?_
        refine c_seq ?_
        refine c_region _ rfl ?_
        refine l_q rfl (q_assign rfl rfl) rfl rfl ?_
        refine l_nil ?_
        refine k_then ?_
        refine c_ret ?_
        refine r_one rfl rfl ?_
        exact fun _ h => ⟨(), congrArg (fun z => Ending.returned (Value.bool z)) (rfl), trivial, h.nothing⟩
end Go.Proofs.Ythfdmeikpbkpaaa
