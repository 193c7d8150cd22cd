/- keys, values, a leaf of one number -/
import Derived.Test.YtpfbagkjhchojaaY
set_option linter.unusedVariables false
set_option linter.unusedSimpArgs false
namespace Go.Proofs.Ytpfbagkjhchojaa
open Go.Sep Go.RowKit

/-! ## Keys and values, of texts -/
abbrev kc (n : Int) (l : List Int) : List Value := .int .i64 n :: l.map (.int .u8)
theorem kc_len {n : Int} {l : List Int} {m : Nat} (h : l.length = m) : (kc n l).length = m + 1 := by simp [h]
theorem kc_whole {n : Int} {l : List Int} {m : Nat} (h : l.length = m) : ((kc n l).drop 0).take (m + 1) = kc n l := List.take_of_length_le (by simp [h])
theorem kc_set {n : Int} {l : List Int} {j : Nat} (x : Int) : (kc n l).set (0 + 1 + j * 1) (.int .u8 x) = kc n (l.set j x) := by
  rw [show 0 + 1 + j * 1 = j + 1 from by omega]
  simp [List.map_set]
theorem kc_n {n m : Int} {l : List Int} : (kc n l).set 0 (.int .i64 m) = kc m l := rfl
theorem kc_one {n : Int} {l : List Int} : ∀ v ∈ kc n l, v.oneCell' = true := by
  intro v hv
  rcases List.mem_cons.1 hv with rfl | hv
  · rfl
  · obtain ⟨z, _, rfl⟩ := List.mem_map.1 hv; rfl
theorem kc_all {n m : Int} {l k : List Int} {d : Nat} (h : l.length = d) (h' : k.length = d) : Sep.splice (kc n l) 0 (kc m k) = kc m k := Sep.splice_all (by rw [kc_len h, kc_len h'])
abbrev z8 : List Int := List.replicate 8 0
abbrev z16 : List Int := List.replicate 16 0
theorem z_wf {m : Nat} : ∀ x ∈ List.replicate m (0 : Int), (Lit.int .u8 x).wf = true := fun x h => by rw [(List.mem_replicate.1 h).2]; decide
theorem set_wf {l : List Int} {i : Nat} {b : UInt8} (h : ∀ x ∈ l, (Lit.int .u8 x).wf = true) : ∀ x ∈ l.set i (b.toNat : Int), (Lit.int .u8 x).wf = true := fun x hx => by
  rcases List.mem_or_eq_of_mem_set hx with hx | rfl
  · exact h x hx
  · have := b.toNat_lt
    simp only [Lit.wf, Bool.and_eq_true, decide_eq_true_eq]
    exact ⟨by show (0 : Int) ≤ _; omega, by show _ ≤ (2 ^ 8 - 1 : Int); omega⟩
theorem str_at {s : ByteArray} {i : Nat} (h : i < s.size) : ∃ b, s[i]? = some b := ⟨s[i]'h, getElem?_pos s i h⟩

theorem strOf_size (l : List Int) : (strOfNums l).size = l.length := by unfold strOfNums; simp [ByteArray.size]
/-- A message to put, as it lies. -/
def mC (k : Kv 8) (v : Kv 16) : List Value := .int .i64 1 :: .int .u64 0 :: (k.c ++ v.c ++ [.int .u64 0])
theorem mC_len (k : Kv 8) (v : Kv 16) : (mC k v).length = 29 := by simp [mC, Kv.c_len]
theorem mC_key (k : Kv 8) (v : Kv 16) : ((mC k v).drop 2).take 9 = k.c := by
  show (k.c ++ v.c ++ [_]).take 9 = _
  rw [List.append_assoc]; exact List.take_left' (Kv.c_len _)
theorem mC_val (k : Kv 8) (v : Kv 16) : ((mC k v).drop 11).take 17 = v.c := by
  show ((k.c ++ v.c ++ [_]).drop 9).take 17 = _
  rw [List.append_assoc, List.drop_left' (Kv.c_len _)]; exact List.take_left' (Kv.c_len _)
theorem mC_whole (k : Kv 8) (v : Kv 16) : ((mC k v).drop 0).take 29 = mC k v := List.take_of_length_le (by rw [List.drop_zero, mC_len]; exact Nat.le_refl _)
theorem mC_one (k : Kv 8) (v : Kv 16) : ∀ x ∈ mC k v, x.oneCell' = true := fun x hx => by
  simp only [mC, List.mem_cons, List.mem_append, List.not_mem_nil, or_false] at hx
  rcases hx with rfl | rfl | (hx | hx) | rfl
  · rfl
  · rfl
  · exact Kv.one _ _ hx
  · exact Kv.one _ _ hx
  · rfl
theorem key_n (e : En) : e.c[0]? = some (.int .i64 e.key.n) := rfl
theorem val_n (e : En) : e.c[9]? = some (.int .i64 e.val.n) := by
  unfold En.c; rw [List.getElem?_append_right (by rw [Kv.c_len]; decide), Kv.c_len]; rfl
theorem kv8_list (k : Kv 8) : ∃ a b c d e f g h : Int, k.b = [a, b, c, d, e, f, g, h] := by
  obtain ⟨n, b, len, _, _⟩ := k
  match b, len with
  | [a, b, c, d, e, f, g, h], _ => exact ⟨a, b, c, d, e, f, g, h, rfl⟩
theorem kv16_list (k : Kv 16) : ∃ a b c d e f g h a' b' c' d' e' f' g' h' : Int, k.b = [a, b, c, d, e, f, g, h, a', b', c', d', e', f', g', h'] := by
  obtain ⟨n, b, len, _, _⟩ := k
  match b, len with
  | [a, b, c, d, e, f, g, h, a', b', c', d', e', f', g', h'], _ => exact ⟨a, b, c, d, e, f, g, h, a', b', c', d', e', f', g', h', rfl⟩
theorem build_en (k : Kv 8) (v : Kv 16) (w : World) : (Instr.build 121 #[(0, .agg k.c.toArray), (1, .agg v.c.toArray)]).run Try.prog w = .ok (.agg (⟨k, v⟩ : En).c.toArray) w := by
  obtain ⟨a, b, c, d, e, f, g, h, hb⟩ := kv8_list k
  obtain ⟨a1, b1, c1, d1, e1, f1, g1, h1, a2, b2, c2, d2, e2, f2, g2, h2, hv⟩ := kv16_list v
  unfold En.c Kv.c
  simp only
  rw [hb, hv]
  kernel_rfl
theorem build_mC (k : Kv 8) (v : Kv 16) (w : World) : (Instr.build 127 #[(0, .int .i64 1), (2, .agg k.c.toArray), (3, .agg v.c.toArray)]).run Try.prog w = .ok (.agg (mC k v).toArray) w := by
  obtain ⟨a, b, c, d, e, f, g, h, hb⟩ := kv8_list k
  obtain ⟨a1, b1, c1, d1, e1, f1, g1, h1, a2, b2, c2, d2, e2, f2, g2, h2, hv⟩ := kv16_list v
  unfold mC Kv.c
  rw [hb, hv]
  kernel_rfl

/-- Any number as one from 0 to n - 1. -/
def plc (v n : Int) : Int := v % n
theorem tmod_place {v n : Int} (hn : 0 < n) : (if v.tmod n < 0 then v.tmod n + n else v.tmod n) = v % n := by
  have h1 := Int.tmod_lt_of_pos v hn
  have h2 : -n < v.tmod n := Int.lt_tmod_of_pos v hn
  have h3 := Int.mul_tdiv_add_tmod v n
  have key : ∀ r : Int, 0 ≤ r → r < n → (∃ q, v = n * q + r) → r = v % n := by
    rintro r hr0 hr1 ⟨q, hq⟩
    rw [hq, Int.mul_add_emod_self_left, Int.emod_eq_of_lt hr0 hr1]
  split
  · exact key _ (by omega) (by omega) ⟨v.tdiv n - 1, by rw [Int.mul_sub]; omega⟩
  · exact key _ (by omega) (by omega) ⟨v.tdiv n, by omega⟩

set_option maxRecDepth 100000 in
set_option maxHeartbeats 1000000 in
theorem plc_spec (v n : Int) (hn : 0 < n) (hn2 : n ≤ 4611686018427387904) : Con Try.prog 10 [.int .i64 v, .int .i64 n] (fun _ => True) [] (fun _ : Unit => .int .i64 (v % n)) (fun _ => True) (fun _ => []) := by
  intro w hE hH
  have h1 := Int.tmod_lt_of_pos v hn
  have h2 : -n < v.tmod n := Int.lt_tmod_of_pos v hn
  have h3 := tmod_place (v := v) hn
  refine enter (n := 15) (vs := [.int .i64 v, .int .i64 n]) (St w [] []) Try.func10 rfl rfl rfl (St.init hH) ?_
  refine c_seq ?_
  refine c_region _ rfl ?_
  refine l_q rfl (q_assign rfl rfl) rfl rfl ?_
  refine l_nil ?_
  refine k_then ?_
  refine c_seq ?_
  refine c_region _ rfl ?_
  refine l_q rfl (q_move rfl rfl) rfl rfl ?_
  refine l_q rfl (q_move rfl rfl) rfl rfl ?_
  refine l_q rfl (q_rem rfl rfl rfl (by omega)) rfl rfl ?_
  refine l_q rfl (q_assign rfl rfl) rfl rfl ?_
  refine l_nil ?_
  refine k_then ?_
  refine c_seq ?_
  refine c_seq ?_
  refine c_region _ rfl ?_
  refine l_q rfl (q_move rfl rfl) rfl rfl ?_
  refine l_q rfl (q_lss rfl rfl rfl) rfl rfl ?_
  refine l_nil ?_
  refine k_then ?_
  refine Pre.caseB 10 rfl (fun h => ?_) (fun h => ?_)
  · simp only [decide_eq_true_eq, decide_eq_false_iff_not, Bool.not_eq_true', Bool.not_eq_false'] at h
    rw [if_pos h] at h3
    refine c_true rfl ?_
    refine c_region _ rfl ?_
    refine l_q rfl (q_move rfl rfl) rfl rfl ?_
    refine l_q rfl (q_move rfl rfl) rfl rfl ?_
    refine l_q rfl (q_add64 rfl rfl rfl (by omega)) rfl rfl ?_
    refine l_q rfl (q_assign rfl rfl) rfl rfl ?_
    refine l_nil ?_
    refine k_then ?_
    refine c_seq ?_
    refine c_region _ rfl ?_
    refine l_q rfl (q_move rfl rfl) rfl rfl ?_
    refine l_q rfl (q_assign rfl rfl) rfl rfl ?_
    refine l_nil ?_
    refine k_then ?_
    refine c_ret ?_
    refine r_one rfl rfl ?_
    exact fun _ h => ⟨(), congrArg (fun z => Ending.returned (Value.int .i64 z)) h3, trivial, h⟩
  · simp only [decide_eq_true_eq, decide_eq_false_iff_not, Bool.not_eq_true', Bool.not_eq_false'] at h
    rw [if_neg h] at h3
    refine c_false rfl ?_
    refine c_skip ?_
    refine k_then ?_
    refine c_seq ?_
    refine c_region _ rfl ?_
    refine l_q rfl (q_move rfl rfl) rfl rfl ?_
    refine l_q rfl (q_assign rfl rfl) rfl rfl ?_
    refine l_nil ?_
    refine k_then ?_
    refine c_ret ?_
    refine r_one rfl rfl ?_
    exact fun _ h => ⟨(), congrArg (fun z => Ending.returned (Value.int .i64 z)) h3, trivial, h⟩
set_option maxRecDepth 100000 in
set_option maxHeartbeats 1000000 in
theorem kof_ex (s : ByteArray) (hs : s.size ≤ 8) : Con Try.prog 96 [.string s] (fun _ => True) [] (fun q : Kv 8 => .tuple #[.agg q.c.toArray, .int .i64 0]) (fun q => 0 ≤ q.n ∧ q.n ≤ 8) (fun _ => []) := by
  intro w hE hH
  refine enter (n := 27) (vs := [.string s]) (St w [] []) Try.func96 rfl rfl rfl (St.init hH) ?_
  refine c_seq ?_
  have hzl : z8.length = 8 := List.length_replicate ..
  refine c_region _ rfl ?_
  refine l_e rfl ?_
  refine e_alloc rfl rfl rfl Try.zeroValue116 ?_
  intro br
  refine cells_eq (show _ = kc 0 z8 from rfl) ?_
  refine l_q rfl (q_assign rfl rfl) rfl rfl ?_
  refine l_nil ?_
  refine k_then ?_
  refine c_seq ?_
  refine c_region _ rfl ?_
  refine l_q rfl (q_build (kc 0 z8) rfl rfl (fun w => by kernel_rfl)) rfl rfl ?_
  refine l_e rfl ?_
  refine e_alloc rfl rfl rfl Try.zeroValue116 ?_
  intro bk
  refine cells_eq (show _ = kc 0 z8 from rfl) ?_
  refine l_e rfl ?_
  refine e_storeAgg rfl rfl Try.sizeOf116 rfl rfl rfl kc_one (Nat.le_of_ble_eq_true rfl) ?_
  refine cells_eq (kc_all hzl hzl) ?_
  refine l_nil ?_
  refine k_then ?_
  refine c_seq ?_
  refine c_seq ?_
  refine c_region _ rfl ?_
  refine l_q rfl (q_move rfl rfl) rfl rfl ?_
  refine l_q rfl (q_lenS rfl Try.underlying9 rfl) rfl rfl ?_
  refine l_q rfl (q_gtr rfl rfl rfl) rfl rfl ?_
  refine l_nil ?_
  refine k_then ?_
  refine Pre.setB (t := 9) (c := false) rfl (decide_eq_false (by omega)) ?_
  refine c_false rfl ?_
  refine c_skip ?_
  refine k_then ?_
  refine c_seq ?_
  refine c_region _ rfl ?_
  refine l_q rfl (q_move rfl rfl) rfl rfl ?_
  refine l_q rfl (q_lenS rfl Try.underlying9 rfl) rfl rfl ?_
  refine l_q rfl (q_fieldAddr rfl Try.underlying116 rfl Try.sizeOf3 rfl rfl) rfl rfl ?_
  refine l_e rfl ?_
  refine e_store rfl rfl Try.sizeOf3 rfl rfl rfl (by rw [kc_len hzl]; decide) ?_
  refine cells_eq (kc_n) ?_
  refine l_nil ?_
  refine k_then ?_
  refine c_seq ?_
  refine c_seq ?_
  refine c_region _ rfl ?_
  refine l_q rfl (q_assign rfl rfl) rfl rfl ?_
  refine l_nil ?_
  refine k_then ?_
  refine c_block ?_
  refine pull1 ?_
  refine pull1 ?_
  refine c_loop2 (fun (i : Nat) (l : List Int) => [(0, .string s), (2, .pointer (some ⟨br, 0, none⟩)), (3, .int .i64 0), (4, .pointer (some ⟨bk, 0, none⟩)), (5, .int .i64 (i : Int))]) (fun (i : Nat) (l : List Int) => St w [] [cellsE bk 116 (kc (s.size : Int) l), cellsE br 116 (kc 0 z8)]) (fun (i : Nat) (l : List Int) => i ≤ s.size ∧ l.length = 8 ∧ ∀ x ∈ l, (Lit.int .u8 x).wf = true) (fun (i : Nat) (l : List Int) => s.size - i) (0) (z8) ⟨Nat.zero_le _, hzl, z_wf⟩ (Sub.cons rfl (Sub.cons rfl (Sub.cons rfl (Sub.cons rfl (Sub.cons rfl (Sub.nil)))))) (fun _ h => h) ?_
  intro i l hp
  refine c_seq ?_
  refine c_seq ?_
  obtain ⟨hi, hll, hlw⟩ := hp
  refine c_region _ rfl ?_
  refine l_q rfl (q_move rfl rfl) rfl rfl ?_
  refine l_q rfl (q_move rfl rfl) rfl rfl ?_
  refine l_q rfl (q_lenS rfl Try.underlying9 rfl) rfl rfl ?_
  refine l_q rfl (q_lss rfl rfl rfl) rfl rfl ?_
  refine l_nil ?_
  refine k_then ?_
  refine Pre.caseB 17 rfl (fun h1 => ?_) (fun h1 => ?_)
  · try simp only [decide_eq_true_eq, decide_eq_false_iff_not, Bool.not_eq_true', Bool.not_eq_false'] at h1
    obtain ⟨b, hb⟩ := str_at (s := s) (i := i) (by omega)
    refine c_true rfl ?_
    refine c_skip ?_
    refine k_then ?_
    refine c_seq ?_
    refine c_block ?_
    refine c_region _ rfl ?_
    refine l_q rfl (q_move rfl rfl) rfl rfl ?_
    refine l_q rfl (q_move rfl rfl) rfl rfl ?_
    refine l_q rfl (q_move rfl rfl) rfl rfl ?_
    refine l_q rfl (q_indexS i _ rfl Try.underlying9 rfl rfl rfl hb) rfl rfl ?_
    refine l_q rfl (q_fieldAddr rfl Try.underlying116 rfl Try.sizeOf114 rfl rfl) rfl rfl ?_
    refine l_q rfl (q_indexArr i rfl Try.underlying114 Try.sizeOf5 rfl rfl rfl (by omega)) rfl rfl ?_
    refine l_e rfl ?_
    refine e_store rfl rfl Try.sizeOf5 rfl rfl rfl (by rw [kc_len hll]; show 0 + 1 + i * 1 < 9; omega) ?_
    refine cells_eq (kc_set _) ?_
    refine l_nil ?_
    refine k_block ?_
    refine k_then ?_
    refine c_region _ rfl ?_
    refine l_q rfl (q_move rfl rfl) rfl rfl ?_
    refine l_q rfl (q_inc rfl rfl rfl (by omega)) rfl rfl ?_
    refine l_q rfl (q_assign rfl rfl) rfl rfl ?_
    refine l_nil ?_
    exact k_round ((i + 1, l.set i (b.toNat : Int))) (by dsimp only; omega) ⟨by dsimp only; omega, by dsimp only; rw [List.length_set]; exact hll, set_wf hlw⟩ (Sub.cons rfl (Sub.cons rfl (Sub.cons rfl (Sub.cons rfl (Sub.cons rfl (Sub.nil)))))) (fun _ h => h)
  · try simp only [decide_eq_true_eq, decide_eq_false_iff_not, Bool.not_eq_true', Bool.not_eq_false'] at h1
    obtain ⟨q, hq, hqn⟩ : ∃ q : Kv 8, kc (s.size : Int) l = q.c ∧ q.n = (s.size : Int) := ⟨⟨s.size, l, hll, wf_n8 (by omega), hlw⟩, rfl, rfl⟩
    rw [hq]
    refine c_false rfl ?_
    refine c_exit ?_
    refine k_then_exit ?_
    refine k_then_exit ?_
    refine k_block_exit ?_
    refine k_then ?_
    refine c_seq ?_
    refine c_region _ rfl ?_
    refine l_q rfl (q_loadCAgg (q.c) rfl Try.isAgg116 Try.sizeOf116 rfl (fun _ h => h.at 0 rfl) (kv_whole _) (Kv.c_len _)) rfl rfl ?_
    refine pull1 ?_
    refine l_e rfl ?_
    refine e_storeAgg rfl rfl Try.sizeOf116 rfl rfl (Kv.c_len _) (Kv.one _) (by rw [Kv.c_len, kc_len hzl]; decide) ?_
    refine cells_eq (Sep.splice_all (by rw [Kv.c_len, kc_len hzl])) ?_
    refine l_q rfl (q_assign rfl rfl) rfl rfl ?_
    refine l_nil ?_
    refine k_then ?_
    refine c_ret ?_
    refine r_res2 rfl (res_cellA rfl Try.isAgg116 Try.sizeOf116 (fun _ h => h.at 0 rfl) (Kv.c_len _)) (show Sep.look _ _ = some _ from rfl) ?_
    exact fun _ h => ⟨q, rfl, ⟨by omega, by omega⟩, h.nothing⟩
set_option maxRecDepth 100000 in
set_option maxHeartbeats 1000000 in
theorem vof_ex (s : ByteArray) (hs : s.size ≤ 16) : Con Try.prog 97 [.string s] (fun _ => True) [] (fun q : Kv 16 => .tuple #[.agg q.c.toArray, .int .i64 0]) (fun q => 0 ≤ q.n ∧ q.n ≤ 16) (fun _ => []) := by
  intro w hE hH
  refine enter (n := 27) (vs := [.string s]) (St w [] []) Try.func97 rfl rfl rfl (St.init hH) ?_
  refine c_seq ?_
  have hzl : z16.length = 16 := List.length_replicate ..
  refine c_region _ rfl ?_
  refine l_e rfl ?_
  refine e_alloc rfl rfl rfl Try.zeroValue119 ?_
  intro br
  refine cells_eq (show _ = kc 0 z16 from rfl) ?_
  refine l_q rfl (q_assign rfl rfl) rfl rfl ?_
  refine l_nil ?_
  refine k_then ?_
  refine c_seq ?_
  refine c_region _ rfl ?_
  refine l_q rfl (q_build (kc 0 z16) rfl rfl (fun w => by kernel_rfl)) rfl rfl ?_
  refine l_e rfl ?_
  refine e_alloc rfl rfl rfl Try.zeroValue119 ?_
  intro bk
  refine cells_eq (show _ = kc 0 z16 from rfl) ?_
  refine l_e rfl ?_
  refine e_storeAgg rfl rfl Try.sizeOf119 rfl rfl rfl kc_one (Nat.le_of_ble_eq_true rfl) ?_
  refine cells_eq (kc_all hzl hzl) ?_
  refine l_nil ?_
  refine k_then ?_
  refine c_seq ?_
  refine c_seq ?_
  refine c_region _ rfl ?_
  refine l_q rfl (q_move rfl rfl) rfl rfl ?_
  refine l_q rfl (q_lenS rfl Try.underlying9 rfl) rfl rfl ?_
  refine l_q rfl (q_gtr rfl rfl rfl) rfl rfl ?_
  refine l_nil ?_
  refine k_then ?_
  refine Pre.setB (t := 9) (c := false) rfl (decide_eq_false (by omega)) ?_
  refine c_false rfl ?_
  refine c_skip ?_
  refine k_then ?_
  refine c_seq ?_
  refine c_region _ rfl ?_
  refine l_q rfl (q_move rfl rfl) rfl rfl ?_
  refine l_q rfl (q_lenS rfl Try.underlying9 rfl) rfl rfl ?_
  refine l_q rfl (q_fieldAddr rfl Try.underlying119 rfl Try.sizeOf3 rfl rfl) rfl rfl ?_
  refine l_e rfl ?_
  refine e_store rfl rfl Try.sizeOf3 rfl rfl rfl (by rw [kc_len hzl]; decide) ?_
  refine cells_eq (kc_n) ?_
  refine l_nil ?_
  refine k_then ?_
  refine c_seq ?_
  refine c_seq ?_
  refine c_region _ rfl ?_
  refine l_q rfl (q_assign rfl rfl) rfl rfl ?_
  refine l_nil ?_
  refine k_then ?_
  refine c_block ?_
  refine pull1 ?_
  refine pull1 ?_
  refine c_loop2 (fun (i : Nat) (l : List Int) => [(0, .string s), (2, .pointer (some ⟨br, 0, none⟩)), (3, .int .i64 0), (4, .pointer (some ⟨bk, 0, none⟩)), (5, .int .i64 (i : Int))]) (fun (i : Nat) (l : List Int) => St w [] [cellsE bk 119 (kc (s.size : Int) l), cellsE br 119 (kc 0 z16)]) (fun (i : Nat) (l : List Int) => i ≤ s.size ∧ l.length = 16 ∧ ∀ x ∈ l, (Lit.int .u8 x).wf = true) (fun (i : Nat) (l : List Int) => s.size - i) (0) (z16) ⟨Nat.zero_le _, hzl, z_wf⟩ (Sub.cons rfl (Sub.cons rfl (Sub.cons rfl (Sub.cons rfl (Sub.cons rfl (Sub.nil)))))) (fun _ h => h) ?_
  intro i l hp
  refine c_seq ?_
  refine c_seq ?_
  obtain ⟨hi, hll, hlw⟩ := hp
  refine c_region _ rfl ?_
  refine l_q rfl (q_move rfl rfl) rfl rfl ?_
  refine l_q rfl (q_move rfl rfl) rfl rfl ?_
  refine l_q rfl (q_lenS rfl Try.underlying9 rfl) rfl rfl ?_
  refine l_q rfl (q_lss rfl rfl rfl) rfl rfl ?_
  refine l_nil ?_
  refine k_then ?_
  refine Pre.caseB 17 rfl (fun h1 => ?_) (fun h1 => ?_)
  · try simp only [decide_eq_true_eq, decide_eq_false_iff_not, Bool.not_eq_true', Bool.not_eq_false'] at h1
    obtain ⟨b, hb⟩ := str_at (s := s) (i := i) (by omega)
    refine c_true rfl ?_
    refine c_skip ?_
    refine k_then ?_
    refine c_seq ?_
    refine c_block ?_
    refine c_region _ rfl ?_
    refine l_q rfl (q_move rfl rfl) rfl rfl ?_
    refine l_q rfl (q_move rfl rfl) rfl rfl ?_
    refine l_q rfl (q_move rfl rfl) rfl rfl ?_
    refine l_q rfl (q_indexS i _ rfl Try.underlying9 rfl rfl rfl hb) rfl rfl ?_
    refine l_q rfl (q_fieldAddr rfl Try.underlying119 rfl Try.sizeOf117 rfl rfl) rfl rfl ?_
    refine l_q rfl (q_indexArr i rfl Try.underlying117 Try.sizeOf5 rfl rfl rfl (by omega)) rfl rfl ?_
    refine l_e rfl ?_
    refine e_store rfl rfl Try.sizeOf5 rfl rfl rfl (by rw [kc_len hll]; show 0 + 1 + i * 1 < 17; omega) ?_
    refine cells_eq (kc_set _) ?_
    refine l_nil ?_
    refine k_block ?_
    refine k_then ?_
    refine c_region _ rfl ?_
    refine l_q rfl (q_move rfl rfl) rfl rfl ?_
    refine l_q rfl (q_inc rfl rfl rfl (by omega)) rfl rfl ?_
    refine l_q rfl (q_assign rfl rfl) rfl rfl ?_
    refine l_nil ?_
    exact k_round ((i + 1, l.set i (b.toNat : Int))) (by dsimp only; omega) ⟨by dsimp only; omega, by dsimp only; rw [List.length_set]; exact hll, set_wf hlw⟩ (Sub.cons rfl (Sub.cons rfl (Sub.cons rfl (Sub.cons rfl (Sub.cons rfl (Sub.nil)))))) (fun _ h => h)
  · try simp only [decide_eq_true_eq, decide_eq_false_iff_not, Bool.not_eq_true', Bool.not_eq_false'] at h1
    obtain ⟨q, hq, hqn⟩ : ∃ q : Kv 16, kc (s.size : Int) l = q.c ∧ q.n = (s.size : Int) := ⟨⟨s.size, l, hll, wf_n8 (by omega), hlw⟩, rfl, rfl⟩
    rw [hq]
    refine c_false rfl ?_
    refine c_exit ?_
    refine k_then_exit ?_
    refine k_then_exit ?_
    refine k_block_exit ?_
    refine k_then ?_
    refine c_seq ?_
    refine c_region _ rfl ?_
    refine l_q rfl (q_loadCAgg (q.c) rfl Try.isAgg119 Try.sizeOf119 rfl (fun _ h => h.at 0 rfl) (kv_whole _) (Kv.c_len _)) rfl rfl ?_
    refine pull1 ?_
    refine l_e rfl ?_
    refine e_storeAgg rfl rfl Try.sizeOf119 rfl rfl (Kv.c_len _) (Kv.one _) (by rw [Kv.c_len, kc_len hzl]; decide) ?_
    refine cells_eq (Sep.splice_all (by rw [Kv.c_len, kc_len hzl])) ?_
    refine l_q rfl (q_assign rfl rfl) rfl rfl ?_
    refine l_nil ?_
    refine k_then ?_
    refine c_ret ?_
    refine r_res2 rfl (res_cellA rfl Try.isAgg119 Try.sizeOf119 (fun _ h => h.at 0 rfl) (Kv.c_len _)) (show Sep.look _ _ = some _ from rfl) ?_
    exact fun _ h => ⟨q, rfl, ⟨by omega, by omega⟩, h.nothing⟩
set_option maxRecDepth 100000 in
set_option maxHeartbeats 1000000 in
theorem value_ex (v : Int) : Con Try.prog 82 [.int .i64 v] (fun _ => True) [] (fun k : Kv 16 => .agg k.c.toArray) (fun q => 0 ≤ q.n ∧ q.n ≤ 16) (fun _ => []) := by
  intro w hE hH
  refine enter (n := 38) (vs := [.int .i64 v]) (St w [] []) Try.func82 rfl rfl rfl (St.init hH) ?_
  refine c_seq ?_
  refine c_region _ rfl ?_
  refine l_e rfl ?_
  refine e_alloc rfl rfl rfl Try.zeroValue119 ?_
  intro br
  refine cells_eq (show _ = (kv0 16).c from rfl) ?_
  refine l_nil ?_
  refine k_then ?_
  refine c_seq ?_
  refine c_region _ rfl ?_
  refine l_q rfl (q_move rfl rfl) rfl rfl ?_
  refine l_e rfl ?_
  refine e_call_00 (plc_spec (v) 1099511627776 (by decide) (by decide)) rfl rfl rfl Try.call10 rfl (fun _ _ => trivial) ?_
  intro _ _
  refine l_q rfl (q_assign rfl rfl) rfl rfl ?_
  refine l_nil ?_
  refine k_then ?_
  refine c_seq ?_
  obtain ⟨k, hk, hkb⟩ : ∃ k : Nat, v % 1099511627776 = (k : Int) ∧ k < 1099511627776 := ⟨(v % 1099511627776).toNat, by omega, by omega⟩
  refine Pre.setV (t := 3) (c := .int .i64 (k : Int)) rfl (by rw [hk]) ?_
  obtain ⟨n, hn, hn17⟩ : ∃ n : Nat, (k : Int) % 17 = (n : Int) ∧ n < 17 := ⟨k % 17, by omega, by omega⟩
  refine c_region _ rfl ?_
  refine l_q rfl (q_move rfl rfl) rfl rfl ?_
  refine l_q rfl (q_rem_nn rfl rfl rfl (by omega) (by omega)) rfl rfl ?_
  refine l_q rfl (q_assign rfl rfl) rfl rfl ?_
  refine l_nil ?_
  refine k_then ?_
  refine c_seq ?_
  refine Pre.setV (t := 4) (c := .int .i64 (n : Int)) rfl (by rw [hn]) ?_
  refine c_region _ rfl ?_
  refine l_q rfl (q_move rfl rfl) rfl rfl ?_
  refine l_e rfl ?_
  refine e_makeSlice (encI .u8) 0 n rfl rfl rfl Try.underlying22 info5 rfl rfl rfl rfl rfl rfl rfl (by simp only [byt5]; omega) (by omega) ?_
  intro vb
  refine l_q rfl (q_assign rfl rfl) rfl rfl ?_
  refine l_nil ?_
  refine k_then ?_
  refine c_seq ?_
  refine c_seq ?_
  refine c_region _ rfl ?_
  refine l_q rfl (q_assign rfl rfl) rfl rfl ?_
  refine l_nil ?_
  refine k_then ?_
  refine c_block ?_
  refine pull1 ?_
  refine pull1 ?_
  refine c_loop2 (fun (i : Nat) (l : List Int) => [(2, .pointer (some ⟨br, 0, none⟩)), (3, .int .i64 (k : Int)), (4, .int .i64 (n : Int)), (5, vb), (6, .int .i64 (i : Int))]) (fun (i : Nat) (l : List Int) => St w [] [rowE vb 5 (encI .u8) l, cellsE br 119 (kv0 16).c]) (fun (i : Nat) (l : List Int) => i ≤ n ∧ l.length = n) (fun (i : Nat) (l : List Int) => n - i) (0) (List.replicate n 0) ⟨Nat.zero_le _, by simp⟩ (Sub.cons rfl (Sub.cons rfl (Sub.cons rfl (Sub.cons rfl (Sub.cons rfl (Sub.nil)))))) (fun _ h => h) ?_
  intro i l hp
  refine c_seq ?_
  refine c_seq ?_
  obtain ⟨hi, hl⟩ := hp
  refine c_region _ rfl ?_
  refine l_q rfl (q_move rfl rfl) rfl rfl ?_
  refine l_q rfl (q_move rfl rfl) rfl rfl ?_
  refine l_q rfl (q_lss rfl rfl rfl) rfl rfl ?_
  refine l_nil ?_
  refine k_then ?_
  refine Pre.caseB 17 rfl (fun hil => ?_) (fun hil => ?_)
  · try simp only [decide_eq_true_eq, decide_eq_false_iff_not, Bool.not_eq_true', Bool.not_eq_false'] at hil
    have hmul : (0 : Int) ≤ (i : Int) * ((k : Int) / 4352) ∧ (i : Int) * ((k : Int) / 4352) ≤ 17592186044416 := by
      have h1 : (i : Int) * ((k : Int) / 4352) = ((i * (k / 4352) : Nat) : Int) := by rw [Int.natCast_mul, Int.natCast_ediv]; rfl
      have h2 : i * (k / 4352) ≤ 16 * 1099511627776 := Nat.mul_le_mul (by omega) (by omega)
      rw [h1]; omega
    refine c_true rfl ?_
    refine c_skip ?_
    refine k_then ?_
    refine c_seq ?_
    refine c_block ?_
    refine c_region _ rfl ?_
    refine l_q rfl (q_move rfl rfl) rfl rfl ?_
    refine l_q rfl (q_move rfl rfl) rfl rfl ?_
    refine l_q rfl (q_move rfl rfl) rfl rfl ?_
    refine l_q rfl (q_quo_nn rfl rfl rfl (by omega) (by omega) (by omega)) rfl rfl ?_
    refine l_q rfl (q_move rfl rfl) rfl rfl ?_
    refine l_q rfl (q_move rfl rfl) rfl rfl ?_
    refine l_q rfl (q_quo_nn rfl rfl rfl (by omega) (by omega) (by omega)) rfl rfl ?_
    refine l_q rfl (q_mul64 rfl rfl rfl (by omega)) rfl rfl ?_
    refine l_q rfl (q_add64 rfl rfl rfl (by omega)) rfl rfl ?_
    refine l_q rfl (q_conv rfl Try.underlying3 Try.underlying5 rfl) rfl rfl ?_
    refine l_q rfl (q_indexV i rfl Try.underlying22 Try.sizeOf5 rfl (fun _ h => h.rd 0 rfl) rfl rfl (by omega)) rfl rfl ?_
    refine l_e rfl ?_
    refine e_storeV i 0 ((IntKind.u8.wrap ((k : Int) / 17 + (i : Int) * ((k : Int) / 4352)))) rfl rfl Try.sizeOf5 rfl rfl rfl (List.getElem?_eq_getElem (by omega)) (by decide) rfl ?_
    refine l_nil ?_
    refine k_block ?_
    refine k_then ?_
    refine c_region _ rfl ?_
    refine l_q rfl (q_move rfl rfl) rfl rfl ?_
    refine l_q rfl (q_inc rfl rfl rfl (by omega)) rfl rfl ?_
    refine l_q rfl (q_assign rfl rfl) rfl rfl ?_
    refine l_nil ?_
    exact k_round ((i + 1, l.set i (IntKind.u8.wrap ((k : Int) / 17 + (i : Int) * ((k : Int) / 4352))))) (by dsimp only; omega) ⟨by dsimp only; omega, by dsimp only; rw [List.length_set]; exact hl⟩ (Sub.cons rfl (Sub.cons rfl (Sub.cons rfl (Sub.cons rfl (Sub.cons rfl (Sub.nil)))))) (fun _ h => h)
  · try simp only [decide_eq_true_eq, decide_eq_false_iff_not, Bool.not_eq_true', Bool.not_eq_false'] at hil
    refine c_false rfl ?_
    refine c_exit ?_
    refine k_then_exit ?_
    refine k_then_exit ?_
    refine k_block_exit ?_
    refine k_then ?_
    refine c_seq ?_
    refine c_region _ rfl ?_
    refine l_q rfl (q_move rfl rfl) rfl rfl ?_
    refine l_q rfl (q_b2s rfl Try.underlying22 Try.underlying5 Try.underlying9 rfl (fun _ h => h.rd 0 rfl)) rfl rfl ?_
    refine drop0 ?_
    refine l_e rfl ?_
    refine e_call_00 (vof_ex _ (by rw [strOf_size]; omega)) rfl rfl rfl Try.call97 rfl (fun _ _ => trivial) ?_
    intro ky hkn
    refine l_q rfl (q_move rfl rfl) rfl rfl ?_
    refine l_q rfl (q_extract rfl rfl rfl) rfl rfl ?_
    refine l_q rfl (q_extract rfl rfl rfl) rfl rfl ?_
    refine l_e rfl ?_
    refine e_alloc rfl rfl rfl Try.zeroValue119 ?_
    intro bo
    refine cells_eq (show _ = (kv0 16).c from rfl) ?_
    refine l_e rfl ?_
    refine e_storeAgg rfl rfl Try.sizeOf119 rfl rfl (Kv.c_len _) (Kv.one _) (by simp only [Kv.c_len]; decide) ?_
    refine cells_eq (show Sep.splice _ 0 (ky).c = (ky).c from Sep.splice_all (by simp only [Kv.c_len])) ?_
    refine l_q rfl (q_assign rfl rfl) rfl rfl ?_
    refine l_nil ?_
    refine k_then ?_
    refine c_seq ?_
    refine c_region _ rfl ?_
    refine l_q rfl (q_loadCAgg (ky.c) rfl Try.isAgg119 Try.sizeOf119 rfl (fun _ h => h.at 0 rfl) (kv_whole _) (Kv.c_len _)) rfl rfl ?_
    refine pull1 ?_
    refine l_e rfl ?_
    refine e_storeAgg rfl rfl Try.sizeOf119 rfl rfl (Kv.c_len _) (Kv.one _) (by simp only [Kv.c_len]; decide) ?_
    refine cells_eq (show Sep.splice _ 0 (ky).c = (ky).c from Sep.splice_all (by simp only [Kv.c_len])) ?_
    refine l_nil ?_
    refine k_then ?_
    refine c_ret ?_
    refine r_res1 rfl (res_cellA rfl Try.isAgg119 Try.sizeOf119 (fun _ h => h.at 0 rfl) (Kv.c_len _)) ?_
    exact fun _ h => ⟨ky, rfl, hkn, h.nothing⟩
set_option maxRecDepth 100000 in
set_option maxHeartbeats 1000000 in
theorem key_ex (v : Int) : Con Try.prog 81 [.int .i64 v] (fun _ => True) [] (fun k : Kv 8 => .agg k.c.toArray) (fun q => 0 ≤ q.n ∧ q.n ≤ 8) (fun _ => []) := by
  intro w hE hH
  refine enter (n := 93) (vs := [.int .i64 v]) (St w [] []) Try.func81 rfl rfl rfl (St.init hH) ?_
  refine c_seq ?_
  refine c_region _ rfl ?_
  refine l_e rfl ?_
  refine e_alloc rfl rfl rfl Try.zeroValue116 ?_
  intro br
  refine cells_eq (show _ = (kv0 8).c from rfl) ?_
  refine l_nil ?_
  refine k_then ?_
  refine c_seq ?_
  refine c_region _ rfl ?_
  refine l_q rfl (q_move rfl rfl) rfl rfl ?_
  refine l_e rfl ?_
  refine e_call_00 (plc_spec (v) 1099511627776 (by decide) (by decide)) rfl rfl rfl Try.call10 rfl (fun _ _ => trivial) ?_
  intro _ _
  refine l_q rfl (q_assign rfl rfl) rfl rfl ?_
  refine l_nil ?_
  refine k_then ?_
  refine c_seq ?_
  refine c_region _ rfl ?_
  refine l_q rfl (q_assign rfl rfl) rfl rfl ?_
  refine l_nil ?_
  refine k_then ?_
  refine c_seq ?_
  refine c_seq ?_
  refine c_region _ rfl ?_
  refine l_q rfl (q_move rfl rfl) rfl rfl ?_
  refine l_q rfl (q_rem_nn rfl rfl rfl (by omega) (by omega)) rfl rfl ?_
  refine l_nil ?_
  refine k_then ?_
  refine c_block ?_
  refine c_seq ?_
  refine c_seq ?_
  refine c_region _ rfl ?_
  refine l_q rfl (q_eql rfl rfl rfl) rfl rfl ?_
  refine l_q rfl (q_assign rfl rfl) rfl rfl ?_
  refine l_nil ?_
  refine k_then ?_
  obtain ⟨k, hk, hkb⟩ : ∃ k : Nat, v % 1099511627776 = (k : Int) ∧ k < 1099511627776 := ⟨(v % 1099511627776).toNat, by omega, by omega⟩
  refine Pre.setV (t := 3) (c := .int .i64 (k : Int)) rfl (by rw [hk]) ?_
  refine Pre.caseB 25 rfl (fun h1 => ?_) (fun h1 => ?_)
  · try simp only [decide_eq_true_eq, decide_eq_false_iff_not, Bool.not_eq_true', Bool.not_eq_false'] at h1
    refine c_true rfl ?_
    refine c_skip ?_
    refine k_then ?_
    refine c_true rfl ?_
    refine c_region _ rfl ?_
    refine l_q rfl (q_move rfl rfl) rfl rfl ?_
    refine l_q rfl (q_quo_nn rfl rfl rfl (by omega) (by omega) (by omega)) rfl rfl ?_
    refine l_q rfl (q_rem_nn rfl rfl rfl (by omega) (by omega)) rfl rfl ?_
    refine l_q rfl (q_add64 rfl rfl rfl (by omega)) rfl rfl ?_
    refine l_q rfl (q_conv_in rfl Try.underlying3 Try.underlying5 rfl (wrapu8_in (by omega))) rfl rfl ?_
    refine l_e rfl ?_
    refine e_buildSliceV (sz := 1) [.tmp 33] rfl rfl rfl rfl rfl Try.underlying22 Try.sizeOf5 rfl Try.zeroValue5 rfl ?_
    intro b2
    refine l_q rfl (q_b2s (l := [97 + (k : Int) / 8 % 6]) rfl Try.underlying22 Try.underlying5 Try.underlying9 rfl (fun _ h => lit_rd (h.at 0 rfl) (encI .u8) [97 + (k : Int) / 8 % 6] rfl rfl)) rfl rfl ?_
    refine l_q rfl (q_assign rfl rfl) rfl rfl ?_
    refine l_nil ?_
    refine k_block ?_
    refine k_then ?_
    refine c_seq ?_
    refine c_region _ rfl ?_
    refine l_q rfl (q_move rfl rfl) rfl rfl ?_
    refine drop0 ?_
    refine l_e rfl ?_
    refine e_call_00 (kof_ex _ (by first | (rw [strOf_size]; exact Nat.le_of_ble_eq_true rfl) | (rw [ByteArray.size_extract, strOf_size]; simp only [List.length_cons, List.length_nil]; omega))) rfl rfl rfl Try.call96 rfl (fun _ _ => trivial) ?_
    intro ky hkn
    refine l_q rfl (q_move rfl rfl) rfl rfl ?_
    refine l_q rfl (q_extract rfl rfl rfl) rfl rfl ?_
    refine l_q rfl (q_extract rfl rfl rfl) rfl rfl ?_
    refine l_e rfl ?_
    refine e_alloc rfl rfl rfl Try.zeroValue116 ?_
    intro bo
    refine cells_eq (show _ = (kv0 8).c from rfl) ?_
    refine l_e rfl ?_
    refine e_storeAgg rfl rfl Try.sizeOf116 rfl rfl (Kv.c_len _) (Kv.one _) (by simp only [Kv.c_len]; decide) ?_
    refine cells_eq (show Sep.splice _ 0 (ky).c = (ky).c from Sep.splice_all (by simp only [Kv.c_len])) ?_
    refine l_q rfl (q_assign rfl rfl) rfl rfl ?_
    refine l_nil ?_
    refine k_then ?_
    refine c_seq ?_
    refine c_region _ rfl ?_
    refine l_q rfl (q_loadCAgg (ky.c) rfl Try.isAgg116 Try.sizeOf116 rfl (fun _ h => h.at 0 rfl) (kv_whole _) (Kv.c_len _)) rfl rfl ?_
    refine pull1 ?_
    refine l_e rfl ?_
    refine e_storeAgg rfl rfl Try.sizeOf116 rfl rfl (Kv.c_len _) (Kv.one _) (by simp only [Kv.c_len]; decide) ?_
    refine cells_eq (show Sep.splice _ 0 (ky).c = (ky).c from Sep.splice_all (by simp only [Kv.c_len])) ?_
    refine l_nil ?_
    refine k_then ?_
    refine c_ret ?_
    refine r_res1 rfl (res_cellA rfl Try.isAgg116 Try.sizeOf116 (fun _ h => h.at 0 rfl) (Kv.c_len _)) ?_
    exact fun _ h => ⟨ky, rfl, hkn, h.nothing⟩
  · try simp only [decide_eq_true_eq, decide_eq_false_iff_not, Bool.not_eq_true', Bool.not_eq_false'] at h1
    refine c_false rfl ?_
    refine c_seq ?_
    refine c_region _ rfl ?_
    refine l_q rfl (q_eql rfl rfl rfl) rfl rfl ?_
    refine l_q rfl (q_assign rfl rfl) rfl rfl ?_
    refine l_nil ?_
    refine k_then ?_
    refine Pre.caseB 25 rfl (fun h3 => ?_) (fun h3 => ?_)
    · try simp only [decide_eq_true_eq, decide_eq_false_iff_not, Bool.not_eq_true', Bool.not_eq_false'] at h3
      refine c_true rfl ?_
      refine c_skip ?_
      refine k_then ?_
      refine c_true rfl ?_
      refine c_region _ rfl ?_
      refine l_q rfl (q_move rfl rfl) rfl rfl ?_
      refine l_q rfl (q_quo_nn rfl rfl rfl (by omega) (by omega) (by omega)) rfl rfl ?_
      refine l_q rfl (q_rem_nn rfl rfl rfl (by omega) (by omega)) rfl rfl ?_
      refine l_q rfl (q_add64 rfl rfl rfl (by omega)) rfl rfl ?_
      refine l_q rfl (q_conv_in rfl Try.underlying3 Try.underlying5 rfl (wrapu8_in (by omega))) rfl rfl ?_
      refine l_e rfl ?_
      refine e_buildSliceV (sz := 1) [.tmp 33] rfl rfl rfl rfl rfl Try.underlying22 Try.sizeOf5 rfl Try.zeroValue5 rfl ?_
      intro b4
      refine l_q rfl (q_b2s (l := [97 + (k : Int) / 8 % 6]) rfl Try.underlying22 Try.underlying5 Try.underlying9 rfl (fun _ h => lit_rd (h.at 0 rfl) (encI .u8) [97 + (k : Int) / 8 % 6] rfl rfl)) rfl rfl ?_
      refine l_q rfl (q_assign rfl rfl) rfl rfl ?_
      refine l_nil ?_
      refine k_block ?_
      refine k_then ?_
      refine c_seq ?_
      refine c_region _ rfl ?_
      refine l_q rfl (q_move rfl rfl) rfl rfl ?_
      refine drop0 ?_
      refine l_e rfl ?_
      refine e_call_00 (kof_ex _ (by first | (rw [strOf_size]; exact Nat.le_of_ble_eq_true rfl) | (rw [ByteArray.size_extract, strOf_size]; simp only [List.length_cons, List.length_nil]; omega))) rfl rfl rfl Try.call96 rfl (fun _ _ => trivial) ?_
      intro ky hkn
      refine l_q rfl (q_move rfl rfl) rfl rfl ?_
      refine l_q rfl (q_extract rfl rfl rfl) rfl rfl ?_
      refine l_q rfl (q_extract rfl rfl rfl) rfl rfl ?_
      refine l_e rfl ?_
      refine e_alloc rfl rfl rfl Try.zeroValue116 ?_
      intro bo
      refine cells_eq (show _ = (kv0 8).c from rfl) ?_
      refine l_e rfl ?_
      refine e_storeAgg rfl rfl Try.sizeOf116 rfl rfl (Kv.c_len _) (Kv.one _) (by simp only [Kv.c_len]; decide) ?_
      refine cells_eq (show Sep.splice _ 0 (ky).c = (ky).c from Sep.splice_all (by simp only [Kv.c_len])) ?_
      refine l_q rfl (q_assign rfl rfl) rfl rfl ?_
      refine l_nil ?_
      refine k_then ?_
      refine c_seq ?_
      refine c_region _ rfl ?_
      refine l_q rfl (q_loadCAgg (ky.c) rfl Try.isAgg116 Try.sizeOf116 rfl (fun _ h => h.at 0 rfl) (kv_whole _) (Kv.c_len _)) rfl rfl ?_
      refine pull1 ?_
      refine l_e rfl ?_
      refine e_storeAgg rfl rfl Try.sizeOf116 rfl rfl (Kv.c_len _) (Kv.one _) (by simp only [Kv.c_len]; decide) ?_
      refine cells_eq (show Sep.splice _ 0 (ky).c = (ky).c from Sep.splice_all (by simp only [Kv.c_len])) ?_
      refine l_nil ?_
      refine k_then ?_
      refine c_ret ?_
      refine r_res1 rfl (res_cellA rfl Try.isAgg116 Try.sizeOf116 (fun _ h => h.at 0 rfl) (Kv.c_len _)) ?_
      exact fun _ h => ⟨ky, rfl, hkn, h.nothing⟩
    · try simp only [decide_eq_true_eq, decide_eq_false_iff_not, Bool.not_eq_true', Bool.not_eq_false'] at h3
      refine c_false rfl ?_
      refine c_region _ rfl ?_
      refine l_q rfl (q_eql rfl rfl rfl) rfl rfl ?_
      refine l_q rfl (q_assign rfl rfl) rfl rfl ?_
      refine l_nil ?_
      refine k_then ?_
      refine Pre.caseB 25 rfl (fun h5 => ?_) (fun h5 => ?_)
      · try simp only [decide_eq_true_eq, decide_eq_false_iff_not, Bool.not_eq_true', Bool.not_eq_false'] at h5
        refine c_true rfl ?_
        refine c_region _ rfl ?_
        refine l_q rfl (q_move rfl rfl) rfl rfl ?_
        refine l_q rfl (q_quo_nn rfl rfl rfl (by omega) (by omega) (by omega)) rfl rfl ?_
        refine l_q rfl (q_rem_nn rfl rfl rfl (by omega) (by omega)) rfl rfl ?_
        refine l_q rfl (q_add64 rfl rfl rfl (by omega)) rfl rfl ?_
        refine l_q rfl (q_conv_in rfl Try.underlying3 Try.underlying5 rfl (wrapu8_in (by omega))) rfl rfl ?_
        refine l_e rfl ?_
        refine e_buildSliceV (sz := 1) [.tmp 33] rfl rfl rfl rfl rfl Try.underlying22 Try.sizeOf5 rfl Try.zeroValue5 rfl ?_
        intro b6
        refine l_q rfl (q_b2s (l := [97 + (k : Int) / 8 % 6]) rfl Try.underlying22 Try.underlying5 Try.underlying9 rfl (fun _ h => lit_rd (h.at 0 rfl) (encI .u8) [97 + (k : Int) / 8 % 6] rfl rfl)) rfl rfl ?_
        refine l_q rfl (q_assign rfl rfl) rfl rfl ?_
        refine l_nil ?_
        refine k_block ?_
        refine k_then ?_
        refine c_seq ?_
        refine c_region _ rfl ?_
        refine l_q rfl (q_move rfl rfl) rfl rfl ?_
        refine drop0 ?_
        refine l_e rfl ?_
        refine e_call_00 (kof_ex _ (by first | (rw [strOf_size]; exact Nat.le_of_ble_eq_true rfl) | (rw [ByteArray.size_extract, strOf_size]; simp only [List.length_cons, List.length_nil]; omega))) rfl rfl rfl Try.call96 rfl (fun _ _ => trivial) ?_
        intro ky hkn
        refine l_q rfl (q_move rfl rfl) rfl rfl ?_
        refine l_q rfl (q_extract rfl rfl rfl) rfl rfl ?_
        refine l_q rfl (q_extract rfl rfl rfl) rfl rfl ?_
        refine l_e rfl ?_
        refine e_alloc rfl rfl rfl Try.zeroValue116 ?_
        intro bo
        refine cells_eq (show _ = (kv0 8).c from rfl) ?_
        refine l_e rfl ?_
        refine e_storeAgg rfl rfl Try.sizeOf116 rfl rfl (Kv.c_len _) (Kv.one _) (by simp only [Kv.c_len]; decide) ?_
        refine cells_eq (show Sep.splice _ 0 (ky).c = (ky).c from Sep.splice_all (by simp only [Kv.c_len])) ?_
        refine l_q rfl (q_assign rfl rfl) rfl rfl ?_
        refine l_nil ?_
        refine k_then ?_
        refine c_seq ?_
        refine c_region _ rfl ?_
        refine l_q rfl (q_loadCAgg (ky.c) rfl Try.isAgg116 Try.sizeOf116 rfl (fun _ h => h.at 0 rfl) (kv_whole _) (Kv.c_len _)) rfl rfl ?_
        refine pull1 ?_
        refine l_e rfl ?_
        refine e_storeAgg rfl rfl Try.sizeOf116 rfl rfl (Kv.c_len _) (Kv.one _) (by simp only [Kv.c_len]; decide) ?_
        refine cells_eq (show Sep.splice _ 0 (ky).c = (ky).c from Sep.splice_all (by simp only [Kv.c_len])) ?_
        refine l_nil ?_
        refine k_then ?_
        refine c_ret ?_
        refine r_res1 rfl (res_cellA rfl Try.isAgg116 Try.sizeOf116 (fun _ h => h.at 0 rfl) (Kv.c_len _)) ?_
        exact fun _ h => ⟨ky, rfl, hkn, h.nothing⟩
      · try simp only [decide_eq_true_eq, decide_eq_false_iff_not, Bool.not_eq_true', Bool.not_eq_false'] at h5
        refine c_false rfl ?_
        refine c_seq ?_
        refine c_seq ?_
        refine c_region _ rfl ?_
        refine l_q rfl (q_eql rfl rfl rfl) rfl rfl ?_
        refine l_q rfl (q_assign rfl rfl) rfl rfl ?_
        refine l_nil ?_
        refine k_then ?_
        refine Pre.caseB 36 rfl (fun h7 => ?_) (fun h7 => ?_)
        · try simp only [decide_eq_true_eq, decide_eq_false_iff_not, Bool.not_eq_true', Bool.not_eq_false'] at h7
          refine c_true rfl ?_
          refine c_skip ?_
          refine k_then ?_
          refine c_true rfl ?_
          refine c_region _ rfl ?_
          refine l_q rfl (q_move rfl rfl) rfl rfl ?_
          refine l_q rfl (q_quo_nn rfl rfl rfl (by omega) (by omega) (by omega)) rfl rfl ?_
          refine l_q rfl (q_rem_nn rfl rfl rfl (by omega) (by omega)) rfl rfl ?_
          refine l_q rfl (q_add64 rfl rfl rfl (by omega)) rfl rfl ?_
          refine l_q rfl (q_conv_in rfl Try.underlying3 Try.underlying5 rfl (wrapu8_in (by omega))) rfl rfl ?_
          refine l_q rfl (q_move rfl rfl) rfl rfl ?_
          refine l_q rfl (q_quo_nn rfl rfl rfl (by omega) (by omega) (by omega)) rfl rfl ?_
          refine l_q rfl (q_rem_nn rfl rfl rfl (by omega) (by omega)) rfl rfl ?_
          refine l_q rfl (q_add64 rfl rfl rfl (by omega)) rfl rfl ?_
          refine l_q rfl (q_conv_in rfl Try.underlying3 Try.underlying5 rfl (wrapu8_in (by omega))) rfl rfl ?_
          refine l_e rfl ?_
          refine e_buildSliceV (sz := 1) [.tmp 43, .tmp 48] rfl rfl rfl rfl rfl Try.underlying22 Try.sizeOf5 rfl Try.zeroValue5 rfl ?_
          intro b8
          refine l_q rfl (q_b2s (l := [97 + (k : Int) / 8 % 5, 97 + (k : Int) / 40 % 4]) rfl Try.underlying22 Try.underlying5 Try.underlying9 rfl (fun _ h => lit_rd (h.at 0 rfl) (encI .u8) [97 + (k : Int) / 8 % 5, 97 + (k : Int) / 40 % 4] rfl rfl)) rfl rfl ?_
          refine l_q rfl (q_assign rfl rfl) rfl rfl ?_
          refine l_nil ?_
          refine k_block ?_
          refine k_then ?_
          refine c_seq ?_
          refine c_region _ rfl ?_
          refine l_q rfl (q_move rfl rfl) rfl rfl ?_
          refine drop0 ?_
          refine l_e rfl ?_
          refine e_call_00 (kof_ex _ (by first | (rw [strOf_size]; exact Nat.le_of_ble_eq_true rfl) | (rw [ByteArray.size_extract, strOf_size]; simp only [List.length_cons, List.length_nil]; omega))) rfl rfl rfl Try.call96 rfl (fun _ _ => trivial) ?_
          intro ky hkn
          refine l_q rfl (q_move rfl rfl) rfl rfl ?_
          refine l_q rfl (q_extract rfl rfl rfl) rfl rfl ?_
          refine l_q rfl (q_extract rfl rfl rfl) rfl rfl ?_
          refine l_e rfl ?_
          refine e_alloc rfl rfl rfl Try.zeroValue116 ?_
          intro bo
          refine cells_eq (show _ = (kv0 8).c from rfl) ?_
          refine l_e rfl ?_
          refine e_storeAgg rfl rfl Try.sizeOf116 rfl rfl (Kv.c_len _) (Kv.one _) (by simp only [Kv.c_len]; decide) ?_
          refine cells_eq (show Sep.splice _ 0 (ky).c = (ky).c from Sep.splice_all (by simp only [Kv.c_len])) ?_
          refine l_q rfl (q_assign rfl rfl) rfl rfl ?_
          refine l_nil ?_
          refine k_then ?_
          refine c_seq ?_
          refine c_region _ rfl ?_
          refine l_q rfl (q_loadCAgg (ky.c) rfl Try.isAgg116 Try.sizeOf116 rfl (fun _ h => h.at 0 rfl) (kv_whole _) (Kv.c_len _)) rfl rfl ?_
          refine pull1 ?_
          refine l_e rfl ?_
          refine e_storeAgg rfl rfl Try.sizeOf116 rfl rfl (Kv.c_len _) (Kv.one _) (by simp only [Kv.c_len]; decide) ?_
          refine cells_eq (show Sep.splice _ 0 (ky).c = (ky).c from Sep.splice_all (by simp only [Kv.c_len])) ?_
          refine l_nil ?_
          refine k_then ?_
          refine c_ret ?_
          refine r_res1 rfl (res_cellA rfl Try.isAgg116 Try.sizeOf116 (fun _ h => h.at 0 rfl) (Kv.c_len _)) ?_
          exact fun _ h => ⟨ky, rfl, hkn, h.nothing⟩
        · try simp only [decide_eq_true_eq, decide_eq_false_iff_not, Bool.not_eq_true', Bool.not_eq_false'] at h7
          refine c_false rfl ?_
          refine c_region _ rfl ?_
          refine l_q rfl (q_eql rfl rfl rfl) rfl rfl ?_
          refine l_q rfl (q_assign rfl rfl) rfl rfl ?_
          refine l_nil ?_
          refine k_then ?_
          refine Pre.caseB 36 rfl (fun h9 => ?_) (fun h9 => ?_)
          · try simp only [decide_eq_true_eq, decide_eq_false_iff_not, Bool.not_eq_true', Bool.not_eq_false'] at h9
            refine c_true rfl ?_
            refine c_region _ rfl ?_
            refine l_q rfl (q_move rfl rfl) rfl rfl ?_
            refine l_q rfl (q_quo_nn rfl rfl rfl (by omega) (by omega) (by omega)) rfl rfl ?_
            refine l_q rfl (q_rem_nn rfl rfl rfl (by omega) (by omega)) rfl rfl ?_
            refine l_q rfl (q_add64 rfl rfl rfl (by omega)) rfl rfl ?_
            refine l_q rfl (q_conv_in rfl Try.underlying3 Try.underlying5 rfl (wrapu8_in (by omega))) rfl rfl ?_
            refine l_q rfl (q_move rfl rfl) rfl rfl ?_
            refine l_q rfl (q_quo_nn rfl rfl rfl (by omega) (by omega) (by omega)) rfl rfl ?_
            refine l_q rfl (q_rem_nn rfl rfl rfl (by omega) (by omega)) rfl rfl ?_
            refine l_q rfl (q_add64 rfl rfl rfl (by omega)) rfl rfl ?_
            refine l_q rfl (q_conv_in rfl Try.underlying3 Try.underlying5 rfl (wrapu8_in (by omega))) rfl rfl ?_
            refine l_e rfl ?_
            refine e_buildSliceV (sz := 1) [.tmp 43, .tmp 48] rfl rfl rfl rfl rfl Try.underlying22 Try.sizeOf5 rfl Try.zeroValue5 rfl ?_
            intro b10
            refine l_q rfl (q_b2s (l := [97 + (k : Int) / 8 % 5, 97 + (k : Int) / 40 % 4]) rfl Try.underlying22 Try.underlying5 Try.underlying9 rfl (fun _ h => lit_rd (h.at 0 rfl) (encI .u8) [97 + (k : Int) / 8 % 5, 97 + (k : Int) / 40 % 4] rfl rfl)) rfl rfl ?_
            refine l_q rfl (q_assign rfl rfl) rfl rfl ?_
            refine l_nil ?_
            refine k_block ?_
            refine k_then ?_
            refine c_seq ?_
            refine c_region _ rfl ?_
            refine l_q rfl (q_move rfl rfl) rfl rfl ?_
            refine drop0 ?_
            refine l_e rfl ?_
            refine e_call_00 (kof_ex _ (by first | (rw [strOf_size]; exact Nat.le_of_ble_eq_true rfl) | (rw [ByteArray.size_extract, strOf_size]; simp only [List.length_cons, List.length_nil]; omega))) rfl rfl rfl Try.call96 rfl (fun _ _ => trivial) ?_
            intro ky hkn
            refine l_q rfl (q_move rfl rfl) rfl rfl ?_
            refine l_q rfl (q_extract rfl rfl rfl) rfl rfl ?_
            refine l_q rfl (q_extract rfl rfl rfl) rfl rfl ?_
            refine l_e rfl ?_
            refine e_alloc rfl rfl rfl Try.zeroValue116 ?_
            intro bo
            refine cells_eq (show _ = (kv0 8).c from rfl) ?_
            refine l_e rfl ?_
            refine e_storeAgg rfl rfl Try.sizeOf116 rfl rfl (Kv.c_len _) (Kv.one _) (by simp only [Kv.c_len]; decide) ?_
            refine cells_eq (show Sep.splice _ 0 (ky).c = (ky).c from Sep.splice_all (by simp only [Kv.c_len])) ?_
            refine l_q rfl (q_assign rfl rfl) rfl rfl ?_
            refine l_nil ?_
            refine k_then ?_
            refine c_seq ?_
            refine c_region _ rfl ?_
            refine l_q rfl (q_loadCAgg (ky.c) rfl Try.isAgg116 Try.sizeOf116 rfl (fun _ h => h.at 0 rfl) (kv_whole _) (Kv.c_len _)) rfl rfl ?_
            refine pull1 ?_
            refine l_e rfl ?_
            refine e_storeAgg rfl rfl Try.sizeOf116 rfl rfl (Kv.c_len _) (Kv.one _) (by simp only [Kv.c_len]; decide) ?_
            refine cells_eq (show Sep.splice _ 0 (ky).c = (ky).c from Sep.splice_all (by simp only [Kv.c_len])) ?_
            refine l_nil ?_
            refine k_then ?_
            refine c_ret ?_
            refine r_res1 rfl (res_cellA rfl Try.isAgg116 Try.sizeOf116 (fun _ h => h.at 0 rfl) (Kv.c_len _)) ?_
            exact fun _ h => ⟨ky, rfl, hkn, h.nothing⟩
          · try simp only [decide_eq_true_eq, decide_eq_false_iff_not, Bool.not_eq_true', Bool.not_eq_false'] at h9
            refine c_false rfl ?_
            refine c_seq ?_
            refine c_region _ rfl ?_
            refine l_q rfl (q_eql rfl rfl rfl) rfl rfl ?_
            refine l_q rfl (q_assign rfl rfl) rfl rfl ?_
            refine l_nil ?_
            refine k_then ?_
            refine Pre.caseB 51 rfl (fun h11 => ?_) (fun h11 => ?_)
            · try simp only [decide_eq_true_eq, decide_eq_false_iff_not, Bool.not_eq_true', Bool.not_eq_false'] at h11
              refine c_true rfl ?_
              refine c_region _ rfl ?_
              refine l_q rfl (q_move rfl rfl) rfl rfl ?_
              refine l_q rfl (q_quo_nn rfl rfl rfl (by omega) (by omega) (by omega)) rfl rfl ?_
              refine l_q rfl (q_rem_nn rfl rfl rfl (by omega) (by omega)) rfl rfl ?_
              refine l_q rfl (q_add64 rfl rfl rfl (by omega)) rfl rfl ?_
              refine l_q rfl (q_conv_in rfl Try.underlying3 Try.underlying5 rfl (wrapu8_in (by omega))) rfl rfl ?_
              refine l_q rfl (q_move rfl rfl) rfl rfl ?_
              refine l_q rfl (q_quo_nn rfl rfl rfl (by omega) (by omega) (by omega)) rfl rfl ?_
              refine l_q rfl (q_rem_nn rfl rfl rfl (by omega) (by omega)) rfl rfl ?_
              refine l_q rfl (q_conv_in rfl Try.underlying3 Try.underlying5 rfl (wrapu8_in (by omega))) rfl rfl ?_
              refine l_q rfl (q_move rfl rfl) rfl rfl ?_
              refine l_q rfl (q_quo_nn rfl rfl rfl (by omega) (by omega) (by omega)) rfl rfl ?_
              refine l_q rfl (q_rem_nn rfl rfl rfl (by omega) (by omega)) rfl rfl ?_
              refine l_q rfl (q_conv_in rfl Try.underlying3 Try.underlying5 rfl (wrapu8_in (by omega))) rfl rfl ?_
              refine l_q rfl (q_move rfl rfl) rfl rfl ?_
              refine l_q rfl (q_quo_nn rfl rfl rfl (by omega) (by omega) (by omega)) rfl rfl ?_
              refine l_q rfl (q_rem_nn rfl rfl rfl (by omega) (by omega)) rfl rfl ?_
              refine l_q rfl (q_add64 rfl rfl rfl (by omega)) rfl rfl ?_
              refine l_q rfl (q_conv_in rfl Try.underlying3 Try.underlying5 rfl (wrapu8_in (by omega))) rfl rfl ?_
              refine l_e rfl ?_
              refine e_buildSliceV (sz := 1) [.tmp 57, .const (.int .u8 0), .tmp 61, .tmp 65, .const (.int .u8 255), .const (.int .u8 120), .const (.int .u8 121), .tmp 70] rfl rfl rfl rfl rfl Try.underlying22 Try.sizeOf5 rfl Try.zeroValue5 rfl ?_
              intro b12
              refine l_q rfl (q_b2s (l := [97 + (k : Int) / 8 % 4, 0, (k : Int) / 32 % 256, (k : Int) / 8192 % 4, 255, 120, 121, 97 + (k : Int) / 32768 % 3]) rfl Try.underlying22 Try.underlying5 Try.underlying9 rfl (fun _ h => lit_rd (h.at 0 rfl) (encI .u8) [97 + (k : Int) / 8 % 4, 0, (k : Int) / 32 % 256, (k : Int) / 8192 % 4, 255, 120, 121, 97 + (k : Int) / 32768 % 3] rfl rfl)) rfl rfl ?_
              refine l_q rfl (q_assign rfl rfl) rfl rfl ?_
              refine l_nil ?_
              refine k_block ?_
              refine k_then ?_
              refine c_seq ?_
              refine c_region _ rfl ?_
              refine l_q rfl (q_move rfl rfl) rfl rfl ?_
              refine drop0 ?_
              refine l_e rfl ?_
              refine e_call_00 (kof_ex _ (by first | (rw [strOf_size]; exact Nat.le_of_ble_eq_true rfl) | (rw [ByteArray.size_extract, strOf_size]; simp only [List.length_cons, List.length_nil]; omega))) rfl rfl rfl Try.call96 rfl (fun _ _ => trivial) ?_
              intro ky hkn
              refine l_q rfl (q_move rfl rfl) rfl rfl ?_
              refine l_q rfl (q_extract rfl rfl rfl) rfl rfl ?_
              refine l_q rfl (q_extract rfl rfl rfl) rfl rfl ?_
              refine l_e rfl ?_
              refine e_alloc rfl rfl rfl Try.zeroValue116 ?_
              intro bo
              refine cells_eq (show _ = (kv0 8).c from rfl) ?_
              refine l_e rfl ?_
              refine e_storeAgg rfl rfl Try.sizeOf116 rfl rfl (Kv.c_len _) (Kv.one _) (by simp only [Kv.c_len]; decide) ?_
              refine cells_eq (show Sep.splice _ 0 (ky).c = (ky).c from Sep.splice_all (by simp only [Kv.c_len])) ?_
              refine l_q rfl (q_assign rfl rfl) rfl rfl ?_
              refine l_nil ?_
              refine k_then ?_
              refine c_seq ?_
              refine c_region _ rfl ?_
              refine l_q rfl (q_loadCAgg (ky.c) rfl Try.isAgg116 Try.sizeOf116 rfl (fun _ h => h.at 0 rfl) (kv_whole _) (Kv.c_len _)) rfl rfl ?_
              refine pull1 ?_
              refine l_e rfl ?_
              refine e_storeAgg rfl rfl Try.sizeOf116 rfl rfl (Kv.c_len _) (Kv.one _) (by simp only [Kv.c_len]; decide) ?_
              refine cells_eq (show Sep.splice _ 0 (ky).c = (ky).c from Sep.splice_all (by simp only [Kv.c_len])) ?_
              refine l_nil ?_
              refine k_then ?_
              refine c_ret ?_
              refine r_res1 rfl (res_cellA rfl Try.isAgg116 Try.sizeOf116 (fun _ h => h.at 0 rfl) (Kv.c_len _)) ?_
              exact fun _ h => ⟨ky, rfl, hkn, h.nothing⟩
            · try simp only [decide_eq_true_eq, decide_eq_false_iff_not, Bool.not_eq_true', Bool.not_eq_false'] at h11
              refine c_false rfl ?_
              refine c_seq ?_
              refine c_region _ rfl ?_
              refine l_q rfl (q_eql rfl rfl rfl) rfl rfl ?_
              refine l_q rfl (q_assign rfl rfl) rfl rfl ?_
              refine l_nil ?_
              refine k_then ?_
              refine Pre.caseB 73 rfl (fun h13 => ?_) (fun h13 => ?_)
              · try simp only [decide_eq_true_eq, decide_eq_false_iff_not, Bool.not_eq_true', Bool.not_eq_false'] at h13
                refine c_true rfl ?_
                refine c_region _ rfl ?_
                refine l_q rfl (q_move rfl rfl) rfl rfl ?_
                refine l_q rfl (q_quo_nn rfl rfl rfl (by omega) (by omega) (by omega)) rfl rfl ?_
                refine l_q rfl (q_rem_nn rfl rfl rfl (by omega) (by omega)) rfl rfl ?_
                refine l_q rfl (q_add64 rfl rfl rfl (by omega)) rfl rfl ?_
                refine l_q rfl (q_conv_in rfl Try.underlying3 Try.underlying5 rfl (wrapu8_in (by omega))) rfl rfl ?_
                refine l_q rfl (q_move rfl rfl) rfl rfl ?_
                refine l_q rfl (q_quo_nn rfl rfl rfl (by omega) (by omega) (by omega)) rfl rfl ?_
                refine l_q rfl (q_rem_nn rfl rfl rfl (by omega) (by omega)) rfl rfl ?_
                refine l_q rfl (q_add64 rfl rfl rfl (by omega)) rfl rfl ?_
                refine l_q rfl (q_conv_in rfl Try.underlying3 Try.underlying5 rfl (wrapu8_in (by omega))) rfl rfl ?_
                refine l_e rfl ?_
                refine e_buildSliceV (sz := 1) [.tmp 79, .const (.int .u8 108), .const (.int .u8 111), .const (.int .u8 110), .const (.int .u8 103), .const (.int .u8 101), .const (.int .u8 114), .tmp 84] rfl rfl rfl rfl rfl Try.underlying22 Try.sizeOf5 rfl Try.zeroValue5 rfl ?_
                intro b14
                refine l_q rfl (q_b2s (l := [98 + (k : Int) / 8 % 3, 108, 111, 110, 103, 101, 114, 48 + (k : Int) / 24 % 9]) rfl Try.underlying22 Try.underlying5 Try.underlying9 rfl (fun _ h => lit_rd (h.at 0 rfl) (encI .u8) [98 + (k : Int) / 8 % 3, 108, 111, 110, 103, 101, 114, 48 + (k : Int) / 24 % 9] rfl rfl)) rfl rfl ?_
                refine l_q rfl (q_assign rfl rfl) rfl rfl ?_
                refine l_nil ?_
                refine k_block ?_
                refine k_then ?_
                refine c_seq ?_
                refine c_region _ rfl ?_
                refine l_q rfl (q_move rfl rfl) rfl rfl ?_
                refine drop0 ?_
                refine l_e rfl ?_
                refine e_call_00 (kof_ex _ (by first | (rw [strOf_size]; exact Nat.le_of_ble_eq_true rfl) | (rw [ByteArray.size_extract, strOf_size]; simp only [List.length_cons, List.length_nil]; omega))) rfl rfl rfl Try.call96 rfl (fun _ _ => trivial) ?_
                intro ky hkn
                refine l_q rfl (q_move rfl rfl) rfl rfl ?_
                refine l_q rfl (q_extract rfl rfl rfl) rfl rfl ?_
                refine l_q rfl (q_extract rfl rfl rfl) rfl rfl ?_
                refine l_e rfl ?_
                refine e_alloc rfl rfl rfl Try.zeroValue116 ?_
                intro bo
                refine cells_eq (show _ = (kv0 8).c from rfl) ?_
                refine l_e rfl ?_
                refine e_storeAgg rfl rfl Try.sizeOf116 rfl rfl (Kv.c_len _) (Kv.one _) (by simp only [Kv.c_len]; decide) ?_
                refine cells_eq (show Sep.splice _ 0 (ky).c = (ky).c from Sep.splice_all (by simp only [Kv.c_len])) ?_
                refine l_q rfl (q_assign rfl rfl) rfl rfl ?_
                refine l_nil ?_
                refine k_then ?_
                refine c_seq ?_
                refine c_region _ rfl ?_
                refine l_q rfl (q_loadCAgg (ky.c) rfl Try.isAgg116 Try.sizeOf116 rfl (fun _ h => h.at 0 rfl) (kv_whole _) (Kv.c_len _)) rfl rfl ?_
                refine pull1 ?_
                refine l_e rfl ?_
                refine e_storeAgg rfl rfl Try.sizeOf116 rfl rfl (Kv.c_len _) (Kv.one _) (by simp only [Kv.c_len]; decide) ?_
                refine cells_eq (show Sep.splice _ 0 (ky).c = (ky).c from Sep.splice_all (by simp only [Kv.c_len])) ?_
                refine l_nil ?_
                refine k_then ?_
                refine c_ret ?_
                refine r_res1 rfl (res_cellA rfl Try.isAgg116 Try.sizeOf116 (fun _ h => h.at 0 rfl) (Kv.c_len _)) ?_
                exact fun _ h => ⟨ky, rfl, hkn, h.nothing⟩
              · try simp only [decide_eq_true_eq, decide_eq_false_iff_not, Bool.not_eq_true', Bool.not_eq_false'] at h13
                refine c_false rfl ?_
                refine c_region _ rfl ?_
                refine l_q rfl (q_move rfl rfl) rfl rfl ?_
                refine l_q rfl (q_quo_nn rfl rfl rfl (by omega) (by omega) (by omega)) rfl rfl ?_
                refine l_q rfl (q_rem_nn rfl rfl rfl (by omega) (by omega)) rfl rfl ?_
                refine l_q rfl (q_conv_in rfl Try.underlying3 Try.underlying5 rfl (wrapu8_in (by omega))) rfl rfl ?_
                refine l_q rfl (q_move rfl rfl) rfl rfl ?_
                refine l_q rfl (q_quo_nn rfl rfl rfl (by omega) (by omega) (by omega)) rfl rfl ?_
                refine l_q rfl (q_rem_nn rfl rfl rfl (by omega) (by omega)) rfl rfl ?_
                refine l_q rfl (q_conv_in rfl Try.underlying3 Try.underlying5 rfl (wrapu8_in (by omega))) rfl rfl ?_
                refine l_e rfl ?_
                refine e_buildSliceV (sz := 1) [.tmp 14, .tmp 18] rfl rfl rfl rfl rfl Try.underlying22 Try.sizeOf5 rfl Try.zeroValue5 rfl ?_
                intro b15
                refine l_q rfl (q_b2s (l := [(k : Int) / 8 % 256, (k : Int) / 2048 % 256]) rfl Try.underlying22 Try.underlying5 Try.underlying9 rfl (fun _ h => lit_rd (h.at 0 rfl) (encI .u8) [(k : Int) / 8 % 256, (k : Int) / 2048 % 256] rfl rfl)) rfl rfl ?_
                refine l_q rfl (q_move rfl rfl) rfl rfl ?_
                refine l_q rfl (q_quo_nn rfl rfl rfl (by omega) (by omega) (by omega)) rfl rfl ?_
                refine l_q rfl (q_rem_nn rfl rfl rfl (by omega) (by omega)) rfl rfl ?_
                refine l_q rfl (q_sliceSH (((k : Int) / 524288 % 3).toNat) rfl Try.underlying9 rfl rfl (by omega) (by rw [strOf_size]; simp only [List.length_cons, List.length_nil]; omega)) rfl rfl ?_
                refine l_q rfl (q_assign rfl rfl) rfl rfl ?_
                refine l_nil ?_
                refine k_block ?_
                refine k_then ?_
                refine c_seq ?_
                refine c_region _ rfl ?_
                refine l_q rfl (q_move rfl rfl) rfl rfl ?_
                refine drop0 ?_
                refine l_e rfl ?_
                refine e_call_00 (kof_ex _ (by first | (rw [strOf_size]; exact Nat.le_of_ble_eq_true rfl) | (rw [ByteArray.size_extract, strOf_size]; simp only [List.length_cons, List.length_nil]; omega))) rfl rfl rfl Try.call96 rfl (fun _ _ => trivial) ?_
                intro ky hkn
                refine l_q rfl (q_move rfl rfl) rfl rfl ?_
                refine l_q rfl (q_extract rfl rfl rfl) rfl rfl ?_
                refine l_q rfl (q_extract rfl rfl rfl) rfl rfl ?_
                refine l_e rfl ?_
                refine e_alloc rfl rfl rfl Try.zeroValue116 ?_
                intro bo
                refine cells_eq (show _ = (kv0 8).c from rfl) ?_
                refine l_e rfl ?_
                refine e_storeAgg rfl rfl Try.sizeOf116 rfl rfl (Kv.c_len _) (Kv.one _) (by simp only [Kv.c_len]; decide) ?_
                refine cells_eq (show Sep.splice _ 0 (ky).c = (ky).c from Sep.splice_all (by simp only [Kv.c_len])) ?_
                refine l_q rfl (q_assign rfl rfl) rfl rfl ?_
                refine l_nil ?_
                refine k_then ?_
                refine c_seq ?_
                refine c_region _ rfl ?_
                refine l_q rfl (q_loadCAgg (ky.c) rfl Try.isAgg116 Try.sizeOf116 rfl (fun _ h => h.at 0 rfl) (kv_whole _) (Kv.c_len _)) rfl rfl ?_
                refine pull1 ?_
                refine l_e rfl ?_
                refine e_storeAgg rfl rfl Try.sizeOf116 rfl rfl (Kv.c_len _) (Kv.one _) (by simp only [Kv.c_len]; decide) ?_
                refine cells_eq (show Sep.splice _ 0 (ky).c = (ky).c from Sep.splice_all (by simp only [Kv.c_len])) ?_
                refine l_nil ?_
                refine k_then ?_
                refine c_ret ?_
                refine r_res1 rfl (res_cellA rfl Try.isAgg116 Try.sizeOf116 (fun _ h => h.at 0 rfl) (Kv.c_len _)) ?_
                exact fun _ h => ⟨ky, rfl, hkn, h.nothing⟩
set_option maxRecDepth 100000 in
set_option maxHeartbeats 1000000 in
theorem apply_put (x : Kv 16) (k : Kv 8) (v : Kv 16) : Con Try.prog 94 [.agg x.c.toArray, .bool false, .agg (mC k v).toArray] (fun _ => True) [] (fun _ : Unit => .tuple #[.agg v.c.toArray, .bool true]) (fun _ => True) (fun _ => []) := by
  intro w hE hH
  refine enter (n := 26) (vs := [.agg x.c.toArray, .bool false, .agg (mC k v).toArray]) (St w [] []) Try.func94 rfl rfl rfl (St.init hH) ?_
  refine c_seq ?_
  refine c_region _ rfl ?_
  refine l_e rfl ?_
  refine e_box rfl rfl rfl rfl ?_
  intro bx
  refine cells_eq (show _ = x.c from rfl) ?_
  refine l_e rfl ?_
  refine e_box rfl rfl rfl rfl ?_
  intro bm
  refine cells_eq (show _ = mC k v from rfl) ?_
  refine l_e rfl ?_
  refine e_alloc rfl rfl rfl Try.zeroValue119 ?_
  intro br
  refine cells_eq (show _ = (kv0 16).c from rfl) ?_
  refine l_q rfl (q_assign rfl rfl) rfl rfl ?_
  refine l_nil ?_
  refine k_then ?_
  refine c_seq ?_
  refine c_seq ?_
  refine c_region _ rfl ?_
  refine l_q rfl (q_fieldAddr rfl Try.underlying127 rfl Try.sizeOf3 rfl rfl) rfl rfl ?_
  refine l_q rfl (q_loadC rfl Try.isAgg3 rfl (fun _ h => h.at 1 rfl) rfl) rfl rfl ?_
  refine l_nil ?_
  refine k_then ?_
  refine c_block ?_
  refine c_seq ?_
  refine c_region _ rfl ?_
  refine l_q rfl (q_eql rfl rfl rfl) rfl rfl ?_
  refine l_q rfl (q_assign rfl rfl) rfl rfl ?_
  refine l_nil ?_
  refine k_then ?_
  refine Pre.setB (t := 10) (c := true) rfl (rfl) ?_
  refine c_true rfl ?_
  refine c_seq ?_
  refine c_region _ rfl ?_
  refine l_q rfl (q_fieldAddr rfl Try.underlying127 rfl Try.sizeOf119 rfl rfl) rfl rfl ?_
  refine l_q rfl (q_loadCAgg (v.c) rfl Try.isAgg119 Try.sizeOf119 rfl (fun _ h => h.at 1 rfl) (mC_val _ _) (Kv.c_len _)) rfl rfl ?_
  refine l_e rfl ?_
  refine e_storeAgg rfl rfl Try.sizeOf119 rfl rfl (Kv.c_len _) (Kv.one _) (by simp only [Kv.c_len]; decide) ?_
  refine cells_eq (show Sep.splice _ 0 (v).c = (v).c from Sep.splice_all (by simp only [Kv.c_len])) ?_
  refine l_q rfl (q_assign rfl rfl) rfl rfl ?_
  refine l_nil ?_
  refine k_then ?_
  refine c_ret ?_
  refine k_block_ret ?_
  refine k_then_ret ?_
  refine r_res2 rfl (res_cellA rfl Try.isAgg119 Try.sizeOf119 (fun _ h => h.at 0 rfl) (Kv.c_len _)) (show Sep.look _ _ = some _ from rfl) ?_
  exact fun _ h => ⟨(), rfl, trivial, h.nothing⟩
set_option maxRecDepth 100000 in
set_option maxHeartbeats 1000000 in
theorem find_none {va : Value} (k : Kv 8) : Con Try.prog 93 [va, .agg k.c.toArray] (fun w => RdV w va En.enc []) [] (fun _ : Unit => .tuple #[.agg (kv0 16).c.toArray, .bool false]) (fun _ => True) (fun _ => []) := by
  intro w hl hH
  refine enter (n := 26) (vs := [va, .agg k.c.toArray]) (St w [] []) Try.func93 rfl rfl rfl (St.init hH) ?_
  refine c_seq ?_
  refine c_region _ rfl ?_
  refine l_e rfl ?_
  refine e_box rfl rfl rfl rfl ?_
  intro bk
  refine cells_eq (show _ = k.c from rfl) ?_
  refine l_e rfl ?_
  refine e_alloc rfl rfl rfl Try.zeroValue119 ?_
  intro br
  refine cells_eq (show _ = (kv0 16).c from rfl) ?_
  refine l_q rfl (q_assign rfl rfl) rfl rfl ?_
  refine l_nil ?_
  refine k_then ?_
  refine c_seq ?_
  refine c_seq ?_
  refine c_region _ rfl ?_
  refine l_q rfl (q_assign rfl rfl) rfl rfl ?_
  refine l_nil ?_
  refine k_then ?_
  refine c_block ?_
  refine pull1 ?_
  refine pull1 ?_
  refine c_loop1 (fun (i : Nat) => [(0, va), (3, .pointer (some ⟨bk, 0, none⟩)), (4, .pointer (some ⟨br, 0, none⟩)), (5, .bool false), (6, .int .i64 (i : Int))]) (fun (i : Nat) => St w [] [cellsE br 119 (kv0 16).c, cellsE bk 116 k.c]) (fun (i : Nat) => True) (fun (i : Nat) => 1 - i) (0) trivial (Sub.cons rfl (Sub.cons rfl (Sub.cons rfl (Sub.cons rfl (Sub.cons rfl (Sub.nil)))))) (fun _ h => h) ?_
  intro i _
  refine c_seq ?_
  refine c_seq ?_
  refine c_region _ rfl ?_
  refine l_q rfl (q_move rfl rfl) rfl rfl ?_
  refine l_q rfl (q_move rfl rfl) rfl rfl ?_
  refine l_q rfl (q_lenV rfl Try.underlying33 rfl (fun _ h => hl.keep h (by simp [dom]))) rfl rfl ?_
  refine l_q rfl (q_lss rfl rfl rfl) rfl rfl ?_
  refine l_nil ?_
  refine k_then ?_
  refine Pre.setB (t := 10) (c := false) rfl (decide_eq_false (by simp only [List.length_nil]; omega)) ?_
  refine c_false rfl ?_
  refine c_exit ?_
  refine k_then_exit ?_
  refine k_then_exit ?_
  refine k_block_exit ?_
  refine k_then ?_
  refine c_seq ?_
  refine c_region _ rfl ?_
  refine l_q rfl (q_build ((kv0 16).c) rfl rfl (fun w => by kernel_rfl)) rfl rfl ?_
  refine l_e rfl ?_
  refine e_storeAgg rfl rfl Try.sizeOf119 rfl rfl (Kv.c_len _) (Kv.one _) (by simp only [Kv.c_len]; decide) ?_
  refine cells_eq (show Sep.splice _ 0 ((kv0 16)).c = ((kv0 16)).c from Sep.splice_all (by simp only [Kv.c_len])) ?_
  refine l_q rfl (q_assign rfl rfl) rfl rfl ?_
  refine l_nil ?_
  refine k_then ?_
  refine c_ret ?_
  refine r_res2 rfl (res_cellA rfl Try.isAgg119 Try.sizeOf119 (fun _ h => h.at 0 rfl) (Kv.c_len _)) (show Sep.look _ _ = some _ from rfl) ?_
  exact fun _ h => ⟨(), rfl, trivial, h.nothing⟩
end Go.Proofs.Ytpfbagkjhchojaa
