/- keys, values, messages by numbers -/
import Derived.Test.YtmnokoepimhelaaF
import Derived.Test.YtmnokoepimhelaaVal7
set_option linter.unusedVariables false
set_option linter.unusedSimpArgs false
namespace Go.Proofs.Ytmnokoepimhelaa
open Go.Sep Go.RowKit

theorem byt_get {s : ByteArray} {i : Nat} {b : UInt8} (h : s[i]? = some b) : (byt s)[i]? = some (b.toNat : Int) := by
  have h2 : s.data.toList[i]? = some b := by
    have h3 : s.data[i]? = some b := by
      rw [← h]
      by_cases hi : i < s.size
      · rw [getElem?_pos s i hi, getElem?_pos s.data i hi]; rfl
      · rw [getElem?_neg s i hi, getElem?_neg s.data i hi]
    simpa using h3
  simp [byt, h2]
theorem str_at {s : ByteArray} {i : Nat} (h : i < s.size) : ∃ b, s[i]? = some b := ⟨s[i]'h, getElem?_pos s i h⟩
/-- A key, so far as its bytes are put. -/
def kpre (s : ByteArray) (n : Int) (wn : (Lit.int .i64 n).wf = true) (i : Nat) (h : i ≤ 8) : Kv 8 := ⟨n, (byt s).take i ++ List.replicate (8 - min i (byt s).length) 0, by simp; omega, wn, fun x hx => by
  rcases List.mem_append.1 hx with hx | hx
  · exact byt_wf s x (List.mem_of_mem_take hx)
  · rw [(List.mem_replicate.1 hx).2]; decide⟩
theorem kpre_set {s : ByteArray} {n : Int} {wn : (Lit.int .i64 n).wf = true} {i : Nat} {b : UInt8} (hb : s[i]? = some b) (h : i < 8) : (kpre s n wn i (by omega)).c.set (1 + i * 1) (.int .u8 (b.toNat : Int)) = (kpre s n wn (i + 1) h).c := by
  have hg := byt_get hb
  obtain ⟨hl, he⟩ := List.getElem?_eq_some_iff.1 hg
  have hset : ((byt s).take i ++ List.replicate (8 - min i (byt s).length) 0).set i (b.toNat : Int) = (byt s).take (i + 1) ++ List.replicate (8 - min (i + 1) (byt s).length) 0 := by
    rw [List.set_append_right _ _ (by simp; omega)]
    simp only [List.length_take, Nat.min_eq_left (Nat.le_of_lt hl), Nat.min_eq_left (show i + 1 ≤ (byt s).length from hl), Nat.sub_self]
    obtain ⟨m, hm⟩ : ∃ m, 8 - i = m + 1 := ⟨8 - i - 1, by omega⟩
    rw [hm, List.replicate_succ, List.set_cons_zero, List.take_succ_eq_append_getElem hl, he, show 8 - (i + 1) = m from by omega]
    simp only [List.append_assoc, List.cons_append, List.nil_append]
  unfold Kv.c
  rw [show 1 + i * 1 = i + 1 from by omega, List.set_cons_succ, ← List.map_set]
  simp only [kpre]
  rw [hset]
/-- The key of a text. -/
def kof (s : ByteArray) (h : s.size ≤ 8) : Kv 8 := kpre s s.size (wf_n8 (by omega)) s.size h
theorem kof_ck (s : ByteArray) (h : s.size ≤ 8) : kck (kof s h) = true := by
  refine kck_yes (m := s.size) rfl h (fun j h1 h2 => ?_)
  have hl := byt_length s
  show ((byt s).take s.size ++ List.replicate (8 - min s.size (byt s).length) 0).getD j 0 = 0
  rw [List.getD_eq_getElem?_getD, List.getElem?_append_right (by simp; omega), List.getElem?_replicate]
  split <;> rfl
theorem kpre_zero (s : ByteArray) (n : Int) (wn : (Lit.int .i64 n).wf = true) : (kz 8 n wn).c = (kpre s n wn 0 (by omega)).c := by
  simp [kz, kpre, Kv.c]
theorem place_mod {v n : Int} (hn : 0 < n) : (if v.tmod n < 0 then v.tmod n + n else v.tmod n) = v % n := by
  have h1 := Int.tmod_lt_of_pos v hn
  have h2 : -n < v.tmod n := Int.lt_tmod_of_pos v hn
  have h3 := Int.mul_tdiv_add_tmod v n
  have e : v % n = (v.tmod n) % n := by
    conv => lhs; rw [← h3]
    rw [Int.add_comm, Int.add_mul_emod_self_left]
  rw [e]
  split
  · rename_i h
    rw [← Int.add_emod_right]; exact (Int.emod_eq_of_lt (by omega) (by omega)).symm
  · exact (Int.emod_eq_of_lt (by omega) h1).symm

set_option maxRecDepth 100000 in
set_option maxHeartbeats 1000000 in
theorem place_spec (v n : Int) (hn : 0 < n) (hn2 : n ≤ 4611686018427387904) : Con Try.prog 28 [.int .i64 v, .int .i64 n] (fun _ => True) [] (fun _ : Unit => .int .i64 (v % n)) (fun _ => True) (fun _ => []) := by
  intro w hE hH
  refine enter (n := 15) (vs := [.int .i64 v, .int .i64 n]) (St w [] []) Try.func28 rfl rfl rfl (St.init hH) ?_
  refine c_seq ?_
  have h1 := Int.tmod_lt_of_pos v hn
  have h2 : -n < v.tmod n := Int.lt_tmod_of_pos v hn
  have h3 := place_mod (v := v) hn
  refine c_region _ rfl ?_
  refine l_q rfl (q_assign rfl rfl) rfl rfl ?_
  refine l_nil ?_
  refine k_then ?_
  refine c_seq ?_
  refine c_region _ rfl ?_
  refine l_q rfl (q_move rfl rfl) rfl rfl ?_
  refine l_q rfl (q_move rfl rfl) rfl rfl ?_
  refine l_q rfl (q_rem rfl rfl rfl (by omega)) rfl rfl ?_
  refine l_q rfl (q_assign rfl rfl) rfl rfl ?_
  refine l_nil ?_
  refine k_then ?_
  refine c_seq ?_
  refine c_seq ?_
  refine c_region _ rfl ?_
  refine l_q rfl (q_move rfl rfl) rfl rfl ?_
  refine l_q rfl (q_lss rfl rfl rfl) rfl rfl ?_
  refine l_nil ?_
  refine k_then ?_
  refine Pre.caseB 10 rfl (fun h => ?_) (fun h => ?_)
  · try simp only [decide_eq_true_eq, decide_eq_false_iff_not, Bool.not_eq_true', Bool.not_eq_false'] at h
    refine c_true rfl ?_
    refine c_region _ rfl ?_
    refine l_q rfl (q_move rfl rfl) rfl rfl ?_
    refine l_q rfl (q_move rfl rfl) rfl rfl ?_
    refine l_q rfl (q_add64 rfl rfl rfl (by omega)) rfl rfl ?_
    refine l_q rfl (q_assign rfl rfl) rfl rfl ?_
    refine l_nil ?_
    refine k_then ?_
    refine c_seq ?_
    refine c_region _ rfl ?_
    refine l_q rfl (q_move rfl rfl) rfl rfl ?_
    refine l_q rfl (q_assign rfl rfl) rfl rfl ?_
    refine l_nil ?_
    refine k_then ?_
    refine c_ret ?_
    refine r_one rfl rfl ?_
    exact fun _ q => ⟨(), congrArg (fun z => Ending.returned (Value.int .i64 z)) (by rw [← h3, if_pos h]), trivial, q.nothing⟩
  · try simp only [decide_eq_true_eq, decide_eq_false_iff_not, Bool.not_eq_true', Bool.not_eq_false'] at h
    refine c_false rfl ?_
    refine c_skip ?_
    refine k_then ?_
    refine c_seq ?_
    refine c_region _ rfl ?_
    refine l_q rfl (q_move rfl rfl) rfl rfl ?_
    refine l_q rfl (q_assign rfl rfl) rfl rfl ?_
    refine l_nil ?_
    refine k_then ?_
    refine c_ret ?_
    refine r_one rfl rfl ?_
    exact fun _ q => ⟨(), congrArg (fun z => Ending.returned (Value.int .i64 z)) (by rw [← h3, if_neg h]), trivial, q.nothing⟩
set_option maxRecDepth 100000 in
set_option maxHeartbeats 1000000 in
theorem rof_spec (s : ByteArray) (hs : s.size ≤ 8) : Con Try.prog 30 [.string s] (fun _ => True) [] (fun _ : Unit => .tuple #[.agg (kof s hs).c.toArray, .int .i64 0]) (fun _ => True) (fun _ => []) := by
  intro w hE hH
  refine enter (n := 27) (vs := [.string s]) (St w [] []) Try.func30 rfl rfl rfl (St.init hH) ?_
  refine c_seq ?_
  refine c_region _ rfl ?_
  refine l_e rfl ?_
  refine e_alloc rfl rfl rfl Try.zeroValue25 ?_
  intro br
  refine cells_eq (show _ = (kv0 8).c from rfl) ?_
  refine l_q rfl (q_assign rfl rfl) rfl rfl ?_
  refine l_nil ?_
  refine k_then ?_
  refine c_seq ?_
  refine c_region _ rfl ?_
  refine l_q rfl (q_build ((kv0 8).c) rfl rfl (fun w => by kernel_rfl)) rfl rfl ?_
  refine l_e rfl ?_
  refine e_alloc rfl rfl rfl Try.zeroValue25 ?_
  intro bk
  refine cells_eq (show _ = (kv0 8).c from rfl) ?_
  refine l_e rfl ?_
  refine e_storeAgg rfl rfl Try.sizeOf25 rfl rfl (Kv.c_len _) (Kv.one _) (by simp only [Kv.c_len]; decide) ?_
  refine cells_eq (show _ = (kv0 8).c from Sep.splice_all (by simp only [Kv.c_len])) ?_
  refine l_nil ?_
  refine k_then ?_
  refine c_seq ?_
  refine c_seq ?_
  refine c_region _ rfl ?_
  refine l_q rfl (q_move rfl rfl) rfl rfl ?_
  refine l_q rfl (q_lenS rfl Try.underlying9 rfl) rfl rfl ?_
  refine l_q rfl (q_gtr rfl rfl rfl) rfl rfl ?_
  refine l_nil ?_
  refine k_then ?_
  refine Pre.setB (t := 9) (c := false) rfl (decide_eq_false (by omega)) ?_
  refine c_false rfl ?_
  refine c_skip ?_
  refine k_then ?_
  refine c_seq ?_
  refine c_region _ rfl ?_
  refine l_q rfl (q_move rfl rfl) rfl rfl ?_
  refine l_q rfl (q_lenS rfl Try.underlying9 rfl) rfl rfl ?_
  refine l_q rfl (q_fieldAddr rfl Try.underlying25 rfl Try.sizeOf3 rfl rfl) rfl rfl ?_
  refine l_e rfl ?_
  refine e_store rfl rfl Try.sizeOf3 rfl rfl rfl (by rw [Kv.c_len]; decide) ?_
  refine cells_eq (show _ = (kpre s s.size (wf_n8 (by omega)) 0 (by omega)).c from kpre_zero s s.size (wf_n8 (by omega))) ?_
  refine l_nil ?_
  refine k_then ?_
  refine c_seq ?_
  refine c_seq ?_
  refine c_region _ rfl ?_
  refine l_q rfl (q_assign rfl rfl) rfl rfl ?_
  refine l_nil ?_
  refine k_then ?_
  refine c_block ?_
  refine pull1 ?_
  refine pull1 ?_
  refine c_loop1 (fun (i : Nat) => [(0, .string s), (2, .pointer (some ⟨br, 0, none⟩)), (4, .pointer (some ⟨bk, 0, none⟩)), (5, .int .i64 (i : Int)), (3, .int .i64 0)]) (fun (i : Nat) => St w [] [cellsE bk 25 (kpre s s.size (wf_n8 (by omega)) (min i 8) (by omega)).c, cellsE br 25 (kv0 8).c]) (fun (i : Nat) => i ≤ s.size) (fun (i : Nat) => s.size - i) (0) (Nat.zero_le _) (Sub.cons rfl (Sub.cons rfl (Sub.cons rfl (Sub.cons rfl (Sub.cons rfl (Sub.nil)))))) (fun _ h => h) ?_
  intro i hi
  refine c_seq ?_
  refine c_seq ?_
  have hm8 : min i 8 = i := by omega
  simp only [hm8]
  refine c_region _ rfl ?_
  refine l_q rfl (q_move rfl rfl) rfl rfl ?_
  refine l_q rfl (q_move rfl rfl) rfl rfl ?_
  refine l_q rfl (q_lenS rfl Try.underlying9 rfl) rfl rfl ?_
  refine l_q rfl (q_lss rfl rfl rfl) rfl rfl ?_
  refine l_nil ?_
  refine k_then ?_
  refine Pre.caseB 17 rfl (fun hil => ?_) (fun hil => ?_)
  · try simp only [decide_eq_true_eq, decide_eq_false_iff_not, Bool.not_eq_true', Bool.not_eq_false'] at hil
    obtain ⟨b, hb⟩ := str_at (s := s) (i := i) (by omega)
    refine c_true rfl ?_
    refine c_skip ?_
    refine k_then ?_
    refine c_seq ?_
    refine c_block ?_
    refine c_region _ rfl ?_
    refine l_q rfl (q_move rfl rfl) rfl rfl ?_
    refine l_q rfl (q_move rfl rfl) rfl rfl ?_
    refine l_q rfl (q_move rfl rfl) rfl rfl ?_
    refine l_q rfl (q_indexS i _ rfl Try.underlying9 rfl rfl rfl hb) rfl rfl ?_
    refine l_q rfl (q_fieldAddr rfl Try.underlying25 rfl Try.sizeOf23 rfl rfl) rfl rfl ?_
    refine l_q rfl (q_indexArr i rfl Try.underlying23 Try.sizeOf5 rfl rfl rfl (by omega)) rfl rfl ?_
    refine l_e rfl ?_
    refine e_store rfl rfl Try.sizeOf5 rfl rfl rfl (by rw [Kv.c_len]; show 1 + i * 1 < 8 + 1; omega) ?_
    refine cells_eq (show _ = (kpre s s.size (wf_n8 (by omega)) (i + 1) (by omega)).c from kpre_set hb (by omega)) ?_
    refine l_nil ?_
    refine k_block ?_
    refine k_then ?_
    refine c_region _ rfl ?_
    refine l_q rfl (q_move rfl rfl) rfl rfl ?_
    refine l_q rfl (q_inc rfl rfl rfl (by omega)) rfl rfl ?_
    refine l_q rfl (q_assign rfl rfl) rfl rfl ?_
    refine l_nil ?_
    have hm9 : min (i + 1) 8 = i + 1 := by omega
    exact k_round (i + 1) (by omega) (by omega) (Sub.cons rfl (Sub.cons rfl (Sub.cons rfl (Sub.cons rfl (Sub.cons rfl (Sub.nil)))))) (fun _ h => by simp only [hm9]; exact h)
  · try simp only [decide_eq_true_eq, decide_eq_false_iff_not, Bool.not_eq_true', Bool.not_eq_false'] at hil
    have hie : i = s.size := by omega
    subst hie
    refine c_false rfl ?_
    refine c_exit ?_
    refine k_then_exit ?_
    refine k_then_exit ?_
    refine k_block_exit ?_
    refine k_then ?_
    refine c_seq ?_
    refine c_region _ rfl ?_
    refine l_q rfl (q_loadCAgg ((kof s hs).c) rfl Try.isAgg25 Try.sizeOf25 rfl (fun _ h => h.at 0 rfl) (kv_whole _) (Kv.c_len _)) rfl rfl ?_
    refine pull1 ?_
    refine l_e rfl ?_
    refine e_storeAgg rfl rfl Try.sizeOf25 rfl rfl (Kv.c_len _) (Kv.one _) (by simp only [Kv.c_len, Ms.c_len]; decide) ?_
    refine cells_eq (show _ = (kof s hs).c from Sep.splice_all (by simp only [Kv.c_len, Ms.c_len])) ?_
    refine l_q rfl (q_assign rfl rfl) rfl rfl ?_
    refine l_nil ?_
    refine k_then ?_
    refine c_ret ?_
    refine r_res2 rfl (res_cellA rfl Try.isAgg25 Try.sizeOf25 (fun _ h => h.at 0 rfl) (Kv.c_len _)) (show Sep.look _ _ = some _ from rfl) ?_
    exact fun _ h => ⟨(), rfl, trivial, h.nothing⟩
theorem rof_ex (s : ByteArray) (hs : s.size ≤ 8) : Con Try.prog 30 [.string s] (fun _ => True) [] (fun k : Kv 8 => .tuple #[.agg k.c.toArray, .int .i64 0]) (fun k => kck k = true ∧ k.n = (s.size : Int)) (fun _ => []) := fun w hE hH =>
  (rof_spec s hs w hE hH).mono (fun e w' ⟨_, he, _, h⟩ => ⟨kof s hs, he, ⟨kof_ck s hs, rfl⟩, h⟩)
end Go.Proofs.Ytmnokoepimhelaa
